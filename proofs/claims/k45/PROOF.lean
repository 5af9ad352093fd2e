import PyProof.Rows.All
import Wide.All
import OpenK.AllK
import HandS.ForMost
import HandS.SetFor
import Wide.FinOn
import HandS.ForExc
import HandS.More
import HandS.TupAny
import HandS.Conv
import HandS.Strs
import HandS.Zip
import HandS.Star
import HandS.IsInst
import HandS.TupMul
import HandS.Wide
import HandS.WideMore
import HandS.Flow
import HandS.Deep
import HandS.Exc
import HandS.HeadHook1
import HandS.Lambda
import HandS.WideBits
import HandS.TupLe
import HandS.Walk
import HandS.Defaults
import HandS.HeadHook2
import KE.GoesEnum
import KE.GoesMore
import HandS.HeadEnd
import HandS.TryMany
import KE.SortData
import HandS.TupSets
import HandS.SortInts
import KE.KExcIs
import HandS.ExcIs
import HandS.ExcValue
import KE.DataFind
import PyProof.SetRoads
import KE.DataMinMax
import HandS.DictTup
import KE.KDictOf
import KE.KDictCopyH
import HandS.DictComp
import KE.KDictSum
import HandS.WordsDict
import HandS.Style
import KE.KDictZip
import KE.KTabLook
import KE.KStateDown
import HandS.Base
import HandS.Call
import HandS.Ends
import HandS.Words
import HandS.WordsExc
import HandS.Head0
import HandS.Head1
import HandS.Head2
import PySem.Challenge.RW_whererules_k45_whole_fixes
set_option Elab.async false
set_option linter.all false
set_option maxRecDepth 100000
set_option maxHeartbeats 8000000
namespace PySem
namespace DLSet
open L2 PyProof.Rows
abbrev emp (w : World) : Obj := { cls := .type "set", dict := none, data := .set #[] 0 (.fresh 0 0 (!w.params.followText "set-order")) }
section
variable {P : Program} {w : World} {A : Around} {E : Value → Shared → Prop} {s : Shared}
theorem set_of_list {l : Addr} {items : Array Value} (ns : List Int) {Q : Value → Shared → Prop} (hh : A.handled = none) (hl : s.heap.IsList l items) (hit : IntsAre items.toList ns) (hb : ns.length + 1 < scanBound)
    (h : ∀ (h' : Heap) (tk c : Nat), SetR w h' s.heap.objs.size (fun j => decide (j ∈ ns)) c → c ≤ ns.length → (∀ b o, s.heap.get? b = some o → h'.get? b = some o) → Q (.ref s.heap.objs.size) { s with heap := h', toks := tk }) :
    wpAny (model P w) A (call (.type "set") [.ref l]) Q E s := by
  have size_eq : items.size = ns.length := by simpa using IntsAre.length hit
  obtain ⟨c, tl, hmro⟩ := F.called_set.mro
  have hmade := F.called_set.made
  have hsub := F.called_set.sub
  apply wpAny_call
  apply codeAny_of_tree
  show wpAny _ _ (callAny (.type "set") _) _ _ _
  apply wpAny_pure
  refine ⟨Code.quiet_builtin _ (by decide +kernel), ?_⟩
  apply codeAny_builtin F.entry_type_call
  rw [Around.under_plain (weight_type_call_type "set" [.ref l] []) rfl]
  have h1 := F.called_set.notType
  have h2 := F.called_set.canCreate
  have hct := F.typeCall_set_1 (.ref l)
  repeat (any_goals (first | assumption | wp_step))
  refine codeAny_mono (code_set_led1 (.ref l) (E := E) (Q₁ := fun ob s1 => ob = .ref s.heap.objs.size ∧ s1 = { s with heap := s.heap.push (emp w) }) ⟨rfl, rfl⟩) ?_
  intro r s1 hr
  cases r with
  | error e => exact hr
  | ok fl =>
    cases fl with
    | ret ob =>
      obtain ⟨rfl, rfl⟩ := hr
      have hS : (s.heap.push (emp w)).get? s.heap.objs.size = some (emp w) := Heap.get?_push_size _ rfl
      have hT : Shared.TypeIs { s with heap := s.heap.push (emp w) } (.ref s.heap.objs.size) "set" := ⟨_, hS, rfl⟩
      have hli := F.called_set.init.lookup
      have hbi := F.called_set.init.bind (.ref s.heap.objs.size)
      repeat (any_goals (first | assumption | wp_step))
      refine codeAny_mono (codeAny_call_builtin (R := wants (fun r s2 => r = .none ∧ ∃ h' tk c, s2 = { s with heap := h', toks := tk } ∧ SetR w h' s.heap.objs.size (fun j => decide (j ∈ ns)) c ∧ c ≤ ns.length ∧
          (∀ b o, s.heap.get? b = some o → h'.get? b = some o)) E) F.called_set.init.plain F.entry_set_init (check_set_init_1 hT ?_)) ?_
      · obtain ⟨ol, hol, hcl, nl, hdl⟩ := hl
        obtain ⟨ocls, odict, odata, oslots⟩ := ol
        simp only at hcl hdl
        subst hcl
        subst hdl
        have hol1 : (s.heap.push (emp w)).get? l = some { cls := .type "list", dict := odict, data := .seq items nl, slots := oslots } := Heap.get?_push_of_some _ hol
        have hsls := F.sub_list_set
        have hslf := F.sub_list_frozenset
        have hne : (Value.type "list" == Value.type "dict") = false := by decide
        have hl1 : (s.heap.push (emp w)).IsList l items := ⟨_, hol1, rfl, nl, rfl⟩
        unfold Builtin.«set.__init__» noKeywords Builtin.Frozenset.updateFrom
        generalize hPI : pyIter = PI
        wp_walk
        subst hPI
        refine wpAny_pyIter_list hl1 ?_
        refine wpAny_bind (wpAny_runValue ?_)
        have lt : l < s.heap.objs.size := Heap.lt_size hol
        have calm3 : A.in1.in1.in1.handled = none := by simp [hh]
        have sz : (s.heap.push (emp w)).objs.size = s.heap.objs.size + 1 := Heap.size_push ..
        have apart : l ≠ (s.heap.push (emp w)).objs.size := by rw [sz]; exact Nat.ne_of_lt (Nat.lt_succ_of_lt lt)
        have free : s.heap.objs.size ∉ [(s.heap.push (emp w)).objs.size, l] := by
          rw [sz]
          simp only [List.mem_cons, List.not_mem_nil, or_false, not_or]
          exact ⟨Nat.ne_of_lt (Nat.lt_succ_self _), Nat.ne_of_gt lt⟩
        have val : ∀ (i : Nat) (v : Value), items[i]? = some v → ∃ k t, ns[i]? = some k ∧ v = .int k t := by
          intro i v hv
          have hi : i < ns.length := by rw [← size_eq]; exact (Array.getElem?_eq_some_iff.mp hv).1
          obtain ⟨t, e⟩ := PyProof.Rows.IntsAre.int_at hit i v (by rw [Array.getElem?_toList]; exact hv)
          refine ⟨ns[i], t, List.getElem?_eq_getElem hi, ?_⟩
          rw [e, List.getD_eq_getElem?_getD, List.getElem?_eq_getElem hi]
          rfl
        refine set_update_ints ((Walks.list calm3 _ l apart items).toS) s.heap.objs.size free ns size_eq hb val (items.size - 0) 0 _ (by omega) (Nat.zero_le _)
          ⟨⟨_, Heap.get?_push_size _ rfl, rfl, rfl⟩, (hl1.push _)⟩ ?hA ?hB
        case hA => exact ⟨0, Nat.le_refl 0, setR_new_at (Heap.get?_push_of_some _ hS)⟩
        case hB =>
          intro s' c' mv hc' hS'
          obtain ⟨h', g2, d', tk', os'⟩ := s'
          obtain rfl : g2 = s.gens := mv.gens
          obtain rfl : d' = s.drawn := mv.drawn
          obtain rfl : os' = s.os := mv.os
          show wpAny _ _ _ _ _ _
          apply wpAny_pure
          show wpAny _ _ (ret Value.none) _ _ _
          rw [size_eq] at hc'
          refine wpAny_pure ⟨rfl, h', tk', c', rfl, hS', hc', fun b o e => ?_⟩
          have hb0 : b < s.heap.objs.size := Heap.lt_size e
          refine mv.heap b o ?_ (Heap.get?_push_of_some _ (Heap.get?_push_of_some _ e))
          rw [sz]
          simp only [List.mem_cons, List.not_mem_nil, or_false, not_or]
          exact ⟨Nat.ne_of_lt hb0, Nat.ne_of_lt (Nat.lt_succ_of_lt hb0)⟩
      · intro r2 s2 hr2
        cases r2 with
        | error e => exact hr2
        | ok fl2 =>
          cases fl2 with
          | ret v2 =>
            obtain ⟨rfl, h', tk, c, rfl, hS', hc', hk⟩ := hr2
            repeat (any_goals (first | assumption | wp_step))
            exact h h' tk c hS' hc' hk
          | _ => exact hr2.elim
    | _ => exact hr.elim
end
end DLSet
end PySem
set_option maxHeartbeats 4000000
namespace DL
open PySem PySem.Spec PyProof.Rows L2
/-! ## data by value -/
structure Cas where
  cols : List (Option (List Int))
  n : Nat
  lab : List Nat
  facts : List (List Int)
inductive D where
  | non | bl (b : Bool) | int (i : Int) | str (x : Str) | lst (xs : List D) | tup (xs : List D) | cas (c : Cas) | dct (m : List (Key × Int))
inductive DV where
  | dat (d : D) | obj (k : Nat) | scr (ns : List Int) | exn (c : Str) (p : Option (Str × D)) | fn (x : Str)
abbrev zaf := List (Option (List D))
abbrev zat := List (Option DV)
structure XC where
  cls : Str
  pay : Option (Str × D)
instance : Coe Str XC := ⟨fun c => ⟨c, none⟩⟩
inductive Res (α : Type) where
  | ok (a : α) (S : zaf) | ex (c : XC) (S : zaf) | bad
def Res.bind {α β : Type} (r : Res α) (f : α → zaf → Res β) : Res β := match r with
  | .ok a S => f a S
  | .ex c S => .ex c S
  | .bad => .bad
@[simp] theorem Res.bind_ok {α β : Type} (a : α) (S : zaf) (f : α → zaf → Res β) : (Res.ok a S).bind f = f a S := rfl
@[simp] theorem Res.bind_ex {α β : Type} (c : XC) (S : zaf) (f : α → zaf → Res β) : (Res.ex c S : Res α).bind f = .ex c S := rfl
@[simp] theorem Res.bind_bad {α β : Type} (f : α → zaf → Res β) : (Res.bad : Res α).bind f = .bad := rfl
def ColV (K : PySem.W.Frag) (F : Hp) : V → Option (List Int) → Prop
  | v, none => v = .non
  | v, some ns => ∃ a, v = .ref a ∧ SqT K F a (ns.map V.int)
def ColVs (K : PySem.W.Frag) (F : Hp) : List V → List (Option (List Int)) → Prop
  | [], [] => True
  | v :: vs, c :: cs => ColV K F v c ∧ ColVs K F vs cs
  | _, _ => False
def zcr (n m : Nat) : List (List Key) := (List.range n).flatMap fun r => (List.range m).map fun c => [Sum.inl ((r : Nat) : Int), Sum.inl ((c : Nat) : Int)]
structure CasK (K : PySem.W.Frag) : Prop where
  cl : Cls K (He.ga K "Case")
  na : ∀ f : Str, f ∈ (["columns", "count", "labels", "facts"] : List Str) → NoAttr K (He.ga K "Case") f
  ha : PySem.W.findIn K (.ref (He.ga K "Case")) "__class__" = some (some (.builtin "object.__class__"))
  hn : PySem.W.specialIn K (.builtin "object.__class__") "__get__" = some (some (.builtin "getset_descriptor.__get__"))
  htk : PySem.W.takesIn K (.builtin "object.__class__") = some true
  hm : PySem.W.mroIn K (He.ga K "Case") (.type "object") = some true
  kit : ∀ T : String, T ∈ ["int", "bool", "tuple", "list", "str"] → PySem.W.kitOne K (.ref (He.ga K "Case")) (.type T) = some false
structure CasAt (K : PySem.W.Frag) (F : Hp) (a : Addr) (c : Cas) : Prop where
  kit : CasK K
  of : ∃ (dx ca la fa : Addr) (fs : Nat → Addr) (cv : List V) (lo fo : Obj),
    F a = some (.ins (He.ga K "Case") dx [("columns", .ref ca), ("count", .int (c.n : Nat)), ("labels", .ref la), ("facts", .ref fa)]) ∧ F dx = some (.own a) ∧
    SqT K F ca cv ∧ ColVs K F cv c.cols ∧ c.lab.length = c.n * c.cols.length ∧ c.facts.length = c.n * c.cols.length ∧ (∀ l ∈ c.lab, l < c.facts.length) ∧
    F la = some (.frz lo (.dT ((zcr c.n c.cols.length).zip (c.lab.map fun l => V.int (l : Nat))))) ∧
    F fa = some (.frz fo (.dK ((List.range c.facts.length).map fun i => (Sum.inl ((i : Nat) : Int), V.ref (fs i))))) ∧
    ∀ i, i < c.facts.length → F (fs i) = some (.lst ((c.facts.getD i []).map V.int))
mutual
inductive Wd (K : PySem.W.Frag) (F : Hp) : V → D → Prop
  | non : Wd K F .non .non
  | bl (b : Bool) : Wd K F (.bl b) (.bl b)
  | int (i : Int) : Wd K F (.int i) (.int i)
  | str (x : Str) : Wd K F (.str x) (.str x)
  | lst {a : Addr} {vs : List V} {ds : List D} : F a = some (.lst vs) → WdA K F vs ds → Wd K F (.ref a) (.lst ds)
  | tup {a : Addr} {vs : List V} {ds : List D} : SqT K F a vs → WdA K F vs ds → Wd K F (.ref a) (.tup ds)
  | cas {a : Addr} {c : Cas} : CasAt K F a c → Wd K F (.ref a) (.cas c)
  | dct {a : Addr} {m : List (Key × Int)} {o : Obj} : F a = some (.frz o (.dK (m.map fun p => (p.1, V.int p.2)))) → Wd K F (.ref a) (.dct m)
inductive WdA (K : PySem.W.Frag) (F : Hp) : List V → List D → Prop
  | nil : WdA K F [] []
  | cons {v : V} {vs : List V} {d : D} {ds : List D} : Wd K F v d → WdA K F vs ds → WdA K F (v :: vs) (d :: ds)
end
section
variable {K : PySem.W.Frag} {F F' : Hp}
theorem zc7 (e : Same F F') {a : Addr} {xs : List V} (h : SqT K F a xs) : SqT K F' a xs := by
  rcases h with (h | ⟨o, h⟩) | h
  · exact .inl (.inl (e _ _ h))
  · exact .inl (.inr ⟨o, e _ _ h⟩)
  · exact .inr h
theorem ColV.mono (e : Same F F') {v : V} : ∀ {c : Option (List Int)}, ColV K F v c → ColV K F' v c
  | none, h => h
  | some _, ⟨a, h1, h2⟩ => ⟨a, h1, zc7 e h2⟩
theorem ColVs.mono (e : Same F F') : ∀ {vs : List V} {cs : List (Option (List Int))}, ColVs K F vs cs → ColVs K F' vs cs
  | [], [], _ => trivial
  | _ :: _, _ :: _, ⟨h1, h2⟩ => ⟨h1.mono e, ColVs.mono e h2⟩
theorem CasAt.mono (e : Same F F') {a : Addr} {c : Cas} (h : CasAt K F a c) : CasAt K F' a c := by
  obtain ⟨dx, ca, la, fa, fs, cv, lo, fo, h1, h2, h3, h4, h5, h6, h7, h8, h9, h10⟩ := h.of
  exact ⟨h.kit, dx, ca, la, fa, fs, cv, lo, fo, e _ _ h1, e _ _ h2, zc7 e h3, h4.mono e, h5, h6, h7, e _ _ h8, e _ _ h9, fun i hi => e _ _ (h10 i hi)⟩
mutual
theorem Wd.mono (e : Same F F') : ∀ {d : D} {v : V}, Wd K F v d → Wd K F' v d
  | .non, _, h => by cases h; exact .non
  | .bl _, _, h => by cases h; exact .bl _
  | .int _, _, h => by cases h; exact .int _
  | .str _, _, h => by cases h; exact .str _
  | .lst ds, _, h => by
    cases h with
    | lst s a => exact .lst (e _ _ s) (WdA.mono e a)
  | .tup ds, _, h => by
    cases h with
    | tup s a => exact .tup (zc7 e s) (WdA.mono e a)
  | .cas _, _, h => by
    cases h with
    | cas h => exact .cas (h.mono e)
  | .dct _, _, h => by
    cases h with
    | dct h => exact .dct (e _ _ h)
theorem WdA.mono (e : Same F F') : ∀ {ds : List D} {vs : List V}, WdA K F vs ds → WdA K F' vs ds
  | [], _, h => by cases h; exact .nil
  | d :: ds, _, h => by
    cases h with
    | cons a b => exact .cons (Wd.mono e a) (WdA.mono e b)
end
theorem WdA.length : ∀ {ds : List D} {vs : List V}, WdA K F vs ds → vs.length = ds.length
  | [], _, h => by cases h; rfl
  | d :: ds, _, h => by
    cases h with
    | cons a b => simp [WdA.length b]
theorem WdA.get : ∀ {ds : List D} {vs : List V} {i : Nat} {v : V}, WdA K F vs ds → vs[i]? = some v → ∃ d, ds[i]? = some d ∧ Wd K F v d
  | [], _, i, v, h, e => by cases h; simp at e
  | d :: ds, _, 0, v, h, e => by
    cases h with
    | cons a b => simp at e; subst e; exact ⟨d, rfl, a⟩
  | d :: ds, _, i + 1, v, h, e => by
    cases h with
    | cons a b => simp at e; obtain ⟨q, h1, h2⟩ := WdA.get b e; exact ⟨q, by simpa using h1, h2⟩
theorem WdA.get' : ∀ {ds : List D} {vs : List V} {i : Nat} {d : D}, WdA K F vs ds → ds[i]? = some d → ∃ v, vs[i]? = some v ∧ Wd K F v d
  | [], _, i, v, h, e => by simp at e
  | d :: ds, _, 0, v, h, e => by
    cases h with
    | cons a b => simp at e; subst e; exact ⟨_, rfl, a⟩
  | d :: ds, _, i + 1, v, h, e => by
    cases h with
    | cons a b => simp at e; obtain ⟨q, h1, h2⟩ := WdA.get' b e; exact ⟨q, by simpa using h1, h2⟩
theorem WdA.append : ∀ {ds es : List D} {vs us : List V}, WdA K F vs ds → WdA K F us es → WdA K F (vs ++ us) (ds ++ es)
  | [], _, _, _, h, g => by cases h; exact g
  | d :: ds, _, _, _, h, g => by
    cases h with
    | cons a b => exact .cons a (WdA.append b g)
theorem WdA.take : ∀ {ds : List D} {vs : List V} (n : Nat), WdA K F vs ds → WdA K F (vs.take n) (ds.take n)
  | _, _, 0, _ => by simp; exact .nil
  | [], _, n + 1, h => by cases h; exact .nil
  | d :: ds, _, n + 1, h => by
    cases h with
    | cons a b => exact .cons a (WdA.take n b)
theorem WdA.drop : ∀ {ds : List D} {vs : List V} (n : Nat), WdA K F vs ds → WdA K F (vs.drop n) (ds.drop n)
  | _, _, 0, h => by simpa using h
  | [], _, n + 1, h => by cases h; exact .nil
  | d :: ds, _, n + 1, h => by
    cases h with
    | cons a b => simpa using WdA.drop n b
theorem WdA.set : ∀ {ds : List D} {vs : List V} (n : Nat) {v : V} {d : D}, WdA K F vs ds → Wd K F v d → WdA K F (vs.set n v) (ds.set n d)
  | [], _, _, _, _, h, _ => by cases h; exact .nil
  | d :: ds, _, 0, _, _, h, g => by
    cases h with
    | cons a b => exact .cons g b
  | d :: ds, _, n + 1, _, _, h, g => by
    cases h with
    | cons a b => exact .cons a (WdA.set n b g)
end
/-! ## how a state of the layer L2 is worth slots and a store -/
def ExK (K : PySem.W.Frag) (c : Str) (d : Option Addr) (a : Addr) : HO := .ext fun h => ∃ (oe : Obj) (vs : Array Value), h.get? a = some oe ∧ Zc (.ref (He.ga K c)) d oe ∧ oe.data = .fields vs
def WExn (K : PySem.W.Frag) (F : Hp) (a : Addr) (c : Str) : Option (Str × D) → Prop
  | none => F a = some (ExK K c none a)
  | some (f, y) => ∃ (dx : Addr) (v : V), F a = some (ExK K c (some dx) a) ∧ F dx = some (.xd [(f, v)]) ∧ Wd K F v y
theorem WExn.mono {K : PySem.W.Frag} {F F' : Hp} {a : Addr} {c : Str} {p : Option (Str × D)} (sm : Same F F') (h : WExn K F a c p) : WExn K F' a c p := by
  cases p with
  | none => exact sm _ _ h
  | some q =>
    obtain ⟨f, y⟩ := q
    obtain ⟨dx, v, h1, h2, h3⟩ := h
    exact ⟨dx, v, sm _ _ h1, sm _ _ h2, h3.mono sm⟩
def XPay (K : PySem.W.Frag) (F : Hp) (d : Option Addr) : Option (Str × D) → Prop
  | none => d = none
  | some (f, y) => ∃ (dx : Addr) (v : V), d = some dx ∧ F dx = some (.xd [(f, v)]) ∧ Wd K F v y
def XIs (K : PySem.W.Frag) (mg : Str → Option Value) (F : Hp) (c : XC) (C : Addr × Option Addr) : Prop := mg c.cls = some (.ref C.1) ∧ XPay K F C.2 c.pay
def WV (K : PySem.W.Frag) (ι : List Addr) (F : Hp) (v : V) : DV → Prop
  | .dat d => Wd K F v d
  | .obj k => ∃ a, ι[k]? = some a ∧ v = .ref a
  | .scr ns => ∃ a, v = .ref a ∧ SqL K F a (ns.map V.int)
  | .exn c p => ∃ a, v = .ref a ∧ WExn K F a c p
  | .fn x => v = .ref (He.ga K x)
inductive WVs (K : PySem.W.Frag) (ι : List Addr) (F : Hp) : List V → List DV → Prop
  | nil : WVs K ι F [] []
  | cons {v : V} {vs : List V} {d : DV} {ds : List DV} : WV K ι F v d → WVs K ι F vs ds → WVs K ι F (v :: vs) (d :: ds)
def NoTb (o : HO) : Prop := ∀ ps, o ≠ .tbl ps
def lamNs : List Str := ["_law_sets", "find_cheapest", "find_tree", "_law_other_rule"]
def lamQ (x : Str) : Str := (x ++ ".<locals>.") ++ "<lambda>"
def tabOf (K : PySem.W.Frag) (x : Str) : List Addr := match K.lookup (He.ga K x) with
  | some ⟨_, _, .func fd, _⟩ => (match (fd.code : Value) with
    | .ref c => (match K.lookup c with
      | some ⟨_, _, .fields vs, _⟩ => (match (vs.toList[11]? : Option Value) with
        | some (.ref P) => [P]
        | _ => [])
      | _ => [])
    | _ => [])
  | _ => []
def tabsP (K : PySem.W.Frag) : List (Addr × Str) := lamNs.flatMap fun x => (tabOf K x).map fun P => (P, lamQ x)
def zdr (K : PySem.W.Frag) : List Addr := (tabsP K).map (·.1)
def TbsOk (K : PySem.W.Frag) (H : Hp) : Prop := ∀ p ∈ tabsP K, LamX.TabS H p.1 p.2
theorem TbsOk.at_ {K : PySem.W.Frag} {H : Hp} (t : TbsOk K H) {P : Addr} (h : P ∈ zdr K) : ∃ ps, H P = some (.tbl ps) := by
  obtain ⟨p, hp, rfl⟩ := List.mem_map.mp h
  obtain ⟨ps, h1, _⟩ := t p hp
  exact ⟨ps, h1⟩
theorem TbsOk.ext {K : PySem.W.Frag} {H H' : Hp} (t : TbsOk K H) (e : ∀ b o, H b = some o → ((∃ ps, o = .tbl ps) ∨ ∃ φ, o = .ext φ) → H' b = some o) : TbsOk K H' := fun P hP => by
  obtain ⟨ps, h1, h2, h3⟩ := t P hP
  refine ⟨ps, e _ _ h1 (.inl ⟨_, rfl⟩), h2, fun pos cv hc => ?_⟩
  obtain ⟨c, e1, e2⟩ := h3 pos cv hc
  exact ⟨c, e1, e _ _ e2 (.inr ⟨_, rfl⟩)⟩
theorem TbsOk.upd {K : PySem.W.Frag} {H : Hp} (t : TbsOk K H) {p : Addr} (n : ∀ o, H p = some o → (∀ ps, o ≠ .tbl ps) ∧ ∀ φ, o ≠ .ext φ) (u : HO) : TbsOk K (upd H p u) := t.ext fun b o e h => by
  rw [upd_ne (fun z => by
    rw [z] at e
    obtain ⟨n1, n2⟩ := n o e
    rcases h with ⟨ps, h⟩ | ⟨φ, h⟩
    · exact n1 ps h
    · exact n2 φ h)]
  exact e
theorem TbsOk.new {K : PySem.W.Frag} {H : Hp} (t : TbsOk K H) {p : Addr} (n : H p = none) (u : HO) : TbsOk K (L2.upd H p u) := t.upd (fun o e => by rw [n] at e; cases e) u
theorem TbsOk.lst {K : PySem.W.Frag} {H : Hp} (t : TbsOk K H) {p : Addr} {xs : List V} (n : H p = some (.lst xs)) (u : HO) : TbsOk K (L2.upd H p u) := t.upd (fun o e => by rw [n] at e; cases e; exact ⟨fun _ z => (by cases z), fun _ z => (by cases z)⟩) u
theorem TbsOk.off {K : PySem.W.Frag} {F H : Hp} (t : TbsOk K H) (tf : ∀ P ∈ zdr K, F P = none) {p : Addr} (n : ∀ ps, H p ≠ some (.tbl ps)) (u : HO) : ∀ P ∈ zdr K, L2.upd F p u P = none := fun P hP => by
  obtain ⟨ps, h1⟩ := t.at_ hP
  rw [upd_ne (fun z => n ps (by rw [← z]; exact h1))]
  exact tf P hP
structure StR (K : PySem.W.Frag) (ι : List Addr) (F : Hp) (S : zaf) (H : Hp) : Prop where
  sub : Same F H
  len : ι.length = S.length
  nd : ι.Nodup
  full : ∀ b ∈ ι, H b ≠ none
  cell : ∀ (k : Nat) (ds : List D), S[k]? = some (some ds) → ∃ a vs, ι[k]? = some a ∧ H a = some (.lst vs) ∧ F a = none ∧ WdA K F vs ds
  tb : TbsOk K H
  tf : ∀ P ∈ zdr K, F P = none
structure RR (K : PySem.W.Frag) (ι : List Addr) (F : Hp) (ρ : zat) (S : zaf) (σ : L2.St) (H : Hp) : Prop where
  st : StR K ι F S H
  len : ρ.length = σ.length
  slot : ∀ (i : Nat) (dv : DV), ρ[i]? = some (some dv) → ∃ v, σ[i]? = some (some v) ∧ WV K ι F v dv
def NoT (o : HO) : Prop := ∀ xs, o ≠ .tup xs
structure Grow (ι : List Addr) (F H : Hp) (ι' : List Addr) (F' H' : Hp) : Prop where
  pre : ι <+: ι'
  sf : Same F F'
  keep : ∀ b o, H b = some o → NoTb o → b ∉ ι → H' b = some o
  new : ∀ b o, H b = some o → NoT o → NoTb o → F b = none → b ∉ ι → F' b = none
  nio : ∀ b ∈ ι', b ∈ ι ∨ H b = none
  dom : ∀ b, H' b = none → H b = none
theorem Grow.refl {ι : List Addr} {F H : Hp} : Grow ι F H ι F H := ⟨List.prefix_rfl, Same.refl _, fun _ _ h _ _ => h, fun _ _ _ _ _ h _ => h, fun _ h => .inl h, fun _ h => h⟩
theorem zc9 {H : Hp} {p b : Addr} {o : HO} (h : upd H p o b = none) : H b = none := by
  by_cases e : b = p
  · subst e; rw [upd_same] at h; cases h
  · rw [upd_ne e] at h; exact h
theorem zly {H : Hp} {p b : Addr} {o : HO} (h : H b ≠ none) : upd H p o b ≠ none := fun z => h (zc9 z)
theorem Grow.trans {ι ι1 ι2 : List Addr} {F F1 F2 H H1 H2 : Hp} (a : Grow ι F H ι1 F1 H1) (b : Grow ι1 F1 H1 ι2 F2 H2) : Grow ι F H ι2 F2 H2 := by
  have out : ∀ c o, H c = some o → c ∉ ι → c ∉ ι1 := fun c o h n m => by
    rcases a.nio c m with q | q
    · exact n q
    · rw [h] at q; cases q
  refine ⟨a.pre.trans b.pre, a.sf.trans b.sf, fun c o h t n => b.keep c o (a.keep c o h t n) t (out c o h n), fun c o h t t2 f n => b.new c o (a.keep c o h t2 n) t t2 (a.new c o h t t2 f n) (out c o h n), fun c m => ?_, fun c h => a.dom c (b.dom c h)⟩
  rcases b.nio c m with q | q
  · exact a.nio c q
  · by_cases n : c ∈ ι
    · exact .inl n
    · cases e : H c with
      | none => exact .inr rfl
      | some o => rw [a.dom c q] at e; cases e
theorem WV.grow {K : PySem.W.Frag} {ι ι' : List Addr} {F F' H H' : Hp} (g : Grow ι F H ι' F' H') {v : V} {dv : DV} (h : WV K ι F v dv) : WV K ι' F' v dv := by
  cases dv with
  | dat d => exact Wd.mono g.sf h
  | obj k =>
    obtain ⟨a, h1, h2⟩ := h
    refine ⟨a, ?_, h2⟩
    obtain ⟨t, rfl⟩ := g.pre
    rw [List.getElem?_append_left (List.getElem?_eq_some_iff.mp h1).1]; exact h1
  | scr ns =>
    obtain ⟨a, h1, h2⟩ := h
    exact ⟨a, h1, g.sf.seq h2⟩
  | exn c p =>
    obtain ⟨a, h1, h2⟩ := h
    exact ⟨a, h1, h2.mono g.sf⟩
  | fn x => exact h
theorem WVs.grow {K : PySem.W.Frag} {ι ι' : List Addr} {F F' H H' : Hp} (g : Grow ι F H ι' F' H') {vs : List V} {ds : List DV} (h : WVs K ι F vs ds) : WVs K ι' F' vs ds := by
  induction h with
  | nil => exact .nil
  | cons a _ ih => exact .cons (a.grow g) ih
theorem WVs.length {K : PySem.W.Frag} {ι : List Addr} {F : Hp} {vs : List V} {ds : List DV} (h : WVs K ι F vs ds) : vs.length = ds.length := by
  induction h with
  | nil => rfl
  | cons _ _ ih => simp [ih]
theorem StR.push {K : PySem.W.Frag} {ι : List Addr} {F H : Hp} {S : zaf} (r : StR K ι F S H) {p : Addr} (hp : H p = none) (o : HO) : StR K ι (upd F p o) S (upd H p o) := by
  refine ⟨fun b u e => ?_, r.len, r.nd, fun b hb => zly (r.full b hb), fun k ds e => ?_, r.tb.new hp o, r.tb.off r.tf (fun ps z => by rw [hp] at z; cases z) o⟩
  · by_cases h : b = p
    · subst h; rw [upd_same] at e ⊢; exact e
    · rw [upd_ne h] at e ⊢; exact r.sub b u e
  · obtain ⟨a, vs, h1, h2, h3, h4⟩ := r.cell k ds e
    have n : a ≠ p := fun z => by rw [z, hp] at h2; cases h2
    refine ⟨a, vs, h1, by rw [upd_ne n]; exact h2, by rw [upd_ne n]; exact h3, WdA.mono (fun b u e => ?_) h4⟩
    rw [upd_ne (fun z => by rw [z] at e; rw [r.sub p u e] at hp; cases hp)]; exact e
theorem zil {F H : Hp} (s : Same F H) {p : Addr} (hp : H p = none) (o : HO) : Same F (upd F p o) := fun b u e => by
  rw [upd_ne (fun z => by rw [z] at e; rw [s p u e] at hp; cases hp)]; exact e
theorem zik {ι : List Addr} {F H : Hp} (s : Same F H) {p : Addr} (hp : H p = none) (o : HO) : Grow ι F H ι (upd F p o) (upd H p o) := by
  have n : ∀ b u, H b = some u → b ≠ p := fun b u e z => by rw [z, hp] at e; cases e
  exact ⟨List.prefix_rfl, zil s hp o, fun b u e _ _ => by rw [upd_ne (n b u e)]; exact e, fun b u e _ _ f _ => by rw [upd_ne (n b u e)]; exact f, fun b h => .inl h, fun b h => zc9 h⟩
theorem zf_ {ι : List Addr} {F H : Hp} {p : Addr} (hp : H p = none) (o : HO) : Grow ι F H ι F (upd H p o) := by
  have n : ∀ b u, H b = some u → b ≠ p := fun b u e z => by rw [z, hp] at e; cases e
  exact ⟨List.prefix_rfl, Same.refl _, fun b u e _ _ => by rw [upd_ne (n b u e)]; exact e, fun b u e _ _ f _ => f, fun b h => .inl h, fun b h => zc9 h⟩
theorem StR.alone {K : PySem.W.Frag} {ι : List Addr} {F H : Hp} {S : zaf} (r : StR K ι F S H) {p : Addr} (hp : H p = none) (o : HO) : StR K ι F S (upd H p o) := by
  have n : ∀ b u, H b = some u → b ≠ p := fun b u e z => by rw [z, hp] at e; cases e
  exact ⟨fun b u e => by rw [upd_ne (n b u (r.sub b u e))]; exact r.sub b u e, r.len, r.nd, fun b hb => zly (r.full b hb), fun k ds e =>
    let ⟨a, vs, h1, h2, h3, h4⟩ := r.cell k ds e
    ⟨a, vs, h1, by rw [upd_ne (n a _ h2)]; exact h2, h3, h4⟩, r.tb.new hp o, r.tf⟩
theorem RR.slots {K : PySem.W.Frag} {ι ι' : List Addr} {F F' H H' : Hp} {ρ : zat} {S S' : zaf} {σ : L2.St} (r : RR K ι F ρ S σ H) (g : Grow ι F H ι' F' H') (st : StR K ι' F' S' H') : RR K ι' F' ρ S' σ H' :=
  ⟨st, r.len, fun i dv e => let ⟨v, h1, h2⟩ := r.slot i dv e; ⟨v, h1, h2.grow g⟩⟩
theorem RR.push {K : PySem.W.Frag} {ι : List Addr} {F H : Hp} {ρ : zat} {S : zaf} {σ : L2.St} (r : RR K ι F ρ S σ H) {p : Addr} (hp : H p = none) (o : HO) : RR K ι (upd F p o) ρ S σ (upd H p o) :=
  r.slots (zik r.st.sub hp o) (r.st.push hp o)
end DL
set_option maxHeartbeats 4000000
namespace DL
open PySem PySem.Spec PyProof.Rows L2
/-! ## judgements -/
abbrev XFn := zat → zaf → Res DV
abbrev TFn := zat → zaf → Res Bool
abbrev AFn := zat → zaf → Res (List DV)
def Post {α : Type} (K : PySem.W.Frag) (mg : Str → Option Value) (E : XK) (ι : List Addr) (F H : Hp) (r : Res α) (Q : α → List Addr → Hp → Hp → Prop) : Prop :=
  match r with
  | .ok a S' => ∀ ι' F' H', Grow ι F H ι' F' H' → StR K ι' F' S' H' → Q a ι' F' H'
  | .ex c S' => ∀ (C : Addr × Option Addr) ι' F' H', Grow ι F H ι' F' H' → StR K ι' F' S' H' → XIs K mg F' c C → E (.ref C.1) C.2 H'
  | .bad => False
section
variable {α β : Type} {K : PySem.W.Frag} {mg : Str → Option Value} {E : XK} {ι : List Addr} {F H : Hp}
theorem Post.mono {r : Res α} {Q Q' : α → List Addr → Hp → Hp → Prop} (h : Post K mg E ι F H r Q) (k : ∀ a ι' F' H', Grow ι F H ι' F' H' → Q a ι' F' H' → Q' a ι' F' H') : Post K mg E ι F H r Q' := by
  cases r with
  | ok a S' => exact fun ι' F' H' g st => k a ι' F' H' g (h ι' F' H' g st)
  | ex c S' => exact h
  | bad => exact h
theorem Post.grow {r : Res α} {ι1 : List Addr} {F1 H1 : Hp} {Q : α → List Addr → Hp → Hp → Prop} (h : Post K mg E ι F H r Q) (g : Grow ι F H ι1 F1 H1) : Post K mg E ι1 F1 H1 r Q := by
  cases r with
  | ok a S' => exact fun ι' F' H' g' st => h ι' F' H' (g.trans g') st
  | ex c S' => exact fun C ι' F' H' g' st m => h C ι' F' H' (g.trans g') st m
  | bad => exact h
end
def tD (X : Cx) (W : WX) (f : XFn) : TE := fun σ H Q => ∃ ι F ρ S, RR X.K ι F ρ S σ H ∧ Post X.K X.mg (fun c d H' => W c d σ H') ι F H (f ρ S) fun dv ι' F' H' => ∀ v, WV X.K ι' F' v dv → Q v H'
def tT (X : Cx) (W : WX) (f : TFn) : TT := fun σ H Q => ∃ ι F ρ S, RR X.K ι F ρ S σ H ∧ Post X.K X.mg (fun c d H' => W c d σ H') ι F H (f ρ S) fun b ι' F' H' => Q b H'
def tA (X : Cx) (W : WX) (f : AFn) : TA := fun σ H Q => ∃ ι F ρ S, RR X.K ι F ρ S σ H ∧ Post X.K X.mg (fun c d H' => W c d σ H') ι F H (f ρ S) fun ds ι' F' H' => ∀ vs, WVs X.K ι' F' vs ds → Q vs H'
structure DE (X : Cx) (W : WX) (e : Expr) (f : XFn) : Prop where
  pe : PE X e (tD X W f)
structure DT (X : Cx) (W : WX) (e : Expr) (f : TFn) : Prop where
  pt : PT X e (tT X W f)
structure DW (X : Cx) (W : WX) (e : Expr) (f : TFn) : Prop where
  pw : PW X e (tT X W f)
structure DA (X : Cx) (W : WX) (es : List Expr) (f : AFn) : Prop where
  pa : PA X es (tA X W f)
section
variable {X : Cx} {W : WX} {e a b c : Expr} {es : List Expr} {pos p : Pos}
theorem PE.weak {te te' : TE} (h : PE X e te) (k : ∀ σ H Q, te' σ H Q → te σ H Q) : PE X e te' := ⟨fun pins s σ H Q I q => h.run pins s σ H Q I (k σ H Q q)⟩
theorem PT.weak {te te' : TT} (h : PT X e te) (k : ∀ σ H Q, te' σ H Q → te σ H Q) : PT X e te' := ⟨fun pins s σ H Q I q => h.run pins s σ H Q I (k σ H Q q)⟩
theorem PW.weak {te te' : TT} (h : PW X e te) (k : ∀ σ H Q, te' σ H Q → te σ H Q) : PW X e te' := ⟨fun whole pins s σ H Q I q => h.run whole pins s σ H Q I (k σ H Q q)⟩
theorem PA.weak {te te' : TA} (h : PA X es te) (k : ∀ σ H Q, te' σ H Q → te σ H Q) : PA X es te' := ⟨fun pos pins s σ H Q I q => h.run pos pins s σ H Q I (k σ H Q q)⟩
theorem tD.bind {α : Type} {f : XFn} {g : zat → DV → zaf → Res α} {σ : L2.St} {H : Hp} {R : VK} {Q : α → List Addr → Hp → Hp → Prop} {ι : List Addr} {F : Hp} {ρ : zat} {S : zaf} (r : RR X.K ι F ρ S σ H)
    (h : Post X.K X.mg (fun c d H' => W c d σ H') ι F H ((f ρ S).bind (g ρ)) Q)
    (k : ∀ v dv ι1 F1 S1 H1, RR X.K ι1 F1 ρ S1 σ H1 → WV X.K ι1 F1 v dv → Grow ι F H ι1 F1 H1 → Post X.K X.mg (fun c d H' => W c d σ H') ι1 F1 H1 (g ρ dv S1) Q → R v H1) : tD X W f σ H R := by
  refine ⟨ι, F, ρ, S, r, ?_⟩
  cases q : f ρ S with
  | ok dv S1 =>
    rw [q] at h
    exact fun ι1 F1 H1 g1 st v wv => k v dv ι1 F1 S1 H1 (r.slots g1 st) wv g1 (Post.grow (r := g ρ dv S1) h g1)
  | ex c S1 => rw [q] at h; exact h
  | bad => rw [q] at h; exact h
theorem tT.bind {α : Type} {f : TFn} {g : zat → Bool → zaf → Res α} {σ : L2.St} {H : Hp} {R : Bool → Hp → Prop} {Q : α → List Addr → Hp → Hp → Prop} {ι : List Addr} {F : Hp} {ρ : zat} {S : zaf} (r : RR X.K ι F ρ S σ H)
    (h : Post X.K X.mg (fun c d H' => W c d σ H') ι F H ((f ρ S).bind (g ρ)) Q)
    (k : ∀ b ι1 F1 S1 H1, RR X.K ι1 F1 ρ S1 σ H1 → Grow ι F H ι1 F1 H1 → Post X.K X.mg (fun c d H' => W c d σ H') ι1 F1 H1 (g ρ b S1) Q → R b H1) : tT X W f σ H R := by
  refine ⟨ι, F, ρ, S, r, ?_⟩
  cases q : f ρ S with
  | ok b S1 =>
    rw [q] at h
    exact fun ι1 F1 H1 g1 st => k b ι1 F1 S1 H1 (r.slots g1 st) g1 (Post.grow (r := g ρ b S1) h g1)
  | ex c S1 => rw [q] at h; exact h
  | bad => rw [q] at h; exact h
theorem tA.bind {α : Type} {f : AFn} {g : zat → List DV → zaf → Res α} {σ : L2.St} {H : Hp} {R : List V → Hp → Prop} {Q : α → List Addr → Hp → Hp → Prop} {ι : List Addr} {F : Hp} {ρ : zat} {S : zaf} (r : RR X.K ι F ρ S σ H)
    (h : Post X.K X.mg (fun c d H' => W c d σ H') ι F H ((f ρ S).bind (g ρ)) Q)
    (k : ∀ vs ds ι1 F1 S1 H1, RR X.K ι1 F1 ρ S1 σ H1 → WVs X.K ι1 F1 vs ds → Grow ι F H ι1 F1 H1 → Post X.K X.mg (fun c d H' => W c d σ H') ι1 F1 H1 (g ρ ds S1) Q → R vs H1) : tA X W f σ H R := by
  refine ⟨ι, F, ρ, S, r, ?_⟩
  cases q : f ρ S with
  | ok ds S1 =>
    rw [q] at h
    exact fun ι1 F1 H1 g1 st vs wv => k vs ds ι1 F1 S1 H1 (r.slots g1 st) wv g1 (Post.grow (r := g ρ ds S1) h g1)
  | ex c S1 => rw [q] at h; exact h
  | bad => rw [q] at h; exact h
/-! ## names, constants -/
def xVar (i : Nat) : XFn := fun ρ S => match ρ[i]? with
  | some (some dv) => .ok dv S
  | _ => .bad
def xC (d : D) : XFn := fun _ S => .ok (.dat d) S
theorem zaa {i : Nat} {x : Str} (hN : X.N[i]? = some x := by rfl) (hv : Vis X.env.scope x := by first | exact .inl rfl | exact .inr (.inl rfl) | exact .inr (.inr rfl)) (hd : (x == ("__debug__" : Str)) = false := by decide) (hcd : (x == ("__classdict__" : Str)) = false := by decide) : DE X W (.Name x pos) (xVar i) := by
  refine ⟨PE.weak (pe_var hN hv hd hcd) fun σ H Q ⟨ι, F, ρ, S, r, h⟩ => ?_⟩
  unfold xVar at h
  cases q : ρ[i]? with
  | none => rw [q] at h; exact h.elim
  | some o =>
    cases o with
    | none => rw [q] at h; exact h.elim
    | some dv =>
      rw [q] at h
      obtain ⟨v, h1, h2⟩ := r.slot i dv q
      exact ⟨v, h1, h ι F H .refl r.st v h2⟩
theorem zlm {d : D} {v : V} (h : PE X e (tC v)) (w : ∀ K F, Wd K F v d) : DE X W e (xC d) :=
  ⟨PE.weak h fun σ H Q ⟨ι, F, ρ, S, r, h⟩ => h ι F H .refl r.st v (w _ _)⟩
theorem zah {i : Int} {j : Nat} : DE X W (.Constant (.int i) j pos) (xC (.int i)) := zlm pe_int fun _ _ => .int i
theorem zep {i : Bool} {j : Nat} : DE X W (.Constant (.bool i) j pos) (xC (.bl i)) := zlm pe_bl fun _ _ => .bl i
theorem zea {j : Nat} : DE X W (.Constant .none j pos) (xC .non) := zlm pe_non fun _ _ => .non
theorem zh9 {i : Str} {j : Nat} : DE X W (.Constant (.str i) j pos) (xC (.str i)) := zlm pe_str fun _ _ => .str i
theorem zl7 {x : Str} {i : Int} (hg : Gl X x) (hm : ∃ t, X.mg x = some (.int i t)) (hd : (x == ("__debug__" : Str)) = false := by decide) : DE X W (.Name x pos) (xC (.int i)) := by
  obtain ⟨t, hm⟩ := hm
  exact zlm (v := .int i) (pe_glob hg hm ⟨_, rfl⟩ hd) fun _ _ => .int i
/-! ## argument lists -/
def aNil : AFn := fun _ S => .ok [] S
def zac (f : XFn) (g : AFn) : AFn := fun ρ S => (f ρ S).bind fun d S1 => (g ρ S1).bind fun ds S2 => .ok (d :: ds) S2
theorem zad : DA X W [] aNil := ⟨PA.weak pa_nil fun σ H Q ⟨ι, F, ρ, S, r, h⟩ => h ι F H .refl r.st [] .nil⟩
theorem za_ {f : XFn} {g : AFn} (he : DE X W e f) (hs : DA X W es g) (hse : starEach (e :: es) X.env = (false, eval e X.env) :: starEach es X.env := by rfl) : DA X W (e :: es) (zac f g) := by
  refine ⟨PA.weak (pa_cons he.pe hs.pa hse) fun σ H Q ⟨ι, F, ρ, S, r, h⟩ => ?_⟩
  refine tD.bind (g := fun ρ d S1 => (g ρ S1).bind fun ds S2 => .ok (d :: ds) S2) r h fun v dv ι1 F1 S1 H1 r1 w1 g1 h1 => ?_
  refine tA.bind (g := fun ρ ds S2 => .ok (dv :: ds) S2) r1 h1 fun vs ds ι2 F2 S2 H2 r2 w2 g2 h2 => ?_
  exact h2 ι2 F2 H2 .refl r2.st (v :: vs) (.cons (w1.grow g2) w2)
/-! ## reading data -/
def rd (S : zaf) : DV → Option D
  | .dat d => some d
  | .obj k => match S[k]? with
    | some (some xs) => some (.lst xs)
    | _ => none
  | .scr _ => none
  | .exn _ _ => none
  | .fn _ => none
inductive Vw (K : PySem.W.Frag) (F H : Hp) : V → D → Prop
  | non : Vw K F H .non .non
  | bl (b : Bool) : Vw K F H (.bl b) (.bl b)
  | int (i : Int) : Vw K F H (.int i) (.int i)
  | str (x : Str) : Vw K F H (.str x) (.str x)
  | lst {a : Addr} {vs : List V} {ds : List D} : H a = some (.lst vs) → WdA K F vs ds → Vw K F H (.ref a) (.lst ds)
  | tup {a : Addr} {vs : List V} {ds : List D} : SqT K F a vs → WdA K F vs ds → Vw K F H (.ref a) (.tup ds)
  | cas {a : Addr} {c : Cas} : CasAt K F a c → Vw K F H (.ref a) (.cas c)
  | dct {a : Addr} {m : List (Key × Int)} {o : Obj} : F a = some (.frz o (.dK (m.map fun p => (p.1, V.int p.2)))) → Vw K F H (.ref a) (.dct m)
theorem Wd.vw {K : PySem.W.Frag} {F H : Hp} (s : Same F H) {v : V} {d : D} (h : Wd K F v d) : Vw K F H v d := by
  cases h with
  | non => exact .non
  | bl b => exact .bl b
  | int b => exact .int b
  | str b => exact .str b
  | lst q w => exact .lst (s _ _ q) w
  | tup q w => exact .tup q w
  | cas h => exact .cas h
  | dct h => exact .dct h
theorem Vw.wd {K : PySem.W.Frag} {F H : Hp} (s : Same F H) {v : V} {d : D} (h : Vw K F H v d) : Wd K H v d := by
  cases h with
  | non => exact .non
  | bl b => exact .bl b
  | int b => exact .int b
  | str b => exact .str b
  | lst q w => exact .lst q (w.mono s)
  | tup q w => exact .tup (zc7 s q) (w.mono s)
  | cas h => exact .cas (h.mono s)
  | dct h => exact .dct (s _ _ h)
theorem StR.vw {K : PySem.W.Frag} {ι : List Addr} {F H : Hp} {S : zaf} (st : StR K ι F S H) {v : V} {dv : DV} {d : D} (w : WV K ι F v dv) (e : rd S dv = some d) : Vw K F H v d := by
  cases dv with
  | dat d' => cases e; exact Wd.vw st.sub w
  | obj k =>
    obtain ⟨a, h1, h2⟩ := w
    simp only [rd] at e
    cases q : S[k]? with
    | none => simp [q] at e
    | some o =>
      cases o with
      | none => simp [q] at e
      | some xs =>
        simp [q] at e
        subst e
        obtain ⟨a', vs, h3, h4, h5, h6⟩ := st.cell k xs q
        rw [h1] at h3
        cases h3
        subst h2
        exact .lst h4 h6
  | scr ns => cases e
  | exn c p => cases e
  | fn x => cases e
/-! ## tuples, lists -/
def dats : List DV → Option (List D)
  | [] => some []
  | .dat d :: r => (dats r).map (d :: ·)
  | _ :: _ => none
theorem WVs.dats {K : PySem.W.Frag} {ι : List Addr} {F : Hp} {vs : List V} {ds : List DV} (h : WVs K ι F vs ds) : ∀ {xs : List D}, DL.dats ds = some xs → WdA K F vs xs := by
  induction h with
  | nil => intro xs e; cases e; exact .nil
  | @cons v vs d ds a _ ih =>
    intro xs e
    cases d with
    | obj k => cases e
    | scr ns => cases e
    | exn c p => cases e
    | fn x => cases e
    | dat d =>
      unfold DL.dats at e
      cases q : DL.dats ds with
      | none => rw [q] at e; cases e
      | some ys => rw [q] at e; cases e; exact .cons a (ih q)
def mkTup (ds : List DV) (S : zaf) : Res DV := match dats ds with
  | some xs => if xs.length ≤ sizeLine then .ok (.dat (.tup xs)) S else .bad
  | none => .bad
def mkLst (ds : List DV) (S : zaf) : Res DV := match dats ds with
  | some xs => if xs.length ≤ sizeLine then .ok (.dat (.lst xs)) S else .bad
  | none => .bad
def xTup (f : AFn) : XFn := fun ρ S => (f ρ S).bind mkTup
def xLst (f : AFn) : XFn := fun ρ S => (f ρ S).bind mkLst
theorem zbw {f : AFn} {k : Nat} (h : DA X W es f) : DE X W (.Tuple es k pos) (xTup f) := by
  refine ⟨PE.weak (pe_tup h.pa) fun σ H Q ⟨ι, F, ρ, S, r, h⟩ => ?_⟩
  refine tA.bind (g := fun _ => mkTup) r h fun vs ds ι1 F1 S1 H1 r1 w1 g1 h1 => ?_
  unfold mkTup at h1
  cases q : dats ds with
  | none => rw [q] at h1; exact h1.elim
  | some xs =>
    rw [q] at h1
    have wx := w1.dats q
    by_cases hl : xs.length ≤ sizeLine
    · simp only [hl, if_true] at h1
      refine ⟨by rw [wx.length]; exact hl, fun p hp => ?_⟩
      exact h1 ι1 _ _ (zik r1.st.sub hp _) (r1.st.push hp _) _ (.tup (.of upd_same) (wx.mono (zil r1.st.sub hp _)))
    · simp only [hl, if_false] at h1; exact h1.elim
theorem zin {f : AFn} (h : DA X W es f) : DE X W (.List es pos) (xLst f) := by
  refine ⟨PE.weak (pe_lst h.pa) fun σ H Q ⟨ι, F, ρ, S, r, h⟩ => ?_⟩
  refine tA.bind (g := fun _ => mkLst) r h fun vs ds ι1 F1 S1 H1 r1 w1 g1 h1 => ?_
  unfold mkLst at h1
  cases q : dats ds with
  | none => rw [q] at h1; exact h1.elim
  | some xs =>
    rw [q] at h1
    have wx := w1.dats q
    by_cases hl : xs.length ≤ sizeLine
    · simp only [hl, if_true] at h1
      refine ⟨by rw [wx.length]; exact hl, fun p hp => ?_⟩
      exact h1 ι1 _ _ (zik r1.st.sub hp _) (r1.st.push hp _) _ (.lst upd_same (wx.mono (zil r1.st.sub hp _)))
    · simp only [hl, if_false] at h1; exact h1.elim
end
end DL
set_option maxHeartbeats 4000000
namespace DL
open PySem PySem.Spec PyProof.Rows L2
/-! ## operators on data -/
abbrev Op2 := DV → DV → zaf → Res DV
def res1 (o : Option D) (S : zaf) : Res DV := match o with
  | some c => .ok (.dat c) S
  | none => .bad
def o2 (f : D → D → Option D) : Op2 := fun x y S => match rd S x, rd S y with
  | some a, some b => res1 (f a b) S
  | _, _ => .bad
def x2 (o : Op2) (f g : XFn) : XFn := fun ρ S => (f ρ S).bind fun x S1 => (g ρ S1).bind fun y S2 => o x y S2
def Ret (K : PySem.W.Frag) (ι : List Addr) (F H : Hp) (S : zaf) (c : D) (Q : VK) : Prop :=
  ∀ z F' H', Grow ι F H ι F' H' → StR K ι F' S H' → Wd K F' z c → Q z H'
def OpOk (K : PySem.W.Frag) (r : R2) (o : Op2) : Prop := ∀ (mg : Str → Option Value) (E : XK) (ι : List Addr) (F H : Hp) (S : zaf) (v u : V) (x y : DV) (Q : VK), StR K ι F S H → WV K ι F v x → WV K ι F u y →
  Post K mg E ι F H (o x y S) (fun dv ι' F' H' => ∀ z, WV K ι' F' z dv → Q z H') → r v u H Q
section
variable {X : Cx} {W : WX} {e a b c : Expr} {es : List Expr} {pos p : Pos} {K : PySem.W.Frag} {ι : List Addr} {F H : Hp} {S : zaf}
theorem Ret.same {c : D} {Q : VK} (h : Ret K ι F H S c Q) (st : StR K ι F S H) {z : V} (w : Wd K F z c) : Q z H := h z F H .refl st w
theorem Ret.tup {ds : List D} {vs : List V} {Q : VK} (h : Ret K ι F H S (.tup ds) Q) (st : StR K ι F S H) (w : WdA K F vs ds) {p : Addr} (hp : H p = none) : Q (.ref p) (upd H p (.tup vs)) :=
  h _ _ _ (zik st.sub hp _) (st.push hp _) (.tup (.of upd_same) (w.mono (zil st.sub hp _)))
theorem Ret.lst {ds : List D} {vs : List V} {Q : VK} (h : Ret K ι F H S (.lst ds) Q) (st : StR K ι F S H) (w : WdA K F vs ds) {p : Addr} (hp : H p = none) : Q (.ref p) (upd H p (.lst vs)) :=
  h _ _ _ (zik st.sub hp _) (st.push hp _) (.lst upd_same (w.mono (zil st.sub hp _)))
theorem zn9 {r : R2} {f : D → D → Option D} (h : ∀ (ι : List Addr) (F H : Hp) (S : zaf) (v u : V) (a b c : D) (Q : VK), StR K ι F S H → Vw K F H v a → Vw K F H u b → f a b = some c → Ret K ι F H S c Q → r v u H Q) : OpOk K r (o2 f) := by
  intro mg E ι F H S v u x y Q st wx wy q
  unfold o2 at q
  cases ex : rd S x with
  | none => rw [ex] at q; exact q.elim
  | some a =>
    cases ey : rd S y with
    | none => rw [ex, ey] at q; exact q.elim
    | some b =>
      rw [ex, ey] at q
      cases ec : f a b with
      | none => simp only [ec, res1] at q; exact q.elim
      | some c =>
        simp only [ec, res1] at q
        exact h ι F H S v u a b c Q st (st.vw wx ex) (st.vw wy ey) ec fun z F' H' g st' w => q ι F' H' g st' z w
theorem zbd {op : Operator} {r : R2} {o : Op2} {f g : XFn} (ho : OpR X (binaryOp op) r) (k : OpOk X.K r o) (ha : DE X W a f) (hb : DE X W b g) : DE X W (.BinOp a op b pos) (x2 o f g) := by
  refine ⟨PE.weak (pe_op ho ha.pe hb.pe) fun σ H Q ⟨ι, F, ρ, S, r0, h⟩ => ?_⟩
  refine tD.bind (g := fun ρ x S1 => (g ρ S1).bind fun y S2 => o x y S2) r0 h fun v dv ι1 F1 S1 H1 r1 w1 g1 h1 => ?_
  refine tD.bind (g := fun ρ y S2 => o dv y S2) r1 h1 fun u du ι2 F2 S2 H2 r2 w2 g2 h2 => ?_
  exact k _ _ ι2 F2 H2 S2 v u dv du Q r2.st (w1.grow g2) w2 h2
theorem zew {op : CmpOp} {r : R2} {o : Op2} {f g : XFn} (ho : OpR X (compareOp op) r) (k : OpOk X.K r o) (ha : DE X W a f) (hb : DE X W b g) (hm : behindInMarks op b = false := by rfl) : DE X W (.Compare a [op] [b] pos) (x2 o f g) := by
  refine ⟨PE.weak (pe_cmpR ho ha.pe hb.pe hm) fun σ H Q ⟨ι, F, ρ, S, r0, h⟩ => ?_⟩
  refine tD.bind (g := fun ρ x S1 => (g ρ S1).bind fun y S2 => o x y S2) r0 h fun v dv ι1 F1 S1 H1 r1 w1 g1 h1 => ?_
  refine tD.bind (g := fun ρ y S2 => o dv y S2) r1 h1 fun u du ι2 F2 S2 H2 r2 w2 g2 h2 => ?_
  exact k _ _ ι2 F2 H2 S2 v u dv du Q r2.st (w1.grow g2) w2 h2
def zmi (o o' : Op2) (f g k : XFn) : XFn := fun ρ S => (f ρ S).bind fun x S1 => (g ρ S1).bind fun y S2 => (o x y S2).bind fun z S3 => match z with
  | .dat (.bl true) => (k ρ S3).bind fun w S4 => o' y w S4
  | .dat (.bl false) => .ok (.dat (.bl false)) S3
  | _ => .bad
def dAdd : D → D → Option D
  | .int i, .int j => some (.int (i + j))
  | .tup a, .tup b => if a.length + b.length ≤ sizeLine then some (.tup (a ++ b)) else none
  | .lst a, .lst b => if a.length + b.length ≤ sizeLine then some (.lst (a ++ b)) else none
  | .str a, .str b => if a.length + b.length ≤ sizeLine then some (.str (a ++ b)) else none
  | _, _ => none
abbrev rAddD (K : PySem.W.Frag) : R2 := fun x y H Q => (((rI0 fun i j => .int (i + j)) x y H Q ∨ rCatA K x y H Q) ∨ rCat x y H Q) ∨ (∃ i j, x = .str i ∧ y = .str j ∧ i.length + j.length ≤ sizeLine ∧ Q (.str (i ++ j)) H)
theorem zax : OpR X (binaryOp .Add) (rAddD X.K) := ((op_add.or op_catA).or op_cat).or op_add_str
theorem wda_nil {vs : List V} {ds : List D} (w : WdA K F vs ds) (h : vs = []) : ds = [] := by
  subst h; cases w; rfl
theorem zay : OpOk K (rAddD K) (o2 dAdd) := zn9 fun ι F H S v u a b c Q st va vb e q => by
  cases va with
  | int i =>
    cases vb <;> try cases e
    exact .inl (.inl (.inl ⟨_, _, rfl, rfl, q.same st (.int _)⟩))
  | str i =>
    cases vb with
    | str j =>
      simp only [dAdd] at e
      split at e
      · cases e; exact .inr ⟨_, _, rfl, rfl, by assumption, q.same st (.str _)⟩
      · cases e
    | _ => cases e
  | tup s w =>
    cases vb with
    | tup s' w' =>
      simp only [dAdd] at e
      split at e
      · rename_i hl
        cases e
        refine .inl (.inl (.inr ⟨_, _, _, _, rfl, rfl, zc7 st.sub s, zc7 st.sub s', by rw [w.length, w'.length]; exact hl, fun z => ?_, fun _ z => ?_, fun _ _ p hp => q.tup st (w.append w') hp⟩))
        · have := wda_nil w z; subst this
          exact q.same st (.tup s' w')
        · have := wda_nil w' z; subst this
          rw [List.append_nil] at q
          exact q.same st (.tup s w)
      · cases e
    | _ => cases e
  | lst s w =>
    cases vb with
    | lst s' w' =>
      simp only [dAdd] at e
      split at e
      · rename_i hl
        cases e
        exact .inl (.inr ⟨_, _, _, _, rfl, rfl, s, s', by rw [w.length, w'.length]; exact hl, fun p hp => q.lst st (w.append w') hp⟩)
      · cases e
    | _ => cases e
  | _ => cases vb <;> cases e
/-! ### ints -/
theorem i2_ok {g : Int → Int → D} {g' : Int → Int → V} {C : Int → Int → Prop} {f : D → D → Option D} (hg : ∀ i j K F, Wd K F (g' i j) (g i j))
    (hf : ∀ a b c, f a b = some c → ∃ i j, a = .int i ∧ b = .int j ∧ C i j ∧ c = g i j) : OpOk K (rI C g') (o2 f) := zn9 fun ι F H S v u a b c Q st va vb e q => by
  obtain ⟨i, j, rfl, rfl, hc, rfl⟩ := hf a b c e
  cases va; cases vb
  exact ⟨i, j, rfl, rfl, hc, q.same st (hg i j _ _)⟩
theorem i20_ok {g : Int → Int → D} {g' : Int → Int → V} {f : D → D → Option D} (hg : ∀ i j K F, Wd K F (g' i j) (g i j))
    (hf : ∀ a b c, f a b = some c → ∃ i j, a = .int i ∧ b = .int j ∧ c = g i j) : OpOk K (rI0 g') (o2 f) := zn9 fun ι F H S v u a b c Q st va vb e q => by
  obtain ⟨i, j, rfl, rfl, rfl⟩ := hf a b c e
  cases va; cases vb
  exact ⟨i, j, rfl, rfl, q.same st (hg i j _ _)⟩
def dSub : D → D → Option D
  | .int i, .int j => some (.int (i - j))
  | _, _ => none
def dMod : D → D → Option D
  | .int i, .int j => if 0 < j then some (.int (i % j)) else none
  | _, _ => none
def dDiv : D → D → Option D
  | .int i, .int j => if 0 < j ∧ j.natAbs.log2 < 9000 then some (.int (i / j)) else none
  | _, _ => none
def dPow : D → D → Option D
  | .int i, .int j => if 0 ≤ j ∧ j ≤ 1000000 ∧ i.natAbs < 2 ^ 64 then some (.int (i ^ j.toNat)) else none
  | _, _ => none
def dLt : D → D → Option D
  | .int i, .int j => some (.bl (decide (i < j)))
  | _, _ => none
def dLe : D → D → Option D
  | .int i, .int j => some (.bl (decide (i ≤ j)))
  | _, _ => none
def dGt : D → D → Option D
  | .int i, .int j => some (.bl (decide (i > j)))
  | _, _ => none
def dGe : D → D → Option D
  | .int i, .int j => some (.bl (decide (i ≥ j)))
  | _, _ => none
theorem dSub_ok : OpOk K (rI0 fun i j => .int (i - j)) (o2 dSub) := i20_ok (g := fun i j => .int (i - j)) (fun _ _ _ _ => .int _) (by
  intro a b c e
  cases a <;> cases b <;> simp only [dSub] at e <;> first | (cases e; done) | (cases e; exact ⟨_, _, rfl, rfl, rfl⟩) | (split at e <;> first | (cases e; done) | (cases e; exact ⟨_, _, rfl, rfl, by assumption, rfl⟩)))
theorem zfk : OpOk K (rI (fun _ j => 0 < j) fun i j => .int (i % j)) (o2 dMod) := i2_ok (g := fun i j => .int (i % j)) (fun _ _ _ _ => .int _) (by
  intro a b c e
  cases a <;> cases b <;> simp only [dMod] at e <;> first | (cases e; done) | (cases e; exact ⟨_, _, rfl, rfl, rfl⟩) | (split at e <;> first | (cases e; done) | (cases e; exact ⟨_, _, rfl, rfl, by assumption, rfl⟩)))
theorem dDiv_ok : OpOk K (rI CDivW fun i j => .int (i / j)) (o2 dDiv) := i2_ok (g := fun i j => .int (i / j)) (fun _ _ _ _ => .int _) (by
  intro a b c e
  cases a <;> cases b <;> simp only [dDiv] at e <;> first | (cases e; done) | (cases e; exact ⟨_, _, rfl, rfl, rfl⟩) | (split at e <;> first | (cases e; done) | (cases e; exact ⟨_, _, rfl, rfl, by assumption, rfl⟩)))
theorem zkr : OpOk K (rI CPow fun i j => .int (i ^ j.toNat)) (o2 dPow) := i2_ok (g := fun i j => .int (i ^ j.toNat)) (fun _ _ _ _ => .int _) (by
  intro a b c e
  cases a <;> cases b <;> simp only [dPow] at e <;> first | (cases e; done) | (cases e; exact ⟨_, _, rfl, rfl, rfl⟩) | (split at e <;> first | (cases e; done) | (cases e; exact ⟨_, _, rfl, rfl, by assumption, rfl⟩)))
theorem dLt_ok : OpOk K (rI0 fun i j => .bl (decide (i < j))) (o2 dLt) := i20_ok (g := fun i j => .bl (decide (i < j))) (fun _ _ _ _ => .bl _) (by
  intro a b c e
  cases a <;> cases b <;> simp only [dLt] at e <;> first | (cases e; done) | (cases e; exact ⟨_, _, rfl, rfl, rfl⟩) | (split at e <;> first | (cases e; done) | (cases e; exact ⟨_, _, rfl, rfl, by assumption, rfl⟩)))
theorem zof : OpOk K (rI0 fun i j => .bl (decide (i ≤ j))) (o2 dLe) := i20_ok (g := fun i j => .bl (decide (i ≤ j))) (fun _ _ _ _ => .bl _) (by
  intro a b c e
  cases a <;> cases b <;> simp only [dLe] at e <;> first | (cases e; done) | (cases e; exact ⟨_, _, rfl, rfl, rfl⟩) | (split at e <;> first | (cases e; done) | (cases e; exact ⟨_, _, rfl, rfl, by assumption, rfl⟩)))
theorem dGt_ok : OpOk K (rI0 fun i j => .bl (decide (i > j))) (o2 dGt) := i20_ok (g := fun i j => .bl (decide (i > j))) (fun _ _ _ _ => .bl _) (by
  intro a b c e
  cases a <;> cases b <;> simp only [dGt] at e <;> first | (cases e; done) | (cases e; exact ⟨_, _, rfl, rfl, rfl⟩) | (split at e <;> first | (cases e; done) | (cases e; exact ⟨_, _, rfl, rfl, by assumption, rfl⟩)))
theorem dGe_ok : OpOk K (rI0 fun i j => .bl (decide (i ≥ j))) (o2 dGe) := i20_ok (g := fun i j => .bl (decide (i ≥ j))) (fun _ _ _ _ => .bl _) (by
  intro a b c e
  cases a <;> cases b <;> simp only [dGe] at e <;> first | (cases e; done) | (cases e; exact ⟨_, _, rfl, rfl, rfl⟩) | (split at e <;> first | (cases e; done) | (cases e; exact ⟨_, _, rfl, rfl, by assumption, rfl⟩)))
def dMul : D → D → Option D
  | .int i, .int j => if i.natAbs.log2 + j.natAbs.log2 < 1000000 then some (.int (i * j)) else none
  | .lst a, .int k => if k ≤ 1000 ∧ -1000 ≤ k ∧ a.length * k.toNat ≤ sizeLine then some (.lst (List.replicate k.toNat a).flatten) else none
  | .tup a, .int k => if a ≠ [] ∧ 2 ≤ k ∧ k ≤ 1000 ∧ a.length ≤ 1000 then some (.tup (List.replicate k.toNat a).flatten) else none
  | _, _ => none
abbrev rMulD (K : PySem.W.Frag) : R2 := fun x y H Q => ((rI CMulW fun i j => .int (i * j)) x y H Q ∨ rRep x y H Q) ∨ rRepT K x y H Q
theorem op_mulD : OpR X (binaryOp .Mult) (rMulD X.K) := (op_mulW.or op_rep).or op_repT
theorem wda_rep {F : Hp} {vs : List V} {ds : List D} (w : WdA K F vs ds) : ∀ n : Nat, WdA K F (List.replicate n vs).flatten (List.replicate n ds).flatten
  | 0 => .nil
  | n + 1 => by
    rw [List.replicate_succ, List.replicate_succ, List.flatten_cons, List.flatten_cons]
    exact w.append (wda_rep w n)
theorem dMul_core {v u : V} {a b c : D} {Q : VK} (st : StR K ι F S H) (va : Vw K F H v a) (vb : Vw K F H u b) (e : dMul a b = some c) (q : Ret K ι F H S c Q) : rMulD K v u H Q := by
  cases va with
  | int i =>
    cases vb <;> try cases e
    simp only [dMul] at e
    split at e
    · cases e; exact .inl (.inl ⟨_, _, rfl, rfl, by assumption, q.same st (.int _)⟩)
    · cases e
  | lst s w =>
    cases vb <;> try cases e
    simp only [dMul] at e
    split at e
    · rename_i hl
      cases e
      refine .inl (.inr ⟨_, _, _, rfl, rfl, s, by omega, by omega, by rw [w.length]; exact hl.2.2, fun p hp => q.lst st (wda_rep w _) hp⟩)
    · cases e
  | tup s w =>
    cases vb <;> try cases e
    simp only [dMul] at e
    split at e
    · rename_i hl
      cases e
      refine .inr ⟨_, _, _, rfl, rfl, zc7 st.sub s, fun z => hl.1 (wda_nil w z), hl.2.1, hl.2.2.1, by rw [w.length]; exact hl.2.2.2, fun p hp => q.tup st (wda_rep w _) hp⟩
    · cases e
  | _ => cases vb <;> cases e
/-! ### is None -/
def dIsN : D → D → Option D
  | a, .non => some (.bl (match a with | .non => true | _ => false))
  | _, _ => none
def zqa : D → D → Option D
  | a, .non => some (.bl (match a with | .non => false | _ => true))
  | _, _ => none
theorem zjz : OpOk K (fun x y H Q => y = .non ∧ Q (.bl (decide (x = .non))) H) (o2 dIsN) := zn9 fun ι F H S v u a b c Q st va vb e q => by
  cases vb <;> simp only [dIsN] at e <;> cases e
  refine ⟨rfl, ?_⟩
  cases va <;> exact q.same st (.bl _)
theorem zj0 : OpOk K (fun x y H Q => y = .non ∧ Q (.bl (!decide (x = .non))) H) (o2 zqa) := zn9 fun ι F H S v u a b c Q st va vb e q => by
  cases vb <;> simp only [zqa] at e <;> cases e
  refine ⟨rfl, ?_⟩
  cases va <;> exact q.same st (.bl _)
/-! ### == and in -/
mutual
def D.py : D → PyData
  | .non => .none
  | .bl b => .bool b
  | .int i => .int i
  | .str x => .str x
  | .lst xs => .list (D.pys xs)
  | .tup xs => .tuple (D.pys xs)
  | .cas _ => .dict []
  | .dct _ => .dict []
def D.pys : List D → List PyData
  | [] => []
  | x :: xs => D.py x :: D.pys xs
end
mutual
theorem Wd.dp {F : Hp} : ∀ {d : D} {v : V}, Wd K F v d → d.py.canLay0 = true → Dp K F v d.py
  | .non, _, h, _ => by cases h; exact .non
  | .bl _, _, h, _ => by cases h; exact .bl _
  | .int _, _, h, _ => by cases h; exact .int _
  | .str _, _, h, _ => by cases h; exact .str _
  | .lst ds, _, h, c => by
    cases h with
    | lst s a => exact .lst (.of s) (WdA.dp a c)
  | .tup ds, _, h, c => by
    cases h with
    | tup s a => exact .tup s (WdA.dp a c)
  | .cas _, _, _, c => by cases c
  | .dct _, _, _, c => by cases c
theorem WdA.dp {F : Hp} : ∀ {ds : List D} {vs : List V}, WdA K F vs ds → PyData.canLayAll0 (D.pys ds) = true → DpAll K F vs (D.pys ds)
  | [], _, h, _ => by cases h; exact .nil
  | d :: ds, _, h, c => by
    simp only [D.pys, PyData.canLayAll0, Bool.and_eq_true] at c
    cases h with
    | cons a b => exact .cons (Wd.dp a c.1) (WdA.dp b c.2)
end
def dEqB (a b : D) : Bool := PyData.eqv a.py b.py
def zo2 (a b : D) : Bool := a.py.canLay0 && b.py.canLay0 && decide (min a.py.depth b.py.depth ≤ 64)
def dEq (a b : D) : Option D := if zo2 a b = true then some (.bl (dEqB a b)) else none
def dNe (a b : D) : Option D := if zo2 a b = true then some (.bl (!dEqB a b)) else none
def rEqDD (K : PySem.W.Frag) : R2 := fun x y H Q => ∃ d e, Dp K H x d ∧ Dp K H y e ∧ d.canLay0 = true ∧ e.canLay0 = true ∧ min d.depth e.depth ≤ 64 ∧ Q (.bl (PyData.eqv d e)) H
def rNeDD (K : PySem.W.Frag) : R2 := fun x y H Q => ∃ d e, Dp K H x d ∧ Dp K H y e ∧ d.canLay0 = true ∧ e.canLay0 = true ∧ min d.depth e.depth ≤ 64 ∧ Q (.bl (!PyData.eqv d e)) H
theorem zd7 (hu : X.A.units + 64 < cLine) : OpR X (compareOp .Eq) (rEqDD X.K) := by
  intro pins s σ H x y v u Q I rx ry ⟨d, e, hd, he, cd, ce, dp, q⟩
  obtain ⟨as, r1⟩ := Dp.reads I d x v hd rx
  obtain ⟨bs, r2⟩ := Dp.reads I e y u he ry
  exact SeqAt.compareEq_reads r1 r2 cd ce (by omega) ⟨.bl _, H, I, rfl, q⟩
theorem zcx (hu : X.A.units + 64 < cLine) : OpR X (compareOp .NotEq) (rNeDD X.K) := by
  intro pins s σ H x y v u Q I rx ry ⟨d, e, hd, he, cd, ce, dp, q⟩
  obtain ⟨as, r1⟩ := Dp.reads I d x v hd rx
  obtain ⟨bs, r2⟩ := Dp.reads I e y u he ry
  exact SeqAt.compareNe_reads r1 r2 cd ce (by omega) ⟨.bl _, H, I, rfl, q⟩
theorem canEq_of {a b : D} (h : zo2 a b = true) : a.py.canLay0 = true ∧ b.py.canLay0 = true ∧ min a.py.depth b.py.depth ≤ 64 := by
  unfold zo2 at h
  simp only [Bool.and_eq_true, decide_eq_true_eq] at h
  exact ⟨h.1.1, h.1.2, h.2⟩
theorem zfl : OpOk K (rEqDD K) (o2 dEq) := zn9 fun ι F H S v u a b c Q st va vb e q => by
  unfold dEq at e
  split at e
  · rename_i h
    cases e
    obtain ⟨h1, h2, h3⟩ := canEq_of h
    exact ⟨_, _, (va.wd st.sub).dp h1, (vb.wd st.sub).dp h2, h1, h2, h3, q.same st (.bl _)⟩
  · cases e
theorem zee : OpOk K (rNeDD K) (o2 dNe) := zn9 fun ι F H S v u a b c Q st va vb e q => by
  unfold dNe at e
  split at e
  · rename_i h
    cases e
    obtain ⟨h1, h2, h3⟩ := canEq_of h
    exact ⟨_, _, (va.wd st.sub).dp h1, (vb.wd st.sub).dp h2, h1, h2, h3, q.same st (.bl _)⟩
  · cases e
end
end DL
set_option maxHeartbeats 4000000
namespace DL
open PySem PySem.Spec PyProof.Rows L2
section
variable {X : Cx} {W : WX} {e a b c : Expr} {es : List Expr} {pos p : Pos} {K : PySem.W.Frag} {ι : List Addr} {F H : Hp} {S : zaf}
/-! ## in -/
def canIn (d : D) (xs : List D) : Bool := d.py.canLay0 && PyData.canLayAll0 (D.pys xs) && decide (min (PyData.depthAll (D.pys xs)) d.py.depth ≤ 64)
def dInB (d : D) (xs : List D) : Bool := xs.any fun z => dEqB z d
def dIn (d : D) : D → Option D
  | .lst xs => if canIn d xs = true then some (.bl (dInB d xs)) else none
  | .tup xs => if canIn d xs = true then some (.bl (dInB d xs)) else none
  | _ => none
def dNin (d : D) : D → Option D
  | .lst xs => if canIn d xs = true then some (.bl (!dInB d xs)) else none
  | .tup xs => if canIn d xs = true then some (.bl (!dInB d xs)) else none
  | _ => none
def rInDD (K : PySem.W.Frag) (neg : Bool) : R2 := fun x y H Q => ∃ d ds, Dp K H x d ∧ (Dp K H y (.list ds) ∨ Dp K H y (.tuple ds)) ∧ d.canLay0 = true ∧ PyData.canLayAll0 ds = true ∧ min (PyData.depthAll ds) d.depth ≤ 64 ∧ Q (.bl (if neg then !(ds.any fun z => PyData.eqv z d) else ds.any fun z => PyData.eqv z d)) H
theorem zjd (hu : X.A.units + 65 < cLine) : OpR X (compareOp .In) (rInDD X.K false) := by
  intro pins s σ H x y v u Q I rx ry ⟨d, ds, hd, he, cd, ce, dp, q⟩
  obtain ⟨as, r1⟩ := Dp.reads I d x v hd rx
  rcases he with he | he
  · obtain ⟨bs, r2⟩ := Dp.reads I (.list ds) y u he ry
    exact SeqAt.in_list_reads r2 r1 ce cd (by omega) ⟨.bl _, H, I, rfl, q⟩
  · obtain ⟨bs, r2⟩ := Dp.reads I (.tuple ds) y u he ry
    exact SeqAt.in_tuple_reads r2 r1 ce cd (by omega) ⟨.bl _, H, I, rfl, q⟩
theorem zlr (hu : X.A.units + 65 < cLine) : OpR X (compareOp .NotIn) (rInDD X.K true) := by
  intro pins s σ H x y v u Q I rx ry ⟨d, ds, hd, he, cd, ce, dp, q⟩
  obtain ⟨as, r1⟩ := Dp.reads I d x v hd rx
  rcases he with he | he
  · obtain ⟨bs, r2⟩ := Dp.reads I (.list ds) y u he ry
    exact SeqAt.notIn_list_reads r2 r1 ce cd (by omega) ⟨.bl _, H, I, rfl, q⟩
  · obtain ⟨bs, r2⟩ := Dp.reads I (.tuple ds) y u he ry
    exact SeqAt.notIn_tuple_reads r2 r1 ce cd (by omega) ⟨.bl _, H, I, rfl, q⟩
theorem any_pys (d : D) : ∀ xs : List D, ((D.pys xs).any fun z => PyData.eqv z d.py) = dInB d xs
  | [] => rfl
  | x :: xs => by
    have h := any_pys d xs
    show (PyData.eqv x.py d.py || (D.pys xs).any fun z => PyData.eqv z d.py) = (dEqB x d || dInB d xs)
    rw [h]; rfl
theorem canIn_of {d : D} {xs : List D} (h : canIn d xs = true) : d.py.canLay0 = true ∧ PyData.canLayAll0 (D.pys xs) = true ∧ min (PyData.depthAll (D.pys xs)) d.py.depth ≤ 64 := by
  unfold canIn at h
  simp only [Bool.and_eq_true, decide_eq_true_eq] at h
  exact ⟨h.1.1, h.1.2, h.2⟩
theorem zlb : OpOk K (rInDD K false) (o2 dIn) := zn9 fun ι F H S v u a b c Q st va vb e q => by
  have wb := (vb.wd st.sub).dp
  cases b <;> simp only [dIn] at e <;> first | (cases e; done) | skip
  all_goals
    split at e
    · rename_i h
      cases e
      obtain ⟨h1, h2, h3⟩ := canIn_of h
      refine ⟨_, _, (va.wd st.sub).dp h1, by first | exact .inl (wb h2) | exact .inr (wb h2), h1, h2, h3, ?_⟩
      rw [any_pys]
      exact q.same st (.bl _)
    · cases e
theorem zoc : OpOk K (rInDD K true) (o2 dNin) := zn9 fun ι F H S v u a b c Q st va vb e q => by
  have wb := (vb.wd st.sub).dp
  cases b <;> simp only [dNin] at e <;> first | (cases e; done) | skip
  all_goals
    split at e
    · rename_i h
      cases e
      obtain ⟨h1, h2, h3⟩ := canIn_of h
      refine ⟨_, _, (va.wd st.sub).dp h1, by first | exact .inl (wb h2) | exact .inr (wb h2), h1, h2, h3, ?_⟩
      rw [any_pys]
      exact q.same st (.bl _)
    · cases e
/-! ## items, slices -/
def dIx : D → D → Option D
  | .lst xs, .int i => atI xs i
  | .tup xs, .int i => atI xs i
  | _, _ => none
theorem WdA.atI {vs : List V} {ds : List D} {i : Int} {d : D} (w : WdA K F vs ds) (h : L2.atI ds i = some d) : ∃ v, L2.atI vs i = some v ∧ Wd K F v d := by
  unfold L2.atI at h ⊢
  rw [w.length]
  cases q : ixN ds.length i with
  | none => rw [q] at h; cases h
  | some j => rw [q] at h; exact w.get' h
theorem zbg {f g : XFn} (ha : DE X W a f) (hb : DE X W b g) (hs : PlainIx b := by exact fun _ _ => rfl) : DE X W (.Subscript a b pos) (x2 (o2 dIx) f g) := by
  refine ⟨PE.weak (pe_ix (ix_list.or ix_tup) ha.pe hb.pe hs) fun σ H Q ⟨ι, F, ρ, S, r0, h⟩ => ?_⟩
  have k : OpOk X.K (fun x y H Q => rIxL X.K x y H Q ∨ rIxT X.K x y H Q) (o2 dIx) := zn9 fun ι F H S v u a b c Q st va vb e q => by
    cases va with
    | lst s w =>
      cases vb <;> try cases e
      obtain ⟨z, h1, h2⟩ := w.atI e
      exact .inl ⟨_, _, _, z, rfl, rfl, .of s, h1, q.same st h2⟩
    | tup s w =>
      cases vb <;> try cases e
      obtain ⟨z, h1, h2⟩ := w.atI e
      exact .inr ⟨_, _, _, z, rfl, rfl, zc7 st.sub s, h1, q.same st h2⟩
    | _ => cases vb <;> cases e
  refine tD.bind (g := fun ρ x S1 => (g ρ S1).bind fun y S2 => o2 dIx x y S2) r0 h fun v dv ι1 F1 S1 H1 r1 w1 g1 h1 => ?_
  refine tD.bind (g := fun ρ y S2 => o2 dIx dv y S2) r1 h1 fun u du ι2 F2 S2 H2 r2 w2 g2 h2 => ?_
  exact k _ _ ι2 F2 H2 S2 v u dv du Q r2.st (w1.grow g2) w2 h2
abbrev PFn := zat → zaf → Res (Option Int)
def tP (X : Cx) (W : WX) (f : PFn) : TO := fun σ H Q => ∃ ι F ρ S, RR X.K ι F ρ S σ H ∧ Post X.K X.mg (fun c d H' => W c d σ H') ι F H (f ρ S) fun o ι' F' H' => Q o H'
structure DP (X : Cx) (W : WX) (e : Option Expr) (f : PFn) : Prop where
  po : ∃ t, PO X e t ∧ ∀ σ H Q, tP X W f σ H Q → t σ H Q
def pNo : PFn := fun _ S => .ok none S
def asInt (x : DV) (S : zaf) : Res (Option Int) := match x with
  | .dat (.int i) => .ok (some i) S
  | _ => .bad
def pEx (f : XFn) : PFn := fun ρ S => (f ρ S).bind asInt
theorem zj7 : DP X W none pNo := ⟨_, po_none, fun σ H Q ⟨ι, F, ρ, S, r, h⟩ => h ι F H .refl r.st⟩
theorem zhy {f : XFn} (h : DE X W e f) : DP X W (some e) (pEx f) := by
  refine ⟨_, po_some h.pe, fun σ H Q ⟨ι, F, ρ, S, r, h⟩ => ?_⟩
  refine tD.bind (g := fun _ => asInt) r h fun v dv ι1 F1 S1 H1 r1 w1 g1 h1 => ?_
  unfold asInt at h1
  split at h1
  · rename_i i
    have w1' : Wd X.K F1 v (.int i) := w1
    cases w1'
    exact ⟨i, rfl, h1 ι1 F1 H1 .refl r1.st⟩
  · exact h1.elim
theorem tP.bind {α : Type} {f : PFn} {g : zat → Option Int → zaf → Res α} {σ : L2.St} {H : Hp} {R : Option Int → Hp → Prop} {Q : α → List Addr → Hp → Hp → Prop} {ι : List Addr} {F : Hp} {ρ : zat} {S : zaf} (r : RR X.K ι F ρ S σ H)
    (h : Post X.K X.mg (fun c d H' => W c d σ H') ι F H ((f ρ S).bind (g ρ)) Q)
    (k : ∀ b ι1 F1 S1 H1, RR X.K ι1 F1 ρ S1 σ H1 → Grow ι F H ι1 F1 H1 → Post X.K X.mg (fun c d H' => W c d σ H') ι1 F1 H1 (g ρ b S1) Q → R b H1) : tP X W f σ H R := by
  refine ⟨ι, F, ρ, S, r, ?_⟩
  cases q : f ρ S with
  | ok b S1 =>
    rw [q] at h
    exact fun ι1 F1 H1 g1 st => k b ι1 F1 S1 H1 (r.slots g1 st) g1 (Post.grow (r := g ρ b S1) h g1)
  | ex c S1 => rw [q] at h; exact h
  | bad => rw [q] at h; exact h
def cutL {α : Type} (xs : List α) (lo hi : Option Int) : List α := (xs.drop (HT.sIx xs.length 0 lo)).take (HT.sIx xs.length xs.length hi - HT.sIx xs.length 0 lo)
theorem WdA.cut {vs : List V} {ds : List D} (w : WdA K F vs ds) (lo hi : Option Int) : WdA K F (cutV vs lo hi) (cutL ds lo hi) := by
  unfold cutV cutL
  rw [w.length]
  exact (w.drop _).take _
theorem cutL_map {α β : Type} (f : α → β) (xs : List α) (lo hi : Option Int) : cutL (xs.map f) lo hi = (cutL xs lo hi).map f := by
  unfold cutL
  rw [List.length_map, List.map_take, List.map_drop]
theorem znl : ∀ ns : List Int, WdA K F (ns.map V.int) (ns.map D.int)
  | [] => .nil
  | n :: ns => .cons (.int n) (znl ns)
def oSl (x : DV) (lo hi : Option Int) (S : zaf) : Res DV := match x with
  | .scr ns => .ok (.dat (.lst ((cutL ns lo hi).map .int))) S
  | _ => match rd S x with
    | some (.lst xs) => .ok (.dat (.lst (cutL xs lo hi))) S
    | some (.tup xs) => .ok (.dat (.tup (cutL xs lo hi))) S
    | _ => .bad
def xSl (f : XFn) (l h : PFn) : XFn := fun ρ S => (f ρ S).bind fun x S1 => (l ρ S1).bind fun lo S2 => (h ρ S2).bind fun hi S3 => oSl x lo hi S3
theorem cutV_all (vs : List V) (lo hi : Option Int) (h : HT.sIx vs.length 0 lo = 0 ∧ HT.sIx vs.length vs.length hi = vs.length) : cutV vs lo hi = vs := by
  unfold cutV
  rw [h.1, h.2]
  simp
theorem zi8 {f : XFn} {l h : PFn} {lo hi : Option Expr} {p2 : Pos} (ha : DE X W e f) (hl : DP X W lo l) (hh : DP X W hi h) : DE X W (.Subscript e (.Slice lo hi none p2) pos) (xSl f l h) := by
  obtain ⟨tl, pl, kl⟩ := hl.po
  obtain ⟨th, ph, kh⟩ := hh.po
  refine ⟨PE.weak (pe_slice (sl_list.or sl_tupA) ha.pe pl ph) fun σ H Q ⟨ι, F, ρ, S, r, h0⟩ => ?_⟩
  refine tD.bind (g := fun ρ x S1 => (l ρ S1).bind fun lo S2 => (h ρ S2).bind fun hi S3 => oSl x lo hi S3) r h0 fun v dv ι1 F1 S1 H1 r1 w1 g1 h1 => ?_
  refine kl _ _ _ (tP.bind (g := fun ρ lo S2 => (h ρ S2).bind fun hi S3 => oSl dv lo hi S3) r1 h1 fun lo ι2 F2 S2 H2 r2 g2 h2 => ?_)
  refine kh _ _ _ (tP.bind (g := fun ρ hi S3 => oSl dv lo hi S3) r2 h2 fun hi ι3 F3 S3 H3 r3 g3 h3 => ?_)
  have w3 : WV X.K ι3 F3 v dv := (w1.grow g2).grow g3
  have st := r3.st
  have fin : ∀ d, rd S3 dv = some d → Post X.K X.mg (fun c d H' => W c d σ H') ι3 F3 H3 (match some d with
    | some (.lst xs) => Res.ok (.dat (.lst (cutL xs lo hi))) S3
    | some (.tup xs) => .ok (.dat (.tup (cutL xs lo hi))) S3
    | _ => .bad) (fun dv ι' F' H' => ∀ v, WV X.K ι' F' v dv → Q v H') → rSlL X.K v lo hi H3 Q ∨ rSlA X.K v lo hi H3 Q := fun d ed h3 => by
    have vw := st.vw w3 ed
    cases vw with
    | lst s w =>
      have q : Ret X.K ι3 F3 H3 S3 (.lst (cutL _ lo hi)) Q := fun z F' H' g st' w => h3 ι3 F' H' g st' z w
      exact .inl ⟨_, _, rfl, .of s, fun p hp => q.lst st (w.cut lo hi) hp⟩
    | tup s w =>
      have q : Ret X.K ι3 F3 H3 S3 (.tup (cutL _ lo hi)) Q := fun z F' H' g st' w => h3 ι3 F' H' g st' z w
      refine .inr ⟨_, _, rfl, zc7 st.sub s, fun z => ?_, fun _ p hp => q.tup st (w.cut lo hi) hp⟩
      have wc := w.cut lo hi
      rw [cutV_all _ _ _ z] at wc
      exact q.same st (.tup s wc)
    | _ => exact h3.elim
  unfold oSl at h3
  cases dv with
  | scr ns =>
    obtain ⟨a, rfl, hs⟩ := w3
    have q : Ret X.K ι3 F3 H3 S3 (.lst ((cutL ns lo hi).map .int)) Q := fun z F' H' g st' w => h3 ι3 F' H' g st' z w
    refine .inl ⟨a, _, rfl, st.sub.seq hs, fun p hp => q.lst st ?_ hp⟩
    show WdA X.K F3 (cutL (ns.map V.int) lo hi) _
    rw [cutL_map]
    exact znl _
  | dat d => exact fin d rfl h3
  | obj k =>
    cases ed : rd S3 (.obj k) with
    | none => simp only [ed] at h3; exact h3.elim
    | some d => simp only [ed] at h3; exact fin d ed h3
  | exn c p => exact h3.elim
  | fn _ => exact h3.elim
/-! ## built-in functions -/
abbrev OpN := List DV → zaf → Res DV
def xN (o : OpN) (f : AFn) : XFn := fun ρ S => (f ρ S).bind o
def zlw (K : PySem.W.Frag) (r : List V → Hp → VK → Prop) (o : OpN) : Prop := ∀ (mg : Str → Option Value) (E : XK) (ι : List Addr) (F H : Hp) (S : zaf) (vs : List V) (ds : List DV) (Q : VK), StR K ι F S H → WVs K ι F vs ds →
  Post K mg E ι F H (o ds S) (fun dv ι' F' H' => ∀ z, WV K ι' F' z dv → Q z H') → r vs H Q
theorem zar {r : List V → Hp → VK → Prop} {o : OpN} {f : AFn} {x : Str} {id : String} (hc : CallR X (.builtin id) r) (k : zlw X.K r o) (hm : X.mg x = none) (hv : bootBuiltins x = some (.builtin id)) (ha : DA X W (e :: es) f) (hg : Gl X x := by rfl) (hn : x ≠ "__name__" := by decide) (hdb : (x == ("__debug__" : Str)) = false := by decide)
    (he : starEach (e :: es) X.env = (false, eval e X.env) :: starEach es X.env := by rfl) (hpl : (backTo pos (starEach es X.env)).any (·.1) = false := by rfl) : DE X W (.Call (.Name x p) (e :: es) [] pos) (xN o f) := by
  refine ⟨PE.weak (pe_callB hc hg hm hv ha.pa hn hdb he hpl) fun σ H Q ⟨ι, F, ρ, S, r, h⟩ => ?_⟩
  exact tA.bind (g := fun _ => o) r h fun vs ds ι1 F1 S1 H1 r1 w1 g1 h1 => k _ _ ι1 F1 H1 S1 vs ds Q r1.st w1 h1
theorem zbf {r : List V → Hp → VK → Prop} {o : OpN} {f : AFn} {x : Str} {T : String} (hc : CallR X (.type T) r) (k : zlw X.K r o) (hm : X.mg x = none) (hv : bootBuiltins x = some (.type T)) (ha : DA X W (e :: es) f) (hg : Gl X x := by rfl) (hn : x ≠ "__name__" := by decide) (hdb : (x == ("__debug__" : Str)) = false := by decide)
    (he : starEach (e :: es) X.env = (false, eval e X.env) :: starEach es X.env := by rfl) (hpl : (backTo pos (starEach es X.env)).any (·.1) = false := by rfl) : DE X W (.Call (.Name x p) (e :: es) [] pos) (xN o f) := by
  refine ⟨PE.weak (pe_callTy hc hg hm hv ha.pa hn hdb he hpl) fun σ H Q ⟨ι, F, ρ, S, r, h⟩ => ?_⟩
  exact tA.bind (g := fun _ => o) r h fun vs ds ι1 F1 S1 H1 r1 w1 g1 h1 => k _ _ ι1 F1 H1 S1 vs ds Q r1.st w1 h1
def o1 (f : D → Option D) : OpN := fun ds S => match ds with
  | [x] => (match rd S x with
    | some a => res1 (f a) S
    | none => .bad)
  | _ => .bad
theorem o1_ok {r : List V → Hp → VK → Prop} {f : D → Option D} (h : ∀ (ι : List Addr) (F H : Hp) (S : zaf) (v : V) (a c : D) (Q : VK), StR K ι F S H → Vw K F H v a → f a = some c → Ret K ι F H S c Q → r [v] H Q) : zlw K r (o1 f) := by
  intro mg E ι F H S vs ds Q st ws q
  unfold o1 at q
  cases ws with
  | nil => exact q.elim
  | cons w ws =>
    cases ws with
    | cons _ _ => exact q.elim
    | nil =>
      rename_i v dv
      cases ex : rd S dv with
      | none => simp only [ex] at q; exact q.elim
      | some a =>
        simp only [ex] at q
        cases ec : f a with
        | none => simp only [ec, res1] at q; exact q.elim
        | some c =>
          simp only [ec, res1] at q
          exact h ι F H S v a c Q st (st.vw w ex) ec fun z F' H' g st' w => q ι F' H' g st' z w
def dLen : D → Option D
  | .lst xs => some (.int xs.length)
  | .tup xs => some (.int xs.length)
  | .str x => if x.length ≤ sizeLine then some (.int x.length) else none
  | _ => none
theorem zc_ : zlw K (fun xs H Q => ∃ x n, xs = [x] ∧ LenV K x H n ∧ Q (.int n) H) (o1 dLen) := o1_ok fun ι F H S v a c Q st va e q => by
  cases va with
  | lst s w => cases e; rw [← w.length] at q; exact ⟨_, _, rfl, .inl ⟨_, .of s, rfl⟩, q.same st (.int _)⟩
  | tup s w => cases e; rw [← w.length] at q; exact ⟨_, _, rfl, .inr ⟨_, zc7 st.sub s, rfl⟩, q.same st (.int _)⟩
  | str x =>
    simp only [dLen] at e
    split at e
    · cases e; exact ⟨_, _, rfl, ⟨by assumption, rfl⟩, q.same st (.int _)⟩
    · cases e
  | _ => cases e
def zif : List D → Option (List Bool)
  | [] => some []
  | .bl b :: r => (zif r).map (b :: ·)
  | _ :: _ => none
theorem zl9 : ∀ {ds : List D} {vs : List V} {bs : List Bool}, WdA K F vs ds → zif ds = some bs → vs = bs.map V.bl
  | [], _, _, w, e => by cases w; cases e; rfl
  | d :: ds, _, _, w, e => by
    cases w with
    | cons a r =>
      cases d <;> simp only [zif] at e <;> first | (cases e; done) | skip
      rename_i b
      cases q : zif ds with
      | none => rw [q] at e; cases e
      | some cs =>
        rw [q] at e; cases e
        have h := zl9 r q
        cases a
        rw [h]; rfl
def dAll : D → Option D
  | .lst xs => (zif xs).map fun bs => .bl (bs.all id)
  | _ => none
def dAny : D → Option D
  | .lst xs => (zif xs).map fun bs => .bl (bs.any id)
  | _ => none
theorem zd5 : zlw K (rAll K) (o1 dAll) := o1_ok fun ι F H S v a c Q st va e q => by
  cases va <;> simp only [dAll] at e <;> first | (cases e; done) | skip
  rename_i s w
  cases z : zif _ with
  | none => rw [z] at e; cases e
  | some bs =>
    rw [z] at e; cases e
    exact ⟨_, bs, rfl, by rw [← zl9 w z]; exact .of s, q.same st (.bl _)⟩
theorem dAny_ok : zlw K (rAny K) (o1 dAny) := o1_ok fun ι F H S v a c Q st va e q => by
  cases va <;> simp only [dAny] at e <;> first | (cases e; done) | skip
  rename_i s w
  cases z : zif _ with
  | none => rw [z] at e; cases e
  | some bs =>
    rw [z] at e; cases e
    exact ⟨_, bs, rfl, by rw [← zl9 w z]; exact .of s, q.same st (.bl _)⟩
def zhf : List D → Option (List Int)
  | [] => some []
  | .int b :: r => (zhf r).map (b :: ·)
  | _ :: _ => none
theorem zl0 : ∀ {ds : List D} {vs : List V} {bs : List Int}, WdA K F vs ds → zhf ds = some bs → vs = bs.map V.int
  | [], _, _, w, e => by cases w; cases e; rfl
  | d :: ds, _, _, w, e => by
    cases w with
    | cons a r =>
      cases d <;> simp only [zhf] at e <;> first | (cases e; done) | skip
      rename_i b
      cases q : zhf ds with
      | none => rw [q] at e; cases e
      | some cs =>
        rw [q] at e; cases e
        have h := zl0 r q
        cases a
        rw [h]; rfl
def dInt : D → Option D
  | .int i => some (.int i)
  | .bl b => some (.int (if b then 1 else 0))
  | _ => none
theorem zfh : zlw K (fun xs H Q => (∃ i, xs = [.int i] ∧ Q (.int i) H) ∨ ∃ k, xs = [.bl k] ∧ Q (.int (if k then 1 else 0)) H) (o1 dInt) := o1_ok fun ι F H S v a c Q st va e q => by
  cases va <;> cases e
  · exact .inr ⟨_, rfl, q.same st (.int _)⟩
  · exact .inl ⟨_, rfl, q.same st (.int _)⟩
def dList : D → Option D
  | .lst xs => some (.lst xs)
  | .tup xs => some (.lst xs)
  | _ => none
theorem dList_ok : zlw K (fun xs H Q => ∃ p ys, xs = [.ref p] ∧ (SqL K H p ys ∨ SqT K H p ys) ∧ ∀ l, H l = none → Q (.ref l) (upd H l (.lst ys))) (o1 dList) := o1_ok fun ι F H S v a c Q st va e q => by
  cases va with
  | lst s w => cases e; exact ⟨_, _, rfl, .inl (.of s), fun l hl => q.lst st w hl⟩
  | tup s w => cases e; exact ⟨_, _, rfl, .inr (zc7 st.sub s), fun l hl => q.lst st w hl⟩
  | _ => cases e
def ziv : D → Option D
  | .lst xs => some (.tup xs)
  | .tup xs => some (.tup xs)
  | _ => none
theorem zg9 : zlw K (fun xs H Q => ∃ p ys, xs = [.ref p] ∧ ((SqL K H p ys ∧ ∀ l, H l = none → Q (.ref l) (upd H l (.tup ys))) ∨ (SqT K H p ys ∧ Q (.ref p) H))) (o1 ziv) := o1_ok fun ι F H S v a c Q st va e q => by
  cases va with
  | lst s w => cases e; exact ⟨_, _, rfl, .inl ⟨.of s, fun l hl => q.tup st w hl⟩⟩
  | tup s w => cases e; exact ⟨_, _, rfl, .inr ⟨zc7 st.sub s, q.same st (.tup s w)⟩⟩
  | _ => cases e
end
end DL
set_option maxHeartbeats 4000000
namespace DL
open PySem PySem.Spec PyProof.Rows L2
section
variable {X : Cx} {W : WX} {e a b c : Expr} {es : List Expr} {pos p : Pos} {K : PySem.W.Frag} {ι : List Addr} {F H : Hp} {S : zaf}
/-! ## and, or, not, conditional expressions; tests -/
def xAnd (f g : XFn) : XFn := fun ρ S => (f ρ S).bind fun x S1 => match x with
  | .dat (.bl true) => g ρ S1
  | .dat (.bl false) => .ok (.dat (.bl false)) S1
  | _ => .bad
def xOr (f g : XFn) : XFn := fun ρ S => (f ρ S).bind fun x S1 => match x with
  | .dat (.bl false) => g ρ S1
  | .dat (.bl true) => .ok (.dat (.bl true)) S1
  | _ => .bad
def nDV (x : DV) (S : zaf) : Res DV := match x with
  | .dat (.bl c) => .ok (.dat (.bl (!c))) S
  | _ => .bad
def xNot (f : XFn) : XFn := fun ρ S => (f ρ S).bind nDV
theorem zjt {op : BoolOp} {f : XFn} (h : DE X W a f) : DE X W (.BoolOp op [a] pos) f := ⟨pe_one h.pe⟩
theorem zme {f g : XFn} {rest : List Expr} (ha : DE X W a f) (hb : DE X W (.BoolOp .And (b :: rest) pos) g) : DE X W (.BoolOp .And (a :: b :: rest) pos) (xAnd f g) := by
  refine ⟨PE.weak (pe_and ha.pe hb.pe) fun σ H Q ⟨ι, F, ρ, S, r, h⟩ => ?_⟩
  refine tD.bind (g := fun ρ x S1 => match x with
    | .dat (.bl true) => g ρ S1
    | .dat (.bl false) => .ok (.dat (.bl false)) S1
    | _ => .bad) r h fun v dv ι1 F1 S1 H1 r1 w1 g1 h1 => ?_
  split at h1
  · have w' : Wd X.K F1 v (.bl true) := w1
    cases w'
    exact ⟨true, rfl, by rw [if_pos rfl]; exact ⟨ι1, F1, ρ, S1, r1, h1⟩⟩
  · have w' : Wd X.K F1 v (.bl false) := w1
    cases w'
    exact ⟨false, rfl, by rw [if_neg (by simp)]; exact h1 ι1 F1 H1 .refl r1.st _ (.bl _)⟩
  · exact h1.elim
theorem de_or {f g : XFn} {rest : List Expr} (ha : DE X W a f) (hb : DE X W (.BoolOp .Or (b :: rest) pos) g) : DE X W (.BoolOp .Or (a :: b :: rest) pos) (xOr f g) := by
  refine ⟨PE.weak (pe_or ha.pe hb.pe) fun σ H Q ⟨ι, F, ρ, S, r, h⟩ => ?_⟩
  refine tD.bind (g := fun ρ x S1 => match x with
    | .dat (.bl false) => g ρ S1
    | .dat (.bl true) => .ok (.dat (.bl true)) S1
    | _ => .bad) r h fun v dv ι1 F1 S1 H1 r1 w1 g1 h1 => ?_
  split at h1
  · have w' : Wd X.K F1 v (.bl false) := w1
    cases w'
    exact ⟨false, rfl, by rw [if_neg (by simp)]; exact ⟨ι1, F1, ρ, S1, r1, h1⟩⟩
  · have w' : Wd X.K F1 v (.bl true) := w1
    cases w'
    exact ⟨true, rfl, by rw [if_pos rfl]; exact h1 ι1 F1 H1 .refl r1.st _ (.bl _)⟩
  · exact h1.elim
theorem de_not {f : XFn} (ha : DE X W a f) : DE X W (.UnaryOp .Not a pos) (xNot f) := by
  refine ⟨PE.weak (pe_not ha.pe) fun σ H Q ⟨ι, F, ρ, S, r, h⟩ => ?_⟩
  refine tD.bind (g := fun _ => nDV) r h fun v dv ι1 F1 S1 H1 r1 w1 g1 h1 => ?_
  unfold nDV at h1
  split at h1
  · rename_i c
    have w' : Wd X.K F1 v (.bl c) := w1
    cases w'
    exact ⟨_, rfl, h1 ι1 F1 H1 .refl r1.st _ (.bl _)⟩
  · exact h1.elim
def zo8 (x : DV) (S : zaf) : Res Bool := match rd S x with
  | some .non => .ok false S
  | some (.bl b) => .ok b S
  | some (.int i) => .ok (i != 0) S
  | some (.lst xs) => .ok (!xs.isEmpty) S
  | some (.tup xs) => .ok (!xs.isEmpty) S
  | _ => .bad
def tTr (f : XFn) : TFn := fun ρ S => (f ρ S).bind zo8
theorem wda_empty {vs : List V} {ds : List D} (w : WdA K F vs ds) : vs.isEmpty = ds.isEmpty := by
  cases w <;> rfl
theorem zcy {f : XFn} (h : DE X W a f) (he : ∀ whole, isTrue a X.env whole = (do let v ← whole; standAt a.pos; holding [v] (truthy v)) := by intro _; rfl) : DT X W a (tTr f) := by
  refine ⟨PT.weak (pt_truth h.pe he) fun σ H Q ⟨ι, F, ρ, S, r, h⟩ => ?_⟩
  refine tD.bind (g := fun _ => zo8) r h fun v dv ι1 F1 S1 H1 r1 w1 g1 h1 => ?_
  unfold zo8 at h1
  cases ed : rd S1 dv with
  | none => rw [ed] at h1; exact h1.elim
  | some d =>
    rw [ed] at h1
    have vw := r1.st.vw w1 ed
    cases vw with
    | non => exact ⟨false, rfl, h1 ι1 F1 H1 .refl r1.st⟩
    | bl b => exact ⟨b, rfl, h1 ι1 F1 H1 .refl r1.st⟩
    | int i => exact ⟨i != 0, rfl, h1 ι1 F1 H1 .refl r1.st⟩
    | str x => exact h1.elim
    | cas x => exact h1.elim
    | dct x => exact h1.elim
    | lst s w => exact ⟨_, .inl ⟨_, .of s, rfl⟩, by rw [wda_empty w]; exact h1 ι1 F1 H1 .refl r1.st⟩
    | tup s w => exact ⟨_, .inr (.inl ⟨_, zc7 r1.st.sub s, rfl⟩), by rw [wda_empty w]; exact h1 ι1 F1 H1 .refl r1.st⟩
def tNo (f : TFn) : TFn := fun ρ S => (f ρ S).bind fun b S1 => .ok (!b) S1
def tAn (f g : TFn) : TFn := fun ρ S => (f ρ S).bind fun b S1 => if b then g ρ S1 else .ok false S1
def tOr_ (f g : TFn) : TFn := fun ρ S => (f ρ S).bind fun b S1 => if b then .ok true S1 else g ρ S1
theorem zbs {f : TFn} (h : DT X W a f) : DT X W (.UnaryOp .Not a pos) (tNo f) := by
  refine ⟨PT.weak (pt_not h.pt) fun σ H Q ⟨ι, F, ρ, S, r, h⟩ => ?_⟩
  exact tT.bind (g := fun _ b S1 => .ok (!b) S1) r h fun b ι1 F1 S1 H1 r1 g1 h1 => h1 ι1 F1 H1 .refl r1.st
theorem zl1 {f : TFn} (h : DT X W a f) : DW X W (.BoolOp .And [a] pos) f := ⟨pw_and1 h.pt⟩
theorem zfs {f : TFn} (h : DT X W a f) : DW X W (.BoolOp .Or [a] pos) f := ⟨pw_or1 h.pt⟩
theorem zmw {f g : TFn} {rest : List Expr} (ha : DT X W a f) (hb : DW X W (.BoolOp .And (b :: rest) pos) g) : DW X W (.BoolOp .And (a :: b :: rest) pos) (tAn f g) := by
  refine ⟨PW.weak (pw_and ha.pt hb.pw) fun σ H Q ⟨ι, F, ρ, S, r, h⟩ => ?_⟩
  refine tT.bind (g := fun ρ b S1 => if b then g ρ S1 else .ok false S1) r h fun b ι1 F1 S1 H1 r1 g1 h1 => ?_
  cases b with
  | true => rw [if_pos rfl]; exact ⟨ι1, F1, ρ, S1, r1, h1⟩
  | false => rw [if_neg (by simp)]; exact h1 ι1 F1 H1 .refl r1.st
theorem zhn {f g : TFn} {rest : List Expr} (ha : DT X W a f) (hb : DW X W (.BoolOp .Or (b :: rest) pos) g) : DW X W (.BoolOp .Or (a :: b :: rest) pos) (tOr_ f g) := by
  refine ⟨PW.weak (pw_or ha.pt hb.pw) fun σ H Q ⟨ι, F, ρ, S, r, h⟩ => ?_⟩
  refine tT.bind (g := fun ρ b S1 => if b then .ok true S1 else g ρ S1) r h fun b ι1 F1 S1 H1 r1 g1 h1 => ?_
  cases b with
  | true => rw [if_pos rfl]; exact h1 ι1 F1 H1 .refl r1.st
  | false => rw [if_neg (by simp)]; exact ⟨ι1, F1, ρ, S1, r1, h1⟩
theorem DW.dt {f : TFn} (h : DW X W a f) : DT X W a f := ⟨h.pw.pt⟩
def xIf (t : TFn) (f g : XFn) : XFn := fun ρ S => (t ρ S).bind fun b S1 => if b then f ρ S1 else g ρ S1
theorem de_if {t : TFn} {f g : XFn} (hc : DT X W c t) (ha : DE X W a f) (hb : DE X W b g) : DE X W (.IfExp c a b pos) (xIf t f g) := by
  refine ⟨PE.weak (pe_ifExp hc.pt ha.pe hb.pe) fun σ H Q ⟨ι, F, ρ, S, r, h⟩ => ?_⟩
  refine tT.bind (g := fun ρ b S1 => if b then f ρ S1 else g ρ S1) r h fun b ι1 F1 S1 H1 r1 g1 h1 => ?_
  cases b with
  | true => rw [if_pos rfl]; exact ⟨ι1, F1, ρ, S1, r1, h1⟩
  | false => rw [if_neg (by simp)]; exact ⟨ι1, F1, ρ, S1, r1, h1⟩
theorem de_chain {op op' : CmpOp} {r r' : R2} {o o' : Op2} {f g k : XFn} (ho : OpR X (compareOp op) r) (ho' : OpR X (compareOp op') r') (k1 : OpOk X.K r o) (k2 : OpOk X.K r' o') (ha : DE X W a f) (hb : DE X W b g) (hc : DE X W c k)
    (hm : lastMarks [op, op'] [b, c] = false := by rfl) : DE X W (.Compare a [op, op'] [b, c] pos) (zmi o o' f g k) := by
  refine ⟨PE.weak (pe_chain ho ho' ha.pe hb.pe hc.pe hm) fun σ H Q ⟨ι, F, ρ, S, r0, h⟩ => ?_⟩
  refine tD.bind (g := fun ρ x S1 => (g ρ S1).bind fun y S2 => (o x y S2).bind fun z S3 => match z with
    | .dat (.bl true) => (k ρ S3).bind fun w S4 => o' y w S4
    | .dat (.bl false) => .ok (.dat (.bl false)) S3
    | _ => .bad) r0 h fun v dv ι1 F1 S1 H1 r1 w1 g1 h1 => ?_
  refine tD.bind (g := fun ρ y S2 => (o dv y S2).bind fun z S3 => match z with
    | .dat (.bl true) => (k ρ S3).bind fun w S4 => o' y w S4
    | .dat (.bl false) => .ok (.dat (.bl false)) S3
    | _ => .bad) r1 h1 fun u du ι2 F2 S2 H2 r2 w2 g2 h2 => ?_
  refine k1 X.mg (fun c d H' => W c d σ H') ι2 F2 H2 S2 v u dv du _ r2.st (w1.grow g2) w2 ?_
  cases q : o dv du S2 with
  | ex c S3 => rw [q] at h2; exact h2
  | bad => rw [q] at h2; exact h2
  | ok z S3 =>
    rw [q] at h2
    intro ι3 F3 H3 g3 st3 zv wz
    have h3 := Post.grow (r := (match z with
      | .dat (.bl true) => (k ρ S3).bind fun w S4 => o' du w S4
      | .dat (.bl false) => .ok (.dat (.bl false)) S3
      | _ => .bad)) h2 g3
    have r3 := r2.slots g3 st3
    split at h3
    · have w' : Wd X.K F3 zv (.bl true) := wz
      cases w'
      refine ⟨true, rfl, ?_⟩
      rw [if_pos rfl]
      refine tD.bind (g := fun ρ w S4 => o' du w S4) r3 h3 fun t dt ι4 F4 S4 H4 r4 w4 g4 h4 => ?_
      exact k2 _ _ ι4 F4 H4 S4 u t du dt Q r4.st ((w2.grow g3).grow g4) w4 h4
    · have w' : Wd X.K F3 zv (.bl false) := wz
      cases w'
      exact ⟨false, rfl, by rw [if_neg (by simp)]; exact h3 ι3 F3 H3 .refl st3 _ (.bl _)⟩
    · exact h3.elim
end
/-! ## statements -/
inductive RS where
  | nx (ρ : zat) (S : zaf) | rt (v : DV) (S : zaf) | bk (ρ : zat) (S : zaf) | ct (ρ : zat) (S : zaf) | ex (c : XC) (ρ : zat) (S : zaf) | bad
abbrev SFn := zat → zaf → RS
def PostS (K : PySem.W.Frag) (mg : Str → Option Value) (W : WX) (ι : List Addr) (F H : Hp) (r : RS) (D : Ends) : Prop := match r with
  | .nx ρ' S' => ∀ σ' ι' F' H', Grow ι F H ι' F' H' → RR K ι' F' ρ' S' σ' H' → D.nx σ' H'
  | .rt dv S' => ∀ v ι' F' H', Grow ι F H ι' F' H' → StR K ι' F' S' H' → WV K ι' F' v dv → D.rt v H'
  | .bk ρ' S' => ∀ σ' ι' F' H', Grow ι F H ι' F' H' → RR K ι' F' ρ' S' σ' H' → D.bk σ' H'
  | .ct ρ' S' => ∀ σ' ι' F' H', Grow ι F H ι' F' H' → RR K ι' F' ρ' S' σ' H' → D.ct σ' H'
  | .ex c ρ' S' => ∀ (C : Addr × Option Addr) σ' ι' F' H', Grow ι F H ι' F' H' → RR K ι' F' ρ' S' σ' H' → XIs K mg F' c C → W (.ref C.1) C.2 σ' H'
  | .bad => False
def tS (X : Cx) (W : WX) (f : SFn) : TS := fun D σ H => ∃ ι F ρ S, RR X.K ι F ρ S σ H ∧ PostS X.K X.mg W ι F H (f ρ S) D
structure DS (X : Cx) (W : WX) (st : Stmt) (f : SFn) : Prop where
  ps : ∃ t, PS X st t ∧ ∀ D σ H, tS X W f D σ H → t D σ H
structure DSs (X : Cx) (W : WX) (st : List Stmt) (f : SFn) : Prop where
  ps : ∃ t, PSs X st t ∧ ∀ D σ H, tS X W f D σ H → t D σ H
section
variable {X : Cx} {W : WX} {e a b c : Expr} {es : List Expr} {pos p : Pos} {K : PySem.W.Frag} {ι : List Addr} {F H : Hp} {S : zaf} {mg : Str → Option Value}
theorem PostS.grow {r : RS} {D : Ends} {ι1 : List Addr} {F1 H1 : Hp} (h : PostS K mg W ι F H r D) (g : Grow ι F H ι1 F1 H1) : PostS K mg W ι1 F1 H1 r D := by
  cases r with
  | nx ρ' S' => exact fun σ' ι' F' H' g' r => h σ' ι' F' H' (g.trans g') r
  | bk ρ' S' => exact fun σ' ι' F' H' g' r => h σ' ι' F' H' (g.trans g') r
  | ct ρ' S' => exact fun σ' ι' F' H' g' r => h σ' ι' F' H' (g.trans g') r
  | rt dv S' => exact fun v ι' F' H' g' st w => h v ι' F' H' (g.trans g') st w
  | ex c ρ' S' => exact fun C σ' ι' F' H' g' r m => h C σ' ι' F' H' (g.trans g') r m
  | bad => exact h
def Res.bindS {α : Type} (r : Res α) (ρ : zat) (f : α → zaf → RS) : RS := match r with
  | .ok a S => f a S
  | .ex c S => .ex c ρ S
  | .bad => .bad
@[simp] theorem Res.bindS_ok {α : Type} (a : α) (S : zaf) (ρ : zat) (f : α → zaf → RS) : (Res.ok a S).bindS ρ f = f a S := rfl
@[simp] theorem Res.bindS_ex {α : Type} (c : XC) (S : zaf) (ρ : zat) (f : α → zaf → RS) : (Res.ex c S : Res α).bindS ρ f = .ex c ρ S := rfl
@[simp] theorem Res.bindS_bad {α : Type} (ρ : zat) (f : α → zaf → RS) : (Res.bad : Res α).bindS ρ f = .bad := rfl
theorem tD.bindS {f : XFn} {g : zat → DV → zaf → RS} {σ : L2.St} {H : Hp} {R : VK} {D : Ends} {ι : List Addr} {F : Hp} {ρ : zat} {S : zaf} (r : RR X.K ι F ρ S σ H)
    (h : PostS X.K X.mg W ι F H ((f ρ S).bindS ρ (g ρ)) D)
    (k : ∀ v dv ι1 F1 S1 H1, RR X.K ι1 F1 ρ S1 σ H1 → WV X.K ι1 F1 v dv → Grow ι F H ι1 F1 H1 → PostS X.K X.mg W ι1 F1 H1 (g ρ dv S1) D → R v H1) : tD X W f σ H R := by
  refine ⟨ι, F, ρ, S, r, ?_⟩
  cases q : f ρ S with
  | ok dv S1 =>
    rw [q] at h
    exact fun ι1 F1 H1 g1 st v wv => k v dv ι1 F1 S1 H1 (r.slots g1 st) wv g1 (PostS.grow (r := g ρ dv S1) h g1)
  | ex c S1 => rw [q] at h; exact fun C ι' F' H' g' st m => h C σ ι' F' H' g' (r.slots g' st) m
  | bad => rw [q] at h; exact h
theorem tT.bindS {f : TFn} {g : zat → Bool → zaf → RS} {σ : L2.St} {H : Hp} {R : Bool → Hp → Prop} {D : Ends} {ι : List Addr} {F : Hp} {ρ : zat} {S : zaf} (r : RR X.K ι F ρ S σ H)
    (h : PostS X.K X.mg W ι F H ((f ρ S).bindS ρ (g ρ)) D)
    (k : ∀ b ι1 F1 S1 H1, RR X.K ι1 F1 ρ S1 σ H1 → Grow ι F H ι1 F1 H1 → PostS X.K X.mg W ι1 F1 H1 (g ρ b S1) D → R b H1) : tT X W f σ H R := by
  refine ⟨ι, F, ρ, S, r, ?_⟩
  cases q : f ρ S with
  | ok b S1 =>
    rw [q] at h
    exact fun ι1 F1 H1 g1 st => k b ι1 F1 S1 H1 (r.slots g1 st) g1 (PostS.grow (r := g ρ b S1) h g1)
  | ex c S1 => rw [q] at h; exact fun C ι' F' H' g' st m => h C σ ι' F' H' g' (r.slots g' st) m
  | bad => rw [q] at h; exact h
theorem RR.set {ρ : zat} {σ : L2.St} (r : RR K ι F ρ S σ H) {v : V} {dv : DV} (w : WV K ι F v dv) (i : Nat) : RR K ι F (ρ.set i (some dv)) S (σ.set i (some v)) H := by
  refine ⟨r.st, by simp [r.len], fun j d e => ?_⟩
  by_cases h : i = j
  · subst h
    rw [List.getElem?_set] at e ⊢
    rw [← r.len]
    split at e
    · split at e
      · rename_i h2
        simp at e; subst e
        exact ⟨v, by simp [h2], w⟩
      · cases e
    · rename_i h2; exact absurd rfl h2
  · rw [List.getElem?_set_ne h] at e ⊢
    exact r.slot j d e
theorem RR.unset {ρ : zat} {σ : L2.St} (r : RR K ι F ρ S σ H) (i : Nat) : RR K ι F (ρ.set i none) S (σ.set i none) H := by
  refine ⟨r.st, by simp [r.len], fun j d e => ?_⟩
  by_cases h : i = j
  · subst h
    rw [List.getElem?_set] at e
    split at e
    · split at e <;> cases e
    · rename_i h2; exact absurd rfl h2
  · rw [List.getElem?_set_ne h] at e ⊢
    exact r.slot j d e
def sNil : SFn := fun ρ S => .nx ρ S
def sSeq (f g : SFn) : SFn := fun ρ S => match f ρ S with
  | .nx ρ' S' => g ρ' S'
  | r => r
theorem zaq : DSs X W [] sNil := ⟨_, pss_nil, fun D σ H ⟨ι, F, ρ, S, r, h⟩ => h σ ι F H .refl r⟩
theorem tS.seq {f g : SFn} {D : Ends} {σ : L2.St} {H : Hp} (h : tS X W (sSeq f g) D σ H) : tS X W f { D with nx := tS X W g D } σ H := by
  obtain ⟨ι, F, ρ, S, r, h⟩ := h
  refine ⟨ι, F, ρ, S, r, ?_⟩
  unfold sSeq at h
  cases q : f ρ S with
  | nx ρ' S' => rw [q] at h; exact fun σ' ι' F' H' g' r' => ⟨ι', F', ρ', S', r', PostS.grow (r := g ρ' S') h g'⟩
  | rt dv S' => rw [q] at h; exact h
  | bk ρ' S' => rw [q] at h; exact h
  | ct ρ' S' => rw [q] at h; exact h
  | ex c ρ' S' => rw [q] at h; exact h
  | bad => rw [q] at h; exact h
theorem tS.mono {f : SFn} {D D' : Ends} {σ : L2.St} {H : Hp} (h : tS X W f D σ H) (k1 : ∀ σ H, D.nx σ H → D'.nx σ H) (k2 : ∀ v H, D.rt v H → D'.rt v H) (k3 : ∀ σ H, D.bk σ H → D'.bk σ H) (k4 : ∀ σ H, D.ct σ H → D'.ct σ H) : tS X W f D' σ H := by
  obtain ⟨ι, F, ρ, S, r, h⟩ := h
  refine ⟨ι, F, ρ, S, r, ?_⟩
  cases q : f ρ S with
  | nx ρ' S' => rw [q] at h; exact fun σ' ι' F' H' g' r' => k1 _ _ (h σ' ι' F' H' g' r')
  | rt dv S' => rw [q] at h; exact fun v ι' F' H' g' st w => k2 _ _ (h v ι' F' H' g' st w)
  | bk ρ' S' => rw [q] at h; exact fun σ' ι' F' H' g' r' => k3 _ _ (h σ' ι' F' H' g' r')
  | ct ρ' S' => rw [q] at h; exact fun σ' ι' F' H' g' r' => k4 _ _ (h σ' ι' F' H' g' r')
  | ex c ρ' S' => rw [q] at h; exact h
  | bad => rw [q] at h; exact h
theorem zae {st : Stmt} {rest : List Stmt} {f g : SFn} (h : DS X W st f) (k : DSs X W rest g) : DSs X W (st :: rest) (sSeq f g) := by
  obtain ⟨t, p, i⟩ := h.ps
  obtain ⟨u, q, j⟩ := k.ps
  exact ⟨_, pss_cons p q, fun D σ H h => i _ σ H (h.seq.mono (fun σ H => j D σ H) (fun _ _ x => x) (fun _ _ x => x) (fun _ _ x => x))⟩
theorem zag {st : Stmt} {f : SFn} (h : DS X W st f) : DSs X W [st] f := let ⟨t, p, i⟩ := h.ps; ⟨t, pss_one p, i⟩
def sRet (f : XFn) : SFn := fun ρ S => (f ρ S).bindS ρ fun v S1 => .rt v S1
theorem zam {f : XFn} (h : DE X W e f) : DS X W (.Return (some e) pos) (sRet f) :=
  ⟨_, ps_ret h.pe, fun D σ H ⟨ι, F, ρ, S, r, h⟩ => tD.bindS (g := fun _ v S1 => .rt v S1) r h fun v dv ι1 F1 S1 H1 r1 w1 g1 h1 => h1 v ι1 F1 H1 .refl r1.st w1⟩
def sSet (i : Nat) (f : XFn) : SFn := fun ρ S => (f ρ S).bindS ρ fun v S1 => .nx (ρ.set i (some v)) S1
theorem zba {i : Nat} {x : Str} {f : XFn} {p2 : Pos} (h : DE X W e f) (hN : X.N.Nodup) (hi : X.N[i]? = some x := by rfl) (hx : Loc X.env.scope x := by first | exact .inl rfl | exact .inr rfl) (hs : swapsWith e (some (.Name x p2)) pos.line X.env = pure false := by rfl)
    (hf : X.fn x = true ∨ X.env.scope.names.lookup x = some .local := by exact .inl rfl) (hs2 : swapsWithSole [.Name x p2] e pos.line X.env = pure false := by rfl) : DS X W (.Assign [.Name x p2] e pos) (sSet i f) :=
  ⟨_, ps_asg h.pe (pg_name hN hi hx hf) hs2, fun D σ H ⟨ι, F, ρ, S, r, h⟩ => tD.bindS (g := fun ρ v S1 => .nx (ρ.set i (some v)) S1) r h fun v dv ι1 F1 S1 H1 r1 w1 g1 h1 => h1 _ ι1 F1 H1 .refl (r1.set w1 i)⟩
def zm7 (f : XFn) : SFn := fun ρ S => (f ρ S).bindS ρ fun _ S1 => .nx ρ S1
theorem zie {f : XFn} (h : DE X W e f) (hs : swapsWith e none pos.line X.env = pure false := by rfl) : DS X W (.Expr e pos) (zm7 f) :=
  ⟨_, ps_expr h.pe hs, fun D σ H ⟨ι, F, ρ, S, r, h⟩ => tD.bindS (g := fun ρ v S1 => .nx ρ S1) r h fun v dv ι1 F1 S1 H1 r1 w1 g1 h1 => h1 _ ι1 F1 H1 .refl r1⟩
def sIf (t : TFn) (f g : SFn) : SFn := fun ρ S => (t ρ S).bindS ρ fun b S1 => if b then f ρ S1 else g ρ S1
theorem zbr {t : TFn} {f g : SFn} {sa sb : List Stmt} (hc : DT X W c t) (ha : DSs X W sa f) (hb : DSs X W sb g) : DS X W (.If c sa sb pos) (sIf t f g) := by
  obtain ⟨t1, p1, i1⟩ := ha.ps
  obtain ⟨t2, p2, i2⟩ := hb.ps
  refine ⟨_, ps_if hc.pt p1 p2, fun D σ H ⟨ι, F, ρ, S, r, h⟩ => ?_⟩
  refine tT.bindS (g := fun ρ b S1 => if b then f ρ S1 else g ρ S1) r h fun b ι1 F1 S1 H1 r1 g1 h1 => ?_
  cases b with
  | true => rw [if_pos rfl]; exact i1 _ _ _ ⟨ι1, F1, ρ, S1, r1, h1⟩
  | false => rw [if_neg (by simp)]; exact i2 _ _ _ ⟨ι1, F1, ρ, S1, r1, h1⟩
def sCnt : SFn := fun ρ S => .ct ρ S
theorem ds_continue : DS X W (.Continue pos) sCnt := ⟨_, ps_continue, fun D σ H ⟨ι, F, ρ, S, r, h⟩ => h σ ι F H .refl r⟩
end
end DL
set_option maxHeartbeats 4000000
namespace DL
open PySem PySem.Spec PyProof.Rows L2
section
variable {X : Cx} {W : WX} {e a b c : Expr} {es : List Expr} {pos p : Pos} {K : PySem.W.Frag} {ι : List Addr} {F H : Hp} {S : zaf} {mg : Str → Option Value}
/-! ## lists of the store -/
theorem StR.put (st : StR K ι F S H) {k : Nat} {a : Addr} {us : List V} {vs : List V} {ds : List D} (hk : ι[k]? = some a) (hF : F a = none) (hH : H a = some (.lst us)) (w : WdA K F vs ds) : StR K ι F (S.set k (some ds)) (upd H a (.lst vs)) := by
  refine ⟨fun b u e => ?_, by simp [st.len], st.nd, fun b hb => zly (st.full b hb), fun j es e => ?_, st.tb.lst hH _, st.tf⟩
  · have n : b ≠ a := fun z => by rw [z, hF] at e; cases e
    rw [upd_ne n]; exact st.sub b u e
  · by_cases h : k = j
    · subst h
      rw [List.getElem?_set] at e
      split at e
      · split at e
        · simp at e; subst e
          exact ⟨a, vs, hk, upd_same, hF, w⟩
        · cases e
      · rename_i h2; exact absurd rfl h2
    · rw [List.getElem?_set_ne h] at e
      obtain ⟨a', vs', h1, h2, h3, h4⟩ := st.cell j es e
      have n : a' ≠ a := fun z => by
        subst z
        obtain ⟨i1, g1⟩ := List.getElem?_eq_some_iff.mp hk
        obtain ⟨i2, g2⟩ := List.getElem?_eq_some_iff.mp h1
        exact h ((List.getElem_inj st.nd).mp (by rw [g1, g2]))
      exact ⟨a', vs', h1, by rw [upd_ne n]; exact h2, h3, h4⟩
theorem zqh {k : Nat} {a : Addr} {o : HO} (hk : ι[k]? = some a) : Grow ι F H ι F (upd H a o) := by
  have m : a ∈ ι := List.mem_of_getElem? hk
  exact ⟨List.prefix_rfl, Same.refl _, fun b u e _ n => by rw [upd_ne (fun z => n (by rw [z]; exact m))]; exact e, fun b u e _ _ f _ => f, fun b h => .inl h, fun b h => zc9 h⟩
theorem StR.freeze (st : StR K ι F S H) {k : Nat} {a : Addr} {vs : List V} (hk : ι[k]? = some a) (hF : F a = none) (hH : H a = some (.lst vs)) : StR K ι (upd F a (.lst vs)) (S.set k none) H ∧ Grow ι F H ι (upd F a (.lst vs)) H ∧ Same F (upd F a (.lst vs)) := by
  have m : a ∈ ι := List.mem_of_getElem? hk
  have s : Same F (upd F a (.lst vs)) := fun b u e => by rw [upd_ne (fun z => by rw [z, hF] at e; cases e)]; exact e
  refine ⟨⟨fun b u e => ?_, by simp [st.len], st.nd, st.full, fun j es e => ?_, st.tb, st.tb.off st.tf (fun ps z => by rw [hH] at z; cases z) _⟩, ⟨List.prefix_rfl, s, fun b u e _ n => e, fun b u e _ _ f n => by rw [upd_ne (fun z => n (by rw [z]; exact m))]; exact f, fun b h => .inl h, fun b h => h⟩, s⟩
  · by_cases h : b = a
    · subst h; rw [upd_same] at e; rw [hH]; exact e
    · rw [upd_ne h] at e; exact st.sub b u e
  · by_cases h : k = j
    · subst h
      rw [List.getElem?_set] at e
      split at e
      · split at e <;> cases e
      · rename_i h2; exact absurd rfl h2
    · rw [List.getElem?_set_ne h] at e
      obtain ⟨a', vs', h1, h2, h3, h4⟩ := st.cell j es e
      have n : a' ≠ a := fun z => by
        subst z
        obtain ⟨i1, g1⟩ := List.getElem?_eq_some_iff.mp hk
        obtain ⟨i2, g2⟩ := List.getElem?_eq_some_iff.mp h1
        exact h ((List.getElem_inj st.nd).mp (by rw [g1, g2]))
      exact ⟨a', vs', h1, h2, by rw [upd_ne n]; exact h3, h4.mono s⟩
theorem StR.add (st : StR K ι F S H) {p : Addr} {vs : List V} {ds : List D} (hH : H p = some (.lst vs)) (hF : F p = none) (hι : p ∉ ι) (w : WdA K F vs ds) : StR K (ι ++ [p]) F (S ++ [some ds]) H := by
  refine ⟨st.sub, by simp [st.len], List.nodup_append.mpr ⟨st.nd, by simp, fun x hx y hy => by simp at hy; subst hy; exact fun z => hι (z ▸ hx)⟩, fun b hb => by
    rcases List.mem_append.mp hb with h | h
    · exact st.full b h
    · simp at h; subst h; rw [hH]; simp, fun j es e => ?_, st.tb, st.tf⟩
  by_cases h : j < S.length
  · rw [List.getElem?_append_left h] at e
    obtain ⟨a', vs', h1, h2, h3, h4⟩ := st.cell j es e
    exact ⟨a', vs', by rw [List.getElem?_append_left (by rw [st.len]; exact h)]; exact h1, h2, h3, h4⟩
  · have h' := (List.getElem?_eq_some_iff.mp e).1
    simp at h'
    have : j = S.length := by omega
    subst this
    simp at e
    subst e
    exact ⟨p, vs, by rw [← st.len]; simp, hH, hF, w⟩
/-! ### new lists -/
abbrev LFn := zat → zaf → Res (List D)
def tN (X : Cx) (W : WX) (f : LFn) : TE := fun σ H Q => ∃ ι F ρ S, RR X.K ι F ρ S σ H ∧ Post X.K X.mg (fun c d H' => W c d σ H') ι F H (f ρ S) fun ds ι' F' H' =>
  ∀ p vs, H p = none → H' p = some (.lst vs) → F' p = none → p ∉ ι' → WdA X.K F' vs ds → Q (.ref p) H'
structure NE (X : Cx) (W : WX) (e : Expr) (f : LFn) : Prop where
  pe : PE X e (tN X W f)
def xN1 (f : LFn) : XFn := fun ρ S => (f ρ S).bind fun ds S1 => .ok (.dat (.lst ds)) S1
theorem grow_freeze {ι' : List Addr} {F' H' : Hp} (g : Grow ι F H ι' F' H') {p : Addr} {o : HO} (hp : H p = none) (hF : F' p = none) : Grow ι F H ι' (upd F' p o) H' :=
  ⟨g.pre, fun b u e => by rw [upd_ne (fun z => by have := g.sf b u e; rw [z, hF] at this; cases this)]; exact g.sf b u e, g.keep, fun b u e t t2 f n => by rw [upd_ne (fun z => by rw [z, hp] at e; cases e)]; exact g.new b u e t t2 f n, g.nio, g.dom⟩
theorem StR.frz (st : StR K ι F S H) {p : Addr} {vs : List V} (hH : H p = some (.lst vs)) (hF : F p = none) (hι : p ∉ ι) : StR K ι (upd F p (.lst vs)) S H ∧ Same F (upd F p (.lst vs)) := by
  have s : Same F (upd F p (.lst vs)) := fun b u e => by rw [upd_ne (fun z => by rw [z, hF] at e; cases e)]; exact e
  refine ⟨⟨fun b u e => ?_, st.len, st.nd, st.full, fun j es e => ?_, st.tb, st.tb.off st.tf (fun ps z => by rw [hH] at z; cases z) _⟩, s⟩
  · by_cases h : b = p
    · subst h; rw [upd_same] at e; rw [hH]; exact e
    · rw [upd_ne h] at e; exact st.sub b u e
  · obtain ⟨a', vs', h1, h2, h3, h4⟩ := st.cell j es e
    have n : a' ≠ p := fun z => hι (z ▸ List.mem_of_getElem? h1)
    exact ⟨a', vs', h1, h2, by rw [upd_ne n]; exact h3, h4.mono s⟩
theorem tD.toN {f : LFn} {σ : L2.St} {H : Hp} {Q : VK} (h : tD X W (xN1 f) σ H Q) : tN X W f σ H Q := by
  obtain ⟨ι, F, ρ, S, r, h⟩ := h
  refine ⟨ι, F, ρ, S, r, ?_⟩
  unfold xN1 at h
  cases q : f ρ S with
  | bad => rw [q] at h; exact h
  | ex c S1 => rw [q] at h; exact h
  | ok ds S1 =>
    rw [q] at h
    intro ι' F' H' g st p vs hp hH hF hι w
    obtain ⟨st', s⟩ := st.frz hH hF hι
    exact h ι' _ H' (grow_freeze g hp hF) st' (.ref p) (.lst upd_same (w.mono s))
theorem NE.de {f : LFn} (h : NE X W e f) : DE X W e (xN1 f) := ⟨PE.weak h.pe fun σ H Q h => h.toN⟩
def sNew (i : Nat) (f : LFn) : SFn := fun ρ S => (f ρ S).bindS ρ fun ds S1 => .nx (ρ.set i (some (.obj S1.length))) (S1 ++ [some ds])
theorem znh {ι' : List Addr} {F' H' : Hp} (g : Grow ι F H ι' F' H') {p : Addr} (hp : H p = none) : Grow ι F H (ι' ++ [p]) F' H' :=
  ⟨g.pre.trans (List.prefix_append _ _), g.sf, g.keep, g.new, fun b h => by
    rcases List.mem_append.mp h with h | h
    · exact g.nio b h
    · simp at h; subst h; exact .inr hp, g.dom⟩
theorem tS.new {i : Nat} {f : LFn} {D : Ends} {σ : L2.St} {H : Hp} (h : tS X W (sNew i f) D σ H) : tN X W f σ H fun v H1 => D.nx (σ.set i (some v)) H1 := by
  obtain ⟨ι, F, ρ, S, r, h⟩ := h
  refine ⟨ι, F, ρ, S, r, ?_⟩
  unfold sNew at h
  cases q : f ρ S with
  | bad => rw [q] at h; exact h
  | ex c S1 => rw [q] at h; exact fun C ι' F' H' g st m => h C σ ι' F' H' g (r.slots g st) m
  | ok ds S1 =>
    rw [q] at h
    intro ι' F' H' g st p vs hp hH hF hι w
    have r1 := r.slots (znh g hp) (st.add hH hF hι w)
    exact h _ _ F' H' (znh g hp) (r1.set (dv := .obj S1.length) ⟨p, by rw [← st.len]; simp, rfl⟩ i)
theorem tS.set {i : Nat} {f : XFn} {D : Ends} {σ : L2.St} {H : Hp} (h : tS X W (sSet i f) D σ H) : tD X W f σ H fun v H1 => D.nx (σ.set i (some v)) H1 := by
  obtain ⟨ι, F, ρ, S, r, h⟩ := h
  exact tD.bindS (g := fun ρ v S1 => .nx (ρ.set i (some v)) S1) r h fun v dv ι1 F1 S1 H1 r1 w1 g1 h1 => h1 _ ι1 F1 H1 .refl (r1.set w1 i)
theorem ds_new {i : Nat} {x : Str} {f : LFn} {p2 : Pos} (h : NE X W e f) (hN : X.N.Nodup) (hi : X.N[i]? = some x := by rfl) (hx : Loc X.env.scope x := by first | exact .inl rfl | exact .inr rfl)
    (hf : X.fn x = true ∨ X.env.scope.names.lookup x = some .local := by exact .inl rfl) (hs2 : swapsWithSole [.Name x p2] e pos.line X.env = pure false := by rfl) : DS X W (.Assign [.Name x p2] e pos) (sNew i f) :=
  ⟨_, ps_asg h.pe (pg_name hN hi hx hf) hs2, fun D σ H h => h.new⟩
def lLst (f : AFn) : LFn := fun ρ S => (f ρ S).bind fun ds S1 => match dats ds with
  | some xs => if xs.length ≤ sizeLine then .ok xs S1 else .bad
  | none => .bad
theorem znm {Q : VK} {ι1 : List Addr} {F1 H1 : Hp} {S1 : zaf} {xs : List D} {vs : List V} {E : XK} (st : StR K ι1 F1 S1 H1) (g : Grow ι F H ι1 F1 H1)
    (h : Post K mg E ι1 F1 H1 (.ok xs S1) fun ds ι' F' H' => ∀ p vs, H p = none → H' p = some (.lst vs) → F' p = none → p ∉ ι' → WdA K F' vs ds → Q (.ref p) H')
    (w : WdA K F1 vs xs) {p : Addr} (hp : H1 p = none) : Q (.ref p) (upd H1 p (.lst vs)) := by
  have hF : F1 p = none := by
    cases q : F1 p with
    | none => rfl
    | some o => rw [st.sub p o q] at hp; cases hp
  exact h ι1 F1 _ (zf_ hp _) (st.alone hp _) p vs (g.dom p hp) upd_same hF (fun m => st.full p m hp) w
theorem ne_lst {f : AFn} (h : DA X W es f) : NE X W (.List es pos) (lLst f) := by
  refine ⟨PE.weak (pe_lst h.pa) fun σ H Q ⟨ι, F, ρ, S, r, h⟩ => ?_⟩
  refine tA.bind (g := fun _ ds S1 => match dats ds with
    | some xs => if xs.length ≤ sizeLine then .ok xs S1 else .bad
    | none => .bad) r h fun vs ds ι1 F1 S1 H1 r1 w1 g1 h1 => ?_
  cases q : dats ds with
  | none => simp only [q] at h1; exact h1.elim
  | some xs =>
    simp only [q] at h1
    have wx := w1.dats q
    by_cases hl : xs.length ≤ sizeLine
    · simp only [hl, if_true] at h1
      exact ⟨by rw [wx.length]; exact hl, fun p hp => znm r1.st g1 h1 wx hp⟩
    · simp only [hl, if_false] at h1; exact h1.elim
def lList (f : XFn) : LFn := fun ρ S => (f ρ S).bind fun x S1 => match rd S1 x with
  | some (.lst xs) => .ok xs S1
  | some (.tup xs) => .ok xs S1
  | _ => .bad
theorem ne_list {f : XFn} {p2 : Pos} (h : DE X W a f) (hm : X.mg "list" = none) (hg : Gl X "list" := by rfl)
    (he : starEach (a :: []) X.env = (false, eval a X.env) :: starEach [] X.env := by rfl) : NE X W (.Call (.Name "list" p) [a] [] pos) (lList f) := by
  refine ⟨PE.weak (pe_callTy call_list_of hg hm (by decide +kernel) (pa_cons h.pe pa_nil he) (by decide) (by decide) he rfl) fun σ H Q ⟨ι, F, ρ, S, r, h⟩ => ?_⟩
  refine tD.bind (g := fun _ x S1 => match rd S1 x with
    | some (.lst xs) => .ok xs S1
    | some (.tup xs) => .ok xs S1
    | _ => .bad) r h fun v dv ι1 F1 S1 H1 r1 w1 g1 h1 => ?_
  cases ed : rd S1 dv with
  | none => simp only [ed] at h1; exact h1.elim
  | some d =>
    have vw := r1.st.vw w1 ed
    cases vw with
    | lst s w => simp only [ed] at h1; exact ⟨_, _, rfl, .inl (.of s), fun l hl => znm r1.st g1 h1 w hl⟩
    | tup s w => simp only [ed] at h1; exact ⟨_, _, rfl, .inr (zc7 r1.st.sub s), fun l hl => znm r1.st g1 h1 w hl⟩
    | _ => simp only [ed] at h1; exact h1.elim
/-! ### x.append(e) and its like: statements -/
def zd4 (S : zaf) : DV → Option (Nat × List D)
  | .obj k => match S[k]? with
    | some (some ds) => some (k, ds)
    | _ => none
  | _ => none
theorem znp {S : zaf} {x : DV} {k : Nat} {ds : List D} {v : V} (st : StR K ι F S H) (w : WV K ι F v x) (e : zd4 S x = some (k, ds)) : ∃ a vs, v = .ref a ∧ ι[k]? = some a ∧ H a = some (.lst vs) ∧ F a = none ∧ WdA K F vs ds := by
  cases x with
  | dat d => cases e
  | scr ns => cases e
  | exn c p => cases e
  | fn _ => cases e
  | obj j =>
    simp only [zd4] at e
    split at e
    · rename_i es q
      cases e
      obtain ⟨a, h1, h2⟩ := w
      obtain ⟨a', vs, h3, h4, h5, h6⟩ := st.cell _ _ q
      rw [h1] at h3; cases h3
      exact ⟨a, vs, h2, h1, h4, h5, h6⟩
    · cases e
def putApp (x y : DV) (ρ : zat) (S : zaf) : RS := match zd4 S x, y with
  | some (k, ds), .dat d => if ds.length < sizeLine then .nx ρ (S.set k (some (ds ++ [d]))) else .bad
  | _, _ => .bad
def sApp (f g : XFn) : SFn := fun ρ S => (f ρ S).bindS ρ fun x S1 => match zd4 S1 x with
  | some _ => (g ρ S1).bindS ρ fun y S2 => putApp x y ρ S2
  | none => .bad
theorem cell_view {S : zaf} {x : DV} {z : Nat × List D} {v : V} (st : StR K ι F S H) (w : WV K ι F v x) (e : zd4 S x = some z) : tyV K "list" v H := by
  obtain ⟨k, ds⟩ := z
  obtain ⟨a, vs, rfl, h1, h2, h3, h4⟩ := znp st w e
  exact .inl ⟨rfl, vs, .of h2⟩
theorem ds_append {o : Expr} {f g : XFn} {apos : Pos} (ho : DE X W o f) (ha : DE X W a g)
    (hbase : attributeBase o "append" X.env (eval o X.env) = eval o X.env := by rfl)
    (hfew : ((backTo p (starEach (a :: []) X.env)).all (fun x => !x.1) && (backToKw p (keywordEach [] X.env)).all (fun x => x.1.isSome)
      && decide ((a :: []).length + ([] : List Keyword).length + (if ([] : List Keyword).isEmpty then 0 else 1) < 30)) = true := by rfl)
    (hline : (apos.endLine == p.line) = true := by rfl) (hse : starEach (a :: []) X.env = (false, eval a X.env) :: starEach [] X.env := by rfl)
    (hs : swapsWith (.Call (.Attribute o "append" apos) [a] [] p) none pos.line X.env = pure false := by rfl) :
    DS X W (.Expr (.Call (.Attribute o "append" apos) [a] [] p) pos) (sApp f g) := by
  refine ⟨_, ps_expr (pe_bm PySem.F.plainAttrs_list PySem.F.slot_list_append PySem.F.type_list_append mt_append ho.pe (pa_cons ha.pe pa_nil hse) hbase hfew hline hse rfl) hs, fun D σ H ⟨ι, F, ρ, S, r, h⟩ => ?_⟩
  refine tD.bindS (g := fun ρ x S1 => match zd4 S1 x with
    | some _ => (g ρ S1).bindS ρ fun y S2 => putApp x y ρ S2
    | none => .bad) r h fun v dv ι1 F1 S1 H1 r1 w1 g1 h1 => ?_
  cases ec : zd4 S1 dv with
  | none => simp only [ec] at h1; exact h1.elim
  | some z =>
    simp only [ec] at h1
    refine ⟨cell_view r1.st w1 ec, ?_⟩
    refine tD.bindS (g := fun ρ y S2 => putApp dv y ρ S2) r1 h1 fun u du ι2 F2 S2 H2 r2 w2 g2 h2 => ?_
    unfold putApp at h2
    cases ec2 : zd4 S2 dv with
    | none => simp only [ec2] at h2; exact h2.elim
    | some z2 =>
      obtain ⟨k, ds⟩ := z2
      simp only [ec2] at h2
      cases du with
      | dat d =>
        simp only at h2
        split at h2
        · rename_i hl
          obtain ⟨a, vs, rfl, q1, q2, q3, q4⟩ := znp r2.st (w1.grow g2) ec2
          refine ⟨a, vs, u, rfl, rfl, q2, by rw [q4.length]; exact hl, ?_⟩
          have gp := zqh (F := F2) (H := H2) (o := .lst (vs ++ [u])) q1
          exact h2 σ ι2 F2 _ gp (r2.slots gp (r2.st.put q1 q3 q2 (q4.append (.cons w2 .nil))))
        · exact h2.elim
      | _ => exact h2.elim
end
end DL
set_option maxHeartbeats 4000000
namespace DL
open PySem PySem.Spec PyProof.Rows L2
section
variable {X : Cx} {W : WX} {e a b c : Expr} {es : List Expr} {pos p : Pos} {K : PySem.W.Frag} {ι : List Addr} {F H : Hp} {S : zaf} {mg : Str → Option Value}
def putExt (x y : DV) (ρ : zat) (S : zaf) : RS := match zd4 S x, y with
  | some (k, ds), .dat (.lst es) => if ds.length + es.length ≤ sizeLine then .nx ρ (S.set k (some (ds ++ es))) else .bad
  | _, _ => .bad
def sExt (f g : XFn) : SFn := fun ρ S => (f ρ S).bindS ρ fun x S1 => match zd4 S1 x with
  | some _ => (g ρ S1).bindS ρ fun y S2 => putExt x y ρ S2
  | none => .bad
theorem ds_extend {o : Expr} {f g : XFn} {apos : Pos} (ho : DE X W o f) (ha : DE X W a g)
    (hbase : attributeBase o "extend" X.env (eval o X.env) = eval o X.env := by rfl)
    (hfew : ((backTo p (starEach (a :: []) X.env)).all (fun x => !x.1) && (backToKw p (keywordEach [] X.env)).all (fun x => x.1.isSome)
      && decide ((a :: []).length + ([] : List Keyword).length + (if ([] : List Keyword).isEmpty then 0 else 1) < 30)) = true := by rfl)
    (hline : (apos.endLine == p.line) = true := by rfl) (hse : starEach (a :: []) X.env = (false, eval a X.env) :: starEach [] X.env := by rfl)
    (hs : swapsWith (.Call (.Attribute o "extend" apos) [a] [] p) none pos.line X.env = pure false := by rfl) :
    DS X W (.Expr (.Call (.Attribute o "extend" apos) [a] [] p) pos) (sExt f g) := by
  refine ⟨_, ps_expr (pe_bm PySem.F.plainAttrs_list PySem.F.slot_list_extend PySem.F.type_list_extend mt_extend ho.pe (pa_cons ha.pe pa_nil hse) hbase hfew hline hse rfl) hs, fun D σ H ⟨ι, F, ρ, S, r, h⟩ => ?_⟩
  refine tD.bindS (g := fun ρ x S1 => match zd4 S1 x with
    | some _ => (g ρ S1).bindS ρ fun y S2 => putExt x y ρ S2
    | none => .bad) r h fun v dv ι1 F1 S1 H1 r1 w1 g1 h1 => ?_
  cases ec : zd4 S1 dv with
  | none => simp only [ec] at h1; exact h1.elim
  | some z =>
    simp only [ec] at h1
    refine ⟨cell_view r1.st w1 ec, ?_⟩
    refine tD.bindS (g := fun ρ y S2 => putExt dv y ρ S2) r1 h1 fun u du ι2 F2 S2 H2 r2 w2 g2 h2 => ?_
    unfold putExt at h2
    cases ec2 : zd4 S2 dv with
    | none => simp only [ec2] at h2; exact h2.elim
    | some z2 =>
      obtain ⟨k, ds⟩ := z2
      simp only [ec2] at h2
      cases du with
      | dat d =>
        cases d with
        | lst es =>
          have vu := r2.st.vw w2 (d := .lst es) rfl
          cases vu with
          | lst su wu =>
            rename_i a2 us
            simp only at h2
            split at h2
            · rename_i hl
              obtain ⟨a, vs, rfl, q1, q2, q3, q4⟩ := znp r2.st (w1.grow g2) ec2
              refine ⟨a, _, vs, _, rfl, rfl, q2, su, by rw [q4.length, wu.length]; exact hl, ?_⟩
              have gp := zqh (F := F2) (H := H2) (o := .lst (vs ++ us)) q1
              exact h2 σ ι2 F2 _ gp (r2.slots gp (r2.st.put q1 q3 q2 (q4.append wu)))
            · exact h2.elim
        | _ => exact h2.elim
      | _ => exact h2.elim
/-! ### x.insert(i, e) -/
/-! ### x[i] = e -/
def zqq (x i y : DV) (ρ : zat) (S : zaf) : RS := match zd4 S x, i, y with
  | some (k, ds), .dat (.int n), .dat d => (match ixN ds.length n with
    | some j => .nx ρ (S.set k (some (ds.set j d)))
    | none => .bad)
  | _, _, _ => .bad
def sPut (f i g : XFn) : SFn := fun ρ S => (g ρ S).bindS ρ fun y S1 => (f ρ S1).bindS ρ fun x S2 => (i ρ S2).bindS ρ fun n S3 => zqq x n y ρ S3
theorem ds_put {o : Expr} {f i g : XFn} {p2 : Pos} (ho : DE X W o f) (hi : DE X W a i) (hb : DE X W b g)
    (ha : ∀ v, assign (.Subscript o a p2) X.env v = (do
      let ov ← holding [v] (eval o X.env)
      let iv ← holding [v, ov] (eval a X.env)
      standAt p2
      holding [v, ov, iv] (setItem ov iv v)
      release [v, ov, iv] []) := by intro _; rfl)
    (hs : swapsWithSole [.Subscript o a p2] b pos.line X.env = pure false := by rfl) :
    DS X W (.Assign [.Subscript o a p2] b pos) (sPut f i g) := by
  refine ⟨_, ps_asg hb.pe (pg_sub ho.pe hi.pe set_list ha) hs, fun D σ H ⟨ι, F, ρ, S, r, h⟩ => ?_⟩
  refine tD.bindS (g := fun ρ y S1 => (f ρ S1).bindS ρ fun x S2 => (i ρ S2).bindS ρ fun n S3 => zqq x n y ρ S3) r h fun v dv ι1 F1 S1 H1 r1 w1 g1 h1 => ?_
  refine tD.bindS (g := fun ρ x S2 => (i ρ S2).bindS ρ fun n S3 => zqq x n dv ρ S3) r1 h1 fun o dx ι2 F2 S2 H2 r2 w2 g2 h2 => ?_
  refine tD.bindS (g := fun ρ n S3 => zqq dx n dv ρ S3) r2 h2 fun n dn ι3 F3 S3 H3 r3 w3 g3 h3 => ?_
  unfold zqq at h3
  cases ec2 : zd4 S3 dx with
  | none => simp only [ec2] at h3; exact h3.elim
  | some z2 =>
    obtain ⟨k, ds⟩ := z2
    simp only [ec2] at h3
    cases dn with
    | dat d =>
      cases d with
      | int j =>
        have wj : Wd X.K F3 n (.int j) := w3
        cases wj
        cases dv with
        | dat d =>
          simp only at h3
          cases ej : ixN ds.length j with
          | none => simp only [ej] at h3; exact h3.elim
          | some m =>
            simp only [ej] at h3
            obtain ⟨a, vs, rfl, q1, q2, q3, q4⟩ := znp r3.st (w2.grow g3) ec2
            refine ⟨a, vs, j, m, rfl, rfl, q2, by rw [q4.length]; exact ej, ?_⟩
            have gp := zqh (F := F3) (H := H3) (o := .lst (vs.set m v)) q1
            exact h3 σ ι3 F3 _ gp (r3.slots gp (r3.st.put q1 q3 q2 (q4.set m ((w1.grow g2).grow g3))))
        | _ => exact h3.elim
      | _ => exact h3.elim
    | _ => exact h3.elim
/-! ### a list of the store is not changed any more: from here on it is data -/
def sFrz (i : Nat) : SFn := fun ρ S => match ρ[i]? with
  | some (some x) => (match zd4 S x with
    | some (k, ds) => .nx (ρ.set i (some (.dat (.lst ds)))) (S.set k none)
    | none => .bad)
  | _ => .bad
theorem RR.frz {ρ : zat} {σ : L2.St} (r : RR K ι F ρ S σ H) {i : Nat} {x : DV} {k : Nat} {ds : List D} (h : ρ[i]? = some (some x)) (ec : zd4 S x = some (k, ds)) :
    ∃ F', Grow ι F H ι F' H ∧ RR K ι F' (ρ.set i (some (.dat (.lst ds)))) (S.set k none) σ H := by
  obtain ⟨v, h1, w⟩ := r.slot i x h
  obtain ⟨a, vs, rfl, q1, q2, q3, q4⟩ := znp r.st w ec
  obtain ⟨st, g, s⟩ := r.st.freeze q1 q3 q2
  refine ⟨_, g, st, by simp [r.len], fun j dv e => ?_⟩
  by_cases hij : i = j
  · subst hij
    rw [List.getElem?_set] at e
    split at e
    · split at e
      · simp at e; subst e
        exact ⟨_, h1, Wd.lst upd_same (q4.mono s)⟩
      · cases e
    · rename_i h2; exact absurd rfl h2
  · rw [List.getElem?_set_ne hij] at e
    obtain ⟨v', h2, w'⟩ := r.slot j dv e
    exact ⟨v', h2, w'.grow g⟩
theorem dss_frz {i : Nat} {st : List Stmt} {f : SFn} (h : DSs X W st f) : DSs X W st (sSeq (sFrz i) f) := by
  obtain ⟨t, q, j⟩ := h.ps
  refine ⟨t, q, fun D σ H ⟨ι, F, ρ, S, r, h⟩ => j D σ H ?_⟩
  unfold sSeq sFrz at h
  cases ex : ρ[i]? with
  | none => simp only [ex] at h; exact h.elim
  | some o =>
    cases o with
    | none => simp only [ex] at h; exact h.elim
    | some x =>
      simp only [ex] at h
      cases ec : zd4 S x with
      | none => simp only [ec] at h; exact h.elim
      | some z =>
        obtain ⟨k, ds⟩ := z
        simp only [ec] at h
        obtain ⟨F', g, r'⟩ := r.frz ex ec
        exact ⟨ι, F', _, _, r', PostS.grow (r := f _ _) h g⟩
end
end DL
set_option maxHeartbeats 4000000
namespace DL
open PySem PySem.Spec PyProof.Rows L2
section
variable {X : Cx} {W : WX} {e a b c : Expr} {es : List Expr} {pos p : Pos} {K : PySem.W.Frag} {ι : List Addr} {F H : Hp} {S : zaf} {mg : Str → Option Value}
/-! ## targets -/
abbrev GFn := D → zat → Option zat
abbrev GsFn := List D → zat → Option zat
theorem wipe_comm (σ : L2.St) (i : Nat) (o : Option V) (h : ∀ vs : List Nat, True) : ∀ vs : List Nat, (i ∈ vs → wipe (σ.set i o) vs = wipe σ vs) ∧ (i ∉ vs → wipe (σ.set i o) vs = (wipe σ vs).set i o)
  | [] => ⟨fun z => absurd z (by simp), fun _ => rfl⟩
  | v :: vs => by
    obtain ⟨h1, h2⟩ := wipe_comm σ i o h vs
    refine ⟨fun m => ?_, fun m => ?_⟩
    · show (wipe (σ.set i o) vs).set v none = (wipe σ vs).set v none
      by_cases q : i ∈ vs
      · rw [h1 q]
      · rw [h2 q]
        have e : i = v := by
          rcases List.mem_cons.mp m with z | z
          · exact z
          · exact absurd z q
        subst e
        rw [List.set_set]
    · have q : i ∉ vs := fun z => m (List.mem_cons_of_mem _ z)
      have n : v ≠ i := fun z => m (by rw [z]; exact List.mem_cons_self)
      show (wipe (σ.set i o) vs).set v none = ((wipe σ vs).set v none).set i o
      rw [h2 q, List.set_comm _ _ n]
theorem wipe_set {σ : L2.St} {i : Nat} {o : Option V} {vs : List Nat} (m : i ∈ vs) : wipe (σ.set i o) vs = wipe σ vs := (wipe_comm σ i o (fun _ => trivial) vs).1 m
def Only (sl : List Nat) (σ σ' : L2.St) : Prop := ∀ vs : List Nat, (∀ i ∈ sl, i ∈ vs) → wipe σ' vs = wipe σ vs
structure DG (X : Cx) (tg : Expr) (sl : List Nat) (g : GFn) : Prop where
  pg : ∃ t, PG X tg t ∧ ∀ v σ H Q ι F ρ S d ρ', RR X.K ι F ρ S σ H → Wd X.K F v d → g d ρ = some ρ' → (∀ σ', RR X.K ι F ρ' S σ' H → Only sl σ σ' → Q σ' H) → t v σ H Q
structure DGs (X : Cx) (tgs : List Expr) (sl : List Nat) (g : GsFn) : Prop where
  pg : ∃ t, PGs X tgs t ∧ ∀ vs σ H Q ι F ρ S ds ρ', RR X.K ι F ρ S σ H → WdA X.K F vs ds → g ds ρ = some ρ' → (∀ σ', RR X.K ι F ρ' S σ' H → Only sl σ σ' → Q σ' H) → t vs σ H Q
def gNm (i : Nat) : GFn := fun d ρ => some (ρ.set i (some (.dat d)))
def gNo : GsFn := fun ds ρ => match ds with
  | [] => some ρ
  | _ => none
def gCo (g : GFn) (gs : GsFn) : GsFn := fun ds ρ => match ds with
  | d :: r => (g d ρ).bind (gs r)
  | [] => none
def gTp (gs : GsFn) : GFn := fun d ρ => match d with
  | .tup ds => gs ds ρ
  | _ => none
theorem zaj {i : Nat} {x : Str} (hN : X.N.Nodup) (hi : X.N[i]? = some x := by rfl) (hx : Loc X.env.scope x := by first | exact .inl rfl | exact .inr rfl)
    (hf : X.fn x = true ∨ X.env.scope.names.lookup x = some .local := by first | exact .inl rfl | exact .inr rfl) : DG X (.Name x pos) [i] (gNm i) := by
  refine ⟨_, pg_name hN hi hx hf, fun v σ H Q ι F ρ S d ρ' r w e k => ?_⟩
  cases e
  exact k _ (r.set (dv := .dat d) w i) fun vs h => wipe_set (h i (by simp))
theorem zc2 : DGs X [] [] gNo := by
  refine ⟨_, pgs_nil, fun vs σ H Q ι F ρ S ds ρ' r w e k => ?_⟩
  unfold gNo at e
  split at e
  · cases e; cases w
    exact ⟨rfl, k σ r fun _ _ => rfl⟩
  · cases e
theorem zan {sl sl' : List Nat} {g : GFn} {gs : GsFn} (h : DG X a sl g) (k : DGs X es sl' gs) (hs : (assignEach (a :: es) X.env).map (·.2) = assign a X.env :: (assignEach es X.env).map (·.2) := by rfl) : DGs X (a :: es) (sl ++ sl') (gCo g gs) := by
  obtain ⟨t, p, i⟩ := h.pg
  obtain ⟨u, q, j⟩ := k.pg
  refine ⟨_, pgs_cons p q hs, fun vs σ H Q ι F ρ S ds ρ' r w e k => ?_⟩
  cases ds with
  | nil => cases e
  | cons d ds =>
    cases w with
    | cons w ws =>
      simp only [gCo] at e
      cases q1 : g d ρ with
      | none => rw [q1] at e; cases e
      | some ρ1 =>
        rw [q1] at e
        refine ⟨_, _, rfl, i _ σ H _ ι F ρ S d ρ1 r w q1 fun σ1 r1 o1 => j _ σ1 H Q ι F ρ1 S ds ρ' r1 ws e fun σ2 r2 o2 => k σ2 r2 fun vs hv => ?_⟩
        rw [o2 vs (fun i m => hv i (List.mem_append_right _ m)), o1 vs (fun i m => hv i (List.mem_append_left _ m))]
def GLen (gs : GsFn) (n : Nat) : Prop := ∀ ds ρ ρ', gs ds ρ = some ρ' → ds.length = n
theorem zb2 : GLen gNo 0 := fun ds ρ ρ' e => by
  unfold gNo at e
  split at e
  · rfl
  · cases e
theorem zal {g : GFn} {gs : GsFn} {n : Nat} (h : GLen gs n) : GLen (gCo g gs) (n + 1) := fun ds ρ ρ' e => by
  cases ds with
  | nil => cases e
  | cons d ds =>
    simp only [gCo] at e
    cases q1 : g d ρ with
    | none => rw [q1] at e; cases e
    | some ρ1 => rw [q1] at e; simp [h ds ρ1 ρ' e]
theorem zet {sl : List Nat} {gs : GsFn} {k n : Nat} (hc : X.calm = true) (h : DGs X es sl gs) (hl : GLen gs n) (hn : (assignEach es X.env).length = n := by rfl) (hst : (assignEach es X.env).findIdx? (·.1) = none := by rfl) : DG X (.Tuple es k pos) sl (gTp gs) := by
  obtain ⟨t, p, i⟩ := h.pg
  refine ⟨_, pg_tup hc p hn hst, fun v σ H Q ι F ρ S d ρ' r w e k => ?_⟩
  cases d <;> simp only [gTp] at e <;> first | (cases e; done) | skip
  rename_i ds
  cases w with
  | tup s w => exact ⟨_, _, rfl, zc7 r.st.sub s, by rw [w.length]; exact hl ds ρ ρ' e, i _ σ H Q ι F ρ S ds ρ' r w e k⟩
def sTg (g : GFn) (f : XFn) : SFn := fun ρ S => (f ρ S).bindS ρ fun v S1 => match v with
  | .dat d => (match g d ρ with
    | some ρ' => .nx ρ' S1
    | none => .bad)
  | _ => .bad
theorem zjy {sl : List Nat} {g : GFn} {f : XFn} {tg : Expr} (h : DE X W e f) (hg : DG X tg sl g) (hs : swapsWithSole [tg] e pos.line X.env = pure false := by rfl) (hw : swappedStores [tg] e X.env = pure none := by rfl) (h1 : (assignEach [tg] X.env).map (·.2) = [assign tg X.env] := by rfl) : DS X W (.Assign [tg] e pos) (sTg g f) := by
  obtain ⟨t, p, i⟩ := hg.pg
  refine ⟨_, ps_asg h.pe p hs hw h1, fun D σ H ⟨ι, F, ρ, S, r, h⟩ => ?_⟩
  refine tD.bindS (g := fun ρ v S1 => match v with
    | .dat d => (match g d ρ with
      | some ρ' => .nx ρ' S1
      | none => .bad)
    | _ => .bad) r h fun v dv ι1 F1 S1 H1 r1 w1 g1 h1 => ?_
  cases dv with
  | dat d =>
    simp only at h1
    cases q : g d ρ with
    | none => simp only [q] at h1; exact h1.elim
    | some ρ' => simp only [q] at h1; exact i v σ H1 _ ι1 F1 ρ S1 d ρ' r1 w1 q fun σ' r' o => h1 σ' ι1 F1 H1 .refl r'
  | _ => exact h1.elim
/-! ## what is walked -/
def ItOk (K : PySem.W.Frag) (F' : Hp) (ds : List D) (J : It) : Prop := ∃ (G : Hp → Prop) (Y : Nat → Hp → V → Hp → Prop), Walk J ds.length G Y ∧ (∀ ι F1 S1 H1, StR K ι F1 S1 H1 → Same F' F1 → G H1) ∧
  ∀ ι F1 S1 H1 i x H2, StR K ι F1 S1 H1 → Same F' F1 → i < ds.length → Y i H1 x H2 → ∃ F2 d, Grow ι F1 H1 ι F2 H2 ∧ StR K ι F2 S1 H2 ∧ ds[i]? = some d ∧ Wd K F2 x d
def tI (X : Cx) (W : WX) (f : LFn) : TI := fun σ H R => ∃ ι F ρ S, RR X.K ι F ρ S σ H ∧ Post X.K X.mg (fun c d H' => W c d σ H') ι F H (f ρ S) fun ds ι' F' H' => ∀ J, ItOk X.K F' ds J → R J H'
structure DI (X : Cx) (W : WX) (tg e : Expr) (f : LFn) : Prop where
  pi : ∃ t, PI X tg e t ∧ ∀ σ H R, tI X W f σ H R → t σ H R
theorem itOk_list {F1 : Hp} {a : Addr} {vs : List V} {ds : List D} (s : F1 a = some (.lst vs)) (w : WdA K F1 vs ds) : ItOk K F1 ds (Itl K a) := by
  refine ⟨fun H => SqL K H a vs, YAt vs, by rw [← w.length]; exact walk_list, fun ι F2 S2 H2 st sm => .of (st.sub _ _ (sm _ _ s)), fun ι F2 S2 H2 i x H3 st sm hi y => ?_⟩
  obtain ⟨rfl, hx⟩ := y
  obtain ⟨d, h1, h2⟩ := w.get hx
  exact ⟨F2, d, .refl, st, h1, h2.mono sm⟩
theorem itOk_tup {F1 : Hp} {a : Addr} {vs : List V} {ds : List D} (s : SqT K F1 a vs) (w : WdA K F1 vs ds) : ItOk K F1 ds (Itt K a) := by
  refine ⟨fun H => SqT K H a vs, YAt vs, by rw [← w.length]; exact walk_tup, fun ι F2 S2 H2 st sm => zc7 st.sub (zc7 sm s), fun ι F2 S2 H2 i x H3 st sm hi y => ?_⟩
  obtain ⟨rfl, hx⟩ := y
  obtain ⟨d, h1, h2⟩ := w.get hx
  exact ⟨F2, d, .refl, st, h1, h2.mono sm⟩
def zmd (lo : Int) (n : Nat) : List D := (List.range n).map fun i => .int (lo + (i : Nat))
theorem itOk_range {F1 : Hp} {lo : Int} {n : Nat} : ItOk K F1 (zmd lo n) (Itr lo n) := by
  refine ⟨fun _ => True, YFn fun i => .int (lo + i), by rw [show (zmd lo n).length = n by simp [zmd]]; exact walk_range, fun _ _ _ _ _ _ => trivial, fun ι F2 S2 H2 i x H3 st sm hi y => ?_⟩
  obtain ⟨rfl, rfl⟩ := y
  exact ⟨F2, .int (lo + i), .refl, st, by simp [zmd] at hi ⊢; exact ⟨i, by simp [hi], rfl⟩, .int _⟩
def rng1 (ds : List DV) (S : zaf) : Res (List D) := match ds with
  | [.dat (.int j)] => if -(2 ^ 62) ≤ j ∧ j < 2 ^ 62 then .ok (zmd 0 j.toNat) S else .bad
  | _ => .bad
def rng2 (ds : List DV) (S : zaf) : Res (List D) := match ds with
  | [.dat (.int i), .dat (.int j)] => if -(2 ^ 62) ≤ i ∧ i < 2 ^ 62 ∧ -(2 ^ 62) ≤ j ∧ j < 2 ^ 62 then .ok (zmd i (j - i).toNat) S else .bad
  | _ => .bad
def lRg1 (f : AFn) : LFn := fun ρ S => (f ρ S).bind rng1
def lRg2 (f : AFn) : LFn := fun ρ S => (f ρ S).bind rng2
theorem zdo {tg : Expr} {f : AFn} (h : DA X W [a] f) (hm : X.mg "range" = none) (hg : Gl X "range" := by rfl) (hs : starEach [a] X.env = [(false, eval a X.env)] := by rfl) : DI X W tg (.Call (.Name "range" p) [a] [] pos) (lRg1 f) := by
  refine ⟨_, pi_range1 hg hm h.pa hs, fun σ H R ⟨ι, F, ρ, S, r, h⟩ => ?_⟩
  refine tA.bind (g := fun _ => rng1) r h fun vs ds ι1 F1 S1 H1 r1 w1 g1 h1 => ?_
  unfold rng1 at h1
  split at h1
  · rename_i j
    split at h1
    · rename_i hl
      cases w1 with
      | cons w ws =>
        cases ws
        have w' : Wd X.K F1 _ (.int j) := w
        cases w'
        exact ⟨j, rfl, hl.1, hl.2, h1 ι1 F1 H1 .refl r1.st _ itOk_range⟩
    · exact h1.elim
  · exact h1.elim
/-! ## for -/
def zez (g : GFn) (f : SFn) : List D → zat → zaf → RS
  | [], ρ, S => .nx ρ S
  | d :: ds, ρ, S => match g d ρ with
    | none => .bad
    | some ρ1 => (match f ρ1 S with
      | .nx ρ2 S2 => zez g f ds ρ2 S2
      | .ct ρ2 S2 => zez g f ds ρ2 S2
      | .bk ρ2 S2 => .nx ρ2 S2
      | r => r)
def sFor (l : LFn) (g : GFn) (f : SFn) : SFn := fun ρ S => (l ρ S).bindS ρ fun ds S1 => zez g f ds ρ S1
theorem zhg {iter tg : Expr} {body : List Stmt} {l : LFn} {sl : List Nat} {g : GFn} {f : SFn} (hp : PassesOwn (model X.prog X.w) X.A X.env X.xe) (hc : X.calm = true) (hi : DI X W tg iter l) (hg : DG X tg sl g) (hb : DSs X W body f)
    (hs : ∀ x, foldedSetIterable iter X.env x = pure x := by intro _; rfl) : DS X W (.For tg iter body [] pos) (sFor l g f) := by
  obtain ⟨ti, pi, ki⟩ := hi.pi
  obtain ⟨tg', pg, kg⟩ := hg.pg
  obtain ⟨tb, pb, kb⟩ := hb.ps
  refine ⟨_, ps_for hp hc pi pg pb hs, fun D σ H ⟨ι, F, ρ, S, r, h⟩ => ki _ _ _ ⟨ι, F, ρ, S, r, ?_⟩⟩
  unfold sFor at h
  cases q : l ρ S with
  | bad => rw [q] at h; exact h
  | ex c S1 => rw [q] at h; exact fun C ι' F' H' g st m => h C σ ι' F' H' g (r.slots g st) m
  | ok ds S1 =>
    rw [q] at h
    intro ι1 F1 H1 g1 st1 J ⟨G, Y, w, hG, hY⟩
    refine for_it w (fun i σ' H' => ∃ ι2 F2 ρ2 S2, RR X.K ι2 F2 ρ2 S2 σ' H' ∧ Grow ι1 F1 H1 ι2 F2 H' ∧ PostS X.K X.mg W ι2 F2 H' (zez g f (ds.drop i) ρ2 S2) D)
      ⟨ι1, F1, ρ, S1, r.slots g1 st1, .refl, PostS.grow (r := zez g f ds ρ S1) h g1⟩ (fun i σ' H' _ ⟨ι2, F2, ρ2, S2, r2, g2, _⟩ => hG ι2 F2 S2 H' r2.st g2.sf) (fun i x σ' H' H2 hi ⟨ι2, F2, ρ2, S2, r2, g2, h2⟩ y => ?_) (fun σ' H' ⟨ι2, F2, ρ2, S2, r2, g2, h2⟩ => ?_)
    · obtain ⟨F3, d, g3, st3, hd, wd⟩ := hY ι2 F2 S2 H' i x H2 r2.st g2.sf hi y
      have ed : ds.drop i = d :: ds.drop (i + 1) := by
        rw [List.drop_eq_getElem_cons hi]
        obtain ⟨_, h⟩ := List.getElem?_eq_some_iff.mp hd
        rw [h]
      rw [ed] at h2
      simp only [zez] at h2
      have r3 := r2.slots g3 st3
      cases e1 : g d ρ2 with
      | none => simp only [e1] at h2; exact h2.elim
      | some ρ3 =>
        simp only [e1] at h2
        refine kg x σ' H2 _ ι2 F3 ρ2 S2 d ρ3 r3 wd e1 fun σ3 r3' _ => kb _ _ _ ⟨ι2, F3, ρ3, S2, r3', ?_⟩
        have gg := g2.trans g3
        cases e2 : f ρ3 S2 with
        | nx ρ4 S4 => simp only [e2] at h2; exact fun σ4 ι4 F4 H4 g4 r4 => ⟨ι4, F4, ρ4, S4, r4, gg.trans g4, PostS.grow (r := zez g f _ ρ4 S4) h2 (g3.trans g4)⟩
        | ct ρ4 S4 => simp only [e2] at h2; exact fun σ4 ι4 F4 H4 g4 r4 => ⟨ι4, F4, ρ4, S4, r4, gg.trans g4, PostS.grow (r := zez g f _ ρ4 S4) h2 (g3.trans g4)⟩
        | bk ρ4 S4 => simp only [e2] at h2; exact fun σ4 ι4 F4 H4 g4 r4 => h2 σ4 ι4 F4 H4 (g3.trans g4) r4
        | rt dv S4 => simp only [e2] at h2; exact fun v ι4 F4 H4 g4 st4 w4 => h2 v ι4 F4 H4 (g3.trans g4) st4 w4
        | ex c ρ4 S4 => simp only [e2] at h2; exact fun C σ4 ι4 F4 H4 g4 r4 m => h2 C σ4 ι4 F4 H4 (g3.trans g4) r4 m
        | bad => simp only [e2] at h2; exact h2
    · rw [List.drop_length] at h2
      exact h2 σ' ι2 F2 H' .refl r2
/-! ## comprehensions -/
def Res.bindN {α β : Type} (r : Res α) (f : α → zaf → Res β) : Res β := match r with
  | .ok a S => f a S
  | _ => .bad
@[simp] theorem Res.bindN_ok {α β : Type} (a : α) (S : zaf) (f : α → zaf → Res β) : (Res.ok a S).bindN f = f a S := rfl
def lcGo (g : GFn) (t : TFn) (f : XFn) (ρ : zat) : List D → zaf → Res (List D)
  | [], S => .ok [] S
  | d :: ds, S => match g d ρ with
    | none => .bad
    | some ρ1 => (t ρ1 S).bindN fun b S1 => if b then (f ρ1 S1).bindN fun y S2 => (match y with
      | .dat z => (lcGo g t f ρ ds S2).bindN fun zs S3 => .ok (z :: zs) S3
      | _ => .bad) else lcGo g t f ρ ds S1
def zis (ρ : zat) : List Nat → zat
  | [] => ρ
  | v :: vs => (zis ρ vs).set v none
def lLc (l : LFn) (own : List Nat) (g : GFn) (t : TFn) (f : XFn) : LFn := fun ρ S => (l ρ S).bind fun ds S1 => if ds.length ≤ sizeLine then lcGo g t f (zis ρ own) ds S1 else .bad
theorem RR.wipe {ρ : zat} {σ : L2.St} (r : RR K ι F ρ S σ H) : ∀ vs : List Nat, RR K ι F (zis ρ vs) S (L2.wipe σ vs) H
  | [] => r
  | v :: vs => (r.wipe vs).unset v
def zcz : TFn := fun _ S => .ok true S
structure DTs (X : Cx) (W : WX) (ifs : List Expr) (t : TFn) : Prop where
  pt : PTs X ifs (tT X W t)
theorem zbx : DTs X W [] zcz := ⟨⟨fun pins s σ H Q I ⟨ι, F, ρ, S, r, h⟩ => pts_nil.run pins s σ H Q I (h ι F H .refl r.st)⟩⟩
theorem zku {t : TFn} (h : DT X W c t) : DTs X W [c] t := ⟨pts_one h.pt⟩
abbrev W0 : WX := fun _ _ _ _ => False
theorem bindN_ok {α β : Type} {r : Res α} {f : α → zaf → Res β} {E : XK} {Q : β → List Addr → Hp → Hp → Prop} (h : Post K mg E ι F H (r.bindN f) Q) : ∃ a S', r = .ok a S' ∧ Post K mg E ι F H (f a S') Q := by
  cases r with
  | ok a S' => exact ⟨a, S', rfl, h⟩
  | ex c S' => exact h.elim
  | bad => exact h.elim
theorem zg6 {α β : Type} {r : Res α} {f : α → zaf → Res β} {b : β} {S' : zaf} (h : r.bindN f = .ok b S') : ∃ a S1, r = .ok a S1 ∧ f a S1 = .ok b S' := by
  cases r with
  | ok a S1 => exact ⟨a, S1, rfl, h⟩
  | ex c S1 => cases h
  | bad => cases h
theorem lcGo_ok {g : GFn} {t : TFn} {f : XFn} {ρ : zat} : ∀ {ds : List D} {S : zaf} {E : XK} {Q : List D → List Addr → Hp → Hp → Prop}, Post K mg E ι F H (lcGo g t f ρ ds S) Q → ∃ zs S', lcGo g t f ρ ds S = .ok zs S'
  | [], S, E, Q, h => ⟨[], S, rfl⟩
  | d :: ds, S, E, Q, h => by
    cases q : lcGo g t f ρ (d :: ds) S with
    | ok zs S' => exact ⟨zs, S', rfl⟩
    | bad => rw [q] at h; exact h.elim
    | ex c S' =>
      exfalso
      clear h
      simp only [lcGo] at q
      split at q
      · cases q
      · have nex : ∀ {α β : Type} (r : Res α) (k : α → zaf → Res β), (∀ a S1 S2, k a S1 ≠ .ex c S2) → ∀ S2, r.bindN k ≠ .ex c S2 := fun r k hk S2 z => by
          cases r with
          | ok a S1 => exact hk a S1 S2 z
          | ex c S1 => cases z
          | bad => cases z
        have rc : ∀ ds S S2, lcGo g t f ρ ds S ≠ .ex c S2 := by
          intro ds
          induction ds with
          | nil => intro S S2 z; cases z
          | cons d ds ih =>
            intro S S2 z
            simp only [lcGo] at z
            split at z
            · cases z
            · refine nex _ _ (fun b S1 S3 => ?_) _ z
              cases b
              · exact ih S1 S3
              · refine nex _ _ (fun y S2 S4 => ?_) S3
                cases y with
                | dat y => exact nex _ _ (fun zs S5 S6 z => by cases z) S4
                | _ => intro z; cases z
        refine nex _ _ (fun b S1 S3 => ?_) _ q
        cases b
        · exact rc ds S1 S3
        · refine nex _ _ (fun y S2 S4 => ?_) S3
          cases y with
          | dat y => exact nex _ _ (fun zs S5 S6 z => by cases z) S4
          | _ => intro z; cases z
end
end DL
set_option maxHeartbeats 4000000
namespace DL
open PySem PySem.Spec PyProof.Rows L2
section
variable {X : Cx} {W : WX} {e a b c : Expr} {es : List Expr} {pos p : Pos} {K : PySem.W.Frag} {ι : List Addr} {F H : Hp} {S : zaf} {mg : Str → Option Value}
def tG (K : PySem.W.Frag) (sl : List Nat) (g : GFn) : TG := fun v σ H Q => ∃ ι F ρ S d ρ', RR K ι F ρ S σ H ∧ Wd K F v d ∧ g d ρ = some ρ' ∧ ∀ σ', RR K ι F ρ' S σ' H → DL.Only sl σ σ' → Q σ' H
theorem DG.canon {tg : Expr} {sl : List Nat} {g : GFn} (h : DG X tg sl g) : PG X tg (tG X.K sl g) := by
  obtain ⟨t, p, k⟩ := h.pg
  exact ⟨fun pins s σ H v u Q I r ⟨ι, F, ρ, S, d, ρ', r0, w, e, q⟩ => p.run pins s σ H v u Q I r (k v σ H Q ι F ρ S d ρ' r0 w e q)⟩
theorem DI.canon {tg iter : Expr} {l : LFn} (h : DI X W tg iter l) : PI X tg iter (tI X W l) := by
  obtain ⟨t, p, k⟩ := h.pi
  exact ⟨fun pins s σ H R I q => p.run pins s σ H R I (k σ H R q)⟩
theorem lc_ent {own : List (Str × Nat)} {l : LFn} {g : GFn} {t : TFn} {f : XFn} {sl : List Nat} (hsl : ∀ i ∈ sl, i ∈ own.map (·.2)) {σ : L2.St} {H : Hp} {Q : VK} (h : tN X W (lLc l (own.map (·.2)) g t f) σ H Q) :
    tLc (tI X W l) (tG X.K sl g) (tT X W0 t) (tD X W0 f) (own.map (·.2)) σ H Q := by
  obtain ⟨ι, F, ρ, S, r, h⟩ := h
  refine ⟨ι, F, ρ, S, r, ?_⟩
  unfold lLc at h
  cases q : l ρ S with
  | bad => rw [q] at h; exact h
  | ex c S1 => rw [q] at h; exact h
  | ok ds S1 =>
    rw [q] at h
    simp only [Res.bind_ok] at h
    by_cases hl : ds.length ≤ sizeLine
    · simp only [hl, if_true] at h
      intro ι1 F1 H1 g1 st1 J ⟨G, Y, w, hG, hY⟩ D hD
      obtain ⟨zs0, S0, e0⟩ := lcGo_ok h
      rw [e0] at h
      have r1 := r.slots g1 st1
      have hF1 : F1 D = none := by
        cases q : F1 D with
        | none => rfl
        | some o => rw [st1.sub D o q] at hD; cases hD
      have hι1 : D ∉ ι1 := fun m => st1.full D m hD
      refine lc_it w (fun i H2 => ∃ ι2 F2 S2 acc avs zs, RR X.K ι2 F2 (zis ρ (own.map (·.2))) S2 (L2.wipe σ (own.map (·.2))) H2 ∧ Grow ι1 F1 H1 ι2 F2 H2 ∧ H2 D = some (.lst avs) ∧ F2 D = none ∧ D ∉ ι2 ∧ WdA X.K F2 avs acc ∧ acc.length ≤ i ∧
          lcGo g t f (zis ρ (own.map (·.2))) (ds.drop i) S2 = .ok zs S0 ∧ acc ++ zs = zs0)
        ⟨ι1, F1, S1, [], [], zs0, (r1.slots (zf_ hD _) (st1.alone hD _)).wipe _, zf_ hD _, upd_same, hF1, hι1, .nil, Nat.le_refl _, e0, rfl⟩
        (fun i H2 _ ⟨ι2, F2, S2, acc, avs, zs, r2, g2, _⟩ => hG ι2 F2 S2 H2 r2.st g2.sf) (fun i x H2 H3 hi ⟨ι2, F2, S2, acc, avs, zs, r2, g2, hd, hf, hn, wa, hla, el, ea⟩ y => ?_) (fun H2 ⟨ι2, F2, S2, acc, avs, zs, r2, g2, hd, hf, hn, wa, hla, el, ea⟩ => ?_)
      · obtain ⟨F3, d, g3, st3, hdi, wd⟩ := hY ι2 F2 S2 H2 i x H3 r2.st g2.sf hi y
        have ed : ds.drop i = d :: ds.drop (i + 1) := by
          rw [List.drop_eq_getElem_cons hi]
          obtain ⟨_, h⟩ := List.getElem?_eq_some_iff.mp hdi
          rw [h]
        have keepD : ∀ {ι' F' H'} , Grow ι2 F2 H2 ι' F' H' → H' D = some (.lst avs) ∧ F' D = none ∧ D ∉ ι' := fun gg => ⟨gg.keep D _ hd (fun _ z => nomatch z) hn, gg.new D _ hd (fun _ z => nomatch z) (fun _ z => nomatch z) hf hn, fun m => by
          rcases gg.nio D m with z | z
          · exact hn z
          · rw [hd] at z; cases z⟩
        rw [ed] at el
        simp only [lcGo] at el
        have r3 := r2.slots g3 st3
        cases e1 : g d (zis ρ (own.map (·.2))) with
        | none => simp only [e1] at el; cases el
        | some ρ3 =>
          simp only [e1] at el
          refine ⟨ι2, F3, _, S2, d, ρ3, r3, wd, e1, fun σ3 r3' o3 => ⟨?_, ?_⟩⟩
          · have hw := o3 (own.map (·.2)) hsl
            rw [hw]
            have idem : ∀ vs : List Nat, ∀ σ : L2.St, (∀ i ∈ vs, σ[i]? = none ∨ σ[i]? = some none) → L2.wipe σ vs = σ := by
              intro vs
              induction vs with
              | nil => intro σ _; rfl
              | cons v vs ih =>
                intro σ hv
                show (L2.wipe σ vs).set v none = σ
                rw [ih σ fun i m => hv i (List.mem_cons_of_mem _ m)]
                apply List.ext_getElem?
                intro j
                rw [List.getElem?_set]
                split
                · rename_i e; subst e
                  rcases hv v List.mem_cons_self with z | z
                  · rw [z]; split
                    · rename_i hlt; rw [List.getElem?_eq_none_iff] at z; omega
                    · rfl
                  · rw [z]; split
                    · rfl
                    · rename_i hlt; have := (List.getElem?_eq_some_iff.mp z).1; omega
                · rfl
            refine idem _ _ fun i m => ?_
            cases q : (L2.wipe σ (own.map (·.2)))[i]? with
            | none => exact .inl rfl
            | some o =>
              cases o with
              | none => exact .inr rfl
              | some x => exact absurd m (wipe_some q).2
          · obtain ⟨b, S3, e2, el⟩ := zg6 el
            refine ⟨ι2, F3, ρ3, S2, r3', ?_⟩
            show Post X.K X.mg _ ι2 F3 H3 (t ρ3 S2) _
            rw [e2]
            intro ι4 F4 H4 g4 st4
            have g24 := g3.trans g4
            cases b with
            | false =>
              dsimp only
              rw [if_neg (by simp)]
              obtain ⟨k1, k2, k3⟩ := keepD g24
              exact ⟨ι4, F4, S3, acc, avs, zs, r2.slots g24 st4, g2.trans g24, k1, k2, k3, wa.mono g24.sf, by omega, el, ea⟩
            | true =>
              dsimp only
              rw [if_pos rfl]
              simp only [if_true] at el
              obtain ⟨y, S4, e3, el⟩ := zg6 el
              refine ⟨ι4, F4, ρ3, S3, r3'.slots g4 st4, ?_⟩
              show Post X.K X.mg _ ι4 F4 H4 (f ρ3 S3) _
              rw [e3]
              intro ι5 F5 H5 g5 st5 v wv
              cases y with
              | obj k => cases el
              | scr ns => cases el
              | exn c p => cases el
              | fn _ => cases el
              | dat z =>
                simp only at el
                obtain ⟨zs', S5, e4, el⟩ := zg6 el
                cases el
                have g25 := g24.trans g5
                obtain ⟨k1, k2, k3⟩ := keepD g25
                refine ⟨avs, k1, ?_, ι5, F5, S4, acc ++ [z], avs ++ [v], zs', ?_, ?_, upd_same, k2, k3, (wa.mono g25.sf).append (.cons wv .nil), by simp; omega, e4, by rw [← ea]; simp⟩
                · rw [wa.length]; omega
                · have st6 : StR X.K ι5 F5 S4 (upd H5 D (.lst (avs ++ [v]))) := ⟨fun b u e => by
                    rw [upd_ne (fun z => by rw [z, k2] at e; cases e)]; exact st5.sub b u e, st5.len, st5.nd, fun b hb => zly (st5.full b hb), fun k es e =>
                    let ⟨a', vs', h1, h2, h3, h4⟩ := st5.cell k es e
                    ⟨a', vs', h1, by rw [upd_ne (fun z => k3 (by rw [← z]; exact List.mem_of_getElem? h1))]; exact h2, h3, h4⟩, st5.tb.lst k1 _, st5.tf⟩
                  exact ⟨st6, r2.len, fun i dv e => let ⟨v, h1, h2⟩ := r2.slot i dv e; ⟨v, h1, h2.grow g25⟩⟩
                · have g := g2.trans g25
                  exact ⟨g.pre, g.sf, fun b o e t2 n => by
                    rw [upd_ne (fun z => by rw [z, hD] at e; cases e)]; exact g.keep b o e t2 n, g.new, g.nio, fun b e => g.dom b (zc9 e)⟩
      · rw [List.drop_length] at el
        cases el
        rw [List.append_nil] at ea
        subst ea
        exact h ι2 F2 H2 (g1.trans g2) r2.st D avs (g1.dom D hD) hd hf hn wa
    · simp only [hl, if_false] at h; exact h.elim
theorem zfn {elt tg iter : Expr} {ifs : List Expr} {scope : Scope} {own : List (Str × Nat)} {l : LFn} {g : GFn} {t : TFn} {f : XFn} {sl : List Nat} (hc : X.calm = true) (hN : X.N.Nodup) (hi : DI X W tg iter l) (ok : BlkOk X.N X.env.scope scope own)
    (hg : ∀ (s : Shared) (H : Hp) (C : Addr) (cl : List (Str × Addr)) (fp : List Addr), DG (X.blk s H scope (compEnvC scope cl C X.env) fp) tg sl g)
    (ht : ∀ (s : Shared) (H : Hp) (C : Addr) (cl : List (Str × Addr)) (fp : List Addr), DTs (X.blk s H scope (compEnvC scope cl C X.env) fp) W0 ifs t)
    (he : ∀ (s : Shared) (H : Hp) (C : Addr) (cl : List (Str × Addr)) (fp : List Addr), DE (X.blk s H scope (compEnvC scope cl C X.env) fp) W0 elt f)
    (hsl : ∀ i ∈ sl, i ∈ own.map (·.2) := by decide) (hs : ∀ x, foldedSetIterable iter X.env x = pure x := by intro _; rfl) :
    NE X W (.ListComp elt [⟨tg, iter, ifs, 0⟩] scope pos) (lLc l (own.map (·.2)) g t f) :=
  ⟨PE.weak (pe_lc (g := tG X.K sl g) (tt := tT X W0 t) (te := tD X W0 f) hc hN hi.canon ok (fun s H C cl fp => (hg s H C cl fp).canon) (fun s H C cl fp => (ht s H C cl fp).pt) (fun s H C cl fp => (he s H C cl fp).pe) hs) fun σ H Q h => lc_ent hsl h⟩
theorem zkx {i : Nat} {y : Str} {py spos : Pos} {elt tg iter : Expr} {ifs : List Expr} {scope : Scope} {own : List (Str × Nat)} {l : LFn} {g : GFn} {t : TFn} {f : XFn} {sl : List Nat} (hc : X.calm = true) (hN : X.N.Nodup)
    (hi : DI X W tg iter l) (ok : BlkOk X.N X.env.scope scope own)
    (hg : ∀ (s : Shared) (H : Hp) (C : Addr) (cl : List (Str × Addr)) (fp : List Addr), DG (X.blk s H scope (compEnvC scope cl C X.env) fp) tg sl g)
    (ht : ∀ (s : Shared) (H : Hp) (C : Addr) (cl : List (Str × Addr)) (fp : List Addr), DTs (X.blk s H scope (compEnvC scope cl C X.env) fp) W0 ifs t)
    (he : ∀ (s : Shared) (H : Hp) (C : Addr) (cl : List (Str × Addr)) (fp : List Addr), DE (X.blk s H scope (compEnvC scope cl C X.env) fp) W0 elt f)
    (hsl : ∀ i ∈ sl, i ∈ own.map (·.2) := by decide) (hy : X.N[i]? = some y := by rfl) (hyl : X.env.scope.names.lookup y = some .local := by rfl)
    (hsw : swapsWith (.ListComp elt [⟨tg, iter, ifs, 0⟩] scope pos) (some (.Name y py)) spos.line X.env = pure true := by exact sw_true rfl rfl rfl (by decide +kernel)) (hs : ∀ x, foldedSetIterable iter X.env x = pure x := by intro _; rfl) :
    DS X W (.Assign [.Name y py] (.ListComp elt [⟨tg, iter, ifs, 0⟩] scope pos) spos) (sSet i (xN1 (lLc l (own.map (·.2)) g t f))) :=
  ⟨_, ps_setLc (g := tG X.K sl g) (tt := tT X W0 t) (te := tD X W0 f) hc hN hy hyl hsw hi.canon ok (fun s H C cl fp => (hg s H C cl fp).canon) (fun s H C cl fp => (ht s H C cl fp).pt) (fun s H C cl fp => (he s H C cl fp).pe) hs, fun D σ H h => lc_ent hsl h.set.toN⟩
end
end DL
set_option maxHeartbeats 4000000
namespace DL
open PySem PySem.Spec PyProof.Rows L2
/-! ## defs: what they promise where nothing is being printed around them -/
structure RoomH (k : Nat) (A : Around) : Prop where
  dp : A.depth + 3 * k + 5 < recursionLimit
  un : A.units + 16 * k + 200 < cLine
theorem RoomH.of {k : Nat} {A : Around} (r : Room k A) : RoomH k A := ⟨r.dp, r.un⟩
theorem RoomH.mono {j k : Nat} {A : Around} (r : RoomH k A) (h : j ≤ k) : RoomH j A := ⟨by have := r.dp; omega, by have := r.un; omega⟩
theorem RoomH.deeper {k : Nat} {A : Around} (r : RoomH (k + 1) A) (env : Env) : RoomH k (A.deeper env) :=
  ⟨by have := r.dp; show A.depth + 1 + 3 * k + 5 < _; omega, by have := r.un; show A.units + 3 + 16 * k + 200 < _; omega⟩
theorem RoomH.depth {k : Nat} {A : Around} (r : RoomH k A) : A.depth < recursionLimit := by have := r.dp; omega
structure FnQ (q : Bool) (P : Program) (w : World) (K : PySem.W.Frag) (mg : Str → Option Value) (base : Heap) (k : Nat) (f : Addr) (fd : FuncData) (ps : List Str) (sp : Sp) : Prop where
  len : ∀ vs H Q E, sp vs H Q E → vs.length = ps.length
  run : ∀ (A : Around) (outer : List Env) (s : Shared) (H : Hp) (args : Args) (us : List Value) (vs : List V) (Q : VK) (E : XK), RoomH k A → (q = true → A.handled = none) → A.guards = some [] → Env0 P w K mg base A outer s H → BindsTo s fd args (ps.zip us) → Vals vs us → sp vs H Q E →
    codeAny (model P w) A (.call (.ref f) args) (CR (L2.CX P w) outer P w H s Q E) s
abbrev FnG := FnQ true
theorem RoomH.make {k : Nat} {A : Around} (r : RoomH (k + 1) A) (C : Addr) (us : List Value) (kw : List (Str × Value)) : RoomH k (A.under (.builtin "type.__call__" ⟨.ref C :: us, kw⟩)) :=
  ⟨by have := r.dp; rw [make_depth]; omega, by have := r.un; rw [make_units]; omega⟩
def cxQ (q : Bool) (P : Program) (w : World) (K : PySem.W.Frag) (mg : Str → Option Value) (base : Heap) (N : List Str) (qual : Str) (scope : Scope) (f : Addr) (cd : Value) (A : Around) (outer : List Env) (s : Shared) (H : Hp) (E : XK) : Cx :=
  { cxOf (L2.CX P w) P w K mg base N qual scope f cd A outer s H E with calm := q }
theorem inv_startQ {q : Bool} {P : Program} {w : World} {K : PySem.W.Frag} {mg : Str → Option Value} {base : Heap} {N ps : List Str} {qual : Str} {scope : Scope} {f : Addr} {cd : Value} {A : Around} {outer : List Env} {s s1 : Shared} {H : Hp} {E : XK} {us : List Value} {vs : List V}
    (S : FnScope N ps scope) (hd : q = true → A.handled = none) (e0 : Env0 P w K mg base A outer s H) (hl : vs.length = ps.length) (r : Vals vs us)
    (x : InCallC s s.heap.objs.size (bindL (envOfC qual scope s.heap.objs.size f cd).kindOf (ps.zip us) fun _ => none) (cellsFrom (s.heap.objs.size + 1) scope.names []) (bindC (envOfC qual scope s.heap.objs.size f cd).kindOf (ps.zip us) fun _ => none) s1) :
    Inv (cxQ q P w K mg base N qual scope f cd A outer s H E) [] (start N vs) H s1 := by
  have I := inv_start (CX := L2.CX P w) (A := { A with handled := none }) (E := E) (cd := cd) S rfl (⟨e0.frames, e0.mod, e0.bs, e0.bsz, e0.funs, e0.frf, e0.hok, e0.bare⟩ : Env0 P w K mg base { A with handled := none } outer s H) hl r x
  have o := I.ok
  exact ⟨⟨o.mod, o.kind, o.glob, o.blt, o.above, o.inj, o.has, o.cab, hd, Around.frames_deeper e0.frames, o.stk, o.exf, o.bs, o.bsz, o.noex, o.exfs, o.funs, o.frf⟩, I.os, I.bare, I.base, I.loc, I.cell, I.free, I.freeC, I.pin, I.hok, I.len⟩
section
variable {P : Program} {w : World} {K : PySem.W.Frag} {mg : Str → Option Value} {base : Heap}
theorem FnQ.mono {q : Bool} {j k : Nat} {f : Addr} {fd : FuncData} {ps : List Str} {sp : Sp} (F : FnQ q P w K mg base j f fd ps sp) (h : j ≤ k) : FnQ q P w K mg base k f fd ps sp :=
  ⟨F.len, fun A outer s H args us vs Q E hr => F.run A outer s H args us vs Q E (hr.mono h)⟩
theorem fnQ_of {q : Bool} {k : Nat} {f : Addr} {fd : FuncData} {x qual : Str} {params : Arguments} {body : List Stmt} {scope : Scope} {N ps : List Str} {sp : Sp} (F : FunD K x qual params body scope [] [] f fd) (Sc : FnScope N ps scope)
    (len : ∀ vs H Q E, sp vs H Q E → vs.length = ps.length)
    (hbody : ∀ (cdv : Value) (A : Around) (outer : List Env) (s : Shared) (H : Hp) (vs : List V) (Q : VK) (E : XK), RoomH k (A.deeper (envOfC qual scope s.heap.objs.size f cdv)) → A.guards = some [] → sp vs H Q E →
      ∃ t, PSs (cxQ q P w K mg base N qual scope f cdv A outer s H E) body t ∧ t { nx := fun _ H' => Q .non H', rt := Q } (start N vs) H)   : FnQ q P w K mg base (k + 1) f fd ps sp := by
  obtain ⟨oc, od, dV, kV, doc, pm, an, cdv, ct, osl, hfd, look, code, _, _⟩ := F.ex
  subst hfd
  constructor
  · exact len
  intro A outer s H args us vs Q E room hnd gd env0 bind rel hsp
  have hlen := len vs H Q E hsp
  have stays : ∀ b o, base.get? b = some o → s.heap.get? b = some o := fun b o e => (env0.bs b o e).1
  have KX : K.In s.heap := env0.mod.kin.keeps stays
  have NL : s.heap.NoLimit := env0.mod.nolimit.keeps stays
  have kinds : ∀ y ∈ ps.zip us, scope.names.lookup y.1 = some .local ∨ (scope.names.lookup y.1 = some .cell ∧ ((cellsFrom (s.heap.objs.size + 1) scope.names []).lookup y.1).isSome = true) := by
    rintro ⟨n, v⟩ hy
    have hn := (List.of_mem_zip hy).1
    cases Sc.par n hn with
    | inl q => exact Or.inl q
    | inr q => exact Or.inr ⟨q, PySem.W.cellsFrom_some _ _ _ (Or.inl q)⟩
  apply codeAny_call_function room.depth (KX _ _ look) rfl Sc.co Sc.gen rfl (PySem.W.codeRec_of KX code)
  apply bind
  refine wpAny_newFunctionEnv_cells Sc.kind kinds ?_
  intro env he s1 ic
  subst he
  refine ⟨NL.keeps ic.toInCall.keep, codeAny_func ?_⟩
  obtain ⟨t, ht, hq⟩ := hbody cdv A outer s H vs Q E (room.deeper _) gd hsp
  have I := inv_startQ (q := q) (P := P) (w := w) (mg := mg) (base := base) (E := E) Sc hnd env0 hlen rel ic
  refine wpAny_mono (ht.run [] s1 (start N vs) H _ I hq) ?_ (fun _ _ z => z)
  intro fl s' h
  cases fl with
  | ret u =>
    obtain ⟨v, σ', H', J, rv, q⟩ := h
    exact ⟨v, H', J.os, J.bare, J.base, J.hok, rv, q⟩
  | next =>
    obtain ⟨σ', H', J, q⟩ := h
    exact ⟨.non, H', J.os, J.bare, J.base, J.hok, rfl, q⟩
  | brk => exact h.elim fun _ z => z.elim fun _ z => z.2.elim
  | cont => exact h.elim fun _ z => z.elim fun _ z => z.2.elim
end
/-! ## defs over data -/
abbrev Fn := List DV → zaf → Res DV
def spD (K : PySem.W.Frag) (mg : Str → Option Value) (n : Nat) (g : Fn) : Sp := fun vs H Q E => vs.length = n ∧ ∃ ι F S ds, StR K ι F S H ∧ WVs K ι F vs ds ∧ Post K mg E ι F H (g ds S) fun dv ι' F' H' => ∀ v, WV K ι' F' v dv → Q v H'
def leave (n : Nat) : DV → zaf → Res DV
  | .dat d, S => .ok (.dat d) (S.take n)
  | .obj k, S => if k < n then .ok (.obj k) (S.take n) else match S[k]? with
    | some (some ds) => .ok (.obj n) (S.take n ++ [some ds])
    | _ => .bad
  | .scr _, _ => .bad
  | .exn c p, S => .ok (.exn c p) (S.take n)
  | .fn _, _ => .bad
def ends (n : Nat) : RS → Res DV
  | .nx _ S => .ok (.dat .non) (S.take n)
  | .rt v S => leave n v S
  | .ex c _ S => .ex c (S.take n)
  | _ => .bad
def zav (N : Nat) (f : SFn) : Fn := fun ds S => ends S.length (f (ds.map some ++ List.replicate (N - ds.length) none) S)
section
variable {X : Cx} {W : WX} {e a b c : Expr} {es : List Expr} {pos p : Pos} {K : PySem.W.Frag} {ι : List Addr} {F H : Hp} {S : zaf} {mg : Str → Option Value}
theorem StR.cut {ι0 ι' : List Addr} {F' H' : Hp} {S' : zaf} {n : Nat} (st : StR K ι' F' S' H') (hp : ι0 <+: ι') (hn : ι0.length = n) : StR K ι0 F' (S'.take n) H' := by
  have e : List.take n ι' = ι0 := by
    obtain ⟨t, rfl⟩ := hp
    rw [← hn]; simp
  have hl : n ≤ S'.length := by rw [← st.len, ← hn]; exact hp.length_le
  refine ⟨st.sub, by rw [hn]; simp [hl], hp.sublist.nodup st.nd, fun b hb => st.full b (hp.sublist.subset hb), fun k ds e2 => ?_, st.tb, st.tf⟩
  rw [List.getElem?_take] at e2
  split at e2
  · rename_i hk
    obtain ⟨a, vs, h1, h2, h3, h4⟩ := st.cell k ds e2
    refine ⟨a, vs, ?_, h2, h3, h4⟩
    rw [← e, List.getElem?_take, if_pos hk]; exact h1
  · cases e2
theorem Grow.cut {ι' : List Addr} {F' H' : Hp} (g : Grow ι F H ι' F' H') : Grow ι F H ι F' H' := ⟨List.prefix_rfl, g.sf, g.keep, g.new, fun b h => .inl h, g.dom⟩
theorem rr_start {vs : List V} {ds : List DV} {n : Nat} {N : List Str} (st : StR K ι F S H) (w : WVs K ι F vs ds) (hN : N.length = n) : RR K ι F (ds.map some ++ List.replicate (n - ds.length) none) S (start N vs) H := by
  refine ⟨st, by unfold L2.start; rw [hN]; simp [w.length], fun i dv e => ?_⟩
  have hi : i < ds.length := by
    by_cases h : i < ds.length
    · exact h
    · rw [List.getElem?_append_right (by simp; omega)] at e
      have := (List.getElem?_eq_some_iff.mp e)
      obtain ⟨_, h2⟩ := this
      simp at h2
  rw [List.getElem?_append_left (by simpa using hi)] at e
  simp at e
  have get : ∀ {vs : List V} {ds : List DV}, WVs K ι F vs ds → ∀ (i : Nat) (dv : DV), ds[i]? = some dv → ∃ v, vs[i]? = some v ∧ WV K ι F v dv := by
    intro vs ds w
    induction w with
    | nil => intro i dv e; simp at e
    | cons a _ ih =>
      intro i dv e
      cases i with
      | zero => simp at e; subst e; exact ⟨_, rfl, a⟩
      | succ i => simpa using ih i dv (by simpa using e)
  obtain ⟨v, h1, h2⟩ := get w i dv e
  refine ⟨v, ?_, h2⟩
  unfold L2.start
  rw [List.getElem?_append_left (by rw [List.length_map, w.length]; exact hi)]
  simp [h1]
theorem fn_D {q : Bool} {P : Program} {w : World} {base : Heap} {k n m : Nat} {f : Addr} {fd : FuncData} {x qual : Str} {params : Arguments} {body : List Stmt} {scope : Scope} {N ps : List Str} {g : SFn} (Fd : FunD K x qual params body scope [] [] f fd) (Sc : FnScope N ps scope)
    (hn : ps.length = n) (hm : N.length = m)
    (hbody : ∀ (cdv : Value) (A : Around) (outer : List Env) (s : Shared) (H : Hp) (E : XK), RoomH k (A.deeper (envOfC qual scope s.heap.objs.size f cdv)) → A.guards = some [] →
      DSs (cxQ q P w K mg base N qual scope f cdv A outer s H E) (fun cls d _ H => E cls d H) body g)   : FnQ q P w K mg base (k + 1) f fd ps (spD K mg n (zav m g)) := by
  refine fnQ_of Fd Sc (fun vs H Q E h => by rw [h.1, hn]) fun cdv A outer s H vs Q E hr hG h => ?_
  obtain ⟨t, pt, kt⟩ := (hbody cdv A outer s H E hr hG).ps
  refine ⟨t, pt, kt _ _ _ ?_⟩
  obtain ⟨hl, ι, F, S, ds, st, ws, po⟩ := h
  refine ⟨ι, F, _, S, rr_start st ws hm, ?_⟩
  show PostS K mg _ ι F H _ _
  unfold zav at po
  cases qq : g (ds.map some ++ List.replicate (m - ds.length) none) S with
  | nx ρ' S' =>
    rw [qq] at po
    exact fun σ' ι' F' H' gr r => po ι F' H' gr.cut (r.st.cut gr.pre st.len) _ .non
  | rt dv S' =>
    rw [qq] at po
    intro v ι' F' H' gr st' wv
    cases dv with
    | dat d => exact po ι F' H' gr.cut (st'.cut gr.pre st.len) v wv
    | scr ns => exact po.elim
    | exn c p => exact po ι F' H' gr.cut (st'.cut gr.pre st.len) v wv
    | fn _ => exact po.elim
    | obj j =>
      simp only [ends, leave] at po
      obtain ⟨a, h1, h2⟩ := wv
      split at po
      · rename_i hj
        refine po ι F' H' gr.cut (st'.cut gr.pre st.len) v ⟨a, ?_, h2⟩
        obtain ⟨t, rfl⟩ := gr.pre
        rw [List.getElem?_append_left (by rw [st.len]; exact hj)] at h1; exact h1
      · rename_i hj
        split at po
        · rename_i es ej
          obtain ⟨a', vs', h3, h4, h5, h6⟩ := st'.cell j es ej
          rw [h1] at h3; cases h3
          have na : a ∉ ι := fun m => by
            obtain ⟨i, hi, e⟩ := List.mem_iff_getElem.mp m
            obtain ⟨t, rfl⟩ := gr.pre
            have e1 : (ι ++ t)[i]? = some a := by rw [List.getElem?_append_left hi, List.getElem?_eq_getElem hi, e]
            obtain ⟨i1, g1⟩ := List.getElem?_eq_some_iff.mp e1
            obtain ⟨i2, g2⟩ := List.getElem?_eq_some_iff.mp h1
            have : i = j := (List.getElem_inj st'.nd).mp (by rw [g1, g2])
            rw [st.len] at hi; omega
          have ha : H a = none := (gr.nio a (List.mem_of_getElem? h1)).resolve_left na
          exact po (ι ++ [a]) F' H' (znh gr.cut ha) ((st'.cut gr.pre st.len).add h4 h5 na h6) v ⟨a, by rw [← st.len]; simp, h2⟩
        · exact po.elim
  | ex c ρ' S' =>
    rw [qq] at po
    exact fun C σ' ι' F' H' gr r mc => po C ι F' H' gr.cut (r.st.cut gr.pre st.len) mc
  | bk ρ' S' => rw [qq] at po; exact po.elim
  | ct ρ' S' => rw [qq] at po; exact po.elim
  | bad => rw [qq] at po; exact po
structure DefQ (q : Bool) (P : Program) (w : World) (K : PySem.W.Frag) (mg : Str → Option Value) (base : Heap) (k : Nat) (x : Str) (n : Nat) (g : Fn) : Prop where
  ex : ∃ f fd ps, FnQ q P w K mg base k f fd ps (spD K mg n g) ∧ mg x = some (.ref f) ∧ PySem.W.keepIn K (.ref f) = true ∧ Binds K fd ps []
abbrev Def := DefQ true
theorem zai {k n : Nat} {x : Str} {g : Fn} {fa : AFn} (F : DefQ X.calm X.prog X.w X.K X.mg X.base k x n g) (hr : RoomH k X.A) (hG : X.A.guards = some []) (tk : Takes X W) (ha : DA X W (e :: es) fa) (hn : (e :: es).length = n := by rfl) (hg : Gl X x := by rfl)
    (hdb : (x == ("__debug__" : Str)) = false := by decide) (he : starEach (e :: es) X.env = (false, eval e X.env) :: starEach es X.env := by rfl) (hpl : (backTo pos (starEach es X.env)).any (·.1) = false := by rfl)
    (hlen : ∀ ρ S ds S', fa ρ S = .ok ds S' → ds.length = n) : DE X W (.Call (.Name x p) (e :: es) [] pos) (xN g fa) := by
  obtain ⟨f, fd, ps, Fg, hm, hk, hb⟩ := F.ex
  refine ⟨⟨fun pins s σ H Q I h => ?_⟩⟩
  obtain ⟨ι, F, ρ, S, r, h⟩ := h
  apply wpAny_Call_Name_kw (ld_glob I hg hm ?_ hdb)
  refine PySem.W.callWith_K (h₀ := X.base) I.ok.mod.kin hk ?_ he hpl
  have hta : tA X W fa σ H (fun vs H1 => spD X.K X.mg n g vs H1 Q (fun c d H' => W c d σ H')) := by
    refine ⟨ι, F, ρ, S, r, ?_⟩
    unfold xN at h
    cases q : fa ρ S with
    | bad => rw [q] at h; exact h
    | ex c S1 => rw [q] at h; exact h
    | ok ds S1 =>
      rw [q] at h
      intro ι1 F1 H1 g1 st1 vs wv
      exact ⟨by rw [wv.length]; exact hlen _ _ _ _ q, ι1, F1, S1, ds, st1, wv, Post.grow (r := g ds S1) h g1⟩
  refine thn (ha.pa.run pos pins s σ H _ I hta) ?_
  rintro us s1 ⟨vs, H1, I1, rel, hsp⟩
  refine ⟨I1.kIn, ?_⟩
  have hl : us.length = ps.length := by rw [← rel.length]; exact Fg.len _ _ _ _ hsp
  have bd := hb s1 us I1.kIn (by simpa using hl)
  rw [List.append_nil] at bd
  apply wpAny_call
  refine codeAny_mono (Fg.run X.A X.stack s1 H1 ⟨us, []⟩ us vs Q _ hr I1.ok.hd hG I1.env0 bd rel hsp) ?_
  intro res s2 hq
  cases res with
  | error err => exact L2.passAt tk σ pins H1 s1 err s2 I1 hq
  | ok fl =>
    cases fl with
    | ret u => exact I1.after hq
    | next => exact hq.elim
    | brk => exact hq.elim
    | cont => exact hq.elim
end
end DL
set_option maxHeartbeats 4000000
namespace DL
open PySem PySem.Spec PyProof.Rows L2
section
variable {X : Cx} {W : WX} {e a b c : Expr} {es : List Expr} {pos p : Pos} {K : PySem.W.Frag} {ι : List Addr} {F H : Hp} {S : zaf} {mg : Str → Option Value}
/-! ## raise X("..") -/
def zlu (c : Str) : SFn := fun ρ S => .ex c ρ S
structure ExcD (K : PySem.W.Frag) (mg : Str → Option Value) (x : Str) : Prop where
  ex : ∃ C, mg x = some (.ref C) ∧ PySem.W.excIn K C He.veBase "ValueError.__new__" = true ∧ PySem.W.keepIn K (.ref C) = true ∧ PySem.W.subIn K (.ref C) (.type "BaseException") = some true ∧ PySem.W.typeIn K (.ref C) = some (.type "type")
theorem zjh {x m : Str} {j : Nat} {p2 p3 : Pos} (hc : X.calm = true) (tk : Takes X W) (h : ExcD X.K X.mg x) (hg : Gl X x := by rfl) (hdb : (x == ("__debug__" : Str)) = false := by decide) :
    DS X W (.Raise (some (.Call (.Name x p) [.Constant (.str m) j p2] [] p3)) none pos) (zlu x) := by
  obtain ⟨C, h1, h2, h3, h4, h5⟩ := h.ex
  refine ⟨_, ps_raise hc tk (pmk_own PySem.F.excBase_ValueError h2 h1 h3 (raises_own h4 h5) hg hdb), fun D σ H ⟨ι, F, ρ, S, r, h⟩ => ?_⟩
  exact h (C, none) σ ι F H .refl r ⟨h1, rfl⟩
/-! ## isinstance of data -/
def tyName : D → String
  | .non => "NoneType" | .bl _ => "bool" | .int _ => "int" | .str _ => "str" | .lst _ => "list" | .tup _ => "tuple" | .cas _ => "Case" | .dct _ => "dict"
def isiN (n T : String) : Bool := n == T || (T == "int" && n == "bool")
def isiB (T : String) (d : D) : Bool := isiN (tyName d) T
theorem isi_all : (["NoneType", "bool", "int", "str", "list", "tuple", "dict"].all fun n => ["int", "bool", "tuple", "list", "str"].all fun T => decide (kitB n T = some (isiN n T))) = true := by decide +kernel
def D.isC : D → Bool | .cas _ => true | _ => false
def tyD (K : PySem.W.Frag) (d : D) : Value := bif d.isC then .ref (He.ga K "Case") else .type (tyName d)
theorem tyName_mem (d : D) (h : d.isC = false) : tyName d ∈ ["NoneType", "bool", "int", "str", "list", "tuple", "dict"] := by cases d <;> first | (cases h; done) | simp [tyName]
def oIsi (T : String) (x : DV) (S : zaf) : Res DV := match rd S x with
  | some d => .ok (.dat (.bl (isiB T d))) S
  | none => .bad
def xIsi (T : String) (f : XFn) : XFn := fun ρ S => (f ρ S).bind (oIsi T)
theorem Vw.ty {v : V} {d : D} (s : Same F H) (h : Vw K F H v d) : TyX K H v (tyD K d) := by
  cases h with
  | non => exact .base .non
  | bl b => exact .base (.bl b)
  | int i => exact .base (.int i)
  | str x => exact .base (.str x)
  | lst q w => exact .base (.lst q)
  | tup q w =>
    rcases q with (q | ⟨o, q⟩) | ⟨o, its, n, h1, h2, _⟩
    · exact .base (.tup (s _ _ q))
    · exact .fTuple (s _ _ q)
    · exact .kTuple h1 h2
  | cas h =>
    obtain ⟨dx, ca, la, fa, fs, cv, lo, fo, h1, _⟩ := h.of
    exact .base (.ins (s _ _ h1) h.kit.cl h.kit.ha h.kit.hn h.kit.htk h.kit.hm)
  | dct h => exact .fDict (s _ _ h)
theorem isi_kit (T : String) (hT : T ∈ ["int", "bool", "tuple", "list", "str"]) (d : D) (h : d.isC = false) : kitB (tyName d) T = some (isiB T d) := by
  exact of_decide_eq_true (List.all_eq_true.mp (List.all_eq_true.mp isi_all _ (tyName_mem d h)) T hT)
theorem isi_ty (T : String) (hT : T ∈ ["int", "bool", "tuple", "list", "str"]) {v : V} {d : D} (w : Vw K F H v d) : PySem.W.kitOne K (tyD K d) (.type T) = some (isiB T d) := by
  cases d with
  | cas c =>
    cases w with
    | cas h =>
      show PySem.W.kitOne K (.ref (He.ga K "Case")) (.type T) = some (isiB T (.cas c))
      rw [h.kit.kit T hT]
      simp only [List.mem_cons, List.not_mem_nil, or_false] at hT
      rcases hT with rfl | rfl | rfl | rfl | rfl <;> rfl
  | _ => exact kit_ty (isi_kit T hT _ rfl)
theorem zhd {f : XFn} {T : Str} {n : String} {p2 p3 : Pos} (h : DE X W a f) (hm : X.mg "isinstance" = none) (hmT : X.mg T = none) (hv : bootBuiltins T = some (.type n)) (hT : n ∈ ["int", "bool", "tuple", "list", "str"] := by decide) (hg : Gl X "isinstance" := by rfl) (hgT : Gl X T := by rfl) (hn : T ≠ "__name__" := by decide) (hdb : (T == ("__debug__" : Str)) = false := by decide)
    (he : starEach (a :: [.Name T p3]) X.env = (false, eval a X.env) :: starEach [.Name T p3] X.env := by rfl) (he2 : starEach (.Name T p3 :: []) X.env = (false, eval (.Name T p3) X.env) :: starEach [] X.env := by rfl) (hpl : (backTo pos (starEach [.Name T p3] X.env)).any (·.1) = false := by rfl) :
    DE X W (.Call (.Name "isinstance" p2) [a, .Name T p3] [] pos) (xIsi n f) := by
  refine ⟨PE.weak (pe_callB call_isi hg hm (by decide +kernel) (pa_cons h.pe (pa_cons (pe_bltn (v := .ty n) hgT hmT hv rfl hn hdb) pa_nil he2) he) (by decide) (by decide) he hpl) fun σ H Q ⟨ι, F, ρ, S, r, h⟩ => ?_⟩
  refine tD.bind (g := fun _ => oIsi n) r h fun v dv ι1 F1 S1 H1 r1 w1 g1 h1 => ?_
  unfold oIsi at h1
  cases ed : rd S1 dv with
  | none => simp only [ed] at h1; exact h1.elim
  | some d =>
    simp only [ed] at h1
    exact ⟨_, _, _, _, _, rfl, .ty n, (r1.st.vw w1 ed).ty r1.st.sub, isi_ty n hT (r1.st.vw w1 ed), h1 ι1 F1 H1 .refl r1.st _ (.bl _)⟩
/-! ## *x in a display -/
def aStar (f : XFn) (g : AFn) : AFn := fun ρ S => (f ρ S).bind fun x S1 => match rd S1 x with
  | some (.lst xs) => (g ρ S1).bind fun ds S2 => .ok (xs.map .dat ++ ds) S2
  | some (.tup xs) => (g ρ S1).bind fun ds S2 => .ok (xs.map .dat ++ ds) S2
  | _ => .bad
theorem WVs.of_wda {vs : List V} {ds : List D} (w : WdA K F vs ds) : WVs K ι F vs (ds.map .dat) := by
  induction ds generalizing vs with
  | nil => cases w; exact .nil
  | cons d ds ih =>
    cases w with
    | cons a b => exact .cons a (ih b)
theorem WVs.append {vs us : List V} {ds es : List DV} (h : WVs K ι F vs ds) (g : WVs K ι F us es) : WVs K ι F (vs ++ us) (ds ++ es) := by
  induction h with
  | nil => exact g
  | cons a _ ih => exact .cons a ih
theorem zob {f : XFn} {g : AFn} {p2 : Pos} (he : DE X W e f) (hs : DA X W es g) (hse : starEach (.Starred e p2 :: es) X.env = (true, eval e X.env) :: starEach es X.env := by rfl) : DA X W (.Starred e p2 :: es) (aStar f g) := by
  refine ⟨PA.weak (StX.pa_star he.pe hs.pa hse) fun σ H Q ⟨ι, F, ρ, S, r, h⟩ => ?_⟩
  refine tD.bind (g := fun ρ x S1 => match rd S1 x with
    | some (.lst xs) => (g ρ S1).bind fun ds S2 => .ok (xs.map .dat ++ ds) S2
    | some (.tup xs) => (g ρ S1).bind fun ds S2 => .ok (xs.map .dat ++ ds) S2
    | _ => .bad) r h fun v dv ι1 F1 S1 H1 r1 w1 g1 h1 => ?_
  cases ed : rd S1 dv with
  | none => simp only [ed] at h1; exact h1.elim
  | some d =>
    simp only [ed] at h1
    have vw := r1.st.vw w1 ed
    cases vw with
    | lst s w =>
      refine ⟨_, _, rfl, .inr (.of s), ?_⟩
      refine tA.bind (g := fun ρ ds S2 => .ok (_ ++ ds) S2) r1 h1 fun vs ds ι2 F2 S2 H2 r2 w2 g2 h2 => ?_
      exact h2 ι2 F2 H2 .refl r2.st _ ((WVs.of_wda (w.mono g2.sf)).append w2)
    | tup s w =>
      refine ⟨_, _, rfl, .inl (zc7 r1.st.sub s), ?_⟩
      refine tA.bind (g := fun ρ ds S2 => .ok (_ ++ ds) S2) r1 h1 fun vs ds ι2 F2 S2 H2 r2 w2 g2 h2 => ?_
      exact h2 ι2 F2 H2 .refl r2.st _ ((WVs.of_wda (w.mono g2.sf)).append w2)
    | _ => exact h1.elim
/-! ## repr -/
/-! ## pairs walked: zip, enumerate -/
def zo4 (x y : D) : D := .tup [x, y]
def zipD (xs ys : List D) : List D := List.zipWith zo4 xs ys
end
end DL
set_option maxHeartbeats 8000000
namespace PySem
namespace DLEnum
open L2 PyProof.Rows
set_option maxHeartbeats 1000000 in
theorem made {v : Value} {o : Obj} {H : Heap → Prop} (B : Begins v o H) :
    Meets (Builtin.«enumerate.__new__» ⟨[.type "enumerate", v], []⟩) (fun _ R s => H s.heap ∧
      R (.ok (.ret (.ref (s.heap.push o).objs.size))) { s with heap := (s.heap.push o).push { cls := .type "enumerate", data := .fields #[.none, .bool false, .ref s.heap.objs.size, rawInt 0, .none, .none] } }) :=
  .of_wp fun prog w A R s h => by
    obtain ⟨hp, g, d, tk, os⟩ := s
    obtain ⟨h1, h⟩ := h
    have hsub := sub_enumerate
    have it1 : ∀ {A' : Around} {E : Value → Shared → Prop} {Q : Value → Shared → Prop}, Q (.ref hp.objs.size) ⟨hp.push o, g, d, tk, os⟩ → wpAny (model prog w) A' (pyIter v) Q E ⟨hp, g, d, tk, os⟩ :=
      fun q => B.iter prog w _ _ ⟨hp, g, d, tk, os⟩ _ h1 q
    wp_walk using it1
    apply wpAny_stack_any
    intro st
    apply wpAny_pure
    split
    · rename_i c _ _ _ _ _
      cases (c == Value.type "enumerate") <;> (wp_walk using it1) <;> exact ⟨_, rfl, h⟩
    · wp_walk using it1
      exact ⟨_, rfl, h⟩
section
variable {prog : Program} {w : World} {A : Around} {E : Value → Shared → Prop} {s : Shared}
theorem begins {v : Value} {o : Obj} {H : Heap → Prop} {Q : Value → Shared → Prop} (B : Begins v o H) (h1 : H s.heap)
    (h : ∀ h', IsEnum h' (s.heap.objs.size + 1) s.heap.objs.size 0 .none → h'.get? s.heap.objs.size = some o → (∀ b o, s.heap.get? b = some o → h'.get? b = some o) → Q (.ref (s.heap.objs.size + 1)) { s with heap := h' }) :
    wpAny (model prog w) A (call (.type "enumerate") [v]) Q E s := by
  apply callType_new F.called_enumerate (by decide) (F.typeCall_enumerate_1 _) (F.newCall_enumerate_1 _) (fun obj => F.args_object_init_2 obj _) F.entry_enumerate_new (made B)
  have sz : (s.heap.push o).objs.size = s.heap.objs.size + 1 := Heap.size_push ..
  refine ⟨h1, ?_⟩
  show _ ∧ _
  rw [sz]
  have he : IsEnum ((s.heap.push o).push { cls := .type "enumerate", data := .fields #[.none, .bool false, .ref s.heap.objs.size, rawInt 0, .none, .none] }) (s.heap.objs.size + 1) s.heap.objs.size 0 .none := by
    have q := Heap.get?_push_size (s.heap.push o) (o := { cls := .type "enumerate", data := .fields #[.none, .bool false, .ref s.heap.objs.size, rawInt 0, .none, .none] }) rfl
    rw [sz] at q
    exact q
  exact ⟨⟨_, he, rfl⟩, h _ he (Heap.get?_push_of_some _ (Heap.get?_push_size _ B.free)) fun b o x => Heap.get?_push_of_some _ (Heap.get?_push_of_some _ x)⟩
end
end DLEnum
end PySem
set_option maxHeartbeats 4000000
namespace DL
open PySem PySem.Spec PyProof.Rows L2
/-! ## enumerate(a tuple) -/
def IteT (K : PySem.W.Frag) (a : Addr) : It :=
  ⟨fun i H => ∃ (xs : List V) (x : V), SqT K H a xs ∧ xs[i]? = some x, fun i H v H' => ∃ T x, v = .ref T ∧ H T = none ∧ H' = upd H T (.tup [.int (i : Nat), x]) ∧ ∀ xs, SqT K H a xs → xs[i]? = some x, fun i H => ∃ xs : List V, SqT K H a xs ∧ xs.length ≤ i⟩
theorem turn_enumT {P : Program} {w : World} {K : PySem.W.Frag} {elts : List Expr} {kk : Nat} {tpos : Pos} (a e it : Addr) :
    Turn P w K (.Tuple elts kk tpos) (IteT K a) [e, it] e (fun i h => (∃ old, IsEnum h e it ((i : Nat) : Int) old) ∧ h.IsTupleIter it a i ∧ e ≠ it ∧ e ≠ a ∧ it ≠ a) where
  mem := by simp
  obj := by
    intro i h st b hb
    obtain ⟨⟨old, he⟩, ⟨o, ho, hc, hd⟩, _⟩ := st
    rcases List.mem_cons.mp hb with z | hb
    · subst z; exact ⟨_, he, fun v q => nomatch q⟩
    · rcases List.mem_singleton.mp hb with z
      subst z
      exact ⟨o, ho, fun v q => by rw [hd] at q; cases q⟩
  keep := by
    intro i h h' st k
    obtain ⟨⟨old, he⟩, hi, ne⟩ := st
    exact ⟨⟨old, k e (by simp) _ he⟩, hi.at fun o q => k it (by simp) o q, ne⟩
  item := by
    intro X hP hw hK hc i pins s σ H E I hf st hg
    subst hP hw hK
    obtain ⟨⟨old, he⟩, hit, ne, nea, nia⟩ := st
    obtain ⟨xs, x, hq, hx⟩ := hg
    obtain ⟨its, rv, p, hz⟩ := I.tuple hq
    obtain ⟨u, hu, ru⟩ := rv.get hx
    have pT : s.heap.IsTuple a its.toArray := p
    have el : e < s.heap.objs.size := Heap.lt_size he
    have il : it < s.heap.objs.size := by
      obtain ⟨_, q, _⟩ := hit
      exact Heap.lt_size q
    have hlt : i < its.toArray.size := by
      have := (List.getElem?_eq_some_iff.mp hu).1
      simpa using this
    have hh : X.A.in1.handled = none := I.ok.hd hc
    refine wpAny_pyNext_enum_itemD (PySem.Draws.tuple hh it a (Ne.symm nia) its.toArray) he ⟨hit, pT⟩ hlt ne (by simp; exact ⟨ne, nea⟩) ?_
    intro y h' tk hy ho st' hT hsz hk
    have yu : y = u := by
      have h1 : its[i]? = some y := by simpa using hy
      rw [hu] at h1
      exact (Option.some.inj h1).symm
    subst yu
    refine ⟨_, rfl, wpAny_letOwnedTupleGo_enum (s := { s with heap := h', toks := tk + 1 }) ho ?_⟩
    intro h2 he2 sb
    have hT2 : h2.get? s.heap.objs.size = some { cls := .type "tuple", data := .seq #[.int i tk, y] } := (sb.2 _ (Nat.ne_of_gt el)).trans hT
    have new : ObjOk X.prog X.w (upd H s.heap.objs.size (.tup [.int (i : Nat), x])) h2 s.heap.objs.size (.tup [.int (i : Nat), x]) :=
      ⟨by show 2 ≤ sizeLine; decide, [.int i tk, y], .cons ⟨_, rfl⟩ (.cons ru .nil), ⟨_, hT2, rfl, _, rfl⟩⟩
    have I1 : Inv X pins σ (upd H s.heap.objs.size (.tup [.int (i : Nat), x])) { s with heap := h2, toks := tk + 1 } := by
      refine I.turnedNew (ch := [e, it]) ?_ hf (Nat.le_refl _) new
      intro b o hb q
      have nb : b ≠ e := fun z => hb (by simp [z])
      have nb2 : b ≠ it := fun z => hb (by simp [z])
      exact (sb.2 b nb).trans (hk b o nb nb2 q)
    refine ⟨.ref s.heap.objs.size, _, I1, rfl, ⟨_, x, rfl, I.hok.fresh (Nat.le_refl _), rfl, ?_⟩, ⟨⟨y, ?_⟩, st'.1.at fun o q => (sb.2 it (Ne.symm ne)).trans q, ne, nea, nia⟩, ?_⟩
    · intro zs hz
      rw [I.tuple_inj hz hq]
      exact hx
    · have e1 : ((i + 1 : Nat) : Int) = (i : Int) + 1 := by omega
      rw [e1]
      exact he2
    · intro b hb
      have lb : b < s.heap.objs.size := by
        rcases List.mem_cons.mp hb with z | hb
        · rw [z]; exact el
        · rw [List.mem_singleton.mp hb]; exact il
      rw [upd_ne (Nat.ne_of_lt lb)]
      exact (hf b hb).1
  done := by
    intro X hP hw hK hc i pins s σ H E I hf st hg
    subst hP hw hK
    obtain ⟨⟨old, he⟩, hit, ne, nea, nia⟩ := st
    obtain ⟨xs, hq, hx⟩ := hg
    obtain ⟨its, rv, p, hz⟩ := I.tuple hq
    have pT : s.heap.IsTuple a its.toArray := p
    obtain ⟨f0, f1, f2, f3, f4, f5⟩ := hf it (by simp)
    have hl := rv.length
    have hh : X.A.in1.handled = none := I.ok.hd hc
    have none_ : its.toArray[i]? = none := by
      simp
      omega
    have D : Draws X.prog X.w X.A.in1 it [it, a] i (fun _ _ => False) (fun j h => j = i ∧ h.IsTupleIter it a i ∧ h.IsTuple a its.toArray) :=
      { live := fun _ _ st => let ⟨o, ho, _⟩ := st.2.1; ⟨o, ho⟩
        frame := fun _ _ _ st k => ⟨st.1, st.2.1.at fun o e => k it (by simp) o e, st.2.2.at fun o e => k a (by simp) o e⟩
        item := fun j s Q E hj st _ => absurd st.1 (Nat.ne_of_lt hj)
        done := fun s Q E st hE => wpAny_nextOf_tuple_end hh st.2.1 st.2.2 none_ hE }
    refine wpAny_pyNext_enum_endD D he ⟨rfl, hit, pT⟩ ?_
    intro h' eb
    exact ⟨rfl, I.turned (t' := s.toks) (fun b o hb q => eb b o hb q) f0 f1 f3 f4 f5⟩
  self := by
    intro A i s Q E st h
    obtain ⟨⟨_, he⟩, _⟩ := st
    exact wpAny_pyIter_enum he h
def iEnumA (K : PySem.W.Frag) (ta : TA) : TI := fun σ H R => ta σ H fun vs H1 => ∃ a xs, vs = [.ref a] ∧ ((SqL K H1 a xs ∧ R (Ite K a) H1) ∨ (SqT K H1 a xs ∧ R (IteT K a) H1))
theorem pi_enumA {X : Cx} {e : Expr} {ta : TA} {p pos tpos : Pos} {elts : List Expr} {kk : Nat} (hg : Gl X "enumerate") (hm : X.mg "enumerate" = none) (ha : PA X [e] ta) (hs : starEach [e] X.env = [(false, eval e X.env)] := by rfl) :
    PI X (.Tuple elts kk tpos) (.Call (.Name "enumerate" p) [e] [] pos) (iEnumA X.K ta) := by
  constructor
  intro pins s σ H R I h
  apply Call_ (ld_blt I hg hm boot_enumerate (PyProof.Rows.callWith_type1 (thn (ha.run pos pins s σ H _ I h) ?_) hs rfl))
  rintro us s1 ⟨vs, H1, I1, r1, a, xs, ex, q⟩
  subst ex
  cases r1 with
  | cons r rr =>
    cases rr
    cases r
    have fresh : ∀ b ∈ [s1.heap.objs.size + 1, s1.heap.objs.size], FpOk X pins H1 b := by
      intro b hb
      have le : s1.heap.objs.size ≤ b := by
        rcases List.mem_cons.mp hb with z | hb
        · rw [z]; exact Nat.le_add_right _ _
        · rw [List.mem_singleton.mp hb]; exact Nat.le_refl _
      exact I1.fpOk le (I1.hok.fresh le)
    rcases q with ⟨hq, q⟩ | ⟨hq, q⟩
    · obtain ⟨its, rv, p', hz⟩ := I1.list hq
      apply call_enumerate_list p'.isList
      intro h' he hit hsz hk
      apply wpAny_pyIter_enum he
      exact ⟨s1.heap.objs.size + 1, [s1.heap.objs.size + 1, s1.heap.objs.size], _, _, H1, rfl, I1.kept (t' := s1.toks) hk, turn_enum a _ _, ⟨⟨.none, he⟩, hit, Nat.succ_ne_self _⟩, fresh, q⟩
    · obtain ⟨its, rv, p', hz⟩ := I1.tuple hq
      have pT : s1.heap.IsTuple a its.toArray := p'
      apply DLEnum.begins (begins_tuple a its.toArray) pT
      intro h' he ho hk
      have la : a < s1.heap.objs.size := by
        obtain ⟨_, q, _⟩ := pT
        exact Heap.lt_size q
      apply wpAny_pyIter_enum he
      exact ⟨s1.heap.objs.size + 1, [s1.heap.objs.size + 1, s1.heap.objs.size], _, _, H1, rfl, I1.kept (t' := s1.toks) hk, turn_enumT a _ _, ⟨⟨.none, he⟩, ⟨_, ho, rfl, rfl⟩, Nat.succ_ne_self _, Nat.ne_of_gt (Nat.lt_succ_of_lt la), Nat.ne_of_gt la⟩, fresh, q⟩
section
variable {X : Cx} {W : WX} {e a b c : Expr} {es : List Expr} {pos p : Pos} {K : PySem.W.Frag} {ι : List Addr} {F H : Hp} {S : zaf} {mg : Str → Option Value}
def znc (xs : List D) : List D := (List.range xs.length).zipWith (fun i x => zo4 (.int (i : Nat)) x) xs
theorem enumD_get {xs : List D} {i : Nat} {d : D} (h : xs[i]? = some d) : (znc xs)[i]? = some (zo4 (.int (i : Nat)) d) := by
  have hi := (List.getElem?_eq_some_iff.mp h).1
  unfold znc
  rw [List.getElem?_zipWith, h, List.getElem?_range hi]
theorem zk0 (xs : List D) : (znc xs).length = xs.length := by simp [znc]
theorem znj {F1 : Hp} {H1 : Hp} {S1 : zaf} (st : StR K ι F1 S1 H1) {T : Addr} (hT : H1 T = none) {u v : V} {d1 d2 : D} (w1 : Wd K F1 u d1) (w2 : Wd K F1 v d2) :
    Grow ι F1 H1 ι (upd F1 T (.tup [u, v])) (upd H1 T (.tup [u, v])) ∧ StR K ι (upd F1 T (.tup [u, v])) S1 (upd H1 T (.tup [u, v])) ∧ Wd K (upd F1 T (.tup [u, v])) (.ref T) (zo4 d1 d2) :=
  have s2 := zil st.sub hT (.tup [u, v])
  ⟨zik st.sub hT _, st.push hT _, .tup (.of upd_same) (.cons (w1.mono s2) (.cons (w2.mono s2) .nil))⟩
theorem itOk_enumL {F1 : Hp} {p1 : Addr} {vs : List V} {ds : List D} (s1 : F1 p1 = some (.lst vs)) (w1 : WdA K F1 vs ds) : ItOk K F1 (znc ds) (Ite K p1) := by
  refine ⟨fun H => SqL K H p1 vs, (Ite K p1).yld, ⟨fun i H hi g => ?_, fun H g => ⟨vs, g, by rw [zk0, w1.length]; exact Nat.le_refl _⟩, fun i H x H' _ _ y => y⟩, fun ι F2 S2 H2 st sm => .of (st.sub _ _ (sm _ _ s1)), fun ι F2 S2 H2 i x H3 st sm hi y => ?_⟩
  · rw [zk0, ← w1.length] at hi
    exact ⟨vs, vs[i], g, List.getElem?_eq_getElem hi⟩
  · obtain ⟨T, u, rfl, hT, rfl, hu⟩ := y
    have hu' := hu vs (.of (st.sub _ _ (sm _ _ s1)))
    obtain ⟨d, h1, h2⟩ := w1.get hu'
    obtain ⟨g, st', w⟩ := znj st hT (.int ((i : Nat) : Int)) (h2.mono sm)
    exact ⟨_, _, g, st', enumD_get h1, w⟩
theorem itOk_enumT {F1 : Hp} {p1 : Addr} {vs : List V} {ds : List D} (s1 : SqT K F1 p1 vs) (w1 : WdA K F1 vs ds) : ItOk K F1 (znc ds) (IteT K p1) := by
  refine ⟨fun H => SqT K H p1 vs, (IteT K p1).yld, ⟨fun i H hi g => ?_, fun H g => ⟨vs, g, by rw [zk0, w1.length]; exact Nat.le_refl _⟩, fun i H x H' _ _ y => y⟩, fun ι F2 S2 H2 st sm => zc7 st.sub (zc7 sm s1), fun ι F2 S2 H2 i x H3 st sm hi y => ?_⟩
  · rw [zk0, ← w1.length] at hi
    exact ⟨vs, vs[i], g, List.getElem?_eq_getElem hi⟩
  · obtain ⟨T, u, rfl, hT, rfl, hu⟩ := y
    have hu' := hu vs (zc7 st.sub (zc7 sm s1))
    obtain ⟨d, h1, h2⟩ := w1.get hu'
    obtain ⟨g, st', w⟩ := znj st hT (.int ((i : Nat) : Int)) (h2.mono sm)
    exact ⟨_, _, g, st', enumD_get h1, w⟩
def enum1 (x : DV) (S : zaf) : Res (List D) := match x with
  | .dat (.lst xs) => .ok (znc xs) S
  | .dat (.tup xs) => .ok (znc xs) S
  | _ => .bad
def lEnum (f : XFn) : LFn := fun ρ S => (f ρ S).bind enum1
theorem di_enum {f : XFn} {elts : List Expr} {kk : Nat} {tpos : Pos} (h : DE X W e f) (hm : X.mg "enumerate" = none) (hg : Gl X "enumerate" := by rfl) (hs : starEach [e] X.env = [(false, eval e X.env)] := by rfl) (hse : starEach (e :: []) X.env = (false, eval e X.env) :: starEach [] X.env := by rfl) :
    DI X W (.Tuple elts kk tpos) (.Call (.Name "enumerate" p) [e] [] pos) (lEnum f) := by
  refine ⟨_, pi_enumA hg hm (pa_cons h.pe pa_nil hse) hs, fun σ H R ⟨ι, F, ρ, S, r, h⟩ => ?_⟩
  refine tD.bind (g := fun _ => enum1) r h fun v dv ι1 F1 S1 H1 r1 w1 g1 h1 => ?_
  unfold enum1 at h1
  split at h1
  · rename_i xs
    have w' : Wd X.K F1 v (.lst xs) := w1
    cases w' with
    | lst s w => exact ⟨_, _, rfl, .inl ⟨.of (r1.st.sub _ _ s), h1 ι1 F1 H1 .refl r1.st _ (itOk_enumL s w)⟩⟩
  · rename_i xs
    have w' : Wd X.K F1 v (.tup xs) := w1
    cases w' with
    | tup s w => exact ⟨_, _, rfl, .inr ⟨zc7 r1.st.sub s, h1 ι1 F1 H1 .refl r1.st _ (itOk_enumT s w)⟩⟩
  · exact h1.elim
/-! ## zip -/
theorem zip_goes {vs us : List V} {ds es : List D} {F1 : Hp} (w1 : WdA K F1 vs ds) (w2 : WdA K F1 us es) {i : Nat} (hi : i < (zipD ds es).length) : ∃ x y, vs[i]? = some x ∧ us[i]? = some y := by
  simp only [zipD, List.length_zipWith] at hi
  have h1 := w1.length
  have h2 := w2.length
  exact ⟨vs[i]'(by omega), us[i]'(by omega), List.getElem?_eq_getElem _, List.getElem?_eq_getElem _⟩
theorem zip_stops {vs us : List V} {ds es : List D} {F1 : Hp} (w1 : WdA K F1 vs ds) (w2 : WdA K F1 us es) : vs.length ≤ (zipD ds es).length ∨ us.length ≤ (zipD ds es).length := by
  simp only [zipD, List.length_zipWith, w1.length, w2.length]
  omega
theorem itOk_zipL {F1 : Hp} {p1 p2 : Addr} {vs us : List V} {ds es : List D} (s1 : F1 p1 = some (.lst vs)) (w1 : WdA K F1 vs ds) (s2 : F1 p2 = some (.lst us)) (w2 : WdA K F1 us es) : ItOk K F1 (zipD ds es) (Itz K p1 p2) := by
  refine ⟨fun H => SqL K H p1 vs ∧ SqL K H p2 us, (Itz K p1 p2).yld, ⟨fun i H hi g => ?_, fun H g => ⟨vs, us, g.1, g.2, zip_stops w1 w2⟩, fun i H x H' _ _ y => y⟩, fun ι F2 S2 H2 st sm => ⟨.of (st.sub _ _ (sm _ _ s1)), .of (st.sub _ _ (sm _ _ s2))⟩, fun ι F2 S2 H2 i x H3 st sm hi y => ?_⟩
  · obtain ⟨x, y, h1, h2⟩ := zip_goes w1 w2 hi
    exact ⟨vs, us, x, y, g.1, g.2, h1, h2⟩
  · obtain ⟨T, u, v, rfl, hT, rfl, hu, hv⟩ := y
    obtain ⟨d, h1, h2⟩ := w1.get (hu vs (.of (st.sub _ _ (sm _ _ s1))))
    obtain ⟨e, h3, h4⟩ := w2.get (hv us (.of (st.sub _ _ (sm _ _ s2))))
    obtain ⟨g, st', w⟩ := znj st hT (h2.mono sm) (h4.mono sm)
    exact ⟨_, _, g, st', by unfold zipD; rw [List.getElem?_zipWith, h1, h3], w⟩
theorem itOk_zipT {F1 : Hp} {p1 p2 : Addr} {vs us : List V} {ds es : List D} (s1 : SqT K F1 p1 vs) (w1 : WdA K F1 vs ds) (s2 : SqT K F1 p2 us) (w2 : WdA K F1 us es) : ItOk K F1 (zipD ds es) (RZ.ItzT K p1 p2) := by
  refine ⟨fun H => SqT K H p1 vs ∧ SqT K H p2 us, (RZ.ItzT K p1 p2).yld, ⟨fun i H hi g => ?_, fun H g => ⟨vs, us, g.1, g.2, zip_stops w1 w2⟩, fun i H x H' _ _ y => y⟩, fun ι F2 S2 H2 st sm => ⟨zc7 st.sub (zc7 sm s1), zc7 st.sub (zc7 sm s2)⟩, fun ι F2 S2 H2 i x H3 st sm hi y => ?_⟩
  · obtain ⟨x, y, h1, h2⟩ := zip_goes w1 w2 hi
    exact ⟨vs, us, x, y, g.1, g.2, h1, h2⟩
  · obtain ⟨T, u, v, rfl, hT, rfl, hu, hv⟩ := y
    obtain ⟨d, h1, h2⟩ := w1.get (hu vs (zc7 st.sub (zc7 sm s1)))
    obtain ⟨e, h3, h4⟩ := w2.get (hv us (zc7 st.sub (zc7 sm s2)))
    obtain ⟨g, st', w⟩ := znj st hT (h2.mono sm) (h4.mono sm)
    exact ⟨_, _, g, st', by unfold zipD; rw [List.getElem?_zipWith, h1, h3], w⟩
def zip2 (x y : DV) (S : zaf) : Res (List D) := match x, y with
  | .dat (.lst xs), .dat (.lst ys) => .ok (zipD xs ys) S
  | .dat (.tup xs), .dat (.tup ys) => .ok (zipD xs ys) S
  | _, _ => .bad
def lZip (f g : XFn) : LFn := fun ρ S => (f ρ S).bind fun x S1 => (g ρ S1).bind fun y S2 => zip2 x y S2
theorem di_zip {f g : XFn} {elts : List Expr} {kk : Nat} {tpos : Pos} (ha : DE X W a f) (hb : DE X W b g) (hm : X.mg "zip" = none) (hg : Gl X "zip" := by rfl) (hs : starEach [a, b] X.env = (false, eval a X.env) :: starEach [b] X.env := by rfl) (hpl : (backTo pos (starEach [b] X.env)).any (·.1) = false := by rfl) (hse : starEach (b :: []) X.env = (false, eval b X.env) :: starEach [] X.env := by rfl) :
    DI X W (.Tuple elts kk tpos) (.Call (.Name "zip" p) [a, b] [] pos) (lZip f g) := by
  refine ⟨_, RZ.pi_zipA hg hm (pa_cons ha.pe (pa_cons hb.pe pa_nil hse) hs) hs hpl, fun σ H R ⟨ι, F, ρ, S, r, h⟩ => ?_⟩
  refine tD.bind (g := fun ρ x S1 => (g ρ S1).bind fun y S2 => zip2 x y S2) r h fun v dv ι1 F1 S1 H1 r1 w1 g1 h1 => ?_
  refine tD.bind (g := fun ρ y S2 => zip2 dv y S2) r1 h1 fun u du ι2 F2 S2 H2 r2 w2 g2 h2 => ?_
  have w1' := w1.grow g2
  unfold zip2 at h2
  split at h2
  · rename_i xs ys
    have wa : Wd X.K F2 v (.lst xs) := w1'
    have wb : Wd X.K F2 u (.lst ys) := w2
    cases wa with
    | lst s1 v1 =>
      cases wb with
      | lst s2 v2 => exact ⟨_, _, _, _, rfl, .inl ⟨.of (r2.st.sub _ _ s1), .of (r2.st.sub _ _ s2), h2 ι2 F2 H2 .refl r2.st _ (itOk_zipL s1 v1 s2 v2)⟩⟩
  · rename_i xs ys
    have wa : Wd X.K F2 v (.tup xs) := w1'
    have wb : Wd X.K F2 u (.tup ys) := w2
    cases wa with
    | tup s1 v1 =>
      cases wb with
      | tup s2 v2 => exact ⟨_, _, _, _, rfl, .inr ⟨zc7 r2.st.sub s1, zc7 r2.st.sub s2, h2 ι2 F2 H2 .refl r2.st _ (itOk_zipT s1 v1 s2 v2)⟩⟩
  · exact h2.elim
end
end DL
set_option maxHeartbeats 4000000
namespace DL
open PySem PySem.Spec PyProof.Rows L2
/-! ## sorted(set(ints)) -/
def insS (n : Int) : List Int → List Int
  | [] => [n]
  | m :: r => if n < m then n :: m :: r else if n = m then m :: r else m :: insS n r
def sset : List Int → List Int
  | [] => []
  | n :: ns => insS n (sset ns)
theorem zqn (n k : Int) : ∀ l : List Int, k ∈ insS n l ↔ k = n ∨ k ∈ l
  | [] => by simp [insS]
  | m :: r => by
    unfold insS
    have h := zqn n k r
    split
    · simp
    · split
      · rename_i e; subst e; simp
      · simp [h]
        constructor
        · rintro (h | h | h) <;> simp [h]
        · rintro (h | h | h) <;> simp [h]
theorem zoi (n : Int) : ∀ l : List Int, l.Pairwise (· < ·) → (insS n l).Pairwise (· < ·)
  | [], _ => by simp [insS]
  | m :: r, h => by
    unfold insS
    rw [List.pairwise_cons] at h
    split
    · rename_i hn
      refine List.pairwise_cons.mpr ⟨fun k hk => ?_, List.pairwise_cons.mpr h⟩
      rcases List.mem_cons.mp hk with z | z
      · subst z; exact hn
      · have := h.1 k z; omega
    · split
      · exact List.pairwise_cons.mpr h
      · rename_i h1 h2
        refine List.pairwise_cons.mpr ⟨fun k hk => ?_, zoi n r h.2⟩
        rcases (zqn n k r).mp hk with z | z
        · subst z; omega
        · exact h.1 k z
theorem ze4 : ∀ l : List Int, (sset l).Pairwise (· < ·)
  | [] => .nil
  | n :: r => zoi n _ (ze4 r)
theorem zg4 (k : Int) : ∀ l : List Int, k ∈ sset l ↔ k ∈ l
  | [] => by simp [sset]
  | n :: r => by
    show k ∈ insS n (sset r) ↔ _
    rw [zqn, zg4 k r, List.mem_cons]
theorem ziw : ∀ {a b : List Int}, a.Pairwise (· < ·) → b.Pairwise (· < ·) → (∀ k, k ∈ a ↔ k ∈ b) → a = b
  | [], [], _, _, _ => rfl
  | [], y :: b, _, _, h => absurd ((h y).mpr List.mem_cons_self) (by simp)
  | x :: a, [], _, _, h => absurd ((h x).mp List.mem_cons_self) (by simp)
  | x :: a, y :: b, ha, hb, h => by
    rw [List.pairwise_cons] at ha hb
    have e : x = y := by
      rcases List.mem_cons.mp ((h x).mp List.mem_cons_self) with z | z
      · exact z
      · rcases List.mem_cons.mp ((h y).mpr List.mem_cons_self) with q | q
        · exact q.symm
        · have := ha.1 y q; have := hb.1 x z; omega
    subst e
    have nx : x ∉ a := fun m => by have := ha.1 x m; omega
    have ny : x ∉ b := fun m => by have := hb.1 x m; omega
    have t : a = b := ziw ha.2 hb.2 fun k => by
      have q := h k
      simp only [List.mem_cons] at q
      constructor
      · intro m
        rcases q.mp (.inr m) with z | z
        · subst z; exact absurd m nx
        · exact z
      · intro m
        rcases q.mpr (.inr m) with z | z
        · subst z; exact absurd m ny
        · exact z
    rw [t]
section
variable {X : Cx} {W : WX} {e a b c : Expr} {es : List Expr} {pos p : Pos} {K : PySem.W.Frag} {ι : List Addr} {F H : Hp} {S : zaf} {mg : Str → Option Value}
def rSetI (K : PySem.W.Frag) (w : World) : List V → Hp → VK → Prop := fun xs H Q => ∃ (a : Addr) (ns : List Int), xs = [V.ref a] ∧ (SqL K H a (ns.map V.int) ∨ SqT K H a (ns.map V.int)) ∧ ns.length < 64 ∧
  ∀ p c, H p = none → c ≤ ns.length → Q (.ref p) (upd H p (SetO w p (fun j => decide (j ∈ ns)) c))
theorem cr_setI (hc : X.calm = true) : CallR X (.type "set") (rSetI X.K X.w) := by
  intro pins s σ H xs us Q I r h
  obtain ⟨a, ns, rfl, hq, hl, q⟩ := h
  rw [Vals.ref1 r]
  have hb : ns.length + 1 < scanBound := by unfold scanBound; omega
  have fin : ∀ (h' : Heap) (tk c : Nat), SetR X.w h' s.heap.objs.size (fun j => decide (j ∈ ns)) c → c ≤ ns.length → (∀ b o, s.heap.get? b = some o → h'.get? b = some o) → EP X pins σ Q (.ref s.heap.objs.size) { s with heap := h', toks := tk } := by
    intro h' tk c R hc k
    exact ⟨.ref s.heap.objs.size, _, I.laid (t' := tk) k (Nat.le_refl _) (setO_new R), rfl, q _ c (I.hok.fresh (Nat.le_refl _)) hc⟩
  rcases hq with hq | hq
  · obtain ⟨its, rv, p, hz⟩ := I.list hq
    exact PySem.DLSet.set_of_list ns (I.ok.hd hc) p.isList (by simpa using RZ.intsAre_vals rv) hb fin
  · obtain ⟨its, rv, p, hz⟩ := I.tuple hq
    exact call_set_tupI ns (I.ok.hd hc) p (by simpa using RZ.intsAre_vals rv) hb fin
def zqc (x : DV) (S : zaf) : Res (List D) := match rd S x with
  | some (.lst xs) => (match zhf xs with
    | some ns => if ns.length < 64 then .ok ((sset ns).map .int) S else .bad
    | none => .bad)
  | some (.tup xs) => (match zhf xs with
    | some ns => if ns.length < 64 then .ok ((sset ns).map .int) S else .bad
    | none => .bad)
  | _ => .bad
def zj2 (f : XFn) : LFn := fun ρ S => (f ρ S).bind zqc
theorem zj4 {f : XFn} {p2 p3 : Pos} (hc : X.calm = true) (h : DE X W a f) (hm : X.mg "sorted" = none) (hm2 : X.mg "set" = none) (hg : Gl X "sorted" := by rfl) (hg2 : Gl X "set" := by rfl)
    (he : starEach (a :: []) X.env = (false, eval a X.env) :: starEach [] X.env := by rfl)
    (he2 : starEach (.Call (.Name "set" p2) [a] [] p3 :: []) X.env = (false, eval (.Call (.Name "set" p2) [a] [] p3) X.env) :: starEach [] X.env := by rfl) :
    NE X W (.Call (.Name "sorted" p) [.Call (.Name "set" p2) [a] [] p3] [] pos) (zj2 f) := by
  refine ⟨PE.weak (pe_callB (cr_sortedSet hc) hg hm (by decide +kernel) (pa_cons (pe_callTy (cr_setI hc) hg2 hm2 (by decide +kernel) (pa_cons h.pe pa_nil he) (by decide) (by decide) he rfl) pa_nil he2) (by decide) (by decide) he2 rfl) fun σ H Q ⟨ι, F, ρ, S, r, h⟩ => ?_⟩
  refine tD.bind (g := fun _ => zqc) r h fun v dv ι1 F1 S1 H1 r1 w1 g1 h1 => ?_
  unfold zqc at h1
  cases ed : rd S1 dv with
  | none => simp only [ed] at h1; exact h1.elim
  | some d =>
    have vw := r1.st.vw w1 ed
    have core : ∀ (ns : List Int) (p0 : Addr) (vs : List V) (xs : List D), (SqL X.K H1 p0 vs ∨ SqT X.K H1 p0 vs) → WdA X.K F1 vs xs → zhf xs = some ns → ns.length < 64 →
        Post X.K X.mg (fun c d H' => W c d σ H') ι1 F1 H1 (.ok ((sset ns).map D.int) S1) (fun ds ι' F' H' => ∀ p vs, H p = none → H' p = some (.lst vs) → F' p = none → p ∉ ι' → WdA X.K F' vs ds → Q (V.ref p) H') →
        rSetI X.K X.w [.ref p0] H1 (fun x H2 => rSortedSet X.w [x] H2 Q) := by
      intro ns p0 vs xs hs w ei hl hp
      have ev := zl0 w ei
      subst ev
      refine ⟨p0, ns, rfl, hs, hl, fun p c hp0 hc => ⟨p, _, c, rfl, upd_same, by omega, fun ns' p' h1 h2 h3 h4 => ?_⟩⟩
      have e : ns' = sset ns := ziw h1 (ze4 ns) fun k => by
        rw [h2 k, zg4]
        simp
      subst e
      have st2 := r1.st.alone hp0 (SetO X.w p (fun j => decide (j ∈ ns)) c)
      exact znm st2 (g1.trans (zf_ hp0 _)) (Post.grow (r := Res.ok _ S1) hp (zf_ hp0 _)) (znl _) h4
    cases vw with
    | lst s w =>
      rename_i p0 vs xs
      simp only [ed] at h1
      cases ei : zhf xs with
      | none => simp only [ei] at h1; exact h1.elim
      | some ns =>
        simp only [ei] at h1
        by_cases hl : ns.length < 64
        · simp only [hl, if_true] at h1
          exact (core ns _ _ _ (.inl (.of s)) w ei hl h1)
        · simp only [hl, if_false] at h1; exact h1.elim
    | tup s w =>
      rename_i p0 vs xs
      simp only [ed] at h1
      cases ei : zhf xs with
      | none => simp only [ei] at h1; exact h1.elim
      | some ns =>
        simp only [ei] at h1
        by_cases hl : ns.length < 64
        · simp only [hl, if_true] at h1
          exact (core ns _ _ _ (.inr (zc7 r1.st.sub s)) w ei hl h1)
        · simp only [hl, if_false] at h1; exact h1.elim
    | _ => simp only [ed] at h1; exact h1.elim
end
end DL
set_option maxHeartbeats 4000000
namespace DL
open PySem PySem.Spec PyProof.Rows L2
/-! ## the law: its call over the heap behind the top, with the script alone tracked -/
section
variable {P : Program} {w : World} {K : PySem.W.Frag} {mg mb : Str → Option Value} {k : Nat} {fa a : Addr} {fd : FuncData} {x : Str} {g : Fn} {s1 : Shared} {vs : List Value} {ns : List Int}
structure Starts (K : PySem.W.Frag) (h : Heap) (a : Addr) (H : Hp) : Prop where
  scr : H a = none ∨ ∃ ob xs, H a = some (.frz ob (.lst xs))
  all : ∀ b, H b ≠ none → b = a ∨ b ∈ zdr K
  key : H a ≠ none → K.lookup a = none
  tab : ∀ b ∈ zdr K, H b = some (.tbl #[]) ∧ PySem.isCodeTable h b ∧ K.lookup b = none
theorem law_run (KX : K.In s1.heap) (hns : s1.heap.Ns mainGlobals mg) (hb : s1.heap.Ns builtinsNs mb) (hbb : ∀ x : Str, x ≠ "__name__" → mb x = bootBuiltins x) (hlim : s1.heap.NoLimit) (hg : s1.gens = #[])
    (ha : s1.heap.get? a = some { cls := .type "list", data := .seq vs.toArray }) (hi : IntsAre vs ns) (hl : ns.length ≤ sizeLine) (hr : Room k callerA)
    (Fg : ∀ base : Heap, K.In base → base.Ns mainGlobals mg → FnG P w K mg base k fa fd [x] (spD K mg 1 g)) (bind : ∀ (s : Shared) (u : Value), BindsTo s fd ⟨[u], []⟩ [(x, u)])
    (ans : ∃ S, g [.scr ns] [] = .ok (.dat (.bl true)) S) (H : Hp) (B : Starts K s1.heap a H) (hS : SqL K H a (ns.map V.int)) (hok : HOk P w H s1.heap) :
    codeAny (model P w) callerA (.call (.ref fa) ⟨[.ref a], []⟩) (fun r s' => r = .ok (.ret (.bool true)) ∧ OldK s1.heap s'.heap ∧ s'.os = s1.os ∧ AllBare s'.gens) s1 := by
  have isA : ∀ {b : Addr} {u : HO}, H b = some u → b = a ∨ b ∈ zdr K := fun {b u} q => B.all b (by rw [q]; simp)
  have atT : ∀ b ∈ zdr K, s1.heap.get? b = some { cls := .none, data := .fields #[] } := fun b hb => hok b _ (B.tab b hb).1
  have naT : a ∉ zdr K := fun m => by
    have := atT a m
    rw [ha] at this
    cases this
  have nsOf : ∀ {b : Addr} {m : Str → Option Value}, s1.heap.Ns b m → (hidT s1.heap H).Ns b m := by
    intro b m h
    obtain ⟨o, es, ep, e, d, r⟩ := h
    refine ⟨o, es, ep, hidT_get e ?_, d, r⟩
    cases q : H b with
    | none => rfl
    | some u =>
      rcases isA q with z | z
      · subst z
        rw [ha] at e
        cases e
        exact nomatch (show Data.seq vs.toArray _ = Data.dict es ep from d)
      · rw [atT b z] at e
        cases e
        exact nomatch (show Data.fields _ = Data.dict es ep from d)
  have KB : K.In (hidT s1.heap H) := by
    intro b o e
    refine hidT_get (KX b o e) ?_
    cases q : H b with
    | none => rfl
    | some u =>
      rcases isA q with z | z
      · subst z
        have := B.key (by rw [q]; simp)
        rw [this] at e
        cases e
      · rw [(B.tab b z).2.2] at e
        cases e
  have md : Mod K mg (hidT s1.heap H) := by
    refine ⟨KB, nsOf hns, ⟨mb, nsOf hb, hbb⟩, ?_⟩
    obtain ⟨mc, h1, h2⟩ := hlim
    exact ⟨mc, nsOf h1, h2⟩
  have e0 : Env0 P w K mg (hidT s1.heap H) callerA [] s1 H :=
    { frames := rfl
      mod := md
      bs := fun b o e => of_hidT e
      bsz := Nat.le_of_eq (hidT_size _ _)
      funs := trivial
      frf := fun b hb => nomatch hb
      hok := hok
      bare := .of_eq hg }
  obtain ⟨S, ea⟩ := ans
  let F : Hp := fun b => if b = a then H a else none
  have fA : F a = H a := if_pos rfl
  have fN : ∀ b, b ≠ a → F b = none := fun b h => if_neg h
  have sFH : Same F H := fun b o e => by
    by_cases h : b = a
    · subst h; rw [fA] at e; exact e
    · rw [fN b h] at e; cases e
  have st : StR K [] F [] H := ⟨sFH, rfl, List.nodup_nil, fun b hb => (nomatch hb), fun k ds e => by simp at e, fun b hb => LamX.TabS.nil (B.tab b.1 (List.mem_map_of_mem hb)).1, fun b hb => fN b (fun z => naT (z ▸ hb))⟩
  have hSF : SqL K F a (ns.map V.int) := by
    rcases hS with (z | ⟨o, z⟩) | z
    · exact .inl (.inl (by rw [fA]; exact z))
    · exact .inl (.inr ⟨o, by rw [fA]; exact z⟩)
    · exact .inr z
  have sp : spD K mg 1 g [.ref a] H (fun v _ => v = .bl true) (fun _ _ _ => False) := by
    refine ⟨rfl, [], F, [], [.scr ns], st, .cons ⟨a, rfl, hSF⟩ .nil, ?_⟩
    rw [ea]
    intro ι' F' H' gr st' v wv
    have wv' : Wd K F' v (.bl true) := wv
    cases wv'
    rfl
  refine codeAny_mono ((Fg _ KB (nsOf hns)).run callerA [] s1 H ⟨[.ref a], []⟩ [.ref a] [.ref a] _ _ (.of hr) (fun _ => hr.hd) rfl e0 (bind s1 (.ref a)) (.cons rfl .nil) sp) ?_
  intro r s' h
  cases r with
  | error e =>
    obtain ⟨_, _, _, _, _, _, _, _, _, _, _, _, z⟩ := h
    exact z.elim
  | ok fl =>
    cases fl with
    | next => exact h.elim
    | brk => exact h.elim
    | cont => exact h.elim
    | ret u =>
      obtain ⟨v, H', os, bare, un, hok', rv, q⟩ := h
      have q' : v = .bl true := q
      subst q'
      obtain rfl : u = Value.bool true := rv
      have keep : ∀ b o, s1.heap.get? b = some o → b ∉ zdr K → s'.heap.get? b = some o := by
        intro b o e nt
        cases q : H b with
        | none => exact un.keep b o e q (fun z => nomatch (show b ∈ ([] : List Addr) from z)) (by simp)
        | some u =>
          rcases isA q with z | z
          · subst z
            rcases B.scr with z | ⟨ob, xs, z⟩
            · rw [q] at z; cases z
            · obtain ⟨e1, _⟩ := hok b _ z
              obtain ⟨e2, _⟩ := hok' b _ (un.frzs b ob _ z)
              rw [e] at e1
              cases e1
              exact e2
          · exact absurd z nt
      have keepT : ∀ b ∈ zdr K, ∃ more, s'.heap.get? b = some { cls := .none, data := .fields (#[] ++ more) } := fun b hb => by
        obtain ⟨more, hm⟩ := un.tbls b _ (B.tab b hb).1
        exact ⟨more, hok' b _ hm⟩
      refine ⟨rfl, ⟨fun b o e => ?_, fun b o e => ?_⟩, os, bare⟩
      · by_cases hb : b ∈ zdr K
        · obtain ⟨more, hm⟩ := keepT b hb
          have := atT b hb
          rw [e] at this
          cases this
          exact .inr (.inl ⟨(B.tab b hb).2.1, rfl, #[], more, rfl, hm⟩)
        · exact .inl (keep b o e hb)
      · by_cases hb : b ∈ zdr K
        · obtain ⟨more, hm⟩ := keepT b hb
          exact ⟨_, hm⟩
        · exact ⟨o, keep b o e hb⟩
def TabLook (K : PySem.W.Frag) (h : Heap) : Prop := ∀ b ∈ zdr K, h.get? b = some { cls := .none, data := .fields #[] } ∧ PySem.isCodeTable h b ∧ K.lookup b = none
theorem walkD {l : PySem.W.OpenLaw} {n : Nat} {q : Program} {loose : List Str} {XP : (Str → Option Value) → Heap → Prop} {YP : World → Heap → Prop} {d : DefRec}
    (hn : l.most = some n) (hn2 : n ≤ sizeLine) (hdf : d.params.defaults = []) (hr : Room k callerA)
    (F : ∀ (w : World) (mg : Str → Option Value) (fa : Addr) (h : Heap), YP w h → h.Ns mainGlobals mg → mg d.name = some (.ref fa) →
      ∃ (K : PySem.W.Frag) (fd : FuncData), K.In h ∧ TabLook K h ∧ (∀ (s : Shared) (u : Value), BindsTo s fd ⟨[u], []⟩ [(x, u)]) ∧ (∀ base : Heap, K.In base → base.Ns mainGlobals mg → FnG l.prog w K mg base k fa fd [x] (spD K mg 1 g)))
    (ans : ∀ ns : List Int, ns.length ≤ n → ∃ S, g [.scr ns] [] = .ok (.dat (.bl true)) S) :
    PySem.W.WalkO q loose XP YP l.row.toRowW d [] (fun f vs => PySem.call f vs) := by
  apply Att.attach_call hn hdf
  intro w s0 s1 mg mb fa o pm cd doc a vs ns G Y ho hd hcd hmg hobj hints hlen hg
  obtain ⟨K, fd, KX, hT, hb, hF⟩ := F w mg fa _ Y G.T.g hmg
  have hl : ns.length ≤ sizeLine := Nat.le_trans hlen hn2
  have core := law_run KX G.T.g G.T.b G.T.builtins G.T.nolimit hg hobj hints hl hr hF hb (ans ns hlen)
  have rv := vals_ints hints
  have lenV := hints.length
  have naT : a ∉ zdr K := fun m => by
    have := (hT a m).1
    rw [hobj] at this
    cases this
  cases hk : K.lookup a with
  | some ob =>
    have e := KX a ob hk
    rw [hobj] at e
    cases e
    refine core (fun b => if b ∈ zdr K then some (.tbl #[]) else none) ⟨.inl (if_neg naT), fun b hb => ?_, fun h => absurd (if_neg naT) h, fun b hb => ⟨if_pos hb, (hT b hb).2⟩⟩ ?_ ?_
    · by_cases hm : b ∈ zdr K
      · exact .inr hm
      · exact absurd (if_neg hm) hb
    · exact .inr ⟨_, vs.toArray, _, hk, rfl, rfl, rfl, by rw [List.size_toArray, lenV]; exact hl, by simpa using rv⟩
    · intro b u z
      by_cases hm : b ∈ zdr K
      · have z2 := (if_pos hm).symm.trans z
        cases z2
        exact (hT b hm).1
      · exact nomatch (if_neg hm).symm.trans z
  | none =>
    have ifA : (if a ∈ zdr K then some (HO.tbl #[]) else if a = a then some (HO.frz { cls := .type "list", data := .seq vs.toArray } (.lst (ns.map V.int))) else none) = some (HO.frz { cls := .type "list", data := .seq vs.toArray } (.lst (ns.map V.int))) := by
      rw [if_neg naT, if_pos rfl]
    refine core (fun b => if b ∈ zdr K then some (.tbl #[]) else if b = a then some (.frz { cls := .type "list", data := .seq vs.toArray } (.lst (ns.map V.int))) else none) ⟨.inr ⟨_, _, ifA⟩, fun b hb => ?_, fun _ => hk, fun b hb => ⟨if_pos hb, (hT b hb).2⟩⟩ (.inl (.inr ⟨_, ifA⟩)) ?_
    · by_cases hm : b ∈ zdr K
      · exact .inr hm
      · by_cases h2 : b = a
        · exact .inl h2
        · exact absurd ((if_neg hm).trans (if_neg h2)) hb
    · intro b u z
      by_cases hm : b ∈ zdr K
      · have z2 := (if_pos hm).symm.trans z
        cases z2
        exact (hT b hm).1
      · by_cases h2 : b = a
        · have z2 := ((if_neg hm).trans (if_pos h2)).symm.trans z
          cases z2
          subst h2
          exact ⟨hobj, by rw [List.length_map]; exact hl, vs, _, rv, hobj⟩
        · exact nomatch ((if_neg hm).trans (if_neg h2)).symm.trans z
end
end DL
set_option maxHeartbeats 4000000
namespace PySem
namespace DLTup
open L2 PyProof.Rows
theorem mul_self (l : Addr) (items : Array Value) (n : Nat) (dd : Option Addr) (sl : Array (Option Value)) (x : Int) (u : Tok) (c0 : (decide (x < -(2 ^ 63)) || decide (x ≥ 2 ^ 63)) = false) (c1 : (items.isEmpty || x == 1) = true) :
    Meets (Builtin.«tuple.__mul__» ⟨[.ref l, .int x u], []⟩) (fun _ R s => s.heap.get? l = some { cls := .type "tuple", dict := dd, data := .seq items n, slots := sl } ∧ R (.ok (.ret (.ref l))) s) :=
  .of_wp fun prog w A R s h => by
    obtain ⟨hp, g, d, tk, os⟩ := s
    obtain ⟨hl, h⟩ := h
    have f1 := AutoSeq1.idx_int
    wp_walk using wpAny_loadPart' hl
    repeat (first
      | (refine wpAny_ite_false (decide_eq_false (by rw [c0]; exact Bool.false_ne_true)) ?_; wp_walk using wpAny_loadPart' hl)
      | (refine wpAny_ite_true (decide_eq_true c1) ?_; wp_walk using wpAny_loadPart' hl))
    all_goals exact ⟨_, rfl, h⟩
end DLTup
end PySem
namespace DL
open PySem PySem.Spec PyProof.Rows L2
section
variable {X : Cx} {W : WX} {e a b c : Expr} {es : List Expr} {pos p : Pos} {K : PySem.W.Frag} {ι : List Addr} {F H : Hp} {S : zaf} {mg : Str → Option Value}
/-! ## tuple * 1, () * n: the same tuple -/
def rRepE (K : PySem.W.Frag) : R2 := fun x y H Q => ∃ l k xs, x = V.ref l ∧ y = V.int k ∧ SqT K H l xs ∧ (xs = [] ∨ k = 1) ∧ -1000 ≤ k ∧ k ≤ 1000 ∧ Q (.ref l) H
theorem op_repE : OpR X (binaryOp .Mult) (rRepE X.K) := by
  intro pins s σ H x y v u Q I rx ry ⟨l, k, xs, ex, ey, hT, hk, h1, h2, q⟩
  subst ex
  subst ey
  cases rx
  obtain ⟨t, rfl⟩ := ry
  obtain ⟨its, r, ⟨⟨cls, dd, data, sl⟩, ho, hc, n, hd⟩, hs⟩ := I.tuple hT
  simp only at hc hd
  subst hc hd
  have c0 : (decide (k < -(2 ^ 63)) || decide (k ≥ 2 ^ 63)) = false := by
    rw [decide_eq_false (by omega), decide_eq_false (by omega)]
    rfl
  have c1 : (its.toArray.isEmpty || k == 1) = true := by
    rcases hk with e | e
    · subst e
      cases r
      rfl
    · subst e
      simp
  exact wpAny_binaryOp_repeat_ref (T := "tuple") (U := "int") (by decide) ⟨_, ho, rfl⟩ (fun s' => typeIs_int s' k t) noFill_tuple_mul F.fills_int_mul F.slot_int_rmul repeat_tuple F.slot_int_index.lookup
    (call_meets F.slot_int_rmul (typeIs_int s k t) F.entry_int_rmul (F.args_int_rmul_2 _ _) (int_rmul_tuple k t l its.toArray n dd sl)
      ⟨ho, rfl, ⟨_, ho, rfl⟩, call_meets F.slot_tuple_mul ⟨_, ho, rfl⟩ F.entry_tuple_mul (F.args_tuple_mul_2 _ _) (PySem.DLTup.mul_self l its.toArray n dd sl k t c0 c1) ⟨ho, ⟨.ref l, H, I, rfl, q⟩⟩⟩)
def zjl : D → D → Option D
  | .tup a, .int k => if (a = [] ∨ k = 1) ∧ -1000 ≤ k ∧ k ≤ 1000 then some (.tup a) else dMul (.tup a) (.int k)
  | x, y => dMul x y
abbrev rMulA (K : PySem.W.Frag) : R2 := fun x y H Q => rMulD K x y H Q ∨ rRepE K x y H Q
theorem zkp : OpR X (binaryOp .Mult) (rMulA X.K) := op_mulD.or op_repE
theorem zi3 : OpOk K (rMulA K) (o2 zjl) := zn9 fun ι F H S v u a b c Q st va vb e q => by
  unfold zjl at e
  split at e
  · split at e
    · rename_i hk
      cases e
      cases va with
      | tup s w =>
        cases vb
        refine .inr ⟨_, _, _, rfl, rfl, zc7 st.sub s, ?_, hk.2.1, hk.2.2, q.same st (.tup s w)⟩
        rcases hk.1 with z | z
        · subst z
          cases w
          exact .inl rfl
        · exact .inr z
    · exact .inl (dMul_core st va vb e q)
  · exact .inl (dMul_core st va vb e q)
/-! ## -n -/
def neg1 (x : DV) (S : zaf) : Res DV := match x with
  | .dat (.int i) => .ok (.dat (.int (-i))) S
  | _ => .bad
def xNeg (f : XFn) : XFn := fun ρ S => (f ρ S).bind neg1
theorem de_neg {f : XFn} (h : DE X W a f) : DE X W (.UnaryOp .USub a pos) (xNeg f) := by
  refine ⟨PE.weak (pe_un un_neg h.pe) fun σ H Q ⟨ι, F, ρ, S, r, h⟩ => ?_⟩
  refine tD.bind (g := fun _ => neg1) r h fun v dv ι1 F1 S1 H1 r1 w1 g1 h1 => ?_
  unfold neg1 at h1
  split at h1
  · rename_i i
    have w' : Wd X.K F1 v (.int i) := w1
    cases w'
    exact ⟨i, rfl, h1 ι1 F1 H1 .refl r1.st _ (.int _)⟩
  · exact h1.elim
/-! ## a list or a tuple walked -/
def iSeq (K : PySem.W.Frag) (tl : TE) : TI := fun σ H R => tl σ H fun x H1 => ∃ a, x = .ref a ∧ (((∃ xs, SqL K H1 a xs) ∧ R (Itl K a) H1) ∨ ((∃ xs, SqT K H1 a xs) ∧ R (Itt K a) H1))
theorem pi_seq {tg l : Expr} {tl : TE} (hl : PE X l tl) : PI X tg l (iSeq X.K tl) := by
  constructor
  intro pins s σ H R I h
  apply thn (hl.run pins s σ H _ I h)
  rintro v s1 ⟨x, H1, I1, r1, a, ex, q⟩
  subst ex
  cases r1
  have fresh : ∀ b ∈ [s1.heap.objs.size], FpOk X pins H1 b := by
    intro b hb
    rw [List.mem_singleton.mp hb]
    exact I1.fpOk (Nat.le_refl _) (I1.hok.fresh (Nat.le_refl _))
  rcases q with ⟨⟨xs, hq⟩, q⟩ | ⟨⟨xs, hq⟩, q⟩
  · obtain ⟨its, rv, p, hz⟩ := I1.list hq
    apply wpAny_pyIter_list p.isList
    exact ⟨s1.heap.objs.size, [s1.heap.objs.size], _, _, H1, rfl, I1.kept (t' := s1.toks) (fun b o e => Heap.get?_push_of_some _ e), turn_list a _, ⟨_, Heap.get?_push_size _ rfl, rfl, rfl⟩, fresh, q⟩
  · obtain ⟨its, rv, p, hz⟩ := I1.tuple hq
    apply wpAny_pyIter_tuple (show s1.heap.IsTuple a its.toArray from p)
    exact ⟨s1.heap.objs.size, [s1.heap.objs.size], _, _, H1, rfl, I1.kept (t' := s1.toks) (fun b o e => Heap.get?_push_of_some _ e), turn_tuple a _, ⟨_, Heap.get?_push_size _ rfl, rfl, rfl⟩, fresh, q⟩
def zes (x : DV) (S : zaf) : Res (List D) := match x with
  | .dat (.lst xs) => .ok xs S
  | .dat (.tup xs) => .ok xs S
  | _ => .bad
def lIt (f : XFn) : LFn := fun ρ S => (f ρ S).bind zes
theorem zb3 {tg : Expr} {f : XFn} (h : DE X W e f) : DI X W tg e (lIt f) := by
  refine ⟨_, pi_seq h.pe, fun σ H R ⟨ι, F, ρ, S, r, h⟩ => ?_⟩
  refine tD.bind (g := fun _ => zes) r h fun v dv ι1 F1 S1 H1 r1 w1 g1 h1 => ?_
  unfold zes at h1
  split at h1
  · rename_i xs
    have w' : Wd X.K F1 v (.lst xs) := w1
    cases w' with
    | lst s w => exact ⟨_, rfl, .inl ⟨⟨_, .of (r1.st.sub _ _ s)⟩, h1 ι1 F1 H1 .refl r1.st _ (itOk_list s w)⟩⟩
  · rename_i xs
    have w' : Wd X.K F1 v (.tup xs) := w1
    cases w' with
    | tup s w => exact ⟨_, rfl, .inr ⟨⟨_, zc7 r1.st.sub s⟩, h1 ι1 F1 H1 .refl r1.st _ (itOk_tup s w)⟩⟩
  · exact h1.elim
/-! ## more new lists -/
def sRetN (f : LFn) : SFn := fun ρ S => (f ρ S).bindS ρ fun ds S1 => .rt (.obj S1.length) (S1 ++ [some ds])
theorem ds_retN {f : LFn} (h : NE X W e f) : DS X W (.Return (some e) pos) (sRetN f) := by
  refine ⟨_, ps_ret h.pe, fun D σ H ⟨ι, F, ρ, S, r, h⟩ => ⟨ι, F, ρ, S, r, ?_⟩⟩
  unfold sRetN at h
  cases q : f ρ S with
  | bad => rw [q] at h; exact h
  | ex c S1 => rw [q] at h; exact fun C ι' F' H' g st m => h C σ ι' F' H' g (r.slots g st) m
  | ok ds S1 =>
    rw [q] at h
    intro ι' F' H' g st p vs hp hH hF hι w
    exact h (.ref p) (ι' ++ [p]) F' H' (znh g hp) (st.add hH hF hι w) ⟨p, by rw [← st.len]; simp, rfl⟩
/-! ## a, b = e1, e2 -/
def sPar (i j : Nat) (f g : XFn) : SFn := fun ρ S => (f ρ S).bindS ρ fun x S1 => (g ρ S1).bindS ρ fun y S2 => .nx ((ρ.set i (some x)).set j (some y)) S2
theorem ds_par {i j : Nat} {x y : Str} {px py pt pt2 : Pos} {kt k2 : Nat} {f g : XFn} (hc : X.calm = true) (ha : DE X W a f) (hb : DE X W b g) (hN : X.N.Nodup) (hi : X.N[i]? = some x := by rfl) (hj : X.N[j]? = some y := by rfl) (hij : i ≠ j := by decide)
    (hx : X.env.scope.names.lookup x = some .local := by rfl) (hy : X.env.scope.names.lookup y = some .local := by rfl)
    (hw : swappedStores [.Tuple [.Name x px, .Name y py] kt pt] (.Tuple [a, b] k2 pt2) X.env = pure (some [x, y]) := by rfl)
    (hs : swapsWithSole [.Tuple [.Name x px, .Name y py] kt pt] (.Tuple [a, b] k2 pt2) pos.line X.env = pure false := by rfl)
    (he : starEach (a :: [b]) X.env = (false, eval a X.env) :: starEach [b] X.env := by rfl) (he2 : starEach (b :: []) X.env = (false, eval b X.env) :: starEach [] X.env := by rfl)
    (hq : starEach [a, b] X.env = [(false, eval a X.env), (false, eval b X.env)] := by rfl) :
    DS X W (.Assign [.Tuple [.Name x px, .Name y py] kt pt] (.Tuple [a, b] k2 pt2) pos) (sPar i j f g) := by
  refine ⟨_, ps_par hc hN hi hj hij hx hy (pa_cons ha.pe (pa_cons hb.pe pa_nil he2) he) hw hs, fun D σ H ⟨ι, F, ρ, S, r, h⟩ => ?_⟩
  refine tD.bindS (g := fun ρ x S1 => (g ρ S1).bindS ρ fun y S2 => .nx ((ρ.set i (some x)).set j (some y)) S2) r h fun v dv ι1 F1 S1 H1 r1 w1 g1 h1 => ?_
  refine tD.bindS (g := fun ρ y S2 => .nx ((ρ.set i (some dv)).set j (some y)) S2) r1 h1 fun u du ι2 F2 S2 H2 r2 w2 g2 h2 => ?_
  exact ⟨v, u, rfl, h2 _ ι2 F2 H2 .refl ((r2.set (w1.grow g2) i).set w2 j)⟩
/-! ## how many arguments; a def bound -/
def AL (f : AFn) (n : Nat) : Prop := ∀ ρ S ds S', f ρ S = .ok ds S' → ds.length = n
theorem zak : AL aNil 0 := fun ρ S ds S' e => by cases e; rfl
theorem zab {f : XFn} {g : AFn} {n : Nat} (h : AL g n) : AL (zac f g) (n + 1) := fun ρ S ds S' e => by
  unfold zac at e
  cases q : f ρ S with
  | ok d S1 =>
    rw [q] at e
    simp only [Res.bind_ok] at e
    cases q2 : g ρ S1 with
    | ok es S2 =>
      rw [q2] at e
      cases e
      simp [h _ _ _ _ q2]
    | ex c S2 => rw [q2] at e; cases e
    | bad => rw [q2] at e; cases e
  | ex c S1 => rw [q] at e; cases e
  | bad => rw [q] at e; cases e
theorem zb1 {q : Bool} {P : Program} {w : World} {base : Heap} {k n m : Nat} {x : Str} {params : Arguments} {body : List Stmt} {scope : Scope} {N ps : List Str} {g : SFn} (h : ∃ f fd, FunD K x x params body scope [] [] f fd ∧ mg x = some (.ref f)) (Sc : FnScope N ps scope)
    (hb : ∀ (kV doc pm : Value) (an : Option Addr) (cdv ct : Value) (us : List Value), us.length = ps.length → bindArgs (PySem.W.fnOf x x params body scope .none kV doc pm an cdv ct) ⟨us, []⟩ = pure (ps.zip us))
    (hbody : ∀ (f : Addr) (cdv : Value) (A : Around) (outer : List Env) (s : Shared) (H : Hp) (E : XK), RoomH k (A.deeper (envOfC x scope s.heap.objs.size f cdv)) → A.guards = some [] →
      DSs (cxQ q P w K mg base N x scope f cdv A outer s H E) (fun cls d _ H => E cls d H) body g) (hn : ps.length = n := by rfl) (hm : N.length = m := by rfl) : DefQ q P w K mg base (k + 1) x n (zav m g) := by
  obtain ⟨f, fd, Fd, hmg⟩ := h
  exact ⟨f, fd, ps, fn_D Fd Sc hn hm (hbody f), hmg, Fd.kp, Fd.bindsN hb⟩
end
end DL
set_option maxHeartbeats 4000000
namespace DL
open PySem PySem.Spec PyProof.Rows L2
section
variable {X : Cx} {W : WX} {e a b c : Expr} {es : List Expr} {pos p : Pos} {K : PySem.W.Frag} {ι : List Addr} {F H : Hp} {S : zaf} {mg : Str → Option Value}
/-! ## comparisons as tests -/
def bool1 (x : DV) (S : zaf) : Res Bool := match x with
  | .dat (.bl b) => .ok b S
  | _ => .bad
def tBl (f : XFn) : TFn := fun ρ S => (f ρ S).bind bool1
theorem tT_bl {f : XFn} {σ : L2.St} {H : Hp} {Q : Bool → Hp → Prop} (h : tT X W (tBl f) σ H Q) : tD X W f σ H fun x H' => ∃ k, x = .bl k ∧ Q k H' := by
  obtain ⟨ι, F, ρ, S, r, h⟩ := h
  refine tD.bind (g := fun _ => bool1) r h fun v dv ι1 F1 S1 H1 r1 w1 g1 h1 => ?_
  unfold bool1 at h1
  split at h1
  · rename_i k
    have w' : Wd X.K F1 v (.bl k) := w1
    cases w'
    exact ⟨k, rfl, h1 ι1 F1 H1 .refl r1.st⟩
  · exact h1.elim
theorem zaw {op : CmpOp} {r : R2} {o : Op2} {f g : XFn} (ho : OpR X (compareOp op) r) (k : OpOk X.K r o) (ha : DE X W a f) (hb : DE X W b g) (hm : behindInMarks op b = false := by rfl) : DT X W (.Compare a [op] [b] pos) (tBl (x2 o f g)) := by
  refine ⟨PT.weak (pt_cmpR ho ha.pe hb.pe hm) fun σ H Q h => ?_⟩
  obtain ⟨ι, F, ρ, S, r0, h⟩ := tT_bl h
  refine tD.bind (g := fun ρ x S1 => (g ρ S1).bind fun y S2 => o x y S2) r0 h fun v dv ι1 F1 S1 H1 r1 w1 g1 h1 => ?_
  refine tD.bind (g := fun ρ y S2 => o dv y S2) r1 h1 fun u du ι2 F2 S2 H2 r2 w2 g2 h2 => ?_
  exact k _ _ ι2 F2 H2 S2 v u dv du _ r2.st (w1.grow g2) w2 h2
theorem dt_chain {op op' : CmpOp} {r r' : R2} {o o' : Op2} {f g k : XFn} (ho : OpR X (compareOp op) r) (ho' : OpR X (compareOp op') r') (k1 : OpOk X.K r o) (k2 : OpOk X.K r' o') (ha : DE X W a f) (hb : DE X W b g) (hc : DE X W c k)
    (hm : lastMarks [op, op'] [b, c] = false := by rfl) : DT X W (.Compare a [op, op'] [b, c] pos) (tBl (zmi o o' f g k)) := by
  refine ⟨PT.weak (pt_chain ho ho' ha.pe hb.pe hc.pe hm) fun σ H Q h => ?_⟩
  obtain ⟨ι, F, ρ, S, r0, h⟩ := tT_bl h
  refine tD.bind (g := fun ρ x S1 => (g ρ S1).bind fun y S2 => (o x y S2).bind fun z S3 => match z with
    | .dat (.bl true) => (k ρ S3).bind fun w S4 => o' y w S4
    | .dat (.bl false) => .ok (.dat (.bl false)) S3
    | _ => .bad) r0 h fun v dv ι1 F1 S1 H1 r1 w1 g1 h1 => ?_
  refine tD.bind (g := fun ρ y S2 => (o dv y S2).bind fun z S3 => match z with
    | .dat (.bl true) => (k ρ S3).bind fun w S4 => o' y w S4
    | .dat (.bl false) => .ok (.dat (.bl false)) S3
    | _ => .bad) r1 h1 fun u du ι2 F2 S2 H2 r2 w2 g2 h2 => ?_
  refine k1 X.mg (fun c d H' => W c d σ H') ι2 F2 H2 S2 v u dv du _ r2.st (w1.grow g2) w2 ?_
  cases q : o dv du S2 with
  | ex c S3 => rw [q] at h2; exact h2
  | bad => rw [q] at h2; exact h2
  | ok z S3 =>
    rw [q] at h2
    intro ι3 F3 H3 g3 st3 zv wz
    have h3 := Post.grow (r := (match z with
      | .dat (.bl true) => (k ρ S3).bind fun w S4 => o' du w S4
      | .dat (.bl false) => .ok (.dat (.bl false)) S3
      | _ => .bad)) h2 g3
    have r3 := r2.slots g3 st3
    split at h3
    · have w' : Wd X.K F3 zv (.bl true) := wz
      cases w'
      refine ⟨true, rfl, ?_⟩
      rw [if_pos rfl]
      refine tD.bind (g := fun ρ w S4 => o' du w S4) r3 h3 fun t dt ι4 F4 S4 H4 r4 w4 g4 h4 => ?_
      exact k2 _ _ ι4 F4 H4 S4 u t du dt _ r4.st ((w2.grow g3).grow g4) w4 h4
    · have w' : Wd X.K F3 zv (.bl false) := wz
      cases w'
      exact ⟨false, rfl, by rw [if_neg (by simp)]; exact h3 ι3 F3 H3 .refl st3 _ (.bl _)⟩
    · exact h3.elim
theorem zm_ {h : Heap} {x : Str} (X : K.In h) (G : h.Ns mainGlobals mg) (c1 : (He.Fa.glo x).ok K = true) (c2 : (He.Fa.exc x).ok K = true) : ExcD K mg x := ⟨_, He.glo_ok X G c1, (He.exc_ok c2).1, (He.exc_ok c2).2.1, (He.exc_ok c2).2.2.1, (He.exc_ok c2).2.2.2⟩
/-! ## == of two texts, of any signs -/
theorem ru64 {k : Nat} {A : Around} (r : RoomH k A) : A.units + 64 < cLine := by have := r.un; omega
theorem ru65 {k : Nat} {A : Around} (r : RoomH k A) : A.units + 65 < cLine := by have := r.un; omega
end
end DL
set_option maxHeartbeats 4000000
namespace DL
open PySem PySem.Spec PyProof.Rows L2
section
variable {X : Cx} {W : WX} {pos : Pos}
theorem DSs.canon {st : List Stmt} {f : SFn} (h : DSs X W st f) : PSs X st (tS X W f) := by
  obtain ⟨t, p, k⟩ := h.ps
  exact ⟨fun pins s σ H D I q => p.run pins s σ H D I (k D σ H q)⟩
/-! ## try .. except X: .., several clauses without names -/
abbrev Hds := List ((Str → Option Bool) × SFn)
structure CatD (K : PySem.W.Frag) (mg : Str → Option Value) (x : Str) (m : Str → Option Bool) : Prop where
  ex : ∃ D, mg x = some (.ref D) ∧ ∀ c b C, m c = some b → mg c = some (.ref C) → PySem.W.exmOne K (.ref C) (.ref D) = some b
inductive HdsD (X : Cx) : List ExceptHandler → Hds → Prop
  | nil : HdsD X [] []
  | cons {x : Str} {m : Str → Option Bool} {f : SFn} {b0 : Stmt} {suite : List Stmt} {np hp : Pos} {hds : List ExceptHandler} {l : Hds} (hm : CatD X.K X.mg x m) (hg : Gl X x) (hdb : (x == ("__debug__" : Str)) = false)
      (hsu : ∀ (a : Addr) (pn : List (Addr × Obj)), DSs (X.suite a pn) W0 (b0 :: suite) f) (r : HdsD X hds l) : HdsD X (.ExceptHandler (some (.Name x np)) none (b0 :: suite) hp :: hds) ((m, f) :: l)
end
end DL
namespace DL
open PySem PySem.Spec PyProof.Rows L2
/-! ## which classes a clause catches, by a table -/
inductive CatF (K : PySem.W.Frag) (y : Str) : List (Str × Bool) → Prop
  | nil : CatF K y []
  | cons {x : Str} {b : Bool} {l : List (Str × Bool)} (h1 : (He.Fa.glo x).ok K = true) (h2 : (He.Fa.exm x y b).ok K = true) (r : CatF K y l) : CatF K y ((x, b) :: l)
end DL
set_option maxHeartbeats 4000000
namespace DL
open PySem PySem.Spec PyProof.Rows L2
section
variable {X : Cx} {W : WX} {e a b c : Expr} {es : List Expr} {pos p : Pos} {K : PySem.W.Frag} {ι : List Addr} {F H : Hp} {S : zaf} {mg : Str → Option Value}
/-! ## comprehensions with two sources -/
def lc2Go (g : GFn) (t : TFn) (l1 : LFn) (v1 : List Nat) (g1 : GFn) (t1 : TFn) (f : XFn) (ρ : zat) : List D → zaf → Res (List D)
  | [], S => .ok [] S
  | d :: ds, S => match g d ρ with
    | none => .bad
    | some ρ1 => (t ρ1 S).bindN fun b S1 => if b then (l1 ρ1 S1).bindN fun es S2 => (lcGo g1 t1 f (zis ρ1 v1) es S2).bindN fun zs S3 => (lc2Go g t l1 v1 g1 t1 f ρ ds S3).bindN fun ws S4 => .ok (zs ++ ws) S4
        else lc2Go g t l1 v1 g1 t1 f ρ ds S1
def lLc2 (l : LFn) (own : List Nat) (g : GFn) (t : TFn) (l1 : LFn) (v1 : List Nat) (g1 : GFn) (t1 : TFn) (f : XFn) : LFn := fun ρ S => (l ρ S).bind fun ds S1 => (lc2Go g t l1 v1 g1 t1 f (zis ρ own) ds S1).bindN fun zs S2 => if zs.length ≤ sizeLine then .ok zs S2 else .bad
theorem wipe_idem (vs : List Nat) (σ : L2.St) : L2.wipe (L2.wipe σ vs) vs = L2.wipe σ vs := by
  have idem : ∀ us : List Nat, ∀ τ : L2.St, (∀ i ∈ us, τ[i]? = none ∨ τ[i]? = some none) → L2.wipe τ us = τ := by
    intro us
    induction us with
    | nil => intro τ _; rfl
    | cons v us ih =>
      intro τ hv
      show (L2.wipe τ us).set v none = τ
      rw [ih τ fun i m => hv i (List.mem_cons_of_mem _ m)]
      apply List.ext_getElem?
      intro j
      rw [List.getElem?_set]
      split
      · rename_i e; subst e
        rcases hv v List.mem_cons_self with z | z
        · rw [z]; split
          · rename_i hlt; rw [List.getElem?_eq_none_iff] at z; omega
          · rfl
        · rw [z]; split
          · rfl
          · rename_i hlt; have := (List.getElem?_eq_some_iff.mp z).1; omega
      · rfl
  refine idem vs _ fun i m => ?_
  cases q : (L2.wipe σ vs)[i]? with
  | none => exact .inl rfl
  | some o =>
    cases o with
    | none => exact .inr rfl
    | some x => exact absurd m (wipe_some q).2
theorem acc_put {ι5 : List Addr} {F5 H5 : Hp} {S4 : zaf} (st5 : StR K ι5 F5 S4 H5) {D : Addr} {u u0 : List V} (k1 : H5 D = some (.lst u0)) (k2 : F5 D = none) (k3 : D ∉ ι5) : StR K ι5 F5 S4 (upd H5 D (.lst u)) :=
  ⟨fun b u e => by rw [upd_ne (fun z => by rw [z, k2] at e; cases e)]; exact st5.sub b u e, st5.len, st5.nd, fun b hb => zly (st5.full b hb), fun k es e =>
    let ⟨a', vs', h1, h2, h3, h4⟩ := st5.cell k es e
    ⟨a', vs', h1, by rw [upd_ne (fun z => k3 (by rw [← z]; exact List.mem_of_getElem? h1))]; exact h2, h3, h4⟩, st5.tb.lst k1 _, st5.tf⟩
theorem lc2_ent {own : List (Str × Nat)} {l l1 : LFn} {g g1 : GFn} {t t1 : TFn} {f : XFn} {sl sl1 v1 : List Nat} (hsl : ∀ i ∈ sl, i ∈ own.map (·.2)) (hsl1 : ∀ i ∈ sl1, i ∈ v1) {σ : L2.St} {H : Hp} {Q : VK}
    (h : tN X W (lLc2 l (own.map (·.2)) g t l1 v1 g1 t1 f) σ H Q) :
    tLc2 (tI X W l) (tG X.K sl g) (tT X W0 t) (tI X W0 l1) (tG X.K sl1 g1) (tT X W0 t1) (tD X W0 f) (own.map (·.2)) v1 σ H Q := by
  obtain ⟨ι, F, ρ, S, r, h⟩ := h
  refine ⟨ι, F, ρ, S, r, ?_⟩
  unfold lLc2 at h
  cases q : l ρ S with
  | bad => rw [q] at h; exact h
  | ex c S1 => rw [q] at h; exact h
  | ok ds S1 =>
    rw [q] at h
    simp only [Res.bind_ok] at h
    obtain ⟨zs0, S0, e0, h⟩ := bindN_ok h
    by_cases hl : zs0.length ≤ sizeLine
    · simp only [hl, if_true] at h
      intro ι1 F1 H1 g1' st1 J ⟨G, Y, w, hG, hY⟩ D hD
      have r1 := r.slots g1' st1
      have hF1 : F1 D = none := by
        cases q : F1 D with
        | none => rfl
        | some o => rw [st1.sub D o q] at hD; cases hD
      have hι1 : D ∉ ι1 := fun m => st1.full D m hD
      let Pv : Nat → Hp → Prop := fun i H2 => ∃ ι2 F2 S2 acc avs zs, StR X.K ι2 F2 S2 H2 ∧ Grow ι1 F1 H1 ι2 F2 H2 ∧ H2 D = some (.lst avs) ∧ F2 D = none ∧ D ∉ ι2 ∧ WdA X.K F2 avs acc ∧
          lc2Go g t l1 v1 g1 t1 f (zis ρ (own.map (·.2))) (ds.drop i) S2 = .ok zs S0 ∧ acc ++ zs = zs0
      refine ⟨fun i m H => m = ds.length - i ∧ i ≤ ds.length ∧ Pv i H, ⟨ds.length, by simp, Nat.zero_le _, ι1, F1, S1, [], [], zs0, st1.alone hD _, zf_ hD _, upd_same, hF1, hι1, .nil, e0, rfl⟩, ?_⟩
      rintro i m H2 ⟨rfl, hi, ι2, F2, S2, acc, avs, zs, st2, g2, hd, hf, hn, wa, el, ea⟩
      have qG := hG ι2 F2 S2 H2 st2 g2.sf
      by_cases hlt : i < ds.length
      · refine .inr ⟨w.goes i H2 hlt qG, Pv (i + 1), fun H' p' => ⟨ds.length - (i + 1), by omega, rfl, hlt, p'⟩, fun x H3 y => ?_⟩
        obtain ⟨F3, d, g3, st3, hdi, wd⟩ := hY ι2 F2 S2 H2 i x H3 st2 g2.sf hlt (w.yields i H2 x H3 hlt qG y)
        have ed : ds.drop i = d :: ds.drop (i + 1) := by
          rw [List.drop_eq_getElem_cons hlt]
          obtain ⟨_, h⟩ := List.getElem?_eq_some_iff.mp hdi
          rw [h]
        have keepD : ∀ {ι' F' H'} , Grow ι2 F2 H2 ι' F' H' → H' D = some (.lst avs) ∧ F' D = none ∧ D ∉ ι' := fun gg => ⟨gg.keep D _ hd (fun _ z => nomatch z) hn, gg.new D _ hd (fun _ z => nomatch z) (fun _ z => nomatch z) hf hn, fun m => by
          rcases gg.nio D m with z | z
          · exact hn z
          · rw [hd] at z; cases z⟩
        rw [ed] at el
        simp only [lc2Go] at el
        have r0 : RR X.K ι1 F1 (zis ρ (own.map (·.2))) S1 (L2.wipe σ (own.map (·.2))) H1 := r1.wipe _
        have r3 := r0.slots (g2.trans g3) st3
        cases e1 : g d (zis ρ (own.map (·.2))) with
        | none => simp only [e1] at el; cases el
        | some ρ3 =>
          simp only [e1] at el
          refine ⟨ι2, F3, _, S2, d, ρ3, r3, wd, e1, fun σ3 r3' o3 => ⟨?_, ?_⟩⟩
          · rw [o3 (own.map (·.2)) hsl]
            exact wipe_idem _ _
          · obtain ⟨b, S3, e2, el⟩ := zg6 el
            refine ⟨ι2, F3, ρ3, S2, r3', ?_⟩
            show Post X.K X.mg _ ι2 F3 H3 (t ρ3 S2) _
            rw [e2]
            intro ι4 F4 H4 g4 st4
            have g24 := g3.trans g4
            cases b with
            | false =>
              dsimp only
              rw [if_neg (by simp)]
              simp only [Bool.false_eq_true, if_false] at el
              obtain ⟨k1, k2, k3⟩ := keepD g24
              exact ⟨ι4, F4, S3, acc, avs, zs, st4, g2.trans g24, k1, k2, k3, wa.mono g24.sf, el, ea⟩
            | true =>
              dsimp only
              rw [if_pos rfl]
              simp only [if_true] at el
              obtain ⟨es, S5, e3, el⟩ := zg6 el
              obtain ⟨ys, S6, e4, el⟩ := zg6 el
              obtain ⟨ws, S7, e5, el⟩ := zg6 el
              cases el
              have r4 := r3'.slots g4 st4
              refine ⟨ι4, F4, ρ3, S3, r4, ?_⟩
              show Post X.K X.mg _ ι4 F4 H4 (l1 ρ3 S3) _
              rw [e3]
              intro ι5 F5 H5 g5 st5 J1 ⟨G1, Y1, w1, hG1, hY1⟩
              have g25 := g24.trans g5
              obtain ⟨d1, d2, d3⟩ := keepD g25
              have r5 := (r4.slots g5 st5).wipe v1
              let Pw : Nat → Hp → Prop := fun j H => ∃ ι F S acc avs zs, RR X.K ι F (zis ρ3 v1) S (L2.wipe σ3 v1) H ∧ Same F5 F ∧ Grow ι1 F1 H1 ι F H ∧ H D = some (.lst avs) ∧ F D = none ∧ D ∉ ι ∧ WdA X.K F avs acc ∧
                lcGo g1 t1 f (zis ρ3 v1) (es.drop j) S = .ok zs S6 ∧ acc ++ zs ++ ws = zs0
              have growD : ∀ {ι F H} {u : List V}, Grow ι1 F1 H1 ι F H → Grow ι1 F1 H1 ι F (upd H D (.lst u)) := fun g => ⟨g.pre, g.sf, fun b o e t2 n => by
                    rw [upd_ne (fun z => by rw [z, hD] at e; cases e)]; exact g.keep b o e t2 n, g.new, g.nio, fun b e => g.dom b (zc9 e)⟩
              refine ⟨fun j m H => m = es.length - j ∧ j ≤ es.length ∧ Pw j H, ⟨es.length, by simp, Nat.zero_le _, ι5, F5, S5, acc, avs, ys, r5, Same.refl _, g2.trans g25, d1, d2, d3, wa.mono g25.sf, e4, by rw [← ea]; simp⟩, ?_⟩
              rintro j m H6 ⟨rfl, hj, ι6, F6, S8, acc6, avs6, zs6, r6, sf6, G6, hd6, hf6, hn6, wa6, el6, ea6⟩
              have qG1 := hG1 ι6 F6 S8 H6 r6.st sf6
              by_cases hlt1 : j < es.length
              · refine .inr ⟨w1.goes j H6 hlt1 qG1, Pw (j + 1), fun H' p' => ⟨es.length - (j + 1), by omega, rfl, hlt1, p'⟩, fun x1 H7 y1 => ?_⟩
                obtain ⟨F7, dd, g7, st7, hdd, wdd⟩ := hY1 ι6 F6 S8 H6 j x1 H7 r6.st sf6 hlt1 (w1.yields j H6 x1 H7 hlt1 qG1 y1)
                have ed1 : es.drop j = dd :: es.drop (j + 1) := by
                  rw [List.drop_eq_getElem_cons hlt1]
                  obtain ⟨_, h⟩ := List.getElem?_eq_some_iff.mp hdd
                  rw [h]
                have keepD6 : ∀ {ι' F' H'} , Grow ι6 F6 H6 ι' F' H' → H' D = some (.lst avs6) ∧ F' D = none ∧ D ∉ ι' := fun gg => ⟨gg.keep D _ hd6 (fun _ z => nomatch z) hn6, gg.new D _ hd6 (fun _ z => nomatch z) (fun _ z => nomatch z) hf6 hn6, fun m => by
                  rcases gg.nio D m with z | z
                  · exact hn6 z
                  · rw [hd6] at z; cases z⟩
                rw [ed1] at el6
                simp only [lcGo] at el6
                have r7 := r6.slots g7 st7
                cases e6 : g1 dd (zis ρ3 v1) with
                | none => simp only [e6] at el6; cases el6
                | some ρ7 =>
                  simp only [e6] at el6
                  refine ⟨ι6, F7, _, S8, dd, ρ7, r7, wdd, e6, fun σ7 r7' o7 => ⟨?_, ?_⟩⟩
                  · rw [o7 v1 hsl1]
                    exact wipe_idem _ _
                  · obtain ⟨b, S9, e7, el6⟩ := zg6 el6
                    refine ⟨ι6, F7, ρ7, S8, r7', ?_⟩
                    show Post X.K X.mg _ ι6 F7 H7 (t1 ρ7 S8) _
                    rw [e7]
                    intro ι8 F8 H8 g8 st8
                    have g68 := g7.trans g8
                    cases b with
                    | false =>
                      dsimp only
                      rw [if_neg (by simp)]
                      simp only [Bool.false_eq_true, if_false] at el6
                      obtain ⟨k1, k2, k3⟩ := keepD6 g68
                      exact ⟨ι8, F8, S9, acc6, avs6, zs6, r6.slots g68 st8, sf6.trans g68.sf, G6.trans g68, k1, k2, k3, wa6.mono g68.sf, el6, ea6⟩
                    | true =>
                      dsimp only
                      rw [if_pos rfl]
                      simp only [if_true] at el6
                      obtain ⟨yv, S10, e8, el6⟩ := zg6 el6
                      refine ⟨ι8, F8, ρ7, S9, r7'.slots g8 st8, ?_⟩
                      show Post X.K X.mg _ ι8 F8 H8 (f ρ7 S9) _
                      rw [e8]
                      intro ι9 F9 H9 g9 st9 v wv
                      cases yv with
                      | dat z =>
                        simp only at el6
                        obtain ⟨zs', S11, e9, el6⟩ := zg6 el6
                        cases el6
                        have g69 := g68.trans g9
                        obtain ⟨k1, k2, k3⟩ := keepD6 g69
                        have r9 := r6.slots g69 st9
                        refine ⟨avs6, k1, ?_, ι9, F9, S10, acc6 ++ [z], avs6 ++ [v], zs', ⟨acc_put st9 k1 k2 k3, r9.len, r9.slot⟩, sf6.trans g69.sf, growD (G6.trans g69), upd_same, k2, k3, (wa6.mono g69.sf).append (.cons wv .nil), e9, by rw [← ea6]; simp⟩
                        have := congrArg List.length ea6
                        simp at this
                        rw [wa6.length]; omega
                      | _ => cases el6
              · have hje : j = es.length := by omega
                subst hje
                rw [List.drop_length] at el6
                cases el6
                rw [List.append_nil] at ea6
                exact .inl ⟨w1.stops H6 qG1, ι6, F6, _, acc6, avs6, ws, r6.st, G6, hd6, hf6, hn6, wa6, e5, ea6⟩
      · have hie : i = ds.length := by omega
        subst hie
        rw [List.drop_length] at el
        cases el
        rw [List.append_nil] at ea
        subst ea
        exact .inl ⟨w.stops H2 qG, h ι2 F2 H2 (g1'.trans g2) st2 D avs (g1'.dom D hD) hd hf hn wa⟩
    · simp only [hl, if_false] at h; exact h.elim
theorem ne_lc2 {elt tg iter tg1 iter1 : Expr} {ifs ifs1 : List Expr} {scope : Scope} {own : List (Str × Nat)} {l l1 : LFn} {g g1 : GFn} {t t1 : TFn} {f : XFn} {sl sl1 v1 : List Nat} (hc : X.calm = true) (hN : X.N.Nodup) (hi : DI X W tg iter l) (ok : BlkOk X.N X.env.scope scope own)
    (hg : ∀ (s : Shared) (H : Hp) (C : Addr) (cl : List (Str × Addr)) (fp : List Addr), DG (X.blk s H scope (compEnvC scope cl C X.env) fp) tg sl g)
    (ht : ∀ (s : Shared) (H : Hp) (C : Addr) (cl : List (Str × Addr)) (fp : List Addr), DTs (X.blk s H scope (compEnvC scope cl C X.env) fp) W0 ifs t)
    (hi1 : ∀ (s : Shared) (H : Hp) (C : Addr) (cl : List (Str × Addr)) (fp : List Addr), DI (X.blk s H scope (compEnvC scope cl C X.env) fp) W0 tg1 iter1 l1)
    (hg1 : ∀ (s : Shared) (H : Hp) (C : Addr) (cl : List (Str × Addr)) (fp : List Addr), DG (X.blk s H scope (compEnvC scope cl C X.env) fp) tg1 sl1 g1)
    (ht1 : ∀ (s : Shared) (H : Hp) (C : Addr) (cl : List (Str × Addr)) (fp : List Addr), DTs (X.blk s H scope (compEnvC scope cl C X.env) fp) W0 ifs1 t1)
    (he : ∀ (s : Shared) (H : Hp) (C : Addr) (cl : List (Str × Addr)) (fp : List Addr), DE (X.blk s H scope (compEnvC scope cl C X.env) fp) W0 elt f)
    (hsl : ∀ i ∈ sl, i ∈ own.map (·.2) := by decide) (hsl1 : ∀ i ∈ sl1, i ∈ v1 := by decide) (hv : ∀ i ∈ v1, i ∈ own.map (·.2) := by decide)
    (hs : ∀ x, foldedSetIterable iter X.env x = pure x := by intro _; rfl) (hs1 : ∀ env x, foldedSetIterable iter1 env x = pure x := by intro _ _; rfl) :
    NE X W (.ListComp elt [⟨tg, iter, ifs, 0⟩, ⟨tg1, iter1, ifs1, 0⟩] scope pos) (lLc2 l (own.map (·.2)) g t l1 v1 g1 t1 f) :=
  ⟨PE.weak (pe_lc2 (vs1 := v1) (g := tG X.K sl g) (tt := tT X W0 t) (te := tD X W0 f) (wi1 := tI X W0 l1) (g1 := tG X.K sl1 g1) (tt1 := tT X W0 t1) hc hN hi.canon ok hv (fun s H C cl fp => (hg s H C cl fp).canon) (fun s H C cl fp => (ht s H C cl fp).pt)
    (fun s H C cl fp => (hi1 s H C cl fp).canon) (fun s H C cl fp => (hg1 s H C cl fp).canon) (fun s H C cl fp => (ht1 s H C cl fp).pt) (fun s H C cl fp => (he s H C cl fp).pe) hs hs1) fun σ H Q h => lc2_ent hsl hsl1 h⟩
end
end DL
set_option maxHeartbeats 8000000
namespace PySem
namespace DLSort
open L2 PyProof.Rows
section
variable {prog : Program} {w : World} {A : Around} {E : Value → Shared → Prop} {s : Shared}
theorem gather {t : Addr} {us : List Value} {R : List Value → Shared → Prop} (ht : s.heap.IsTuple t us.toArray) (fits : us.length ≤ sizeLine)
    (h : R us { s with heap := (s.heap.push (seqObj "list" #[] 0)).update s.heap.objs.size (Obj.mapSeq (· ++ us.toArray)) }) : wpAny (model prog w) A (collect (.ref t)) R E s := by
  obtain ⟨ob, gt, cl, m, dt⟩ := id ht
  unfold collect
  apply wpAny_bind
  apply wpAny_runValue
  apply codeAny_builtin entry_proto_collect'
  show wpAny _ _ (do again (.builtin "list.__iadd__" ⟨[← newList [], .ref t], []⟩)) _ _ s
  apply wpAny_bind
  refine wpAny_newList ?_
  refine wpAny_pure ⟨Code.quiet_builtin _ (by decide +kernel), ?_⟩
  apply codeAny_builtin entry_list_iadd'
  have gt2 : (s.heap.push (seqObj "list" #[] 0)).get? t = some ob := Heap.get?_push_of_some _ gt
  show wpAny _ _ (Builtin.List.listExtendWith (.ref s.heap.objs.size) (.ref t) (.ref s.heap.objs.size)) _ _ { s with heap := s.heap.push (seqObj "list" #[] 0) }
  unfold Builtin.List.listExtendWith
  apply wpAny_bind
  refine wpAny_typeOf (s := { s with heap := s.heap.push (seqObj "list" #[] 0) }) (T := "tuple") (show Shared.TypeIs _ (.ref t) "tuple" from ⟨ob, gt2, cl⟩) ?_
  have tt : (Value.type "tuple" == Value.type "tuple") = true := by rfl
  rw [if_pos (by rw [tt]; simp)]
  apply wpAny_bind
  apply listItems_at gt2 dt
  apply wpAny_bind
  apply listItems_at (xs := #[]) (n := 0) (Heap.get?_push_size _ rfl) rfl
  rw [if_neg (by simp)]
  apply wpAny_bind
  refine listUpdate_at (xs := #[]) (n := 0) (Heap.get?_push_size _ rfl) rfl ?_ (Nat.zero_le _) (by
    show (#[] ++ us.toArray).size ≤ sizeLine + 1
    simp only [Array.size_append, List.size_toArray, List.length_nil]
    omega)
  apply wpAny_pure
  show wpAny (model prog w) A (do
      let o ← load s.heap.objs.size
      match o.data with
      | .seq ys _ => pure ys.toList
      | _ => unsupported "internal:collect") R E { s with heap := (s.heap.push (seqObj "list" #[] 0)).update s.heap.objs.size (Obj.mapSeq (· ++ us.toArray)) }
  apply wpAny_bind
  refine wpAny_load (get?_update_seq (Heap.get?_push_size _ rfl) _) ?_
  show wpAny _ _ (pure ((#[] : Array Value) ++ us.toArray).toList) R E _
  have e : ((#[] : Array Value) ++ us.toArray).toList = us := by simp
  rw [e]
  exact wpAny_pure h
theorem sorted_tuple {t : Addr} {us : List Value} {ns : List Int} {R : Value → Shared → Prop} (hI : IntsAre us ns) (ht : s.heap.IsTuple t us.toArray) (fits : us.length ≤ sizeLine)
    (h : ∀ out : List Value, SrtO.Srtd SrtO.ltIv out → SrtO.Stb SrtO.ltIv out us → R (.ref (s.heap.objs.size + 1)) { s with heap := sortedAll s.heap us out.toArray }) :
    wpAny (model prog w) A (call (.builtin "sorted") [.ref t]) R E s := by
  apply Calls.call_function_entry kind_sorted plain_sorted entry_sorted (args_sorted1 _)
  unfold Builtin.«sorted»
  refine wpAny_bind (m := checkCount "sorted" 1 1 _) (wpAny_pure ?_)
  apply wpAny_bind
  refine gather ht fits ?_
  apply wpAny_bind
  refine wpAny_newList ?_ fits
  have sz : ((s.heap.push (seqObj "list" #[] 0)).update s.heap.objs.size (Obj.mapSeq (· ++ us.toArray))).objs.size = s.heap.objs.size + 1 := by rw [Heap.size_update, size_push']
  have here : (((s.heap.push (seqObj "list" #[] 0)).update s.heap.objs.size (Obj.mapSeq (· ++ us.toArray))).push (seqObj "list" us.toArray 0)).get? (s.heap.objs.size + 1) = some (seqObj "list" us.toArray 0) := by
    rw [← sz]; exact Heap.get?_push_size _ rfl
  show wpAny _ _ _ _ _ { s with heap := ((s.heap.push (seqObj "list" #[] 0)).update s.heap.objs.size (Obj.mapSeq (· ++ us.toArray))).push (seqObj "list" us.toArray 0) }
  rw [sz]
  apply wpAny_bind
  apply wpAny_holding
  refine wpAny_call_entry slot_list_sort ⟨_, here, rfl⟩ entry_list_sort (SrtO.list_sort_ord SrtO.swo_int here fits (fun two => SrtO.ints_sortable hI two) fun out a b => ⟨_, rfl, ?_⟩) (args_list_sort _)
  exact wpAny_pure ⟨_, rfl, h out a b⟩
end
end DLSort
end PySem
namespace DL
open PySem PySem.Spec PyProof.Rows L2
section
variable {X : Cx} {W : WX} {e a b c : Expr} {es : List Expr} {pos p : Pos} {K : PySem.W.Frag} {ι : List Addr} {F H : Hp} {S : zaf} {mg : Str → Option Value}
/-! ## sorted(x), any data that can be compared -/
def dOrd (x y : D) : Bool := PySem.W.dataLe false D.py x y
def canSort (xs : List D) : Bool := (xs.all fun x => xs.all fun y => PySem.W.alike x.py y.py) &&
  ((xs.all fun x => match x.py with | .tuple (_ :: _) => true | _ => false) || (xs.all fun x => match x.py with | .none => false | .tuple _ => false | _ => true)) && (xs.all fun x => decide (x.py.depth ≤ 40))
def EachD (K : PySem.W.Frag) (G : Hp) (s : Shared) (v : Value) (d : D) : Prop := ∃ u : V, RelV u v ∧ Wd K G u d
theorem eachD_of {G : Hp} {s : Shared} : ∀ {vs : List V} {us : List Value} {ds : List D}, WdA K G vs ds → Vals vs us → PySem.W.EachIs (EachD K G s) us ds
  | _, _, _, .nil, .nil => .nil
  | _, _, _, .cons w ws, .cons r rs => .cons ⟨_, r, w⟩ (eachD_of ws rs)
theorem ofEachD {G : Hp} {s : Shared} {us : List Value} {ds : List D} (h : PySem.W.EachIs (EachD K G s) us ds) : ∃ vs : List V, Vals vs us ∧ WdA K G vs ds := by
  induction h with
  | nil => exact ⟨[], .nil, .nil⟩
  | cons h _ ih =>
    obtain ⟨u, r, w⟩ := h
    obtain ⟨vs, a, b⟩ := ih
    exact ⟨u :: vs, .cons r a, .cons w b⟩
mutual
theorem Wd.dpA {K : PySem.W.Frag} {F : Hp} : ∀ {d : D} {v : V}, Wd K F v d → PySem.W.alike d.py d.py = true → Dp K F v d.py
  | .non, _, h, _ => by cases h; exact .non
  | .bl _, _, h, _ => by cases h; exact .bl _
  | .int _, _, h, _ => by cases h; exact .int _
  | .str _, _, h, _ => by cases h; exact .str _
  | .lst ds, _, h, c => by
    cases h with
    | lst s a => exact .lst (.of s) (WdA.dpA a (by simpa [D.py, PySem.W.alike] using c))
  | .tup ds, _, h, c => by
    cases h with
    | tup s a => exact .tup s (WdA.dpA a (by simpa [D.py, PySem.W.alike] using c))
  | .cas _, _, _, c => by simp [D.py, PySem.W.alike] at c
  | .dct _, _, _, c => by simp [D.py, PySem.W.alike] at c
theorem WdA.dpA {K : PySem.W.Frag} {F : Hp} : ∀ {ds : List D} {vs : List V}, WdA K F vs ds → PySem.W.alikeAll (D.pys ds) (D.pys ds) = true → DpAll K F vs (D.pys ds)
  | [], _, h, _ => by cases h; exact .nil
  | d :: ds, _, h, c => by
    simp only [D.pys, PySem.W.alikeAll, Bool.and_eq_true] at c
    cases h with
    | cons a b => exact .cons (Wd.dpA a c.1) (WdA.dpA b c.2)
end
theorem readsD_of {pins : List (Addr × Obj)} {σ : L2.St} {G H : Hp} {s : Shared} (I : Inv X pins σ H s) (sm : Same G H) : ∀ {vs : List V} {us : List Value} {ds : List D}, WdA X.K G vs ds → Vals vs us → (∀ d ∈ ds, PySem.W.alike d.py d.py = true) → PySem.W.EachIs (fun v b => ∃ as, Reads s.heap v (D.py b) as) us ds
  | _, _, _, .nil, .nil, _ => .nil
  | _, _, _, .cons w ws, .cons r rs, h => .cons (Dp.reads I _ _ _ (Wd.dpA (w.mono sm) (h _ (List.mem_cons_self ..))) r) (readsD_of I sm ws rs fun d hd => h d (List.mem_cons_of_mem _ hd))
def rSortD (K : PySem.W.Frag) : List V → Hp → VK → Prop := fun xs H Q => ∃ (a : Addr) (vs : List V) (ds : List D) (G : Hp), xs = [V.ref a] ∧ SqL K H a vs ∧ Same G H ∧ WdA K G vs ds ∧ canSort ds = true ∧
  ∀ p ws, H p = none → WdA K G ws (ds.mergeSort dOrd) → Q (.ref p) (upd H p (.lst ws))
theorem cr_sortD (hu : X.A.units + 64 < cLine) : CallR X (.builtin "sorted") (rSortD X.K) := by
  intro pins s σ H xs us Q I r h
  obtain ⟨a, vs, ds, G, rfl, hq, sm, wd, can, q⟩ := h
  rw [Vals.ref1 r]
  obtain ⟨its, rv, pl, hz⟩ := I.list hq
  unfold canSort at can
  simp only [Bool.and_eq_true, Bool.or_eq_true, List.all_eq_true, decide_eq_true_eq] at can
  obtain ⟨⟨c1, c2⟩, c3⟩ := can
  have e0 : PySem.W.EachIs (EachD X.K G s) its ds := eachD_of wd rv
  have er : PySem.W.EachIs (fun v b => ∃ as, Reads s.heap v (D.py b) as) its ds := readsD_of I sm wd rv fun d hd => c1 d hd d hd
  refine PySem.W.sorted_data (enc := D.py) (R := EachD X.K G s) pl.isList e0 er ?_ ?_ (by rw [← wd.length]; exact hz) (fun b hb => by have := c3 b hb; omega) fun out hl eo => ?_
  · intro d hd d' hd'
    obtain ⟨x, hx, rfl⟩ := List.mem_map.mp hd
    obtain ⟨y, hy, rfl⟩ := List.mem_map.mp hd'
    exact c1 x hx y hy
  · rcases c2 with c2 | c2
    · left
      intro d hd
      obtain ⟨x, hx, rfl⟩ := List.mem_map.mp hd
      have := c2 x hx
      split at this
      · rename_i y r e; exact ⟨y, r, e⟩
      · cases this
    · right
      intro d hd
      obtain ⟨x, hx, rfl⟩ := List.mem_map.mp hd
      have := c2 x hx
      refine ⟨fun z => ?_, fun xs z => ?_⟩
      · rw [z] at this; exact absurd this (by simp)
      · rw [z] at this; exact absurd this (by simp)
  · obtain ⟨ws, rw_, ww⟩ := ofEachD eo
    obtain ⟨ep, he⟩ := PyProof.Rows.sortedAll_at s.heap its out.toArray
    have hlen : ws.length ≤ sizeLine := by
      rw [ww.length, List.length_mergeSort, ← wd.length]; exact hz
    exact ⟨.ref _, upd H (s.heap.objs.size + 1) (.lst ws), I.laid (t' := s.toks) (fun _ _ => PyProof.Rows.sortedAll_old) (Nat.le_succ _) ⟨hlen, out, ep, rw_, he⟩, rfl, q _ ws (I.hok.fresh (Nat.le_succ _)) ww⟩
def isortI (ns : List Int) : List Int := ns.mergeSort fun a b => decide (a ≤ b)
def rSortTI (K : PySem.W.Frag) : List V → Hp → VK → Prop := fun vs H Q => ∃ (a : Addr) (ns : List Int), vs = [V.ref a] ∧ SqT K H a (ns.map V.int) ∧ ∀ (ns' : List Int) (p : Addr), ns'.Perm ns → ns'.Pairwise (· ≤ ·) → H p = none → Q (.ref p) (upd H p (.lst (ns'.map V.int)))
theorem cr_sortTI : CallR X (.builtin "sorted") (rSortTI X.K) := by
  intro pins s σ H vs us Q I r h
  obtain ⟨a, ns, rfl, hs, q⟩ := h
  obtain ⟨its, rv, hl, hz⟩ := I.tuple hs
  rw [Vals.ref1 r]
  have hi := rv.ints
  refine PySem.DLSort.sorted_tuple hi hl (by rw [← rv.length]; exact hz) fun out h1 h2 => ?_
  obtain ⟨k1, k2, k3⟩ := SrtO.ints_out hi h1 h2
  obtain ⟨ep, he⟩ := PyProof.Rows.sortedAll_at s.heap its out.toArray
  have hlen : ((out.map SrtO.iv).map V.int).length ≤ sizeLine := by rw [List.length_map, k2.length_eq]; simpa using hz
  refine ⟨.ref _, upd H (s.heap.objs.size + 1) (.lst ((out.map SrtO.iv).map V.int)), ?_, rfl, q _ _ k2 k3 (I.hok.fresh (Nat.le_succ _))⟩
  exact I.laid (t' := s.toks) (fun _ _ => PyProof.Rows.sortedAll_old) (Nat.le_succ _) ⟨hlen, out, ep, vals_of_ints k1, he⟩
theorem isortI_eq {a b : List Int} (hp : a.Perm b) (hs : a.Pairwise (· ≤ ·)) : a = isortI b := by
  have h1 : (isortI b).Pairwise (· ≤ ·) := by
    have := List.pairwise_mergeSort (le := fun a b : Int => decide (a ≤ b)) (by intro a b c h1 h2; simp at *; omega) (by intro a b; simp; omega) b
    exact this.imp fun h => by simpa using h
  exact List.Perm.eq_of_pairwise (le := (· ≤ ·)) (fun x y _ _ h1 h2 => by omega) hs h1 (hp.trans (List.mergeSort_perm b _).symm)
def zjf (x : DV) (S : zaf) : Res (List D) := match rd S x with
  | some (.lst xs) => if canSort xs = true then .ok (xs.mergeSort dOrd) S else .bad
  | some (.tup xs) => (match zhf xs with
    | some ns => .ok ((isortI ns).map .int) S
    | none => .bad)
  | _ => .bad
def zkk (f : XFn) : LFn := fun ρ S => (f ρ S).bind zjf
theorem zoj {f : XFn} (h : DE X W a f) (hu : X.A.units + 64 < cLine) (hm : X.mg "sorted" = none) (hg : Gl X "sorted" := by rfl) (he : starEach (a :: []) X.env = (false, eval a X.env) :: starEach [] X.env := by rfl) :
    NE X W (.Call (.Name "sorted" p) [a] [] pos) (zkk f) := by
  refine ⟨PE.weak (pe_callB (r := fun vs H Q => rSortD X.K vs H Q ∨ rSortTI X.K vs H Q) (fun pins s σ H xs us Q I r h => h.elim (cr_sortD hu pins s σ H xs us Q I r) (cr_sortTI pins s σ H xs us Q I r)) hg hm (by decide +kernel) (pa_cons h.pe pa_nil he) (by decide) (by decide) he rfl) fun σ H Q ⟨ι, F, ρ, S, r, h⟩ => ?_⟩
  refine tD.bind (g := fun _ => zjf) r h fun v dv ι1 F1 S1 H1 r1 w1 g1 h1 => ?_
  unfold zjf at h1
  cases ed : rd S1 dv with
  | none => simp only [ed] at h1; exact h1.elim
  | some d =>
    have vw := r1.st.vw w1 ed
    cases vw with
    | lst s w =>
      simp only [ed] at h1
      split at h1
      · rename_i hc
        exact .inl ⟨_, _, _, F1, rfl, .of s, r1.st.sub, w, hc, fun p ws hp ww => znm r1.st g1 h1 ww hp⟩
      · exact h1.elim
    | tup s w =>
      rename_i p0 vs xs
      simp only [ed] at h1
      cases ei : zhf xs with
      | none => simp only [ei] at h1; exact h1.elim
      | some ns =>
        simp only [ei] at h1
        have ev := zl0 w ei
        subst ev
        refine .inr ⟨_, ns, rfl, zc7 r1.st.sub s, fun ns' p hp hs hn => ?_⟩
        have := isortI_eq hp hs
        subst this
        exact znm r1.st g1 h1 (znl _) hn
    | _ => simp only [ed] at h1; exact h1.elim
end
end DL
set_option maxHeartbeats 8000000
namespace PySem
namespace DLSetT
open L2 PyProof.Rows
theorem few_of {α : Type} [DecidableEq α] : ∀ (l m : List α), l.Nodup → (∀ x ∈ l, x ∈ m) → l.length ≤ m.length
  | [], _, _, _ => Nat.zero_le _
  | x :: l, m, hn, hs => by
    rw [List.nodup_cons] at hn
    have hx : x ∈ m := hs x (List.mem_cons_self ..)
    have ih := few_of l (m.erase x) hn.2 fun y hy => (List.mem_erase_of_ne (fun z => hn.1 (by rw [← z]; exact hy))).mpr (hs y (List.mem_cons_of_mem _ hy))
    have := List.length_erase_of_mem hx
    have := List.length_pos_of_mem hx
    simp only [List.length_cons]
    omega
abbrev void (w : World) : Obj := { cls := .type "set", dict := none, data := .set #[] 0 (.fresh 0 0 (!w.params.followText "set-order")) }
section
variable {P : Program} {w : World} {A : Around} {E : Value → Shared → Prop} {s : Shared}
theorem take_all {I : Addr} {fp wr : List Addr} {G : Array GenState → Array GenState → Prop} {n : Nat} {Pv : Nat → Value → Prop} {St : Nat → Shared → Prop} {R : Result → Shared → Prop}
    (W : WalksS P w A.in1 I fp wr G n Pv St) (S : Addr) (off : S ∉ fp) (ks : List (Addr × List Int)) (cnt : n = ks.length) (Dl : List (List Int)) (small : Dl.length < 63) (inD : ∀ p ∈ ks, p.2 ∈ Dl) (val : ∀ i v, Pv i v → ∃ p, ks[i]? = some p ∧ v = .ref p.1)
    (h0 : Heap) (tup : ∀ p ∈ ks, L2.IsT P w h0 p.2 p.1) (free : h0.get? S = none) (wfree : ∀ b ∈ wr, h0.get? b = none) (room : A.in1.units < cLine) :
    ∀ (m i : Nat) (s : Shared), n - i = m → i ≤ n → St i s → (∀ b o, h0.get? b = some o → s.heap.get? b = some o) → (∃ L es ep t, SetTR P w s.heap S L es ep t ∧ Got ks i L) →
      (∀ s' L es ep t, Moved (S :: wr) G s s' → SetTR P w s'.heap S L es ep t → Got ks n L → (∀ b o, h0.get? b = some o → s'.heap.get? b = some o) → R (.ok (.ret .none)) s') →
      codeAny (model P w) A (.builtin "set.update.loop" ⟨[.ref S, .ref I], []⟩) R s := by
  have Sw : S ∉ wr := fun m => off (W.sub _ m)
  have wid : ∀ b ∈ wr, b ∈ S :: wr := fun b m => List.mem_cons_of_mem _ m
  have hold : ∀ {s s' : Shared}, Moved wr G s s' → (∀ b o, h0.get? b = some o → s.heap.get? b = some o) → ∀ b o, h0.get? b = some o → s'.heap.get? b = some o := by
    intro s s' mv k b o q
    refine mv.heap b o (fun m => ?_) (k b o q)
    rw [wfree b m] at q
    cases q
  intro m
  induction m with
  | zero =>
    intro i s em hi st keep ⟨L, es, ep, t, hS, g⟩ fin
    obtain rfl : i = n := by omega
    apply codeAny_builtin F.entry_set_update_loop
    rw [Around.under_plainId F.plain_set_update_loop _]
    show wpAny _ A.in1 (pyNext (.ref I) >>= _) _ _ s
    apply wpAny_bind
    refine W.done s _ _ st fun s' mv => ?_
    show wpAny _ A.in1 (ret Value.none) _ _ s'
    have keep2 := hold mv keep
    have sub : ∀ p ∈ L, p ∈ ks := fun p hp => List.mem_of_mem_take (g.sub p hp)
    apply wpAny_pure
    exact fin s' L es ep t (mv.mono wid) (hS.keep (fun o q => mv.heap S o Sw q) fun p hp => isT_keep (tup p (sub p hp)) keep2) g keep2
  | succ m ih =>
    intro i s em hi st keep ⟨L, es, ep, t, hS, g⟩ fin
    have lt : i < n := by omega
    apply codeAny_builtin F.entry_set_update_loop
    rw [Around.under_plainId F.plain_set_update_loop _]
    show wpAny _ A.in1 (pyNext (.ref I) >>= _) _ _ s
    apply wpAny_bind
    refine W.item i s _ _ lt st fun v s' pv st' mv => ?_
    obtain ⟨p, hp, rfl⟩ := val i v pv
    have keep2 := hold mv keep
    have sub : ∀ p ∈ L, p ∈ ks := fun p hp => List.mem_of_mem_take (g.sub p hp)
    have S2 : SetTR P w s'.heap S L es ep t := hS.keep (fun o q => mv.heap S o Sw q) fun q hq => isT_keep (tup q (sub q hq)) keep2
    have tp : L2.IsT P w s'.heap p.2 p.1 := isT_keep (tup p (List.mem_of_getElem? hp)) keep2
    have lL : L.length ≤ Dl.length := by
      have := few_of (L.map (·.2)) Dl hS.nd fun x hx => by
        obtain ⟨q, hq, rfl⟩ := List.mem_map.mp hx
        exact inD q (sub q hq)
      simpa using this
    show wpAny _ A.in1 (holding [Value.ref p.1] (setAdd S (.ref p.1)) >>= _) _ _ s'
    apply wpAny_bind
    apply wpAny_holding
    unfold setAdd
    apply wpAny_holding
    apply wpAny_bind
    refine wpAny_pyHash_tuple room tp ?_
    refine add_at (s := { s' with toks := s'.toks + (p.2.length + 1) }) S2 tp room (by omega) fun b h' L' es' ep' t' sb S3 same more => ?_
    have g2 : Got ks (i + 1) L' := by
      by_cases z : p.2 ∈ L.map (·.2)
      · rw [same z]; exact g.same hp z
      · exact g.more hp (more z)
    have keep3 : ∀ b o, h0.get? b = some o → h'.get? b = some o := by
      intro b o q
      rw [sb.2 b (fun z => by rw [z, free] at q; cases q)]
      exact keep2 b o q
    apply wpAny_pure
    refine ⟨plainId_quiet F.plain_set_update_loop _, ih (i + 1) _ (by omega) lt (W.frame _ s' _ _ st' (Nat.le_add_right _ _) fun b hb o q => ?_) keep3 ⟨L', es', ep', t', S3, g2⟩ fun s'' L2 es2 ep2 t2 mv2 S4 g3 keep4 => ?_⟩
    · rw [sb.2 b (fun z : b = S => off (by rw [← z]; exact hb))]; exact q
    · refine fin s'' L2 es2 ep2 t2 (Moved.trans W.gtrans ((mv.mono wid).then_heap (Nat.le_add_right _ _) fun b o hb q => ?_) mv2) S4 g3 keep4
      rw [sb.2 b (fun z : b = S => hb (by rw [z]; exact List.mem_cons_self))]; exact q
theorem set_of_tups {l : Addr} {items : Array Value} (ks : List (Addr × List Int)) (Dl : List (List Int)) {Q : Value → Shared → Prop} (hh : A.handled = none) (hl : s.heap.IsList l items) (hit : items.toList = ks.map fun p => Value.ref p.1)
    (tup : ∀ p ∈ ks, L2.IsT P w s.heap p.2 p.1) (small : Dl.length < 63) (inD : ∀ p ∈ ks, p.2 ∈ Dl) (room : A.units + 3 < cLine)
    (h : ∀ (h' : Heap) (tk : Nat) L es ep t, SetTR P w h' s.heap.objs.size L es ep t → Got ks ks.length L → (∀ b o, s.heap.get? b = some o → h'.get? b = some o) → Q (.ref s.heap.objs.size) { s with heap := h', toks := tk }) :
    wpAny (model P w) A (call (.type "set") [.ref l]) Q E s := by
  have cnt : items.size = ks.length := by simpa using congrArg List.length hit
  obtain ⟨c, tl, hmro⟩ := F.called_set.mro
  have hmade := F.called_set.made
  have hsub := F.called_set.sub
  apply wpAny_call
  apply codeAny_of_tree
  show wpAny _ _ (callAny (.type "set") _) _ _ _
  apply wpAny_pure
  refine ⟨Code.quiet_builtin _ (by decide +kernel), ?_⟩
  apply codeAny_builtin F.entry_type_call
  rw [Around.under_plain (weight_type_call_type "set" [.ref l] []) rfl]
  have h1 := F.called_set.notType
  have h2 := F.called_set.canCreate
  have hct := F.typeCall_set_1 (.ref l)
  repeat (any_goals (first | assumption | wp_step))
  refine codeAny_mono (code_set_led1 (.ref l) (E := E) (Q₁ := fun ob s1 => ob = .ref s.heap.objs.size ∧ s1 = { s with heap := s.heap.push (void w) }) ⟨rfl, rfl⟩) ?_
  intro r s1 hr
  cases r with
  | error e => exact hr
  | ok fl =>
    cases fl with
    | ret ob =>
      obtain ⟨rfl, rfl⟩ := hr
      have hS : (s.heap.push (void w)).get? s.heap.objs.size = some (void w) := Heap.get?_push_size _ rfl
      have hT : Shared.TypeIs { s with heap := s.heap.push (void w) } (.ref s.heap.objs.size) "set" := ⟨_, hS, rfl⟩
      have hli := F.called_set.init.lookup
      have hbi := F.called_set.init.bind (.ref s.heap.objs.size)
      repeat (any_goals (first | assumption | wp_step))
      refine codeAny_mono (codeAny_call_builtin (R := wants (fun r s2 => r = .none ∧ ∃ h' tk L es ep t, s2 = { s with heap := h', toks := tk } ∧ SetTR P w h' s.heap.objs.size L es ep t ∧ Got ks ks.length L ∧
          ∀ b o, s.heap.get? b = some o → h'.get? b = some o) E) F.called_set.init.plain F.entry_set_init (check_set_init_1 hT ?_)) ?_
      · obtain ⟨ol, hol, hcl, nl, hdl⟩ := hl
        obtain ⟨ocls, odict, odata, oslots⟩ := ol
        simp only at hcl hdl
        subst hcl
        subst hdl
        have hol1 : (s.heap.push (void w)).get? l = some { cls := .type "list", dict := odict, data := .seq items nl, slots := oslots } := Heap.get?_push_of_some _ hol
        have hsls := F.sub_list_set
        have hslf := F.sub_list_frozenset
        have hne : (Value.type "list" == Value.type "dict") = false := by decide
        have hl1 : (s.heap.push (void w)).IsList l items := ⟨_, hol1, rfl, nl, rfl⟩
        unfold Builtin.«set.__init__» noKeywords Builtin.Frozenset.updateFrom
        generalize hPI : pyIter = PI
        wp_walk
        subst hPI
        refine wpAny_pyIter_list hl1 ?_
        refine wpAny_bind (wpAny_runValue ?_)
        have lt : l < s.heap.objs.size := Heap.lt_size hol
        have calm3 : A.in1.in1.in1.handled = none := by simp [hh]
        have sz : (s.heap.push (void w)).objs.size = s.heap.objs.size + 1 := Heap.size_push ..
        have apart : l ≠ (s.heap.push (void w)).objs.size := by rw [sz]; exact Nat.ne_of_lt (Nat.lt_succ_of_lt lt)
        have free : s.heap.objs.size ∉ [(s.heap.push (void w)).objs.size, l] := by
          rw [sz]
          simp only [List.mem_cons, List.not_mem_nil, or_false, not_or]
          exact ⟨Nat.ne_of_lt (Nat.lt_succ_self _), Nat.ne_of_gt lt⟩
        have val : ∀ (i : Nat) (v : Value), items[i]? = some v → ∃ p, ks[i]? = some p ∧ v = .ref p.1 := by
          intro i v hv
          have q : items.toList[i]? = some v := by rw [Array.getElem?_toList]; exact hv
          rw [hit, List.getElem?_map] at q
          cases hq : ks[i]? with
          | none => rw [hq] at q; cases q
          | some p => rw [hq] at q; cases q; exact ⟨p, rfl, rfl⟩
        have void_of : ∀ b, s.heap.objs.size ≤ b → s.heap.get? b = none := by
          intro b hb
          cases q : s.heap.get? b with
          | none => rfl
          | some o => exact absurd (Nat.lt_of_lt_of_le (Heap.lt_size q) hb) (Nat.lt_irrefl _)
        refine take_all ((Walks.list calm3 _ l apart items).toS) s.heap.objs.size free ks cnt Dl small inD val s.heap tup (void_of _ (Nat.le_refl _)) (fun b hb => void_of b ?_) room (items.size - 0) 0 _ (by omega) (Nat.zero_le _)
          ⟨⟨_, Heap.get?_push_size _ rfl, rfl, rfl⟩, (hl1.push _)⟩ (fun b o q => Heap.get?_push_of_some _ (Heap.get?_push_of_some _ q)) ?hA ?hB
        case hA =>
          refine ⟨[], #[], 0, _, setTR_fresh ?_, Got.zero ks⟩
          exact Heap.get?_push_of_some _ hS
        case hB =>
          intro s' L es ep t mv hS' g keep
          obtain ⟨h', g2, d', tk', os'⟩ := s'
          obtain rfl : g2 = s.gens := mv.gens
          obtain rfl : d' = s.drawn := mv.drawn
          obtain rfl : os' = s.os := mv.os
          show wpAny _ _ _ _ _ _
          apply wpAny_pure
          show wpAny _ _ (ret Value.none) _ _ _
          rw [cnt] at g
          exact wpAny_pure ⟨rfl, h', tk', L, es, ep, t, rfl, hS', g, keep⟩
        · rw [List.mem_singleton.mp hb, sz]
          exact Nat.le_succ _
      · intro r2 s2 hr2
        cases r2 with
        | error e => exact hr2
        | ok fl2 =>
          cases fl2 with
          | ret v2 =>
            obtain ⟨rfl, h', tk, L, es, ep, t, rfl, hS', g, keep⟩ := hr2
            repeat (any_goals (first | assumption | wp_step))
            exact h _ _ _ _ _ _ hS' g keep
          | _ => exact hr2.elim
    | _ => exact hr.elim
end
end DLSetT
end PySem
set_option maxHeartbeats 4000000
namespace DL
open PySem PySem.Spec PyProof.Rows L2
/-! ## the order of tuples of ints -/
abbrev lx (a b : List Int) : Bool := HT.lexLt a b
theorem lx_irr : ∀ a : List Int, lx a a = false
  | [] => rfl
  | x :: a => by show (if x = x then HT.lexLt a a else _) = false; rw [if_pos rfl]; exact lx_irr a
theorem lx_tr : ∀ {a b c : List Int}, lx a b = true → lx b c = true → lx a c = true
  | [], [], _, h, _ => nomatch h
  | [], _ :: _, [], _, h => nomatch h
  | [], _ :: _, _ :: _, _, _ => rfl
  | _ :: _, [], _, h, _ => nomatch h
  | _ :: _, _ :: _, [], _, h => nomatch h
  | x :: a, y :: b, z :: c, h1, h2 => by
    have h1 : (if x = y then HT.lexLt a b else decide (x < y)) = true := h1
    have h2 : (if y = z then HT.lexLt b c else decide (y < z)) = true := h2
    show (if x = z then HT.lexLt a c else decide (x < z)) = true
    by_cases e1 : x = y
    · rw [if_pos e1] at h1
      by_cases e2 : y = z
      · rw [if_pos e2] at h2
        rw [if_pos (e1.trans e2)]
        exact lx_tr h1 h2
      · rw [if_neg e2] at h2
        rw [if_neg (by rw [e1]; exact e2), e1]
        exact h2
    · rw [if_neg e1, decide_eq_true_eq] at h1
      by_cases e2 : y = z
      · rw [if_neg (by omega), decide_eq_true_eq]
        omega
      · rw [if_neg e2, decide_eq_true_eq] at h2
        rw [if_neg (by omega), decide_eq_true_eq]
        omega
theorem lx_tri : ∀ {a b : List Int}, lx a b = false → lx b a = false → a = b
  | [], [], _, _ => rfl
  | [], _ :: _, h, _ => nomatch h
  | _ :: _, [], _, h => nomatch h
  | x :: a, y :: b, h1, h2 => by
    have h1 : (if x = y then HT.lexLt a b else decide (x < y)) = false := h1
    have h2 : (if y = x then HT.lexLt b a else decide (y < x)) = false := h2
    by_cases e : x = y
    · subst e
      rw [if_pos rfl] at h1 h2
      rw [lx_tri h1 h2]
    · rw [if_neg e, decide_eq_false_iff_not] at h1
      rw [if_neg (fun z => e z.symm), decide_eq_false_iff_not] at h2
      omega
def insL (n : List Int) : List (List Int) → List (List Int)
  | [] => [n]
  | m :: r => bif lx n m then n :: m :: r else bif lx m n then m :: insL n r else m :: r
def zc8 : List (List Int) → List (List Int)
  | [] => []
  | n :: ns => insL n (zc8 ns)
theorem zpv (n k : List Int) : ∀ l, k ∈ insL n l ↔ k = n ∨ k ∈ l
  | [] => by simp [insL]
  | m :: r => by
    unfold insL
    have h := zpv n k r
    cases h1 : lx n m
    · cases h2 : lx m n
      · have := lx_tri h1 h2
        subst this
        simp
      · simp only [cond_false, cond_true, List.mem_cons, h]
        constructor
        · rintro (h | h | h) <;> simp [h]
        · rintro (h | h | h) <;> simp [h]
    · simp
theorem znu (n : List Int) : ∀ l, l.Pairwise (fun a b => lx a b = true) → (insL n l).Pairwise (fun a b => lx a b = true)
  | [], _ => by simp [insL]
  | m :: r, h => by
    unfold insL
    rw [List.pairwise_cons] at h
    cases h1 : lx n m
    · cases h2 : lx m n
      · exact List.pairwise_cons.mpr h
      · refine List.pairwise_cons.mpr ⟨fun k hk => ?_, znu n r h.2⟩
        rcases (zpv n k r).mp hk with z | z
        · subst z; exact h2
        · exact h.1 k z
    · refine List.pairwise_cons.mpr ⟨fun k hk => ?_, List.pairwise_cons.mpr h⟩
      rcases List.mem_cons.mp hk with z | z
      · subst z; exact h1
      · exact lx_tr h1 (h.1 k z)
theorem zjo : ∀ l, (zc8 l).Pairwise (fun a b => lx a b = true)
  | [] => .nil
  | n :: r => znu n _ (zjo r)
theorem zc5 (k : List Int) : ∀ l, k ∈ zc8 l ↔ k ∈ l
  | [] => by simp [zc8]
  | n :: r => by
    show k ∈ insL n (zc8 r) ↔ _
    rw [zpv, zc5 k r, List.mem_cons]
theorem zn1 : ∀ {a b : List (List Int)}, a.Pairwise (fun a b => lx a b = true) → b.Pairwise (fun a b => lx a b = true) → (∀ k, k ∈ a ↔ k ∈ b) → a = b
  | [], [], _, _, _ => rfl
  | [], y :: b, _, _, h => absurd ((h y).mpr List.mem_cons_self) (by simp)
  | x :: a, [], _, _, h => absurd ((h x).mp List.mem_cons_self) (by simp)
  | x :: a, y :: b, ha, hb, h => by
    rw [List.pairwise_cons] at ha hb
    have no : ∀ {u v : List Int}, lx u v = true → lx v u = true → False := fun h1 h2 => by
      have := lx_tr h1 h2
      rw [lx_irr] at this
      cases this
    have e : x = y := by
      rcases List.mem_cons.mp ((h x).mp List.mem_cons_self) with z | z
      · exact z
      · rcases List.mem_cons.mp ((h y).mpr List.mem_cons_self) with q | q
        · exact q.symm
        · exact (no (ha.1 y q) (hb.1 x z)).elim
    subst e
    have nx : x ∉ a := fun m => by have := ha.1 x m; rw [lx_irr] at this; cases this
    have ny : x ∉ b := fun m => by have := hb.1 x m; rw [lx_irr] at this; cases this
    have t : a = b := zn1 ha.2 hb.2 fun k => by
      have q := h k
      simp only [List.mem_cons] at q
      constructor
      · intro m
        rcases q.mp (.inr m) with z | z
        · subst z; exact absurd m nx
        · exact z
      · intro m
        rcases q.mpr (.inr m) with z | z
        · subst z; exact absurd m ny
        · exact z
    rw [t]
theorem code_lx {B : Int} : ∀ {a b : List Int}, a.length = b.length → TS.Bd B a → TS.Bd B b → TS.code B a ≤ TS.code B b → a ≠ b → lx a b = true
  | [], [], _, _, _, _, n => absurd rfl n
  | [], _ :: _, h, _, _, _, _ => nomatch h
  | _ :: _, [], h, _, _, _, _ => nomatch h
  | x :: a, y :: b, hl, ha, hb, hc, n => by
    have hl2 : a.length = b.length := by simpa using hl
    show (if x = y then HT.lexLt a b else decide (x < y)) = true
    by_cases e : x = y
    · subst e
      rw [if_pos rfl]
      refine code_lx hl2 ha.tail hb.tail ?_ (fun z => n (by rw [z]))
      rcases Int.lt_or_le (TS.code B b) (TS.code B a) with z | z
      · have := (TS.code_same (B := B) (d := x) (r := b) (q := a) hl2.symm).mpr z
        omega
      · exact z
    · rw [if_neg e, decide_eq_true_eq]
      rcases Int.lt_or_le y x with z | z
      · have := TS.code_lt (B := B) hl2.symm hb.tail ha.tail z
        omega
      · omega
def tupsI : List D → Option (List (List Int))
  | [] => some []
  | .tup xs :: r => match zhf xs, tupsI r with
    | some a, some b => some (a :: b)
    | _, _ => none
  | _ :: _ => none
def tupsOk (L : List (List Int)) : Bool := (match L with | [] => true | a :: _ => decide (1 ≤ a.length) && L.all fun b => decide (b.length = a.length)) && (L.all fun b => b.all fun x => decide (0 ≤ x)) && decide ((zc8 L).length < 63)
theorem bound_of : ∀ L : List (List Int), (∀ b ∈ L, ∀ x ∈ b, 0 ≤ x) → ∃ B : Int, ∀ b ∈ L, TS.Bd B b
  | [], _ => ⟨0, fun b h => nomatch h⟩
  | a :: L, h => by
    obtain ⟨B, hB⟩ := bound_of L fun b hb => h b (List.mem_cons_of_mem _ hb)
    have one : ∀ a : List Int, ∃ C : Int, ∀ x ∈ a, x < C := by
      intro a
      induction a with
      | nil => exact ⟨0, fun x h => nomatch h⟩
      | cons y a ih =>
        obtain ⟨C, hC⟩ := ih
        refine ⟨max C (y + 1), fun x hx => ?_⟩
        rcases List.mem_cons.mp hx with rfl | hx
        · omega
        · have := hC x hx; omega
    obtain ⟨C, hC⟩ := one a
    refine ⟨max B C, fun b hb => ?_⟩
    rcases List.mem_cons.mp hb with rfl | hb
    · exact fun x hx => ⟨h b List.mem_cons_self x hx, by have := hC x hx; omega⟩
    · exact fun x hx => ⟨(hB b hb x hx).1, by have := (hB b hb x hx).2; omega⟩
section
variable {X : Cx} {W : WX} {e a b c : Expr} {es : List Expr} {pos p : Pos} {K : PySem.W.Frag} {ι : List Addr} {F H : Hp} {S : zaf} {mg : Str → Option Value}
theorem tupsI_ok : ∀ {xs : List D} {vs : List V} {L : List (List Int)}, WdA K F vs xs → tupsI xs = some L → ∃ ks : List (Addr × List Int), vs = ks.map (fun p => V.ref p.1) ∧ ks.map (·.2) = L ∧ ∀ p ∈ ks, SqT K F p.1 (p.2.map V.int) ∧ Wd K F (.ref p.1) (.tup (p.2.map .int))
  | [], _, _, .nil, e => by cases e; exact ⟨[], rfl, rfl, fun p h => nomatch h⟩
  | d :: xs, _, L, .cons w ws, e => by
    cases w with
    | tup s u =>
      rename_i a us ds
      simp only [tupsI] at e
      split at e
      · rename_i ns r e1 e2
        cases e
        obtain ⟨ks, h1, h2, h3⟩ := tupsI_ok ws e2
        have ev := zl0 u e1
        have ed : ds = ns.map .int := by
          clear h1 h2 h3 s u ev e2 ws
          induction ds generalizing ns with
          | nil => cases e1; rfl
          | cons d ds ih =>
            cases d <;> simp only [zhf] at e1 <;> try cases e1
            cases q : zhf ds with
            | none => rw [q] at e1; cases e1
            | some b => rw [q] at e1; cases e1; rw [ih b q]; rfl
        subst ev
        subst ed
        refine ⟨(a, ns) :: ks, by rw [h1]; rfl, by rw [← h2]; rfl, fun p hp => ?_⟩
        rcases List.mem_cons.mp hp with rfl | hp
        · exact ⟨s, .tup s u⟩
        · exact h3 p hp
      · cases e
    | _ => cases e
def rSetT2 (K : PySem.W.Frag) (P : Program) (w : World) : List V → Hp → VK → Prop := fun xs H Q => ∃ (l : Addr) (ks : List (Addr × List Int)) (Dl : List (List Int)), xs = [V.ref l] ∧ SqL K H l (ks.map fun p => V.ref p.1) ∧ (∀ p ∈ ks, SqT K H p.1 (p.2.map V.int)) ∧ Dl.length < 63 ∧ (∀ p ∈ ks, p.2 ∈ Dl) ∧
  ∀ a L, H a = none → (∀ p ∈ L, p ∈ ks) → (∀ p ∈ ks, p.2 ∈ L.map (·.2)) → Q (.ref a) (upd H a (SetTO P w a L))
theorem cr_setT2 (hc : X.calm = true) (hu : X.A.units + 64 < cLine) : CallR X (.type "set") (rSetT2 X.K X.prog X.w) := by
  intro pins s σ H xs us Q I r h
  obtain ⟨l, ks, Dl, rfl, hl, hk, hf, hD, q⟩ := h
  rw [Vals.ref1 r]
  obtain ⟨its, rv, pl, hz⟩ := I.list hl
  have new : H s.heap.objs.size = none := I.hok.fresh (Nat.le_refl _)
  apply PySem.DLSetT.set_of_tups (P := X.prog) (w := X.w) ks Dl (I.ok.hd hc) pl.isList (by simpa using refs_of_vals rv) (fun p hp => I.isT (hk p hp)) hf hD (by omega)
  intro h' tk L es ep t R g k
  refine ⟨.ref s.heap.objs.size, upd H s.heap.objs.size (SetTO X.prog X.w s.heap.objs.size L), ?_, rfl, q _ L new (fun p hp => List.mem_of_mem_take (g.sub p hp)) fun p hp => g.all p (by rw [List.take_length]; exact hp)⟩
  exact I.laid (t' := tk) k (Nat.le_refl _) (setTO_new R.t0)
def sortT (x : DV) (S : zaf) : Res (List D) := match rd S x with
  | some (.lst xs) => (match tupsI xs with
    | some L => if tupsOk L = true then .ok ((zc8 L).map fun l => .tup (l.map .int)) S else .bad
    | none => .bad)
  | _ => .bad
def znt (f : XFn) : LFn := fun ρ S => (f ρ S).bind sortT
theorem ne_sortSetT {f : XFn} {p2 p3 : Pos} (hc : X.calm = true) (hu : X.A.units + 64 < cLine) (h : DE X W a f) (hm : X.mg "sorted" = none) (hm2 : X.mg "set" = none) (hg : Gl X "sorted" := by rfl) (hg2 : Gl X "set" := by rfl)
    (he : starEach (a :: []) X.env = (false, eval a X.env) :: starEach [] X.env := by rfl)
    (he2 : starEach (.Call (.Name "set" p2) [a] [] p3 :: []) X.env = (false, eval (.Call (.Name "set" p2) [a] [] p3) X.env) :: starEach [] X.env := by rfl) :
    NE X W (.Call (.Name "sorted" p) [.Call (.Name "set" p2) [a] [] p3] [] pos) (znt f) := by
  refine ⟨PE.weak (pe_callB (cr_sortedT hc) hg hm (by decide +kernel) (pa_cons (pe_callTy (cr_setT2 hc hu) hg2 hm2 (by decide +kernel) (pa_cons h.pe pa_nil he) (by decide) (by decide) he rfl) pa_nil he2) (by decide) (by decide) he2 rfl) fun σ H Q ⟨ι, F, ρ, S, r, h⟩ => ?_⟩
  refine tD.bind (g := fun _ => sortT) r h fun v dv ι1 F1 S1 H1 r1 w1 g1 h1 => ?_
  unfold sortT at h1
  cases ed : rd S1 dv with
  | none => simp only [ed] at h1; exact h1.elim
  | some d =>
    have vw := r1.st.vw w1 ed
    cases vw with
    | lst s w =>
      rename_i p0 vs xs
      simp only [ed] at h1
      cases ei : tupsI xs with
      | none => simp only [ei] at h1; exact h1.elim
      | some L =>
        simp only [ei] at h1
        by_cases hl : tupsOk L = true
        · simp only [hl, if_true] at h1
          obtain ⟨ks, rfl, hL, hk⟩ := tupsI_ok w ei
          unfold tupsOk at hl
          simp only [Bool.and_eq_true, List.all_eq_true, decide_eq_true_eq] at hl
          obtain ⟨⟨l1, l2⟩, l3⟩ := hl
          obtain ⟨B, hB⟩ := bound_of L l2
          have mem : ∀ p ∈ ks, p.2 ∈ L := fun p hp => by rw [← hL]; exact List.mem_map_of_mem hp
          refine ⟨p0, ks, zc8 L, rfl, .of s, fun p hp => zc7 r1.st.sub (hk p hp).1, l3, fun p hp => (zc5 _ _).mpr (mem p hp), fun a L1 ha sub all => ?_⟩
          obtain ⟨d0, hd0, hlen⟩ : ∃ d0 : Nat, 1 ≤ d0 ∧ ∀ b ∈ L, b.length = d0 := by
            cases L with
            | nil => exact ⟨1, Nat.le_refl _, fun b h => nomatch h⟩
            | cons x L' =>
              simp only [Bool.and_eq_true, decide_eq_true_eq, List.all_eq_true] at l1
              exact ⟨x.length, l1.1, fun b hb => l1.2 b hb⟩
          have sm : Same H1 (upd H1 a (SetTO X.prog X.w a L1)) := fun b u q => by rw [upd_ne (ne_of_none q ha)]; exact q
          refine ⟨a, L1, d0, B, rfl, upd_same, fun p hp => zc7 sm (zc7 r1.st.sub (hk p (sub p hp)).1), hd0, fun p hp => ⟨hlen _ (mem p (sub p hp)), hB _ (mem p (sub p hp))⟩, fun L2 p' pm nd few pw hp' => ?_⟩
          have in2 : ∀ q ∈ L2, q ∈ ks := fun q hq => sub q (pm.mem_iff.mp hq)
          have eL : L2.map (·.2) = zc8 L := by
            refine zn1 ?_ (zjo L) fun k => ?_
            · rw [List.pairwise_map]
              have nd2 : L2.Pairwise (fun a b => a.2 ≠ b.2) := by
                have := nd
                rw [List.Nodup, List.pairwise_map] at this
                exact this
              refine List.Pairwise.imp_of_mem (fun {x y} hx hy hxy => ?_) (List.Pairwise.and pw nd2)
              have h1 := mem x (in2 x hx)
              have h2 := mem y (in2 y hy)
              exact code_lx (by rw [hlen _ h1, hlen _ h2]) (hB _ h1) (hB _ h2) hxy.1 hxy.2
            · rw [zc5, ← hL]
              constructor
              · intro m
                obtain ⟨q, hq, rfl⟩ := List.mem_map.mp m
                exact List.mem_map_of_mem (in2 q hq)
              · intro m
                obtain ⟨q, hq, rfl⟩ := List.mem_map.mp m
                obtain ⟨q', hq', e⟩ := List.mem_map.mp (all q hq)
                exact List.mem_map.mpr ⟨q', pm.mem_iff.mpr hq', e⟩
          have wd : WdA X.K F1 (L2.map fun q => V.ref q.1) ((zc8 L).map fun l => D.tup (l.map .int)) := by
            rw [← eL]
            have : ∀ M : List (Addr × List Int), (∀ q ∈ M, q ∈ ks) → WdA X.K F1 (M.map fun q => V.ref q.1) ((M.map (·.2)).map fun l => D.tup (l.map .int)) := by
              intro M
              induction M with
              | nil => intro _; exact .nil
              | cons q M ih => intro hM; exact .cons (hk q (hM q List.mem_cons_self)).2 (ih fun z hz => hM z (List.mem_cons_of_mem _ hz))
            exact this L2 in2
          have st2 := r1.st.alone ha (SetTO X.prog X.w a L1)
          exact znm st2 (g1.trans (zf_ ha _)) (Post.grow (r := Res.ok _ S1) h1 (zf_ ha _)) wd hp'
        · simp only [hl, if_false] at h1; exact h1.elim
    | _ => simp only [ed] at h1; exact h1.elim
end
end DL
set_option maxHeartbeats 4000000
namespace DL
open PySem PySem.Spec PyProof.Rows L2
section
variable {X : Cx} {W : WX} {e a b c : Expr} {es : List Expr} {pos p : Pos} {K : PySem.W.Frag} {ι : List Addr} {F H : Hp} {S : zaf} {mg : Str → Option Value}
/-! ## while -/
def whIn (k : zat → zaf → RS) (ρ : zat) (r : RS) : RS := match r with
  | .nx ρ2 S2 => k ρ2 S2
  | .ct ρ2 S2 => k ρ2 S2
  | .bk ρ2 S2 => .nx ρ2 S2
  | r => r
def whGo (t : TFn) (f : SFn) : Nat → zat → zaf → RS
  | 0, _, _ => .bad
  | n + 1, ρ, S => (t ρ S).bindS ρ fun b S1 => if b then whIn (whGo t f n) ρ (f ρ S1) else .nx ρ S1
def sWhile (t : TFn) (f : SFn) : SFn := whGo t f 1000
theorem ds_while {t : TFn} {f : SFn} {body : List Stmt} (hp : PassesOwn (model X.prog X.w) X.A X.env X.xe) (hc : DT X W c t) (hb : DSs X W body f) : DS X W (.While c body [] pos) (sWhile t f) := by
  obtain ⟨tb, pb, kb⟩ := hb.ps
  refine ⟨_, ps_while hp hc.pt pb, fun D σ H ⟨ι, F, ρ, S, r, h⟩ => ?_⟩
  refine ⟨fun m σ H => ∃ ι F ρ S, RR X.K ι F ρ S σ H ∧ PostS X.K X.mg W ι F H (whGo t f m ρ S) D, ⟨1000, ι, F, ρ, S, r, h⟩, ?_⟩
  rintro m σ1 H1 ⟨ι1, F1, ρ1, S1, r1, h1⟩
  cases m with
  | zero => exact h1.elim
  | succ m =>
    refine tT.bindS (g := fun ρ b S1 => if b then whIn (whGo t f m) ρ (f ρ S1) else .nx ρ S1) r1 h1 fun b ι2 F2 S2 H2 r2 g2 h2 => ?_
    cases b with
    | false =>
      rw [if_neg (by simp)]
      simp only [Bool.false_eq_true, if_false] at h2
      exact h2 σ1 ι2 F2 H2 .refl r2
    | true =>
      rw [if_pos rfl]
      simp only [if_true] at h2
      refine ⟨_, fun σ' H' w => ⟨m, Nat.lt_succ_self _, w⟩, kb _ _ _ ⟨ι2, F2, ρ1, S2, r2, ?_⟩⟩
      unfold whIn at h2
      cases q : f ρ1 S2 with
      | nx ρ3 S3 => rw [q] at h2; exact fun σ3 ι3 F3 H3 g3 r3 => ⟨ι3, F3, ρ3, S3, r3, PostS.grow (r := whGo t f m ρ3 S3) h2 g3⟩
      | ct ρ3 S3 => rw [q] at h2; exact fun σ3 ι3 F3 H3 g3 r3 => ⟨ι3, F3, ρ3, S3, r3, PostS.grow (r := whGo t f m ρ3 S3) h2 g3⟩
      | bk ρ3 S3 => rw [q] at h2; exact h2
      | rt v S3 => rw [q] at h2; exact h2
      | ex cc ρ3 S3 => rw [q] at h2; exact h2
      | bad => rw [q] at h2; exact h2
theorem znr {t : TFn} {f : SFn} : ∀ {n : Nat} {ρ : zat} {S : zaf} {r : RS}, whGo t f n ρ S = r → r ≠ .bad → ∀ m, n ≤ m → whGo t f m ρ S = r
  | 0, ρ, S, r, h, hr, m, _ => absurd h.symm hr
  | n + 1, ρ, S, r, h, hr, 0, hm => by omega
  | n + 1, ρ, S, r, h, hr, m + 1, hm => by
    rw [← h]
    simp only [whGo] at h ⊢
    cases q : t ρ S with
    | ok b S1 =>
      rw [q] at h
      simp only [Res.bindS_ok] at h ⊢
      cases b with
      | false => rfl
      | true =>
        simp only [if_true] at h ⊢
        cases q2 : f ρ S1 with
        | nx ρ2 S2 => rw [q2] at h; simp only [whIn] at h ⊢; rw [h]; exact znr h hr m (by omega)
        | ct ρ2 S2 => rw [q2] at h; simp only [whIn] at h ⊢; rw [h]; exact znr h hr m (by omega)
        | _ => rfl
    | ex c S1 => rfl
    | bad => rfl
theorem sWhile_of {t : TFn} {f : SFn} {n : Nat} {ρ : zat} {S : zaf} {r : RS} (h : whGo t f n ρ S = r) (hr : r ≠ .bad) (hn : n ≤ 1000) : sWhile t f ρ S = r := znr h hr 1000 hn
/-! ## a live list walked by a for -/
/-! ## a comprehension over a live list -/
/-! ## a comprehension within a comprehension -/
/-! ## x in a list of texts -/
end
end DL
set_option maxHeartbeats 4000000
namespace L2
open PySem PySem.Spec PyProof.Rows
/-! ## an exception kept behind its clause -/
section
variable {X : Cx} {pins : List (Addr × Obj)} {σ : St} {H : Hp} {s : Shared}
end
section
variable {X : Cx} {x n : Str} {c : Value} {i j : Nat} {body suite : List Stmt} {b₀ : Stmt} {np hpos tpos : Pos} {tb : WX → TS} {Wout : WX}
end
end L2
namespace DL
open PySem PySem.Spec PyProof.Rows L2
section
variable {X : Cx} {W : WX} {e a b c : Expr} {es : List Expr} {pos p : Pos} {K : PySem.W.Frag} {ι : List Addr} {F H : Hp} {S : zaf} {mg : Str → Option Value}
/-! ## try .. except X as n: y = n -/
/-! ## isinstance of a kept exception -/
def IsiT (K : PySem.W.Frag) (tv : Value) (t : List (Str × Bool)) : Prop := ∀ c b, t.lookup c = some b → ExcC K (He.ga K c) ∧ PySem.W.kitOne K (.ref (He.ga K c)) tv = some b
structure IsiD (K : PySem.W.Frag) (mg : Str → Option Value) (y : Str) (t : List (Str × Bool)) : Prop where
  ex : ∃ V, mg y = some (.ref V) ∧ IsiT K (.ref V) t
/-! ## is None, of anything -/
/-! ## what is never reached -/
def xBad : XFn := fun _ _ => .bad
theorem de_bad : DE X W e xBad := ⟨⟨fun _ _ _ _ _ _ ⟨_, _, _, _, _, h⟩ => h.elim⟩⟩
end
end DL
set_option maxHeartbeats 4000000
namespace DL
open PySem PySem.Spec PyProof.Rows L2
section
variable {X : Cx} {W : WX} {e a b c : Expr} {es : List Expr} {pos p : Pos} {K : PySem.W.Frag} {ι : List Addr} {F H : Hp} {S : zaf} {mg : Str → Option Value}
/-! ## l.count(x), l.index(x) -/
end
/-! ## a head with facts of one's own -/
/-! ## facts of classes of exceptions -/
def excB (K : PySem.W.Frag) (x : Str) : Bool := He.eqO (PySem.W.findIn K (.ref (He.ga K x)) "__getattribute__") (some (some (.builtin "BaseException.__getattribute__"))) && (He.eqO (PySem.W.findIn K (.ref (He.ga K x)) "__getattr__") (some none) &&
  (decide (PySem.W.subIn K (.ref (He.ga K x)) (.type "BaseException") = some true) && (PySem.W.hasDictIn K (He.ga K x) && (He.eqO (PySem.W.findIn K (.ref (He.ga K x)) "__class__") (some (some (.builtin "object.__class__"))) &&
  (He.eqO (PySem.W.specialIn K (.builtin "object.__class__") "__get__") (some (some (.builtin "getset_descriptor.__get__"))) && (decide (PySem.W.takesIn K (.builtin "object.__class__") = some true) && decide (PySem.W.mroIn K (He.ga K x) (.type "object") = some true)))))))
def kitB (K : PySem.W.Frag) (tv : Value) (t : List (Str × Bool)) : Bool := t.all fun q => excB K q.1 && decide (PySem.W.kitOne K (.ref (He.ga K q.1)) tv = some q.2)
end DL
set_option maxHeartbeats 4000000
namespace PySem.RevS
open PySem PySem.Spec PyProof.Rows HT
section
variable {prog : Program} {w : World} {A : Around} {E : Value → Shared → Prop} {s : Shared}
theorem places_rev (n : Nat) : Builtin.Slice.slicePlaces ((n : Int) - 1) (-1) (-1) = n := by
  unfold Builtin.Slice.slicePlaces
  have h1 : ¬ ((-1 : Int) > 0) := by omega
  simp only [h1, if_false, Int.neg_neg, Int.ediv_one]
  split <;> omega
theorem zm6 {sl : Addr} {vs : Value} {n : Nat} {Q : Int × Int × Nat → Shared → Prop} (hs : s.heap.IsSliceOf sl .none .none vs) (ps : IsPart vs (some (-1)))
    (h : Q ((n : Int) - 1, -1, n) s) : wpAny (model prog w) A (Builtin.Slice.sliceApplied (.ref sl) (pure (n : Int))) Q E s := by
  obtain ⟨os, hos, hcs, hds⟩ := id hs
  unfold Builtin.Slice.sliceApplied Builtin.Slice.sliceFields
  refine wpAny_bind (wpAny_bind (wpAny_field hos hds (x := .none) rfl (wpAny_bind (wpAny_field hos hds (x := .none) rfl (wpAny_bind (wpAny_field hos hds (x := vs) rfl (wpAny_pure ?_)))))))
  refine wpAny_bind (slicePart_ ps ?_)
  show wpAny _ _ (if ((-1 : Int) == 0) = true then _ else _) _ _ s
  rw [if_neg (by decide)]
  refine wpAny_bind (slicePart_none (wpAny_bind (slicePart_none (wpAny_bind (wpAny_pure ?_)))))
  show wpAny _ _ (pure ((n : Int) - 1, (-1 : Int), Builtin.Slice.slicePlaces ((n : Int) - 1) (-1) (-1))) _ _ s
  rw [places_rev]
  exact wpAny_pure h
theorem fm_all {β : Type} (g : Nat → β) : ∀ (l : List Nat) (f : Nat → Option β), (∀ m ∈ l, f m = some (g m)) → l.filterMap f = l.map g
  | [], _, _ => rfl
  | a :: r, f, h => by
    rw [List.filterMap_cons, h a (List.mem_cons_self ..), fm_all g r f fun m hm => h m (List.mem_cons_of_mem _ hm)]
    rfl
theorem pick_rev (xs : Array Value) : ((List.range xs.size).filterMap fun (m : Nat) => xs[(((xs.size : Nat) : Int) - 1 + (m : Int) * (-1)).toNat]?).toArray = xs.toList.reverse.toArray := by
  congr 1
  rw [fm_all (fun m => xs.toList.getD (xs.size - 1 - m) .none)]
  · apply List.ext_getElem
    · simp
    · intro i h1 h2
      simp only [List.length_map, List.length_range] at h1
      simp only [List.getElem_map, List.getElem_range, List.getElem_reverse, Array.length_toList, List.getD_eq_getElem?_getD]
      rw [List.getElem?_eq_getElem (by simp; omega)]
      rfl
  · intro m hm
    have hm := List.mem_range.mp hm
    have e : (((xs.size : Nat) : Int) - 1 + (m : Int) * (-1)).toNat = xs.size - 1 - m := by omega
    rw [e, List.getD_eq_getElem?_getD, ← Array.getElem?_toList, List.getElem?_eq_getElem (by simp; omega)]
    rfl
theorem getItem_tuple_rev {t sl : Addr} {items : Array Value} {vs : Value} {Q : Value → Shared → Prop} (ht : IsTup s.heap t items) (hs : s.heap.IsSliceOf sl .none .none vs) (ps : IsPart vs (some (-1)))
    (h : Q (.ref s.heap.objs.size) { s with heap := s.heap.push { cls := .type "tuple", data := .seq items.toList.reverse.toArray } })
    (hsz : items.size ≤ sizeLine) : wpAny (model prog w) A (getItem (.ref t) (.ref sl)) Q E s := by
  have htake : sizeOk (.seq items.toList.reverse.toArray) := by
    show items.toList.reverse.toArray.size ≤ sizeLine
    simpa using hsz
  obtain ⟨os, hos, hcs, hds⟩ := id hs
  have hTs : s.TypeIs (.ref sl) "slice" := ⟨os, hos, hcs⟩
  unfold getItem
  try with_reducible refine wpAny_holding ?_
  first | refine wpAny_bind (wpAny_pure ?_) | skip
  refine wpAny_bind (wpAny_sequenceKey ht.typeIs (by decide) ?_)
  refine wpAny_bind (wpAny_callSpecial?_slot (name := Str.ofString "__getitem__") ht.typeIs PyProof.Rows.slot_tuple_getitem
    (wpAny_call_entry PyProof.Rows.slot_tuple_getitem ht.typeIs entry_tuple_getitem ?_ (args_tuple_getitem _ _)))
  show wpAny _ _ (Builtin.Tuple.tupleItemsOf (.ref t) >>= _) _ _ s
  refine wpAny_bind (tupleItemsOf_ ht ?_)
  refine wpAny_bind (wpAny_typeOf hTs ?_)
  rw [if_pos (by decide)]
  refine wpAny_bind (zm6 hs ps ?_)
  have hno : ¬ ((((items.size : Int) - 1) == 0 && (-1 : Int) == 1 && items.size == items.size) = true) := by
    intro q
    rw [Bool.and_eq_true, Bool.and_eq_true] at q
    have : (-1 : Int) = 1 := eq_of_beq q.1.2
    omega
  show wpAny _ _ (if (((items.size : Int) - 1) == 0 && (-1 : Int) == 1 && items.size == items.size) = true then _ else _) _ _ s
  rw [if_neg hno, pick_rev]
  first
    | exact wpAny_bind (m := Builtin.Tuple.tupleExact _) (wpAny_newObj_type (wpAny_pure ⟨_, rfl, wpAny_pure h⟩) htake)
    | exact wpAny_bind (m := Builtin.Tuple.tupleExact _) (wpAny_newObj_type (wpAny_bind (wpAny_pure (wpAny_pure ⟨_, rfl, wpAny_pure h⟩))) htake)
    | exact wpAny_bind (wpAny_bind (m := Builtin.Tuple.tupleExact _) (wpAny_newObj_type (wpAny_pure (wpAny_pure ⟨_, rfl, wpAny_pure h⟩)) htake))
    | exact wpAny_bind (wpAny_bind (m := Builtin.Tuple.tupleExact _) (wpAny_newObj_type (wpAny_pure ⟨_, rfl, wpAny_pure h⟩) htake))
theorem slicePick_rev (xs : Array Value) : slicePick xs none none (some (-1)) = xs.toList.reverse.toArray := by
  rw [← pick_rev]
  congr 1
  unfold slicePick sliceBounds
  simp only [Option.getD_some, show ¬ ((-1 : Int) > 0) by omega, if_false]
  have e : sliceRange ((xs.size : Int) - 1) (-1) (-1) = (List.range xs.size).map fun (k : Nat) => (((xs.size : Nat) : Int) - 1 + (k : Int) * (-1)).toNat := by
    unfold sliceRange
    simp only [show ¬ ((-1 : Int) > 0) by omega, if_false, Int.neg_neg, Int.ediv_one]
    have : (if ((xs.size : Int) - 1) > -1 then ((xs.size : Int) - 1 - -1 - -1 - 1) else 0).toNat = xs.size := by split <;> omega
    rw [this]
    apply List.map_congr_left
    intro k _
    congr 1
    omega
  rw [e, List.filterMap_map]
  rfl
end
end PySem.RevS
namespace L2
open PySem PySem.Spec PyProof.Rows
section
variable {X : Cx} {e c : Expr} {te tc : TE} {pos p2 : Pos}
def rRev (K : PySem.W.Frag) : V → Hp → VK → Prop := fun x H Q => ∃ a xs, x = .ref a ∧ ((SqL K H a xs ∧ ∀ p, H p = none → Q (.ref p) (upd H p (.lst xs.reverse))) ∨ (SqT K H a xs ∧ ∀ p, H p = none → Q (.ref p) (upd H p (.tup xs.reverse))))
def tRev (K : PySem.W.Frag) (te tc : TE) : TE := fun σ H Q => te σ H fun x H1 => tc σ H1 fun y H2 => y = .int (-1) ∧ rRev K x H2 Q
theorem pe_rev (he : PE X e te) (hc : PE X c tc) : PE X (.Subscript e (.Slice none none (some c) p2) pos) (tRev X.K te tc) := by
  refine ⟨fun pins s σ H Q I h => ?_⟩
  refine Subscript_ (thn (he.run pins s σ H _ I h) fun v s1 ⟨x, H1, I1, r1, q1⟩ => ?_)
  refine wpAny_Slice ?_
  rw [evalPart_none]
  refine wpAny_pure ?_
  refine wpAny_pure ?_
  rw [evalPart_some]
  refine thn (hc.run pins s1 σ H1 _ I1 q1) fun u s3 ⟨y, H3, I3, r3, q3⟩ => ?_
  obtain ⟨rfl, q3⟩ := q3
  obtain ⟨t, rfl⟩ := r3
  obtain ⟨a, xs, rfl, q⟩ := q3
  cases r1
  have I4 : Inv X pins σ H3 { s3 with heap := s3.heap.push { cls := .type "slice", data := .fields #[.none, .none, .int (-1) t] } } := I3.kept (t' := s3.toks) fun b ob q => Heap.get?_push_of_some _ q
  have hsl : ({ s3 with heap := s3.heap.push { cls := .type "slice", data := .fields #[.none, .none, .int (-1) t] } } : Shared).heap.IsSliceOf s3.heap.objs.size .none .none (.int (-1) t) := Heap.IsSliceOf.new ..
  generalize hs4 : ({ s3 with heap := s3.heap.push { cls := .type "slice", data := .fields #[.none, .none, .int (-1) t] } } : Shared) = s4 at *
  show wpAny (model X.prog X.w) X.A (subscriptTail e (.Slice none none (some c) p2) (.ref a) (.ref s3.heap.objs.size)) (EP X pins σ Q) X.xe s4
  rcases q with ⟨hx, q⟩ | ⟨hx, q⟩
  · obtain ⟨its, r, ht, hz⟩ := I4.list hx
    refine tail_any (ops := [.ref a, .ref s3.heap.objs.size]) ht.isList.typeIs slot_list_getitem.lookup ?_ (by with_unfolding_all rfl)
    refine wpAny_getItem_list_slice ht.isList hsl .none .none (.int (-1) t) (by simp) ?_ (by rw [List.size_toArray, ← r.length]; exact hz)
    rw [PySem.RevS.slicePick_rev]
    refine ⟨.ref s4.heap.objs.size, _, I4.laid (t' := s4.toks) (o := .lst xs.reverse) (fun b ob q => Heap.get?_push_of_some _ q) (Nat.le_refl _) ?_, rfl, q _ (I4.hok.fresh (Nat.le_refl _))⟩
    exact ⟨by simpa using hz, _, 0, r.reverse, Heap.get?_push_size _ rfl⟩
  · obtain ⟨its, r, ht, hz⟩ := I4.tuple hx
    refine tail_any (ops := [.ref a, .ref s3.heap.objs.size]) ht.typeIs PyProof.Rows.slot_tuple_getitem.lookup ?_ (by with_unfolding_all rfl)
    refine PySem.RevS.getItem_tuple_rev ht hsl (.int (-1) t) ?_ (by rw [List.size_toArray, ← r.length]; exact hz)
    refine ⟨.ref s4.heap.objs.size, _, I4.laid (t' := s4.toks) (o := .tup xs.reverse) (fun b ob q => Heap.get?_push_of_some _ q) (Nat.le_refl _) ?_, rfl, q _ (I4.hok.fresh (Nat.le_refl _))⟩
    exact ⟨by simpa using hz, _, r.reverse, IsTup.new _ _⟩
end
end L2
namespace DL
open PySem PySem.Spec PyProof.Rows L2
section
variable {X : Cx} {W : WX} {e a b c : Expr} {es : List Expr} {pos p p2 : Pos} {K : PySem.W.Frag} {ι : List Addr} {F H : Hp} {S : zaf} {mg : Str → Option Value}
/-! ## x[::-1] -/
def rev1 (x : DV) (S : zaf) : Res DV := match rd S x with
  | some (.lst xs) => .ok (.dat (.lst xs.reverse)) S
  | some (.tup xs) => .ok (.dat (.tup xs.reverse)) S
  | _ => .bad
def xRev (f : XFn) : XFn := fun ρ S => (f ρ S).bind rev1
theorem WdA.reverse {F : Hp} : ∀ {ds : List D} {vs : List V}, WdA K F vs ds → WdA K F vs.reverse ds.reverse
  | [], _, h => by cases h; exact .nil
  | d :: ds, _, h => by
    cases h with
    | cons a b => simp only [List.reverse_cons]; exact (WdA.reverse b).append (.cons a .nil)
theorem de_rev {f g : XFn} (hg : ∀ ρ S, g ρ S = .ok (.dat (.int (-1))) S) (h : DE X W a f) (hc : DE X W c g) : DE X W (.Subscript a (.Slice none none (some c) p2) pos) (xRev f) := by
  refine ⟨PE.weak (pe_rev h.pe hc.pe) fun σ H Q ⟨ι, F, ρ, S, r, h0⟩ => ?_⟩
  refine tD.bind (g := fun _ => rev1) r h0 fun v dv ι1 F1 S1 H1 r1 w1 g1 h1 => ?_
  refine ⟨ι1, F1, ρ, S1, r1, ?_⟩
  rw [hg]
  intro ι2 F2 H2 g2 st2 u wu
  have r2 : RR X.K ι2 F2 ρ S1 σ H2 := r1.slots g2 st2
  cases wu
  refine ⟨rfl, ?_⟩
  have h2 := Post.grow (r := rev1 dv S1) h1 g2
  unfold rev1 at h2
  cases ed : rd S1 dv with
  | none => simp only [ed] at h2; exact h2.elim
  | some d =>
    have vw := st2.vw (w1.grow g2) ed
    simp only [ed] at h2
    cases vw with
    | lst s w =>
      have q : Ret X.K ι2 F2 H2 S1 (.lst _) Q := fun z F' H' g st' w => h2 ι2 F' H' g st' z w
      exact ⟨_, _, rfl, .inl ⟨.of s, fun p hp => q.lst st2 w.reverse hp⟩⟩
    | tup s w =>
      have q : Ret X.K ι2 F2 H2 S1 (.tup _) Q := fun z F' H' g st' w => h2 ι2 F' H' g st' z w
      exact ⟨_, _, rfl, .inr ⟨zc7 st2.sub s, fun p hp => q.tup st2 w.reverse hp⟩⟩
    | _ => exact h2.elim
/-! ## a new list where it stands, to be changed later -/
/-! ## a, b, .. = x, y, .. -/
def setAll : List Nat → List DV → zat → Option zat
  | [], [], ρ => some ρ
  | i :: is, v :: vs, ρ => setAll is vs (ρ.set i (some v))
  | _, _, _ => none
structure DN (X : Cx) (tgs : List Expr) (is : List Nat) : Prop where
  pg : ∃ t, PGs X tgs t ∧ ∀ vs σ H Q ι F ρ S ds ρ', RR X.K ι F ρ S σ H → WVs X.K ι F vs ds → setAll is ds ρ = some ρ' → (∀ σ', RR X.K ι F ρ' S σ' H → Q σ' H) → t vs σ H Q
end
/-! ## defs that call themselves -/
section
variable {P : Program} {w : World} {K : PySem.W.Frag} {mg : Str → Option Value} {base : Heap}
end
end DL
set_option maxHeartbeats 4000000
namespace PySem.DLTup0
open PySem PySem.Spec PyProof.Rows
end PySem.DLTup0
namespace L2
open PySem PySem.Spec PyProof.Rows
end L2
namespace DL
open PySem PySem.Spec PyProof.Rows L2
section
variable {X : Cx} {W : WX} {pos : Pos}
/-! ## tuple * n, any n -/
/-! ## except X as e: return isinstance(e, C) -/
end
end DL
set_option maxHeartbeats 4000000
namespace DL
open PySem PySem.Spec PyProof.Rows L2
section
variable {X : Cx} {W : WX} {e a b c : Expr} {es : List Expr} {pos p : Pos} {K : PySem.W.Frag} {ι : List Addr} {F H : Hp} {S : zaf} {mg : Str → Option Value}
/-! ## len(set(x)), x of ints -/
end
end DL
set_option maxHeartbeats 4000000
namespace DL
open PySem PySem.Spec PyProof.Rows L2
section
variable {X : Cx} {W : WX} {e a b c : Expr} {es : List Expr} {pos p : Pos} {K : PySem.W.Frag} {ι : List Addr} {F H : Hp} {S : zaf} {mg : Str → Option Value}
/-! ## min and max of two ints -/
/-! ## list(range(n)) -/
end
end DL
set_option maxHeartbeats 4000000
namespace DL
open PySem PySem.Spec PyProof.Rows L2
section
variable {X : Cx} {W : WX} {e a b c : Expr} {es : List Expr} {pos p : Pos} {K : PySem.W.Frag} {ι : List Addr} {F H : Hp} {S : zaf} {mg : Str → Option Value}
/-! ## max and min of a list or a tuple of ints -/
end
end DL
set_option maxHeartbeats 4000000
namespace DL
open PySem PySem.Spec PyProof.Rows L2
section
variable {X : Cx} {W : WX} {e a b c : Expr} {es : List Expr} {pos p : Pos} {K : PySem.W.Frag} {ι : List Addr} {F H : Hp} {S : zaf} {mg : Str → Option Value}
/-! ## what a frozen case tells: columns, count -/
def casFs (c : Cas) (ca la fa : Addr) : List (Str × V) := [("columns", .ref ca), ("count", .int (c.n : Nat)), ("labels", .ref la), ("facts", .ref fa)]
/-! ## labels and facts -/
theorem zia (n m : Nat) : (zcr n m).length = n * m := by
  unfold zcr
  induction n with
  | zero => simp
  | succ n ih => rw [List.range_succ, List.flatMap_append, List.length_append, ih]; simp [Nat.succ_mul]
theorem cellKeys_get {n m r k : Nat} (hr : r < n) (hk : k < m) : (zcr n m)[r * m + k]? = some [Sum.inl ((r : Nat) : Int), Sum.inl ((k : Nat) : Int)] := by
  induction n with
  | zero => omega
  | succ n ih =>
    have e : zcr (n + 1) m = zcr n m ++ (List.range m).map fun c => [Sum.inl ((n : Nat) : Int), Sum.inl ((c : Nat) : Int)] := by
      unfold zcr
      rw [List.range_succ, List.flatMap_append]
      simp
    rw [e]
    by_cases h : r < n
    · rw [List.getElem?_append_left]
      · exact ih h
      · rw [zia]
        have h1 : (r + 1) * m ≤ n * m := Nat.mul_le_mul_right m h
        rw [Nat.succ_mul] at h1
        omega
    · have : r = n := by omega
      subst this
      rw [List.getElem?_append_right (by rw [zia]; omega), zia]
      simp [show r * m + k - r * m = k by omega, hk]
theorem zkb (n m : Nat) : (zcr n m).Nodup := by
  unfold zcr
  rw [List.nodup_iff_pairwise_ne, List.pairwise_flatMap]
  refine ⟨fun r _ => ?_, List.pairwise_lt_range.imp fun {r r'} h x hx y hy e => ?_⟩
  · rw [List.pairwise_map]
    refine List.pairwise_lt_range.imp fun {a b} h e => ?_
    simp at e
    omega
  · obtain ⟨a, _, rfl⟩ := List.mem_map.mp hx
    obtain ⟨b, _, rfl⟩ := List.mem_map.mp hy
    simp at e
    omega
end
end DL
set_option maxHeartbeats 4000000
namespace DL
open PySem PySem.Spec PyProof.Rows L2
section
variable {X : Cx} {W : WX} {e a b c : Expr} {es : List Expr} {pos p apos : Pos} {K : PySem.W.Frag} {ι : List Addr} {F H : Hp} {S : zaf} {mg : Str → Option Value}
/-! ## methods of a frozen case -/
structure MDef (P : Program) (w : World) (K : PySem.W.Frag) (mg : Str → Option Value) (base : Heap) (k : Nat) (C : Addr) (m : Str) (n : Nat) (g : Fn) : Prop where
  ex : ∃ f fd ps, FnG P w K mg base k f fd ps (spD K mg n g) ∧ Meth K C m f ∧ Binds K fd ps []
end
end DL
set_option maxHeartbeats 4000000
namespace DL
open PySem PySem.Spec PyProof.Rows L2
section
variable {X : Cx} {W : WX} {e a b c : Expr} {es : List Expr} {pos p apos : Pos} {K : PySem.W.Frag} {ι : List Addr} {F H : Hp} {S : zaf} {mg : Str → Option Value}
/-! ## a case as it stands in the heap, live or frozen -/
abbrev labO (c : Cas) : HO := .dT ((zcr c.n c.cols.length).zip (c.lab.map fun l => V.int (l : Nat)))
abbrev facO (c : Cas) (fs : Nat → Addr) : HO := .dK ((List.range c.facts.length).map fun i => (Sum.inl ((i : Nat) : Int), V.ref (fs i)))
structure CasR (K : PySem.W.Frag) (H : Hp) (a : Addr) (c : Cas) (dx ca la fa : Addr) (fs : Nat → Addr) : Prop where
  ins : H a = some (.ins (He.ga K "Case") dx (casFs c ca la fa))
  lb : Rd H la (labO c)
  ft : Rd H fa (facO c fs)
  fl : ∀ i, i < c.facts.length → H (fs i) = some (.lst ((c.facts.getD i []).map V.int))
  l1 : c.lab.length = c.n * c.cols.length
  l2 : c.facts.length = c.n * c.cols.length
  l3 : ∀ l ∈ c.lab, l < c.facts.length
structure CasL (K : PySem.W.Frag) (H : Hp) (a : Addr) (c : Cas) (dx ca la fa : Addr) (fs : Nat → Addr) : Prop where
  ins : H a = some (.ins (He.ga K "Case") dx (casFs c ca la fa))
  own : H dx = some (.own a)
  lb : H la = some (labO c)
  ft : H fa = some (facO c fs)
  fl : ∀ i, i < c.facts.length → H (fs i) = some (.lst ((c.facts.getD i []).map V.int))
  inj : ∀ i j, i < c.facts.length → j < c.facts.length → fs i = fs j → i = j
  l1 : c.lab.length = c.n * c.cols.length
  l2 : c.facts.length = c.n * c.cols.length
  l3 : ∀ l ∈ c.lab, l < c.facts.length
  l4 : c.lab.length < 1000
theorem CasL.r {H : Hp} {a : Addr} {c : Cas} {dx ca la fa : Addr} {fs : Nat → Addr} (h : CasL K H a c dx ca la fa fs) : CasR K H a c dx ca la fa fs := ⟨h.ins, .of h.lb, .of h.ft, h.fl, h.l1, h.l2, h.l3⟩
def Cas.at_ (c : Cas) (r k : Nat) : Nat := c.lab.getD (r * c.cols.length + k) 0
theorem cell_lt {c : Cas} {r k : Nat} (hr : r < c.n) (hk : k < c.cols.length) : r * c.cols.length + k < c.n * c.cols.length := by
  have h1 : (r + 1) * c.cols.length ≤ c.n * c.cols.length := Nat.mul_le_mul_right _ hr
  rw [Nat.succ_mul] at h1
  omega
theorem at_lt {c : Cas} {r k : Nat} (l1 : c.lab.length = c.n * c.cols.length) (l3 : ∀ l ∈ c.lab, l < c.facts.length) (hr : r < c.n) (hk : k < c.cols.length) : c.at_ r k < c.facts.length := by
  have h := cell_lt hr hk
  refine l3 _ ?_
  unfold Cas.at_
  rw [List.getD_eq_getElem?_getD, List.getElem?_eq_getElem (by omega)]
  exact List.getElem_mem _
/-! ## a method by its raw promise -/
structure MRaw (P : Program) (w : World) (K : PySem.W.Frag) (mg : Str → Option Value) (base : Heap) (k : Nat) (C : Addr) (m : Str) (sp : Sp) : Prop where
  ex : ∃ f fd ps, FnG P w K mg base k f fd ps sp ∧ Meth K C m f ∧ Binds K fd ps []
/-! ## known, learn -/
def Cas.learn (c : Cas) (r k : Nat) (v : Int) : Cas := if v ∈ c.facts.getD (c.at_ r k) [] then c else { c with facts := c.facts.set (c.at_ r k) (c.facts.getD (c.at_ r k) [] ++ [v]) }
structure Mutd (H H' : Hp) (la : Addr) (fs : Nat → Addr) (n : Nat) : Prop where
  keep : ∀ b o, H b = some o → b ≠ la → (∀ i, i < n → b ≠ fs i) → H' b = some o
  dom : ∀ b, H' b = none → H b = none
theorem Mutd.refl {la : Addr} {fs : Nat → Addr} {n : Nat} : Mutd H H la fs n := ⟨fun _ _ h _ _ => h, fun _ h => h⟩
theorem Mutd.trans {H1 H2 : Hp} {la : Addr} {fs : Nat → Addr} {n : Nat} (a : Mutd H H1 la fs n) (b : Mutd H1 H2 la fs n) : Mutd H H2 la fs n := ⟨fun c o h n1 n2 => b.keep c o (a.keep c o h n1 n2) n1 n2, fun c h => a.dom c (b.dom c h)⟩
theorem Mutd.push {la : Addr} {fs : Nat → Addr} {n : Nat} {p : Addr} (hp : H p = none) (o : HO) : Mutd H (upd H p o) la fs n := ⟨fun b u e _ _ => by rw [upd_ne (fun z => by rw [z, hp] at e; cases e)]; exact e, fun b h => zc9 h⟩
theorem CasL.ne {H : Hp} {a : Addr} {c : Cas} {dx ca la fa : Addr} {fs : Nat → Addr} (L : CasL K H a c dx ca la fa fs) {i : Nat} (hi : i < c.facts.length) : a ≠ fs i ∧ dx ≠ fs i ∧ la ≠ fs i ∧ fa ≠ fs i := by
  have e := L.fl i hi
  refine ⟨fun h => ?_, fun h => ?_, fun h => ?_, fun h => ?_⟩
  · have := L.ins; rw [h, e] at this; cases this
  · have := L.own; rw [h, e] at this; cases this
  · have := L.lb; rw [h, e] at this; cases this
  · have := L.ft; rw [h, e] at this; cases this
theorem getD_set {α : Type} {xs : List α} {i j : Nat} {x d : α} (hi : i < xs.length) : (xs.set i x).getD j d = if i = j then x else xs.getD j d := by
  rw [List.getD_eq_getElem?_getD, List.getD_eq_getElem?_getD, List.getElem?_set]
  by_cases h : i = j
  · subst h; simp [hi]
  · simp [h]
theorem CasL.add {H : Hp} {a : Addr} {c : Cas} {dx ca la fa : Addr} {fs : Nat → Addr} (L : CasL K H a c dx ca la fa fs) {i : Nat} (hi : i < c.facts.length) (xs : List Int) : CasL K (upd H (fs i) (.lst (xs.map V.int))) a { c with facts := c.facts.set i xs } dx ca la fa fs := by
  obtain ⟨n1, n2, n3, n4⟩ := L.ne hi
  refine ⟨by rw [upd_ne n1]; exact L.ins, by rw [upd_ne n2]; exact L.own, by rw [upd_ne n3]; exact L.lb, by rw [upd_ne n4, L.ft]; show some (HO.dK _) = some (HO.dK _); rw [List.length_set], fun j hj => ?_, fun i j h1 h2 => L.inj i j (by simpa using h1) (by simpa using h2), L.l1, by simpa using L.l2, fun l hl => by simpa using L.l3 l hl, L.l4⟩
  have hj : j < c.facts.length := by simpa using hj
  show upd H (fs i) _ (fs j) = some (.lst (((c.facts.set i xs).getD j []).map V.int))
  rw [getD_set hi]
  by_cases h : i = j
  · subst h
    rw [if_pos rfl, upd_same]
  · rw [if_neg h, upd_ne (fun e => h (L.inj j i hj hi e).symm)]
    exact L.fl j hj
theorem Mutd.add {la : Addr} {fs : Nat → Addr} {n i : Nat} (hi : i < n) (hf : H (fs i) ≠ none) (o : HO) : Mutd H (upd H (fs i) o) la fs n := ⟨fun b u e _ h => by rw [upd_ne (h i hi)]; exact e, fun b h => zc9 h⟩
end
end DL
set_option maxHeartbeats 4000000
namespace DL
open PySem PySem.Spec PyProof.Rows L2
section
variable {X : Cx} {W : WX} {K : PySem.W.Frag} {F H : Hp}
/-! ## join -/
def Cas.relab (c : Cas) (kept lost : Nat) : Cas := { c with lab := c.lab.map fun l => if l = lost then kept else l }
def Cas.join (c : Cas) (r1 k1 r2 k2 : Nat) : Cas := if c.at_ r1 k1 = c.at_ r2 k2 then c else (c.facts.getD (c.at_ r2 k2) []).foldl (fun d v => d.learn r1 k1 v) (c.relab (c.at_ r1 k1) (c.at_ r2 k2))
theorem zhe (c : Cas) (r k : Nat) (v : Int) : (c.learn r k v).lab = c.lab ∧ (c.learn r k v).cols = c.cols ∧ (c.learn r k v).n = c.n ∧ (c.learn r k v).facts.length = c.facts.length := by
  unfold Cas.learn
  split
  · exact ⟨rfl, rfl, rfl, rfl⟩
  · exact ⟨rfl, rfl, rfl, by simp⟩
theorem zi9 (c : Cas) (r k r' k' : Nat) (v : Int) : (c.learn r k v).at_ r' k' = c.at_ r' k' := by
  obtain ⟨h1, h2, _⟩ := zhe c r k v
  unfold Cas.at_
  rw [h1, h2]
theorem zdn (c : Cas) (r k : Nat) (v : Int) (h : c.at_ r k < c.facts.length) (l : Nat) : (c.learn r k v).facts.getD l [] = if l = c.at_ r k ∧ v ∉ c.facts.getD l [] then c.facts.getD l [] ++ [v] else c.facts.getD l [] := by
  unfold Cas.learn
  by_cases hv : v ∈ c.facts.getD (c.at_ r k) []
  · rw [if_pos hv, if_neg]
    rintro ⟨e, h2⟩
    subst e
    exact h2 hv
  · rw [if_neg hv]
    show (c.facts.set _ _).getD l [] = _
    rw [getD_set h]
    by_cases e : c.at_ r k = l
    · subst e
      rw [if_pos rfl, if_pos ⟨rfl, hv⟩]
    · rw [if_neg e, if_neg]
      rintro ⟨e2, _⟩
      exact e e2.symm
theorem mapK_no {κ : Type} [DecidableEq κ] {k : κ} {v : V} : ∀ {l : List (κ × V)}, (∀ p ∈ l, p.1 ≠ k) → l.map (fun kv => if kv.1 = k then (kv.1, v) else kv) = l
  | [], _ => rfl
  | p :: l, h => by
    rw [List.map_cons, if_neg (h p (by simp)), mapK_no fun q hq => h q (by simp [hq])]
theorem mapK_zip {κ : Type} [DecidableEq κ] {v : Nat} : ∀ {ks : List κ} {vs : List Nat} {i : Nat} {k : κ}, ks.Nodup → ks[i]? = some k → i < vs.length →
    ((ks.zip (vs.map fun l => V.int ((l : Nat) : Int))).any fun kv => decide (kv.1 = k)) = true ∧ (ks.zip (vs.map fun l => V.int ((l : Nat) : Int))).map (fun kv => if kv.1 = k then (kv.1, V.int ((v : Nat) : Int)) else kv) = ks.zip ((vs.set i v).map fun l => V.int ((l : Nat) : Int))
  | [], _, _, _, _, h, _ => by simp at h
  | _ :: _, [], _, _, _, _, h => by simp at h
  | k0 :: ks, v0 :: vs, 0, k, nd, h1, _ => by
    simp at h1
    subst h1
    rw [List.nodup_cons] at nd
    refine ⟨by simp, ?_⟩
    rw [List.map_cons, List.zip_cons_cons, List.map_cons, if_pos rfl, mapK_no, List.set_cons_zero, List.map_cons, List.zip_cons_cons]
    intro p hp e
    exact nd.1 (e ▸ (List.of_mem_zip hp).1)
  | k0 :: ks, v0 :: vs, i + 1, k, nd, h1, h2 => by
    rw [List.nodup_cons] at nd
    simp only [List.getElem?_cons_succ] at h1
    have ne : ¬ k0 = k := fun e => nd.1 (e ▸ List.mem_of_getElem? h1)
    have ih := mapK_zip (v := v) (ks := ks) (vs := vs) (i := i) (k := k) nd.2 h1 (by simpa using h2)
    refine ⟨?_, ?_⟩
    · rw [List.map_cons, List.zip_cons_cons, List.any_cons, ih.1, Bool.or_true]
    · rw [List.map_cons, List.zip_cons_cons, List.map_cons, if_neg ne, ih.2, List.set_cons_succ, List.map_cons, List.zip_cons_cons]
theorem putK_zip {κ : Type} [DecidableEq κ] {v : Nat} {ks : List κ} {vs : List Nat} {i : Nat} {k : κ} (nd : ks.Nodup) (h1 : ks[i]? = some k) (h2 : i < vs.length) : putK (ks.zip (vs.map fun l => V.int ((l : Nat) : Int))) k (.int ((v : Nat) : Int)) = ks.zip ((vs.set i v).map fun l => V.int ((l : Nat) : Int)) := by
  have h := mapK_zip (v := v) nd h1 h2
  unfold putK
  rw [if_pos h.1, h.2]
theorem CasL.put {a : Addr} {c : Cas} {dx ca la fa : Addr} {fs : Nat → Addr} (L : CasL K H a c dx ca la fa fs) {i v : Nat} {k : List Key} (hk : (zcr c.n c.cols.length)[i]? = some k) (hi : i < c.lab.length) (hv : v < c.facts.length) :
    CasL K (upd H la (.dT (putK ((zcr c.n c.cols.length).zip (c.lab.map fun l => V.int (l : Nat))) k (.int ((v : Nat) : Int))))) a { c with lab := c.lab.set i v } dx ca la fa fs := by
  have na : a ≠ la := fun h => by have := L.ins; rw [h, L.lb] at this; cases this
  have nd : dx ≠ la := fun h => by have := L.own; rw [h, L.lb] at this; cases this
  have nf : fa ≠ la := fun h => by have := L.ft; rw [h, L.lb] at this; cases this
  refine ⟨by rw [upd_ne na]; exact L.ins, by rw [upd_ne nd]; exact L.own, ?_, by rw [upd_ne nf]; exact L.ft, fun j hj => ?_, L.inj, by simpa using L.l1, L.l2, fun l hl => ?_, by simpa using L.l4⟩
  · rw [upd_same, putK_zip (zkb _ _) hk hi]
  · rw [upd_ne (L.ne hj).2.2.1.symm]
    exact L.fl j hj
  · rcases List.mem_or_eq_of_mem_set hl with h | h
    · exact L.l3 l h
    · exact h ▸ hv
theorem CasL.push {a : Addr} {c : Cas} {dx ca la fa : Addr} {fs : Nat → Addr} (L : CasL K H a c dx ca la fa fs) {p : Addr} (hp : H p = none) (o : HO) : CasL K (upd H p o) a c dx ca la fa fs := by
  have n : ∀ b u, H b = some u → upd H p o b = some u := fun b u e => by rw [upd_ne (fun z => by rw [z, hp] at e; cases e)]; exact e
  exact ⟨n _ _ L.ins, n _ _ L.own, n _ _ L.lb, n _ _ L.ft, fun i hi => n _ _ (L.fl i hi), L.inj, L.l1, L.l2, L.l3, L.l4⟩
theorem zpn {r k : Nat} : ∀ (ys : List Int) (d : Cas), d.at_ r k < d.facts.length → 
    let e := ys.foldl (fun d v => d.learn r k v) d
    e.lab = d.lab ∧ e.cols = d.cols ∧ e.n = d.n ∧ e.facts.length = d.facts.length ∧ e.at_ r k = d.at_ r k ∧ (∀ l, l ≠ d.at_ r k → e.facts.getD l [] = d.facts.getD l []) ∧ (e.facts.getD (d.at_ r k) []).length ≤ (d.facts.getD (d.at_ r k) []).length + ys.length
  | [], d, _ => ⟨rfl, rfl, rfl, rfl, rfl, fun _ _ => rfl, Nat.le_refl _⟩
  | v :: ys, d, h => by
    obtain ⟨a1, a2, a3, a4⟩ := zhe d r k v
    have a5 := zi9 d r k r k v
    have lf := zdn d r k v h
    obtain ⟨b1, b2, b3, b4, b5, b6, b7⟩ := zpn ys (d.learn r k v) (by rw [a5, a4]; exact h)
    refine ⟨b1.trans a1, b2.trans a2, b3.trans a3, b4.trans a4, b5.trans a5, fun l hl => ?_, ?_⟩
    · rw [List.foldl_cons, b6 l (by rw [a5]; exact hl), lf l, if_neg (fun h => hl h.1)]
    · rw [a5] at b7
      have := lf (d.at_ r k)
      have h2 : ((d.learn r k v).facts.getD (d.at_ r k) []).length ≤ (d.facts.getD (d.at_ r k) []).length + 1 := by
        rw [this]
        split <;> simp
      rw [List.foldl_cons, List.length_cons]
      omega
theorem zqp {c : Cas} {kept lost r k : Nat} (l1 : c.lab.length = c.n * c.cols.length) (hr : r < c.n) (hk : k < c.cols.length) : (c.relab kept lost).at_ r k = if c.at_ r k = lost then kept else c.at_ r k := by
  have h := cell_lt hr hk
  unfold Cas.at_ Cas.relab
  simp only [List.getD_eq_getElem?_getD, List.getElem?_map, List.getElem?_eq_getElem (show r * c.cols.length + k < c.lab.length by omega), Option.map_some, Option.getD_some]
end
end DL
set_option maxHeartbeats 4000000
namespace DL
open PySem PySem.Spec PyProof.Rows L2
section
variable {X : Cx} {W : WX} {K : PySem.W.Frag} {F H : Hp}
/-! ## a new case -/
def Cas.new (cols : List (Option (List Int))) (n : Nat) : Cas := { cols := cols, n := n, lab := List.range (n * cols.length), facts := List.replicate (n * cols.length) [] }
structure Part (K : PySem.W.Frag) (H0 H : Hp) (x : Addr) (n m t : Nat) (dx ca la fa : Addr) (fs : Nat → Addr) : Prop where
  ins : H x = some (.ins (He.ga K "Case") dx [("columns", .ref ca), ("count", .int (n : Nat)), ("labels", .ref la), ("facts", .ref fa)])
  own : H dx = some (.own x)
  lb : H la = some (.dT (((zcr n m).take t).zip ((List.range t).map fun l => V.int (l : Nat))))
  ft : H fa = some (.dK ((List.range t).map fun i => (Sum.inl ((i : Nat) : Int), V.ref (fs i))))
  fl : ∀ i, i < t → H (fs i) = some (.lst [])
  inj : ∀ i j, i < t → j < t → fs i = fs j → i = j
  f1 : H0 la = none
  f2 : H0 fa = none
  f3 : ∀ i, i < t → H0 (fs i) = none
  keep : ∀ b o, H0 b = some o → b ≠ x → H b = some o
  dom : ∀ b, H b = none → H0 b = none
theorem Part.done {H0 : Hp} {x : Addr} {n : Nat} {cols : List (Option (List Int))} {dx ca la fa : Addr} {fs : Nat → Addr} (hz : n * cols.length < 1000) (P : Part K H0 H x n cols.length (n * cols.length) dx ca la fa fs) : CasL K H x (Cas.new cols n) dx ca la fa fs := by
  have e : (Cas.new cols n).facts.length = n * cols.length := by simp [Cas.new]
  refine ⟨P.ins, P.own, ?_, ?_, fun i hi => ?_, fun i j hi hj h => P.inj i j (by omega) (by omega) h, by simp [Cas.new], by simp [Cas.new], fun l hl => ?_, by simp [Cas.new]; exact hz⟩
  · have := P.lb
    rw [List.take_of_length_le (by rw [zia]; exact Nat.le_refl _)] at this
    exact this
  · show H fa = some (.dK ((List.range (Cas.new cols n).facts.length).map _))
    rw [e]
    exact P.ft
  · have := P.fl i (by omega)
    have g : (Cas.new cols n).facts.getD i [] = [] := by
      simp [Cas.new, List.getD_eq_getElem?_getD, List.getElem?_replicate]
      split <;> rfl
    rw [g]
    exact this
  · rw [e]
    simpa [Cas.new] using hl
theorem valV_none {κ : Type} [DecidableEq κ] {kvs : List (κ × V)} {k : κ} (h : ∀ p ∈ kvs, p.1 ≠ k) : valV kvs k = none := by
  induction kvs with
  | nil => rfl
  | cons p r ih => rw [valV_neg (h p (by simp)), ih fun q hq => h q (by simp [hq])]
theorem Part.cell {H0 : Hp} {x : Addr} {n m t r k : Nat} {dx ca la fa : Addr} {fs : Nat → Addr} (P : Part K H0 H x n m t dx ca la fa fs) (ht : t = r * m + k) (hr : r < n) (hk : k < m) {p q : Addr} (hp : H p = none)
    (hq : upd (upd H p (.tup [.int (r : Nat), .int (k : Nat)])) la (.dT (putK (((zcr n m).take t).zip ((List.range t).map fun l => V.int (l : Nat))) [Sum.inl ((r : Nat) : Int), Sum.inl ((k : Nat) : Int)] (.int (t : Nat)))) q = none) :
    Part K H0 (upd (upd (upd (upd H p (.tup [.int (r : Nat), .int (k : Nat)])) la (.dT (putK (((zcr n m).take t).zip ((List.range t).map fun l => V.int (l : Nat))) [Sum.inl ((r : Nat) : Int), Sum.inl ((k : Nat) : Int)] (.int (t : Nat))))) q (.lst [])) fa (.dK (putK ((List.range t).map fun i => (Sum.inl ((i : Nat) : Int), V.ref (fs i))) (Sum.inl ((t : Nat) : Int)) (.ref q)))) x n m (t + 1) dx ca la fa (fun i => if i = t then q else fs i) := by
  have hq1 : q ≠ la := fun e => by rw [e, upd_same] at hq; cases hq
  have hqH : H q = none := zc9 (zc9 hq)
  have hc : (zcr n m)[t]? = some [Sum.inl ((r : Nat) : Int), Sum.inl ((k : Nat) : Int)] := by rw [ht]; exact cellKeys_get hr hk
  have htl : t < (zcr n m).length := (List.getElem?_eq_some_iff.mp hc).1
  have ne : ∀ {b : Addr} {o : HO}, H b = some o → b ≠ la → b ≠ fa → (upd (upd (upd (upd H p (.tup [.int (r : Nat), .int (k : Nat)])) la (.dT (putK (((zcr n m).take t).zip ((List.range t).map fun l => V.int (l : Nat))) [Sum.inl ((r : Nat) : Int), Sum.inl ((k : Nat) : Int)] (.int (t : Nat))))) q (.lst [])) fa (.dK (putK ((List.range t).map fun i => (Sum.inl ((i : Nat) : Int), V.ref (fs i))) (Sum.inl ((t : Nat) : Int)) (.ref q)))) b = some o := fun {b o} e h1 h2 => by
    rw [upd_ne h2, upd_ne (fun z => by rw [z, hqH] at e; cases e), upd_ne h1, upd_ne (fun z => by rw [z, hp] at e; cases e)]
    exact e
  have lf : la ≠ fa := fun e => by have := P.lb; rw [e, P.ft] at this; cases this
  have xl : x ≠ la := fun e => by have := P.ins; rw [e, P.lb] at this; cases this
  have xf : x ≠ fa := fun e => by have := P.ins; rw [e, P.ft] at this; cases this
  refine ⟨ne P.ins xl xf, ne P.own (fun e => by have := P.own; rw [e, P.lb] at this; cases this) (fun e => by have := P.own; rw [e, P.ft] at this; cases this), ?_, ?_, fun i hi => ?_, fun i j hi hj h => ?_, P.f1, P.f2, fun i hi => ?_, fun b o e h => ?_, fun b h => P.dom b (zc9 (zc9 (zc9 (zc9 h))))⟩
  · rw [upd_ne lf, upd_ne (Ne.symm hq1), upd_same]
    congr 2
    rw [putK_new _ (valV_none fun pp hpp e => by
      have h1 := (List.of_mem_zip hpp).1
      rw [e] at h1
      obtain ⟨j, hj, hj2⟩ := List.mem_take_iff_getElem.mp h1
      have nd := zkb n m
      have : j = t := (List.getElem_inj nd).mp (hj2.trans (by rw [List.getElem?_eq_getElem htl] at hc; exact (Option.some.inj hc).symm))
      omega)]
    have e1 : (zcr n m).take (t + 1) = (zcr n m).take t ++ [[Sum.inl ((r : Nat) : Int), Sum.inl ((k : Nat) : Int)]] := by rw [List.take_succ, hc]; rfl
    rw [e1, List.range_succ, List.map_append, List.zip_append (by simp; omega)]
    rfl
  · rw [upd_same]
    congr 2
    rw [putK_new _ (valV_none fun pp hpp e => by
      obtain ⟨j, hj, rfl⟩ := List.mem_map.mp hpp
      have := List.mem_range.mp hj
      simp at e
      omega)]
    rw [List.range_succ, List.map_append]
    congr 1
    · refine List.map_congr_left fun i hi => ?_
      have := List.mem_range.mp hi
      rw [if_neg (by omega)]
    · simp
  · by_cases e : i = t
    · subst e
      show upd _ fa _ (if i = i then q else fs i) = _
      rw [if_pos rfl, upd_ne (fun z => by rw [z, P.ft] at hqH; cases hqH), upd_same]
    · simp only [if_neg e]
      have := P.fl i (by omega)
      exact ne this (fun z => by rw [z, P.lb] at this; cases this) (fun z => by rw [z, P.ft] at this; cases this)
  · by_cases e1 : i = t
    · by_cases e2 : j = t
      · omega
      · simp only [if_pos e1, if_neg e2] at h
        have := P.fl j (by omega)
        rw [← h, hqH] at this
        cases this
    · by_cases e2 : j = t
      · simp only [if_neg e1, if_pos e2] at h
        have := P.fl i (by omega)
        rw [h, hqH] at this
        cases this
      · simp only [if_neg e1, if_neg e2] at h
        exact P.inj i j (by omega) (by omega) h
  · by_cases e : i = t
    · simp only [if_pos e]; exact P.dom q hqH
    · simp only [if_neg e]; exact P.f3 i (by omega)
  · exact ne (P.keep b o e h) (fun z => by rw [z, P.f1] at e; cases e) (fun z => by rw [z, P.f2] at e; cases e)
end
end DL
set_option maxHeartbeats 4000000
namespace DL
open PySem PySem.Spec PyProof.Rows L2
section
variable {X : Cx} {W : WX} {K : PySem.W.Frag} {F H : Hp}
/-! ## dict(d), d a dict whose keys are tuples -/
end
end DL
set_option maxHeartbeats 4000000
namespace DL
open PySem PySem.Spec PyProof.Rows L2
section
variable {X : Cx} {W : WX} {K : PySem.W.Frag} {F H : Hp} {e : Expr} {es : List Expr} {pos p : Pos}
/-! ## C(..), by a raw promise -/
structure KRaw (P : Program) (w : World) (K : PySem.W.Frag) (mg : Str → Option Value) (base : Heap) (k : Nat) (x : Str) (C : Addr) (sp : Sp) : Prop where
  ex : ∃ f fd ps, FnG P w K mg base k f fd ps sp ∧ Mk K C f ∧ Binds K fd ps [] ∧ mg x = some (.ref C)
/-! ## copied -/
structure CasZ (K : PySem.W.Frag) (H : Hp) (a : Addr) (c : Cas) (dx ca la fa : Addr) (fs : Nat → Addr) : Prop where
  ins : H a = some (.ins (He.ga K "Case") dx (casFs c ca la fa))
  lb : ∃ lo, H la = some (.frz lo (labO c))
  ft : ∃ fo, H fa = some (.frz fo (facO c fs))
  fl : ∀ i, i < c.facts.length → H (fs i) = some (.lst ((c.facts.getD i []).map V.int))
  l1 : c.lab.length = c.n * c.cols.length
  l2 : c.facts.length = c.n * c.cols.length
  l3 : ∀ l ∈ c.lab, l < c.facts.length
structure Fts (H1 H : Hp) (D : Addr) (c : Cas) (t : Nat) (fs : Nat → Addr) : Prop where
  d : H D = some (.dK ((List.range t).map fun i => (Sum.inl ((i : Nat) : Int), V.ref (fs i))))
  fl : ∀ i, i < t → H (fs i) = some (.lst ((c.facts.getD i []).map V.int))
  inj : ∀ i j, i < t → j < t → fs i = fs j → i = j
  fr : ∀ i, i < t → H1 (fs i) = none
  keep : ∀ b o, H1 b = some o → H b = some o
  dom : ∀ b, H b = none → H1 b = none
end
end DL
set_option maxHeartbeats 4000000
namespace DL
open PySem PySem.Spec PyProof.Rows L2
section
variable {X : Cx} {W : WX} {K : PySem.W.Frag} {mg : Str → Option Value} {ι : List Addr} {F H : Hp} {S : zaf} {e a b c : Expr} {es : List Expr} {pos p : Pos}
/-! ## a live case in a slot -/
def Own (a dx la fa : Addr) (fs : Nat → Addr) (n : Nat) (b : Addr) : Prop := b = a ∨ b = dx ∨ b = la ∨ b = fa ∨ ∃ i, i < n ∧ b = fs i
structure LiveC (K : PySem.W.Frag) (ι : List Addr) (F H : Hp) (a : Addr) (c : Cas) (O : Addr → Prop) : Prop where
  kit : CasK K
  of : ∃ dx ca la fa fs cv, CasL K H a c dx ca la fa fs ∧ SqT K F ca cv ∧ ColVs K F cv c.cols ∧ ∀ b, O b ↔ Own a dx la fa fs c.facts.length b
  out : ∀ b, O b → b ∉ ι
  free : ∀ b, O b → F b = none
theorem CasL.own_some {H : Hp} {a : Addr} {c : Cas} {dx ca la fa : Addr} {fs : Nat → Addr} (L : CasL K H a c dx ca la fa fs) {b : Addr} (h : Own a dx la fa fs c.facts.length b) : ∃ o, H b = some o ∧ NoT o ∧ NoTb o ∧ ∀ φ, o ≠ .ext φ := by
  rcases h with rfl | rfl | rfl | rfl | ⟨i, hi, rfl⟩
  · exact ⟨_, L.ins, fun _ z => (nomatch z), fun _ z => (nomatch z), fun _ z => nomatch z⟩
  · exact ⟨_, L.own, fun _ z => (nomatch z), fun _ z => (nomatch z), fun _ z => nomatch z⟩
  · exact ⟨_, L.lb, fun _ z => (nomatch z), fun _ z => (nomatch z), fun _ z => nomatch z⟩
  · exact ⟨_, L.ft, fun _ z => (nomatch z), fun _ z => (nomatch z), fun _ z => nomatch z⟩
  · exact ⟨_, L.fl i hi, fun _ z => (nomatch z), fun _ z => (nomatch z), fun _ z => nomatch z⟩
theorem CasL.keep {H H' : Hp} {a : Addr} {c : Cas} {dx ca la fa : Addr} {fs : Nat → Addr} (L : CasL K H a c dx ca la fa fs) (k : ∀ b o, Own a dx la fa fs c.facts.length b → H b = some o → H' b = some o) : CasL K H' a c dx ca la fa fs :=
  ⟨k _ _ (.inl rfl) L.ins, k _ _ (.inr (.inl rfl)) L.own, k _ _ (.inr (.inr (.inl rfl))) L.lb, k _ _ (.inr (.inr (.inr (.inl rfl)))) L.ft, fun i hi => k _ _ (.inr (.inr (.inr (.inr ⟨i, hi, rfl⟩)))) (L.fl i hi), L.inj, L.l1, L.l2, L.l3, L.l4⟩
structure GrowL (O : Addr → Prop) (ι : List Addr) (F H : Hp) (ι' : List Addr) (F' H' : Hp) : Prop where
  pre : ι <+: ι'
  sf : Same F F'
  keep : ∀ b o, H b = some o → NoTb o → b ∉ ι → ¬ O b → H' b = some o
  new : ∀ b o, H b = some o → NoT o → NoTb o → F b = none → b ∉ ι → ¬ O b → F' b = none
  nio : ∀ b ∈ ι', b ∈ ι ∨ H b = none
  dom : ∀ b, H' b = none → H b = none
theorem GrowL.of {O : Addr → Prop} {ι' : List Addr} {F' H' : Hp} (g : Grow ι F H ι' F' H') : GrowL O ι F H ι' F' H' := ⟨g.pre, g.sf, fun b o h t n _ => g.keep b o h t n, fun b o h t t2 f n _ => g.new b o h t t2 f n, g.nio, g.dom⟩
theorem GrowL.refl {O : Addr → Prop} : GrowL O ι F H ι F H := .of .refl
theorem GrowL.trans {O : Addr → Prop} {ι1 ι2 : List Addr} {F1 F2 H1 H2 : Hp} (a : GrowL O ι F H ι1 F1 H1) (b : GrowL O ι1 F1 H1 ι2 F2 H2) : GrowL O ι F H ι2 F2 H2 := by
  have full : ∀ c o, H c = some o → H1 c ≠ none := fun c o h z => by rw [a.dom c z] at h; cases h
  have out : ∀ c o, H c = some o → c ∉ ι → c ∉ ι1 := fun c o h n m => by
    rcases a.nio c m with q | q
    · exact n q
    · rw [h] at q; cases q
  refine ⟨a.pre.trans b.pre, a.sf.trans b.sf, fun c o h t n no => b.keep c o (a.keep c o h t n no) t (out c o h n) no, fun c o h t t2 f n no => b.new c o (a.keep c o h t2 n no) t t2 (a.new c o h t t2 f n no) (out c o h n) no, fun c m => ?_, fun c h => a.dom c (b.dom c h)⟩
  rcases b.nio c m with q | q
  · exact a.nio c q
  · exact .inr (a.dom c q)
theorem Grow.live {O : Addr → Prop} {ι1 ι2 : List Addr} {F1 F2 H1 H2 : Hp} (a : Grow ι F H ι1 F1 H1) (fr : ∀ b, O b → H b = none) (b : GrowL O ι1 F1 H1 ι2 F2 H2) : Grow ι F H ι2 F2 H2 := by
  have out : ∀ c o, H c = some o → c ∉ ι → c ∉ ι1 := fun c o h n m => by
    rcases a.nio c m with q | q
    · exact n q
    · rw [h] at q; cases q
  have no : ∀ c o, H c = some o → ¬ O c := fun c o h z => by rw [fr c z] at h; cases h
  refine ⟨a.pre.trans b.pre, a.sf.trans b.sf, fun c o h t n => b.keep c o (a.keep c o h t n) t (out c o h n) (no c o h), fun c o h t t2 f n => b.new c o (a.keep c o h t2 n) t t2 (a.new c o h t t2 f n) (out c o h n) (no c o h), fun c m => ?_, fun c h => a.dom c (b.dom c h)⟩
  rcases b.nio c m with q | q
  · exact a.nio c q
  · exact .inr (a.dom c q)
theorem LiveC.grow {a : Addr} {c : Cas} {O : Addr → Prop} {ι' : List Addr} {F' H' : Hp} (L : LiveC K ι F H a c O) (g : Grow ι F H ι' F' H') : LiveC K ι' F' H' a c O := by
  obtain ⟨dx, ca, la, fa, fs, cv, L1, sq, cw, ho⟩ := L.of
  have sm : ∀ b, O b → ∃ o, H b = some o ∧ NoT o ∧ NoTb o ∧ ∀ φ, o ≠ .ext φ := fun b h => L1.own_some ((ho b).mp h)
  refine ⟨L.kit, ⟨dx, ca, la, fa, fs, cv, L1.keep fun b o h e => g.keep b o e (by
    obtain ⟨o2, e2, _, t2, _⟩ := L1.own_some h
    rw [e] at e2; cases e2; exact t2) (L.out b ((ho b).mpr h)), zc7 g.sf sq, cw.mono g.sf, ho⟩, fun b h hm => ?_, fun b h => ?_⟩
  · obtain ⟨o, e, _⟩ := sm b h
    rcases g.nio b hm with q | q
    · exact L.out b h q
    · rw [e] at q; cases q
  · obtain ⟨o, e, t, t2, _⟩ := sm b h
    exact g.new b o e t t2 (L.free b h) (L.out b h)
inductive RL where
  | nx (ρ : zat) (S : zaf) (c : Cas) | fin (r : RS)
abbrev CFn := zat → zaf → Cas → RL
def PostF (K : PySem.W.Frag) (mg : Str → Option Value) (W : WX) (O : Addr → Prop) (ι : List Addr) (F H : Hp) (r : RS) (D : Ends) : Prop := match r with
  | .rt dv S' => ∀ v ι' F' H', GrowL O ι F H ι' F' H' → StR K ι' F' S' H' → WV K ι' F' v dv → D.rt v H'
  | .ex c ρ' S' => ∀ (C : Addr × Option Addr) σ' ι' F' H', GrowL O ι F H ι' F' H' → RR K ι' F' ρ' S' σ' H' → XIs K mg F' c C → W (.ref C.1) C.2 σ' H'
  | _ => False
def PostL (K : PySem.W.Frag) (mg : Str → Option Value) (W : WX) (k : Nat) (a : Addr) (O : Addr → Prop) (ι : List Addr) (F H : Hp) (r : RL) (D : Ends) : Prop := match r with
  | .nx ρ' S' c' => ∀ σ' ι' F' H', GrowL O ι F H ι' F' H' → RR K ι' F' ρ' S' σ' H' → σ'[k]? = some (some (.ref a)) → LiveC K ι' F' H' a c' O → D.nx σ' H'
  | .fin r => PostF K mg W O ι F H r D
theorem PostF.grow {O : Addr → Prop} {r : RS} {D : Ends} {ι1 : List Addr} {F1 H1 : Hp} (h : PostF K mg W O ι F H r D) (g : GrowL O ι F H ι1 F1 H1) : PostF K mg W O ι1 F1 H1 r D := by
  cases r with
  | rt dv S' => exact fun v ι' F' H' g' st w => h v ι' F' H' (g.trans g') st w
  | ex c ρ' S' => exact fun C σ' ι' F' H' g' r m => h C σ' ι' F' H' (g.trans g') r m
  | _ => exact h
theorem PostL.grow {k : Nat} {a : Addr} {O : Addr → Prop} {r : RL} {D : Ends} {ι1 : List Addr} {F1 H1 : Hp} (h : PostL K mg W k a O ι F H r D) (g : GrowL O ι F H ι1 F1 H1) : PostL K mg W k a O ι1 F1 H1 r D := by
  cases r with
  | nx ρ' S' c' => exact fun σ' ι' F' H' g' r s l => h σ' ι' F' H' (g.trans g') r s l
  | fin r => exact PostF.grow (r := r) h g
def tL (X : Cx) (W : WX) (k : Nat) (f : CFn) : TS := fun D σ H => ∃ ι F ρ S a c O, RR X.K ι F ρ S σ H ∧ σ[k]? = some (some (.ref a)) ∧ LiveC X.K ι F H a c O ∧ PostL X.K X.mg W k a O ι F H (f ρ S c) D
structure DC (X : Cx) (W : WX) (k : Nat) (st : Stmt) (f : CFn) : Prop where
  ps : ∃ t, PS X st t ∧ ∀ D σ H, tL X W k f D σ H → t D σ H
structure DCs (X : Cx) (W : WX) (k : Nat) (st : List Stmt) (f : CFn) : Prop where
  ps : ∃ t, PSs X st t ∧ ∀ D σ H, tL X W k f D σ H → t D σ H
def lSeq (f g : CFn) : CFn := fun ρ S c => match f ρ S c with
  | .nx ρ' S' c' => g ρ' S' c'
  | r => r
variable {k : Nat}
theorem tL.seq {f g : CFn} {D : Ends} {σ : L2.St} {H : Hp} (h : tL X W k (lSeq f g) D σ H) : tL X W k f { D with nx := tL X W k g D } σ H := by
  obtain ⟨ι, F, ρ, S, a, c, O, r, s, l, h⟩ := h
  refine ⟨ι, F, ρ, S, a, c, O, r, s, l, ?_⟩
  unfold lSeq at h
  cases q : f ρ S c with
  | nx ρ' S' c' => rw [q] at h; exact fun σ' ι' F' H' g' r' s' l' => ⟨ι', F', ρ', S', a, c', O, r', s', l', PostL.grow (r := g ρ' S' c') h g'⟩
  | fin rr =>
    rw [q] at h
    have h : PostF X.K X.mg W O ι F H rr D := h
    show PostF X.K X.mg W O ι F H rr _
    cases rr with
    | rt dv S' => exact h
    | ex c ρ' S' => exact h
    | _ => exact h
/-! ## an expression, then more -/
theorem tD.bindL {f : XFn} {g : zat → DV → zaf → Cas → RL} {σ : L2.St} {H : Hp} {R : VK} {D : Ends} {ι : List Addr} {F : Hp} {ρ : zat} {S : zaf} {a : Addr} {c : Cas} {O : Addr → Prop} (r : RR X.K ι F ρ S σ H) (s : σ[k]? = some (some (.ref a))) (l : LiveC X.K ι F H a c O)
    (h : PostL X.K X.mg W k a O ι F H (match f ρ S with | .ok v S1 => g ρ v S1 c | .ex x S1 => .fin (.ex x ρ S1) | .bad => .fin .bad) D)
    (kk : ∀ v dv ι1 F1 S1 H1, RR X.K ι1 F1 ρ S1 σ H1 → WV X.K ι1 F1 v dv → Grow ι F H ι1 F1 H1 → LiveC X.K ι1 F1 H1 a c O → PostL X.K X.mg W k a O ι1 F1 H1 (g ρ dv S1 c) D → R v H1) : tD X W f σ H R := by
  refine ⟨ι, F, ρ, S, r, ?_⟩
  cases q : f ρ S with
  | ok dv S1 =>
    rw [q] at h
    exact fun ι1 F1 H1 g1 st v wv => kk v dv ι1 F1 S1 H1 (r.slots g1 st) wv g1 (l.grow g1) (PostL.grow (r := g ρ dv S1 c) h (.of g1))
  | ex x S1 => rw [q] at h; exact fun C ι' F' H' g' st m => h C σ ι' F' H' (.of g') (r.slots g' st) m
  | bad => rw [q] at h; exact h
/-! ## for -/
theorem zpy {σ : L2.St} {k : Nat} : ∀ {vs : List Nat}, k ∉ vs → (wipe σ vs)[k]? = σ[k]?
  | [], _ => rfl
  | v :: vs, h => by
    show ((wipe σ vs).set v none)[k]? = _
    rw [List.getElem?_set_ne (fun e => h (by simp [e])), zpy fun m => h (by simp [m])]
theorem Only.get {sl : List Nat} {σ σ' : L2.St} (o : Only sl σ σ') {k : Nat} (h : k ∉ sl) : σ'[k]? = σ[k]? := by
  have := o sl fun i hi => hi
  rw [← zpy (σ := σ') h, ← zpy (σ := σ) h, this]
abbrev ICn := zat → zaf → Cas → Res (List D)
def tIL (X : Cx) (W : WX) (k : Nat) (f : ICn) : TI := fun σ H R => ∃ ι F ρ S a c O, RR X.K ι F ρ S σ H ∧ σ[k]? = some (some (.ref a)) ∧ LiveC X.K ι F H a c O ∧ Post X.K X.mg (fun c d H' => W c d σ H') ι F H (f ρ S c) fun ds ι' F' H' => ∀ J, ItOk X.K F' ds J → R J H'
structure DIL (X : Cx) (W : WX) (k : Nat) (tg e : Expr) (f : ICn) : Prop where
  pi : ∃ t, PI X tg e t ∧ ∀ σ H R, tIL X W k f σ H R → t σ H R
end
end DL
set_option maxHeartbeats 4000000
namespace DL
open PySem PySem.Spec PyProof.Rows L2
section
variable {X : Cx} {W : WX} {K : PySem.W.Frag} {mg : Str → Option Value} {ι : List Addr} {F H : Hp} {S : zaf} {e a b c : Expr} {es : List Expr} {pos p apos : Pos} {k : Nat}
/-! ## learn and join of the live case -/
/-! ## the live case frozen -/
theorem WV.same {F F' : Hp} (sm : Same F F') {v : V} {dv : DV} (h : WV K ι F v dv) : WV K ι F' v dv := by
  cases dv with
  | dat d => exact Wd.mono sm h
  | obj k => exact h
  | scr ns =>
    obtain ⟨a, h1, h2⟩ := h
    exact ⟨a, h1, sm.seq h2⟩
  | exn c p =>
    obtain ⟨a, h1, h2⟩ := h
    exact ⟨a, h1, h2.mono sm⟩
  | fn x => exact h
end
end DL
set_option maxHeartbeats 4000000
namespace DL
open PySem PySem.Spec PyProof.Rows L2
section
variable {X : Cx} {W : WX} {K : PySem.W.Frag} {mg : Str → Option Value} {ι : List Addr} {F H : Hp} {S : zaf} {e a b c : Expr} {es : List Expr} {pos p apos : Pos} {k : Nat}
/-! ## a new live case -/
abbrev NFn := zat → zaf → Res Cas
structure Ext (H H' : Hp) : Prop where
  same : Same H H'
  dom : ∀ b, H' b = none → H b = none
def tNewC (X : Cx) (W : WX) (f : NFn) : TE := fun σ H Q => ∃ ι F ρ S, RR X.K ι F ρ S σ H ∧ Post X.K X.mg (fun c d H' => W c d σ H') ι F H (f ρ S) fun c ι' F' H1 => ∀ a O H2, Ext H1 H2 → (∀ b, O b → H1 b = none) → LiveC X.K ι' F' H2 a c O → Q (.ref a) H2
structure DNew (X : Cx) (W : WX) (e : Expr) (f : NFn) : Prop where
  pe : PE X e (tNewC X W f)
theorem StR.ext {H' : Hp} (st : StR K ι F S H) (x : Ext H H') : StR K ι F S H' := ⟨fun b o e => x.same b o (st.sub b o e), st.len, st.nd, fun b hb z => st.full b hb (x.dom b z), fun j ds e =>
  let ⟨a, vs, h1, h2, h3, h4⟩ := st.cell j ds e
  ⟨a, vs, h1, x.same _ _ h2, h3, h4⟩, st.tb.ext (fun b o e _ => x.same b o e), st.tf⟩
theorem Ext.grow {H' : Hp} (x : Ext H H') : Grow ι F H ι F H' := ⟨List.prefix_rfl, Same.refl _, fun b o e _ _ => x.same b o e, fun _ _ _ _ _ f _ => f, fun _ h => .inl h, x.dom⟩
/-! ## Case(columns, n) -/
/-! ## x.copied() -/
theorem ColVs.length : ∀ {vs : List V} {cs : List (Option (List Int))}, ColVs K F vs cs → vs.length = cs.length
  | [], [], _ => rfl
  | _ :: _, _ :: _, ⟨_, h⟩ => by simp [ColVs.length h]
  | [], _ :: _, h => h.elim
  | _ :: _, [], h => h.elim
end
end DL
set_option maxHeartbeats 4000000
namespace DL
open PySem PySem.Spec PyProof.Rows L2
section
variable {X : Cx} {W : WX} {K : PySem.W.Frag} {mg : Str → Option Value} {ι : List Addr} {F H : Hp} {S : zaf} {e a b c : Expr} {es : List Expr} {pos p apos : Pos} {k : Nat}
/-! ## the cells of a frozen case, walked -/
/-! ## the class statement, what the head must show of it -/
def clsB : Stmt → List Stmt
  | .ClassDef _ _ _ b .. => b
  | _ => []
def mth (s : Stmt) (j : Nat) : Stmt := (clsB s).getD j (.Pass ⟨0, 0, 0, 0⟩)
def casB (K : PySem.W.Frag) : Bool := He.eqO (PySem.W.findIn K (.ref (He.ga K "Case")) "__class__") (some (some (.builtin "object.__class__"))) &&
  (He.eqO (PySem.W.specialIn K (.builtin "object.__class__") "__get__") (some (some (.builtin "getset_descriptor.__get__"))) && (decide (PySem.W.takesIn K (.builtin "object.__class__") = some true) && (decide (PySem.W.mroIn K (He.ga K "Case") (.type "object") = some true) &&
  (["int", "bool", "tuple", "list", "str"] : List String).all fun T => decide (PySem.W.kitOne K (.ref (He.ga K "Case")) (.type T) = some false))))
theorem casK_of {K : PySem.W.Frag} (h : casB K = true) (cl : Cls K (He.ga K "Case")) (na : ∀ f : Str, f ∈ (["columns", "count", "labels", "facts"] : List Str) → NoAttr K (He.ga K "Case") f) : CasK K := by
  unfold casB at h
  simp only [Bool.and_eq_true, decide_eq_true_eq, List.all_eq_true] at h
  obtain ⟨h1, h2, h3, h4, h5⟩ := h
  exact ⟨cl, na, He.eqO_ok h1, He.eqO_ok h2, h3, h4, h5⟩
end
end DL
set_option maxHeartbeats 4000000
namespace DL
open PySem PySem.Spec PyProof.Rows L2
section
variable {X : Cx} {W : WX} {e a b c : Expr} {es : List Expr} {pos p apos : Pos} {K : PySem.W.Frag} {ι : List Addr} {F H : Hp} {S : zaf} {mg : Str → Option Value} {k : Nat}
/-! ## x.m() on a frozen case -/
/-! ## two slots at once, beside the live case -/
end
end DL
set_option maxHeartbeats 4000000
namespace PySem
namespace DLSort
open L2 PyProof.Rows PySem.W
section
variable {prog : Program} {w : World} {A : Around} {E : Value → Shared → Prop} {s : Shared}
end
end DLSort
end PySem
namespace DL
open PySem PySem.Spec PyProof.Rows L2
section
variable {X : Cx} {W : WX} {K : PySem.W.Frag} {mg : Str → Option Value} {ι : List Addr} {F H : Hp} {S : zaf} {e a b c : Expr} {es : List Expr} {pos p apos : Pos} {k : Nat}
/-! ## sorted(x.labels) -/
end
end DL
set_option maxHeartbeats 4000000
namespace DL
open PySem PySem.Spec PyProof.Rows L2
section
variable {X : Cx} {W : WX} {K : PySem.W.Frag} {mg : Str → Option Value} {ι : List Addr} {F H : Hp} {S : zaf} {e a b c : Expr} {es : List Expr} {pos p : Pos}
/-! ## a dict that is made and filled in place, in a slot -/
abbrev Map := List (Key × Int)
abbrev mapO (m : Map) : HO := .dK (m.map fun p => (p.1, V.int p.2))
structure LiveM (K : PySem.W.Frag) (ι : List Addr) (F H : Hp) (a : Addr) (m : Map) (O : Addr → Prop) : Prop where
  of : H a = some (mapO m)
  own : ∀ b, O b ↔ b = a
  out : a ∉ ι
  free : F a = none
theorem LiveM.grow {a : Addr} {m : Map} {O : Addr → Prop} {ι' : List Addr} {F' H' : Hp} (L : LiveM K ι F H a m O) (g : Grow ι F H ι' F' H') : LiveM K ι' F' H' a m O := by
  refine ⟨g.keep a _ L.of (fun _ z => nomatch z) L.out, L.own, fun hm => ?_, g.new a _ L.of (fun _ z => nomatch z) (fun _ z => nomatch z) L.free L.out⟩
  rcases g.nio a hm with q | q
  · exact L.out q
  · rw [L.of] at q; cases q
inductive RM where
  | nx (ρ : zat) (S : zaf) (c : Map) | fin (r : RS)
abbrev MFn := zat → zaf → Map → RM
def PostM (K : PySem.W.Frag) (mg : Str → Option Value) (W : WX) (k : Nat) (a : Addr) (O : Addr → Prop) (ι : List Addr) (F H : Hp) (r : RM) (D : Ends) : Prop := match r with
  | .nx ρ' S' c' => ∀ σ' ι' F' H', GrowL O ι F H ι' F' H' → RR K ι' F' ρ' S' σ' H' → σ'[k]? = some (some (.ref a)) → LiveM K ι' F' H' a c' O → D.nx σ' H'
  | .fin r => PostF K mg W O ι F H r D
theorem PostM.grow {k : Nat} {a : Addr} {O : Addr → Prop} {r : RM} {D : Ends} {ι1 : List Addr} {F1 H1 : Hp} (h : PostM K mg W k a O ι F H r D) (g : GrowL O ι F H ι1 F1 H1) : PostM K mg W k a O ι1 F1 H1 r D := by
  cases r with
  | nx ρ' S' c' => exact fun σ' ι' F' H' g' r s l => h σ' ι' F' H' (g.trans g') r s l
  | fin r => exact PostF.grow (r := r) h g
def tLM (X : Cx) (W : WX) (k : Nat) (f : MFn) : TS := fun D σ H => ∃ ι F ρ S a c O, RR X.K ι F ρ S σ H ∧ σ[k]? = some (some (.ref a)) ∧ LiveM X.K ι F H a c O ∧ PostM X.K X.mg W k a O ι F H (f ρ S c) D
structure DM (X : Cx) (W : WX) (k : Nat) (st : Stmt) (f : MFn) : Prop where
  ps : ∃ t, PS X st t ∧ ∀ D σ H, tLM X W k f D σ H → t D σ H
structure DMs (X : Cx) (W : WX) (k : Nat) (st : List Stmt) (f : MFn) : Prop where
  ps : ∃ t, PSs X st t ∧ ∀ D σ H, tLM X W k f D σ H → t D σ H
def mSeq (f g : MFn) : MFn := fun ρ S c => match f ρ S c with
  | .nx ρ' S' c' => g ρ' S' c'
  | r => r
variable {k : Nat}
theorem tLM.seq {f g : MFn} {D : Ends} {σ : L2.St} {H : Hp} (h : tLM X W k (mSeq f g) D σ H) : tLM X W k f { D with nx := tLM X W k g D } σ H := by
  obtain ⟨ι, F, ρ, S, a, c, O, r, s, l, h⟩ := h
  refine ⟨ι, F, ρ, S, a, c, O, r, s, l, ?_⟩
  unfold mSeq at h
  cases q : f ρ S c with
  | nx ρ' S' c' => rw [q] at h; exact fun σ' ι' F' H' g' r' s' l' => ⟨ι', F', ρ', S', a, c', O, r', s', l', PostM.grow (r := g ρ' S' c') h g'⟩
  | fin rr =>
    rw [q] at h
    have h : PostF X.K X.mg W O ι F H rr D := h
    show PostF X.K X.mg W O ι F H rr _
    cases rr with
    | rt dv S' => exact h
    | ex c ρ' S' => exact h
    | _ => exact h
/-! ## an expression, then more -/
/-! ## for -/
abbrev IMn := zat → zaf → Map → Res (List D)
def tIM (X : Cx) (W : WX) (k : Nat) (f : IMn) : TI := fun σ H R => ∃ ι F ρ S a c O, RR X.K ι F ρ S σ H ∧ σ[k]? = some (some (.ref a)) ∧ LiveM X.K ι F H a c O ∧ Post X.K X.mg (fun c d H' => W c d σ H') ι F H (f ρ S c) fun ds ι' F' H' => ∀ J, ItOk X.K F' ds J → R J H'
structure DIM (X : Cx) (W : WX) (k : Nat) (tg e : Expr) (f : IMn) : Prop where
  pi : ∃ t, PI X tg e t ∧ ∀ σ H R, tIM X W k f σ H R → t σ H R
end
end DL
set_option maxHeartbeats 4000000
namespace DL
open PySem PySem.Spec PyProof.Rows L2
section
variable {X : Cx} {W : WX} {K : PySem.W.Frag} {mg : Str → Option Value} {ι : List Addr} {F H : Hp} {S : zaf} {e a b c : Expr} {es : List Expr} {pos p apos : Pos} {k : Nat}
/-! ## reading and filling a dict in place -/
def mGet (m : Map) (k : Key) : Option Int := (m.find? fun p => decide (p.1 = k)).map (·.2)
theorem RR.put {ρ : zat} {σ : L2.St} {a : Addr} {m : Map} {O : Addr → Prop} {m' : Map} (r : RR K ι F ρ S σ H) (l : LiveM K ι F H a m O) : RR K ι F ρ S σ (upd H a (mapO m')) ∧ GrowL O ι F H ι F (upd H a (mapO m')) ∧ LiveM K ι F (upd H a (mapO m')) a m' O := by
  have nF : ∀ b o, F b = some o → b ≠ a := fun b o e h => by rw [h, l.free] at e; cases e
  refine ⟨⟨⟨fun b o e => by rw [upd_ne (nF b o e)]; exact r.st.sub b o e, r.st.len, r.st.nd, fun b hb z => r.st.full b hb (zc9 z), fun j ds e => ?_, r.st.tb.upd (fun o e => by rw [l.of] at e; cases e; exact ⟨fun _ z => (nomatch z), fun _ z => nomatch z⟩) _, r.st.tf⟩, r.len, r.slot⟩, ⟨List.prefix_rfl, Same.refl _, fun b o e _ _ h => by rw [upd_ne (fun z => h ((l.own b).mpr z))]; exact e, fun b o _ _ _ f _ _ => f, fun b h => .inl h, fun b h => zc9 h⟩, ⟨upd_same, l.own, l.out, l.free⟩⟩
  obtain ⟨a0, vs, h1, h2, h3, h4⟩ := r.st.cell j ds e
  have n0 : a0 ≠ a := by rintro rfl; exact l.out (List.mem_of_getElem? h1)
  exact ⟨a0, vs, h1, by rw [upd_ne n0]; exact h2, h3, h4⟩
/-! ### an expression that reads it -/
abbrev XMn := zat → zaf → Map → Res DV
def tDM (X : Cx) (W : WX) (k : Nat) (f : XMn) : TE := fun σ H Q => ∃ ι F ρ S a m O, RR X.K ι F ρ S σ H ∧ σ[k]? = some (some (.ref a)) ∧ LiveM X.K ι F H a m O ∧ Post X.K X.mg (fun c d H' => W c d σ H') ι F H (f ρ S m) fun dv ι' F' H' => ∀ v, WV X.K ι' F' v dv → Q v H'
structure DEM (X : Cx) (W : WX) (k : Nat) (e : Expr) (f : XMn) : Prop where
  pe : PE X e (tDM X W k f)
/-! ### statements -/
/-! ### it is made, and it is left as it is -/
/-! ### reading it when it is left as it is -/
end
end DL
set_option maxHeartbeats 4000000
namespace DL
open PySem PySem.Spec PyProof.Rows L2
section
variable {X : Cx} {W : WX} {K : PySem.W.Frag} {mg : Str → Option Value} {ι : List Addr} {F H : Hp} {S : zaf} {e a b c : Expr} {es : List Expr} {pos p apos : Pos} {k : Nat}
/-! ## x == [], of a list of anything -/
/-! ## a, b, c = x, y, z -/
end
end DL
set_option maxHeartbeats 4000000
namespace PySem.AutoSeq1
open PySem PyProof
end PySem.AutoSeq1
namespace DL
open PySem PySem.Spec PyProof.Rows L2
section
variable {X : Cx} {W : WX} {K : PySem.W.Frag} {mg : Str → Option Value} {ι : List Addr} {F H : Hp} {S : zaf} {e a b c : Expr} {es : List Expr} {pos p apos : Pos} {k : Nat}
/-! ## x.extend(a tuple) -/
/-! ## x or y, as values -/
end
end DL
set_option maxHeartbeats 400000
namespace DL
open PySem PySem.Spec PyProof.Rows L2
/-! ## cases, by what they say -/
abbrev Gv := List (Nat × Option Int)
abbrev Ru := Gv × Nat × Option Int
def Cas.fact (c : Cas) (r k : Nat) : List Int := c.facts.getD (c.at_ r k) []
structure Cas.Ok (c : Cas) : Prop where
  n9 : c.n ≤ 9
  m5 : c.cols.length ≤ 5
  l1 : c.lab.length = c.n * c.cols.length
  l2 : c.facts.length = c.n * c.cols.length
  l3 : ∀ l ∈ c.lab, l < c.facts.length
  sm : ∀ l, (c.facts.getD l []).length ≤ 64
theorem Cas.Ok.lt {c : Cas} (h : c.Ok) {r k : Nat} (hr : r < c.n) (hk : k < c.cols.length) : c.at_ r k < c.facts.length := at_lt h.l1 h.l3 hr hk
theorem Cas.Ok.mem {c : Cas} (h : c.Ok) {r k : Nat} (hr : r < c.n) (hk : k < c.cols.length) : c.at_ r k ∈ c.lab := by
  have hh := cell_lt hr hk
  have h1 := h.l1
  unfold Cas.at_
  rw [List.getD_eq_getElem?_getD, List.getElem?_eq_getElem (by omega)]
  exact List.getElem_mem _
theorem Cas.Ok.cell {c : Cas} (h : c.Ok) {l : Nat} (hl : l ∈ c.lab) : ∃ r k, r < c.n ∧ k < c.cols.length ∧ c.at_ r k = l := by
  obtain ⟨i, hi, e⟩ := List.getElem_of_mem hl
  have h1 := h.l1
  have hm : 0 < c.cols.length := by
    rcases Nat.eq_zero_or_pos c.cols.length with z | z
    · rw [z, Nat.mul_zero] at h1; omega
    · exact z
  refine ⟨i / c.cols.length, i % c.cols.length, (Nat.div_lt_iff_lt_mul hm).mpr (by omega), Nat.mod_lt _ hm, ?_⟩
  unfold Cas.at_
  have : i / c.cols.length * c.cols.length + i % c.cols.length = i := by rw [Nat.mul_comm]; exact Nat.div_add_mod _ _
  rw [this, List.getD_eq_getElem?_getD, List.getElem?_eq_getElem hi]
  exact e
structure Cas.Sat (c : Cas) (M : Nat → Nat → Int) : Prop where
  kn : ∀ r k, r < c.n → k < c.cols.length → ∀ v ∈ c.fact r k, M r k = v
  eq : ∀ r k r' k', r < c.n → k < c.cols.length → r' < c.n → k' < c.cols.length → c.at_ r k = c.at_ r' k' → M r k = M r' k'
/-! ### learn -/
theorem zl8 (c : Cas) (r k : Nat) (v : Int) : (c.learn r k v).cols = c.cols := (zhe c r k v).2.1
theorem learn_n (c : Cas) (r k : Nat) (v : Int) : (c.learn r k v).n = c.n := (zhe c r k v).2.2.1
theorem Cas.Ok.learn {c : Cas} (h : c.Ok) {r k : Nat} {v : Int} (hr : r < c.n) (hk : k < c.cols.length) (hs : (c.fact r k).length < 64) : (c.learn r k v).Ok := by
  obtain ⟨a1, a2, a3, a4⟩ := zhe c r k v
  refine ⟨by rw [a3]; exact h.n9, by rw [a2]; exact h.m5, by rw [a1, a2, a3]; exact h.l1, by rw [a4, a2, a3]; exact h.l2, by rw [a1, a4]; exact h.l3, fun l => ?_⟩
  rw [zdn c r k v (h.lt hr hk)]
  split
  · rename_i hh
    obtain ⟨rfl, _⟩ := hh
    have : (c.facts.getD (c.at_ r k) []).length < 64 := hs
    simp
    simp at this
    omega
  · exact h.sm l
theorem fact_learn {c : Cas} (h : c.Ok) {r k : Nat} (v : Int) (hr : r < c.n) (hk : k < c.cols.length) (r' k' : Nat) : (c.learn r k v).fact r' k' = if c.at_ r' k' = c.at_ r k ∧ v ∉ c.fact r' k' then c.fact r' k' ++ [v] else c.fact r' k' := by
  unfold Cas.fact
  rw [zi9, zdn c r k v (h.lt hr hk)]
theorem zo9 {c : Cas} (h : c.Ok) {r k : Nat} {v u : Int} (hr : r < c.n) (hk : k < c.cols.length) {r' k' : Nat} : u ∈ (c.learn r k v).fact r' k' ↔ u ∈ c.fact r' k' ∨ (c.at_ r' k' = c.at_ r k ∧ u = v) := by
  rw [fact_learn h v hr hk]
  split
  · rename_i hh
    simp [hh.1]
  · rename_i hh
    constructor
    · exact .inl
    · rintro (h1 | ⟨h1, rfl⟩)
      · exact h1
      · refine Classical.byContradiction fun n => hh ⟨h1, n⟩
/-! ### join -/
theorem fold_mem {r k : Nat} : ∀ (ys : List Int) (d : Cas), d.at_ r k < d.facts.length → ∀ l u, u ∈ (ys.foldl (fun d v => d.learn r k v) d).facts.getD l [] ↔ u ∈ d.facts.getD l [] ∨ (l = d.at_ r k ∧ u ∈ ys)
  | [], d, _, l, u => by simp
  | v :: ys, d, h, l, u => by
    rw [List.foldl_cons, fold_mem ys (d.learn r k v) (by rw [zi9]; rw [(zhe d r k v).2.2.2]; exact h), zi9, zdn d r k v h]
    split
    · rename_i hh
      simp only [List.mem_append, hh.1, true_and, List.mem_cons, List.not_mem_nil, or_false]
      constructor
      · rintro ((a | a) | a)
        · exact .inl a
        · exact .inr (.inl a)
        · exact .inr (.inr a)
      · rintro (a | a | a)
        · exact .inl (.inl a)
        · exact .inl (.inr a)
        · exact .inr a
    · rename_i hh
      simp only [List.mem_cons]
      constructor
      · rintro (a | ⟨a, b⟩)
        · exact .inl a
        · exact .inr ⟨a, .inr b⟩
      · rintro (a | ⟨a, rfl | b⟩)
        · exact .inl a
        · exact .inl (Classical.byContradiction fun n => hh ⟨a, n⟩)
        · exact .inr ⟨a, b⟩
structure Joined (c d : Cas) (p q : Nat) : Prop where
  cols : d.cols = c.cols
  n : d.n = c.n
  at_ : ∀ r k, r < c.n → k < c.cols.length → d.at_ r k = if c.at_ r k = q then p else c.at_ r k
  mem : ∀ l u, u ∈ d.facts.getD l [] ↔ u ∈ c.facts.getD l [] ∨ (l = p ∧ u ∈ c.facts.getD q [])
  lab : d.lab = c.lab.map fun l => if l = q then p else l
  fl : d.facts.length = c.facts.length
  len : ∀ l, (d.facts.getD l []).length ≤ (c.facts.getD l []).length + (if l = p then (c.facts.getD q []).length else 0)
theorem join_is {c : Cas} (h : c.Ok) {r1 k1 r2 k2 : Nat} (hr1 : r1 < c.n) (hk1 : k1 < c.cols.length) (hr2 : r2 < c.n) (hk2 : k2 < c.cols.length) (ne : c.at_ r1 k1 ≠ c.at_ r2 k2) : Joined c (c.join r1 k1 r2 k2) (c.at_ r1 k1) (c.at_ r2 k2) := by
  have e : c.join r1 k1 r2 k2 = (c.facts.getD (c.at_ r2 k2) []).foldl (fun d v => d.learn r1 k1 v) (c.relab (c.at_ r1 k1) (c.at_ r2 k2)) := by unfold Cas.join; rw [if_neg ne]
  have ra : (c.relab (c.at_ r1 k1) (c.at_ r2 k2)).at_ r1 k1 = c.at_ r1 k1 := by rw [zqp h.l1 hr1 hk1, if_neg ne]
  have hlt : (c.relab (c.at_ r1 k1) (c.at_ r2 k2)).at_ r1 k1 < (c.relab (c.at_ r1 k1) (c.at_ r2 k2)).facts.length := by rw [ra]; exact h.lt hr1 hk1
  obtain ⟨f1, f2, f3, f4, f5, f6, f7⟩ := zpn (r := r1) (k := k1) (c.facts.getD (c.at_ r2 k2) []) (c.relab (c.at_ r1 k1) (c.at_ r2 k2)) hlt
  rw [e]
  refine ⟨f2, f3, fun r k hr hk => ?_, fun l u => ?_, f1, f4, fun l => ?_⟩
  · have : ((c.facts.getD (c.at_ r2 k2) []).foldl (fun d v => d.learn r1 k1 v) (c.relab (c.at_ r1 k1) (c.at_ r2 k2))).at_ r k = (c.relab (c.at_ r1 k1) (c.at_ r2 k2)).at_ r k := by
      show List.getD (Cas.lab _) (r * (Cas.cols _).length + k) 0 = _
      rw [f1, f2]
      rfl
    rw [this]
    exact zqp h.l1 hr hk
  · rw [fold_mem _ _ hlt, ra]
    rfl
  · by_cases hl : l = c.at_ r1 k1
    · subst hl
      rw [if_pos rfl]
      rw [ra] at f7
      exact f7
    · rw [if_neg hl, f6 l (by rw [ra]; exact hl)]
      exact Nat.le_refl _
theorem Joined.ok {c d : Cas} {p q : Nat} (h : c.Ok) (j : Joined c d p q) (hp : p < c.facts.length) (hs : (c.facts.getD p []).length + (c.facts.getD q []).length ≤ 64) : d.Ok := by
  refine ⟨by rw [j.n]; exact h.n9, by rw [j.cols]; exact h.m5, by rw [j.lab, List.length_map, j.n, j.cols]; exact h.l1, by rw [j.fl, j.n, j.cols]; exact h.l2, fun l hl => ?_, fun l => ?_⟩
  · rw [j.lab] at hl
    rw [j.fl]
    obtain ⟨l', h1, rfl⟩ := List.mem_map.mp hl
    split
    · exact hp
    · exact h.l3 _ h1
  · have := j.len l
    have h2 := h.sm l
    split at this
    · rename_i e; subst e; omega
    · omega
theorem Joined.sat {c d : Cas} {r1 k1 r2 k2 : Nat} (h : c.Ok) (hr1 : r1 < c.n) (hk1 : k1 < c.cols.length) (hr2 : r2 < c.n) (hk2 : k2 < c.cols.length) (j : Joined c d (c.at_ r1 k1) (c.at_ r2 k2)) {M : Nat → Nat → Int} : d.Sat M ↔ c.Sat M ∧ M r1 k1 = M r2 k2 := by
  have fc : ∀ r k, r < c.n → k < c.cols.length → ∀ u, u ∈ d.fact r k ↔ u ∈ c.facts.getD (d.at_ r k) [] ∨ (d.at_ r k = c.at_ r1 k1 ∧ u ∈ c.facts.getD (c.at_ r2 k2) []) := fun r k hr hk u => j.mem _ u
  constructor
  · intro s
    have e12 : M r1 k1 = M r2 k2 := s.eq r1 k1 r2 k2 (by rw [j.n]; exact hr1) (by rw [j.cols]; exact hk1) (by rw [j.n]; exact hr2) (by rw [j.cols]; exact hk2) (by
      rw [j.at_ r1 k1 hr1 hk1, j.at_ r2 k2 hr2 hk2, if_pos rfl]
      split <;> rfl)
    refine ⟨⟨fun r k hr hk u hu => ?_, fun r k r' k' hr hk hr' hk' e => s.eq r k r' k' (by rw [j.n]; exact hr) (by rw [j.cols]; exact hk) (by rw [j.n]; exact hr') (by rw [j.cols]; exact hk') (by rw [j.at_ r k hr hk, j.at_ r' k' hr' hk', e])⟩, e12⟩
    refine s.kn r k (by rw [j.n]; exact hr) (by rw [j.cols]; exact hk) u ((fc r k hr hk u).mpr ?_)
    rw [j.at_ r k hr hk]
    by_cases e : c.at_ r k = c.at_ r2 k2
    · rw [if_pos e]
      refine .inr ⟨rfl, ?_⟩
      rw [← e]
      exact hu
    · rw [if_neg e]
      exact .inl hu
  · rintro ⟨s, e12⟩
    have rep : ∀ r k, r < c.n → k < c.cols.length → (d.at_ r k = c.at_ r k ∨ (c.at_ r k = c.at_ r2 k2 ∧ d.at_ r k = c.at_ r1 k1)) := fun r k hr hk => by
      rw [j.at_ r k hr hk]
      by_cases e : c.at_ r k = c.at_ r2 k2
      · rw [if_pos e]; exact .inr ⟨e, rfl⟩
      · rw [if_neg e]; exact .inl rfl
    refine ⟨fun r k hr hk u hu => ?_, fun r k r' k' hr hk hr' hk' e => ?_⟩
    · rw [j.n] at hr
      rw [j.cols] at hk
      rcases rep r k hr hk with a | ⟨a, b⟩
      · rcases (fc r k hr hk u).mp hu with q | ⟨q1, q2⟩
        · rw [a] at q; exact s.kn r k hr hk u q
        · rw [s.eq r k r1 k1 hr hk hr1 hk1 (a ▸ q1), e12]
          exact s.kn r2 k2 hr2 hk2 u q2
      · have e1 : M r k = M r2 k2 := s.eq r k r2 k2 hr hk hr2 hk2 a
        rcases (fc r k hr hk u).mp hu with q | ⟨q1, q2⟩
        · rw [b] at q; rw [e1, ← e12]; exact s.kn r1 k1 hr1 hk1 u q
        · rw [e1]; exact s.kn r2 k2 hr2 hk2 u q2
    · rw [j.n] at hr hr'
      rw [j.cols] at hk hk'
      rcases rep r k hr hk with a | ⟨a, b⟩
      · rcases rep r' k' hr' hk' with a' | ⟨a', b'⟩
        · exact s.eq r k r' k' hr hk hr' hk' (by rw [← a, ← a', e])
        · rw [s.eq r k r1 k1 hr hk hr1 hk1 (by rw [← a, e, b']), e12]
          exact (s.eq r' k' r2 k2 hr' hk' hr2 hk2 a').symm
      · rw [s.eq r k r2 k2 hr hk hr2 hk2 a]
        rcases rep r' k' hr' hk' with a' | ⟨a', b'⟩
        · rw [s.eq r' k' r1 k1 hr' hk' hr1 hk1 (by rw [← a', ← e, b]), e12]
        · exact (s.eq r' k' r2 k2 hr' hk' hr2 hk2 a').symm
/-! ### the measure -/
def cnt (N : Nat) (p : Nat → Bool) : Nat := ((List.range N).filter p).length
theorem znf (N : Nat) (p : Nat → Bool) : cnt (N + 1) p = cnt N p + (if p N = true then 1 else 0) := by
  unfold cnt
  rw [List.range_succ, List.filter_append, List.length_append, List.filter_cons, List.filter_nil]
  split <;> simp
theorem cnt_le {N : Nat} {p q : Nat → Bool} (h : ∀ i, i < N → p i = true → q i = true) : cnt N p ≤ cnt N q := by
  induction N with
  | zero => simp [cnt]
  | succ N ih =>
    rw [znf, znf]
    have := ih fun i hi => h i (by omega)
    have h1 := h N (by omega)
    split
    · rename_i e; rw [if_pos (h1 e)]; omega
    · split <;> omega
theorem cnt_lt {N : Nat} {p q : Nat → Bool} (h : ∀ i, i < N → p i = true → q i = true) {j : Nat} (hj : j < N) (hq : q j = true) (hp : p j = false) : cnt N p < cnt N q := by
  induction N with
  | zero => omega
  | succ N ih =>
    rw [znf, znf]
    by_cases e : j = N
    · subst e
      rw [if_neg (by simp [hp]), if_pos hq]
      have := cnt_le (N := j) fun i hi => h i (by omega)
      omega
    · have := ih (fun i hi => h i (by omega)) (by omega)
      have h1 := h N (by omega)
      split
      · rename_i e; rw [if_pos (h1 e)]; omega
      · split <;> omega
def Cas.mu (c : Cas) : Nat := cnt c.facts.length (fun l => decide (l ∈ c.lab)) + cnt c.facts.length (fun l => decide (l ∈ c.lab) && (c.facts.getD l []).isEmpty)
theorem mu_learn {c : Cas} (h : c.Ok) {r k : Nat} {v : Int} (hr : r < c.n) (hk : k < c.cols.length) (he : c.fact r k = []) : (c.learn r k v).mu < c.mu := by
  obtain ⟨a1, a2, a3, a4⟩ := zhe c r k v
  unfold Cas.mu
  rw [a1, a4]
  have : cnt c.facts.length (fun l => decide (l ∈ c.lab) && ((c.learn r k v).facts.getD l []).isEmpty) < cnt c.facts.length (fun l => decide (l ∈ c.lab) && (c.facts.getD l []).isEmpty) := by
    refine cnt_lt (j := c.at_ r k) (fun i hi e => ?_) (h.lt hr hk) ?_ ?_
    · simp only [Bool.and_eq_true, decide_eq_true_eq] at e ⊢
      refine ⟨e.1, ?_⟩
      have e2 := e.2
      rw [zdn c r k v (h.lt hr hk)] at e2
      split at e2
      · simp at e2
      · exact e2
    · have e2 : c.facts.getD (c.at_ r k) [] = [] := he
      rw [e2]
      simp only [List.isEmpty_nil, Bool.and_true, decide_eq_true_eq]
      exact h.mem hr hk
    · rw [zdn c r k v (h.lt hr hk)]
      have e2 : c.facts.getD (c.at_ r k) [] = [] := he
      rw [e2, if_pos ⟨rfl, by simp⟩]
      simp
  omega
end DL
set_option maxHeartbeats 400000
namespace DL
open PySem PySem.Spec PyProof.Rows L2
/-! ## the search in a case -/
def cellNs (n m : Nat) : List (Nat × Nat) := (List.range n).flatMap fun r => (List.range m).map fun k => (r, k)
theorem mem_cellNs {n m r k : Nat} : (r, k) ∈ cellNs n m ↔ r < n ∧ k < m := by
  simp [cellNs]
def Cas.badAt (c : Cas) (r k : Nat) : Bool := decide (1 < (c.fact r k).length) || (match c.cols.getD k none with
  | none => false
  | some ns => (c.fact r k).any fun v => !decide (v ∈ ns))
def Cas.clash (c : Cas) : Bool := (cellNs c.n c.cols.length).any fun p => c.badAt p.1 p.2
inductive Goal where
  | no | val (r k : Nat) (v : Int) | eq (r k r' k' : Nat)
def Cas.alike (c : Cas) (r k r' k' : Nat) : Bool := decide (c.at_ r k = c.at_ r' k') || (c.fact r k).any fun v => decide (v ∈ c.fact r' k')
def Cas.goal (c : Cas) : Goal → Bool
  | .no => false
  | .val r k v => decide (v ∈ c.fact r k)
  | .eq r k r' k' => c.alike r k r' k'
def Cas.entS (c : Cas) (row : Nat) (p : Nat × Option Int) : Bool := match p.2 with
  | none => false
  | some v => decide (v ∈ c.fact row p.1)
def Cas.entJ (c : Cas) (p : Nat × Option Int) : Bool := match p.2 with
  | none => c.alike 0 p.1 1 p.1
  | some v => decide (v ∈ c.fact 0 p.1) && decide (v ∈ c.fact 1 p.1)
def Cas.canStep (c : Cas) (t : Ru) (row : Nat) : Bool := t.2.2.isSome && t.1.all (c.entS row)
def Cas.canJoin (c : Cas) (t : Ru) : Bool := t.2.2.isNone && (decide (c.n = 2) && t.1.all c.entJ)
inductive Head where
  | step (k row : Nat) | join (k : Nat)
def Cas.stepOk (c : Cas) (t : Ru) (row : Nat) : Bool := c.canStep t row && (match t.2.2 with | none => false | some v => !decide (v ∈ c.fact row t.2.1))
def Cas.stepTo (c : Cas) (t : Ru) (row : Nat) : Cas := match t.2.2 with
  | none => c
  | some v => c.learn row t.2.1 v
def Cas.nextRow (c : Cas) (k : Nat) (t : Ru) : List Nat → Option (Head × Cas)
  | [] => none
  | row :: rows => if c.stepOk t row = true then some (.step k row, c.stepTo t row) else c.nextRow k t rows
def Cas.joinOk (c : Cas) (t : Ru) : Bool := c.canJoin t && !c.alike 0 t.2.1 1 t.2.1
def Cas.nextGo (c : Cas) : Nat → List Ru → Option (Head × Cas)
  | _, [] => none
  | k, t :: ts => match c.nextRow k t (List.range c.n) with
    | some x => some x
    | none => if c.joinOk t = true then some (.join k, c.join 0 t.2.1 1 t.2.1) else c.nextGo (k + 1) ts
def Cas.next (c : Cas) (ts : List Ru) : Option (Head × Cas) := c.nextGo 0 ts
def Cas.unknown (c : Cas) (cells : List (Nat × Nat)) : Option (Nat × Nat) := cells.find? fun p => (c.fact p.1 p.2).isEmpty
structure okRu (m : Nat) (t : Ru) : Prop where
  c : t.2.1 < m
  g : ∀ p ∈ t.1, p.1 < m
def Keep (n : Nat) (M : Nat → Nat → Int) (t : Ru) : Prop := match t.2.2 with
  | some w => ∀ r, r < n → (∀ p ∈ t.1, p.2 = some (M r p.1)) → M r t.2.1 = w
  | none => n = 2 → (∀ p ∈ t.1, match p.2 with | none => M 0 p.1 = M 1 p.1 | some v => M 0 p.1 = v ∧ M 1 p.1 = v) → M 0 t.2.1 = M 1 t.2.1
def GoalH (M : Nat → Nat → Int) : Goal → Prop
  | .no => False
  | .val r k v => M r k = v
  | .eq r k r' k' => M r k = M r' k'
def okGoal (n m : Nat) : Goal → Prop
  | .no => True
  | .val r k _ => r < n ∧ k < m
  | .eq r k r' k' => (r < n ∧ k < m) ∧ r' < n ∧ k' < m
/-! ### what is known holds -/
theorem Cas.Sat.alike {c : Cas} {M : Nat → Nat → Int} (s : c.Sat M) {r k r' k' : Nat} (hr : r < c.n) (hk : k < c.cols.length) (hr' : r' < c.n) (hk' : k' < c.cols.length) (h : c.alike r k r' k' = true) : M r k = M r' k' := by
  unfold Cas.alike at h
  simp only [Bool.or_eq_true, decide_eq_true_eq, List.any_eq_true] at h
  rcases h with h | ⟨v, h1, h2⟩
  · exact s.eq _ _ _ _ hr hk hr' hk' h
  · rw [s.kn r k hr hk v h1, s.kn r' k' hr' hk' v h2]
theorem Cas.Sat.goal {c : Cas} {M : Nat → Nat → Int} (s : c.Sat M) {g : Goal} (hg : okGoal c.n c.cols.length g) (h : c.goal g = true) : GoalH M g := by
  cases g with
  | no => cases h
  | val r k v => exact s.kn r k hg.1 hg.2 v (by simpa [Cas.goal] using h)
  | eq r k r' k' => exact s.alike hg.1.1 hg.1.2 hg.2.1 hg.2.2 h
theorem zoq {c : Cas} (h : c.clash = false) {r k : Nat} (hr : r < c.n) (hk : k < c.cols.length) : (c.fact r k).length ≤ 1 ∧ ∀ ns, c.cols.getD k none = some ns → ∀ v ∈ c.fact r k, v ∈ ns := by
  unfold Cas.clash at h
  rw [List.any_eq_false] at h
  have := h (r, k) (mem_cellNs.mpr ⟨hr, hk⟩)
  unfold Cas.badAt at this
  simp only [Bool.or_eq_true, decide_eq_true_eq, not_or, Bool.not_eq_true] at this
  refine ⟨by omega, fun ns e v hv => ?_⟩
  rw [e] at this
  have h2 := this.2
  simp only [List.any_eq_false] at h2
  have := h2 v hv
  simpa using this
/-! ### a step, a join -/
structure Moved (ts : List Ru) (c d : Cas) : Prop where
  ok : d.Ok
  cols : d.cols = c.cols
  n : d.n = c.n
  less : d.clash = true ∨ d.mu < c.mu
  sat : ∀ M, (∀ t ∈ ts, Keep c.n M t) → (d.Sat M ↔ c.Sat M)
  up : ∀ M, d.Sat M → c.Sat M
  kn : ∀ r k, r < c.n → k < c.cols.length → ∀ v ∈ c.fact r k, v ∈ d.fact r k
theorem zml {c : Cas} {t : Ru} {k : Nat} : ∀ (rows : List Nat), c.nextRow k t rows = none → ∀ r ∈ rows, c.stepOk t r = false
  | [], _, r, hr => by cases hr
  | row :: rows, e, r, hr => by
    unfold Cas.nextRow at e
    split at e
    · cases e
    · rename_i hs
      rcases List.mem_cons.mp hr with rfl | hr
      · simpa using hs
      · exact zml rows e r hr
theorem zno {c : Cas} : ∀ (us : List Ru) (k : Nat), c.nextGo k us = none → ∀ t ∈ us, (∀ r, r < c.n → c.stepOk t r = false) ∧ c.joinOk t = false
  | [], _, _, t, ht => by cases ht
  | u :: us, k, e, t, ht => by
    unfold Cas.nextGo at e
    cases q : c.nextRow k u (List.range c.n) with
    | some y => rw [q] at e; cases e
    | none =>
      rw [q] at e
      simp only at e
      split at e
      · cases e
      · rename_i hs
        rcases List.mem_cons.mp ht with rfl | ht
        · exact ⟨fun r hr => zml _ q r (List.mem_range.mpr hr), by simpa using hs⟩
        · exact zno us (k + 1) e t ht
end DL
set_option maxHeartbeats 400000
namespace DL
open PySem PySem.Spec PyProof.Rows L2
/-! ## no value twice, and all values below a bound -/
structure Cas.Fine (c : Cas) (B : Int) : Prop where
  nd : ∀ l, (c.facts.getD l []).Nodup
  lt : ∀ l, ∀ v ∈ c.facts.getD l [], v < B
theorem Cas.Fine.learn {c : Cas} {B : Int} (h : c.Ok) (f : c.Fine B) {r k : Nat} {v : Int} (hr : r < c.n) (hk : k < c.cols.length) (hv : v < B) : (c.learn r k v).Fine B := by
  refine ⟨fun l => ?_, fun l u hu => ?_⟩
  · rw [zdn c r k v (h.lt hr hk)]
    split
    · rename_i hh
      rw [List.nodup_append]
      refine ⟨f.nd l, by simp, fun a ha b hb => ?_⟩
      simp at hb
      subst hb
      exact fun e => hh.2 (e ▸ ha)
    · exact f.nd l
  · rw [zdn c r k v (h.lt hr hk)] at hu
    split at hu
    · rcases List.mem_append.mp hu with q | q
      · exact f.lt l u q
      · simp at q; omega
    · exact f.lt l u hu
theorem fold_fine {r k : Nat} {B : Int} : ∀ (ys : List Int) (d : Cas), d.at_ r k < d.facts.length → d.Fine B → (∀ y ∈ ys, y < B) → (ys.foldl (fun d v => d.learn r k v) d).Fine B
  | [], d, _, f, _ => f
  | v :: ys, d, h, f, hy => by
    rw [List.foldl_cons]
    refine fold_fine ys (d.learn r k v) (by rw [zi9, (zhe d r k v).2.2.2]; exact h) ⟨fun l => ?_, fun l u hu => ?_⟩ fun y hh => hy y (by simp [hh])
    · rw [zdn d r k v h]
      split
      · rename_i hh
        rw [List.nodup_append]
        refine ⟨f.nd l, by simp, fun a ha b hb => ?_⟩
        simp at hb
        subst hb
        exact fun e => hh.2 (e ▸ ha)
      · exact f.nd l
    · rw [zdn d r k v h] at hu
      split at hu
      · rcases List.mem_append.mp hu with q | q
        · exact f.lt l u q
        · simp at q; have := hy v (by simp); omega
      · exact f.lt l u hu
theorem Cas.Fine.join {c : Cas} {B : Int} (h : c.Ok) (f : c.Fine B) {r1 k1 r2 k2 : Nat} (hr1 : r1 < c.n) (hk1 : k1 < c.cols.length) (hr2 : r2 < c.n) (hk2 : k2 < c.cols.length) : (c.join r1 k1 r2 k2).Fine B := by
  by_cases e : c.at_ r1 k1 = c.at_ r2 k2
  · have : c.join r1 k1 r2 k2 = c := by unfold Cas.join; rw [if_pos e]
    rw [this]; exact f
  · have : c.join r1 k1 r2 k2 = (c.facts.getD (c.at_ r2 k2) []).foldl (fun d v => d.learn r1 k1 v) (c.relab (c.at_ r1 k1) (c.at_ r2 k2)) := by unfold Cas.join; rw [if_neg e]
    rw [this]
    refine fold_fine _ _ ?_ ⟨f.nd, f.lt⟩ fun y hy => f.lt _ y hy
    rw [zqp h.l1 hr1 hk1, if_neg e]
    exact h.lt hr1 hk1
def RuLt (B : Int) (t : Ru) : Prop := (∀ p ∈ t.1, ∀ v, p.2 = some v → v < B) ∧ ∀ v, t.2.2 = some v → v < B
/-! ## the leaves -/
def Enough (F : Nat) (c : Cas) : Prop := 1 ≤ F ∧ (c.clash = true ∨ c.mu + 2 ≤ F)
theorem Enough.next {F : Nat} {ts : List Ru} {c d : Cas} (e : Enough (F + 1) c) (nc : c.clash = false) (m : Moved ts c d) : Enough F d := by
  rcases e.2 with h | h
  · rw [nc] at h; cases h
  · rcases m.less with q | q
    · exact ⟨by omega, .inl q⟩
    · exact ⟨by omega, .inr (by omega)⟩
theorem Enough.split {F : Nat} {c : Cas} (e : Enough (F + 1) c) (nc : c.clash = false) (h : c.Ok) {r k : Nat} {v : Int} (hr : r < c.n) (hk : k < c.cols.length) (he : c.fact r k = []) : Enough F (c.learn r k v) := by
  rcases e.2 with q | q
  · rw [nc] at q; cases q
  · have := mu_learn (v := v) h hr hk he
    exact ⟨by omega, .inr (by omega)⟩
def Closed (n : Nat) (cols : List (Option (List Int))) (cells : List (Nat × Nat)) : Prop := ∀ p ∈ cells, p.1 < n ∧ p.2 < cols.length ∧ ∃ ns, cols.getD p.2 none = some ns
theorem unknown_none {c : Cas} {cells : List (Nat × Nat)} (h : c.unknown cells = none) : ∀ p ∈ cells, c.fact p.1 p.2 ≠ [] := by
  unfold Cas.unknown at h
  rw [List.find?_eq_none] at h
  intro p hp e
  exact h p hp (by simp [e])
structure Leaf (ts : List Ru) (g : Goal) (cells : List (Nat × Nat)) (B : Int) (c L : Cas) : Prop where
  ok : L.Ok
  fine : L.Fine B
  cols : L.cols = c.cols
  n : L.n = c.n
  nc : L.clash = false
  ng : L.goal g = false
  nx : L.next ts = none
  un : L.unknown cells = none
  up : ∀ M, L.Sat M → c.Sat M
  kn : ∀ r k, r < c.n → k < c.cols.length → ∀ v ∈ c.fact r k, v ∈ L.fact r k
def ColsLt (B : Int) (cols : List (Option (List Int))) : Prop := ∀ k ns, cols.getD k none = some ns → ∀ v ∈ ns, v < B
def InCols (n : Nat) (cols : List (Option (List Int))) (M : Nat → Nat → Int) : Prop := ∀ r k ns, r < n → k < cols.length → cols.getD k none = some ns → M r k ∈ ns
/-! ## the table of a leaf -/
structure Generic (L : Cas) (B : Int) (M : Nat → Nat → Int) : Prop where
  kn : ∀ r k, r < L.n → k < L.cols.length → L.fact r k ≠ [] → M r k ∈ L.fact r k
  un : ∀ r k, r < L.n → k < L.cols.length → L.fact r k = [] → B ≤ M r k
  eq : ∀ r k r' k', r < L.n → k < L.cols.length → r' < L.n → k' < L.cols.length → L.at_ r k = L.at_ r' k' → M r k = M r' k'
  ne : ∀ r k r' k', r < L.n → k < L.cols.length → r' < L.n → k' < L.cols.length → L.fact r k = [] → L.fact r' k' = [] → M r k = M r' k' → L.at_ r k = L.at_ r' k'
section
variable {L : Cas} {B : Int} {M : Nat → Nat → Int} {ts : List Ru} {g : Goal}
theorem Generic.one (G : Generic L B M) (nc : L.clash = false) {r k : Nat} (hr : r < L.n) (hk : k < L.cols.length) : ∀ v ∈ L.fact r k, M r k = v := fun v hv => by
  obtain ⟨b1, _⟩ := zoq nc hr hk
  have ne : L.fact r k ≠ [] := fun e => by rw [e] at hv; cases hv
  have := G.kn r k hr hk ne
  match e : L.fact r k with
  | [] => exact absurd e ne
  | [a] =>
    rw [e] at hv this
    simp at hv this
    omega
  | a :: b :: l => rw [e] at b1; simp at b1
theorem Generic.sat (G : Generic L B M) (nc : L.clash = false) : L.Sat M := ⟨fun r k hr hk v hv => G.one nc hr hk v hv, G.eq⟩
theorem Generic.val (G : Generic L B M) {r k : Nat} (hr : r < L.n) (hk : k < L.cols.length) {v : Int} (hv : v < B) (e : M r k = v) : v ∈ L.fact r k := by
  by_cases q : L.fact r k = []
  · have := G.un r k hr hk q
    omega
  · exact e ▸ G.kn r k hr hk q
theorem Generic.alike (G : Generic L B M) (f : L.Fine B) {r k r' k' : Nat} (hr : r < L.n) (hk : k < L.cols.length) (hr' : r' < L.n) (hk' : k' < L.cols.length) (e : M r k = M r' k') : L.alike r k r' k' = true := by
  unfold Cas.alike
  simp only [Bool.or_eq_true, decide_eq_true_eq, List.any_eq_true]
  by_cases q : L.fact r k = []
  · by_cases q' : L.fact r' k' = []
    · exact .inl (G.ne r k r' k' hr hk hr' hk' q q' e)
    · have h1 := G.un r k hr hk q
      have h2 := f.lt _ _ (G.kn r' k' hr' hk' q')
      omega
  · have h2 := G.kn r k hr hk q
    have h3 := f.lt _ _ h2
    exact .inr ⟨M r k, h2, G.val hr' hk' h3 e.symm⟩
theorem Generic.keep (G : Generic L B M) (nc : L.clash = false) (f : L.Fine B) (nx : L.next ts = none) (ht : ∀ t ∈ ts, okRu L.cols.length t ∧ RuLt B t) : ∀ t ∈ ts, Keep L.n M t := by
  intro t hm
  obtain ⟨h1, h2⟩ := zno ts 0 nx t hm
  obtain ⟨ok, lt⟩ := ht t hm
  unfold Keep
  cases e : t.2.2 with
  | some w =>
    intro r hr hg
    have hs := h1 r hr
    unfold Cas.stepOk Cas.canStep at hs
    rw [e] at hs
    have hall : t.1.all (L.entS r) = true := by
      rw [List.all_eq_true]
      intro p hp
      unfold Cas.entS
      have q := hg p hp
      rw [q]
      have := lt.1 p hp _ q
      simpa using G.val hr (ok.g p hp) this rfl
    rw [hall] at hs
    simp only [Option.isSome_some, Bool.true_and, Bool.not_eq_false', decide_eq_true_eq] at hs
    exact G.one nc hr ok.c w hs
  | none =>
    intro n2 hg
    unfold Cas.joinOk Cas.canJoin at h2
    rw [e] at h2
    have r0 : 0 < L.n := by omega
    have r1 : 1 < L.n := by omega
    have hall : t.1.all L.entJ = true := by
      rw [List.all_eq_true]
      intro p hp
      unfold Cas.entJ
      have q := hg p hp
      cases e2 : p.2 with
      | none =>
        rw [e2] at q
        exact G.alike f r0 (ok.g p hp) r1 (ok.g p hp) q
      | some v =>
        rw [e2] at q
        have lv := lt.1 p hp v e2
        simp only [Bool.and_eq_true, decide_eq_true_eq]
        exact ⟨G.val r0 (ok.g p hp) lv q.1, G.val r1 (ok.g p hp) lv q.2⟩
    rw [hall] at h2
    simp only [n2, Option.isNone_none, decide_true, Bool.true_and, Bool.not_eq_false'] at h2
    exact (G.sat nc).alike r0 ok.c r1 ok.c h2
theorem Generic.goal (G : Generic L B M) (nc : L.clash = false) (f : L.Fine B) (hg : okGoal L.n L.cols.length g) (hb : ∀ r k v, g = .val r k v → v < B) (ng : L.goal g = false) : ¬ GoalH M g := by
  intro h
  cases g with
  | no => exact h
  | val r k v =>
    have := G.val hg.1 hg.2 (hb r k v rfl) h
    simp [Cas.goal, this] at ng
  | eq r k r' k' =>
    have := G.alike f hg.1.1 hg.1.2 hg.2.1 hg.2.2 h
    simp [Cas.goal, this] at ng
theorem Generic.cols (G : Generic L B M) (nc : L.clash = false) {cells : List (Nat × Nat)} (un : L.unknown cells = none) (all : ∀ r k ns, r < L.n → k < L.cols.length → L.cols.getD k none = some ns → (r, k) ∈ cells) : InCols L.n L.cols M := by
  intro r k ns hr hk e
  have ne := unknown_none un (r, k) (all r k ns hr hk e)
  exact (zoq nc hr hk).2 ns e _ (G.kn r k hr hk ne)
end
end DL
set_option maxHeartbeats 400000
namespace DL
open PySem PySem.Spec PyProof.Rows L2
/-! ## how many leaves -/
end DL
set_option maxHeartbeats 400000
namespace DL
open PySem PySem.Spec PyProof.Rows L2
/-! ## the case of a rule -/
def Cas.Sz (c : Cas) (K : Nat) : Prop := ∀ l, (c.facts.getD l []).length ≤ K
structure LearnR (c d : Cas) (k : Nat) (v : Int) (rows : List Nat) (B : Int) (K : Nat) : Prop where
  ok : d.Ok
  fine : d.Fine B
  sz : d.Sz (K + rows.length)
  cols : d.cols = c.cols
  n : d.n = c.n
  sat : ∀ M, d.Sat M ↔ c.Sat M ∧ ∀ r ∈ rows, M r k = v
def EntH (n : Nat) (M : Nat → Nat → Int) (p : Nat × Option Int) : Prop := match p.2 with
  | none => M 0 p.1 = M 1 p.1
  | some v => ∀ r, r < n → M r p.1 = v
structure okEnt (n m : Nat) (B : Int) (p : Nat × Option Int) : Prop where
  c : p.1 < m
  lt : ∀ v, p.2 = some v → v < B
  two : p.2 = none → n = 2
structure Given (c d : Cas) (g : Gv) (B : Int) (K : Nat) : Prop where
  ok : d.Ok
  fine : d.Fine B
  sz : d.Sz K
  cols : d.cols = c.cols
  n : d.n = c.n
  sat : ∀ M, d.Sat M ↔ c.Sat M ∧ ∀ p ∈ g, EntH c.n M p
end DL
set_option maxHeartbeats 400000
namespace DL
open PySem PySem.Spec PyProof.Rows L2
/-! ## what follows from rules -/
def closedK (cols : List (Option (List Int))) : List Nat := (List.range cols.length).filter fun k => (cols.getD k none).isSome
structure OkCols (cols : List (Option (List Int))) (B : Int) : Prop where
  m5 : cols.length ≤ 5
  lt : ColsLt B cols
  few : ∀ k ns, cols.getD k none = some ns → ns.length ≤ 3
  two : (closedK cols).length ≤ 2
structure OkRule (m : Nat) (B : Int) (t : Ru) : Prop where
  ok : okRu m t
  lt : RuLt B t
  len : t.1.length ≤ 5
  val : t.2.2.isSome = true → ∀ p ∈ t.1, p.2 ≠ none
def Cas.tab (L : Cas) (B : Int) (r k : Nat) : Int := match L.fact r k with
  | [] => B + ((L.at_ r k : Nat) : Int)
  | v :: _ => v
end DL
set_option maxHeartbeats 400000
namespace DL
open PySem PySem.Spec PyProof.Rows L2
/-! ## the rows of a leaf -/
def Cas.pick (L : Cas) (spare : Int) (m : Map) (p : Nat × Nat) : Map := if (mGet m (.inl ((L.at_ p.1 p.2 : Nat) : Int))).isSome = true then m else m ++ [(.inl ((L.at_ p.1 p.2 : Nat) : Int), match L.fact p.1 p.2 with
  | [] => spare + ((m.length : Nat) : Int)
  | v :: _ => v)]
def Cas.chosen (L : Cas) (spare : Int) : Map := (cellNs L.n L.cols.length).foldl (L.pick spare) []
def Cas.val (L : Cas) (spare : Int) (r k : Nat) : Int := (mGet (L.chosen spare) (.inl ((L.at_ r k : Nat) : Int))).getD 0
theorem mGet_snoc (m : Map) (k : Key) (v : Int) (j : Key) : mGet (m ++ [(k, v)]) j = match mGet m j with
  | some x => some x
  | none => if k = j then some v else none := by
  unfold mGet
  rw [List.find?_append]
  cases q : m.find? fun p => decide (p.1 = j) with
  | some p => simp
  | none =>
    by_cases e : k = j
    · simp [e]
    · simp [e]
structure Picked (L : Cas) (spare : Int) (ps : List (Nat × Nat)) (m : Map) : Prop where
  all : ∀ p ∈ ps, (mGet m (.inl ((L.at_ p.1 p.2 : Nat) : Int))).isSome = true
  kn : ∀ (l : Nat) v, mGet m (.inl ((l : Nat) : Int)) = some v → (∃ u us, L.facts.getD l [] = u :: us ∧ v = u) ∨ (L.facts.getD l [] = [] ∧ spare ≤ v ∧ v < spare + ((m.length : Nat) : Int))
  ne : ∀ (l l' : Nat) v, mGet m (.inl ((l : Nat) : Int)) = some v → mGet m (.inl ((l' : Nat) : Int)) = some v → L.facts.getD l [] = [] → L.facts.getD l' [] = [] → l = l'
  lt : m.length ≤ ps.length
theorem Picked.more {L : Cas} {spare : Int} {ps : List (Nat × Nat)} {m : Map} (h : Picked L spare ps m) (p : Nat × Nat) : Picked L spare (ps ++ [p]) (L.pick spare m p) := by
  unfold Cas.pick
  split
  · rename_i e
    refine ⟨fun q hq => ?_, h.kn, h.ne, by have := h.lt; simp; omega⟩
    rcases List.mem_append.mp hq with hq | hq
    · exact h.all q hq
    · simp at hq; subst hq; exact e
  · rename_i e
    have en : mGet m (.inl ((L.at_ p.1 p.2 : Nat) : Int)) = none := by
      cases q : mGet m (.inl ((L.at_ p.1 p.2 : Nat) : Int)) with
      | none => rfl
      | some v => rw [q] at e; exact absurd rfl e
    have keq : ∀ l : Nat, (Sum.inl ((L.at_ p.1 p.2 : Nat) : Int) : Key) = .inl ((l : Nat) : Int) ↔ L.at_ p.1 p.2 = l := fun l => by
      constructor
      · intro q; injection q with q; omega
      · rintro rfl; rfl
    generalize hv : (match L.fact p.1 p.2 with | [] => spare + ((m.length : Nat) : Int) | v :: _ => v) = w
    have hw : (∃ u us, L.fact p.1 p.2 = u :: us ∧ w = u) ∨ (L.fact p.1 p.2 = [] ∧ w = spare + ((m.length : Nat) : Int)) := by
      cases q : L.fact p.1 p.2 with
      | nil => rw [q] at hv; exact .inr ⟨rfl, hv.symm⟩
      | cons u us => rw [q] at hv; exact .inl ⟨u, us, rfl, hv.symm⟩
    have sp : ∀ (l : Nat) v, mGet (m ++ [(.inl ((L.at_ p.1 p.2 : Nat) : Int), w)]) (.inl ((l : Nat) : Int)) = some v → mGet m (.inl ((l : Nat) : Int)) = some v ∨ (mGet m (.inl ((l : Nat) : Int)) = none ∧ L.at_ p.1 p.2 = l ∧ v = w) := fun l v q => by
      rw [mGet_snoc] at q
      cases q2 : mGet m (.inl ((l : Nat) : Int)) with
      | some x => rw [q2] at q; simp only at q; exact .inl q
      | none =>
        rw [q2] at q
        simp only at q
        split at q
        · rename_i q3; cases q; exact .inr ⟨rfl, (keq l).mp q3, rfl⟩
        · cases q
    refine ⟨fun q hq => ?_, fun l v q => ?_, fun l l' v q q' e1 e2 => ?_, by have := h.lt; simp; omega⟩
    · rw [mGet_snoc]
      rcases List.mem_append.mp hq with hq | hq
      · have := h.all q hq
        cases q2 : mGet m (.inl ((L.at_ q.1 q.2 : Nat) : Int)) with
        | none => rw [q2] at this; cases this
        | some x => rfl
      · simp at hq
        subst hq
        rw [en]
        simp
    · rcases sp l v q with q | ⟨_, rfl, rfl⟩
      · rcases h.kn l v q with a | ⟨a, b, c⟩
        · exact .inl a
        · exact .inr ⟨a, b, by rw [List.length_append]; simp; omega⟩
      · rcases hw with a | ⟨a, b⟩
        · exact .inl a
        · exact .inr ⟨a, by omega, by rw [List.length_append]; simp; omega⟩
    · rcases sp l v q with q1 | ⟨n1, k1, w1⟩
      · rcases sp l' v q' with q2 | ⟨n2, k2, w2⟩
        · exact h.ne l l' v q1 q2 e1 e2
        · exfalso
          rcases h.kn l v q1 with ⟨u, us, a, _⟩ | ⟨_, b, c⟩
          · rw [e1] at a; cases a
          · rcases hw with ⟨u, us, a, _⟩ | ⟨a, d⟩
            · have : L.fact p.1 p.2 = [] := by rw [← k2] at e2; exact e2
              rw [this] at a; cases a
            · omega
      · rcases sp l' v q' with q2 | ⟨n2, k2, w2⟩
        · exfalso
          rcases h.kn l' v q2 with ⟨u, us, a, _⟩ | ⟨_, b, c⟩
          · rw [e2] at a; cases a
          · rcases hw with ⟨u, us, a, _⟩ | ⟨a, d⟩
            · have : L.fact p.1 p.2 = [] := by rw [← k1] at e1; exact e1
              rw [this] at a; cases a
            · omega
        · rw [← k1, ← k2]
/-! ## the cells in their order -/
end DL
set_option maxHeartbeats 4000000
namespace DL
open PySem PySem.Spec PyProof.Rows L2
section
variable {X : Cx} {W : WX} {K : PySem.W.Frag} {mg : Str → Option Value} {ι : List Addr} {F H : Hp} {S : zaf} {e a b c : Expr} {es : List Expr} {pos p apos : Pos} {k : Nat}
/-! ## x != [], of a list of anything -/
end
end DL
set_option maxHeartbeats 400000
namespace DL
open PySem PySem.Spec PyProof.Rows L2
/-! ## cases made by some learns and joins -/
theorem nodup_sub : ∀ {l V : List Int}, l.Nodup → (∀ v ∈ l, v ∈ V) → l.length ≤ V.length
  | [], V, _, _ => by simp
  | a :: l, V, h, s => by
    obtain ⟨h1, h2⟩ := List.nodup_cons.mp h
    have ha := s a (by simp)
    have := nodup_sub (l := l) (V := V.erase a) h2 fun v hv => by
      have ne : v ≠ a := fun e => h1 (e ▸ hv)
      exact (List.mem_erase_of_ne ne).mpr (s v (by simp [hv]))
    rw [List.length_erase_of_mem ha] at this
    have : 0 < V.length := List.length_pos_of_mem ha
    simp only [List.length_cons]
    omega
def Cas.In (c : Cas) (V : List Int) : Prop := ∀ l, ∀ v ∈ c.facts.getD l [], v ∈ V
theorem Cas.In.len {c : Cas} {V : List Int} {B : Int} (i : c.In V) (f : c.Fine B) (l : Nat) : (c.facts.getD l []).length ≤ V.length := nodup_sub (f.nd l) (i l)
inductive Op where
  | l (r k : Nat) (v : Int)
  | j (r k r' k' : Nat)
def Cas.op (c : Cas) : Op → Cas
  | .l r k v => c.learn r k v
  | .j r k r' k' => c.join r k r' k'
def Op.ok (n m : Nat) (B : Int) : Op → Prop
  | .l r k v => r < n ∧ k < m ∧ v < B
  | .j r k r' k' => r < n ∧ k < m ∧ r' < n ∧ k' < m
def Op.H (M : Nat → Nat → Int) : Op → Prop
  | .l r k v => M r k = v
  | .j r k r' k' => M r k = M r' k'
structure Ops (c d : Cas) (B : Int) (V : List Int) (os : List Op) : Prop where
  ok : d.Ok
  fine : d.Fine B
  vs : d.In V
  cols : d.cols = c.cols
  n : d.n = c.n
  sat : ∀ M, d.Sat M ↔ c.Sat M ∧ ∀ o ∈ os, o.H M
end DL
set_option maxHeartbeats 8000000
namespace PySem
namespace DLSetT
open L2 PyProof.Rows
section
variable {P : Program} {w : World} {A : Around} {E : Value → Shared → Prop} {s : Shared}
end
end DLSetT
end PySem
set_option maxHeartbeats 8000000
namespace DL
open PySem PySem.Spec PyProof.Rows L2
section
variable {X : Cx} {W : WX} {e a b c : Expr} {es : List Expr} {pos p : Pos} {K : PySem.W.Frag} {ι : List Addr} {F H : Hp} {S : zaf} {mg : Str → Option Value}
/-! ## sets of tuples of ints, from a list or a tuple -/
/-! ## sorted(set(x)) of tuples of ints, x a list or a tuple -/
end
end DL
set_option maxHeartbeats 8000000
namespace PySem.W
open PySem PySem.Calls PyProof.Rows
section
variable {prog : Program} {w : World} {A : Around} {E : Value → Shared → Prop} {s : Shared}
theorem sortsAt_one {v : Value} {d : PyData} {as : List Addr} (r : Reads s.heap v d as) (hal : alike d d = true) (hn : d ≠ .none) (hu : A.units + d.depth < cLine) : SortsAt prog w A s (dataKind s.heap [d]) [v] := by
  have al : AllAlike [d] := fun x hx y hy => by
    simp only [List.mem_singleton] at hx hy
    subst hx
    subst hy
    exact hal
  refine ⟨fun u hu => ?_, general', ?_, fun h2 => absurd h2 (by simp)⟩
  · simp only [List.mem_singleton] at hu
    subst hu
    exact ⟨_, dataKind_some al (List.mem_singleton.mpr rfl) r⟩
  · intro E x y a b Q ha hb hq
    obtain ⟨d1, as1, hd1, ra, rfl⟩ := dataKind_inv ha
    obtain ⟨d2, as2, hd2, rb, rfl⟩ := dataKind_inv hb
    simp only [List.mem_singleton] at hd1 hd2
    subst hd1
    subst hd2
    show wpAny _ _ (oneLt' false x y) _ _ _
    exact oneLt_alike (fun h => nomatch h) ra rb hal hn (by rw [Nat.min_self]; exact hu) hq
theorem ziw {β : Type} {R : Value → β → Prop} {enc : β → PyData} {b : β} {v : Value} {l : Addr} {Q : Value → Shared → Prop} (hl : s.heap.IsList l [v].toArray) (e : EachIs R [v] [b]) (er : ∃ as, Reads s.heap v (enc b) as) (hal : alike (enc b) (enc b) = true) (hn : enc b ≠ .none)
    (hu : A.units + 2 + (enc b).depth < cLine) (h : ∀ out, out.length = 1 → EachIs R out ([b].mergeSort (dataLe false enc)) → Q (.ref (s.heap.objs.size + 1)) { s with heap := sortedAll s.heap [v] (List.toArray out) }) :
    wpAny (model prog w) A (call (.builtin "sorted") [.ref l]) Q E s := by
  obtain ⟨as, r⟩ := er
  have r' : Reads (sortingHeap (copyHeap s.heap [v]) (s.heap.objs.size + 1) [v]) v (enc b) as := PyProof.Rows.Reads.keeps (fun _ _ => sorting_copy_old) r
  have al : AllAlike ([b].map enc) := fun x hx y hy => by
    simp only [List.map_cons, List.map_nil, List.mem_singleton] at hx hy
    subst hx
    subst hy
    exact hal
  have er' : EachIs (fun u b => ∃ as, Reads (sortingHeap (copyHeap s.heap [v]) (s.heap.objs.size + 1) [v]) u (enc b) as) [v] [b] := .cons ⟨as, r'⟩ .nil
  exact sorted_vals hl (sortsAt_one (s := { s with heap := sortingHeap (copyHeap s.heap [v]) (s.heap.objs.size + 1) [v] }) r' hal hn (by show A.in1.in1.units + _ < cLine; exact hu)) (by show 1 ≤ sizeLine; unfold sizeLine; omega)
    (h _ (sortVals_length false rfl) (by exact sortVals_data (h' := sortingHeap (copyHeap s.heap [v]) (s.heap.objs.size + 1) [v]) false e er' al))
end
end PySem.W
namespace DL
open PySem PySem.Spec PyProof.Rows L2
section
variable {X : Cx} {W : WX} {e a b c : Expr} {es : List Expr} {pos p : Pos} {K : PySem.W.Frag} {ι : List Addr} {F H : Hp} {S : zaf} {mg : Str → Option Value}
/-! ## sorted(x) of a list of one item, too -/
end
end DL
namespace DL
end DL
set_option maxHeartbeats 400000
namespace DL
open PySem PySem.Spec PyProof.Rows L2
/-! ## groups of equal cells: a case as the laws keep it -/
abbrev Cel := Nat × Nat
abbrev Grp := List Cel × List Int
abbrev Grps := List Grp
def Grps.has (G : Grps) (p : Cel) : Grp := (G.filter fun g => decide (p ∈ g.1)).headD ([], [])
def Grps.learn (G : Grps) (p : Cel) (v : Int) : Grps := G.map fun g => (g.1, if p ∈ g.1 then sset (g.2 ++ [v]) else g.2)
def Grps.join (G : Grps) (p q : Cel) : Grps := if G.has p = G.has q then G else (G.filter fun g => decide (g ≠ G.has p) && decide (g ≠ G.has q)) ++ [((G.has p).1 ++ (G.has q).1, sset ((G.has p).2 ++ (G.has q).2))]
def Grps.alike (G : Grps) (p q : Cel) : Bool := decide (G.has p = G.has q) || (G.has p).2.any fun v => decide (v ∈ (G.has q).2)
structure Rep (G : Grps) (c : Cas) : Prop where
  one : ∀ r k, r < c.n → k < c.cols.length → ∃ g ∈ G, (r, k) ∈ g.1
  inn : ∀ g ∈ G, ∀ p ∈ g.1, p.1 < c.n ∧ p.2 < c.cols.length
  ne : ∀ g ∈ G, g.1 ≠ []
  same : ∀ g ∈ G, ∀ p ∈ g.1, ∀ g' ∈ G, ∀ q ∈ g'.1, (g = g' ↔ c.at_ p.1 p.2 = c.at_ q.1 q.2)
  val : ∀ g ∈ G, ∀ p ∈ g.1, ∀ v, v ∈ g.2 ↔ v ∈ c.fact p.1 p.2
  srt : ∀ g ∈ G, g.2.Pairwise (· < ·)
section
variable {G : Grps} {c : Cas}
theorem Rep.has (h : Rep G c) {r k : Nat} (hr : r < c.n) (hk : k < c.cols.length) : G.has (r, k) ∈ G ∧ (r, k) ∈ (G.has (r, k)).1 := by
  obtain ⟨g, hg, hp⟩ := h.one r k hr hk
  unfold Grps.has
  cases e : G.filter fun g => decide ((r, k) ∈ g.1) with
  | nil =>
    have : g ∈ G.filter fun g => decide ((r, k) ∈ g.1) := List.mem_filter.mpr ⟨hg, decide_eq_true hp⟩
    rw [e] at this
    cases this
  | cons x xs =>
    have : x ∈ G.filter fun g => decide ((r, k) ∈ g.1) := by rw [e]; simp
    obtain ⟨h1, h2⟩ := List.mem_filter.mp this
    exact ⟨h1, of_decide_eq_true h2⟩
theorem Rep.eq (h : Rep G c) {r k r' k' : Nat} (hr : r < c.n) (hk : k < c.cols.length) (hr' : r' < c.n) (hk' : k' < c.cols.length) : G.has (r, k) = G.has (r', k') ↔ c.at_ r k = c.at_ r' k' := by
  obtain ⟨a, b⟩ := h.has hr hk
  obtain ⟨a', b'⟩ := h.has hr' hk'
  exact h.same _ a _ b _ a' _ b'
theorem Rep.mem (h : Rep G c) {r k : Nat} (hr : r < c.n) (hk : k < c.cols.length) (v : Int) : v ∈ (G.has (r, k)).2 ↔ v ∈ c.fact r k := by
  obtain ⟨a, b⟩ := h.has hr hk
  exact h.val _ a _ b v
theorem Rep.alike (h : Rep G c) {r k r' k' : Nat} (hr : r < c.n) (hk : k < c.cols.length) (hr' : r' < c.n) (hk' : k' < c.cols.length) : G.alike (r, k) (r', k') = c.alike r k r' k' := by
  unfold Grps.alike Cas.alike
  have e1 : decide (G.has (r, k) = G.has (r', k')) = decide (c.at_ r k = c.at_ r' k') := by rw [decide_eq_decide]; exact h.eq hr hk hr' hk'
  have e2 : ((G.has (r, k)).2.any fun v => decide (v ∈ (G.has (r', k')).2)) = (c.fact r k).any fun v => decide (v ∈ c.fact r' k') := by
    rw [Bool.eq_iff_iff]
    simp only [List.any_eq_true, decide_eq_true_eq]
    constructor
    · rintro ⟨v, a, b⟩; exact ⟨v, (h.mem hr hk v).mp a, (h.mem hr' hk' v).mp b⟩
    · rintro ⟨v, a, b⟩; exact ⟨v, (h.mem hr hk v).mpr a, (h.mem hr' hk' v).mpr b⟩
  rw [e1, e2]
theorem Rep.emp (h : Rep G c) {r k : Nat} (hr : r < c.n) (hk : k < c.cols.length) : (G.has (r, k)).2 = [] ↔ c.fact r k = [] := by
  constructor
  · intro e
    apply List.eq_nil_iff_forall_not_mem.mpr
    intro v hv
    have := (h.mem hr hk v).mpr hv
    rw [e] at this
    cases this
  · intro e
    apply List.eq_nil_iff_forall_not_mem.mpr
    intro v hv
    have := (h.mem hr hk v).mp hv
    rw [e] at this
    cases this
theorem Rep.learn (h : Rep G c) (ok : c.Ok) {r k : Nat} {v : Int} (hr : r < c.n) (hk : k < c.cols.length) : Rep (G.learn (r, k) v) (c.learn r k v) := by
  obtain ⟨a0, b0⟩ := h.has hr hk
  have iff_ : ∀ g ∈ G, ∀ p ∈ g.1, ((r, k) ∈ g.1 ↔ c.at_ p.1 p.2 = c.at_ r k) := fun g hg p hp => by
    constructor
    · intro hm
      exact (h.same g hg p hp g hg (r, k) hm).mp rfl
    · intro e
      have := (h.same g hg p hp _ a0 (r, k) b0).mpr e
      rw [this]; exact b0
  constructor
  · intro r' k' hr' hk'
    rw [learn_n] at hr'
    rw [zl8] at hk'
    obtain ⟨g, hg, hp⟩ := h.one r' k' hr' hk'
    exact ⟨_, List.mem_map.mpr ⟨g, hg, rfl⟩, hp⟩
  · intro x hx p hp
    obtain ⟨g, hg, rfl⟩ := List.mem_map.mp hx
    rw [learn_n, zl8]
    exact h.inn g hg p hp
  · intro x hx
    obtain ⟨g, hg, rfl⟩ := List.mem_map.mp hx
    exact h.ne g hg
  · intro x hx p hp x' hx' q hq
    obtain ⟨g, hg, rfl⟩ := List.mem_map.mp hx
    obtain ⟨g', hg', rfl⟩ := List.mem_map.mp hx'
    rw [zi9, zi9, ← h.same g hg p hp g' hg' q hq]
    constructor
    · intro e
      have e1 : g.1 = g'.1 := (Prod.mk.inj e).1
      have hp' : p ∈ g'.1 := by rw [← e1]; exact hp
      exact (h.same g hg p hp g' hg' p hp').mpr rfl
    · intro e; rw [e]
  · intro x hx p hp u
    obtain ⟨g, hg, rfl⟩ := List.mem_map.mp hx
    obtain ⟨i1, i2⟩ := h.inn g hg p hp
    rw [zo9 ok hr hk, ← h.val g hg p hp u]
    have q := iff_ g hg p hp
    show u ∈ (if (r, k) ∈ g.1 then sset (g.2 ++ [v]) else g.2) ↔ _
    by_cases hm : (r, k) ∈ g.1
    · rw [if_pos hm, zg4]
      simp only [List.mem_append, List.mem_singleton, q.mp hm, true_and]
    · rw [if_neg hm]
      have : ¬ c.at_ p.1 p.2 = c.at_ r k := fun e => hm (q.mpr e)
      simp only [this, false_and, or_false]
  · intro x hx
    obtain ⟨g, hg, rfl⟩ := List.mem_map.mp hx
    show (if (r, k) ∈ g.1 then sset (g.2 ++ [v]) else g.2).Pairwise (· < ·)
    split
    · exact ze4 _
    · exact h.srt g hg
theorem Rep.join (h : Rep G c) (ok : c.Ok) {r k r' k' : Nat} (hr : r < c.n) (hk : k < c.cols.length) (hr' : r' < c.n) (hk' : k' < c.cols.length) : Rep (G.join (r, k) (r', k')) (c.join r k r' k') := by
  by_cases e : c.at_ r k = c.at_ r' k'
  · have q : c.join r k r' k' = c := by unfold Cas.join; rw [if_pos e]
    unfold Grps.join
    rw [if_pos ((h.eq hr hk hr' hk').mpr e), q]
    exact h
  · have j := join_is ok hr hk hr' hk' e
    have hne : ¬ G.has (r, k) = G.has (r', k') := fun q => e ((h.eq hr hk hr' hk').mp q)
    obtain ⟨a, b⟩ := h.has hr hk
    obtain ⟨a', b'⟩ := h.has hr' hk'
    unfold Grps.join
    rw [if_neg hne]
    -- what a cell's label is now
    have at1 : ∀ g ∈ G, ∀ p ∈ g.1, (c.join r k r' k').at_ p.1 p.2 = if g = G.has (r', k') then c.at_ r k else c.at_ p.1 p.2 := fun g hg p hp => by
      obtain ⟨i1, i2⟩ := h.inn g hg p hp
      rw [j.at_ p.1 p.2 i1 i2]
      have := h.same g hg p hp _ a' _ b'
      by_cases q : g = G.has (r', k')
      · rw [if_pos q, if_pos (this.mp q)]
      · rw [if_neg q, if_neg (fun z => q (this.mpr z))]
    have atA : ∀ p ∈ (G.has (r, k)).1, c.at_ p.1 p.2 = c.at_ r k := fun p hp => (h.same _ a p hp _ a _ b).mp rfl
    have atB : ∀ p ∈ (G.has (r', k')).1, c.at_ p.1 p.2 = c.at_ r' k' := fun p hp => (h.same _ a' p hp _ a' _ b').mp rfl
    have new1 : ∀ p ∈ (G.has (r, k)).1 ++ (G.has (r', k')).1, (c.join r k r' k').at_ p.1 p.2 = c.at_ r k := fun p hp => by
      rcases List.mem_append.mp hp with hp | hp
      · rw [at1 _ a p hp, if_neg hne]; exact atA p hp
      · rw [at1 _ a' p hp, if_pos rfl]
    have old : ∀ g, g ∈ (G.filter fun g => decide (g ≠ G.has (r, k)) && decide (g ≠ G.has (r', k'))) ↔ g ∈ G ∧ g ≠ G.has (r, k) ∧ g ≠ G.has (r', k') := fun g => by
      rw [List.mem_filter, Bool.and_eq_true, decide_eq_true_eq, decide_eq_true_eq]
    have oldat : ∀ g, g ∈ G → g ≠ G.has (r, k) → g ≠ G.has (r', k') → ∀ p ∈ g.1, (c.join r k r' k').at_ p.1 p.2 = c.at_ p.1 p.2 ∧ c.at_ p.1 p.2 ≠ c.at_ r k := fun g hg n1 n2 p hp => by
      refine ⟨by rw [at1 g hg p hp, if_neg n2], fun z => n1 ((h.same g hg p hp _ a _ b).mpr z)⟩
    have fc : ∀ p : Cel, ∀ u, u ∈ (c.join r k r' k').fact p.1 p.2 ↔ u ∈ c.facts.getD ((c.join r k r' k').at_ p.1 p.2) [] ∨ ((c.join r k r' k').at_ p.1 p.2 = c.at_ r k ∧ u ∈ c.facts.getD (c.at_ r' k') []) := fun p u => j.mem _ u
    constructor
    · intro s l hs hl
      rw [j.n] at hs
      rw [j.cols] at hl
      obtain ⟨g, hg, hp⟩ := h.one s l hs hl
      by_cases n1 : g = G.has (r, k)
      · exact ⟨_, List.mem_append_right _ (List.mem_singleton.mpr rfl), List.mem_append_left _ (by rw [← n1]; exact hp)⟩
      · by_cases n2 : g = G.has (r', k')
        · exact ⟨_, List.mem_append_right _ (List.mem_singleton.mpr rfl), List.mem_append_right _ (by rw [← n2]; exact hp)⟩
        · exact ⟨g, List.mem_append_left _ ((old g).mpr ⟨hg, n1, n2⟩), hp⟩
    · intro g hg p hp
      rw [j.n, j.cols]
      rcases List.mem_append.mp hg with hg | hg
      · exact h.inn g ((old g).mp hg).1 p hp
      · rw [List.mem_singleton] at hg
        subst hg
        rcases List.mem_append.mp hp with hp | hp
        · exact h.inn _ a p hp
        · exact h.inn _ a' p hp
    · intro g hg
      rcases List.mem_append.mp hg with hg | hg
      · exact h.ne g ((old g).mp hg).1
      · rw [List.mem_singleton] at hg
        subst hg
        intro z
        have := h.ne _ a
        exact this (List.append_eq_nil_iff.mp z).1
    · intro g hg p hp g' hg' q hq
      rcases List.mem_append.mp hg with hg | hg
      · obtain ⟨g1, g2, g3⟩ := (old g).mp hg
        obtain ⟨o1, o2⟩ := oldat g g1 g2 g3 p hp
        rcases List.mem_append.mp hg' with hg' | hg'
        · obtain ⟨k1, k2, k3⟩ := (old g').mp hg'
          obtain ⟨o3, o4⟩ := oldat g' k1 k2 k3 q hq
          rw [o1, o3]
          exact h.same g g1 p hp g' k1 q hq
        · rw [List.mem_singleton] at hg'
          subst hg'
          rw [new1 q hq, o1]
          refine ⟨fun z => ?_, fun z => absurd z o2⟩
          exfalso
          have b2 : (r, k) ∈ g.1 := by rw [z]; exact List.mem_append_left _ b
          exact g2 ((h.same g g1 _ b2 _ a _ b).mpr rfl)
      · rw [List.mem_singleton] at hg
        subst hg
        rcases List.mem_append.mp hg' with hg' | hg'
        · obtain ⟨k1, k2, k3⟩ := (old g').mp hg'
          obtain ⟨o3, o4⟩ := oldat g' k1 k2 k3 q hq
          rw [new1 p hp, o3]
          refine ⟨fun z => ?_, fun z => absurd z.symm o4⟩
          exfalso
          have b2 : (r, k) ∈ g'.1 := by rw [← z]; exact List.mem_append_left _ b
          exact k2 ((h.same g' k1 _ b2 _ a _ b).mpr rfl)
        · rw [List.mem_singleton] at hg'
          subst hg'
          rw [new1 p hp, new1 q hq]
          exact ⟨fun _ => rfl, fun _ => rfl⟩
    · intro g hg p hp u
      rcases List.mem_append.mp hg with hg | hg
      · obtain ⟨g1, g2, g3⟩ := (old g).mp hg
        obtain ⟨o1, o2⟩ := oldat g g1 g2 g3 p hp
        rw [fc p u, o1, h.val g g1 p hp u]
        constructor
        · intro z; exact .inl z
        · rintro (z | ⟨z, _⟩)
          · exact z
          · exact absurd z o2
      · rw [List.mem_singleton] at hg
        subst hg
        show u ∈ sset ((G.has (r, k)).2 ++ (G.has (r', k')).2) ↔ _
        rw [fc p u, new1 p hp, zg4, List.mem_append, h.mem hr hk u, h.mem hr' hk' u]
        simp only [true_and]
        rfl
    · intro g hg
      rcases List.mem_append.mp hg with hg | hg
      · exact h.srt g ((old g).mp hg).1
      · rw [List.mem_singleton] at hg
        subst hg
        exact ze4 _
def Grps.clash (G : Grps) (cols : List (Option (List Int))) : Bool := G.any fun g => decide (1 < g.2.length) || g.1.any fun p => g.2.any fun v => !decide (v ∈ (cols.getD p.2 none).getD g.2)
theorem Rep.len (h : Rep G c) {B : Int} (f : c.Fine B) {g : Grp} (hg : g ∈ G) {p : Cel} (hp : p ∈ g.1) : g.2.length = (c.fact p.1 p.2).length := by
  have n1 : g.2.Nodup := (h.srt g hg).imp fun x => by omega
  exact ((List.perm_ext_iff_of_nodup n1 (f.nd _)).mpr (h.val g hg p hp)).length_eq
theorem Rep.clash (h : Rep G c) {B : Int} (f : c.Fine B) : G.clash c.cols = c.clash := by
  rw [Bool.eq_iff_iff]
  unfold Grps.clash Cas.clash
  simp only [List.any_eq_true, Bool.or_eq_true, decide_eq_true_eq, Bool.not_eq_true', decide_eq_false_iff_not]
  constructor
  · rintro ⟨g, hg, q⟩
    have two : ∃ p ∈ g.1, c.badAt p.1 p.2 = true := by
      rcases q with q | ⟨p, hp, v, hv, q⟩
      · obtain ⟨p, ps, e⟩ : ∃ p ps, g.1 = p :: ps := by
          cases e : g.1 with
          | nil => exact absurd e (h.ne g hg)
          | cons p ps => exact ⟨p, ps, rfl⟩
        have hp : p ∈ g.1 := by rw [e]; simp
        refine ⟨p, hp, ?_⟩
        unfold Cas.badAt
        have := h.len f hg hp
        have : 1 < (c.fact p.1 p.2).length := by omega
        simp [this]
      · refine ⟨p, hp, ?_⟩
        unfold Cas.badAt
        have hv2 := (h.val g hg p hp v).mp hv
        cases e : c.cols.getD p.2 none with
        | none => rw [e] at q; exact absurd hv q
        | some ns =>
          rw [e] at q
          simp only [Bool.or_eq_true]
          right
          exact List.any_eq_true.mpr ⟨v, hv2, by simpa using q⟩
    obtain ⟨p, hp, q⟩ := two
    obtain ⟨i1, i2⟩ := h.inn g hg p hp
    exact ⟨p, mem_cellNs.mpr ⟨i1, i2⟩, q⟩
  · rintro ⟨⟨r, k⟩, hp, q⟩
    obtain ⟨hr, hk⟩ := mem_cellNs.mp hp
    obtain ⟨a, b⟩ := h.has hr hk
    refine ⟨_, a, ?_⟩
    unfold Cas.badAt at q
    rw [Bool.or_eq_true] at q
    rcases q with q | q
    · left
      have l : (G.has (r, k)).2.length = (c.fact r k).length := h.len f a b
      rw [l]
      simpa using q
    · right
      refine ⟨(r, k), b, ?_⟩
      cases e : c.cols.getD k none with
      | none => rw [e] at q; simp at q
      | some ns =>
        rw [e] at q
        obtain ⟨v, hv, q⟩ := List.any_eq_true.mp q
        exact ⟨v, (h.mem hr hk v).mpr hv, by simpa using q⟩
def Grps.goal (G : Grps) : Goal → Bool
  | .no => false
  | .val r k v => decide (v ∈ (G.has (r, k)).2)
  | .eq r k r' k' => G.alike (r, k) (r', k')
theorem Rep.goal (h : Rep G c) {g : Goal} (hg : okGoal c.n c.cols.length g) : G.goal g = c.goal g := by
  cases g with
  | no => rfl
  | val r k v => show decide _ = decide _; rw [decide_eq_decide]; exact h.mem hg.1 hg.2 v
  | eq r k r' k' => exact h.alike hg.1.1 hg.1.2 hg.2.1 hg.2.2
def Grps.can (G : Grps) (g : Gv) (lines : List Nat) : Bool := g.all fun p => match p.2 with
  | none => G.alike (0, p.1) (1, p.1)
  | some v => lines.all fun r => decide (v ∈ (G.has (r, p.1)).2)
theorem Rep.canStep (h : Rep G c) {t : Ru} (ht : okRu c.cols.length t) {r : Nat} (hr : r < c.n) {w : Int} (hw : t.2.2 = some w) (full : ∀ p ∈ t.1, p.2 ≠ none) : G.can t.1 [r] = c.canStep t r := by
  unfold Grps.can Cas.canStep
  rw [hw]
  simp only [Option.isSome_some, Bool.true_and]
  rw [Bool.eq_iff_iff, List.all_eq_true, List.all_eq_true]
  refine forall_congr' fun p => forall_congr' fun hp => ?_
  unfold Cas.entS
  cases e : p.2 with
  | none => exact absurd e (full p hp)
  | some v =>
    simp only [List.all_cons, List.all_nil, Bool.and_true, decide_eq_true_eq]
    exact h.mem hr (ht.g p hp) v
theorem Rep.canJoin (h : Rep G c) {t : Ru} (ht : okRu c.cols.length t) (n2 : c.n = 2) (hw : t.2.2 = none) : G.can t.1 [0, 1] = c.canJoin t := by
  unfold Grps.can Cas.canJoin
  rw [hw]
  simp only [Option.isNone_none, Bool.true_and, n2, decide_true]
  rw [Bool.eq_iff_iff, List.all_eq_true, List.all_eq_true]
  refine forall_congr' fun p => forall_congr' fun hp => ?_
  unfold Cas.entJ
  have hp1 := ht.g p hp
  cases e : p.2 with
  | none => rw [h.alike (by omega) hp1 (by omega) hp1]
  | some v =>
    simp only [List.all_cons, List.all_nil, Bool.and_true, Bool.and_eq_true, decide_eq_true_eq]
    rw [h.mem (by omega) hp1 v, h.mem (by omega) hp1 v]
end
end DL
set_option maxHeartbeats 400000
namespace DL
open PySem PySem.Spec PyProof.Rows L2
/-! ## what is left when only some cells are split -/
def InColsS (n : Nat) (cols : List (Option (List Int))) (cells : List Cel) (B : Int) (M : Nat → Nat → Int) : Prop := ∀ r k ns, r < n → k < cols.length → cols.getD k none = some ns → M r k ∈ ns ∨ ((r, k) ∉ cells ∧ B ≤ M r k)
def Open (ts : List Ru) (g : Goal) (cells : List Cel) (B : Int) (c : Cas) : Prop := ∃ M, c.Sat M ∧ (∀ t ∈ ts, Keep c.n M t) ∧ InColsS c.n c.cols cells B M ∧ ¬ GoalH M g
end DL
set_option maxHeartbeats 400000
namespace DL
open PySem PySem.Spec PyProof.Rows L2
/-! ## all steps and joins, as the laws make them -/
structure Inv (cols : List (Option (List Int))) (n : Nat) (V : List Int) (B : Int) (c : Cas) : Prop where
  ok : c.Ok
  fine : c.Fine B
  vs : c.In V
  co : c.cols = cols
  nn : c.n = n
section
variable {cols : List (Option (List Int))} {n : Nat} {V : List Int} {B : Int} {c d e : Cas}
theorem Inv.learn (I : Inv cols n V B c) (hV : V.length ≤ 32) {r k : Nat} {v : Int} (hr : r < n) (hk : k < cols.length) (hv : v ∈ V) (hb : v < B) : Inv cols n V B (c.learn r k v) := by
  have hr' : r < c.n := by rw [I.nn]; exact hr
  have hk' : k < c.cols.length := by rw [I.co]; exact hk
  refine ⟨I.ok.learn hr' hk' ?_, I.fine.learn I.ok hr' hk' hb, fun l u hu => ?_, (zl8 ..).trans I.co, (learn_n ..).trans I.nn⟩
  · have := I.vs.len I.fine (c.at_ r k)
    unfold Cas.fact
    omega
  · rw [zdn c r k v (I.ok.lt hr' hk')] at hu
    split at hu
    · rcases List.mem_append.mp hu with q | q
      · exact I.vs l u q
      · rw [List.mem_singleton] at q; rw [q]; exact hv
    · exact I.vs l u hu
theorem Inv.join (I : Inv cols n V B c) (hV : V.length ≤ 32) {r k r' k' : Nat} (hr : r < n) (hk : k < cols.length) (hr' : r' < n) (hk' : k' < cols.length) : Inv cols n V B (c.join r k r' k') := by
  have a1 : r < c.n := by rw [I.nn]; exact hr
  have a2 : k < c.cols.length := by rw [I.co]; exact hk
  have a3 : r' < c.n := by rw [I.nn]; exact hr'
  have a4 : k' < c.cols.length := by rw [I.co]; exact hk'
  by_cases e : c.at_ r k = c.at_ r' k'
  · have q : c.join r k r' k' = c := by unfold Cas.join; rw [if_pos e]
    rw [q]; exact I
  · have j := join_is I.ok a1 a2 a3 a4 e
    have s1 := I.vs.len I.fine (c.at_ r k)
    have s2 := I.vs.len I.fine (c.at_ r' k')
    refine ⟨j.ok I.ok (I.ok.lt a1 a2) (by omega), I.fine.join I.ok a1 a2 a3 a4, fun l u hu => ?_, j.cols.trans I.co, j.n.trans I.nn⟩
    rcases (j.mem l u).mp hu with q | ⟨_, q⟩
    · exact I.vs _ _ q
    · exact I.vs _ _ q
structure Mono (n m : Nat) (c d : Cas) : Prop where
  kn : ∀ r k, r < n → k < m → ∀ v ∈ c.fact r k, v ∈ d.fact r k
  eq : ∀ r k r' k', r < n → k < m → r' < n → k' < m → c.at_ r k = c.at_ r' k' → d.at_ r k = d.at_ r' k'
theorem Mono.refl (n m : Nat) (c : Cas) : Mono n m c c := ⟨fun _ _ _ _ _ h => h, fun _ _ _ _ _ _ _ _ h => h⟩
theorem Mono.trans {m : Nat} (a : Mono n m c d) (b : Mono n m d e) : Mono n m c e := ⟨fun r k hr hk v hv => b.kn r k hr hk v (a.kn r k hr hk v hv), fun r k r' k' h1 h2 h3 h4 h => b.eq r k r' k' h1 h2 h3 h4 (a.eq r k r' k' h1 h2 h3 h4 h)⟩
def EqS (ts : List Ru) (n : Nat) (c d : Cas) : Prop := ∀ M, (∀ t ∈ ts, Keep n M t) → (d.Sat M ↔ c.Sat M)
theorem EqS.refl (ts : List Ru) (n : Nat) (c : Cas) : EqS ts n c c := fun _ _ => Iff.rfl
theorem EqS.trans {ts : List Ru} (a : EqS ts n c d) (b : EqS ts n d e) : EqS ts n c e := fun M k => (b M k).trans (a M k)
structure Went (ts : List Ru) (cols : List (Option (List Int))) (n : Nat) (V : List Int) (B : Int) (c : Cas) (G' : Grps) (d : Cas) : Prop where
  rep : Rep G' d
  inv : Inv cols n V B d
  eqs : EqS ts n c d
  mono : Mono n cols.length c d
theorem Went.trans {ts : List Ru} {G1 G2 : Grps} (a : Went ts cols n V B c G1 d) (b : Went ts cols n V B d G2 e) : Went ts cols n V B c G2 e := ⟨b.rep, b.inv, a.eqs.trans b.eqs, a.mono.trans b.mono⟩
def Grps.stepR (t : Ru) (w : Int) (G : Grps) (r : Nat) : Grps := if G.can t.1 [r] = true then G.learn (r, t.2.1) w else G
def Grps.roundR (n : Nat) (G : Grps) (t : Ru) : Grps := match t.2.2 with
  | none => if n = 2 ∧ G.can t.1 [0, 1] = true then G.join (0, t.2.1) (1, t.2.1) else G
  | some w => (List.range n).foldl (Grps.stepR t w) G
def Grps.round (ts : List Ru) (n : Nat) (G : Grps) : Grps := ts.foldl (Grps.roundR n) G
structure RulesV (ts : List Ru) (m : Nat) (V : List Int) (B : Int) : Prop where
  ok : ∀ t ∈ ts, okRu m t
  v : ∀ t ∈ ts, ∀ w, t.2.2 = some w → w ∈ V ∧ w < B
  full : ∀ t ∈ ts, t.2.2.isSome = true → ∀ p ∈ t.1, p.2 ≠ none
def Grps.chase (ts : List Ru) (n : Nat) : Nat → Grps → Grps
  | 0, G => G
  | k + 1, G => if G.round ts n = G then G else Grps.chase ts n k (G.round ts n)
end
end DL
set_option maxHeartbeats 400000
namespace DL
open PySem PySem.Spec PyProof.Rows L2
/-! ## the chase comes to rest -/
def opsOf (n : Nat) (t : Ru) : List (Ru × Nat) := match t.2.2 with
  | some _ => (List.range n).map fun r => (t, r)
  | none => if n = 2 then [(t, 0)] else []
def Grps.op (G : Grps) (o : Ru × Nat) : Grps := match o.1.2.2 with
  | some w => G.stepR o.1 w o.2
  | none => if G.can o.1.1 [0, 1] = true then G.join (0, o.1.2.1) (1, o.1.2.1) else G
def Cas.canO (c : Cas) (o : Ru × Nat) : Bool := match o.1.2.2 with
  | some _ => c.canStep o.1 o.2
  | none => c.canJoin o.1
def Cas.doneO (c : Cas) (o : Ru × Nat) : Bool := match o.1.2.2 with
  | some w => decide (w ∈ c.fact o.2 o.1.2.1)
  | none => decide (c.at_ 0 o.1.2.1 = c.at_ 1 o.1.2.1)
section
variable {cols : List (Option (List Int))} {n : Nat} {V : List Int} {B : Int} {c d e : Cas} {ts : List Ru}
theorem mem_ops {o : Ru × Nat} : o ∈ ts.flatMap (opsOf n) ↔ o.1 ∈ ts ∧ ((∃ w, o.1.2.2 = some w ∧ o.2 < n) ∨ (o.1.2.2 = none ∧ n = 2 ∧ o.2 = 0)) := by
  rw [List.mem_flatMap]
  obtain ⟨t, r⟩ := o
  constructor
  · rintro ⟨u, hu, h⟩
    unfold opsOf at h
    cases e : u.2.2 with
    | some w =>
      rw [e] at h
      simp only [List.mem_map, List.mem_range, Prod.mk.injEq] at h
      obtain ⟨a, ha, rfl, rfl⟩ := h
      exact ⟨hu, .inl ⟨w, e, ha⟩⟩
    | none =>
      rw [e] at h
      simp only at h
      split at h
      · rename_i n2
        simp only [List.mem_singleton, Prod.mk.injEq] at h
        obtain ⟨rfl, rfl⟩ := h
        exact ⟨hu, .inr ⟨e, n2, rfl⟩⟩
      · cases h
  · rintro ⟨hu, h⟩
    refine ⟨t, hu, ?_⟩
    unfold opsOf
    rcases h with ⟨w, e, h⟩ | ⟨e, n2, h⟩
    · simp only at e h
      rw [e]
      simp only [List.mem_map, List.mem_range, Prod.mk.injEq, true_and]
      exact ⟨r, h, rfl⟩
    · simp only at e h
      rw [e]
      subst h
      simp [n2]
theorem Mono.canO (m : Mono n cols.length c d) (Ic : Inv cols n V B c) (Id : Inv cols n V B d) {o : Ru × Nat} (ho : o ∈ ts.flatMap (opsOf n)) (hts : RulesV ts cols.length V B) (h : c.canO o = true) : d.canO o = true := by
  obtain ⟨hm, q⟩ := mem_ops.mp ho
  have ht := hts.ok _ hm
  unfold Cas.canO at h ⊢
  rcases q with ⟨w, e, hr⟩ | ⟨e, n2, _⟩
  · rw [e] at h ⊢
    simp only at h ⊢
    unfold Cas.canStep at h ⊢
    rw [Bool.and_eq_true, List.all_eq_true] at h ⊢
    refine ⟨h.1, fun p hp => ?_⟩
    have := h.2 p hp
    unfold Cas.entS at this ⊢
    cases q : p.2 with
    | none => exact absurd q (hts.full _ hm (by rw [e]; rfl) p hp)
    | some v =>
      rw [q] at this
      simp only [decide_eq_true_eq] at this ⊢
      exact m.kn _ _ hr (ht.g p hp) v this
  · rw [e] at h ⊢
    simp only at h ⊢
    unfold Cas.canJoin at h ⊢
    rw [Bool.and_eq_true, Bool.and_eq_true, List.all_eq_true] at h ⊢
    refine ⟨h.1, by rw [Id.nn]; exact decide_eq_true n2, fun p hp => ?_⟩
    have hp1 := ht.g p hp
    have := h.2.2 p hp
    unfold Cas.entJ at this ⊢
    cases q : p.2 with
    | none =>
      rw [q] at this
      simp only at this ⊢
      unfold Cas.alike at this ⊢
      rw [Bool.or_eq_true, decide_eq_true_eq, List.any_eq_true] at this ⊢
      rcases this with z | ⟨v, hv, z⟩
      · exact .inl (m.eq 0 p.1 1 p.1 (by omega) hp1 (by omega) hp1 z)
      · refine .inr ⟨v, m.kn 0 p.1 (by omega) hp1 v hv, ?_⟩
        rw [decide_eq_true_eq] at z ⊢
        exact m.kn 1 p.1 (by omega) hp1 v z
    | some v =>
      rw [q] at this
      simp only [Bool.and_eq_true, decide_eq_true_eq] at this ⊢
      exact ⟨m.kn 0 p.1 (by omega) hp1 v this.1, m.kn 1 p.1 (by omega) hp1 v this.2⟩
theorem Mono.doneO (m : Mono n cols.length c d) {o : Ru × Nat} (ho : o ∈ ts.flatMap (opsOf n)) (hts : RulesV ts cols.length V B) (h : c.doneO o = true) : d.doneO o = true := by
  obtain ⟨hm, q⟩ := mem_ops.mp ho
  have ht := hts.ok _ hm
  unfold Cas.doneO at h ⊢
  rcases q with ⟨w, e, hr⟩ | ⟨e, n2, _⟩
  · rw [e] at h ⊢
    simp only [decide_eq_true_eq] at h ⊢
    exact m.kn _ _ hr ht.c w h
  · rw [e] at h ⊢
    simp only [decide_eq_true_eq] at h ⊢
    exact m.eq 0 _ 1 _ (by omega) ht.c (by omega) ht.c h
structure OpW (ts : List Ru) (cols : List (Option (List Int))) (n : Nat) (V : List Int) (B : Int) (c : Cas) (G : Grps) (os : List (Ru × Nat)) (G' : Grps) (d : Cas) : Prop where
  went : Went ts cols n V B c G' d
  aft : ∀ o ∈ os, c.canO o = true → d.doneO o = true
  new : G' = G ∨ ∃ o ∈ ts.flatMap (opsOf n), c.doneO o = false ∧ d.doneO o = true
end
end DL
set_option maxHeartbeats 400000
namespace DL
open PySem PySem.Spec PyProof.Rows L2
/-! ## whether a case stays open, as the laws ask it -/
section
variable {cols : List (Option (List Int))} {n : Nat} {V : List Int} {B : Int} {c d e : Cas} {ts : List Ru} {g : Goal} {cells : List Cel}
theorem Open.went {G : Grps} (I : Inv cols n V B c) (a : Went ts cols n V B c G d) : Open ts g cells B d ↔ Open ts g cells B c := by
  have n1 : d.n = c.n := by rw [I.nn, a.inv.nn]
  have c1 : d.cols = c.cols := by rw [I.co, a.inv.co]
  unfold Open
  rw [n1, c1]
  constructor
  · rintro ⟨M, s, k, i, h⟩
    exact ⟨M, (a.eqs M (by rw [← I.nn]; exact k)).mp s, k, i, h⟩
  · rintro ⟨M, s, k, i, h⟩
    exact ⟨M, (a.eqs M (by rw [← I.nn]; exact k)).mpr s, k, i, h⟩
theorem Rep.unknown {G : Grps} (h : Rep G c) (hc : Closed c.n c.cols cells) : (cells.find? fun p => (G.has p).2.isEmpty) = c.unknown cells := by
  unfold Cas.unknown
  have : ∀ p ∈ cells, (G.has p).2.isEmpty = (c.fact p.1 p.2).isEmpty := fun p hp => by
    obtain ⟨h1, h2, _⟩ := hc p hp
    rw [Bool.eq_iff_iff, List.isEmpty_iff, List.isEmpty_iff]
    exact h.emp h1 h2
  clear hc
  induction cells with
  | nil => rfl
  | cons p ps ih =>
    rw [List.find?_cons, List.find?_cons, this p (by simp), ih fun x hx => this x (by simp [hx])]
end
end DL
set_option maxHeartbeats 400000
namespace DL
open PySem PySem.Spec PyProof.Rows L2
/-! ## groups stay small -/
def gW (g : Grp) : Nat := g.1.length + 1
def Tidy (N : Nat) (G : Grps) : Prop := (G.map gW).sum ≤ N
theorem sum_two {α : Type} (f : α → Nat) (q p : α → Bool) : ∀ {l : List α}, (∀ x ∈ l, q x = true → p x = true) → ((l.filter q).map f).sum ≤ ((l.filter p).map f).sum
  | [], _ => by simp
  | y :: l, h => by
    have ih := sum_two f q p (l := l) fun x hx => h x (by simp [hx])
    cases e : p y with
    | true =>
      rw [List.filter_cons_of_pos (p := p) (by rw [e]), List.map_cons, List.sum_cons]
      cases e2 : q y with
      | true => rw [List.filter_cons_of_pos (p := q) (by rw [e2]), List.map_cons, List.sum_cons]; omega
      | false => rw [List.filter_cons_of_neg (p := q) (by rw [e2]; decide)]; omega
    | false =>
      have e2 : q y = false := by
        cases e2 : q y with
        | false => rfl
        | true => rw [h y (by simp) e2] at e; cases e
      rw [List.filter_cons_of_neg (p := p) (by rw [e]; decide), List.filter_cons_of_neg (p := q) (by rw [e2]; decide)]
      exact ih
theorem zps {α : Type} (f : α → Nat) (q p : α → Bool) (a : α) (hp : p a = true) (hq : q a = false) : ∀ {l : List α}, (∀ x ∈ l, q x = true → p x = true) → a ∈ l → ((l.filter q).map f).sum + f a ≤ ((l.filter p).map f).sum
  | [], _, h => by cases h
  | y :: l, hh, h => by
    have hl : ∀ x ∈ l, q x = true → p x = true := fun x hx => hh x (by simp [hx])
    rcases List.mem_cons.mp h with z | z
    · subst z
      have := sum_two f q p hl
      rw [List.filter_cons_of_pos (p := p) (by rw [hp]), List.map_cons, List.sum_cons, List.filter_cons_of_neg (p := q) (by rw [hq]; decide)]
      omega
    · have ih := zps f q p a hp hq hl z
      cases e : p y with
      | true =>
        rw [List.filter_cons_of_pos (p := p) (by rw [e]), List.map_cons, List.sum_cons]
        cases e2 : q y with
        | true => rw [List.filter_cons_of_pos (p := q) (by rw [e2]), List.map_cons, List.sum_cons]; omega
        | false => rw [List.filter_cons_of_neg (p := q) (by rw [e2]; decide)]; omega
      | false =>
        have e2 : q y = false := by
          cases e2 : q y with
          | false => rfl
          | true => rw [hh y (by simp) e2] at e; cases e
        rw [List.filter_cons_of_neg (p := p) (by rw [e]; decide), List.filter_cons_of_neg (p := q) (by rw [e2]; decide)]
        exact ih
theorem zk7 {α : Type} (f : α → Nat) (p : α → Bool) : ∀ l : List α, ((l.filter p).map f).sum ≤ (l.map f).sum
  | [] => by simp
  | y :: l => by
    have := zk7 f p l
    rw [List.filter_cons, List.map_cons, List.sum_cons]
    split
    · rw [List.map_cons, List.sum_cons]; omega
    · omega
theorem Tidy.learn {N : Nat} {G : Grps} (h : Tidy N G) (p : Cel) (v : Int) : Tidy N (G.learn p v) := by
  unfold Tidy Grps.learn at *
  rw [List.map_map]
  exact h
theorem Tidy.join {N : Nat} {G : Grps} (h : Tidy N G) {p q : Cel} (hp : G.has p ∈ G) (hq : G.has q ∈ G) : Tidy N (G.join p q) := by
  unfold Grps.join
  by_cases e : G.has p = G.has q
  · rw [if_pos e]; exact h
  · rw [if_neg e]
    unfold Tidy at *
    rw [List.map_append, List.sum_append, List.map_singleton, List.sum_singleton]
    have a := zps gW (fun x => decide (x ≠ G.has p) && decide (x ≠ G.has q)) (fun x => decide (x ≠ G.has q)) (G.has p) (by simpa using e) (by simp) (l := G) (fun x _ z => (Bool.and_eq_true _ _ ▸ z : _ ∧ _).2) hp
    have b := zps gW (fun x => decide (x ≠ G.has q)) (fun _ => true) (G.has q) rfl (by simp) (l := G) (fun _ _ _ => rfl) hq
    have c := zk7 gW (fun _ => true) G
    have w1 : gW ((G.has p).1 ++ (G.has q).1, sset ((G.has p).2 ++ (G.has q).2)) = (G.has p).1.length + (G.has q).1.length + 1 := by unfold gW; rw [List.length_append]
    rw [w1]
    unfold gW at a b c h ⊢
    omega
theorem Tidy.len {N : Nat} {G : Grps} (h : Tidy N G) : G.length ≤ N := by
  have : ∀ l : Grps, l.length ≤ (l.map gW).sum := fun l => by
    induction l with
    | nil => simp
    | cons y l ih => rw [List.map_cons, List.sum_cons, List.length_cons]; unfold gW at *; omega
  exact Nat.le_trans (this G) h
end DL
set_option maxHeartbeats 400000
namespace DL
open PySem PySem.Spec PyProof.Rows L2
/-! ## the case of a rule, as groups -/
structure RepI (cols : List (Option (List Int))) (n : Nat) (V : List Int) (B : Int) (N : Nat) (G : Grps) (c : Cas) : Prop where
  rep : Rep G c
  inv : Inv cols n V B c
  tid : Tidy N G
section
variable {cols : List (Option (List Int))} {n N : Nat} {V : List Int} {B : Int}
end
end DL
set_option maxHeartbeats 4000000
namespace DL
open PySem PySem.Spec PyProof.Rows L2
section
variable {X : Cx} {W : WX} {e a b c : Expr} {es : List Expr} {pos p pos2 : Pos} {K : PySem.W.Frag} {ι : List Addr} {F H : Hp} {S : zaf} {mg : Str → Option Value}
/-! ## tuple(range(n)) -/
end
end DL
set_option maxHeartbeats 4000000
namespace PySem
namespace DLZip
open Sem (wp)
section
variable {prog : Program} {w : World} {A : Around} {E : Value → Shared → Prop} {s : Shared} {z TI TO T i1 i2 : Addr} {fp1 fp2 : List Addr} {n1 n2 i : Nat} {P1 P2 : Nat → Value → Prop} {St1 St2 : Nat → Heap → Prop}
theorem next_held {f : Bool} {oT : Obj} {Q : Value → Shared → Prop} (S : ZipSep2 z TI TO i1 i2 fp1 fp2) (D1 : Draws prog w A i1 fp1 n1 P1 St1) (D2 : Draws prog w A i2 fp2 n2 P2 St2)
    (hz : IsZipHeld s.heap z TI TO T f) (hT : s.heap.get? T = some oT) (hTI : IsTupOf2 s.heap TI (.ref i1) (.ref i2)) (st1 : St1 i s.heap) (st2 : St2 i s.heap) (l1 : i < n1) (l2 : i < n2)
    (hQ : ∀ x1 x2 h' tk, P1 i x1 → P2 i x2 → IsZipHeld h' z TI TO T true → St1 (i + 1) h' → St2 (i + 1) h' → IsTupOf2 h' s.heap.objs.size x1 x2 → h'.objs.size = s.heap.objs.size + 1 →
      (∀ c o, c ≠ z → c ≠ i1 → c ≠ i2 → s.heap.get? c = some o → h'.get? c = some o) → Q (.ref s.heap.objs.size) { s with heap := h', toks := tk }) :
    wpAny (model prog w) A (Builtin.«zip.__next__» ⟨[.ref z], []⟩) (fun fin s' => ∃ v, fin = .done (.ret v) ∧ Q v s') E s := by
  obtain ⟨hp, g, d, tk0, os⟩ := s
  show wpAny _ _ (field (.ref z) 2 >>= _) _ _ _
  refine wpAny_bind (wpAny_field hz rfl (x := .bool false) rfl ?_)
  show wpAny _ _ (field (.ref z) 3 >>= _) _ _ _
  refine wpAny_bind (wpAny_field hz rfl (x := .ref TI) rfl ?_)
  refine wpAny_bind (wpAny_seqItems hTI rfl ?_)
  show wpAny _ _ (Builtin.SmallTypes.ownedTupleIsFree (.ref z) >>= _) _ _ _
  refine wpAny_bind (wpAny_tupleHeld_zip hz hT fun g0 hz0 hs0 => ?_)
  replace hs0 : Heap.SameBut z hp g0 := hs0
  simp only [Bool.false_eq_true, if_false]
  refine wpAny_bind ?_
  rw [← Array.forIn_toList]
  simp only [List.forIn_cons, List.forIn_nil]
  refine wpAny_bind (wpAny_bind (wpAny_holding ?_))
  show wpAny _ _ (Builtin.SmallTypes.nextOf (.ref i1) >>= _) _ _ ⟨g0, g, d, tk0, os⟩
  refine wpAny_bind (D1.item i _ _ _ l1 (D1.over st1 hs0 S.zf1) fun x1 p1 tk1 hx1 sn1 hp1 => wpAny_pure ?_)
  replace hp1 : Heap.SameBut i1 g0 p1 := hp1
  refine wpAny_pure ?_
  refine wpAny_bind (wpAny_bind (wpAny_holding ?_))
  show wpAny _ _ (Builtin.SmallTypes.nextOf (.ref i2) >>= _) _ _ ⟨p1, g, d, tk1, os⟩
  refine wpAny_bind (D2.item i _ _ _ l2 (D2.over (D2.over st2 hs0 S.zf2) hp1 S.sep1_2) fun x2 p2 tk2 hx2 sn2 hp2 => wpAny_pure ?_)
  replace hp2 : Heap.SameBut i2 p1 p2 := hp2
  refine wpAny_pure (wpAny_pure ?_)
  show wpAny _ _ (newTuple [x1, x2] >>= _) _ _ ⟨p2, g, d, tk2, os⟩
  refine wpAny_bind (wpAny_newTuple ?_)
  have hsz : p2.objs.size = hp.objs.size := by rw [hp2.1, hp1.1, hs0.1]
  have hz3 : IsZipHeld p2 z TI TO T true := hp2.extBut _ _ S.zi2 (hp1.extBut _ _ S.zi1 hz0)
  have hk : ∀ c o, c ≠ z → c ≠ i1 → c ≠ i2 → hp.get? c = some o → p2.get? c = some o := fun c o c1 c2 c3 e => hp2.extBut _ _ c3 (hp1.extBut _ _ c2 (hs0.extBut _ _ c1 e))
  have j1 : St1 (i + 1) p2 := D1.over sn1 hp2 S.sep2_1
  have hp' : IsTupOf2 (p2.push { cls := .type "tuple", data := .seq #[x1, x2] }) p2.objs.size x1 x2 := Heap.get?_push_size _ rfl
  have hz4 : (p2.push { cls := .type "tuple", data := .seq #[x1, x2] }).objs.size = p2.objs.size + 1 := Heap.size_push ..
  refine wpAny_pure ⟨_, rfl, ?_⟩
  show Q (.ref p2.objs.size) ⟨p2.push { cls := .type "tuple", data := .seq #[x1, x2] }, g, d, tk2, os⟩
  rw [hsz] at hp' hz4 ⊢
  exact hQ x1 x2 _ tk2 hx1 hx2 (Heap.get?_push_of_some _ hz3) (D1.frame _ _ _ j1 fun b _ o e => Heap.get?_push_of_some _ e) (D2.frame _ _ _ sn2 fun b _ o e => Heap.get?_push_of_some _ e) hp' hz4
    fun c o c1 c2 c3 e => Heap.get?_push_of_some _ (hk c o c1 c2 c3 e)
theorem end_held {f : Bool} {oT : Obj} {Q : Fin → Shared → Prop} (S : ZipSep2 z TI TO i1 i2 fp1 fp2) (D1 : Draws prog w A i1 fp1 n1 P1 St1) (D2 : Draws prog w A i2 fp2 n2 P2 St2)
    (hz : IsZipHeld s.heap z TI TO T f) (hT : s.heap.get? T = some oT) (hTI : IsTupOf2 s.heap TI (.ref i1) (.ref i2)) (st1 : St1 i s.heap) (st2 : St2 i s.heap) (l1 : i ≤ n1) (l2 : i ≤ n2) (hend : i = n1 ∨ i = n2)
    (hE : ∀ h' tk e, (∀ c o, c ≠ z → c ≠ i1 → c ≠ i2 → s.heap.get? c = some o → h'.get? c = some o) → (∃ o, h'.get? e = some o ∧ o.cls = .type "StopIteration") → E (.ref e) { s with heap := h', toks := tk }) :
    wpAny (model prog w) A (Builtin.«zip.__next__» ⟨[.ref z], []⟩) Q E s := by
  obtain ⟨hp, g, d, tk0, os⟩ := s
  show wpAny _ _ (field (.ref z) 2 >>= _) _ _ _
  refine wpAny_bind (wpAny_field hz rfl (x := .bool false) rfl ?_)
  show wpAny _ _ (field (.ref z) 3 >>= _) _ _ _
  refine wpAny_bind (wpAny_field hz rfl (x := .ref TI) rfl ?_)
  refine wpAny_bind (wpAny_seqItems hTI rfl ?_)
  show wpAny _ _ (Builtin.SmallTypes.ownedTupleIsFree (.ref z) >>= _) _ _ _
  refine wpAny_bind (wpAny_tupleHeld_zip hz hT fun g0 hz0 hs0 => ?_)
  replace hs0 : Heap.SameBut z hp g0 := hs0
  simp only [Bool.false_eq_true, if_false]
  refine wpAny_bind ?_
  rw [← Array.forIn_toList]
  simp only [List.forIn_cons, List.forIn_nil]
  refine wpAny_bind (wpAny_bind (wpAny_holding ?_))
  show wpAny _ _ (Builtin.SmallTypes.nextOf (.ref i1) >>= _) _ _ ⟨g0, g, d, tk0, os⟩
  by_cases h1 : i = n1
  · subst h1
    refine wpAny_bind (D1.done _ _ _ (D1.over st1 hs0 S.zf1) fun h' e hq he => ?_)
    replace hq : Heap.ExtBut i1 g0 h' := hq
    exact hE h' tk0 e (fun c o c1 c2 _ x => hq _ _ c2 (hs0.extBut _ _ c1 x)) he
  · have h2 : i = n2 := hend.resolve_left h1
    subst h2
    refine wpAny_bind (D1.item i _ _ _ (by omega) (D1.over st1 hs0 S.zf1) fun x1 p1 tk1 hx1 sn1 hp1 => wpAny_pure ?_)
    replace hp1 : Heap.SameBut i1 g0 p1 := hp1
    refine wpAny_pure ?_
    refine wpAny_bind (wpAny_bind (wpAny_holding ?_))
    show wpAny _ _ (Builtin.SmallTypes.nextOf (.ref i2) >>= _) _ _ ⟨p1, g, d, tk1, os⟩
    refine wpAny_bind (D2.done _ _ _ (D2.over (D2.over st2 hs0 S.zf2) hp1 S.sep1_2) fun h' e hq he => ?_)
    replace hq : Heap.ExtBut i2 p1 h' := hq
    exact hE h' tk1 e (fun c o c1 c2 c3 x => hq _ _ c3 (hp1.extBut _ _ c2 (hs0.extBut _ _ c1 x))) he
theorem pyNext_held {f : Bool} {oT : Obj} {Q : Option Value → Shared → Prop} (S : ZipSep2 z TI TO i1 i2 fp1 fp2) (D1 : Draws prog w A.in1 i1 fp1 n1 P1 St1) (D2 : Draws prog w A.in1 i2 fp2 n2 P2 St2)
    (hz : IsZipHeld s.heap z TI TO T f) (hT : s.heap.get? T = some oT) (hTI : IsTupOf2 s.heap TI (.ref i1) (.ref i2)) (st1 : St1 i s.heap) (st2 : St2 i s.heap) (l1 : i < n1) (l2 : i < n2)
    (hQ : ∀ x1 x2 h' tk, P1 i x1 → P2 i x2 → IsZipHeld h' z TI TO T true → St1 (i + 1) h' → St2 (i + 1) h' → IsTupOf2 h' s.heap.objs.size x1 x2 → h'.objs.size = s.heap.objs.size + 1 →
      (∀ c o, c ≠ z → c ≠ i1 → c ≠ i2 → s.heap.get? c = some o → h'.get? c = some o) → Q (some (.ref s.heap.objs.size)) { s with heap := h', toks := tk }) :
    wpAny (model prog w) A (pyNext (.ref z)) Q E s := by
  have hTy : s.TypeIs (.ref z) "zip" := ⟨_, hz, rfl⟩
  unfold pyNext
  exact wpAny_bind (wpAny_attempt (wpAny_callSpecial?_slot (name := Str.ofString "__next__") hTy F.slot_zip_next
    (wpAny_call_entry F.slot_zip_next hTy F.entry_zip_next
      (next_held S D1 D2 hz hT hTI st1 st2 l1 l2 fun x1 x2 h' tk a1 a2 a3 a4 a5 a6 a7 a8 => wpAny_pure (hQ x1 x2 h' tk a1 a2 a3 a4 a5 a6 a7 a8)) (F.args_zip_next_1 _))))
theorem zom {f : Bool} {oT : Obj} {Q : Option Value → Shared → Prop} (S : ZipSep2 z TI TO i1 i2 fp1 fp2) (D1 : Draws prog w A.in1 i1 fp1 n1 P1 St1) (D2 : Draws prog w A.in1 i2 fp2 n2 P2 St2)
    (hz : IsZipHeld s.heap z TI TO T f) (hT : s.heap.get? T = some oT) (hTI : IsTupOf2 s.heap TI (.ref i1) (.ref i2)) (st1 : St1 i s.heap) (st2 : St2 i s.heap) (l1 : i ≤ n1) (l2 : i ≤ n2) (hend : i = n1 ∨ i = n2)
    (hQ : ∀ h' tk, (∀ c o, c ≠ z → c ≠ i1 → c ≠ i2 → s.heap.get? c = some o → h'.get? c = some o) → Q none { s with heap := h', toks := tk }) :
    wpAny (model prog w) A (pyNext (.ref z)) Q E s := by
  have hTy : s.TypeIs (.ref z) "zip" := ⟨_, hz, rfl⟩
  unfold pyNext
  refine wpAny_bind (wpAny_attempt (wpAny_callSpecial?_slot (name := Str.ofString "__next__") hTy F.slot_zip_next
    (wpAny_call_entry F.slot_zip_next hTy F.entry_zip_next (end_held S D1 D2 hz hT hTI st1 st2 l1 l2 hend fun h' tk e hk he => ?_) (F.args_zip_next_1 _))))
  obtain ⟨o, ho, hc⟩ := he
  refine wpAny_bind (wpAny_isInstance (T := "StopIteration") (b := true) ⟨o, ho, hc⟩ isSubtype_stop ?_)
  exact wpAny_pure (hQ _ _ hk)
theorem up {a b lim : Nat} (h : a < lim) (k : lim ≤ b) : b ≠ a := by omega
def At (z TI TO i1 i2 : Addr) (St1 St2 : Nat → Heap → Prop) (lim : Nat) (i : Nat) (h : Heap) : Prop :=
  IsTupOf2 h TI (.ref i1) (.ref i2) ∧ St1 i h ∧ St2 i h ∧ ((IsZip h z TI TO .none ∧ ∃ a b, IsTupOf2 h TO a b) ∨ ∃ T f oT, IsZipHeld h z TI TO T f ∧ h.get? T = some oT ∧ lim ≤ T)
def Made (P1 P2 : Nat → Value → Prop) (lim : Nat) (h : Heap) (ps : List (Addr × Value × Value)) (i : Nat) : Prop :=
  ps.length = i ∧ (ps.map (·.1)).Nodup ∧ ∀ j p, ps[j]? = some p → lim ≤ p.1 ∧ IsTupOf2 h p.1 p.2.1 p.2.2 ∧ P1 j p.2.1 ∧ P2 j p.2.2
abbrev listAt (h : Heap) (S : Addr) (ps : List (Addr × Value × Value)) (c : Nat) : Prop := h.get? S = some { cls := .type "list", dict := none, data := .seq (ps.map fun p => Value.ref p.1).toArray c, slots := #[] }
theorem Made.keep {lim : Nat} {h h' : Heap} {ps : List (Addr × Value × Value)} (m : Made P1 P2 lim h ps i) (k : ∀ b o, lim ≤ b → h.get? b = some o → h'.get? b = some o) : Made P1 P2 lim h' ps i :=
  ⟨m.1, m.2.1, fun j p e => let ⟨a, b, c⟩ := m.2.2 j p e; ⟨a, k _ _ a b, c⟩⟩
theorem Made.snoc {lim : Nat} {h : Heap} {ps : List (Addr × Value × Value)} (m : Made P1 P2 lim h ps i) {a : Addr} {x y : Value} (hl : lim ≤ a) (ht : IsTupOf2 h a x y) (p1 : P1 i x) (p2 : P2 i y) (hn : ∀ p ∈ ps, p.1 ≠ a) : Made P1 P2 lim h (ps ++ [(a, x, y)]) (i + 1) := by
  refine ⟨by simp [m.1], ?_, fun j p e => ?_⟩
  · rw [List.map_append, List.nodup_append]
    refine ⟨m.2.1, by simp, fun u hu v hv => ?_⟩
    obtain ⟨p, hp, rfl⟩ := List.mem_map.mp hu
    simp only [List.map_cons, List.map_nil, List.mem_cons, List.not_mem_nil, or_false] at hv
    subst hv
    exact hn p hp
  · rw [List.getElem?_append] at e
    split at e
    · exact m.2.2 j p e
    · rename_i hj
      have hj' : ¬ j < i := by rw [← m.1]; exact hj
      cases hd : j - ps.length with
      | zero =>
        rw [hd] at e
        simp only [List.getElem?_cons_zero, Option.some.injEq] at e
        subst e
        have : j = i := by rw [m.1] at hd; omega
        subst this
        exact ⟨hl, ht, p1, p2⟩
      | succ k => rw [hd] at e; simp at e
end
section
variable {prog : Program} {w : World} {A : Around} {R : Result → Shared → Prop} {z TI TO i1 i2 S : Addr} {fp1 fp2 : List Addr} {n1 n2 : Nat} {P1 P2 : Nat → Value → Prop} {St1 St2 : Nat → Heap → Prop} {lim : Nat}
theorem At.over (D1 : Draws prog w A i1 fp1 n1 P1 St1) (D2 : Draws prog w A i2 fp2 n2 P2 St2) {i : Nat} {h h' : Heap} (st : At z TI TO i1 i2 St1 St2 lim i h) (hS : S < lim) (s1 : S ∉ fp1) (s2 : S ∉ fp2) (s3 : S ≠ z) (s4 : S ≠ TI) (s5 : S ≠ TO)
    (hk : ∀ b o, b ≠ S → h.get? b = some o → h'.get? b = some o) : At z TI TO i1 i2 St1 St2 lim i h' := by
  obtain ⟨hTI, st1, st2, hz⟩ := st
  refine ⟨hk _ _ (Ne.symm s4) hTI, D1.frame _ _ _ st1 fun b hb o e => hk b o (fun q => s1 (q ▸ hb)) e, D2.frame _ _ _ st2 fun b hb o e => hk b o (fun q => s2 (q ▸ hb)) e, ?_⟩
  rcases hz with ⟨hz, a, b, hTO⟩ | ⟨T, f, oT, hz, hT, hl⟩
  · exact .inl ⟨hk _ _ (Ne.symm s3) hz, a, b, hk _ _ (Ne.symm s5) hTO⟩
  · exact .inr ⟨T, f, oT, hk _ _ (Ne.symm s3) hz, hk _ _ (up hS hl) hT, hl⟩
theorem loop (Z : ZipSep2 z TI TO i1 i2 fp1 fp2) (D1 : Draws prog w A.in1.in1 i1 fp1 n1 P1 St1) (D2 : Draws prog w A.in1.in1 i2 fp2 n2 P2 St2) (hn : min n1 n2 ≤ sizeLine) (hS : S < lim) (hz : z < lim) (hTO : TO < lim) (hi1 : i1 < lim) (hi2 : i2 < lim)
    (s1 : S ∉ fp1) (s2 : S ∉ fp2) (s3 : S ≠ z) (s4 : S ≠ TI) (s5 : S ≠ TO) (res : Value) :
    ∀ (k i : Nat) (s : Shared) (ps : List (Addr × Value × Value)) (c : Nat), min n1 n2 - i = k → i ≤ min n1 n2 → lim ≤ s.heap.objs.size → At z TI TO i1 i2 St1 St2 lim i s.heap → listAt s.heap S ps c → Made P1 P2 lim s.heap ps i →
    (∀ h' tk ps' c', (∀ b o, b ∉ [S, z, TO, i1, i2] → s.heap.get? b = some o → h'.get? b = some o) → listAt h' S ps' c' → Made P1 P2 lim h' ps' (min n1 n2) → R (.ok (.ret res)) { s with heap := h', toks := tk }) →
    codeAny (model prog w) A (.builtin "list.extend.loop" ⟨[.ref S, .ref z, res], []⟩) R s := by
  have hSi1 : S ≠ i1 := fun e => s1 (e ▸ Z.mem1)
  have hSi2 : S ≠ i2 := fun e => s2 (e ▸ Z.mem2)
  intro k
  induction k with
  | zero =>
    intro i s ps c hk hi hl st hL m hR
    have hin : i = min n1 n2 := by omega
    refine codeAny_builtin F.entry_extend_loop ?_
    rw [Around.under_plainId F.plain_extend_loop _]
    show wpAny _ A.in1 (pyNext (.ref z) >>= _) _ _ s
    obtain ⟨hTI, st1, st2, zz⟩ := st
    rcases zz with ⟨zz, a, b, tt⟩ | ⟨T, f, oT, zz, hT, hlT⟩
    · refine wpAny_bind (wpAny_pyNext_zipD2_end Z D1 D2 zz hTI tt st1 st2 (by omega) (by omega) (by omega) fun h' tk hq => wpAny_pure ?_)
      refine hR h' tk ps c (fun b o hb e => ?_) (hq _ _ s3 s5 hSi1 hSi2 hL) ((hin ▸ m).keep fun b o hb e => hq _ _ (up hz hb) (up hTO hb) (up hi1 hb) (up hi2 hb) e)
      simp only [List.mem_cons, List.not_mem_nil, or_false, not_or] at hb
      exact hq b o hb.2.1 hb.2.2.1 hb.2.2.2.1 hb.2.2.2.2 e
    · refine wpAny_bind (zom Z D1 D2 zz hT hTI st1 st2 (by omega) (by omega) (by omega) fun h' tk hq => wpAny_pure ?_)
      refine hR h' tk ps c (fun b o hb e => ?_) (hq _ _ s3 hSi1 hSi2 hL) ((hin ▸ m).keep fun b o hb e => hq _ _ (up hz hb) (up hi1 hb) (up hi2 hb) e)
      simp only [List.mem_cons, List.not_mem_nil, or_false, not_or] at hb
      exact hq b o hb.2.1 hb.2.2.2.1 hb.2.2.2.2 e
  | succ k ih =>
    intro i s ps c hk hi hl st hL m hR
    obtain ⟨hp, g, d, tk0, os⟩ := s
    have hlt : i < min n1 n2 := by omega
    refine codeAny_builtin F.entry_extend_loop ?_
    rw [Around.under_plainId F.plain_extend_loop _]
    show wpAny _ A.in1 (pyNext (.ref z) >>= _) _ _ _
    have key : ∀ x1 x2 h' tk, P1 i x1 → P2 i x2 → IsTupOf2 h' hp.objs.size x1 x2 → h'.objs.size = hp.objs.size + 1 → At z TI TO i1 i2 St1 St2 lim (i + 1) h' → (∀ c o, c ≠ z → c ≠ TO → c ≠ i1 → c ≠ i2 → hp.get? c = some o → h'.get? c = some o) →
        wpAny (model prog w) A.in1 (updateSeq S (·.push (.ref hp.objs.size)) >>= fun _ => again (.builtin "list.extend.loop" ⟨[.ref S, .ref z, res], []⟩))
          (fun fin s' => match fin with | .done f => R (.ok f) s' | .again c' => c'.quiet = true ∧ codeAny (model prog w) A c' R s') (fun e s' => R (.error e) s') ⟨h', g, d, tk, os⟩ := by
      intro x1 x2 h' tk hx1 hx2 ht hsz st' hq
      have hS' : listAt h' S ps c := hq _ _ s3 s5 hSi1 hSi2 hL
      refine wpAny_bind ?_
      refine wpAny_updateSeq (s := ⟨h', g, d, tk, os⟩) hS' rfl (wpAny_pure ⟨plainId_quiet F.plain_extend_loop _, ?_⟩)
        (by rw [List.size_toArray, List.length_map, m.1]; omega) (by show (Array.push _ _).size ≤ sizeLine + 1; rw [Array.size_push, List.size_toArray, List.length_map, m.1]; omega)
      have hup : ∀ b o, b ≠ S → h'.get? b = some o → (h'.update S (Obj.mapSeq fun x => x.push (.ref hp.objs.size))).get? b = some o := fun b o hb e => (Heap.get?_update_other _ _ (Ne.symm hb)).trans e
      have hsz2 : (h'.update S (Obj.mapSeq fun x => x.push (.ref hp.objs.size))).objs.size = h'.objs.size := (Heap.SameBut.update ..).1
      have hS2 := Heap.get?_update_self (Obj.mapSeq fun x => x.push (.ref hp.objs.size)) hS' rfl
      have m1 : Made P1 P2 lim h' ps i := m.keep fun b o hb e => hq b o (up hz hb) (up hTO hb) (up hi1 hb) (up hi2 hb) e
      have m2 : Made P1 P2 lim h' (ps ++ [(hp.objs.size, x1, x2)]) (i + 1) := m1.snoc hl ht hx1 hx2 fun p hp' => by
        obtain ⟨j, hj⟩ := List.mem_iff_getElem?.mp hp'
        exact Nat.ne_of_lt (Heap.lt_size (m.2.2 j p hj).2.1)
      obtain ⟨c2, hc2⟩ : ∃ c2, listAt (h'.update S (Obj.mapSeq fun x => x.push (.ref hp.objs.size))) S (ps ++ [(hp.objs.size, x1, x2)]) c2 := ⟨_, by
        show Heap.get? _ _ = _
        rw [hS2]
        simp only [Obj.mapSeq, List.map_append, List.map_cons, List.map_nil, List.push_toArray]
        rfl⟩
      refine ih (i + 1) ⟨h'.update S (Obj.mapSeq fun x => x.push (.ref hp.objs.size)), g, d, tk, os⟩ (ps ++ [(hp.objs.size, x1, x2)]) c2 (by omega) hlt ?_ ?_ ?_ ?_ ?_
      · show lim ≤ (h'.update S (Obj.mapSeq fun x => x.push (.ref hp.objs.size))).objs.size
        rw [hsz2, hsz]
        have : lim ≤ hp.objs.size := hl
        omega
      · exact st'.over D1 D2 hS s1 s2 s3 s4 s5 hup
      · exact hc2
      · exact m2.keep fun b o hb e => hup b o (up hS hb) e
      · intro h2 tk2 ps' c' hk2 hL2 m3
        refine hR h2 tk2 ps' c' (fun b o hb e => hk2 b o hb (hup b o (fun q => hb (by simp [q])) ?_)) hL2 m3
        simp only [List.mem_cons, List.not_mem_nil, or_false, not_or] at hb
        exact hq b o hb.2.1 hb.2.2.1 hb.2.2.2.1 hb.2.2.2.2 e
    obtain ⟨hTI, st1, st2, zz⟩ := st
    rcases zz with ⟨zz, a, b, tt⟩ | ⟨T, f, oT, zz, hT, hlT⟩
    · refine wpAny_bind (wpAny_pyNext_zipD2_item Z D1 D2 zz hTI tt st1 st2 (by omega) (by omega) fun x1 x2 h' tk a1 a2 a3 a4 a5 a6 a7 a8 hq => ?_)
      exact key x1 x2 h' tk a1 a2 a7 a8 ⟨hq _ _ Z.TIz Z.TITO Z.TIi1 Z.TIi2 hTI, a5, a6, .inr ⟨_, false, _, a3, a7, hl⟩⟩ hq
    · refine wpAny_bind (pyNext_held Z D1 D2 zz hT hTI st1 st2 (by omega) (by omega) fun x1 x2 h' tk a1 a2 a3 a5 a6 a7 a8 hq => ?_)
      exact key x1 x2 h' tk a1 a2 a7 a8 ⟨hq _ _ Z.TIz Z.TIi1 Z.TIi2 hTI, a5, a6, .inr ⟨T, true, oT, a3, hq _ _ (up hz hlT) (up hi1 hlT) (up hi2 hlT) hT, hlT⟩⟩ fun c o c1 _ c3 c4 e => hq c o c1 c3 c4 e
end
end DLZip
end PySem
set_option maxHeartbeats 4000000
namespace PySem
namespace DLZip
open Sem (wp)
/-! ## a list or a tuple that a zip walks -/
def sAt (t : Bool) (a : Addr) (xs : Array Value) (h : Heap) : Prop := match t with | false => h.IsList a xs | true => h.IsTuple a xs
def sSt (t : Bool) (it a : Addr) (xs : Array Value) (i : Nat) (h : Heap) : Prop := match t with
  | false => h.IsListIter it a i ∧ h.IsList a xs
  | true => h.IsTupleIter it a i ∧ h.IsTuple a xs
theorem sAt.keeps {t : Bool} {a : Addr} {xs : Array Value} {h h' : Heap} (x : sAt t a xs h) (k : ∀ b o, h.get? b = some o → h'.get? b = some o) : sAt t a xs h' := by
  cases t
  · exact (begins_list a xs).keeps _ _ x k
  · exact (begins_tuple a xs).keeps _ _ x k
theorem sAt.lt {t : Bool} {a : Addr} {xs : Array Value} {h : Heap} (x : sAt t a xs h) : a < h.objs.size := by
  cases t
  · obtain ⟨o, e, _⟩ := x; exact Heap.lt_size e
  · obtain ⟨o, e, _⟩ := x; exact Heap.lt_size e
section
variable {prog : Program} {w : World} {A : Around} {E : Value → Shared → Prop} {s : Shared}
structure ZipNew (n l1 l2 : Addr) (t1 t2 : Bool) (xs ys : Array Value) (h : Heap) : Prop where
  z : IsZip h (n + 4) (n + 2) (n + 3) .none
  ti : IsTupOf2 h (n + 2) (.ref n) (.ref (n + 1))
  to : IsTupOf2 h (n + 3) .none .none
  a : sSt t1 n l1 xs 0 h
  b : sSt t2 (n + 1) l2 ys 0 h
  size : h.objs.size = n + 5
theorem sSt.keeps {t : Bool} {it a : Addr} {xs : Array Value} {i : Nat} {h h' : Heap} (x : sSt t it a xs i h) (k : ∀ b o, h.get? b = some o → h'.get? b = some o) : sSt t it a xs i h' := by
  cases t
  · exact ⟨x.1.at fun o e => k _ o e, x.2.at fun o e => k _ o e⟩
  · exact ⟨x.1.at fun o e => k _ o e, x.2.at fun o e => k _ o e⟩
theorem ZipNew.push {n l1 l2 : Addr} {t1 t2 : Bool} {xs ys : Array Value} {h h' : Heap} (z : ZipNew n l1 l2 t1 t2 xs ys h) (k : ∀ b o, h.get? b = some o → h'.get? b = some o) (lim : Nat) :
    At (n + 4) (n + 2) (n + 3) n (n + 1) (sSt t1 n l1 xs) (sSt t2 (n + 1) l2 ys) lim 0 h' :=
  ⟨k _ _ z.ti, z.a.keeps k, z.b.keeps k, .inl ⟨k _ _ z.z, _, _, k _ _ z.to⟩⟩
end
end DLZip
end PySem
set_option maxHeartbeats 4000000
namespace DL
open PySem PySem.Spec PyProof.Rows L2
/-! ## list(zip(a, b)) -/
section
variable {X : Cx} {pins : List (Addr × Obj)} {σ : L2.St} {H F : Hp} {s : Shared} {K : PySem.W.Frag} {ι : List Addr} {S : zaf}
end
section
variable {X : Cx} {W : WX} {e a b c : Expr} {ta tb : TE} {p p2 pos pos2 : Pos}
end
end DL
set_option maxHeartbeats 4000000
namespace DL
open PySem PySem.Spec PyProof.Rows L2
/-! ## {"step": 4, "join": 3}[x] -/
section
variable {X : Cx} {W : WX} {b : Expr} {pos dpos : Pos} {f : XFn}
end
end DL
set_option maxHeartbeats 4000000
namespace DL
open PySem PySem.Spec PyProof.Rows L2
/-! ## NAME.get(k, x) of a table at the module's top: texts to ints -/
def zn6 (D : List (Str × Int)) (x y : DV) (S : zaf) : Res DV := match x with
  | .dat (.str k) => (match KTD.datumAt k D with
    | some i => .ok (.dat (.int i)) S
    | none => .ok y S)
  | _ => .bad
def xGGet (D : List (Str × Int)) (f g : XFn) : XFn := fun ρ S => (f ρ S).bind fun x S1 => (g ρ S1).bind fun y S2 => zn6 D x y S2
def tabG (D : List (Str × Int)) : List (Str × PyData) := D.map fun p => (p.1, .int p.2)
def TabG (K : PySem.W.Frag) (mg : Str → Option Value) (n : Str) (D : List (Str × Int)) : Prop := ∃ a, mg n = some (.ref a) ∧ KTD.tabLook KTD.flatLooks (fun b => K.lookup b) a (tabG D) = true
theorem each_of {h₀ : Heap} {k : Str} {P : Value → Prop} {els : Prop} : ∀ {D : List (Str × Int)}, (match KTD.datumAt k D with | some i => ∀ t, P (.int i t) | none => els) → KTD.Each h₀ k P els ((tabG D).map fun p => (p.1, KTD.Dat.flat p.2))
  | [], h => KTD.each_nil h
  | (x, i) :: D, h => by
    show KTD.Each h₀ k P els ((x, KTD.Dat.flat (.int i)) :: (tabG D).map fun p => (p.1, KTD.Dat.flat p.2))
    by_cases e : k = x
    · refine KTD.each_hit e (KTD.opened_int fun t => ?_)
      have : KTD.datumAt k ((x, i) :: D) = some i := by
        show (if decide (k = x) = true then some i else KTD.datumAt k D) = some i
        rw [if_pos (decide_eq_true e)]
      rw [this] at h
      exact h t
    · refine KTD.each_miss e (each_of ?_)
      have : KTD.datumAt k ((x, i) :: D) = KTD.datumAt k D := by
        show (if decide (k = x) = true then some i else KTD.datumAt k D) = _
        rw [if_neg (by simp [e])]
      rw [this] at h
      exact h
def tGGet (D : List (Str × Int)) (ty tx : TE) : TE := fun σ H Q => ty σ H fun y H1 => tx σ H1 fun z H2 => ∃ k, y = .str k ∧ (match KTD.datumAt k D with
  | some i => Q (.int i) H2
  | none => Q z H2)
section
variable {X : Cx} {W : WX} {e f : Expr} {np apos cpos : Pos} {ty tx : TE} {n : Str} {D : List (Str × Int)}
theorem pe_gget2 (hg : Gl X n) (T : TabG X.K X.mg n D) (he : PE X e ty) (hf : PE X f tx) (m : M2 X (.Name n np) "get" apos e f cpos) (hd : (n == ("__debug__" : Str)) = false := by decide) :
    PE X (.Call (.Attribute (.Name n np) "get" apos) [e, f] [] cpos) (tGGet D ty tx) := by
  obtain ⟨a, hm, hl⟩ := T
  refine ⟨fun pins s σ H Q I h => ?_⟩
  refine wpAny_Call_method m.base m.few m.line PySem.F.plainAttrs_dict PySem.F.slot_dict_get PySem.F.type_dict_get (thn ((pe_glob (v := .ref a) hg hm rfl hd).run pins s σ H (fun x H1 => x = .ref a ∧ H1 = H) I ⟨rfl, rfl⟩) fun u s1 ⟨x, H1, I1, rx, ex, eH⟩ => ?_)
  subst ex
  subst eH
  obtain rfl : u = Value.ref a := rx
  have TT : KTD.TextTab X.base a ((tabG D).map fun p => (p.1, KTD.Dat.flat p.2)) := (KTD.tab_of_look (fun _ _ => KTD.flat_of_looks) (get := fun b => X.K.lookup b) (h := X.base) (fun b o q => I1.mod.kin b o q) hl).text
  have T1 : KTD.Here X.base s1.heap a _ := ⟨TT, I1.bk⟩
  refine ⟨T1.typeIs, T1.noDict, ?_⟩
  rw [m.trees]
  refine Calls.callWith_builtin rfl (Calls.evalArgs_plain (Calls.spliced_cons (thn (he.run pins s1 σ H1 _ I1 h) fun iv s2 ⟨y, H2, I2, ry, q2⟩ =>
    Calls.spliced_cons (thn (hf.run pins s2 σ H2 _ I2 q2) fun fv s3 ⟨z, H3, I3, rz, k, ey, q3⟩ => Calls.spliced_nil ?_))))
  subst ey
  obtain ⟨t, rfl⟩ : ∃ t, iv = Value.str k t := ry
  have T3 : KTD.Here X.base s3.heap a _ := ⟨TT, I3.bk⟩
  refine KTD.get2_text T3 (each_of ?_)
  cases hk : KTD.datumAt k D with
  | some i =>
    rw [hk] at q3
    exact fun t => ⟨.int i, H3, I3.tok _, ⟨t, rfl⟩, q3⟩
  | none =>
    rw [hk] at q3
    exact ⟨z, H3, I3.tok _, rz, q3⟩
theorem de_gget {g h : XFn} (hg : Gl X n) (T : TabG X.K X.mg n D) (he : DE X W e g) (hf : DE X W f h) (m : M2 X (.Name n np) "get" apos e f cpos) (hd : (n == ("__debug__" : Str)) = false := by decide) :
    DE X W (.Call (.Attribute (.Name n np) "get" apos) [e, f] [] cpos) (xGGet D g h) := by
  refine ⟨PE.weak (pe_gget2 hg T he.pe hf.pe m hd) fun σ H Q ⟨ι, F, ρ, S, r0, h1⟩ => ?_⟩
  refine tD.bind (g := fun ρ x S1 => (h ρ S1).bind fun y S2 => zn6 D x y S2) r0 h1 fun v dv ι1 F1 S1 H1 r1 w1 g1 h2 => ?_
  refine tD.bind (g := fun ρ y S2 => zn6 D dv y S2) r1 h2 fun u du ι2 F2 S2 H2 r2 w2 g2 h3 => ?_
  unfold zn6 at h3
  split at h3
  · rename_i k
    have w' : Wd X.K F1 v (.str k) := w1
    cases w'
    refine ⟨k, rfl, ?_⟩
    cases hk : KTD.datumAt k D with
    | some i =>
      simp only [hk] at h3
      exact h3 _ _ _ .refl r2.st _ (.int i)
    | none =>
      simp only [hk] at h3
      exact h3 _ _ _ .refl r2.st _ w2
  · exact h3.elim
end
/-! ## in the head -/
def tabGB (K : PySem.W.Frag) (n : Str) (D : List (Str × Int)) : Bool := KTD.tabLook KTD.flatLooks (fun b => K.lookup b) (He.ga K n) (tabG D)
end DL
set_option maxHeartbeats 4000000
namespace DL
open PySem PySem.Spec PyProof.Rows L2
/-! ## f(*y): y a tuple of as many items as f has parameters -/
def nsK (n : Nat) (g : Fn) (x : DV) (S : zaf) : Res DV := match rd S x with
  | some (.tup xs) => if xs.length = n then g (xs.map .dat) S else .bad
  | _ => .bad
def xNS (n : Nat) (g : Fn) (f : XFn) : XFn := fun ρ S => (f ρ S).bind (nsK n g)
section
variable {X : Cx} {W : WX} {e : Expr} {sp_ p pos : Pos}
theorem de_callS {k n : Nat} {x : Str} {g : Fn} {f : XFn} (F : DefQ X.calm X.prog X.w X.K X.mg X.base k x n g) (hr : RoomH k X.A) (hG : X.A.guards = some []) (tk : Takes X W) (ha : DE X W e f) (hg : Gl X x := by rfl)
    (hdb : (x == ("__debug__" : Str)) = false := by decide) (hst : starEach [.Starred e sp_] X.env = [(true, eval e X.env)] := by rfl) : DE X W (.Call (.Name x p) [.Starred e sp_] [] pos) (xNS n g f) := by
  obtain ⟨f0, fd, ps, Fg, hm, hk, hb⟩ := F.ex
  refine ⟨⟨fun pins s σ H Q I h => ?_⟩⟩
  obtain ⟨ι, F, ρ, S, r, h⟩ := h
  apply wpAny_Call_Name_kw (ld_glob I hg hm ?_ hdb)
  have hta : tD X W f σ H (fun y H1 => ∃ dv ι1 F1 S1, StR X.K ι1 F1 S1 H1 ∧ WV X.K ι1 F1 y dv ∧ Grow ι F H ι1 F1 H1 ∧
    Post X.K X.mg (fun c d H' => W c d σ H') ι1 F1 H1 (nsK n g dv S1) fun dv ι' F' H' => ∀ v, WV X.K ι' F' v dv → Q v H') := by
    refine tD.bind (g := fun _ => nsK n g) r h fun v dv ι1 F1 S1 H1 r1 w1 g1 h1 => ?_
    exact ⟨dv, ι1, F1, S1, r1.st, w1, g1, h1⟩
  refine PySem.W.callWith_S (h₀ := X.base) I.ok.mod.kin hk (thn (ha.pe.run pins s σ H _ I hta) fun v s1 ⟨y, H1, I1, ry, dv, ι1, F1, S1, st1, w1, g1, h1⟩ => ?_) hst
  unfold nsK at h1
  cases ed : rd S1 dv with
  | none => simp only [ed] at h1; exact h1.elim
  | some d =>
    have vw := st1.vw w1 ed
    cases vw with
    | tup sq w =>
      rename_i a vs0 xs
      simp only [ed] at h1
      by_cases hn : xs.length = n
      · rw [if_pos hn] at h1
        obtain rfl : v = Value.ref a := ry
        refine StX.star_any I1 (.inl (zc7 st1.sub sq)) fun us s2 I2 rv => ⟨I2.kIn, ?_⟩
        have hsp : spD X.K X.mg n g vs0 H1 Q (fun c d H' => W c d σ H') := ⟨by rw [w.length]; exact hn, ι1, F1, S1, _, st1, WVs.of_wda w, h1⟩
        have hl : us.length = ps.length := by rw [← rv.length]; exact Fg.len _ _ _ _ hsp
        have bd := hb s2 us I2.kIn (by simpa using hl)
        rw [List.append_nil] at bd
        apply wpAny_call
        refine codeAny_mono (Fg.run X.A X.stack s2 H1 ⟨us, []⟩ us vs0 Q _ hr I2.ok.hd hG I2.env0 bd rv hsp) ?_
        intro res s3 hq
        cases res with
        | error err => exact L2.passAt tk σ pins H1 s2 err s3 I2 hq
        | ok fl =>
          cases fl with
          | ret u => exact I2.after hq
          | next => exact hq.elim
          | brk => exact hq.elim
          | cont => exact hq.elim
      · rw [if_neg hn] at h1; exact h1.elim
    | _ => simp only [ed] at h1; exact h1.elim
end
end DL
set_option maxHeartbeats 0
namespace T45
open PySem PySem.Spec PyProof.Rows L2 DL
def zbv : List (Str × Int) := [("cover", 4), ("run", 7), ("alike", 8), ("parts", 8)]
def zfj : List (Str × Int) := [("row", 4), ("war", 4), ("tree", 5), ("count", 6), ("stuck", 6), ("against", 5)]
def zmg : SFn := (sRet (xAnd (xIsi "int" (xVar 0)) (xNot (xIsi "bool" (xVar 0)))))
def zco : Fn := zav 1 zmg
def zmu : SFn := (sRet (xAnd (xN zco (zac (xVar 0) aNil)) (zmi (o2 dLe) (o2 dLe) (xVar 1) (xVar 0) (xVar 2))))
def ze7 : Fn := zav 3 zmu
def zpq : SFn := (sRet (xAnd (xN zco (zac (xVar 0) aNil)) (x2 (o2 dGe) (xVar 0) (xC (.int 0)))))
def zio : Fn := zav 1 zpq
def zn3 : SFn := (sSeq (sIf (tBl (x2 (o2 dIsN) (xVar 0) (xC .non))) (sRet (xC (.bl true))) sNil)
    (sSeq (sIf (tOr_ (tNo (tTr (xIsi "tuple" (xVar 0)))) (tNo (tBl (zmi (o2 dLe) (o2 dLe) (xC (.int 1)) (xN (o1 dLen) (zac (xVar 0) aNil)) (xC (.int 3)))))) (sRet (xC (.bl false))) sNil)
    (sSeq (sIf (tNo (tTr (xN (o1 dAll) (zac (xN1 (lLc (lIt (xVar 0)) [1] (gNm 1) zcz (xN zio (zac (xVar 1) aNil)))) aNil)))) (sRet (xC (.bl false))) sNil)
    (sRet (x2 (o2 dEq) (xN (o1 dList) (zac (xVar 0) aNil)) (xN1 (zj2 (xVar 0))))))))
def zi0 : Fn := zav 2 zn3
def zlf : SFn := (sRet (xAnd (xN zio (zac (xVar 1) aNil)) (xOr (x2 (o2 dIsN) (xVar 0) (xC .non)) (x2 (o2 dIn) (xVar 1) (xVar 0)))))
def zeo : Fn := zav 2 zlf
def zmy : SFn := (sSeq (sIf (tOr_ (tNo (tTr (xIsi "tuple" (xVar 0)))) (tNo (tBl (zmi (o2 dLe) (o2 dLe) (xC (.int 1)) (xN (o1 dLen) (zac (xVar 0) aNil)) (xC (.int 4)))))) (sRet (xC (.bl false))) sNil)
    (sSeq (sIf (tNo (tTr (xN (o1 dAll) (zac (xN1 (lLc (lIt (xVar 0)) [1] (gNm 1) zcz (xN zi0 (zac (xVar 1) aNil)))) aNil)))) (sRet (xC (.bl false))) sNil)
    (sRet (x2 (o2 dLe) (xN (o1 dLen) (zac (xN1 (lLc (lIt (xVar 0)) [1] (gNm 1) (tBl (x2 (o2 zqa) (xVar 1) (xC .non))) (xVar 1))) aNil)) (xC (.int 2))))))
def zh5 : Fn := zav 2 zmy
def zog : SFn := (sSeq (sIf (tOr_ (tNo (tTr (xIsi "tuple" (xVar 1)))) (tBl (x2 (o2 dNe) (xN (o1 dLen) (zac (xVar 1) aNil)) (xN (o1 dLen) (zac (xVar 0) aNil))))) (sRet (xC (.bl false))) sNil)
    (sRet (xN (o1 dAll) (zac (xN1 (lLc (lZip (xVar 0) (xVar 1)) [2, 3] (gTp (gCo (gNm 2) (gCo (gNm 3) gNo))) zcz (xN zeo (zac (xVar 2) (zac (xVar 3) aNil))))) aNil))))
def zgu : Fn := zav 4 zog
def zkw : SFn := (sSeq (sIf (tOr_ (tNo (tTr (xIsi "tuple" (xVar 1)))) (tBl (x2 (o2 dGt) (xN (o1 dLen) (zac (xVar 1) aNil)) (xC (.int 8))))) (sRet (xC (.bl false))) sNil)
    (sRet (xN (o1 dAll) (zac (xN1 (lLc (lIt (xVar 1)) [2] (gNm 2) zcz (xN zgu (zac (xVar 0) (zac (xVar 2) aNil))))) aNil))))
def zfi : Fn := zav 3 zkw
def zir : SFn := (sIf (tNo (tTr (xN zh5 (zac (xVar 0) aNil)))) (zlu "InvalidColumns") sNil)
def zei : Fn := zav 1 zir
def zkz : SFn := (sIf (tNo (tTr (xN zgu (zac (xVar 0) (zac (xVar 1) aNil))))) (zlu "InvalidRow") sNil)
def zhp : Fn := zav 2 zkz
def zjr : SFn := (sIf (tNo (tTr (xN zfi (zac (xVar 0) (zac (xVar 1) aNil))))) (zlu "InvalidTable") sNil)
def zfd : Fn := zav 2 zjr
def zpk : SFn := (sSeq (sIf (tOr_ (tNo (tTr (xIsi "tuple" (xVar 1)))) (tOr_ (tBl (x2 (o2 dNe) (xN (o1 dLen) (zac (xVar 1) aNil)) (xC (.int 2)))) (tNo (tTr (xN ze7 (zac (x2 (o2 dIx) (xVar 1) (xC (.int 0))) (zac (xC (.int 0)) (zac (x2 (o2 dSub) (xN (o1 dLen) (zac (xVar 0) aNil)) (xC (.int 1))) aNil)))))))) (sRet (xC (.bl false))) sNil)
    (sRet (xOr (x2 (o2 dIsN) (x2 (o2 dIx) (xVar 1) (xC (.int 1))) (xC .non)) (xN zeo (zac (x2 (o2 dIx) (xVar 0) (x2 (o2 dIx) (xVar 1) (xC (.int 0)))) (zac (x2 (o2 dIx) (xVar 1) (xC (.int 1))) aNil))))))
def zj3 : Fn := zav 2 zpk
def zpi : SFn := (sSeq (sIf (tOr_ (tNo (tTr (xIsi "tuple" (xVar 1)))) (tNo (tTr (xN (o1 dAll) (zac (xN1 (lLc (lIt (xVar 1)) [3] (gNm 3) zcz (xN zj3 (zac (xVar 0) (zac (xVar 3) aNil))))) aNil))))) (sRet (xC (.bl false))) sNil)
    (sSeq (sSet 2 (xN1 (lLc (lIt (xVar 1)) [3] (gNm 3) zcz (x2 (o2 dIx) (xVar 3) (xC (.int 0))))))
    (sRet (x2 (o2 dEq) (xVar 2) (xN1 (zj2 (xVar 2)))))))
def zj1 : Fn := zav 4 zpi
def zmp : SFn := (sSeq (sIf (tOr_ (tNo (tTr (xIsi "tuple" (xVar 1)))) (tOr_ (tBl (x2 (o2 dNe) (xN (o1 dLen) (zac (xVar 1) aNil)) (xC (.int 3)))) (tNo (tTr (xN zj1 (zac (xVar 0) (zac (x2 (o2 dIx) (xVar 1) (xC (.int 0))) aNil))))))) (sRet (xC (.bl false))) sNil)
    (sSeq (sTg (gTp (gCo (gNm 2) (gCo (gNm 3) (gCo (gNm 4) gNo)))) (xVar 1))
    (sSeq (sIf (tOr_ (tNo (tTr (xN ze7 (zac (xVar 3) (zac (xC (.int 0)) (zac (x2 (o2 dSub) (xN (o1 dLen) (zac (xVar 0) aNil)) (xC (.int 1))) aNil)))))) (tBl (x2 (o2 dIn) (xVar 3) (xN1 (lLc (lIt (xVar 2)) [5] (gNm 5) zcz (x2 (o2 dIx) (xVar 5) (xC (.int 0)))))))) (sRet (xC (.bl false))) sNil)
    (sSeq (sIf (tBl (x2 (o2 dIsN) (xVar 4) (xC .non))) (sRet (xC (.bl true))) sNil)
    (sRet (xAnd (xN zeo (zac (x2 (o2 dIx) (xVar 0) (xVar 3)) (zac (xVar 4) aNil))) (xN (o1 dAll) (zac (xN1 (lLc (lIt (xVar 2)) [5] (gNm 5) zcz (x2 (o2 zqa) (x2 (o2 dIx) (xVar 5) (xC (.int 1))) (xC .non)))) aNil))))))))
def zh4 : Fn := zav 6 zmp
def zos : SFn := (sSeq (sIf (tOr_ (tNo (tTr (xIsi "tuple" (xVar 1)))) (tBl (x2 (o2 dGt) (xN (o1 dLen) (zac (xVar 1) aNil)) (xC (.int 8))))) (sRet (xC (.bl false))) sNil)
    (sRet (xN (o1 dAll) (zac (xN1 (lLc (lIt (xVar 1)) [2] (gNm 2) zcz (xN zh4 (zac (xVar 0) (zac (xVar 2) aNil))))) aNil))))
def zi7 : Fn := zav 3 zos
def zmo : SFn := (sRet (xN (o1 dAll) (zac (xN1 (lLc (lIt (xVar 0)) [2, 3] (gTp (gCo (gNm 2) (gCo (gNm 3) gNo))) zcz (xOr (x2 (o2 dIsN) (xVar 3) (xC .non)) (x2 (o2 dEq) (x2 (o2 dIx) (xVar 1) (xVar 2)) (xVar 3))))) aNil)))
def zfa : Fn := zav 4 zmo
def zoa : SFn := (sRet (xN (o1 dAll) (zac (xN1 (lLc (lIt (xVar 0)) [3] (gNm 3) zcz (x2 (o2 dEq) (x2 (o2 dIx) (xVar 1) (x2 (o2 dIx) (xVar 3) (xC (.int 0)))) (x2 (o2 dIx) (xVar 2) (x2 (o2 dIx) (xVar 3) (xC (.int 0))))))) aNil)))
def zje : Fn := zav 4 zoa
def zjs : SFn := (sSeq (zm7 (xN zei (zac (xVar 0) aNil)))
    (sIf (tNo (tTr (xN zi7 (zac (xVar 0) (zac (xVar 1) aNil))))) (zlu "InvalidRules") sNil))
def zcp : Fn := zav 2 zjs
def zms : SFn := (sSeq (sIf (tOr_ (tNo (tTr (xIsi "tuple" (xVar 1)))) (tNo (tTr (xN (o1 dAll) (zac (xN1 (lLc (lIt (xVar 1)) [2] (gNm 2) zcz (xN ze7 (zac (xVar 2) (zac (xC (.int 0)) (zac (x2 (o2 dSub) (xN (o1 dLen) (zac (xVar 0) aNil)) (xC (.int 1))) aNil)))))) aNil))))) (sRet (xC (.bl false))) sNil)
    (sRet (x2 (o2 dEq) (xN (o1 dList) (zac (xVar 1) aNil)) (xN1 (zj2 (xVar 1))))))
def ze8 : Fn := zav 3 zms
def ziq : SFn := (sIf (tNo (tTr (xN ze8 (zac (xVar 0) (zac (xVar 1) aNil))))) (zlu "InvalidSettled") sNil)
def zen : Fn := zav 2 ziq
def zk2 : SFn := (sSeq (sTg (gTp (gCo (gNm 3) (gCo (gNm 4) (gCo (gNm 5) gNo)))) (xVar 0))
    (sSeq (sIf (tBl (x2 (o2 zqa) (xVar 5) (xC .non))) (sRet (xLst (zac (xVar 5) aNil))) sNil)
    (sRet (xN1 (lLc (lIt (xVar 1)) [6] (gNm 6) (tAn (tTr (xN zfa (zac (xVar 3) (zac (xVar 6) aNil)))) (tTr (xN zje (zac (xVar 3) (zac (xVar 2) (zac (xVar 6) aNil)))))) (x2 (o2 dIx) (xVar 6) (xVar 4)))))))
def zfg : Fn := zav 7 zk2
def ze5 : SFn := (sSeq (sTg (gTp (gCo (gNm 7) (gCo (gNm 8) (gCo (gNm 9) gNo)))) (xVar 6))
    (sIf (tAn (tBl (x2 (o2 dNin) (xVar 8) (xVar 3))) (tAn (tTr (xN (o1 dAll) (zac (xN1 (lLc (lIt (xVar 7)) [10] (gNm 10) zcz (x2 (o2 dIn) (x2 (o2 dIx) (xVar 10) (xC (.int 0))) (xVar 3)))) aNil))) (tTr (xN zfa (zac (xVar 7) (zac (xVar 2) aNil)))))) (sExt (xVar 4) (xN1 (lLc (lIt (xN zfg (zac (xVar 6) (zac (xVar 1) (zac (xVar 2) aNil))))) [11] (gNm 11) zcz (xTup (zac (xVar 5) (zac (xVar 8) (zac (xVar 11) aNil))))))) sNil))
def ziy : SFn := (sSeq (sNew 4 (lLst aNil))
    (sSeq (sFor (lEnum (xVar 0)) (gTp (gCo (gNm 5) (gCo (gNm 6) gNo))) ze5)
    (sRet (xN1 (znt (xVar 4))))))
def za2 : Fn := zav 12 ziy
def s_do_step : SFn := (sSeq (sTg (gTp (gCo (gNm 3) (gCo (gNm 4) (gCo (gNm 5) gNo)))) (xVar 2))
    (sRet (xTup (zac (xTup (aStar (xSl (xVar 0) pNo (pEx (xVar 4))) (zac (xVar 5) (aStar (xSl (xVar 0) (pEx (x2 (o2 dAdd) (xVar 4) (xC (.int 1)))) pNo) aNil)))) (zac (xN (o1 ziv) (zac (xN1 (zkk (xTup (aStar (xVar 1) (zac (xVar 4) aNil))))) aNil)) aNil)))))
def zhb : Fn := zav 6 s_do_step
def zib : SFn := (sTg (gTp (gCo (gNm 0) (gCo (gNm 1) gNo))) (xN zhb (zac (xVar 0) (zac (xVar 1) (zac (xVar 3) aNil)))))
def zpl : SFn := (sSeq (sFor (lIt (xVar 2)) (gNm 3) zib)
    (sRet (xTup (zac (xVar 0) (zac (xVar 1) aNil)))))
def zel : Fn := zav 4 zpl
def zhc : SFn := (sSeq (sApp (xVar 5) (x2 (o2 dIx) (xVar 6) (xC (.int 0))))
    (sSeq (sTg (gTp (gCo (gNm 2) (gCo (gNm 3) gNo))) (xN zhb (zac (xVar 2) (zac (xVar 3) (zac (x2 (o2 dIx) (xVar 6) (xC (.int 0))) aNil)))))
    (sSet 6 (xN1 (lLc (lIt (xN za2 (zac (xVar 0) (zac (xVar 1) (zac (xVar 2) (zac (xVar 3) aNil)))))) [7] (gNm 7) (tBl (x2 (o2 dNe) (x2 (o2 dIx) (xVar 7) (xC (.int 1))) (xVar 4))) (xVar 7))))))
def zpo : SFn := (sSeq (sNew 5 (lLst aNil))
    (sSeq (sSet 6 (xN1 (lLc (lIt (xN za2 (zac (xVar 0) (zac (xVar 1) (zac (xVar 2) (zac (xVar 3) aNil)))))) [7] (gNm 7) (tBl (x2 (o2 dNe) (x2 (o2 dIx) (xVar 7) (xC (.int 1))) (xVar 4))) (xVar 7))))
    (sSeq (sWhile (tBl (x2 (o2 dNe) (xVar 6) (xLst aNil))) zhc)
    (sSeq (sFrz 5) (sRet (xVar 5))))))
def ze6 : Fn := zav 8 zpo
def s_go_on : SFn := (sSeq (sTg (gTp (gCo (gNm 5) (gCo (gNm 6) gNo))) (xN zel (zac (xVar 2) (zac (xVar 3) (zac (xVar 4) aNil)))))
    (sRet (x2 (o2 dAdd) (xVar 4) (xN ze6 (zac (xVar 0) (zac (xVar 1) (zac (xVar 5) (zac (xVar 6) (zac (xC .non) aNil)))))))))
def zou : Fn := zav 7 s_go_on
def zcw : SFn := (sIf (tBl (x2 (o2 dNe) (x2 (o2 dIx) (xVar 8) (xC (.int 2))) (x2 (o2 dIx) (x2 (o2 dIx) (xVar 7) (xC (.int 0))) (xC (.int 2))))) (sSeq (sSet 11 (xLst (zac (xLst (aStar (xVar 6) (zac (x2 (o2 dIx) (xVar 7) (xC (.int 0))) aNil))) (zac (xLst (aStar (xVar 6) (zac (xVar 8) aNil))) aNil))))
    (sRet (xN1 (lLc (lIt (xVar 11)) [12] (gNm 12) zcz (xN zou (zac (xVar 1) (zac (xVar 2) (zac (xVar 3) (zac (xVar 4) (zac (xVar 12) aNil)))))))))) sNil)
def zex : SFn := (sSeq (sSet 6 (xN ze6 (zac (xVar 1) (zac (xVar 2) (zac (xVar 3) (zac (xVar 4) (zac (xVar 5) aNil)))))))
    (sSeq (sTg (gTp (gCo (gNm 9) (gCo (gNm 10) gNo))) (xN zel (zac (xVar 3) (zac (xVar 4) (zac (xVar 6) aNil)))))
    (sSeq (sSet 7 (xN1 (lLc (lIt (xN za2 (zac (xVar 1) (zac (xVar 2) (zac (xVar 9) (zac (xVar 10) aNil)))))) [8] (gNm 8) (tBl (x2 (o2 dEq) (x2 (o2 dIx) (xVar 8) (xC (.int 1))) (xVar 5))) (xVar 8))))
    (sFor (lIt (xSl (xVar 7) (pEx (xC (.int 1))) pNo)) (gNm 8) zcw))))
def zmj : SFn := (sSeq (sFor (lRg1 (zac (xN (o1 dLen) (zac (xVar 0) aNil)) aNil)) (gNm 5) zex)
    (sRet (xC .non)))
def zi_ : Fn := zav 13 zmj
def zdu : SFn := (sIf (tBl (x2 (o2 dNin) (xVar 6) (xVar 4))) (sSeq (sTg (gTp (gCo (gNm 7) (gCo (gNm 8) gNo))) (xN zel (zac (xVar 3) (zac (xVar 4) (zac (xN ze6 (zac (xVar 1) (zac (xVar 2) (zac (xVar 3) (zac (xVar 4) (zac (xVar 6) aNil)))))) aNil)))))
    (sApp (xVar 5) (xTup (zac (xVar 6) (zac (xVar 8) aNil))))) sNil)
def zln : SFn := (sSeq (sNew 5 (lLst aNil))
    (sSeq (sFor (lRg1 (zac (xN (o1 dLen) (zac (xVar 0) aNil)) aNil)) (gNm 6) zdu)
    (sRet (xN (o1 ziv) (zac (xVar 5) aNil)))))
def zhj : Fn := zav 9 zln
def zh1 : SFn := (sIf (tOr_ (tBl (x2 (o2 dNe) (x2 (o2 dIx) (xVar 8) (xC (.int 1))) (xVar 6))) (tOr_ (tBl (x2 (o2 dNin) (xVar 6) (xVar 5))) (tBl (x2 (o2 dNe) (xVar 9) (x2 (o2 dIx) (xVar 4) (xVar 6)))))) (sRet (xC (.bl false))) sNil)
def zbz : SFn := (sSeq (sIf (tOr_ (tBl (x2 (o2 dIn) (x2 (o2 dIx) (xVar 8) (xC (.int 1))) (xVar 3))) (tOr_ (tBl (x2 (o2 dIn) (x2 (o2 dIx) (xVar 8) (xC (.int 1))) (xVar 7))) (tNo (tTr (xN zfa (zac (x2 (o2 dIx) (xVar 8) (xC (.int 0))) (zac (xVar 4) aNil))))))) sCnt sNil)
    (sIf (tTr (xN (o1 dAll) (zac (xN1 (lLc (lIt (x2 (o2 dIx) (xVar 8) (xC (.int 0)))) [10] (gNm 10) zcz (x2 (o2 dIn) (x2 (o2 dIx) (xVar 10) (xC (.int 0))) (xVar 7)))) aNil))) (sFor (lIt (xN zfg (zac (xVar 8) (zac (xVar 2) (zac (xVar 4) aNil))))) (gNm 9) zh1) sNil))
def zph : SFn := (sSeq (sIf (tOr_ (tNo (tTr (xN ze8 (zac (xVar 0) (zac (xVar 7) aNil))))) (tBl (x2 (o2 dIn) (xVar 6) (xVar 7)))) (sRet (xC (.bl false))) sNil)
    (sSeq (sIf (tOr_ (tNo (tTr (xN (o1 dAll) (zac (xN1 (lLc (lIt (xVar 7)) [9] (gNm 9) zcz (x2 (o2 dIn) (xVar 9) (xVar 5)))) aNil)))) (tNo (tTr (xN (o1 dAll) (zac (xN1 (lLc (lIt (xVar 3)) [9] (gNm 9) zcz (x2 (o2 dIn) (xVar 9) (xVar 7)))) aNil))))) (sRet (xC (.bl false))) sNil)
    (sSeq (sFor (lIt (xVar 1)) (gNm 8) zbz)
    (sRet (xC (.bl true))))))
def zim : Fn := zav 11 zph
def zit : SFn := (sSeq (sSet 3 (xN1 (lLc (lRg1 (zac (xN (o1 dLen) (zac (xVar 0) aNil)) aNil)) [4] (gNm 4) (tBl (x2 (o2 dNin) (xVar 4) (xVar 1))) (xVar 4))))
    (sSeq (sIf (tOr_ (tNo (tTr (xIsi "tuple" (xVar 2)))) (tNo (tTr (xN (o1 dAll) (zac (xN1 (lLc (lIt (xVar 2)) [5] (gNm 5) zcz (xAnd (xIsi "tuple" (xVar 5)) (x2 (o2 dEq) (xN (o1 dLen) (zac (xVar 5) aNil)) (xC (.int 2)))))) aNil))))) (sRet (xC (.bl false))) sNil)
    (sRet (xAnd (x2 (o2 dEq) (xN1 (lLc (lIt (xVar 2)) [5] (gNm 5) zcz (x2 (o2 dIx) (xVar 5) (xC (.int 0))))) (xVar 3)) (xN (o1 dAll) (zac (xN1 (lLc (lIt (xVar 2)) [5] (gNm 5) zcz (xN zco (zac (x2 (o2 dIx) (xVar 5) (xC (.int 0))) aNil)))) aNil))))))
def zer : Fn := zav 6 zit
def zmc : SFn := (sRet (xN (o1 dAll) (zac (xN1 (lLc (lIt (xVar 6)) [7] (gNm 7) zcz (xN zim (zac (xVar 0) (zac (xVar 1) (zac (xVar 2) (zac (xVar 3) (zac (xVar 4) (zac (xVar 5) (zac (x2 (o2 dIx) (xVar 7) (xC (.int 0))) (zac (x2 (o2 dIx) (xVar 7) (xC (.int 1))) aNil))))))))))) aNil)))
def zh7 : Fn := zav 8 zmc
def zfe : SFn := (sSeq (sIf (tOr_ (tNo (tTr (xIsi "tuple" (xVar 5)))) (tOr_ (tBl (x2 (o2 dNe) (xN (o1 dLen) (zac (xVar 5) aNil)) (xC (.int 3)))) (tNo (tTr (xN (o1 dAll) (zac (xN1 (lLc (lIt (xVar 5)) [6] (gNm 6) zcz (xN zco (zac (xVar 6) aNil)))) aNil)))))) (sRet (xC (.bl false))) sNil)
    (sSeq (sIf (tBl (x2 (o2 dNin) (xVar 5) (xN za2 (zac (xVar 0) (zac (xVar 1) (zac (xVar 2) (zac (xVar 3) aNil))))))) (sRet (xC (.bl false))) sNil)
    (sTg (gTp (gCo (gNm 2) (gCo (gNm 3) gNo))) (xN zhb (zac (xVar 2) (zac (xVar 3) (zac (xVar 5) aNil)))))))
def zla : SFn := (sSeq (sIf (tNo (tTr (xIsi "list" (xVar 4)))) (sRet (xC (.bl false))) sNil)
    (sSeq (sFor (lIt (xVar 4)) (gNm 5) zfe)
    (sRet (xC (.bl true)))))
def zhl : Fn := zav 7 zla
def zoe : SFn := (sSeq (sIf (tNo (tTr (xN zhl (zac (xVar 0) (zac (xVar 1) (zac (xVar 2) (zac (xVar 3) (zac (xVar 4) aNil)))))))) (sRet (xC (.bl false))) sNil)
    (sSeq (sTg (gTp (gCo (gNm 5) (gCo (gNm 6) gNo))) (xN zel (zac (xVar 2) (zac (xVar 3) (zac (xVar 4) aNil)))))
    (sRet (x2 (o2 dEq) (xN za2 (zac (xVar 0) (zac (xVar 1) (zac (xVar 5) (zac (xVar 6) aNil))))) (xLst aNil)))))
def zfy : Fn := zav 7 zoe
def s_do_part : SFn := (sRet (xN (o1 dAny) (zac (xN1 (lLc2 (lIt (xVar 0)) [2, 3] (gNm 2) zcz (lIt (xVar 1)) [3] (gNm 3) zcz (xAnd (x2 (o2 dEq) (x2 (o2 dIx) (xVar 2) (xC (.int 1))) (x2 (o2 dIx) (xVar 3) (xC (.int 1)))) (x2 (o2 dNe) (x2 (o2 dIx) (xVar 2) (xC (.int 2))) (x2 (o2 dIx) (xVar 3) (xC (.int 2))))))) aNil)))
def zlj : Fn := zav 4 s_do_part
def zk5 : SFn := (sSeq (zm7 (xN zcp (zac (xVar 0) (zac (xVar 1) aNil))))
    (sSeq (zm7 (xN zfd (zac (xVar 0) (zac (xVar 2) aNil))))
    (sSeq (zm7 (xN zhp (zac (xVar 0) (zac (xVar 3) aNil))))
    (zm7 (xN zen (zac (xVar 0) (zac (xVar 4) aNil)))))))
def zeq : Fn := zav 5 zk5
def zmz : SFn := (sSeq (zm7 (xN zeq (zac (xVar 0) (zac (xVar 1) (zac (xVar 2) (zac (xVar 3) (zac (xVar 4) aNil)))))))
    (sRet (xN za2 (zac (xVar 1) (zac (xVar 2) (zac (xVar 3) (zac (xVar 4) aNil)))))))
def zha : Fn := zav 5 zmz
def s_run : SFn := (sSeq (zm7 (xN zeq (zac (xVar 0) (zac (xVar 1) (zac (xVar 2) (zac (xVar 3) (zac (xVar 4) aNil)))))))
    (sRet (xN ze6 (zac (xVar 1) (zac (xVar 2) (zac (xVar 3) (zac (xVar 4) (zac (xC .non) aNil))))))))
def g_run : Fn := zav 5 s_run
def s_fix : SFn := (sSeq (zm7 (xN zeq (zac (xVar 0) (zac (xVar 1) (zac (xVar 2) (zac (xVar 3) (zac (xVar 4) aNil)))))))
    (sSeq (sSet 5 (xN zi_ (zac (xVar 0) (zac (xVar 1) (zac (xVar 2) (zac (xVar 3) (zac (xVar 4) aNil)))))))
    (sSeq (sIf (tBl (x2 (o2 zqa) (xVar 5) (xC .non))) (sRet (xTup (zac (xC (.str "parts")) (zac (x2 (o2 dIx) (xVar 5) (xC (.int 0))) (zac (x2 (o2 dIx) (xVar 5) (xC (.int 1))) aNil))))) sNil)
    (sSeq (sTg (gTp (gCo (gNm 6) (gCo (gNm 7) gNo))) (xN zel (zac (xVar 3) (zac (xVar 4) (zac (xN ze6 (zac (xVar 1) (zac (xVar 2) (zac (xVar 3) (zac (xVar 4) (zac (xC .non) aNil)))))) aNil)))))
    (sRet (xTup (zac (xC (.str "fixed")) (zac (xVar 6) (zac (xVar 7) (zac (xN zhj (zac (xVar 0) (zac (xVar 1) (zac (xVar 2) (zac (xVar 3) (zac (xVar 4) aNil)))))) aNil))))))))))
def g_fix : Fn := zav 8 s_fix
def zn2 : SFn := (sSeq (sIf (tNo (tTr (xN zfi (zac (xVar 0) (zac (xVar 1) aNil))))) (sRet (xC (.int 0))) sNil)
    (sSeq (sIf (tNo (tTr (xN zgu (zac (xVar 0) (zac (xVar 2) aNil))))) (sRet (xC (.int 1))) sNil)
    (sRet (xIf (tTr (xN ze8 (zac (xVar 0) (zac (xVar 3) aNil)))) (xC .non) (xC (.int 2))))))
def zhx : Fn := zav 4 zn2
def zk9 : SFn := (sSeq (sSet 7 (xN zhx (zac (xVar 0) (zac (xVar 2) (zac (xVar 3) (zac (xVar 4) aNil))))))
    (sSeq (sIf (tBl (x2 (o2 zqa) (xVar 7) (xC .non))) (sRet (xVar 7)) sNil)
    (sSeq (sIf (tNo (tTr (xN zfy (zac (xVar 1) (zac (xVar 2) (zac (xVar 3) (zac (xVar 4) (zac (xVar 5) aNil)))))))) (sRet (xC (.int 3))) sNil)
    (sSeq (sIf (tNo (tTr (xN zer (zac (xVar 0) (zac (xVar 4) (zac (xVar 6) aNil)))))) (sRet (xC (.int 4))) sNil)
    (sSeq (sTg (gTp (gCo (gNm 8) (gCo (gNm 9) gNo))) (xN zel (zac (xVar 3) (zac (xVar 4) (zac (xVar 5) aNil)))))
    (sRet (xIf (tTr (xN zh7 (zac (xVar 0) (zac (xVar 1) (zac (xVar 2) (zac (xVar 4) (zac (xVar 8) (zac (xVar 9) (zac (xVar 6) aNil))))))))) (xC .non) (xC (.int 5)))))))))
def zeh : Fn := zav 10 zk9
def zlh : SFn := (sSeq (sSet 7 (xN zhx (zac (xVar 0) (zac (xVar 2) (zac (xVar 3) (zac (xVar 4) aNil))))))
    (sSeq (sIf (tBl (x2 (o2 zqa) (xVar 7) (xC .non))) (sRet (xVar 7)) sNil)
    (sSeq (sIf (tNo (tTr (xN (o1 dAll) (zac (xN1 (lLc (lIt (xTup (zac (xVar 5) (zac (xVar 6) aNil)))) [8] (gNm 8) zcz (xN zfy (zac (xVar 1) (zac (xVar 2) (zac (xVar 3) (zac (xVar 4) (zac (xVar 8) aNil)))))))) aNil)))) (sRet (xC (.int 3))) sNil)
    (sRet (xIf (tTr (xN zlj (zac (xVar 5) (zac (xVar 6) aNil)))) (xC .non) (xC (.int 4)))))))
def zek : Fn := zav 9 zlh
def zjv : SFn := (sSeq (sPar 1 2 (x2 (o2 dIx) (xVar 0) (xC (.int 0))) (xSl (xVar 0) (pEx (xC (.int 1))) pNo))
    (sSeq (sIf (tBl (x2 (o2 dEq) (xVar 1) (xC (.str "run")))) (sRet xBad) sNil)
    (sSeq (sIf (tBl (x2 (o2 dEq) (xVar 1) (xC (.str "alike")))) (sRet (xNS 7 zeh (xVar 2))) sNil)
    (sRet (xIf (tBl (x2 (o2 dEq) (xVar 1) (xC (.str "parts")))) (xNS 7 zek (xVar 2)) xBad)))))
def zef : Fn := zav 3 zjv
def s_check : SFn := (sSeq (sIf (tOr_ (tNo (tTr (xIsi "tuple" (xVar 0)))) (tOr_ (tBl (x2 (o2 dEq) (xVar 0) (xTup aNil))) (tNo (tTr (xIsi "str" (x2 (o2 dIx) (xVar 0) (xC (.int 0)))))))) (zlu "NotACertificate") sNil)
    (sSeq (sIf (tBl (x2 (o2 dNe) (xGGet zfj (x2 (o2 dIx) (xVar 0) (xC (.int 0))) (xGGet zbv (x2 (o2 dIx) (xVar 0) (xC (.int 0))) (xC (.int 0)))) (xN (o1 dLen) (zac (xVar 0) aNil)))) (zlu "NotACertificate") sNil)
    (sSeq (zm7 (xN zcp (zac (x2 (o2 dIx) (xVar 0) (xC (.int 1))) (zac (x2 (o2 dIx) (xVar 0) (xC (.int 2))) aNil))))
    (sSeq (sIf (tBl (x2 (o2 dEq) (x2 (o2 dIx) (xVar 0) (xC (.int 0))) (xC (.str "cover")))) (zm7 xBad) sNil)
    (sSeq (sSet 1 (xN zef (zac (xVar 0) aNil)))
    (sRet (xIf (tBl (x2 (o2 dIsN) (xVar 1) (xC .non))) (xTup (zac (xC (.str "right")) aNil)) (xTup (zac (xC (.str "wrong")) (zac (xVar 1) aNil))))))))))
def zkj : Fn := zav 2 s_check
def zke : SFn := (sSeq (sIf (tBl (x2 (o2 dGe) (xVar 0) (x2 (o2 dPow) (xC (.int 10)) (xC (.int 18))))) (sRet (xVar 0)) sNil)
    (sSeq (sSet 2 (xLst (zac (xC (.int 2147483629)) (zac (xC (.int 2147483587)) (zac (xC (.int 2147483579)) (zac (xC (.int 2147483563)) (zac (xC (.int 2147483549)) (zac (xC (.int 2147483543)) (zac (xC (.int 2147483497)) aNil)))))))))
    (sSeq (sSet 2 (x2 (o2 dAdd) (xVar 2) (xLst (zac (xC (.int 2147483489)) (zac (xC (.int 2147483477)) (zac (xC (.int 2147483423)) (zac (xC (.int 2147483399)) (zac (xC (.int 2147483353)) (zac (xC (.int 2147483323)) aNil)))))))))
    (sSeq (sSet 3 (x2 (o2 dAdd) (x2 (o2 dAdd) (x2 (o2 zjl) (x2 (o2 dMod) (xN (o1 dInt) (zac (xVar 0) aNil)) (xC (.int 1000000007))) (x2 (o2 dAdd) (x2 (o2 zjl) (xC (.int 2)) (xVar 1)) (xC (.int 69069)))) (x2 (o2 zjl) (xVar 1) (xC (.int 40503)))) (xC (.int 977))))
    (sSeq (sSet 4 (x2 (o2 dMod) (xN (o1 dInt) (zac (x2 (o2 dPow) (xVar 3) (xC (.int 3))) aNil)) (x2 (o2 dIx) (xVar 2) (x2 (o2 dMod) (xN (o1 dInt) (zac (xVar 1) aNil)) (xC (.int 13))))))
    (sSeq (sSet 5 (x2 (o2 dAdd) (x2 (o2 dMod) (xN (o1 dInt) (zac (xVar 0) aNil)) (xC (.int 65537))) (xC (.int 5))))
    (sSeq (sSet 6 (x2 (o2 dMod) (xN (o1 dInt) (zac (x2 (o2 dPow) (x2 (o2 dAdd) (x2 (o2 zjl) (xVar 4) (x2 (o2 dAdd) (xVar 1) (xC (.int 3)))) (xVar 5)) (xC (.int 5))) aNil)) (x2 (o2 dIx) (xVar 2) (x2 (o2 dMod) (xN (o1 dInt) (zac (x2 (o2 dAdd) (xVar 1) (xC (.int 5))) aNil)) (xC (.int 13))))))
    (sSeq (sSet 7 (x2 (o2 dMod) (xN (o1 dInt) (zac (x2 (o2 dPow) (x2 (o2 dAdd) (x2 (o2 dAdd) (xVar 6) (x2 (o2 dMod) (xN (o1 dInt) (zac (xVar 4) aNil)) (xC (.int 1009)))) (xVar 1)) (xC (.int 3))) aNil)) (x2 (o2 dIx) (xVar 2) (x2 (o2 dMod) (xN (o1 dInt) (zac (x2 (o2 dAdd) (xVar 1) (xC (.int 7))) aNil)) (xC (.int 13))))))
    (sRet (x2 (o2 dAdd) (x2 (o2 zjl) (x2 (o2 dAdd) (x2 (o2 zjl) (xVar 4) (xC (.int 2147483647))) (xVar 6)) (xC (.int 2147483647))) (xVar 7)))))))))))
def zg5 : Fn := zav 8 zke
def zey : SFn := (sPut (xVar 1) (x2 (o2 dMod) (xN (o1 dInt) (zac (xVar 2) aNil)) (xC (.int 12))) (x2 (o2 dAdd) (x2 (o2 dIx) (xVar 1) (x2 (o2 dMod) (xN (o1 dInt) (zac (xVar 2) aNil)) (xC (.int 12)))) (xVar 3)))
def zmr : SFn := (sSeq (sNew 1 (lList (xSl (xVar 0) pNo (pEx (xC (.int 12))))))
    (sSeq (sFor (lEnum (xSl (xVar 0) (pEx (xC (.int 12))) (pEx (xC (.int 63))))) (gTp (gCo (gNm 2) (gCo (gNm 3) gNo))) zey)
    (sSeq (sFrz 1) (sRetN (lLst (zac (xVar 1) (zac (xC (.int 0)) (zac (xC (.int 0)) aNil))))))))
def zh6 : Fn := zav 4 zmr
def zm1 : SFn := (sSeq (sIf (tBl (x2 (o2 dLt) (x2 (o2 dIx) (xVar 0) (xC (.int 2))) (xVar 1))) (sSeq (sSet 3 (x2 (o2 dIx) (xVar 0) (xC (.int 1))))
    (sSeq (sSet 4 (xC (.int 0)))
    (sSeq (sIf (tBl (x2 (o2 dLt) (xVar 3) (xN (o1 dLen) (zac (x2 (o2 dIx) (xVar 0) (xC (.int 0))) aNil)))) (sSet 4 (x2 (o2 dIx) (x2 (o2 dIx) (xVar 0) (xC (.int 0))) (xVar 3))) (sIf (tBl (x2 (o2 dGt) (xN (o1 dLen) (zac (x2 (o2 dIx) (xVar 0) (xC (.int 0))) aNil)) (xC (.int 0)))) (sSet 4 (x2 (o2 dMod) (xN (o1 dInt) (zac (x2 (o2 dIx) (x2 (o2 dIx) (xVar 0) (xC (.int 0))) (x2 (o2 dMod) (xN (o1 dInt) (zac (x2 (o2 dAdd) (x2 (o2 zjl) (xVar 3) (xC (.int 5))) (xC (.int 3))) aNil)) (xN (o1 dLen) (zac (x2 (o2 dIx) (xVar 0) (xC (.int 0))) aNil)))) aNil)) (x2 (o2 dAdd) (x2 (o2 dPow) (xC (.int 10)) (xC (.int 17))) (xVar 3)))) sNil))
    (sSeq (sPut (xVar 0) (xC (.int 1)) (x2 (o2 dAdd) (xVar 3) (xC (.int 1))))
    (sPut (xVar 0) (xC (.int 2)) (xN zg5 (zac (xVar 4) (zac (xVar 3) aNil)))))))) sNil)
    (sSeq (sSet 2 (x2 (o2 dMod) (xN (o1 dInt) (zac (x2 (o2 dIx) (xVar 0) (xC (.int 2))) aNil)) (xVar 1)))
    (sSeq (sPut (xVar 0) (xC (.int 2)) (x2 (o2 dDiv) (x2 (o2 dIx) (xVar 0) (xC (.int 2))) (xVar 1)))
    (sRet (xVar 2)))))
def zbc : Fn := zav 5 zm1
def zm0 : SFn := (sSeq (sPut (xVar 0) (xC (.int 2)) (xC (.int 0)))
    (sRet (xVar 0)))
def zh0 : Fn := zav 1 zm0
def zor : SFn := (sRet (x2 (o2 dIx) (xVar 1) (xN zbc (zac (xVar 0) (zac (xN (o1 dLen) (zac (xVar 1) aNil)) aNil)))))
def zcs : Fn := zav 2 zor
def zej : SFn := (sSeq (sSet 5 (xN1 (zj2 (xN1 (lLc (lRg1 (zac (x2 (o2 dAdd) (xC (.int 1)) (xN zbc (zac (xVar 0) (zac (xC (.int 3)) aNil)))) aNil)) [6] (gNm 6) zcz (xN zbc (zac (xVar 0) (zac (xC (.int 4)) aNil))))))))
    (sIf (tAn (tBl (x2 (o2 dLt) (xVar 4) (xC (.int 2)))) (tBl (x2 (o2 dEq) (xN zbc (zac (xVar 0) (zac (xC (.int 3)) aNil))) (xC (.int 0))))) (sSeq (sSet 4 (x2 (o2 dAdd) (xVar 4) (xC (.int 1))))
    (sSet 3 (x2 (o2 dAdd) (xVar 3) (xTup (zac (xN (o1 ziv) (zac (xVar 5) aNil)) aNil))))) (sSet 3 (x2 (o2 dAdd) (xVar 3) (xTup (zac (xC .non) aNil))))))
def zjn : SFn := (sSeq (sTg (gTp (gCo (gNm 3) (gCo (gNm 4) gNo))) (xTup (zac (xTup aNil) (zac (xC (.int 0)) aNil))))
    (sSeq (sFor (lRg1 (zac (x2 (o2 dAdd) (xC (.int 1)) (xN zbc (zac (xVar 0) (zac (xVar 1) aNil)))) aNil)) (gNm 2) zej)
    (sRet (xVar 3))))
def zfo : Fn := zav 7 zjn
def zlk : SFn := (sSeq (sIf (tBl (x2 (o2 dIsN) (xVar 1) (xC .non))) (sRet (xN zcs (zac (xVar 0) (zac (xLst (zac (xC (.int 0)) (zac (xC (.int 1)) (zac (xC (.int 2)) (zac (xC (.int 0)) (zac (xC (.int 1)) (zac (xC (.int 2)) (zac (xC (.int 3)) (zac (x2 (o2 dPow) (xC (.int 10)) (xC (.int 29))) (zac (x2 (o2 dAdd) (x2 (o2 dPow) (xC (.int 10)) (xC (.int 29))) (xC (.int 1))) aNil)))))))))) aNil)))) sNil)
    (sRet (xN zcs (zac (xVar 0) (zac (xVar 1) aNil)))))
def zd9 : Fn := zav 2 zlk
def zok : SFn := (sRet (xN (o1 ziv) (zac (xN1 (lLc (lIt (xVar 1)) [2] (gNm 2) zcz (xN zd9 (zac (xVar 0) (zac (xVar 2) aNil))))) aNil)))
def zhu : Fn := zav 3 zok
def zff : SFn := (sSeq (sSet 5 (xN zhu (zac (xVar 0) (zac (xVar 1) aNil))))
    (sSeq (sIf (tAn (tBl (x2 (o2 dGt) (xVar 4) (xC (.int 0)))) (tBl (x2 (o2 dEq) (xN zbc (zac (xVar 0) (zac (xC (.int 2)) aNil))) (xC (.int 0))))) (sSeq (sSet 6 (xN zbc (zac (xVar 0) (zac (xN (o1 dLen) (zac (xVar 1) aNil)) aNil))))
    (sSeq (sSet 7 (xN zcs (zac (xVar 0) (zac (xVar 3) aNil))))
    (sSet 5 (x2 (o2 dAdd) (x2 (o2 dAdd) (xSl (xVar 7) pNo (pEx (xVar 6))) (xSl (xVar 5) (pEx (xVar 6)) (pEx (x2 (o2 dAdd) (xVar 6) (xC (.int 1)))))) (xSl (xVar 7) (pEx (x2 (o2 dAdd) (xVar 6) (xC (.int 1)))) pNo))))) sNil)
    (sSet 3 (x2 (o2 dAdd) (xVar 3) (xTup (zac (xVar 5) aNil))))))
def zk8 : SFn := (sSeq (sSet 3 (xTup aNil))
    (sSeq (sFor (lRg1 (zac (xVar 2) aNil)) (gNm 4) zff)
    (sRet (xVar 3))))
def zhq : Fn := zav 8 zk8
def zg7 : SFn := (sSeq (sSet 6 (xN zbc (zac (xVar 0) (zac (xC (.int 5)) aNil))))
    (sIf (tAn (tBl (x2 (o2 dNe) (xVar 5) (xVar 2))) (tBl (x2 (o2 dLt) (xVar 6) (xC (.int 2))))) (sSet 4 (x2 (o2 dAdd) (xVar 4) (xTup (zac (xTup (zac (xVar 5) (zac (xN zd9 (zac (xVar 0) (zac (x2 (o2 dIx) (xVar 1) (xVar 5)) aNil))) aNil))) aNil)))) (sIf (tAn (tBl (x2 (o2 dNe) (xVar 5) (xVar 2))) (tAn (tBl (x2 (o2 dEq) (xVar 6) (xC (.int 2)))) (tBl (x2 (o2 dIsN) (xVar 3) (xC .non))))) (sSet 4 (x2 (o2 dAdd) (xVar 4) (xTup (zac (xTup (zac (xVar 5) (zac (xC .non) aNil))) aNil)))) sNil)))
def zmk : SFn := (sSeq (sSet 2 (xN zbc (zac (xVar 0) (zac (xN (o1 dLen) (zac (xVar 1) aNil)) aNil))))
    (sSeq (sSet 3 (xN zcs (zac (xVar 0) (zac (xLst (zac (xC .non) (zac (xC .non) (zac (xN zd9 (zac (xVar 0) (zac (x2 (o2 dIx) (xVar 1) (xVar 2)) aNil))) aNil)))) aNil))))
    (sSeq (sSet 4 (xTup aNil))
    (sSeq (sFor (lRg1 (zac (xN (o1 dLen) (zac (xVar 1) aNil)) aNil)) (gNm 5) zg7)
    (sRet (xTup (zac (xVar 4) (zac (xVar 2) (zac (xVar 3) aNil)))))))))
def zh2 : Fn := zav 7 zmk
def zg8 : SFn := (sSet 2 (x2 (o2 dAdd) (xVar 2) (xTup (zac (xN zh2 (zac (xVar 0) (zac (xVar 1) aNil))) aNil))))
def zmh : SFn := (sSeq (sSet 1 (xN zfo (zac (xVar 0) (zac (xC (.int 4)) aNil))))
    (sSeq (sSet 2 (xTup aNil))
    (sSeq (sFor (lRg1 (zac (xN zbc (zac (xVar 0) (zac (xC (.int 9)) aNil))) aNil)) (gNm 3) zg8)
    (sSeq (sSet 4 (xN zhq (zac (xVar 0) (zac (xVar 1) (zac (xN zcs (zac (xVar 0) (zac (xLst (zac (xC (.int 1)) (zac (xC (.int 2)) (zac (xC (.int 2)) (zac (xC (.int 3)) (zac (xC (.int 4)) (zac (xC (.int 8)) aNil))))))) aNil))) aNil)))))
    (sSeq (sSet 5 (xN zcs (zac (xVar 0) (zac (xLst (zac (xN zhu (zac (xVar 0) (zac (xVar 1) aNil))) (zac (xN zcs (zac (xVar 0) (zac (xVar 4) aNil))) aNil))) aNil))))
    (sSeq (sSet 6 (xN (o1 ziv) (zac (xN1 (lLc (lRg1 (zac (xN (o1 dLen) (zac (xVar 1) aNil)) aNil)) [3] (gNm 3) (tBl (x2 (o2 dLt) (xN zbc (zac (xVar 0) (zac (xC (.int 5)) aNil))) (xC (.int 2)))) (xVar 3))) aNil)))
    (sRet (xTup (zac (xVar 1) (zac (xVar 2) (zac (xVar 4) (zac (xVar 5) (zac (xVar 6) aNil)))))))))))))
def zh3 : Fn := zav 7 zmh
def zeb : SFn := (sSeq (sSet 7 (xN zha (zac (xVar 1) (zac (xVar 2) (zac (xVar 3) (zac (xVar 4) (zac (xVar 5) aNil)))))))
    (sIf (tBl (x2 (o2 dNe) (xVar 7) (xLst aNil))) (sSeq (sTg (gTp (gCo (gNm 8) (gCo (gNm 9) (gCo (gNm 10) gNo)))) (xN zcs (zac (xVar 0) (zac (xVar 7) aNil))))
    (sSeq (sSet 4 (x2 (o2 dAdd) (x2 (o2 dAdd) (xSl (xVar 4) pNo (pEx (xVar 9))) (xTup (zac (xVar 10) aNil))) (xSl (xVar 4) (pEx (x2 (o2 dAdd) (xVar 9) (xC (.int 1)))) pNo)))
    (sSet 5 (xN (o1 ziv) (zac (xN1 (zkk (x2 (o2 dAdd) (xVar 5) (xTup (zac (xVar 9) aNil))))) aNil))))) sNil))
def zmv : SFn := (sSeq (sFor (lRg1 (zac (xC (.int 5)) aNil)) (gNm 6) zeb)
    (sRet (xTup (zac (xVar 4) (zac (xVar 5) aNil)))))
def zh8 : Fn := zav 11 zmv
def zhm : SFn := (sSeq (sSet 0 (x2 (o2 dAdd) (x2 (o2 dAdd) (xSl (xVar 0) pNo (pEx (xVar 4))) (xTup (zac (xVar 5) aNil))) (xSl (xVar 0) (pEx (x2 (o2 dAdd) (xVar 4) (xC (.int 1)))) pNo)))
    (sSet 1 (xN (o1 ziv) (zac (xN1 (zkk (x2 (o2 dAdd) (xVar 1) (xTup (zac (xVar 4) aNil))))) aNil))))
def znx : SFn := (sSeq (sFor (lIt (xVar 2)) (gTp (gCo (gNm 3) (gCo (gNm 4) (gCo (gNm 5) gNo)))) zhm)
    (sRet (xTup (zac (xVar 0) (zac (xVar 1) aNil)))))
def zi5 : Fn := zav 6 znx
def zcn : SFn := (sIf (tBl (x2 (o2 dNe) (xN zh8 (zac (xVar 0) (zac (xVar 7) (zac (xVar 8) (zac (xVar 9) (zac (xVar 10) (zac (xVar 11) aNil))))))) (xVar 12))) (sRet (xC (.bl false))) sNil)
def zhw : SFn := (sSeq (sTg (gTp (gCo (gNm 7) (gCo (gNm 8) (gCo (gNm 9) (gCo (gNm 10) (gCo (gNm 11) gNo)))))) (xVar 1))
    (sSeq (sPar 12 13 (xSl (xVar 2) (pEx (xC (.int 1))) (pEx (xC (.int 3)))) (x2 (o2 dIx) (xVar 2) (xC (.int 3))))
    (sSeq (sSet 3 (xN g_fix (zac (xVar 7) (zac (xVar 8) (zac (xVar 9) (zac (x2 (o2 dIx) (xVar 12) (xC (.int 0))) (zac (x2 (o2 dIx) (xVar 12) (xC (.int 1))) aNil)))))))
    (sSeq (sIf (tBl (x2 (o2 dNe) (xSl (xVar 3) pNo (pEx (xC (.int 3)))) (xSl (xVar 2) pNo (pEx (xC (.int 3)))))) (sRet (xC (.bl false))) sNil)
    (sSeq (sSet 4 (xN g_run (zac (xVar 7) (zac (xVar 8) (zac (xVar 9) (zac (xVar 10) (zac (xVar 11) aNil)))))))
    (sSeq (sIf (tBl (x2 (o2 dNe) (xN zi5 (zac (xVar 10) (zac (xVar 11) (zac (xVar 4) aNil)))) (xVar 12))) (sRet (xC (.bl false))) sNil)
    (sSeq (sSet 5 (xTup (zac (xC (.str "alike")) (zac (xVar 7) (zac (xVar 8) (zac (xVar 9) (zac (xVar 10) (zac (xVar 11) (zac (xVar 4) (zac (xVar 13) aNil))))))))))
    (sSeq (sIf (tBl (x2 (o2 dNe) (xN zkj (zac (xVar 5) aNil)) (xTup (zac (xC (.str "right")) aNil)))) (sRet (xC (.bl false))) sNil)
    (sSeq (sFor (lRg1 (zac (xC (.int 3)) aNil)) (gNm 6) zcn)
    (sRet (xC (.bl true))))))))))))
def zd8 : Fn := zav 14 zhw
def znv : SFn := (sSeq (sSet 3 (xN zh3 (zac (xN zh0 (zac (xVar 1) aNil)) aNil)))
    (sSeq (sTg (gTp (gCo (gNm 7) (gCo (gNm 8) (gCo (gNm 9) (gCo (gNm 10) (gCo (gNm 11) gNo)))))) (xVar 3))
    (sSeq (sSet 4 (xN g_fix (zac (xVar 7) (zac (xVar 8) (zac (xVar 9) (zac (xVar 10) (zac (xVar 11) aNil)))))))
    (sSeq (sSet 5 (xN g_fix (zac (xVar 7) (zac (xRev (xVar 8)) (zac (xRev (xVar 9)) (zac (xVar 10) (zac (xVar 11) aNil)))))))
    (sSeq (sIf (tBl (x2 (o2 dNe) (x2 (o2 dIx) (xVar 4) (xC (.int 0))) (x2 (o2 dIx) (xVar 5) (xC (.int 0))))) (sRet (xC (.bl false))) sNil)
    (sSeq (sSet 6 (xN (o1 ziv) (zac (xN1 (lLc (lRg1 (zac (xN (o1 dLen) (zac (xVar 7) aNil)) aNil)) [12] (gNm 12) zcz (xVar 12))) aNil)))
    (sSeq (sIf (tBl (x2 (o2 dNe) (xN g_fix (zac (xVar 7) (zac (xVar 8) (zac (xVar 9) (zac (xVar 10) (zac (xVar 6) aNil)))))) (xTup (zac (xC (.str "fixed")) (zac (xVar 10) (zac (xVar 6) (zac (xTup aNil) aNil))))))) (sRet (xC (.bl false))) sNil)
    (sIf (tBl (x2 (o2 dEq) (x2 (o2 dIx) (xVar 4) (xC (.int 0))) (xC (.str "fixed")))) (sIf (tOr_ (tBl (x2 (o2 dNe) (xSl (xVar 5) pNo (pEx (xC (.int 3)))) (xSl (xVar 4) pNo (pEx (xC (.int 3)))))) (tNo (tTr (xN zd8 (zac (xVar 1) (zac (xVar 3) (zac (xVar 4) aNil))))))) (sRet (xC (.bl false))) sNil) (sIf (tBl (x2 (o2 dNe) (xN zkj (zac (x2 (o2 dAdd) (x2 (o2 dAdd) (xTup (zac (xC (.str "parts")) aNil)) (xVar 3)) (xSl (xVar 4) (pEx (xC (.int 1))) pNo)) aNil)) (xTup (zac (xC (.str "right")) aNil)))) (sRet (xC (.bl false))) sNil)))))))))
def s_law : SFn := (sSeq (sSet 1 (xN zh6 (zac (xVar 0) aNil)))
    (sSeq (sFor (lRg1 (zac (xC (.int 12)) aNil)) (gNm 2) znv)
    (sRet (xC (.bl true)))))
def g_law : Fn := zav 13 s_law
end T45
set_option maxHeartbeats 0
namespace T45
open PySem PySem.Spec PyProof.Rows L2 DL
def top (i : Nat) : Stmt := PySem.Challenge.pw_whererules_k45_whole_fixes.main.body.getD i (.Pass ⟨0, 0, 0, 0⟩)
structure Txt (K : PySem.W.Frag) (mg : Str → Option Value) : Prop where
  b_all : mg "all" = none
  b_any : mg "any" = none
  b_bool : mg "bool" = none
  b_dict : mg "dict" = none
  b_enumerate : mg "enumerate" = none
  b_int : mg "int" = none
  b_isinstance : mg "isinstance" = none
  b_len : mg "len" = none
  b_list : mg "list" = none
  b_range : mg "range" = none
  b_set : mg "set" = none
  b_sorted : mg "sorted" = none
  b_str : mg "str" = none
  b_tuple : mg "tuple" = none
  b_zip : mg "zip" = none
  i_MOST_COLUMNS : ∃ t, mg "MOST_COLUMNS" = some (.int 4 t)
  i_MOST_ROWS : ∃ t, mg "MOST_ROWS" = some (.int 8 t)
  i_MOST_RULES : ∃ t, mg "MOST_RULES" = some (.int 8 t)
  e_InvalidColumns : ExcD K mg "InvalidColumns"
  e_InvalidRow : ExcD K mg "InvalidRow"
  e_InvalidRules : ExcD K mg "InvalidRules"
  e_InvalidSettled : ExcD K mg "InvalidSettled"
  e_InvalidTable : ExcD K mg "InvalidTable"
  e_NotACertificate : ExcD K mg "NotACertificate"
  cas : CasK K
  cg : mg "Case" = some (.ref (He.ga K "Case"))
  m_init : ∃ f fd, FunD K "__init__" "Case.__init__" (defArgs (mth (top 62) 0)) (defBody (mth (top 62) 0)) (defScope (mth (top 62) 0)) [] [] f fd ∧ Mk K (He.ga K "Case") f
  m_copied : ∃ f fd, FunD K "copied" "Case.copied" (defArgs (mth (top 62) 1)) (defBody (mth (top 62) 1)) (defScope (mth (top 62) 1)) [] [] f fd ∧ Meth K (He.ga K "Case") "copied" f
  m_known : ∃ f fd, FunD K "known" "Case.known" (defArgs (mth (top 62) 2)) (defBody (mth (top 62) 2)) (defScope (mth (top 62) 2)) [] [] f fd ∧ Meth K (He.ga K "Case") "known" f
  m_learn : ∃ f fd, FunD K "learn" "Case.learn" (defArgs (mth (top 62) 3)) (defBody (mth (top 62) 3)) (defScope (mth (top 62) 3)) [] [] f fd ∧ Meth K (He.ga K "Case") "learn" f
  m_join : ∃ f fd, FunD K "join" "Case.join" (defArgs (mth (top 62) 4)) (defBody (mth (top 62) 4)) (defScope (mth (top 62) 4)) [] [] f fd ∧ Meth K (He.ga K "Case") "join" f
  m_are_alike : ∃ f fd, FunD K "are_alike" "Case.are_alike" (defArgs (mth (top 62) 5)) (defBody (mth (top 62) 5)) (defScope (mth (top 62) 5)) [] [] f fd ∧ Meth K (He.ga K "Case") "are_alike" f
  m_is_clash : ∃ f fd, FunD K "is_clash" "Case.is_clash" (defArgs (mth (top 62) 6)) (defBody (mth (top 62) 6)) (defScope (mth (top 62) 6)) [] [] f fd ∧ Meth K (He.ga K "Case") "is_clash" f
  tb_MORE_SIZES : TabG K mg "MORE_SIZES" zbv
  tb_SIZES : TabG K mg "SIZES" zfj
  d_is_integer : ∃ f fd, FunD K "is_integer" "is_integer" (defArgs (top 10)) (defBody (top 10)) (defScope (top 10)) [] [] f fd ∧ mg "is_integer" = some (.ref f)
  d_is_between : ∃ f fd, FunD K "is_between" "is_between" (defArgs (top 11)) (defBody (top 11)) (defScope (top 11)) [] [] f fd ∧ mg "is_between" = some (.ref f)
  d_is_value : ∃ f fd, FunD K "is_value" "is_value" (defArgs (top 15)) (defBody (top 15)) (defScope (top 15)) [] [] f fd ∧ mg "is_value" = some (.ref f)
  d_is_column : ∃ f fd, FunD K "is_column" "is_column" (defArgs (top 16)) (defBody (top 16)) (defScope (top 16)) [] [] f fd ∧ mg "is_column" = some (.ref f)
  d_is_value_of : ∃ f fd, FunD K "is_value_of" "is_value_of" (defArgs (top 17)) (defBody (top 17)) (defScope (top 17)) [] [] f fd ∧ mg "is_value_of" = some (.ref f)
  d_is_columns : ∃ f fd, FunD K "is_columns" "is_columns" (defArgs (top 18)) (defBody (top 18)) (defScope (top 18)) [] [] f fd ∧ mg "is_columns" = some (.ref f)
  d_is_row_of : ∃ f fd, FunD K "is_row_of" "is_row_of" (defArgs (top 19)) (defBody (top 19)) (defScope (top 19)) [] [] f fd ∧ mg "is_row_of" = some (.ref f)
  d_is_table_of : ∃ f fd, FunD K "is_table_of" "is_table_of" (defArgs (top 20)) (defBody (top 20)) (defScope (top 20)) [] [] f fd ∧ mg "is_table_of" = some (.ref f)
  d_require_columns : ∃ f fd, FunD K "require_columns" "require_columns" (defArgs (top 21)) (defBody (top 21)) (defScope (top 21)) [] [] f fd ∧ mg "require_columns" = some (.ref f)
  d_require_row : ∃ f fd, FunD K "require_row" "require_row" (defArgs (top 22)) (defBody (top 22)) (defScope (top 22)) [] [] f fd ∧ mg "require_row" = some (.ref f)
  d_require_table : ∃ f fd, FunD K "require_table" "require_table" (defArgs (top 23)) (defBody (top 23)) (defScope (top 23)) [] [] f fd ∧ mg "require_table" = some (.ref f)
  d_is_entry : ∃ f fd, FunD K "is_entry" "is_entry" (defArgs (top 26)) (defBody (top 26)) (defScope (top 26)) [] [] f fd ∧ mg "is_entry" = some (.ref f)
  d_is_given : ∃ f fd, FunD K "is_given" "is_given" (defArgs (top 27)) (defBody (top 27)) (defScope (top 27)) [] [] f fd ∧ mg "is_given" = some (.ref f)
  d_is_rule_of : ∃ f fd, FunD K "is_rule_of" "is_rule_of" (defArgs (top 28)) (defBody (top 28)) (defScope (top 28)) [] [] f fd ∧ mg "is_rule_of" = some (.ref f)
  d_are_rules : ∃ f fd, FunD K "are_rules" "are_rules" (defArgs (top 29)) (defBody (top 29)) (defScope (top 29)) [] [] f fd ∧ mg "are_rules" = some (.ref f)
  d_does_match : ∃ f fd, FunD K "does_match" "does_match" (defArgs (top 30)) (defBody (top 30)) (defScope (top 30)) [] [] f fd ∧ mg "does_match" = some (.ref f)
  d_are_equal : ∃ f fd, FunD K "are_equal" "are_equal" (defArgs (top 31)) (defBody (top 31)) (defScope (top 31)) [] [] f fd ∧ mg "are_equal" = some (.ref f)
  d_require_rules : ∃ f fd, FunD K "require_rules" "require_rules" (defArgs (top 32)) (defBody (top 32)) (defScope (top 32)) [] [] f fd ∧ mg "require_rules" = some (.ref f)
  d_is_settled : ∃ f fd, FunD K "is_settled" "is_settled" (defArgs (top 34)) (defBody (top 34)) (defScope (top 34)) [] [] f fd ∧ mg "is_settled" = some (.ref f)
  d_require_settled : ∃ f fd, FunD K "require_settled" "require_settled" (defArgs (top 35)) (defBody (top 35)) (defScope (top 35)) [] [] f fd ∧ mg "require_settled" = some (.ref f)
  d_find_values : ∃ f fd, FunD K "find_values" "find_values" (defArgs (top 36)) (defBody (top 36)) (defScope (top 36)) [] [] f fd ∧ mg "find_values" = some (.ref f)
  d_find_next_steps : ∃ f fd, FunD K "find_next_steps" "find_next_steps" (defArgs (top 37)) (defBody (top 37)) (defScope (top 37)) [] [] f fd ∧ mg "find_next_steps" = some (.ref f)
  d_do_step : ∃ f fd, FunD K "do_step" "do_step" (defArgs (top 38)) (defBody (top 38)) (defScope (top 38)) [] [] f fd ∧ mg "do_step" = some (.ref f)
  d_do_steps : ∃ f fd, FunD K "do_steps" "do_steps" (defArgs (top 39)) (defBody (top 39)) (defScope (top 39)) [] [] f fd ∧ mg "do_steps" = some (.ref f)
  d_find_run : ∃ f fd, FunD K "find_run" "find_run" (defArgs (top 40)) (defBody (top 40)) (defScope (top 40)) [] [] f fd ∧ mg "find_run" = some (.ref f)
  d_go_on : ∃ f fd, FunD K "go_on" "go_on" (defArgs (top 41)) (defBody (top 41)) (defScope (top 41)) [] [] f fd ∧ mg "go_on" = some (.ref f)
  d_find_parts : ∃ f fd, FunD K "find_parts" "find_parts" (defArgs (top 42)) (defBody (top 42)) (defScope (top 42)) [] [] f fd ∧ mg "find_parts" = some (.ref f)
  d_find_guards : ∃ f fd, FunD K "find_guards" "find_guards" (defArgs (top 43)) (defBody (top 43)) (defScope (top 43)) [] [] f fd ∧ mg "find_guards" = some (.ref f)
  d_is_guard : ∃ f fd, FunD K "is_guard" "is_guard" (defArgs (top 44)) (defBody (top 44)) (defScope (top 44)) [] [] f fd ∧ mg "is_guard" = some (.ref f)
  d_have_guard_form : ∃ f fd, FunD K "have_guard_form" "have_guard_form" (defArgs (top 45)) (defBody (top 45)) (defScope (top 45)) [] [] f fd ∧ mg "have_guard_form" = some (.ref f)
  d_are_guards : ∃ f fd, FunD K "are_guards" "are_guards" (defArgs (top 46)) (defBody (top 46)) (defScope (top 46)) [] [] f fd ∧ mg "are_guards" = some (.ref f)
  d_is_run_part : ∃ f fd, FunD K "is_run_part" "is_run_part" (defArgs (top 47)) (defBody (top 47)) (defScope (top 47)) [] [] f fd ∧ mg "is_run_part" = some (.ref f)
  d_is_run_of : ∃ f fd, FunD K "is_run_of" "is_run_of" (defArgs (top 48)) (defBody (top 48)) (defScope (top 48)) [] [] f fd ∧ mg "is_run_of" = some (.ref f)
  d_do_part : ∃ f fd, FunD K "do_part" "do_part" (defArgs (top 49)) (defBody (top 49)) (defScope (top 49)) [] [] f fd ∧ mg "do_part" = some (.ref f)
  d_require_fix : ∃ f fd, FunD K "require_fix" "require_fix" (defArgs (top 50)) (defBody (top 50)) (defScope (top 50)) [] [] f fd ∧ mg "require_fix" = some (.ref f)
  d_next_steps : ∃ f fd, FunD K "next_steps" "next_steps" (defArgs (top 51)) (defBody (top 51)) (defScope (top 51)) [] [] f fd ∧ mg "next_steps" = some (.ref f)
  d_run : ∃ f fd, FunD K "run" "run" (defArgs (top 52)) (defBody (top 52)) (defScope (top 52)) [] [] f fd ∧ mg "run" = some (.ref f)
  d_fix : ∃ f fd, FunD K "fix" "fix" (defArgs (top 53)) (defBody (top 53)) (defScope (top 53)) [] [] f fd ∧ mg "fix" = some (.ref f)
  d_check_fix : ∃ f fd, FunD K "check_fix" "check_fix" (defArgs (top 110)) (defBody (top 110)) (defScope (top 110)) [] [] f fd ∧ mg "check_fix" = some (.ref f)
  d_check_alike : ∃ f fd, FunD K "check_alike" "check_alike" (defArgs (top 112)) (defBody (top 112)) (defScope (top 112)) [] [] f fd ∧ mg "check_alike" = some (.ref f)
  d_check_parts : ∃ f fd, FunD K "check_parts" "check_parts" (defArgs (top 113)) (defBody (top 113)) (defScope (top 113)) [] [] f fd ∧ mg "check_parts" = some (.ref f)
  d_find_wrong : ∃ f fd, FunD K "find_wrong" "find_wrong" (defArgs (top 115)) (defBody (top 115)) (defScope (top 115)) [] [] f fd ∧ mg "find_wrong" = some (.ref f)
  d_check : ∃ f fd, FunD K "check" "check" (defArgs (top 116)) (defBody (top 116)) (defScope (top 116)) [] [] f fd ∧ mg "check" = some (.ref f)
  d_l_law_spread : ∃ f fd, FunD K "_law_spread" "_law_spread" (defArgs (top 118)) (defBody (top 118)) (defScope (top 118)) [] [] f fd ∧ mg "_law_spread" = some (.ref f)
  d_l_law_open : ∃ f fd, FunD K "_law_open" "_law_open" (defArgs (top 119)) (defBody (top 119)) (defScope (top 119)) [] [] f fd ∧ mg "_law_open" = some (.ref f)
  d_l_law_take : ∃ f fd, FunD K "_law_take" "_law_take" (defArgs (top 120)) (defBody (top 120)) (defScope (top 120)) [] [] f fd ∧ mg "_law_take" = some (.ref f)
  d_l_law_anew : ∃ f fd, FunD K "_law_anew" "_law_anew" (defArgs (top 121)) (defBody (top 121)) (defScope (top 121)) [] [] f fd ∧ mg "_law_anew" = some (.ref f)
  d_l_law_one : ∃ f fd, FunD K "_law_one" "_law_one" (defArgs (top 122)) (defBody (top 122)) (defScope (top 122)) [] [] f fd ∧ mg "_law_one" = some (.ref f)
  d_l_law_columns : ∃ f fd, FunD K "_law_columns" "_law_columns" (defArgs (top 123)) (defBody (top 123)) (defScope (top 123)) [] [] f fd ∧ mg "_law_columns" = some (.ref f)
  d_l_law_value : ∃ f fd, FunD K "_law_value" "_law_value" (defArgs (top 124)) (defBody (top 124)) (defScope (top 124)) [] [] f fd ∧ mg "_law_value" = some (.ref f)
  d_l_law_row : ∃ f fd, FunD K "_law_row" "_law_row" (defArgs (top 125)) (defBody (top 125)) (defScope (top 125)) [] [] f fd ∧ mg "_law_row" = some (.ref f)
  d_l_law_table : ∃ f fd, FunD K "_law_table" "_law_table" (defArgs (top 126)) (defBody (top 126)) (defScope (top 126)) [] [] f fd ∧ mg "_law_table" = some (.ref f)
  d_l_law_rule : ∃ f fd, FunD K "_law_rule" "_law_rule" (defArgs (top 127)) (defBody (top 127)) (defScope (top 127)) [] [] f fd ∧ mg "_law_rule" = some (.ref f)
  d_l_law_case : ∃ f fd, FunD K "_law_case" "_law_case" (defArgs (top 128)) (defBody (top 128)) (defScope (top 128)) [] [] f fd ∧ mg "_law_case" = some (.ref f)
  d_l_law_walk : ∃ f fd, FunD K "_law_walk" "_law_walk" (defArgs (top 129)) (defBody (top 129)) (defScope (top 129)) [] [] f fd ∧ mg "_law_walk" = some (.ref f)
  d_l_law_end : ∃ f fd, FunD K "_law_end" "_law_end" (defArgs (top 130)) (defBody (top 130)) (defScope (top 130)) [] [] f fd ∧ mg "_law_end" = some (.ref f)
  d_l_law_fixed_right : ∃ f fd, FunD K "_law_fixed_right" "_law_fixed_right" (defArgs (top 131)) (defBody (top 131)) (defScope (top 131)) [] [] f fd ∧ mg "_law_fixed_right" = some (.ref f)
  d_law : ∃ f fd, FunD K "law" "law" (defArgs (top 132)) (defBody (top 132)) (defScope (top 132)) [] [] f fd ∧ mg "law" = some (.ref f)
variable {P : Program} {w : World} {K : PySem.W.Frag} {mg : Str → Option Value} {base : Heap}
theorem zpt : FnScope (["value"] : List Str) (["value"] : List Str) (defScope (top 10)) := ⟨rfl, rfl, rfl, by decide +kernel, rfl, by decide +kernel, by decide +kernel⟩
theorem zho (T : Txt K mg) : Def P w K mg base 1 "is_integer" 1 zco := zb1 T.d_is_integer zpt (fun _ _ _ _ _ _ us hl => match us, hl with | [_], _ => rfl) (fun f cdv A outer s H E hr hG =>
    (zag (zam (zme (zhd (zaa (i := 0)) T.b_isinstance T.b_int (by decide +kernel)) (zjt (de_not (zhd (zaa (i := 0)) T.b_isinstance T.b_bool (by decide +kernel))))))))
theorem zp6 : FnScope (["value", "least", "most"] : List Str) (["value", "least", "most"] : List Str) (defScope (top 11)) := ⟨rfl, rfl, rfl, by decide +kernel, rfl, by decide +kernel, by decide +kernel⟩
theorem zjb (T : Txt K mg) : Def P w K mg base 2 "is_between" 3 ze7 := zb1 T.d_is_between zp6 (fun _ _ _ _ _ _ us hl => match us, hl with | [_, _, _], _ => rfl) (fun f cdv A outer s H E hr hG =>
    (zag (zam (zme (zai (zho T) (hr.mono (by decide)) hG (takes_of rfl rfl rfl rfl) (za_ (zaa (i := 0)) zad) (hlen := (zab zak))) (zjt (de_chain op_le op_le zof zof (zaa (i := 1)) (zaa (i := 0)) (zaa (i := 2))))))))
theorem sc_is_value : FnScope (["value"] : List Str) (["value"] : List Str) (defScope (top 15)) := ⟨rfl, rfl, rfl, by decide +kernel, rfl, by decide +kernel, by decide +kernel⟩
theorem zod (T : Txt K mg) : Def P w K mg base 2 "is_value" 1 zio := zb1 T.d_is_value sc_is_value (fun _ _ _ _ _ _ us hl => match us, hl with | [_], _ => rfl) (fun f cdv A outer s H E hr hG =>
    (zag (zam (zme (zai (zho T) (hr.mono (by decide)) hG (takes_of rfl rfl rfl rfl) (za_ (zaa (i := 0)) zad) (hlen := (zab zak))) (zjt (zew op_ge dGe_ok (zaa (i := 0)) zah))))))
theorem sc_is_column : FnScope (["value", "one"] : List Str) (["value"] : List Str) (defScope (top 16)) := ⟨rfl, rfl, rfl, by decide +kernel, rfl, by decide +kernel, by decide +kernel⟩
theorem ok_is_column (T : Txt K mg) : Def P w K mg base 3 "is_column" 1 zi0 := zb1 T.d_is_column sc_is_column (fun _ _ _ _ _ _ us hl => match us, hl with | [_], _ => rfl) (fun f cdv A outer s H E hr hG =>
    (zae (zbr (zaw op_isN zjz (zaa (i := 0)) zea) (zag (zam zep)) zaq)
    (zae (zbr (zhn (zbs (zcy (zhd (zaa (i := 0)) T.b_isinstance T.b_tuple (by decide +kernel)))) (zfs (zbs (dt_chain op_le op_le zof zof zah (zar call_len zc_ T.b_len (by decide +kernel) (za_ (zaa (i := 0)) zad)) zah)))).dt (zag (zam zep)) zaq)
    (zae (zbr (zbs (zcy (zar (cr_all rfl) zd5 T.b_all (by decide +kernel) (za_ (zfn (own := [("one", 1)]) rfl sc_is_column.nd (zb3 (zaa (i := 0))) (blkOk_by (N := ["value", "one"]) (sc := defScope (top 16)) (by decide +kernel)) (fun _ _ _ _ _ => (zaj (i := 1) sc_is_column.nd)) (fun _ _ _ _ _ => zbx) (fun _ _ _ _ _ => (zai (zod T) (hr.mono (by decide)) hG takes0 (za_ (zaa (i := 1)) zad) (hlen := (zab zak))))).de zad)))) (zag (zam zep)) zaq)
    (zag (zam (zew (zd7 (ru64 hr)) zfl (zbf call_list_of dList_ok T.b_list (by decide +kernel) (za_ (zaa (i := 0)) zad)) (zj4 rfl (zaa (i := 0)) T.b_sorted T.b_set).de)))))))
theorem zo6 : FnScope (["column", "value"] : List Str) (["column", "value"] : List Str) (defScope (top 17)) := ⟨rfl, rfl, rfl, by decide +kernel, rfl, by decide +kernel, by decide +kernel⟩
theorem zic (T : Txt K mg) : Def P w K mg base 3 "is_value_of" 2 zeo := zb1 T.d_is_value_of zo6 (fun _ _ _ _ _ _ us hl => match us, hl with | [_, _], _ => rfl) (fun f cdv A outer s H E hr hG =>
    (zag (zam (zme (zai (zod T) (hr.mono (by decide)) hG (takes_of rfl rfl rfl rfl) (za_ (zaa (i := 1)) zad) (hlen := (zab zak))) (zjt (de_or (zew op_isN zjz (zaa (i := 0)) zea) (zjt (zew (zjd (ru65 hr)) zlb (zaa (i := 1)) (zaa (i := 0))))))))))
theorem sc_is_columns : FnScope (["value", "column"] : List Str) (["value"] : List Str) (defScope (top 18)) := ⟨rfl, rfl, rfl, by decide +kernel, rfl, by decide +kernel, by decide +kernel⟩
theorem zpx (T : Txt K mg) : Def P w K mg base 4 "is_columns" 1 zh5 := zb1 T.d_is_columns sc_is_columns (fun _ _ _ _ _ _ us hl => match us, hl with | [_], _ => rfl) (fun f cdv A outer s H E hr hG =>
    (zae (zbr (zhn (zbs (zcy (zhd (zaa (i := 0)) T.b_isinstance T.b_tuple (by decide +kernel)))) (zfs (zbs (dt_chain op_le op_le zof zof zah (zar call_len zc_ T.b_len (by decide +kernel) (za_ (zaa (i := 0)) zad)) (DL.zl7 (by rfl) T.i_MOST_COLUMNS))))).dt (zag (zam zep)) zaq)
    (zae (zbr (zbs (zcy (zar (cr_all rfl) zd5 T.b_all (by decide +kernel) (za_ (zfn (own := [("column", 1)]) rfl sc_is_columns.nd (zb3 (zaa (i := 0))) (blkOk_by (N := ["value", "column"]) (sc := defScope (top 18)) (by decide +kernel)) (fun _ _ _ _ _ => (zaj (i := 1) sc_is_columns.nd)) (fun _ _ _ _ _ => zbx) (fun _ _ _ _ _ => (zai (ok_is_column T) (hr.mono (by decide)) hG takes0 (za_ (zaa (i := 1)) zad) (hlen := (zab zak))))).de zad)))) (zag (zam zep)) zaq)
    (zag (zam (zew op_le zof (zar call_len zc_ T.b_len (by decide +kernel) (za_ (zfn (own := [("column", 1)]) rfl sc_is_columns.nd (zb3 (zaa (i := 0))) (blkOk_by (N := ["value", "column"]) (sc := defScope (top 18)) (by decide +kernel)) (fun _ _ _ _ _ => (zaj (i := 1) sc_is_columns.nd)) (fun _ _ _ _ _ => (zku (zaw op_notN zj0 (zaa (i := 1)) zea))) (fun _ _ _ _ _ => (zaa (i := 1)))).de zad)) zah))))))
theorem sc_is_row_of : FnScope (["columns", "value", "column", "one"] : List Str) (["columns", "value"] : List Str) (defScope (top 19)) := ⟨rfl, rfl, rfl, by decide +kernel, rfl, by decide +kernel, by decide +kernel⟩
theorem zjw (T : Txt K mg) : Def P w K mg base 4 "is_row_of" 2 zgu := zb1 T.d_is_row_of sc_is_row_of (fun _ _ _ _ _ _ us hl => match us, hl with | [_, _], _ => rfl) (fun f cdv A outer s H E hr hG =>
    (zae (zbr (zhn (zbs (zcy (zhd (zaa (i := 1)) T.b_isinstance T.b_tuple (by decide +kernel)))) (zfs (zaw (zcx (ru64 hr)) zee (zar call_len zc_ T.b_len (by decide +kernel) (za_ (zaa (i := 1)) zad)) (zar call_len zc_ T.b_len (by decide +kernel) (za_ (zaa (i := 0)) zad))))).dt (zag (zam zep)) zaq)
    (zag (zam (zar (cr_all rfl) zd5 T.b_all (by decide +kernel) (za_ (zfn (own := [("column", 2), ("one", 3)]) rfl sc_is_row_of.nd (di_zip (zaa (i := 0)) (zaa (i := 1)) T.b_zip) (blkOk_by (N := ["columns", "value", "column", "one"]) (sc := defScope (top 19)) (by decide +kernel)) (fun _ _ _ _ _ => (zet rfl (zan (zaj (i := 2) sc_is_row_of.nd) (zan (zaj (i := 3) sc_is_row_of.nd) zc2)) (zal (zal zb2)))) (fun _ _ _ _ _ => zbx) (fun _ _ _ _ _ => (zai (zic T) (hr.mono (by decide)) hG takes0 (za_ (zaa (i := 2)) (za_ (zaa (i := 3)) zad)) (hlen := (zab (zab zak)))))).de zad))))))
theorem sc_is_table_of : FnScope (["columns", "value", "row"] : List Str) (["columns", "value"] : List Str) (defScope (top 20)) := ⟨rfl, rfl, rfl, by decide +kernel, rfl, by decide +kernel, by decide +kernel⟩
theorem zkf (T : Txt K mg) : Def P w K mg base 5 "is_table_of" 2 zfi := zb1 T.d_is_table_of sc_is_table_of (fun _ _ _ _ _ _ us hl => match us, hl with | [_, _], _ => rfl) (fun f cdv A outer s H E hr hG =>
    (zae (zbr (zhn (zbs (zcy (zhd (zaa (i := 1)) T.b_isinstance T.b_tuple (by decide +kernel)))) (zfs (zaw op_gt dGt_ok (zar call_len zc_ T.b_len (by decide +kernel) (za_ (zaa (i := 1)) zad)) (DL.zl7 (by rfl) T.i_MOST_ROWS)))).dt (zag (zam zep)) zaq)
    (zag (zam (zar (cr_all rfl) zd5 T.b_all (by decide +kernel) (za_ (zfn (own := [("row", 2)]) rfl sc_is_table_of.nd (zb3 (zaa (i := 1))) (blkOk_by (N := ["columns", "value", "row"]) (sc := defScope (top 20)) (by decide +kernel)) (fun _ _ _ _ _ => (zaj (i := 2) sc_is_table_of.nd)) (fun _ _ _ _ _ => zbx) (fun _ _ _ _ _ => (zai (zjw T) (hr.mono (by decide)) hG takes0 (za_ (zaa (i := 0)) (za_ (zaa (i := 2)) zad)) (hlen := (zab (zab zak)))))).de zad))))))
theorem zkv : FnScope (["value"] : List Str) (["value"] : List Str) (defScope (top 21)) := ⟨rfl, rfl, rfl, by decide +kernel, rfl, by decide +kernel, by decide +kernel⟩
theorem zle (T : Txt K mg) : Def P w K mg base 5 "require_columns" 1 zei := zb1 T.d_require_columns zkv (fun _ _ _ _ _ _ us hl => match us, hl with | [_], _ => rfl) (fun f cdv A outer s H E hr hG =>
    (zag (zbr (zbs (zcy (zai (zpx T) (hr.mono (by decide)) hG (takes_of rfl rfl rfl rfl) (za_ (zaa (i := 0)) zad) (hlen := (zab zak))))) (zag (zjh rfl (takes_of rfl rfl rfl rfl) T.e_InvalidColumns)) zaq)))
theorem zow : FnScope (["columns", "value"] : List Str) (["columns", "value"] : List Str) (defScope (top 22)) := ⟨rfl, rfl, rfl, by decide +kernel, rfl, by decide +kernel, by decide +kernel⟩
theorem zo3 (T : Txt K mg) : Def P w K mg base 5 "require_row" 2 zhp := zb1 T.d_require_row zow (fun _ _ _ _ _ _ us hl => match us, hl with | [_, _], _ => rfl) (fun f cdv A outer s H E hr hG =>
    (zag (zbr (zbs (zcy (zai (zjw T) (hr.mono (by decide)) hG (takes_of rfl rfl rfl rfl) (za_ (zaa (i := 0)) (za_ (zaa (i := 1)) zad)) (hlen := (zab (zab zak)))))) (zag (zjh rfl (takes_of rfl rfl rfl rfl) T.e_InvalidRow)) zaq)))
theorem znd : FnScope (["columns", "value"] : List Str) (["columns", "value"] : List Str) (defScope (top 23)) := ⟨rfl, rfl, rfl, by decide +kernel, rfl, by decide +kernel, by decide +kernel⟩
theorem zm5 (T : Txt K mg) : Def P w K mg base 6 "require_table" 2 zfd := zb1 T.d_require_table znd (fun _ _ _ _ _ _ us hl => match us, hl with | [_, _], _ => rfl) (fun f cdv A outer s H E hr hG =>
    (zag (zbr (zbs (zcy (zai (zkf T) (hr.mono (by decide)) hG (takes_of rfl rfl rfl rfl) (za_ (zaa (i := 0)) (za_ (zaa (i := 1)) zad)) (hlen := (zab (zab zak)))))) (zag (zjh rfl (takes_of rfl rfl rfl rfl) T.e_InvalidTable)) zaq)))
theorem sc_is_entry : FnScope (["columns", "value"] : List Str) (["columns", "value"] : List Str) (defScope (top 26)) := ⟨rfl, rfl, rfl, by decide +kernel, rfl, by decide +kernel, by decide +kernel⟩
theorem ok_is_entry (T : Txt K mg) : Def P w K mg base 4 "is_entry" 2 zj3 := zb1 T.d_is_entry sc_is_entry (fun _ _ _ _ _ _ us hl => match us, hl with | [_, _], _ => rfl) (fun f cdv A outer s H E hr hG =>
    (zae (zbr (zhn (zbs (zcy (zhd (zaa (i := 1)) T.b_isinstance T.b_tuple (by decide +kernel)))) (zhn (zaw (zcx (ru64 hr)) zee (zar call_len zc_ T.b_len (by decide +kernel) (za_ (zaa (i := 1)) zad)) zah) (zfs (zbs (zcy (zai (zjb T) (hr.mono (by decide)) hG (takes_of rfl rfl rfl rfl) (za_ (zbg (zaa (i := 1)) zah) (za_ zah (za_ (zbd op_sub dSub_ok (zar call_len zc_ T.b_len (by decide +kernel) (za_ (zaa (i := 0)) zad)) zah) zad))) (hlen := (zab (zab (zab zak)))))))))).dt (zag (zam zep)) zaq)
    (zag (zam (de_or (zew op_isN zjz (zbg (zaa (i := 1)) zah) zea) (zjt (zai (zic T) (hr.mono (by decide)) hG (takes_of rfl rfl rfl rfl) (za_ (zbg (zaa (i := 0)) (zbg (zaa (i := 1)) zah)) (za_ (zbg (zaa (i := 1)) zah) zad)) (hlen := (zab (zab zak))))))))))
theorem sc_is_given : FnScope (["columns", "value", "numbers", "entry"] : List Str) (["columns", "value"] : List Str) (defScope (top 27)) := ⟨rfl, rfl, rfl, by decide +kernel, rfl, by decide +kernel, by decide +kernel⟩
theorem ok_is_given (T : Txt K mg) : Def P w K mg base 5 "is_given" 2 zj1 := zb1 T.d_is_given sc_is_given (fun _ _ _ _ _ _ us hl => match us, hl with | [_, _], _ => rfl) (fun f cdv A outer s H E hr hG =>
    (zae (zbr (zhn (zbs (zcy (zhd (zaa (i := 1)) T.b_isinstance T.b_tuple (by decide +kernel)))) (zfs (zbs (zcy (zar (cr_all rfl) zd5 T.b_all (by decide +kernel) (za_ (zfn (own := [("entry", 3)]) rfl sc_is_given.nd (zb3 (zaa (i := 1))) (blkOk_by (N := ["columns", "value", "numbers", "entry"]) (sc := defScope (top 27)) (by decide +kernel)) (fun _ _ _ _ _ => (zaj (i := 3) sc_is_given.nd)) (fun _ _ _ _ _ => zbx) (fun _ _ _ _ _ => (zai (ok_is_entry T) (hr.mono (by decide)) hG takes0 (za_ (zaa (i := 0)) (za_ (zaa (i := 3)) zad)) (hlen := (zab (zab zak)))))).de zad)))))).dt (zag (zam zep)) zaq)
    (zae (zkx (i := 2) (own := [("entry", 3)]) rfl sc_is_given.nd (zb3 (zaa (i := 1))) (blkOk_by (N := ["columns", "value", "numbers", "entry"]) (sc := defScope (top 27)) (by decide +kernel)) (fun _ _ _ _ _ => (zaj (i := 3) sc_is_given.nd)) (fun _ _ _ _ _ => zbx) (fun _ _ _ _ _ => (zbg (zaa (i := 3)) zah)))
    (zag (zam (zew (zd7 (ru64 hr)) zfl (zaa (i := 2)) (zj4 rfl (zaa (i := 2)) T.b_sorted T.b_set).de))))))
theorem sc_is_rule_of : FnScope (["columns", "value", "given", "column", "want", "entry"] : List Str) (["columns", "value"] : List Str) (defScope (top 28)) := ⟨rfl, rfl, rfl, by decide +kernel, rfl, by decide +kernel, by decide +kernel⟩
theorem zqf (T : Txt K mg) : Def P w K mg base 6 "is_rule_of" 2 zh4 := zb1 T.d_is_rule_of sc_is_rule_of (fun _ _ _ _ _ _ us hl => match us, hl with | [_, _], _ => rfl) (fun f cdv A outer s H E hr hG =>
    (zae (zbr (zhn (zbs (zcy (zhd (zaa (i := 1)) T.b_isinstance T.b_tuple (by decide +kernel)))) (zhn (zaw (zcx (ru64 hr)) zee (zar call_len zc_ T.b_len (by decide +kernel) (za_ (zaa (i := 1)) zad)) zah) (zfs (zbs (zcy (zai (ok_is_given T) (hr.mono (by decide)) hG (takes_of rfl rfl rfl rfl) (za_ (zaa (i := 0)) (za_ (zbg (zaa (i := 1)) zah) zad)) (hlen := (zab (zab zak))))))))).dt (zag (zam zep)) zaq)
    (zae (zjy (zaa (i := 1)) (zet rfl (zan (zaj (i := 2) sc_is_rule_of.nd) (zan (zaj (i := 3) sc_is_rule_of.nd) (zan (zaj (i := 4) sc_is_rule_of.nd) zc2))) (zal (zal (zal zb2)))))
    (zae (zbr (zhn (zbs (zcy (zai (zjb T) (hr.mono (by decide)) hG (takes_of rfl rfl rfl rfl) (za_ (zaa (i := 3)) (za_ zah (za_ (zbd op_sub dSub_ok (zar call_len zc_ T.b_len (by decide +kernel) (za_ (zaa (i := 0)) zad)) zah) zad))) (hlen := (zab (zab (zab zak))))))) (zfs (zaw (zjd (ru65 hr)) zlb (zaa (i := 3)) (zfn (own := [("entry", 5)]) rfl sc_is_rule_of.nd (zb3 (zaa (i := 2))) (blkOk_by (N := ["columns", "value", "given", "column", "want", "entry"]) (sc := defScope (top 28)) (by decide +kernel)) (fun _ _ _ _ _ => (zaj (i := 5) sc_is_rule_of.nd)) (fun _ _ _ _ _ => zbx) (fun _ _ _ _ _ => (zbg (zaa (i := 5)) zah))).de))).dt (zag (zam zep)) zaq)
    (zae (zbr (zaw op_isN zjz (zaa (i := 4)) zea) (zag (zam zep)) zaq)
    (zag (zam (zme (zai (zic T) (hr.mono (by decide)) hG (takes_of rfl rfl rfl rfl) (za_ (zbg (zaa (i := 0)) (zaa (i := 3))) (za_ (zaa (i := 4)) zad)) (hlen := (zab (zab zak)))) (zjt (zar (cr_all rfl) zd5 T.b_all (by decide +kernel) (za_ (zfn (own := [("entry", 5)]) rfl sc_is_rule_of.nd (zb3 (zaa (i := 2))) (blkOk_by (N := ["columns", "value", "given", "column", "want", "entry"]) (sc := defScope (top 28)) (by decide +kernel)) (fun _ _ _ _ _ => (zaj (i := 5) sc_is_rule_of.nd)) (fun _ _ _ _ _ => zbx) (fun _ _ _ _ _ => (zew op_notN zj0 (zbg (zaa (i := 5)) zah) zea))).de zad)))))))))))
theorem sc_are_rules : FnScope (["columns", "value", "rule"] : List Str) (["columns", "value"] : List Str) (defScope (top 29)) := ⟨rfl, rfl, rfl, by decide +kernel, rfl, by decide +kernel, by decide +kernel⟩
theorem ok_are_rules (T : Txt K mg) : Def P w K mg base 7 "are_rules" 2 zi7 := zb1 T.d_are_rules sc_are_rules (fun _ _ _ _ _ _ us hl => match us, hl with | [_, _], _ => rfl) (fun f cdv A outer s H E hr hG =>
    (zae (zbr (zhn (zbs (zcy (zhd (zaa (i := 1)) T.b_isinstance T.b_tuple (by decide +kernel)))) (zfs (zaw op_gt dGt_ok (zar call_len zc_ T.b_len (by decide +kernel) (za_ (zaa (i := 1)) zad)) (DL.zl7 (by rfl) T.i_MOST_RULES)))).dt (zag (zam zep)) zaq)
    (zag (zam (zar (cr_all rfl) zd5 T.b_all (by decide +kernel) (za_ (zfn (own := [("rule", 2)]) rfl sc_are_rules.nd (zb3 (zaa (i := 1))) (blkOk_by (N := ["columns", "value", "rule"]) (sc := defScope (top 29)) (by decide +kernel)) (fun _ _ _ _ _ => (zaj (i := 2) sc_are_rules.nd)) (fun _ _ _ _ _ => zbx) (fun _ _ _ _ _ => (zai (zqf T) (hr.mono (by decide)) hG takes0 (za_ (zaa (i := 0)) (za_ (zaa (i := 2)) zad)) (hlen := (zab (zab zak)))))).de zad))))))
theorem sc_does_match : FnScope (["given", "row", "column", "value"] : List Str) (["given", "row"] : List Str) (defScope (top 30)) := ⟨rfl, rfl, rfl, by decide +kernel, rfl, by decide +kernel, by decide +kernel⟩
theorem zj_ (T : Txt K mg) : Def P w K mg base 1 "does_match" 2 zfa := zb1 T.d_does_match sc_does_match (fun _ _ _ _ _ _ us hl => match us, hl with | [_, _], _ => rfl) (fun f cdv A outer s H E hr hG =>
    (zag (zam (zar (cr_all rfl) zd5 T.b_all (by decide +kernel) (za_ (zfn (own := [("column", 2), ("value", 3)]) rfl sc_does_match.nd (zb3 (zaa (i := 0))) (blkOk_by (N := ["given", "row", "column", "value"]) (sc := defScope (top 30)) (by decide +kernel)) (fun _ _ _ _ _ => (zet rfl (zan (zaj (i := 2) sc_does_match.nd) (zan (zaj (i := 3) sc_does_match.nd) zc2)) (zal (zal zb2)))) (fun _ _ _ _ _ => zbx) (fun _ _ _ _ _ => (de_or (zew op_isN zjz (zaa (i := 3)) zea) (zjt (zew (zd7 (ru64 hr)) zfl (zbg (zaa (i := 1)) (zaa (i := 2))) (zaa (i := 3))))))).de zad)))))
theorem sc_are_equal : FnScope (["given", "row", "other", "entry"] : List Str) (["given", "row", "other"] : List Str) (defScope (top 31)) := ⟨rfl, rfl, rfl, by decide +kernel, rfl, by decide +kernel, by decide +kernel⟩
theorem ok_are_equal (T : Txt K mg) : Def P w K mg base 1 "are_equal" 3 zje := zb1 T.d_are_equal sc_are_equal (fun _ _ _ _ _ _ us hl => match us, hl with | [_, _, _], _ => rfl) (fun f cdv A outer s H E hr hG =>
    (zag (zam (zar (cr_all rfl) zd5 T.b_all (by decide +kernel) (za_ (zfn (own := [("entry", 3)]) rfl sc_are_equal.nd (zb3 (zaa (i := 0))) (blkOk_by (N := ["given", "row", "other", "entry"]) (sc := defScope (top 31)) (by decide +kernel)) (fun _ _ _ _ _ => (zaj (i := 3) sc_are_equal.nd)) (fun _ _ _ _ _ => zbx) (fun _ _ _ _ _ => (zew (zd7 (ru64 hr)) zfl (zbg (zaa (i := 1)) (zbg (zaa (i := 3)) zah)) (zbg (zaa (i := 2)) (zbg (zaa (i := 3)) zah))))).de zad)))))
theorem zm8 : FnScope (["columns", "value"] : List Str) (["columns", "value"] : List Str) (defScope (top 32)) := ⟨rfl, rfl, rfl, by decide +kernel, rfl, by decide +kernel, by decide +kernel⟩
theorem zji (T : Txt K mg) : Def P w K mg base 8 "require_rules" 2 zcp := zb1 T.d_require_rules zm8 (fun _ _ _ _ _ _ us hl => match us, hl with | [_, _], _ => rfl) (fun f cdv A outer s H E hr hG =>
    (zae (zie (zai (zle T) (hr.mono (by decide)) hG (takes_of rfl rfl rfl rfl) (za_ (zaa (i := 0)) zad) (hlen := (zab zak))))
    (zag (zbr (zbs (zcy (zai (ok_are_rules T) (hr.mono (by decide)) hG (takes_of rfl rfl rfl rfl) (za_ (zaa (i := 0)) (za_ (zaa (i := 1)) zad)) (hlen := (zab (zab zak)))))) (zag (zjh rfl (takes_of rfl rfl rfl rfl) T.e_InvalidRules)) zaq))))
theorem sc_is_settled : FnScope (["columns", "value", "one"] : List Str) (["columns", "value"] : List Str) (defScope (top 34)) := ⟨rfl, rfl, rfl, by decide +kernel, rfl, by decide +kernel, by decide +kernel⟩
theorem zjc (T : Txt K mg) : Def P w K mg base 3 "is_settled" 2 ze8 := zb1 T.d_is_settled sc_is_settled (fun _ _ _ _ _ _ us hl => match us, hl with | [_, _], _ => rfl) (fun f cdv A outer s H E hr hG =>
    (zae (zbr (zhn (zbs (zcy (zhd (zaa (i := 1)) T.b_isinstance T.b_tuple (by decide +kernel)))) (zfs (zbs (zcy (zar (cr_all rfl) zd5 T.b_all (by decide +kernel) (za_ (zfn (own := [("one", 2)]) rfl sc_is_settled.nd (zb3 (zaa (i := 1))) (blkOk_by (N := ["columns", "value", "one"]) (sc := defScope (top 34)) (by decide +kernel)) (fun _ _ _ _ _ => (zaj (i := 2) sc_is_settled.nd)) (fun _ _ _ _ _ => zbx) (fun _ _ _ _ _ => (zai (zjb T) (hr.mono (by decide)) hG takes0 (za_ (zaa (i := 2)) (za_ zah (za_ (zbd op_sub dSub_ok (zar call_len zc_ T.b_len (by decide +kernel) (za_ (zaa (i := 0)) zad)) zah) zad))) (hlen := (zab (zab (zab zak))))))).de zad)))))).dt (zag (zam zep)) zaq)
    (zag (zam (zew (zd7 (ru64 hr)) zfl (zbf call_list_of dList_ok T.b_list (by decide +kernel) (za_ (zaa (i := 1)) zad)) (zj4 rfl (zaa (i := 1)) T.b_sorted T.b_set).de)))))
theorem zlo : FnScope (["columns", "value"] : List Str) (["columns", "value"] : List Str) (defScope (top 35)) := ⟨rfl, rfl, rfl, by decide +kernel, rfl, by decide +kernel, by decide +kernel⟩
theorem zk3 (T : Txt K mg) : Def P w K mg base 4 "require_settled" 2 zen := zb1 T.d_require_settled zlo (fun _ _ _ _ _ _ us hl => match us, hl with | [_, _], _ => rfl) (fun f cdv A outer s H E hr hG =>
    (zag (zbr (zbs (zcy (zai (zjc T) (hr.mono (by decide)) hG (takes_of rfl rfl rfl rfl) (za_ (zaa (i := 0)) (za_ (zaa (i := 1)) zad)) (hlen := (zab (zab zak)))))) (zag (zjh rfl (takes_of rfl rfl rfl rfl) T.e_InvalidSettled)) zaq)))
theorem sc_find_values : FnScope (["rule", "master", "row", "given", "column", "want", "other"] : List Str) (["rule", "master", "row"] : List Str) (defScope (top 36)) := ⟨rfl, rfl, rfl, by decide +kernel, rfl, by decide +kernel, by decide +kernel⟩
theorem zk_ (T : Txt K mg) : Def P w K mg base 2 "find_values" 3 zfg := zb1 T.d_find_values sc_find_values (fun _ _ _ _ _ _ us hl => match us, hl with | [_, _, _], _ => rfl) (fun f cdv A outer s H E hr hG =>
    (zae (zjy (zaa (i := 0)) (zet rfl (zan (zaj (i := 3) sc_find_values.nd) (zan (zaj (i := 4) sc_find_values.nd) (zan (zaj (i := 5) sc_find_values.nd) zc2))) (zal (zal (zal zb2)))))
    (zae (zbr (zaw op_notN zj0 (zaa (i := 5)) zea) (zag (zam (zin (za_ (zaa (i := 5)) zad)))) zaq)
    (zag (zam (zfn (own := [("other", 6)]) rfl sc_find_values.nd (zb3 (zaa (i := 1))) (blkOk_by (N := ["rule", "master", "row", "given", "column", "want", "other"]) (sc := defScope (top 36)) (by decide +kernel)) (fun _ _ _ _ _ => (zaj (i := 6) sc_find_values.nd)) (fun _ _ _ _ _ => (zku (zmw (zcy (zai (zj_ T) (hr.mono (by decide)) hG takes0 (za_ (zaa (i := 3)) (za_ (zaa (i := 6)) zad)) (hlen := (zab (zab zak))))) (zl1 (zcy (zai (ok_are_equal T) (hr.mono (by decide)) hG takes0 (za_ (zaa (i := 3)) (za_ (zaa (i := 2)) (za_ (zaa (i := 6)) zad))) (hlen := (zab (zab (zab zak)))))))).dt)) (fun _ _ _ _ _ => (zbg (zaa (i := 6)) (zaa (i := 4))))).de)))))
theorem sc_find_next_steps : FnScope (["rules", "master", "row", "settled", "steps", "k", "rule", "given", "column", "want", "entry", "value"] : List Str) (["rules", "master", "row", "settled"] : List Str) (defScope (top 37)) := ⟨rfl, rfl, rfl, by decide +kernel, rfl, by decide +kernel, by decide +kernel⟩
theorem zcq (T : Txt K mg) : Def P w K mg base 3 "find_next_steps" 4 za2 := zb1 T.d_find_next_steps sc_find_next_steps (fun _ _ _ _ _ _ us hl => match us, hl with | [_, _, _, _], _ => rfl) (fun f cdv A outer s H E hr hG =>
    (zae (ds_new (i := 4) (ne_lst zad) sc_find_next_steps.nd (hf := .inr rfl))
    (zae (zhg (passes_of rfl) rfl (di_enum (zaa (i := 0)) T.b_enumerate) (zet rfl (zan (zaj (i := 5) sc_find_next_steps.nd) (zan (zaj (i := 6) sc_find_next_steps.nd) zc2)) (zal (zal zb2))) (zae (zjy (zaa (i := 6)) (zet rfl (zan (zaj (i := 7) sc_find_next_steps.nd) (zan (zaj (i := 8) sc_find_next_steps.nd) (zan (zaj (i := 9) sc_find_next_steps.nd) zc2))) (zal (zal (zal zb2)))))
    (zag (zbr (zmw (zaw (zlr (ru65 hr)) zoc (zaa (i := 8)) (zaa (i := 3))) (zmw (zcy (zar (cr_all rfl) zd5 T.b_all (by decide +kernel) (za_ (zfn (own := [("entry", 10)]) rfl sc_find_next_steps.nd (zb3 (zaa (i := 7))) (blkOk_by (N := ["rules", "master", "row", "settled", "steps", "k", "rule", "given", "column", "want", "entry", "value"]) (sc := defScope (top 37)) (by decide +kernel)) (fun _ _ _ _ _ => (zaj (i := 10) sc_find_next_steps.nd)) (fun _ _ _ _ _ => zbx) (fun _ _ _ _ _ => (zew (zjd (ru65 hr)) zlb (zbg (zaa (i := 10)) zah) (zaa (i := 3))))).de zad))) (zl1 (zcy (zai (zj_ T) (hr.mono (by decide)) hG (takes_of rfl rfl rfl rfl) (za_ (zaa (i := 7)) (za_ (zaa (i := 2)) zad)) (hlen := (zab (zab zak)))))))).dt (zag (ds_extend (zaa (i := 4)) (zfn (own := [("value", 11)]) rfl sc_find_next_steps.nd (zb3 (zai (zk_ T) (hr.mono (by decide)) hG (takes_of rfl rfl rfl rfl) (za_ (zaa (i := 6)) (za_ (zaa (i := 1)) (za_ (zaa (i := 2)) zad))) (hlen := (zab (zab (zab zak)))))) (blkOk_by (N := ["rules", "master", "row", "settled", "steps", "k", "rule", "given", "column", "want", "entry", "value"]) (sc := defScope (top 37)) (by decide +kernel)) (fun _ _ _ _ _ => (zaj (i := 11) sc_find_next_steps.nd)) (fun _ _ _ _ _ => zbx) (fun _ _ _ _ _ => (zbw (za_ (zaa (i := 5)) (za_ (zaa (i := 8)) (za_ (zaa (i := 11)) zad)))))).de)) zaq))))
    (zag (zam (ne_sortSetT rfl (ru64 hr) (zaa (i := 4)) T.b_sorted T.b_set).de)))))
theorem sc_do_step : FnScope (["row", "settled", "step", "number", "column", "value"] : List Str) (["row", "settled", "step"] : List Str) (defScope (top 38)) := ⟨rfl, rfl, rfl, by decide +kernel, rfl, by decide +kernel, by decide +kernel⟩
theorem zl3 (T : Txt K mg) : Def P w K mg base 1 "do_step" 3 zhb := zb1 T.d_do_step sc_do_step (fun _ _ _ _ _ _ us hl => match us, hl with | [_, _, _], _ => rfl) (fun f cdv A outer s H E hr hG =>
    (zae (zjy (zaa (i := 2)) (zet rfl (zan (zaj (i := 3) sc_do_step.nd) (zan (zaj (i := 4) sc_do_step.nd) (zan (zaj (i := 5) sc_do_step.nd) zc2))) (zal (zal (zal zb2)))))
    (zag (zam (zbw (za_ (zbw (zob (zi8 (zaa (i := 0)) zj7 (zhy (zaa (i := 4)))) (za_ (zaa (i := 5)) (zob (zi8 (zaa (i := 0)) (zhy (zbd zax zay (zaa (i := 4)) zah)) zj7) zad)))) (za_ (zbf call_tuple_of zg9 T.b_tuple (by decide +kernel) (za_ (zoj (zbw (zob (zaa (i := 1)) (za_ (zaa (i := 4)) zad))) (ru64 hr) T.b_sorted).de zad)) zad)))))))
theorem sc_do_steps : FnScope (["row", "settled", "steps", "step"] : List Str) (["row", "settled", "steps"] : List Str) (defScope (top 39)) := ⟨rfl, rfl, rfl, by decide +kernel, rfl, by decide +kernel, by decide +kernel⟩
theorem zgj (T : Txt K mg) : Def P w K mg base 2 "do_steps" 3 zel := zb1 T.d_do_steps sc_do_steps (fun _ _ _ _ _ _ us hl => match us, hl with | [_, _, _], _ => rfl) (fun f cdv A outer s H E hr hG =>
    (zae (zhg (passes_of rfl) rfl (zb3 (zaa (i := 2))) (zaj (i := 3) sc_do_steps.nd) (zag (zjy (zai (zl3 T) (hr.mono (by decide)) hG (takes_of rfl rfl rfl rfl) (za_ (zaa (i := 0)) (za_ (zaa (i := 1)) (za_ (zaa (i := 3)) zad))) (hlen := (zab (zab (zab zak))))) (zet rfl (zan (zaj (i := 0) sc_do_steps.nd) (zan (zaj (i := 1) sc_do_steps.nd) zc2)) (zal (zal zb2))))))
    (zag (zam (zbw (za_ (zaa (i := 0)) (za_ (zaa (i := 1)) zad)))))))
theorem sc_find_run : FnScope (["rules", "master", "row", "settled", "held", "steps", "possible", "step"] : List Str) (["rules", "master", "row", "settled", "held"] : List Str) (defScope (top 40)) := ⟨rfl, rfl, rfl, by decide +kernel, rfl, by decide +kernel, by decide +kernel⟩
theorem zhs (T : Txt K mg) : Def P w K mg base 4 "find_run" 5 ze6 := zb1 T.d_find_run sc_find_run (fun _ _ _ _ _ _ us hl => match us, hl with | [_, _, _, _, _], _ => rfl) (fun f cdv A outer s H E hr hG =>
    (zae (ds_new (i := 5) (ne_lst zad) sc_find_run.nd (hf := .inr rfl))
    (zae (zkx (i := 6) (own := [("step", 7)]) rfl sc_find_run.nd (zb3 (zai (zcq T) (hr.mono (by decide)) hG (takes_of rfl rfl rfl rfl) (za_ (zaa (i := 0)) (za_ (zaa (i := 1)) (za_ (zaa (i := 2)) (za_ (zaa (i := 3)) zad)))) (hlen := (zab (zab (zab (zab zak))))))) (blkOk_by (N := ["rules", "master", "row", "settled", "held", "steps", "possible", "step"]) (sc := defScope (top 40)) (by decide +kernel)) (fun _ _ _ _ _ => (zaj (i := 7) sc_find_run.nd)) (fun _ _ _ _ _ => (zku (zaw (zcx (ru64 hr)) zee (zbg (zaa (i := 7)) zah) (zaa (i := 4))))) (fun _ _ _ _ _ => (zaa (i := 7))))
    (zae (ds_while (passes_of rfl) (zaw (zcx (ru64 hr)) zee (zaa (i := 6)) (zin zad)) (zae (ds_append (zaa (i := 5)) (zbg (zaa (i := 6)) zah))
    (zae (zjy (zai (zl3 T) (hr.mono (by decide)) hG (takes_of rfl rfl rfl rfl) (za_ (zaa (i := 2)) (za_ (zaa (i := 3)) (za_ (zbg (zaa (i := 6)) zah) zad))) (hlen := (zab (zab (zab zak))))) (zet rfl (zan (zaj (i := 2) sc_find_run.nd) (zan (zaj (i := 3) sc_find_run.nd) zc2)) (zal (zal zb2))))
    (zag (zkx (i := 6) (own := [("step", 7)]) rfl sc_find_run.nd (zb3 (zai (zcq T) (hr.mono (by decide)) hG (takes_of rfl rfl rfl rfl) (za_ (zaa (i := 0)) (za_ (zaa (i := 1)) (za_ (zaa (i := 2)) (za_ (zaa (i := 3)) zad)))) (hlen := (zab (zab (zab (zab zak))))))) (blkOk_by (N := ["rules", "master", "row", "settled", "held", "steps", "possible", "step"]) (sc := defScope (top 40)) (by decide +kernel)) (fun _ _ _ _ _ => (zaj (i := 7) sc_find_run.nd)) (fun _ _ _ _ _ => (zku (zaw (zcx (ru64 hr)) zee (zbg (zaa (i := 7)) zah) (zaa (i := 4))))) (fun _ _ _ _ _ => (zaa (i := 7))))))))
    (dss_frz (i := 5) (zag (zam (zaa (i := 5)))))))))
theorem sc_go_on : FnScope (["rules", "master", "row", "settled", "steps", "here", "now"] : List Str) (["rules", "master", "row", "settled", "steps"] : List Str) (defScope (top 41)) := ⟨rfl, rfl, rfl, by decide +kernel, rfl, by decide +kernel, by decide +kernel⟩
theorem ok_go_on (T : Txt K mg) : Def P w K mg base 5 "go_on" 5 zou := zb1 T.d_go_on sc_go_on (fun _ _ _ _ _ _ us hl => match us, hl with | [_, _, _, _, _], _ => rfl) (fun f cdv A outer s H E hr hG =>
    (zae (zjy (zai (zgj T) (hr.mono (by decide)) hG (takes_of rfl rfl rfl rfl) (za_ (zaa (i := 2)) (za_ (zaa (i := 3)) (za_ (zaa (i := 4)) zad))) (hlen := (zab (zab (zab zak))))) (zet rfl (zan (zaj (i := 5) sc_go_on.nd) (zan (zaj (i := 6) sc_go_on.nd) zc2)) (zal (zal zb2))))
    (zag (zam (zbd zax zay (zaa (i := 4)) (zai (zhs T) (hr.mono (by decide)) hG (takes_of rfl rfl rfl rfl) (za_ (zaa (i := 0)) (za_ (zaa (i := 1)) (za_ (zaa (i := 5)) (za_ (zaa (i := 6)) (za_ zea zad))))) (hlen := (zab (zab (zab (zab (zab zak))))))))))))
theorem sc_find_parts : FnScope (["columns", "rules", "master", "row", "settled", "column", "before", "steps", "step", "here", "now", "both", "some"] : List Str) (["columns", "rules", "master", "row", "settled"] : List Str) (defScope (top 42)) := ⟨rfl, rfl, rfl, by decide +kernel, rfl, by decide +kernel, by decide +kernel⟩
theorem zqe (T : Txt K mg) : Def P w K mg base 6 "find_parts" 5 zi_ := zb1 T.d_find_parts sc_find_parts (fun _ _ _ _ _ _ us hl => match us, hl with | [_, _, _, _, _], _ => rfl) (fun f cdv A outer s H E hr hG =>
    (zae (zhg (passes_of rfl) rfl (zdo (za_ (zar call_len zc_ T.b_len (by decide +kernel) (za_ (zaa (i := 0)) zad)) zad) T.b_range) (zaj (i := 5) sc_find_parts.nd) (zae (zba (i := 6) (zai (zhs T) (hr.mono (by decide)) hG (takes_of rfl rfl rfl rfl) (za_ (zaa (i := 1)) (za_ (zaa (i := 2)) (za_ (zaa (i := 3)) (za_ (zaa (i := 4)) (za_ (zaa (i := 5)) zad))))) (hlen := (zab (zab (zab (zab (zab zak))))))) sc_find_parts.nd)
    (zae (zjy (zai (zgj T) (hr.mono (by decide)) hG (takes_of rfl rfl rfl rfl) (za_ (zaa (i := 3)) (za_ (zaa (i := 4)) (za_ (zaa (i := 6)) zad))) (hlen := (zab (zab (zab zak))))) (zet rfl (zan (zaj (i := 9) sc_find_parts.nd) (zan (zaj (i := 10) sc_find_parts.nd) zc2)) (zal (zal zb2))))
    (zae (zkx (i := 7) (own := [("step", 8)]) rfl sc_find_parts.nd (zb3 (zai (zcq T) (hr.mono (by decide)) hG (takes_of rfl rfl rfl rfl) (za_ (zaa (i := 1)) (za_ (zaa (i := 2)) (za_ (zaa (i := 9)) (za_ (zaa (i := 10)) zad)))) (hlen := (zab (zab (zab (zab zak))))))) (blkOk_by (N := ["columns", "rules", "master", "row", "settled", "column", "before", "steps", "step", "here", "now", "both", "some"]) (sc := defScope (top 42)) (by decide +kernel)) (fun _ _ _ _ _ => (zaj (i := 8) sc_find_parts.nd)) (fun _ _ _ _ _ => (zku (zaw (zd7 (ru64 hr)) zfl (zbg (zaa (i := 8)) zah) (zaa (i := 5))))) (fun _ _ _ _ _ => (zaa (i := 8))))
    (zag (zhg (passes_of rfl) rfl (zb3 (zi8 (zaa (i := 7)) (zhy zah) zj7)) (zaj (i := 8) sc_find_parts.nd) (zag (zbr (zaw (zcx (ru64 hr)) zee (zbg (zaa (i := 8)) zah) (zbg (zbg (zaa (i := 7)) zah) zah)) (zae (zba (i := 11) (zin (za_ (zin (zob (zaa (i := 6)) (za_ (zbg (zaa (i := 7)) zah) zad))) (za_ (zin (zob (zaa (i := 6)) (za_ (zaa (i := 8)) zad))) zad))) sc_find_parts.nd)
    (zag (zam (zfn (own := [("some", 12)]) rfl sc_find_parts.nd (zb3 (zaa (i := 11))) (blkOk_by (N := ["columns", "rules", "master", "row", "settled", "column", "before", "steps", "step", "here", "now", "both", "some"]) (sc := defScope (top 42)) (by decide +kernel)) (fun _ _ _ _ _ => (zaj (i := 12) sc_find_parts.nd)) (fun _ _ _ _ _ => zbx) (fun _ _ _ _ _ => (zai (ok_go_on T) (hr.mono (by decide)) hG takes0 (za_ (zaa (i := 1)) (za_ (zaa (i := 2)) (za_ (zaa (i := 3)) (za_ (zaa (i := 4)) (za_ (zaa (i := 12)) zad))))) (hlen := (zab (zab (zab (zab (zab zak))))))))).de))) zaq))))))))
    (zag (zam zea))))
theorem sc_find_guards : FnScope (["columns", "rules", "master", "row", "settled", "guards", "column", "here", "now"] : List Str) (["columns", "rules", "master", "row", "settled"] : List Str) (defScope (top 43)) := ⟨rfl, rfl, rfl, by decide +kernel, rfl, by decide +kernel, by decide +kernel⟩
theorem zo0 (T : Txt K mg) : Def P w K mg base 5 "find_guards" 5 zhj := zb1 T.d_find_guards sc_find_guards (fun _ _ _ _ _ _ us hl => match us, hl with | [_, _, _, _, _], _ => rfl) (fun f cdv A outer s H E hr hG =>
    (zae (ds_new (i := 5) (ne_lst zad) sc_find_guards.nd (hf := .inr rfl))
    (zae (zhg (passes_of rfl) rfl (zdo (za_ (zar call_len zc_ T.b_len (by decide +kernel) (za_ (zaa (i := 0)) zad)) zad) T.b_range) (zaj (i := 6) sc_find_guards.nd) (zag (zbr (zaw (zlr (ru65 hr)) zoc (zaa (i := 6)) (zaa (i := 4))) (zae (zjy (zai (zgj T) (hr.mono (by decide)) hG (takes_of rfl rfl rfl rfl) (za_ (zaa (i := 3)) (za_ (zaa (i := 4)) (za_ (zai (zhs T) (hr.mono (by decide)) hG (takes_of rfl rfl rfl rfl) (za_ (zaa (i := 1)) (za_ (zaa (i := 2)) (za_ (zaa (i := 3)) (za_ (zaa (i := 4)) (za_ (zaa (i := 6)) zad))))) (hlen := (zab (zab (zab (zab (zab zak))))))) zad))) (hlen := (zab (zab (zab zak))))) (zet rfl (zan (zaj (i := 7) sc_find_guards.nd) (zan (zaj (i := 8) sc_find_guards.nd) zc2)) (zal (zal zb2))))
    (zag (ds_append (zaa (i := 5)) (zbw (za_ (zaa (i := 6)) (za_ (zaa (i := 8)) zad)))))) zaq)))
    (zag (zam (zbf call_tuple_of zg9 T.b_tuple (by decide +kernel) (za_ (zaa (i := 5)) zad)))))))
theorem sc_is_guard : FnScope (["columns", "rules", "master", "settled", "here", "now", "column", "value", "rule", "one", "entry"] : List Str) (["columns", "rules", "master", "settled", "here", "now", "column", "value"] : List Str) (defScope (top 44)) := ⟨rfl, rfl, rfl, by decide +kernel, rfl, by decide +kernel, by decide +kernel⟩
theorem ok_is_guard (T : Txt K mg) : Def P w K mg base 4 "is_guard" 8 zim := zb1 T.d_is_guard sc_is_guard (fun _ _ _ _ _ _ us hl => match us, hl with | [_, _, _, _, _, _, _, _], _ => rfl) (fun f cdv A outer s H E hr hG =>
    (zae (zbr (zhn (zbs (zcy (zai (zjc T) (hr.mono (by decide)) hG (takes_of rfl rfl rfl rfl) (za_ (zaa (i := 0)) (za_ (zaa (i := 7)) zad)) (hlen := (zab (zab zak)))))) (zfs (zaw (zjd (ru65 hr)) zlb (zaa (i := 6)) (zaa (i := 7))))).dt (zag (zam zep)) zaq)
    (zae (zbr (zhn (zbs (zcy (zar (cr_all rfl) zd5 T.b_all (by decide +kernel) (za_ (zfn (own := [("one", 9)]) rfl sc_is_guard.nd (zb3 (zaa (i := 7))) (blkOk_by (N := ["columns", "rules", "master", "settled", "here", "now", "column", "value", "rule", "one", "entry"]) (sc := defScope (top 44)) (by decide +kernel)) (fun _ _ _ _ _ => (zaj (i := 9) sc_is_guard.nd)) (fun _ _ _ _ _ => zbx) (fun _ _ _ _ _ => (zew (zjd (ru65 hr)) zlb (zaa (i := 9)) (zaa (i := 5))))).de zad)))) (zfs (zbs (zcy (zar (cr_all rfl) zd5 T.b_all (by decide +kernel) (za_ (zfn (own := [("one", 9)]) rfl sc_is_guard.nd (zb3 (zaa (i := 3))) (blkOk_by (N := ["columns", "rules", "master", "settled", "here", "now", "column", "value", "rule", "one", "entry"]) (sc := defScope (top 44)) (by decide +kernel)) (fun _ _ _ _ _ => (zaj (i := 9) sc_is_guard.nd)) (fun _ _ _ _ _ => zbx) (fun _ _ _ _ _ => (zew (zjd (ru65 hr)) zlb (zaa (i := 9)) (zaa (i := 7))))).de zad)))))).dt (zag (zam zep)) zaq)
    (zae (zhg (passes_of rfl) rfl (zb3 (zaa (i := 1))) (zaj (i := 8) sc_is_guard.nd) (zae (zbr (zhn (zaw (zjd (ru65 hr)) zlb (zbg (zaa (i := 8)) zah) (zaa (i := 3))) (zhn (zaw (zjd (ru65 hr)) zlb (zbg (zaa (i := 8)) zah) (zaa (i := 7))) (zfs (zbs (zcy (zai (zj_ T) (hr.mono (by decide)) hG (takes_of rfl rfl rfl rfl) (za_ (zbg (zaa (i := 8)) zah) (za_ (zaa (i := 4)) zad)) (hlen := (zab (zab zak))))))))).dt (zag ds_continue) zaq)
    (zag (zbr (zcy (zar (cr_all rfl) zd5 T.b_all (by decide +kernel) (za_ (zfn (own := [("entry", 10)]) rfl sc_is_guard.nd (zb3 (zbg (zaa (i := 8)) zah)) (blkOk_by (N := ["columns", "rules", "master", "settled", "here", "now", "column", "value", "rule", "one", "entry"]) (sc := defScope (top 44)) (by decide +kernel)) (fun _ _ _ _ _ => (zaj (i := 10) sc_is_guard.nd)) (fun _ _ _ _ _ => zbx) (fun _ _ _ _ _ => (zew (zjd (ru65 hr)) zlb (zbg (zaa (i := 10)) zah) (zaa (i := 7))))).de zad))) (zag (zhg (passes_of rfl) rfl (zb3 (zai (zk_ T) (hr.mono (by decide)) hG (takes_of rfl rfl rfl rfl) (za_ (zaa (i := 8)) (za_ (zaa (i := 2)) (za_ (zaa (i := 4)) zad))) (hlen := (zab (zab (zab zak)))))) (zaj (i := 9) sc_is_guard.nd) (zag (zbr (zhn (zaw (zcx (ru64 hr)) zee (zbg (zaa (i := 8)) zah) (zaa (i := 6))) (zhn (zaw (zlr (ru65 hr)) zoc (zaa (i := 6)) (zaa (i := 5))) (zfs (zaw (zcx (ru64 hr)) zee (zaa (i := 9)) (zbg (zaa (i := 4)) (zaa (i := 6))))))).dt (zag (zam zep)) zaq)))) zaq))))
    (zag (zam zep))))))
theorem sc_have_guard_form : FnScope (["columns", "settled", "value", "due", "column", "one"] : List Str) (["columns", "settled", "value"] : List Str) (defScope (top 45)) := ⟨rfl, rfl, rfl, by decide +kernel, rfl, by decide +kernel, by decide +kernel⟩
theorem zlg (T : Txt K mg) : Def P w K mg base 2 "have_guard_form" 3 zer := zb1 T.d_have_guard_form sc_have_guard_form (fun _ _ _ _ _ _ us hl => match us, hl with | [_, _, _], _ => rfl) (fun f cdv A outer s H E hr hG =>
    (zae (zkx (i := 3) (own := [("column", 4)]) rfl sc_have_guard_form.nd (zdo (za_ (zar call_len zc_ T.b_len (by decide +kernel) (za_ (zaa (i := 0)) zad)) zad) T.b_range) (blkOk_by (N := ["columns", "settled", "value", "due", "column", "one"]) (sc := defScope (top 45)) (by decide +kernel)) (fun _ _ _ _ _ => (zaj (i := 4) sc_have_guard_form.nd)) (fun _ _ _ _ _ => (zku (zaw (zlr (ru65 hr)) zoc (zaa (i := 4)) (zaa (i := 1))))) (fun _ _ _ _ _ => (zaa (i := 4))))
    (zae (zbr (zhn (zbs (zcy (zhd (zaa (i := 2)) T.b_isinstance T.b_tuple (by decide +kernel)))) (zfs (zbs (zcy (zar (cr_all rfl) zd5 T.b_all (by decide +kernel) (za_ (zfn (own := [("one", 5)]) rfl sc_have_guard_form.nd (zb3 (zaa (i := 2))) (blkOk_by (N := ["columns", "settled", "value", "due", "column", "one"]) (sc := defScope (top 45)) (by decide +kernel)) (fun _ _ _ _ _ => (zaj (i := 5) sc_have_guard_form.nd)) (fun _ _ _ _ _ => zbx) (fun _ _ _ _ _ => (zme (zhd (zaa (i := 5)) T.b_isinstance T.b_tuple (by decide +kernel)) (zjt (zew (zd7 (ru64 hr)) zfl (zar call_len zc_ T.b_len (by decide +kernel) (za_ (zaa (i := 5)) zad)) zah))))).de zad)))))).dt (zag (zam zep)) zaq)
    (zag (zam (zme (zew (zd7 (ru64 hr)) zfl (zfn (own := [("one", 5)]) rfl sc_have_guard_form.nd (zb3 (zaa (i := 2))) (blkOk_by (N := ["columns", "settled", "value", "due", "column", "one"]) (sc := defScope (top 45)) (by decide +kernel)) (fun _ _ _ _ _ => (zaj (i := 5) sc_have_guard_form.nd)) (fun _ _ _ _ _ => zbx) (fun _ _ _ _ _ => (zbg (zaa (i := 5)) zah))).de (zaa (i := 3))) (zjt (zar (cr_all rfl) zd5 T.b_all (by decide +kernel) (za_ (zfn (own := [("one", 5)]) rfl sc_have_guard_form.nd (zb3 (zaa (i := 2))) (blkOk_by (N := ["columns", "settled", "value", "due", "column", "one"]) (sc := defScope (top 45)) (by decide +kernel)) (fun _ _ _ _ _ => (zaj (i := 5) sc_have_guard_form.nd)) (fun _ _ _ _ _ => zbx) (fun _ _ _ _ _ => (zai (zho T) (hr.mono (by decide)) hG takes0 (za_ (zbg (zaa (i := 5)) zah) zad) (hlen := (zab zak))))).de zad)))))))))
theorem sc_are_guards : FnScope (["columns", "rules", "master", "settled", "here", "now", "value", "one"] : List Str) (["columns", "rules", "master", "settled", "here", "now", "value"] : List Str) (defScope (top 46)) := ⟨rfl, rfl, rfl, by decide +kernel, rfl, by decide +kernel, by decide +kernel⟩
theorem zqr (T : Txt K mg) : Def P w K mg base 5 "are_guards" 7 zh7 := zb1 T.d_are_guards sc_are_guards (fun _ _ _ _ _ _ us hl => match us, hl with | [_, _, _, _, _, _, _], _ => rfl) (fun f cdv A outer s H E hr hG =>
    (zag (zam (zar (cr_all rfl) zd5 T.b_all (by decide +kernel) (za_ (zfn (own := [("one", 7)]) rfl sc_are_guards.nd (zb3 (zaa (i := 6))) (blkOk_by (N := ["columns", "rules", "master", "settled", "here", "now", "value", "one"]) (sc := defScope (top 46)) (by decide +kernel)) (fun _ _ _ _ _ => (zaj (i := 7) sc_are_guards.nd)) (fun _ _ _ _ _ => zbx) (fun _ _ _ _ _ => (zai (ok_is_guard T) (hr.mono (by decide)) hG takes0 (za_ (zaa (i := 0)) (za_ (zaa (i := 1)) (za_ (zaa (i := 2)) (za_ (zaa (i := 3)) (za_ (zaa (i := 4)) (za_ (zaa (i := 5)) (za_ (zbg (zaa (i := 7)) zah) (za_ (zbg (zaa (i := 7)) zah) zad)))))))) (hlen := (zab (zab (zab (zab (zab (zab (zab (zab zak)))))))))))).de zad)))))
theorem sc_is_run_part : FnScope (["rules", "master", "row", "settled", "value", "step", "one"] : List Str) (["rules", "master", "row", "settled", "value"] : List Str) (defScope (top 47)) := ⟨rfl, rfl, rfl, by decide +kernel, rfl, by decide +kernel, by decide +kernel⟩
theorem zo1 (T : Txt K mg) : Def P w K mg base 4 "is_run_part" 5 zhl := zb1 T.d_is_run_part sc_is_run_part (fun _ _ _ _ _ _ us hl => match us, hl with | [_, _, _, _, _], _ => rfl) (fun f cdv A outer s H E hr hG =>
    (zae (zbr (zbs (zcy (zhd (zaa (i := 4)) T.b_isinstance T.b_list (by decide +kernel)))) (zag (zam zep)) zaq)
    (zae (zhg (passes_of rfl) rfl (zb3 (zaa (i := 4))) (zaj (i := 5) sc_is_run_part.nd) (zae (zbr (zhn (zbs (zcy (zhd (zaa (i := 5)) T.b_isinstance T.b_tuple (by decide +kernel)))) (zhn (zaw (zcx (ru64 hr)) zee (zar call_len zc_ T.b_len (by decide +kernel) (za_ (zaa (i := 5)) zad)) zah) (zfs (zbs (zcy (zar (cr_all rfl) zd5 T.b_all (by decide +kernel) (za_ (zfn (own := [("one", 6)]) rfl sc_is_run_part.nd (zb3 (zaa (i := 5))) (blkOk_by (N := ["rules", "master", "row", "settled", "value", "step", "one"]) (sc := defScope (top 47)) (by decide +kernel)) (fun _ _ _ _ _ => (zaj (i := 6) sc_is_run_part.nd)) (fun _ _ _ _ _ => zbx) (fun _ _ _ _ _ => (zai (zho T) (hr.mono (by decide)) hG takes0 (za_ (zaa (i := 6)) zad) (hlen := (zab zak))))).de zad))))))).dt (zag (zam zep)) zaq)
    (zae (zbr (zaw (zlr (ru65 hr)) zoc (zaa (i := 5)) (zai (zcq T) (hr.mono (by decide)) hG (takes_of rfl rfl rfl rfl) (za_ (zaa (i := 0)) (za_ (zaa (i := 1)) (za_ (zaa (i := 2)) (za_ (zaa (i := 3)) zad)))) (hlen := (zab (zab (zab (zab zak))))))) (zag (zam zep)) zaq)
    (zag (zjy (zai (zl3 T) (hr.mono (by decide)) hG (takes_of rfl rfl rfl rfl) (za_ (zaa (i := 2)) (za_ (zaa (i := 3)) (za_ (zaa (i := 5)) zad))) (hlen := (zab (zab (zab zak))))) (zet rfl (zan (zaj (i := 2) sc_is_run_part.nd) (zan (zaj (i := 3) sc_is_run_part.nd) zc2)) (zal (zal zb2))))))))
    (zag (zam zep)))))
theorem sc_is_run_of : FnScope (["rules", "master", "row", "settled", "value", "here", "now"] : List Str) (["rules", "master", "row", "settled", "value"] : List Str) (defScope (top 48)) := ⟨rfl, rfl, rfl, by decide +kernel, rfl, by decide +kernel, by decide +kernel⟩
theorem zmn (T : Txt K mg) : Def P w K mg base 5 "is_run_of" 5 zfy := zb1 T.d_is_run_of sc_is_run_of (fun _ _ _ _ _ _ us hl => match us, hl with | [_, _, _, _, _], _ => rfl) (fun f cdv A outer s H E hr hG =>
    (zae (zbr (zbs (zcy (zai (zo1 T) (hr.mono (by decide)) hG (takes_of rfl rfl rfl rfl) (za_ (zaa (i := 0)) (za_ (zaa (i := 1)) (za_ (zaa (i := 2)) (za_ (zaa (i := 3)) (za_ (zaa (i := 4)) zad))))) (hlen := (zab (zab (zab (zab (zab zak))))))))) (zag (zam zep)) zaq)
    (zae (zjy (zai (zgj T) (hr.mono (by decide)) hG (takes_of rfl rfl rfl rfl) (za_ (zaa (i := 2)) (za_ (zaa (i := 3)) (za_ (zaa (i := 4)) zad))) (hlen := (zab (zab (zab zak))))) (zet rfl (zan (zaj (i := 5) sc_is_run_of.nd) (zan (zaj (i := 6) sc_is_run_of.nd) zc2)) (zal (zal zb2))))
    (zag (zam (zew (zd7 (ru64 hr)) zfl (zai (zcq T) (hr.mono (by decide)) hG (takes_of rfl rfl rfl rfl) (za_ (zaa (i := 0)) (za_ (zaa (i := 1)) (za_ (zaa (i := 5)) (za_ (zaa (i := 6)) zad)))) (hlen := (zab (zab (zab (zab zak)))))) (zin zad)))))))
theorem sc_do_part : FnScope (["first", "second", "one", "other"] : List Str) (["first", "second"] : List Str) (defScope (top 49)) := ⟨rfl, rfl, rfl, by decide +kernel, rfl, by decide +kernel, by decide +kernel⟩
theorem ok_do_part (T : Txt K mg) : Def P w K mg base 1 "do_part" 2 zlj := zb1 T.d_do_part sc_do_part (fun _ _ _ _ _ _ us hl => match us, hl with | [_, _], _ => rfl) (fun f cdv A outer s H E hr hG =>
    (zag (zam (zar (cr_any rfl) dAny_ok T.b_any (by decide +kernel) (za_ (ne_lc2 (own := [("one", 2), ("other", 3)]) (v1 := [3]) rfl sc_do_part.nd (zb3 (zaa (i := 0))) (blkOk_by (N := ["first", "second", "one", "other"]) (sc := defScope (top 49)) (by decide +kernel)) (fun _ _ _ _ _ => (zaj (i := 2) sc_do_part.nd)) (fun _ _ _ _ _ => zbx) (fun _ _ _ _ _ => (zb3 (zaa (i := 1)))) (fun _ _ _ _ _ => (zaj (i := 3) sc_do_part.nd)) (fun _ _ _ _ _ => zbx) (fun _ _ _ _ _ => (zme (zew (zd7 (ru64 hr)) zfl (zbg (zaa (i := 2)) zah) (zbg (zaa (i := 3)) zah)) (zjt (zew (zcx (ru64 hr)) zee (zbg (zaa (i := 2)) zah) (zbg (zaa (i := 3)) zah)))))).de zad)))))
theorem zpa : FnScope (["columns", "rules", "master", "row", "settled"] : List Str) (["columns", "rules", "master", "row", "settled"] : List Str) (defScope (top 50)) := ⟨rfl, rfl, rfl, by decide +kernel, rfl, by decide +kernel, by decide +kernel⟩
theorem zih (T : Txt K mg) : Def P w K mg base 9 "require_fix" 5 zeq := zb1 T.d_require_fix zpa (fun _ _ _ _ _ _ us hl => match us, hl with | [_, _, _, _, _], _ => rfl) (fun f cdv A outer s H E hr hG =>
    (zae (zie (zai (zji T) (hr.mono (by decide)) hG (takes_of rfl rfl rfl rfl) (za_ (zaa (i := 0)) (za_ (zaa (i := 1)) zad)) (hlen := (zab (zab zak)))))
    (zae (zie (zai (zm5 T) (hr.mono (by decide)) hG (takes_of rfl rfl rfl rfl) (za_ (zaa (i := 0)) (za_ (zaa (i := 2)) zad)) (hlen := (zab (zab zak)))))
    (zae (zie (zai (zo3 T) (hr.mono (by decide)) hG (takes_of rfl rfl rfl rfl) (za_ (zaa (i := 0)) (za_ (zaa (i := 3)) zad)) (hlen := (zab (zab zak)))))
    (zag (zie (zai (zk3 T) (hr.mono (by decide)) hG (takes_of rfl rfl rfl rfl) (za_ (zaa (i := 0)) (za_ (zaa (i := 4)) zad)) (hlen := (zab (zab zak))))))))))
theorem zp7 : FnScope (["columns", "rules", "master", "row", "settled"] : List Str) (["columns", "rules", "master", "row", "settled"] : List Str) (defScope (top 51)) := ⟨rfl, rfl, rfl, by decide +kernel, rfl, by decide +kernel, by decide +kernel⟩
theorem zql (T : Txt K mg) : Def P w K mg base 10 "next_steps" 5 zha := zb1 T.d_next_steps zp7 (fun _ _ _ _ _ _ us hl => match us, hl with | [_, _, _, _, _], _ => rfl) (fun f cdv A outer s H E hr hG =>
    (zae (zie (zai (zih T) (hr.mono (by decide)) hG (takes_of rfl rfl rfl rfl) (za_ (zaa (i := 0)) (za_ (zaa (i := 1)) (za_ (zaa (i := 2)) (za_ (zaa (i := 3)) (za_ (zaa (i := 4)) zad))))) (hlen := (zab (zab (zab (zab (zab zak))))))))
    (zag (zam (zai (zcq T) (hr.mono (by decide)) hG (takes_of rfl rfl rfl rfl) (za_ (zaa (i := 1)) (za_ (zaa (i := 2)) (za_ (zaa (i := 3)) (za_ (zaa (i := 4)) zad)))) (hlen := (zab (zab (zab (zab zak))))))))))
theorem sc_run : FnScope (["columns", "rules", "master", "row", "settled"] : List Str) (["columns", "rules", "master", "row", "settled"] : List Str) (defScope (top 52)) := ⟨rfl, rfl, rfl, by decide +kernel, rfl, by decide +kernel, by decide +kernel⟩
theorem ok_run (T : Txt K mg) : Def P w K mg base 10 "run" 5 g_run := zb1 T.d_run sc_run (fun _ _ _ _ _ _ us hl => match us, hl with | [_, _, _, _, _], _ => rfl) (fun f cdv A outer s H E hr hG =>
    (zae (zie (zai (zih T) (hr.mono (by decide)) hG (takes_of rfl rfl rfl rfl) (za_ (zaa (i := 0)) (za_ (zaa (i := 1)) (za_ (zaa (i := 2)) (za_ (zaa (i := 3)) (za_ (zaa (i := 4)) zad))))) (hlen := (zab (zab (zab (zab (zab zak))))))))
    (zag (zam (zai (zhs T) (hr.mono (by decide)) hG (takes_of rfl rfl rfl rfl) (za_ (zaa (i := 1)) (za_ (zaa (i := 2)) (za_ (zaa (i := 3)) (za_ (zaa (i := 4)) (za_ zea zad))))) (hlen := (zab (zab (zab (zab (zab zak)))))))))))
theorem sc_fix : FnScope (["columns", "rules", "master", "row", "settled", "both", "here", "now"] : List Str) (["columns", "rules", "master", "row", "settled"] : List Str) (defScope (top 53)) := ⟨rfl, rfl, rfl, by decide +kernel, rfl, by decide +kernel, by decide +kernel⟩
theorem ok_fix (T : Txt K mg) : Def P w K mg base 10 "fix" 5 g_fix := zb1 T.d_fix sc_fix (fun _ _ _ _ _ _ us hl => match us, hl with | [_, _, _, _, _], _ => rfl) (fun f cdv A outer s H E hr hG =>
    (zae (zie (zai (zih T) (hr.mono (by decide)) hG (takes_of rfl rfl rfl rfl) (za_ (zaa (i := 0)) (za_ (zaa (i := 1)) (za_ (zaa (i := 2)) (za_ (zaa (i := 3)) (za_ (zaa (i := 4)) zad))))) (hlen := (zab (zab (zab (zab (zab zak))))))))
    (zae (zba (i := 5) (zai (zqe T) (hr.mono (by decide)) hG (takes_of rfl rfl rfl rfl) (za_ (zaa (i := 0)) (za_ (zaa (i := 1)) (za_ (zaa (i := 2)) (za_ (zaa (i := 3)) (za_ (zaa (i := 4)) zad))))) (hlen := (zab (zab (zab (zab (zab zak))))))) sc_fix.nd)
    (zae (zbr (zaw op_notN zj0 (zaa (i := 5)) zea) (zag (zam (zbw (za_ zh9 (za_ (zbg (zaa (i := 5)) zah) (za_ (zbg (zaa (i := 5)) zah) zad)))))) zaq)
    (zae (zjy (zai (zgj T) (hr.mono (by decide)) hG (takes_of rfl rfl rfl rfl) (za_ (zaa (i := 3)) (za_ (zaa (i := 4)) (za_ (zai (zhs T) (hr.mono (by decide)) hG (takes_of rfl rfl rfl rfl) (za_ (zaa (i := 1)) (za_ (zaa (i := 2)) (za_ (zaa (i := 3)) (za_ (zaa (i := 4)) (za_ zea zad))))) (hlen := (zab (zab (zab (zab (zab zak))))))) zad))) (hlen := (zab (zab (zab zak))))) (zet rfl (zan (zaj (i := 6) sc_fix.nd) (zan (zaj (i := 7) sc_fix.nd) zc2)) (zal (zal zb2))))
    (zag (zam (zbw (za_ zh9 (za_ (zaa (i := 6)) (za_ (zaa (i := 7)) (za_ (zai (zo0 T) (hr.mono (by decide)) hG (takes_of rfl rfl rfl rfl) (za_ (zaa (i := 0)) (za_ (zaa (i := 1)) (za_ (zaa (i := 2)) (za_ (zaa (i := 3)) (za_ (zaa (i := 4)) zad))))) (hlen := (zab (zab (zab (zab (zab zak))))))) zad))))))))))))
theorem sc_check_fix : FnScope (["columns", "master", "row", "settled"] : List Str) (["columns", "master", "row", "settled"] : List Str) (defScope (top 110)) := ⟨rfl, rfl, rfl, by decide +kernel, rfl, by decide +kernel, by decide +kernel⟩
theorem zmf (T : Txt K mg) : Def P w K mg base 6 "check_fix" 4 zhx := zb1 T.d_check_fix sc_check_fix (fun _ _ _ _ _ _ us hl => match us, hl with | [_, _, _, _], _ => rfl) (fun f cdv A outer s H E hr hG =>
    (zae (zbr (zbs (zcy (zai (zkf T) (hr.mono (by decide)) hG (takes_of rfl rfl rfl rfl) (za_ (zaa (i := 0)) (za_ (zaa (i := 1)) zad)) (hlen := (zab (zab zak)))))) (zag (zam zah)) zaq)
    (zae (zbr (zbs (zcy (zai (zjw T) (hr.mono (by decide)) hG (takes_of rfl rfl rfl rfl) (za_ (zaa (i := 0)) (za_ (zaa (i := 2)) zad)) (hlen := (zab (zab zak)))))) (zag (zam zah)) zaq)
    (zag (zam (de_if (zcy (zai (zjc T) (hr.mono (by decide)) hG (takes_of rfl rfl rfl rfl) (za_ (zaa (i := 0)) (za_ (zaa (i := 3)) zad)) (hlen := (zab (zab zak))))) zea zah))))))
theorem sc_check_alike : FnScope (["columns", "rules", "master", "row", "settled", "run", "guards", "found", "here", "now"] : List Str) (["columns", "rules", "master", "row", "settled", "run", "guards"] : List Str) (defScope (top 112)) := ⟨rfl, rfl, rfl, by decide +kernel, rfl, by decide +kernel, by decide +kernel⟩
theorem zoy (T : Txt K mg) : Def P w K mg base 7 "check_alike" 7 zeh := zb1 T.d_check_alike sc_check_alike (fun _ _ _ _ _ _ us hl => match us, hl with | [_, _, _, _, _, _, _], _ => rfl) (fun f cdv A outer s H E hr hG =>
    (zae (zba (i := 7) (zai (zmf T) (hr.mono (by decide)) hG (takes_of rfl rfl rfl rfl) (za_ (zaa (i := 0)) (za_ (zaa (i := 2)) (za_ (zaa (i := 3)) (za_ (zaa (i := 4)) zad)))) (hlen := (zab (zab (zab (zab zak)))))) sc_check_alike.nd)
    (zae (zbr (zaw op_notN zj0 (zaa (i := 7)) zea) (zag (zam (zaa (i := 7)))) zaq)
    (zae (zbr (zbs (zcy (zai (zmn T) (hr.mono (by decide)) hG (takes_of rfl rfl rfl rfl) (za_ (zaa (i := 1)) (za_ (zaa (i := 2)) (za_ (zaa (i := 3)) (za_ (zaa (i := 4)) (za_ (zaa (i := 5)) zad))))) (hlen := (zab (zab (zab (zab (zab zak))))))))) (zag (zam zah)) zaq)
    (zae (zbr (zbs (zcy (zai (zlg T) (hr.mono (by decide)) hG (takes_of rfl rfl rfl rfl) (za_ (zaa (i := 0)) (za_ (zaa (i := 4)) (za_ (zaa (i := 6)) zad))) (hlen := (zab (zab (zab zak))))))) (zag (zam zah)) zaq)
    (zae (zjy (zai (zgj T) (hr.mono (by decide)) hG (takes_of rfl rfl rfl rfl) (za_ (zaa (i := 3)) (za_ (zaa (i := 4)) (za_ (zaa (i := 5)) zad))) (hlen := (zab (zab (zab zak))))) (zet rfl (zan (zaj (i := 8) sc_check_alike.nd) (zan (zaj (i := 9) sc_check_alike.nd) zc2)) (zal (zal zb2))))
    (zag (zam (de_if (zcy (zai (zqr T) (hr.mono (by decide)) hG (takes_of rfl rfl rfl rfl) (za_ (zaa (i := 0)) (za_ (zaa (i := 1)) (za_ (zaa (i := 2)) (za_ (zaa (i := 4)) (za_ (zaa (i := 8)) (za_ (zaa (i := 9)) (za_ (zaa (i := 6)) zad))))))) (hlen := (zab (zab (zab (zab (zab (zab (zab zak)))))))))) zea zah)))))))))
theorem sc_check_parts : FnScope (["columns", "rules", "master", "row", "settled", "first", "second", "found", "run"] : List Str) (["columns", "rules", "master", "row", "settled", "first", "second"] : List Str) (defScope (top 113)) := ⟨rfl, rfl, rfl, by decide +kernel, rfl, by decide +kernel, by decide +kernel⟩
theorem zp_ (T : Txt K mg) : Def P w K mg base 7 "check_parts" 7 zek := zb1 T.d_check_parts sc_check_parts (fun _ _ _ _ _ _ us hl => match us, hl with | [_, _, _, _, _, _, _], _ => rfl) (fun f cdv A outer s H E hr hG =>
    (zae (zba (i := 7) (zai (zmf T) (hr.mono (by decide)) hG (takes_of rfl rfl rfl rfl) (za_ (zaa (i := 0)) (za_ (zaa (i := 2)) (za_ (zaa (i := 3)) (za_ (zaa (i := 4)) zad)))) (hlen := (zab (zab (zab (zab zak)))))) sc_check_parts.nd)
    (zae (zbr (zaw op_notN zj0 (zaa (i := 7)) zea) (zag (zam (zaa (i := 7)))) zaq)
    (zae (zbr (zbs (zcy (zar (cr_all rfl) zd5 T.b_all (by decide +kernel) (za_ (zfn (own := [("run", 8)]) rfl sc_check_parts.nd (zb3 (zbw (za_ (zaa (i := 5)) (za_ (zaa (i := 6)) zad)))) (blkOk_by (N := ["columns", "rules", "master", "row", "settled", "first", "second", "found", "run"]) (sc := defScope (top 113)) (by decide +kernel)) (fun _ _ _ _ _ => (zaj (i := 8) sc_check_parts.nd)) (fun _ _ _ _ _ => zbx) (fun _ _ _ _ _ => (zai (zmn T) (hr.mono (by decide)) hG takes0 (za_ (zaa (i := 1)) (za_ (zaa (i := 2)) (za_ (zaa (i := 3)) (za_ (zaa (i := 4)) (za_ (zaa (i := 8)) zad))))) (hlen := (zab (zab (zab (zab (zab zak))))))))).de zad)))) (zag (zam zah)) zaq)
    (zag (zam (de_if (zcy (zai (ok_do_part T) (hr.mono (by decide)) hG (takes_of rfl rfl rfl rfl) (za_ (zaa (i := 5)) (za_ (zaa (i := 6)) zad)) (hlen := (zab (zab zak))))) zea zah)))))))
theorem sc_find_wrong : FnScope (["certificate", "word", "rest"] : List Str) (["certificate"] : List Str) (defScope (top 115)) := ⟨rfl, rfl, rfl, by decide +kernel, rfl, by decide +kernel, by decide +kernel⟩
theorem zqg (T : Txt K mg) : Def P w K mg base 8 "find_wrong" 1 zef := zb1 T.d_find_wrong sc_find_wrong (fun _ _ _ _ _ _ us hl => match us, hl with | [_], _ => rfl) (fun f cdv A outer s H E hr hG =>
    (zae (ds_par (i := 1) (j := 2) rfl (zbg (zaa (i := 0)) zah) (zi8 (zaa (i := 0)) (zhy zah) zj7) sc_find_wrong.nd)
    (zae (zbr (zaw (zd7 (ru64 hr)) zfl (zaa (i := 1)) zh9) (zag (zam de_bad)) zaq)
    (zae (zbr (zaw (zd7 (ru64 hr)) zfl (zaa (i := 1)) zh9) (zag (zam (de_callS (zoy T) (hr.mono (by decide)) hG (takes_of rfl rfl rfl rfl) (zaa (i := 2))))) zaq)
    (zag (zam (de_if (zaw (zd7 (ru64 hr)) zfl (zaa (i := 1)) zh9) (de_callS (zp_ T) (hr.mono (by decide)) hG (takes_of rfl rfl rfl rfl) (zaa (i := 2))) de_bad)))))))
theorem sc_check : FnScope (["certificate", "wrong"] : List Str) (["certificate"] : List Str) (defScope (top 116)) := ⟨rfl, rfl, rfl, by decide +kernel, rfl, by decide +kernel, by decide +kernel⟩
theorem ok_check (T : Txt K mg) : Def P w K mg base 9 "check" 1 zkj := zb1 T.d_check sc_check (fun _ _ _ _ _ _ us hl => match us, hl with | [_], _ => rfl) (fun f cdv A outer s H E hr hG =>
    (zae (zbr (zhn (zbs (zcy (zhd (zaa (i := 0)) T.b_isinstance T.b_tuple (by decide +kernel)))) (zhn (zaw (zd7 (ru64 hr)) zfl (zaa (i := 0)) (zbw zad)) (zfs (zbs (zcy (zhd (zbg (zaa (i := 0)) zah) T.b_isinstance T.b_str (by decide +kernel))))))).dt (zag (zjh rfl (takes_of rfl rfl rfl rfl) T.e_NotACertificate)) zaq)
    (zae (zbr (zaw (zcx (ru64 hr)) zee (de_gget (D := zfj) (by rfl) T.tb_SIZES (zbg (zaa (i := 0)) zah) (de_gget (D := zbv) (by rfl) T.tb_MORE_SIZES (zbg (zaa (i := 0)) zah) zah ⟨rfl, rfl, rfl, rfl⟩) ⟨rfl, rfl, rfl, rfl⟩) (zar call_len zc_ T.b_len (by decide +kernel) (za_ (zaa (i := 0)) zad))) (zag (zjh rfl (takes_of rfl rfl rfl rfl) T.e_NotACertificate)) zaq)
    (zae (zie (zai (zji T) (hr.mono (by decide)) hG (takes_of rfl rfl rfl rfl) (za_ (zbg (zaa (i := 0)) zah) (za_ (zbg (zaa (i := 0)) zah) zad)) (hlen := (zab (zab zak)))))
    (zae (zbr (zaw (zd7 (ru64 hr)) zfl (zbg (zaa (i := 0)) zah) zh9) (zag (zie de_bad)) zaq)
    (zae (zba (i := 1) (zai (zqg T) (hr.mono (by decide)) hG (takes_of rfl rfl rfl rfl) (za_ (zaa (i := 0)) zad) (hlen := (zab zak))) sc_check.nd)
    (zag (zam (de_if (zaw op_isN zjz (zaa (i := 1)) zea) (zbw (za_ zh9 zad)) (zbw (za_ zh9 (za_ (zaa (i := 1)) zad))))))))))))
theorem sc_l_law_spread : FnScope (["_law_cell", "_law_at", "_law_primes", "_law_mixed", "_law_one_here", "_law_rest", "_law_two", "_law_three"] : List Str) (["_law_cell", "_law_at"] : List Str) (defScope (top 118)) := ⟨rfl, rfl, rfl, by decide +kernel, rfl, by decide +kernel, by decide +kernel⟩
theorem zon (T : Txt K mg) : Def P w K mg base 1 "_law_spread" 2 zg5 := zb1 T.d_l_law_spread sc_l_law_spread (fun _ _ _ _ _ _ us hl => match us, hl with | [_, _], _ => rfl) (fun f cdv A outer s H E hr hG =>
    (zae (zbr (zaw op_ge dGe_ok (zaa (i := 0)) (zbd op_pow zkr zah zah)) (zag (zam (zaa (i := 0)))) zaq)
    (zae (zba (i := 2) (zin (za_ zah (za_ zah (za_ zah (za_ zah (za_ zah (za_ zah (za_ zah zad)))))))) sc_l_law_spread.nd)
    (zae (zba (i := 2) (zbd zax zay (zaa (i := 2)) (zin (za_ zah (za_ zah (za_ zah (za_ zah (za_ zah (za_ zah zad)))))))) sc_l_law_spread.nd)
    (zae (zba (i := 3) (zbd zax zay (zbd zax zay (zbd zkp zi3 (zbd op_mod zfk (zbf call_int1 zfh T.b_int (by decide +kernel) (za_ (zaa (i := 0)) zad)) zah) (zbd zax zay (zbd zkp zi3 zah (zaa (i := 1))) zah)) (zbd zkp zi3 (zaa (i := 1)) zah)) zah) sc_l_law_spread.nd)
    (zae (zba (i := 4) (zbd op_mod zfk (zbf call_int1 zfh T.b_int (by decide +kernel) (za_ (zbd op_pow zkr (zaa (i := 3)) zah) zad)) (zbg (zaa (i := 2)) (zbd op_mod zfk (zbf call_int1 zfh T.b_int (by decide +kernel) (za_ (zaa (i := 1)) zad)) zah))) sc_l_law_spread.nd)
    (zae (zba (i := 5) (zbd zax zay (zbd op_mod zfk (zbf call_int1 zfh T.b_int (by decide +kernel) (za_ (zaa (i := 0)) zad)) zah) zah) sc_l_law_spread.nd)
    (zae (zba (i := 6) (zbd op_mod zfk (zbf call_int1 zfh T.b_int (by decide +kernel) (za_ (zbd op_pow zkr (zbd zax zay (zbd zkp zi3 (zaa (i := 4)) (zbd zax zay (zaa (i := 1)) zah)) (zaa (i := 5))) zah) zad)) (zbg (zaa (i := 2)) (zbd op_mod zfk (zbf call_int1 zfh T.b_int (by decide +kernel) (za_ (zbd zax zay (zaa (i := 1)) zah) zad)) zah))) sc_l_law_spread.nd)
    (zae (zba (i := 7) (zbd op_mod zfk (zbf call_int1 zfh T.b_int (by decide +kernel) (za_ (zbd op_pow zkr (zbd zax zay (zbd zax zay (zaa (i := 6)) (zbd op_mod zfk (zbf call_int1 zfh T.b_int (by decide +kernel) (za_ (zaa (i := 4)) zad)) zah)) (zaa (i := 1))) zah) zad)) (zbg (zaa (i := 2)) (zbd op_mod zfk (zbf call_int1 zfh T.b_int (by decide +kernel) (za_ (zbd zax zay (zaa (i := 1)) zah) zad)) zah))) sc_l_law_spread.nd)
    (zag (zam (zbd zax zay (zbd zkp zi3 (zbd zax zay (zbd zkp zi3 (zaa (i := 4)) zah) (zaa (i := 6))) zah) (zaa (i := 7))))))))))))))
theorem sc_l_law_open : FnScope (["_law_script", "_law_cells", "_law_k", "_law_cell"] : List Str) (["_law_script"] : List Str) (defScope (top 119)) := ⟨rfl, rfl, rfl, by decide +kernel, rfl, by decide +kernel, by decide +kernel⟩
theorem zqt (T : Txt K mg) : Def P w K mg base 1 "_law_open" 1 zh6 := zb1 T.d_l_law_open sc_l_law_open (fun _ _ _ _ _ _ us hl => match us, hl with | [_], _ => rfl) (fun f cdv A outer s H E hr hG =>
    (zae (ds_new (i := 1) (ne_list (p2 := ⟨0, 0, 0, 0⟩) (zi8 (zaa (i := 0)) zj7 (zhy zah)) T.b_list) sc_l_law_open.nd (hf := .inr rfl))
    (zae (zhg (passes_of rfl) rfl (di_enum (zi8 (zaa (i := 0)) (zhy zah) (zhy zah)) T.b_enumerate) (zet rfl (zan (zaj (i := 2) sc_l_law_open.nd) (zan (zaj (i := 3) sc_l_law_open.nd) zc2)) (zal (zal zb2))) (zag (ds_put (zaa (i := 1)) (zbd op_mod zfk (zbf call_int1 zfh T.b_int (by decide +kernel) (za_ (zaa (i := 2)) zad)) zah) (zbd zax zay (zbg (zaa (i := 1)) (zbd op_mod zfk (zbf call_int1 zfh T.b_int (by decide +kernel) (za_ (zaa (i := 2)) zad)) zah)) (zaa (i := 3))))))
    (dss_frz (i := 1) (zag (ds_retN (ne_lst (za_ (zaa (i := 1)) (za_ zah (za_ zah zad))))))))))
theorem sc_l_law_take : FnScope (["_law_pen", "_law_many", "_law_found", "_law_at", "_law_cell"] : List Str) (["_law_pen", "_law_many"] : List Str) (defScope (top 120)) := ⟨rfl, rfl, rfl, by decide +kernel, rfl, by decide +kernel, by decide +kernel⟩
theorem zby (T : Txt K mg) : Def P w K mg base 2 "_law_take" 2 zbc := zb1 T.d_l_law_take sc_l_law_take (fun _ _ _ _ _ _ us hl => match us, hl with | [_, _], _ => rfl) (fun f cdv A outer s H E hr hG =>
    (zae (zbr (zaw op_lt dLt_ok (zbg (zaa (i := 0)) zah) (zaa (i := 1))) (zae (zba (i := 3) (zbg (zaa (i := 0)) zah) sc_l_law_take.nd)
    (zae (zba (i := 4) zah sc_l_law_take.nd)
    (zae (zbr (zaw op_lt dLt_ok (zaa (i := 3)) (zar call_len zc_ T.b_len (by decide +kernel) (za_ (zbg (zaa (i := 0)) zah) zad))) (zag (zba (i := 4) (zbg (zbg (zaa (i := 0)) zah) (zaa (i := 3))) sc_l_law_take.nd)) (zag (zbr (zaw op_gt dGt_ok (zar call_len zc_ T.b_len (by decide +kernel) (za_ (zbg (zaa (i := 0)) zah) zad)) zah) (zag (zba (i := 4) (zbd op_mod zfk (zbf call_int1 zfh T.b_int (by decide +kernel) (za_ (zbg (zbg (zaa (i := 0)) zah) (zbd op_mod zfk (zbf call_int1 zfh T.b_int (by decide +kernel) (za_ (zbd zax zay (zbd zkp zi3 (zaa (i := 3)) zah) zah) zad)) (zar call_len zc_ T.b_len (by decide +kernel) (za_ (zbg (zaa (i := 0)) zah) zad)))) zad)) (zbd zax zay (zbd op_pow zkr zah zah) (zaa (i := 3)))) sc_l_law_take.nd)) zaq)))
    (zae (ds_put (zaa (i := 0)) zah (zbd zax zay (zaa (i := 3)) zah))
    (zag (ds_put (zaa (i := 0)) zah (zai (zon T) (hr.mono (by decide)) hG (takes_of rfl rfl rfl rfl) (za_ (zaa (i := 4)) (za_ (zaa (i := 3)) zad)) (hlen := (zab (zab zak)))))))))) zaq)
    (zae (zba (i := 2) (zbd op_mod zfk (zbf call_int1 zfh T.b_int (by decide +kernel) (za_ (zbg (zaa (i := 0)) zah) zad)) (zaa (i := 1))) sc_l_law_take.nd)
    (zae (ds_put (zaa (i := 0)) zah (zbd op_fdivW dDiv_ok (zbg (zaa (i := 0)) zah) (zaa (i := 1))))
    (zag (zam (zaa (i := 2))))))))
theorem zqo : FnScope (["_law_pen"] : List Str) (["_law_pen"] : List Str) (defScope (top 121)) := ⟨rfl, rfl, rfl, by decide +kernel, rfl, by decide +kernel, by decide +kernel⟩
theorem zp8 (T : Txt K mg) : Def P w K mg base 1 "_law_anew" 1 zh0 := zb1 T.d_l_law_anew zqo (fun _ _ _ _ _ _ us hl => match us, hl with | [_], _ => rfl) (fun f cdv A outer s H E hr hG =>
    (zae (ds_put (zaa (i := 0)) zah zah)
    (zag (zam (zaa (i := 0))))))
theorem sc_l_law_one : FnScope (["_law_pen", "_law_some"] : List Str) (["_law_pen", "_law_some"] : List Str) (defScope (top 122)) := ⟨rfl, rfl, rfl, by decide +kernel, rfl, by decide +kernel, by decide +kernel⟩
theorem zd3 (T : Txt K mg) : Def P w K mg base 3 "_law_one" 2 zcs := zb1 T.d_l_law_one sc_l_law_one (fun _ _ _ _ _ _ us hl => match us, hl with | [_, _], _ => rfl) (fun f cdv A outer s H E hr hG =>
    (zag (zam (zbg (zaa (i := 1)) (zai (zby T) (hr.mono (by decide)) hG (takes_of rfl rfl rfl rfl) (za_ (zaa (i := 0)) (za_ (zar call_len zc_ T.b_len (by decide +kernel) (za_ (zaa (i := 1)) zad)) zad)) (hlen := (zab (zab zak))))))))
theorem sc_l_law_columns : FnScope (["_law_pen", "_law_most", "_law_k", "_law_found", "_law_closed", "_law_own", "_law_step"] : List Str) (["_law_pen", "_law_most"] : List Str) (defScope (top 123)) := ⟨rfl, rfl, rfl, by decide +kernel, rfl, by decide +kernel, by decide +kernel⟩
theorem zm9 (T : Txt K mg) : Def P w K mg base 3 "_law_columns" 2 zfo := zb1 T.d_l_law_columns sc_l_law_columns (fun _ _ _ _ _ _ us hl => match us, hl with | [_, _], _ => rfl) (fun f cdv A outer s H E hr hG =>
    (zae (zjy (zbw (za_ (zbw zad) (za_ zah zad))) (zet rfl (zan (zaj (i := 3) sc_l_law_columns.nd) (zan (zaj (i := 4) sc_l_law_columns.nd) zc2)) (zal (zal zb2))))
    (zae (zhg (passes_of rfl) rfl (zdo (za_ (zbd zax zay zah (zai (zby T) (hr.mono (by decide)) hG (takes_of rfl rfl rfl rfl) (za_ (zaa (i := 0)) (za_ (zaa (i := 1)) zad)) (hlen := (zab (zab zak))))) zad) T.b_range) (zaj (i := 2) sc_l_law_columns.nd) (zae (zba (i := 5) (zj4 rfl (zfn (own := [("_law_step", 6)]) rfl sc_l_law_columns.nd (zdo (za_ (zbd zax zay zah (zai (zby T) (hr.mono (by decide)) hG (takes_of rfl rfl rfl rfl) (za_ (zaa (i := 0)) (za_ zah zad)) (hlen := (zab (zab zak))))) zad) T.b_range) (blkOk_by (N := ["_law_pen", "_law_most", "_law_k", "_law_found", "_law_closed", "_law_own", "_law_step"]) (sc := defScope (top 123)) (by decide +kernel)) (fun _ _ _ _ _ => (zaj (i := 6) sc_l_law_columns.nd)) (fun _ _ _ _ _ => zbx) (fun _ _ _ _ _ => (zai (zby T) (hr.mono (by decide)) hG takes0 (za_ (zaa (i := 0)) (za_ zah zad)) (hlen := (zab (zab zak)))))).de T.b_sorted T.b_set).de sc_l_law_columns.nd)
    (zag (zbr (zmw (zaw op_lt dLt_ok (zaa (i := 4)) zah) (zl1 (zaw (zd7 (ru64 hr)) zfl (zai (zby T) (hr.mono (by decide)) hG (takes_of rfl rfl rfl rfl) (za_ (zaa (i := 0)) (za_ zah zad)) (hlen := (zab (zab zak)))) zah))).dt (zae (zba (i := 4) (zbd zax zay (zaa (i := 4)) zah) sc_l_law_columns.nd)
    (zag (zba (i := 3) (zbd zax zay (zaa (i := 3)) (zbw (za_ (zbf call_tuple_of zg9 T.b_tuple (by decide +kernel) (za_ (zaa (i := 5)) zad)) zad))) sc_l_law_columns.nd))) (zag (zba (i := 3) (zbd zax zay (zaa (i := 3)) (zbw (za_ zea zad))) sc_l_law_columns.nd))))))
    (zag (zam (zaa (i := 3)))))))
theorem zpb : FnScope (["_law_pen", "_law_column"] : List Str) (["_law_pen", "_law_column"] : List Str) (defScope (top 124)) := ⟨rfl, rfl, rfl, by decide +kernel, rfl, by decide +kernel, by decide +kernel⟩
theorem zid (T : Txt K mg) : Def P w K mg base 4 "_law_value" 2 zd9 := zb1 T.d_l_law_value zpb (fun _ _ _ _ _ _ us hl => match us, hl with | [_, _], _ => rfl) (fun f cdv A outer s H E hr hG =>
    (zae (zbr (zaw op_isN zjz (zaa (i := 1)) zea) (zag (zam (zai (zd3 T) (hr.mono (by decide)) hG (takes_of rfl rfl rfl rfl) (za_ (zaa (i := 0)) (za_ (zin (za_ zah (za_ zah (za_ zah (za_ zah (za_ zah (za_ zah (za_ zah (za_ (zbd op_pow zkr zah zah) (za_ (zbd zax zay (zbd op_pow zkr zah zah) zah) zad)))))))))) zad)) (hlen := (zab (zab zak)))))) zaq)
    (zag (zam (zai (zd3 T) (hr.mono (by decide)) hG (takes_of rfl rfl rfl rfl) (za_ (zaa (i := 0)) (za_ (zaa (i := 1)) zad)) (hlen := (zab (zab zak))))))))
theorem sc_l_law_row : FnScope (["_law_pen", "_law_columns_here", "_law_column"] : List Str) (["_law_pen", "_law_columns_here"] : List Str) (defScope (top 125)) := ⟨rfl, rfl, rfl, by decide +kernel, rfl, by decide +kernel, by decide +kernel⟩
theorem zmq (T : Txt K mg) : Def P w K mg base 5 "_law_row" 2 zhu := zb1 T.d_l_law_row sc_l_law_row (fun _ _ _ _ _ _ us hl => match us, hl with | [_, _], _ => rfl) (fun f cdv A outer s H E hr hG =>
    (zag (zam (zbf call_tuple_of zg9 T.b_tuple (by decide +kernel) (za_ (zfn (own := [("_law_column", 2)]) rfl sc_l_law_row.nd (zb3 (zaa (i := 1))) (blkOk_by (N := ["_law_pen", "_law_columns_here", "_law_column"]) (sc := defScope (top 125)) (by decide +kernel)) (fun _ _ _ _ _ => (zaj (i := 2) sc_l_law_row.nd)) (fun _ _ _ _ _ => zbx) (fun _ _ _ _ _ => (zai (zid T) (hr.mono (by decide)) hG takes0 (za_ (zaa (i := 0)) (za_ (zaa (i := 2)) zad)) (hlen := (zab (zab zak)))))).de zad)))))
theorem sc_l_law_table : FnScope (["_law_pen", "_law_columns_here", "_law_many", "_law_found", "_law_k", "_law_row_here", "_law_at", "_law_other"] : List Str) (["_law_pen", "_law_columns_here", "_law_many"] : List Str) (defScope (top 126)) := ⟨rfl, rfl, rfl, by decide +kernel, rfl, by decide +kernel, by decide +kernel⟩
theorem zox (T : Txt K mg) : Def P w K mg base 6 "_law_table" 3 zhq := zb1 T.d_l_law_table sc_l_law_table (fun _ _ _ _ _ _ us hl => match us, hl with | [_, _, _], _ => rfl) (fun f cdv A outer s H E hr hG =>
    (zae (zba (i := 3) (zbw zad) sc_l_law_table.nd)
    (zae (zhg (passes_of rfl) rfl (zdo (za_ (zaa (i := 2)) zad) T.b_range) (zaj (i := 4) sc_l_law_table.nd) (zae (zba (i := 5) (zai (zmq T) (hr.mono (by decide)) hG (takes_of rfl rfl rfl rfl) (za_ (zaa (i := 0)) (za_ (zaa (i := 1)) zad)) (hlen := (zab (zab zak)))) sc_l_law_table.nd)
    (zae (zbr (zmw (zaw op_gt dGt_ok (zaa (i := 4)) zah) (zl1 (zaw (zd7 (ru64 hr)) zfl (zai (zby T) (hr.mono (by decide)) hG (takes_of rfl rfl rfl rfl) (za_ (zaa (i := 0)) (za_ zah zad)) (hlen := (zab (zab zak)))) zah))).dt (zae (zba (i := 6) (zai (zby T) (hr.mono (by decide)) hG (takes_of rfl rfl rfl rfl) (za_ (zaa (i := 0)) (za_ (zar call_len zc_ T.b_len (by decide +kernel) (za_ (zaa (i := 1)) zad)) zad)) (hlen := (zab (zab zak)))) sc_l_law_table.nd)
    (zae (zba (i := 7) (zai (zd3 T) (hr.mono (by decide)) hG (takes_of rfl rfl rfl rfl) (za_ (zaa (i := 0)) (za_ (zaa (i := 3)) zad)) (hlen := (zab (zab zak)))) sc_l_law_table.nd)
    (zag (zba (i := 5) (zbd zax zay (zbd zax zay (zi8 (zaa (i := 7)) zj7 (zhy (zaa (i := 6)))) (zi8 (zaa (i := 5)) (zhy (zaa (i := 6))) (zhy (zbd zax zay (zaa (i := 6)) zah)))) (zi8 (zaa (i := 7)) (zhy (zbd zax zay (zaa (i := 6)) zah)) zj7)) sc_l_law_table.nd)))) zaq)
    (zag (zba (i := 3) (zbd zax zay (zaa (i := 3)) (zbw (za_ (zaa (i := 5)) zad))) sc_l_law_table.nd)))))
    (zag (zam (zaa (i := 3)))))))
theorem sc_l_law_rule : FnScope (["_law_pen", "_law_columns_here", "_law_column", "_law_want", "_law_given", "_law_k", "_law_road"] : List Str) (["_law_pen", "_law_columns_here"] : List Str) (defScope (top 127)) := ⟨rfl, rfl, rfl, by decide +kernel, rfl, by decide +kernel, by decide +kernel⟩
theorem zqd (T : Txt K mg) : Def P w K mg base 5 "_law_rule" 2 zh2 := zb1 T.d_l_law_rule sc_l_law_rule (fun _ _ _ _ _ _ us hl => match us, hl with | [_, _], _ => rfl) (fun f cdv A outer s H E hr hG =>
    (zae (zba (i := 2) (zai (zby T) (hr.mono (by decide)) hG (takes_of rfl rfl rfl rfl) (za_ (zaa (i := 0)) (za_ (zar call_len zc_ T.b_len (by decide +kernel) (za_ (zaa (i := 1)) zad)) zad)) (hlen := (zab (zab zak)))) sc_l_law_rule.nd)
    (zae (zba (i := 3) (zai (zd3 T) (hr.mono (by decide)) hG (takes_of rfl rfl rfl rfl) (za_ (zaa (i := 0)) (za_ (zin (za_ zea (za_ zea (za_ (zai (zid T) (hr.mono (by decide)) hG (takes_of rfl rfl rfl rfl) (za_ (zaa (i := 0)) (za_ (zbg (zaa (i := 1)) (zaa (i := 2))) zad)) (hlen := (zab (zab zak)))) zad)))) zad)) (hlen := (zab (zab zak)))) sc_l_law_rule.nd)
    (zae (zba (i := 4) (zbw zad) sc_l_law_rule.nd)
    (zae (zhg (passes_of rfl) rfl (zdo (za_ (zar call_len zc_ T.b_len (by decide +kernel) (za_ (zaa (i := 1)) zad)) zad) T.b_range) (zaj (i := 5) sc_l_law_rule.nd) (zae (zba (i := 6) (zai (zby T) (hr.mono (by decide)) hG (takes_of rfl rfl rfl rfl) (za_ (zaa (i := 0)) (za_ zah zad)) (hlen := (zab (zab zak)))) sc_l_law_rule.nd)
    (zag (zbr (zmw (zaw (zcx (ru64 hr)) zee (zaa (i := 5)) (zaa (i := 2))) (zl1 (zaw op_lt dLt_ok (zaa (i := 6)) zah))).dt (zag (zba (i := 4) (zbd zax zay (zaa (i := 4)) (zbw (za_ (zbw (za_ (zaa (i := 5)) (za_ (zai (zid T) (hr.mono (by decide)) hG (takes_of rfl rfl rfl rfl) (za_ (zaa (i := 0)) (za_ (zbg (zaa (i := 1)) (zaa (i := 5))) zad)) (hlen := (zab (zab zak)))) zad))) zad))) sc_l_law_rule.nd)) (zag (zbr (zmw (zaw (zcx (ru64 hr)) zee (zaa (i := 5)) (zaa (i := 2))) (zmw (zaw (zd7 (ru64 hr)) zfl (zaa (i := 6)) zah) (zl1 (zaw op_isN zjz (zaa (i := 3)) zea)))).dt (zag (zba (i := 4) (zbd zax zay (zaa (i := 4)) (zbw (za_ (zbw (za_ (zaa (i := 5)) (za_ zea zad))) zad))) sc_l_law_rule.nd)) zaq))))))
    (zag (zam (zbw (za_ (zaa (i := 4)) (za_ (zaa (i := 2)) (za_ (zaa (i := 3)) zad)))))))))))
theorem sc_l_law_case : FnScope (["_law_pen", "_law_columns_here", "_law_rules", "_law_k", "_law_master", "_law_row_here", "_law_settled"] : List Str) (["_law_pen"] : List Str) (defScope (top 128)) := ⟨rfl, rfl, rfl, by decide +kernel, rfl, by decide +kernel, by decide +kernel⟩
theorem zp0 (T : Txt K mg) : Def P w K mg base 7 "_law_case" 1 zh3 := zb1 T.d_l_law_case sc_l_law_case (fun _ _ _ _ _ _ us hl => match us, hl with | [_], _ => rfl) (fun f cdv A outer s H E hr hG =>
    (zae (zba (i := 1) (zai (zm9 T) (hr.mono (by decide)) hG (takes_of rfl rfl rfl rfl) (za_ (zaa (i := 0)) (za_ zah zad)) (hlen := (zab (zab zak)))) sc_l_law_case.nd)
    (zae (zba (i := 2) (zbw zad) sc_l_law_case.nd)
    (zae (zhg (passes_of rfl) rfl (zdo (za_ (zai (zby T) (hr.mono (by decide)) hG (takes_of rfl rfl rfl rfl) (za_ (zaa (i := 0)) (za_ zah zad)) (hlen := (zab (zab zak)))) zad) T.b_range) (zaj (i := 3) sc_l_law_case.nd) (zag (zba (i := 2) (zbd zax zay (zaa (i := 2)) (zbw (za_ (zai (zqd T) (hr.mono (by decide)) hG (takes_of rfl rfl rfl rfl) (za_ (zaa (i := 0)) (za_ (zaa (i := 1)) zad)) (hlen := (zab (zab zak)))) zad))) sc_l_law_case.nd)))
    (zae (zba (i := 4) (zai (zox T) (hr.mono (by decide)) hG (takes_of rfl rfl rfl rfl) (za_ (zaa (i := 0)) (za_ (zaa (i := 1)) (za_ (zai (zd3 T) (hr.mono (by decide)) hG (takes_of rfl rfl rfl rfl) (za_ (zaa (i := 0)) (za_ (zin (za_ zah (za_ zah (za_ zah (za_ zah (za_ zah (za_ zah zad))))))) zad)) (hlen := (zab (zab zak)))) zad))) (hlen := (zab (zab (zab zak))))) sc_l_law_case.nd)
    (zae (zba (i := 5) (zai (zd3 T) (hr.mono (by decide)) hG (takes_of rfl rfl rfl rfl) (za_ (zaa (i := 0)) (za_ (zin (za_ (zai (zmq T) (hr.mono (by decide)) hG (takes_of rfl rfl rfl rfl) (za_ (zaa (i := 0)) (za_ (zaa (i := 1)) zad)) (hlen := (zab (zab zak)))) (za_ (zai (zd3 T) (hr.mono (by decide)) hG (takes_of rfl rfl rfl rfl) (za_ (zaa (i := 0)) (za_ (zaa (i := 4)) zad)) (hlen := (zab (zab zak)))) zad))) zad)) (hlen := (zab (zab zak)))) sc_l_law_case.nd)
    (zae (zba (i := 6) (zbf call_tuple_of zg9 T.b_tuple (by decide +kernel) (za_ (zfn (own := [("_law_k", 3)]) rfl sc_l_law_case.nd (zdo (za_ (zar call_len zc_ T.b_len (by decide +kernel) (za_ (zaa (i := 1)) zad)) zad) T.b_range) (blkOk_by (N := ["_law_pen", "_law_columns_here", "_law_rules", "_law_k", "_law_master", "_law_row_here", "_law_settled"]) (sc := defScope (top 128)) (by decide +kernel)) (fun _ _ _ _ _ => (zaj (i := 3) sc_l_law_case.nd)) (fun _ _ _ _ _ => (zku (zaw op_lt dLt_ok (zai (zby T) (hr.mono (by decide)) hG takes0 (za_ (zaa (i := 0)) (za_ zah zad)) (hlen := (zab (zab zak)))) zah))) (fun _ _ _ _ _ => (zaa (i := 3)))).de zad)) sc_l_law_case.nd)
    (zag (zam (zbw (za_ (zaa (i := 1)) (za_ (zaa (i := 2)) (za_ (zaa (i := 4)) (za_ (zaa (i := 5)) (za_ (zaa (i := 6)) zad)))))))))))))))
theorem sc_l_law_walk : FnScope (["_law_pen", "_law_columns_here", "_law_rules", "_law_master", "_law_row_here", "_law_settled", "_law_again", "_law_some", "_law_number", "_law_column", "_law_value_here"] : List Str) (["_law_pen", "_law_columns_here", "_law_rules", "_law_master", "_law_row_here", "_law_settled"] : List Str) (defScope (top 129)) := ⟨rfl, rfl, rfl, by decide +kernel, rfl, by decide +kernel, by decide +kernel⟩
theorem zqw (T : Txt K mg) : Def P w K mg base 11 "_law_walk" 6 zh8 := zb1 T.d_l_law_walk sc_l_law_walk (fun _ _ _ _ _ _ us hl => match us, hl with | [_, _, _, _, _, _], _ => rfl) (fun f cdv A outer s H E hr hG =>
    (zae (zhg (passes_of rfl) rfl (zdo (za_ zah zad) T.b_range) (zaj (i := 6) sc_l_law_walk.nd) (zae (zba (i := 7) (zai (zql T) (hr.mono (by decide)) hG (takes_of rfl rfl rfl rfl) (za_ (zaa (i := 1)) (za_ (zaa (i := 2)) (za_ (zaa (i := 3)) (za_ (zaa (i := 4)) (za_ (zaa (i := 5)) zad))))) (hlen := (zab (zab (zab (zab (zab zak))))))) sc_l_law_walk.nd)
    (zag (zbr (zaw (zcx (ru64 hr)) zee (zaa (i := 7)) (zin zad)) (zae (zjy (zai (zd3 T) (hr.mono (by decide)) hG (takes_of rfl rfl rfl rfl) (za_ (zaa (i := 0)) (za_ (zaa (i := 7)) zad)) (hlen := (zab (zab zak)))) (zet rfl (zan (zaj (i := 8) sc_l_law_walk.nd) (zan (zaj (i := 9) sc_l_law_walk.nd) (zan (zaj (i := 10) sc_l_law_walk.nd) zc2))) (zal (zal (zal zb2)))))
    (zae (zba (i := 4) (zbd zax zay (zbd zax zay (zi8 (zaa (i := 4)) zj7 (zhy (zaa (i := 9)))) (zbw (za_ (zaa (i := 10)) zad))) (zi8 (zaa (i := 4)) (zhy (zbd zax zay (zaa (i := 9)) zah)) zj7)) sc_l_law_walk.nd)
    (zag (zba (i := 5) (zbf call_tuple_of zg9 T.b_tuple (by decide +kernel) (za_ (zoj (zbd zax zay (zaa (i := 5)) (zbw (za_ (zaa (i := 9)) zad))) (ru64 hr) T.b_sorted).de zad)) sc_l_law_walk.nd)))) zaq))))
    (zag (zam (zbw (za_ (zaa (i := 4)) (za_ (zaa (i := 5)) zad)))))))
theorem sc_l_law_end : FnScope (["_law_row_here", "_law_settled", "_law_steps", "_law_number", "_law_column", "_law_value_here"] : List Str) (["_law_row_here", "_law_settled", "_law_steps"] : List Str) (defScope (top 130)) := ⟨rfl, rfl, rfl, by decide +kernel, rfl, by decide +kernel, by decide +kernel⟩
theorem ok_l_law_end (T : Txt K mg) : Def P w K mg base 1 "_law_end" 3 zi5 := zb1 T.d_l_law_end sc_l_law_end (fun _ _ _ _ _ _ us hl => match us, hl with | [_, _, _], _ => rfl) (fun f cdv A outer s H E hr hG =>
    (zae (zhg (passes_of rfl) rfl (zb3 (zaa (i := 2))) (zet rfl (zan (zaj (i := 3) sc_l_law_end.nd) (zan (zaj (i := 4) sc_l_law_end.nd) (zan (zaj (i := 5) sc_l_law_end.nd) zc2))) (zal (zal (zal zb2)))) (zae (zba (i := 0) (zbd zax zay (zbd zax zay (zi8 (zaa (i := 0)) zj7 (zhy (zaa (i := 4)))) (zbw (za_ (zaa (i := 5)) zad))) (zi8 (zaa (i := 0)) (zhy (zbd zax zay (zaa (i := 4)) zah)) zj7)) sc_l_law_end.nd)
    (zag (zba (i := 1) (zbf call_tuple_of zg9 T.b_tuple (by decide +kernel) (za_ (zoj (zbd zax zay (zaa (i := 1)) (zbw (za_ (zaa (i := 4)) zad))) (ru64 hr) T.b_sorted).de zad)) sc_l_law_end.nd))))
    (zag (zam (zbw (za_ (zaa (i := 0)) (za_ (zaa (i := 1)) zad)))))))
theorem sc_l_law_fixed_right : FnScope (["_law_pen", "_law_case_here", "_law_told", "_law_again", "_law_steps", "_law_paper", "_law_step", "_law_columns_here", "_law_rules", "_law_master", "_law_row_here", "_law_settled", "_law_end_here", "_law_guards"] : List Str) (["_law_pen", "_law_case_here", "_law_told"] : List Str) (defScope (top 131)) := ⟨rfl, rfl, rfl, by decide +kernel, rfl, by decide +kernel, by decide +kernel⟩
theorem zj6 (T : Txt K mg) : Def P w K mg base 12 "_law_fixed_right" 3 zd8 := zb1 T.d_l_law_fixed_right sc_l_law_fixed_right (fun _ _ _ _ _ _ us hl => match us, hl with | [_, _, _], _ => rfl) (fun f cdv A outer s H E hr hG =>
    (zae (zjy (zaa (i := 1)) (zet rfl (zan (zaj (i := 7) sc_l_law_fixed_right.nd) (zan (zaj (i := 8) sc_l_law_fixed_right.nd) (zan (zaj (i := 9) sc_l_law_fixed_right.nd) (zan (zaj (i := 10) sc_l_law_fixed_right.nd) (zan (zaj (i := 11) sc_l_law_fixed_right.nd) zc2))))) (zal (zal (zal (zal (zal zb2)))))))
    (zae (ds_par (i := 12) (j := 13) rfl (zi8 (zaa (i := 2)) (zhy zah) (zhy zah)) (zbg (zaa (i := 2)) zah) sc_l_law_fixed_right.nd)
    (zae (zba (i := 3) (zai (ok_fix T) (hr.mono (by decide)) hG (takes_of rfl rfl rfl rfl) (za_ (zaa (i := 7)) (za_ (zaa (i := 8)) (za_ (zaa (i := 9)) (za_ (zbg (zaa (i := 12)) zah) (za_ (zbg (zaa (i := 12)) zah) zad))))) (hlen := (zab (zab (zab (zab (zab zak))))))) sc_l_law_fixed_right.nd)
    (zae (zbr (zaw (zcx (ru64 hr)) zee (zi8 (zaa (i := 3)) zj7 (zhy zah)) (zi8 (zaa (i := 2)) zj7 (zhy zah))) (zag (zam zep)) zaq)
    (zae (zba (i := 4) (zai (ok_run T) (hr.mono (by decide)) hG (takes_of rfl rfl rfl rfl) (za_ (zaa (i := 7)) (za_ (zaa (i := 8)) (za_ (zaa (i := 9)) (za_ (zaa (i := 10)) (za_ (zaa (i := 11)) zad))))) (hlen := (zab (zab (zab (zab (zab zak))))))) sc_l_law_fixed_right.nd)
    (zae (zbr (zaw (zcx (ru64 hr)) zee (zai (ok_l_law_end T) (hr.mono (by decide)) hG (takes_of rfl rfl rfl rfl) (za_ (zaa (i := 10)) (za_ (zaa (i := 11)) (za_ (zaa (i := 4)) zad))) (hlen := (zab (zab (zab zak))))) (zaa (i := 12))) (zag (zam zep)) zaq)
    (zae (zba (i := 5) (zbw (za_ zh9 (za_ (zaa (i := 7)) (za_ (zaa (i := 8)) (za_ (zaa (i := 9)) (za_ (zaa (i := 10)) (za_ (zaa (i := 11)) (za_ (zaa (i := 4)) (za_ (zaa (i := 13)) zad))))))))) sc_l_law_fixed_right.nd)
    (zae (zbr (zaw (zcx (ru64 hr)) zee (zai (ok_check T) (hr.mono (by decide)) hG (takes_of rfl rfl rfl rfl) (za_ (zaa (i := 5)) zad) (hlen := (zab zak))) (zbw (za_ zh9 zad))) (zag (zam zep)) zaq)
    (zae (zhg (passes_of rfl) rfl (zdo (za_ zah zad) T.b_range) (zaj (i := 6) sc_l_law_fixed_right.nd) (zag (zbr (zaw (zcx (ru64 hr)) zee (zai (zqw T) (hr.mono (by decide)) hG (takes_of rfl rfl rfl rfl) (za_ (zaa (i := 0)) (za_ (zaa (i := 7)) (za_ (zaa (i := 8)) (za_ (zaa (i := 9)) (za_ (zaa (i := 10)) (za_ (zaa (i := 11)) zad)))))) (hlen := (zab (zab (zab (zab (zab (zab zak)))))))) (zaa (i := 12))) (zag (zam zep)) zaq)))
    (zag (zam zep))))))))))))
theorem sc_law : FnScope (["_law_script", "_law_pen", "_law_turn", "_law_case_here", "_law_told", "_law_other", "_law_whole", "_law_columns_here", "_law_rules", "_law_master", "_law_row_here", "_law_settled", "_law_k"] : List Str) (["_law_script"] : List Str) (defScope (top 132)) := ⟨rfl, rfl, rfl, by decide +kernel, rfl, by decide +kernel, by decide +kernel⟩
theorem bd_law (T : Txt K mg) (f : Addr) (cdv : Value) (A : Around) (outer : List Env) (s : Shared) (H : Hp) (E : XK) (hr : RoomH 12 (A.deeper (envOfC "law" (defScope (top 132)) s.heap.objs.size f cdv))) (hG : A.guards = some []) :
    DSs (cxOf (L2.CX P w) P w K mg base (["_law_script", "_law_pen", "_law_turn", "_law_case_here", "_law_told", "_law_other", "_law_whole", "_law_columns_here", "_law_rules", "_law_master", "_law_row_here", "_law_settled", "_law_k"] : List Str) "law" (defScope (top 132)) f cdv A outer s H E) (fun cls d _ H => E cls d H) (defBody (top 132)) s_law :=
    (zae (zba (i := 1) (zai (zqt T) (hr.mono (by decide)) hG (takes_of rfl rfl rfl rfl) (za_ (zaa (i := 0)) zad) (hlen := (zab zak))) sc_law.nd)
    (zae (zhg (passes_of rfl) rfl (zdo (za_ zah zad) T.b_range) (zaj (i := 2) sc_law.nd) (zae (zba (i := 3) (zai (zp0 T) (hr.mono (by decide)) hG (takes_of rfl rfl rfl rfl) (za_ (zai (zp8 T) (hr.mono (by decide)) hG (takes_of rfl rfl rfl rfl) (za_ (zaa (i := 1)) zad) (hlen := (zab zak))) zad) (hlen := (zab zak))) sc_law.nd)
    (zae (zjy (zaa (i := 3)) (zet rfl (zan (zaj (i := 7) sc_law.nd) (zan (zaj (i := 8) sc_law.nd) (zan (zaj (i := 9) sc_law.nd) (zan (zaj (i := 10) sc_law.nd) (zan (zaj (i := 11) sc_law.nd) zc2))))) (zal (zal (zal (zal (zal zb2)))))))
    (zae (zba (i := 4) (zai (ok_fix T) (hr.mono (by decide)) hG (takes_of rfl rfl rfl rfl) (za_ (zaa (i := 7)) (za_ (zaa (i := 8)) (za_ (zaa (i := 9)) (za_ (zaa (i := 10)) (za_ (zaa (i := 11)) zad))))) (hlen := (zab (zab (zab (zab (zab zak))))))) sc_law.nd)
    (zae (zba (i := 5) (zai (ok_fix T) (hr.mono (by decide)) hG (takes_of rfl rfl rfl rfl) (za_ (zaa (i := 7)) (za_ (de_rev (g := (xNeg (xC (.int 1)))) (fun _ _ => rfl) (zaa (i := 8)) (de_neg zah)) (za_ (de_rev (g := (xNeg (xC (.int 1)))) (fun _ _ => rfl) (zaa (i := 9)) (de_neg zah)) (za_ (zaa (i := 10)) (za_ (zaa (i := 11)) zad))))) (hlen := (zab (zab (zab (zab (zab zak))))))) sc_law.nd)
    (zae (zbr (zaw (zcx (ru64 hr)) zee (zbg (zaa (i := 4)) zah) (zbg (zaa (i := 5)) zah)) (zag (zam zep)) zaq)
    (zae (zba (i := 6) (zbf call_tuple_of zg9 T.b_tuple (by decide +kernel) (za_ (zfn (own := [("_law_k", 12)]) rfl sc_law.nd (zdo (za_ (zar call_len zc_ T.b_len (by decide +kernel) (za_ (zaa (i := 7)) zad)) zad) T.b_range) (blkOk_by (N := ["_law_script", "_law_pen", "_law_turn", "_law_case_here", "_law_told", "_law_other", "_law_whole", "_law_columns_here", "_law_rules", "_law_master", "_law_row_here", "_law_settled", "_law_k"]) (sc := defScope (top 132)) (by decide +kernel)) (fun _ _ _ _ _ => (zaj (i := 12) sc_law.nd)) (fun _ _ _ _ _ => zbx) (fun _ _ _ _ _ => (zaa (i := 12)))).de zad)) sc_law.nd)
    (zae (zbr (zaw (zcx (ru64 hr)) zee (zai (ok_fix T) (hr.mono (by decide)) hG (takes_of rfl rfl rfl rfl) (za_ (zaa (i := 7)) (za_ (zaa (i := 8)) (za_ (zaa (i := 9)) (za_ (zaa (i := 10)) (za_ (zaa (i := 6)) zad))))) (hlen := (zab (zab (zab (zab (zab zak))))))) (zbw (za_ zh9 (za_ (zaa (i := 10)) (za_ (zaa (i := 6)) (za_ (zbw zad) zad)))))) (zag (zam zep)) zaq)
    (zag (zbr (zaw (zd7 (ru64 hr)) zfl (zbg (zaa (i := 4)) zah) zh9) (zag (zbr (zhn (zaw (zcx (ru64 hr)) zee (zi8 (zaa (i := 5)) zj7 (zhy zah)) (zi8 (zaa (i := 4)) zj7 (zhy zah))) (zfs (zbs (zcy (zai (zj6 T) (hr.mono (by decide)) hG (takes_of rfl rfl rfl rfl) (za_ (zaa (i := 1)) (za_ (zaa (i := 3)) (za_ (zaa (i := 4)) zad))) (hlen := (zab (zab (zab zak))))))))).dt (zag (zam zep)) zaq)) (zag (zbr (zaw (zcx (ru64 hr)) zee (zai (ok_check T) (hr.mono (by decide)) hG (takes_of rfl rfl rfl rfl) (za_ (zbd zax zay (zbd zax zay (zbw (za_ zh9 zad)) (zaa (i := 3))) (zi8 (zaa (i := 4)) (zhy zah) zj7)) zad) (hlen := (zab zak))) (zbw (za_ zh9 zad))) (zag (zam zep)) zaq))))))))))))
    (zag (zam zep))))
end T45
namespace DL
open PySem PySem.Spec PyProof.Rows L2
/-! a hook that looks at given addresses alone -/
/-! ## what the head looks at -/
def tabB (K : PySem.W.Frag) (x : Str) : Bool := match K.lookup (He.ga K x) with
  | some ⟨_, _, .func fd, _⟩ => (match (fd.code : Value) with
    | .ref c => (match K.lookup c with
      | some ⟨.type T, _, .fields vs, _⟩ => (match (vs[11]? : Option Value), (vs.getD 11 Value.none : Value), (vs.getD 18 Value.none : Value), (vs.getD 7 Value.none : Value), (vs.getD 9 Value.none : Value), (vs.getD 10 Value.none : Value) with
        | some (.ref P), .ref P', .str _ _, .int _ _, .bool _, .int _ _ => decide (T = "code") && decide (P = P') && decide (c ≠ P) && decide (P ≠ mainGlobals) && (match PySem.W.nsIn K mainGlobals "__builtins__" with
          | some (some (.ref bm)) => decide (bm ≠ builtinsNs) && decide (bm ≠ mainGlobals) && decide (bm ≠ P) && (match K.lookup bm with
            | some ⟨.type M, some d, .plain, _⟩ => decide (M = "module") && decide (d = builtinsNs)
            | _ => false)
          | _ => false)
        | _, _, _, _, _, _ => false)
      | _ => false)
    | _ => false)
  | _ => false
theorem tab_ok {K : PySem.W.Frag} {x : Str} (h : tabB K x = true) : ∃ (c P : Addr) (oc : Value) (od : Option Addr) (fd : FuncData) (osl : Array (Option Value)) (oc2 : Option Addr) (sl2 : Array (Option Value)) (vs : Array Value) (file : Str) (tf : Tok) (flags : Int) (tg : Tok) (inF : Bool) (text : Int) (tt : Tok) (bm : Addr) (sl3 : Array (Option Value)),
    K.lookup (He.ga K x) = some ⟨oc, od, .func fd, osl⟩ ∧ fd.code = .ref c ∧ K.lookup c = some ⟨.type "code", oc2, .fields vs, sl2⟩ ∧ vs[11]? = some (.ref P) ∧ vs.getD 11 .none = .ref P ∧ vs.getD 18 .none = .str file tf ∧ vs.getD 7 .none = .int flags tg ∧ vs.getD 9 .none = .bool inF ∧ vs.getD 10 .none = .int text tt ∧ c ≠ P ∧ P ≠ mainGlobals ∧
    PySem.W.nsIn K mainGlobals "__builtins__" = some (some (.ref bm)) ∧ bm ≠ builtinsNs ∧ bm ≠ mainGlobals ∧ bm ≠ P ∧ K.lookup bm = some ⟨.type "module", some builtinsNs, .plain, sl3⟩ := by
  unfold tabB at h
  split at h
  · rename_i oc od fd osl h1
    split at h
    · rename_i c h2
      split at h
      · rename_i T oc2 vs sl2 h3
        split at h
        · rename_i P P' file tf flags tg inF text tt h4 h5 h6 h7 h8 h9
          simp only [Bool.and_eq_true, decide_eq_true_eq] at h
          obtain ⟨⟨⟨⟨hT, hP⟩, n1⟩, n2⟩, h⟩ := h
          subst hT
          subst hP
          split at h
          · rename_i bm k1
            simp only [Bool.and_eq_true, decide_eq_true_eq] at h
            obtain ⟨⟨⟨m1, m2⟩, m3⟩, h⟩ := h
            split at h
            · rename_i M d sl3 k5
              simp only [Bool.and_eq_true, decide_eq_true_eq] at h
              obtain ⟨e1, e2⟩ := h
              subst e1
              subst e2
              exact ⟨c, P, oc, od, fd, osl, oc2, sl2, vs, file, tf, flags, tg, inF, text, tt, bm, sl3, h1, h2, h3, h4, h5, h6, h7, h8, h9, n1, n2, k1, m1, m2, m3, k5⟩
            · cases h
          · cases h
        · cases h
      · cases h
    · cases h
  · cases h
theorem tabs_of {K : PySem.W.Frag} {x : Str} {c P : Addr} {oc : Value} {od : Option Addr} {fd : FuncData} {osl : Array (Option Value)} {cl : Value} {oc2 : Option Addr} {sl2 : Array (Option Value)} {vs : Array Value} (h1 : K.lookup (He.ga K x) = some ⟨oc, od, .func fd, osl⟩) (h2 : fd.code = .ref c) (h3 : K.lookup c = some ⟨cl, oc2, .fields vs, sl2⟩) (h4 : vs[11]? = some (.ref P)) : tabOf K x = [P] := by
  unfold tabOf
  have h5 : vs.toList[11]? = some (.ref P) := by rw [← h4]; simp
  simp only [h1, h2, h3, h5]
def zn_ (K : PySem.W.Frag) : PySem.W.Frag := K.filter fun p => !((zdr K).contains p.1)
theorem zkn (l : List Addr) (a : Addr) : ∀ K : PySem.W.Frag, (K.filter fun p => !(l.contains p.1)).lookup a = if l.contains a then none else K.lookup a
  | [] => by simp
  | (b, o) :: K => by
    have ih := zkn l a K
    by_cases hb : l.contains b = true
    · rw [List.filter_cons_of_neg (by simp only [hb]; decide), ih]
      by_cases e : a = b
      · subst e
        rw [if_pos hb, if_pos hb]
      · have : (a == b) = false := by simpa using e
        rw [List.lookup_cons, this]
    · have hb' : l.contains b = false := by simpa using hb
      rw [List.filter_cons_of_pos (by simp only [hb']; decide), List.lookup_cons, List.lookup_cons, ih]
      by_cases e : a = b
      · subst e
        simp only [if_neg hb]
      · have : (a == b) = false := by simpa using e
        rw [this]
theorem dropT_in {K : PySem.W.Frag} {h : Heap} (X : K.In h) : (zn_ K).In h := fun a o e => by
  unfold zn_ at e
  rw [zkn] at e
  split at e
  · cases e
  · exact X a o e
def zqk : Option Obj → Bool
  | some ⟨.none, none, .fields vs, sl⟩ => decide (vs.size = 0) && decide (sl.size = 0)
  | _ => false
theorem emptyTab_ok {o : Option Obj} (h : zqk o = true) : o = some { cls := .none, data := .fields #[] } := by
  unfold zqk at h
  split at h
  · rename_i vs sl
    simp only [Bool.and_eq_true, decide_eq_true_eq] at h
    obtain ⟨h1, h2⟩ := h
    have e1 : vs = #[] := Array.eq_empty_of_size_eq_zero h1
    have e2 : sl = #[] := Array.eq_empty_of_size_eq_zero h2
    subst e1
    subst e2
    rfl
  · cases h
def tabLB (K : PySem.W.Frag) : Bool := decide (tabsP (zn_ K) = tabsP K) && ((zdr K).all (fun P => zqk (K.lookup P)) && lamNs.all fun x => (decide (tabOf (zn_ K) x = []) || tabB (zn_ K) x))
theorem tabL_ok {K : PySem.W.Frag} {h : Heap} (X : K.In h) (b : tabLB K = true) : TabLook (zn_ K) h := by
  unfold tabLB at b
  simp only [Bool.and_eq_true, Bool.or_eq_true, List.all_eq_true, decide_eq_true_eq] at b
  obtain ⟨b1, b2, b3⟩ := b
  have b4 : zdr (zn_ K) = zdr K := by unfold zdr; rw [b1]
  intro P hP
  have hP2 := hP
  rw [b4] at hP2
  refine ⟨X _ _ (emptyTab_ok (b2 P hP2)), ?_, ?_⟩
  · obtain ⟨p, hp, e⟩ := List.mem_map.mp hP
    obtain ⟨x, hx, hq⟩ := List.mem_flatMap.mp hp
    obtain ⟨P2, hP3, e2⟩ := List.mem_map.mp hq
    have e3 : P2 = P := by rw [← e, ← e2]
    subst e3
    rcases b3 x hx with z | z
    · rw [z] at hP3; cases hP3
    · obtain ⟨c, P', oc, od, fd, osl, oc2, sl2, vs, file, tf, flags, tg, inF, text, tt, bm, sl3, h1, h2, h3, h4, _⟩ := tab_ok z
      rw [tabs_of h1 h2 h3 h4, List.mem_singleton] at hP3
      subst hP3
      exact ⟨c, _, vs, dropT_in X _ _ h3, rfl, rfl, h4⟩
  · unfold zn_
    rw [zkn, if_pos (List.contains_iff_mem.mpr hP2)]
def obsT (fa : List He.Fa) (fn : List He.DefD) (ex : PySem.W.Frag → Bool) (as : List Addr) (g : Addr → Option Obj) : He.AlD × Bool := (He.obsD fa fn (zn_ (He.frG g as)), ex (zn_ (He.frG g as)) && tabLB (He.frG g as))
def hookT (fa : List He.Fa) (fn : List He.DefD) (ex : PySem.W.Frag → Bool) (as : List Addr) : PySem.W.Hook where
  α := He.AlD × Bool
  obs := fun s => obsT fa fn ex as s.heap.get?
  val := fun _ => (He.valD fn, true)
  says := fun _ h => ∃ K : PySem.W.Frag, K.In h ∧ He.SaysD fa fn K ∧ ex K = true ∧ TabLook K h
  of := fun _ s e => by
    have e1 : He.obsD fa fn (zn_ (He.frG s.heap.get? as)) = He.valD fn := congrArg (fun z : He.AlD × Bool => z.1) e
    have e2 : (ex (zn_ (He.frG s.heap.get? as)) && tabLB (He.frG s.heap.get? as)) = true := congrArg (fun z : He.AlD × Bool => z.2) e
    rw [Bool.and_eq_true] at e2
    exact ⟨_, dropT_in He.frG_in, e1, e2.1, tabL_ok He.frG_in e2.2⟩
  keeps := fun _ _ _ ⟨K, hK, c, x, t⟩ k => ⟨K, PySem.W.Frag.In.keeps hK k, c, x, fun P hP => by
    obtain ⟨t1, ⟨c0, o, vs, t2, t3, t4, t5⟩, t6⟩ := t P hP
    exact ⟨k _ _ t1, ⟨c0, o, vs, k _ _ t2, t3, t4, t5⟩, t6⟩⟩
theorem obsT_eq {fa : List He.Fa} {fn : List He.DefD} {ex : PySem.W.Frag → Bool} {as : List Addr} {g : Addr → Option Obj} {s : Shared} (h : ∀ a, g a = s.heap.get? a) : obsT fa fn ex as g = (hookT fa fn ex as).obs s := by
  have e : g = s.heap.get? := funext h
  rw [e] <;> rfl
def kit1 (K : PySem.W.Frag) (tv : Value) (t : List (Str × Bool)) : Bool := t.all fun q => decide (PySem.W.kitOne K (.ref (He.ga K q.1)) tv = some q.2)
def kits1 (K : PySem.W.Frag) (ys : List (Str × List (Str × Bool))) : Bool := ys.all fun y => kit1 K (.ref (He.ga K y.1)) y.2
theorem run2 {σ α β γ : Type} {o : Option σ} {f : σ → α} {g : σ → β} {h : σ → γ} {a : α} {b : β} {c : γ} (A : o.map (fun s => (f s, g s)) = some (a, b)) (B : o.map (fun s => h s) = some c) : o.map (fun s => (f s, g s, h s)) = some (a, b, c) := by
  cases o with
  | none => cases A
  | some s =>
    simp only [Option.map_some, Option.some.injEq, Prod.mk.injEq] at A B ⊢
    exact ⟨A.1, A.2, B⟩
end DL
set_option maxHeartbeats 0
namespace T45
open PySem PySem.Spec PyProof.Rows L2 DL
def mkD (x : Str) (i : Nat) : He.DefD := ⟨(x, none), x, x, defArgs (top i), defBody (top i), defScope (top i), [], []⟩
def mkM (x : Str) (j : Nat) : He.DefD := ⟨("Case", some x), x, "Case." ++ x, defArgs (mth (top 62) j), defBody (mth (top 62) j), defScope (mth (top 62) j), [], []⟩
def fn : List He.DefD := ([mkD "is_integer" 10, mkD "is_between" 11, mkD "is_value" 15, mkD "is_column" 16, mkD "is_value_of" 17, mkD "is_columns" 18, mkD "is_row_of" 19, mkD "is_table_of" 20, mkD "require_columns" 21, mkD "require_row" 22, mkD "require_table" 23, mkD "is_entry" 26, mkD "is_given" 27, mkD "is_rule_of" 28, mkD "are_rules" 29, mkD "does_match" 30, mkD "are_equal" 31, mkD "require_rules" 32, mkD "is_settled" 34, mkD "require_settled" 35, mkD "find_values" 36, mkD "find_next_steps" 37, mkD "do_step" 38, mkD "do_steps" 39, mkD "find_run" 40, mkD "go_on" 41, mkD "find_parts" 42, mkD "find_guards" 43, mkD "is_guard" 44, mkD "have_guard_form" 45] : List He.DefD) ++ ([mkD "are_guards" 46, mkD "is_run_part" 47, mkD "is_run_of" 48, mkD "do_part" 49, mkD "require_fix" 50, mkD "next_steps" 51, mkD "run" 52, mkD "fix" 53, mkD "check_fix" 110, mkD "check_alike" 112, mkD "check_parts" 113, mkD "find_wrong" 115, mkD "check" 116, mkD "_law_spread" 118, mkD "_law_open" 119, mkD "_law_take" 120, mkD "_law_anew" 121, mkD "_law_one" 122, mkD "_law_columns" 123, mkD "_law_value" 124, mkD "_law_row" 125, mkD "_law_table" 126, mkD "_law_rule" 127, mkD "_law_case" 128, mkD "_law_walk" 129, mkD "_law_end" 130, mkD "_law_fixed_right" 131, mkD "law" 132, mkM "__init__" 0, mkM "copied" 1] : List He.DefD) ++ ([mkM "known" 2, mkM "learn" 3, mkM "join" 4, mkM "are_alike" 5, mkM "is_clash" 6] : List He.DefD)
def fa : List He.Fa := ([.free "all", .free "any", .free "bool", .free "dict", .free "enumerate", .free "int", .free "isinstance", .free "len", .free "list", .free "range", .free "set", .free "sorted", .free "str", .free "tuple", .free "zip", .int "MOST_COLUMNS" 4, .int "MOST_ROWS" 8, .int "MOST_RULES" 8, .glo "InvalidColumns", .exc "InvalidColumns", .glo "InvalidRow", .exc "InvalidRow", .glo "InvalidRules", .exc "InvalidRules", .glo "InvalidSettled", .exc "InvalidSettled", .glo "InvalidTable", .exc "InvalidTable", .glo "NotACertificate", .exc "NotACertificate"] : List He.Fa) ++ ([.glo "is_integer", .glo "is_between", .glo "is_value", .glo "is_column", .glo "is_value_of", .glo "is_columns", .glo "is_row_of", .glo "is_table_of", .glo "require_columns", .glo "require_row", .glo "require_table", .glo "is_entry", .glo "is_given", .glo "is_rule_of", .glo "are_rules", .glo "does_match", .glo "are_equal", .glo "require_rules", .glo "is_settled", .glo "require_settled", .glo "find_values", .glo "find_next_steps", .glo "do_step", .glo "do_steps", .glo "find_run", .glo "go_on", .glo "find_parts", .glo "find_guards", .glo "is_guard", .glo "have_guard_form"] : List He.Fa) ++ ([.glo "are_guards", .glo "is_run_part", .glo "is_run_of", .glo "do_part", .glo "require_fix", .glo "next_steps", .glo "run", .glo "fix", .glo "check_fix", .glo "check_alike", .glo "check_parts", .glo "find_wrong", .glo "check", .glo "_law_spread", .glo "_law_open", .glo "_law_take", .glo "_law_anew", .glo "_law_one", .glo "_law_columns", .glo "_law_value", .glo "_law_row", .glo "_law_table", .glo "_law_rule", .glo "_law_case", .glo "_law_walk", .glo "_law_end", .glo "_law_fixed_right", .glo "law", .glo "Case", .cls "Case"] : List He.Fa) ++ ([.noat "Case" "columns", .noat "Case" "count", .noat "Case" "labels", .noat "Case" "facts", .mkr "Case", .meth "Case" "copied", .meth "Case" "known", .meth "Case" "learn", .meth "Case" "join", .meth "Case" "are_alike", .meth "Case" "is_clash", .glo "MORE_SIZES", .glo "SIZES"] : List He.Fa)
def loose : List Str := (["is_integer", "is_between", "is_value", "is_column", "is_value_of", "is_columns", "is_row_of", "is_table_of", "require_columns", "require_row", "require_table", "is_entry", "is_given", "is_rule_of", "are_rules", "does_match", "are_equal", "require_rules", "is_settled", "require_settled", "find_values", "find_next_steps", "do_step", "do_steps", "find_run", "go_on", "find_parts", "find_guards", "is_guard", "have_guard_form"] : List Str) ++ (["are_guards", "is_run_part", "is_run_of", "do_part", "require_fix", "next_steps", "run", "fix", "find_rule_breaks", "does_hold", "do_hold", "find_breaks", "find_left", "is_count_tree_of", "is_goal", "can_step", "can_join", "stepped", "joined", "learned", "find_next", "find_unknown", "find_closed_cells", "find_leaves", "find_open", "find_rows", "find_named", "is_right_split", "is_right_step", "is_right_join"] : List Str) ++ (["is_right", "find_case", "find_goal", "find_rule_cells", "is_implied", "is_tree_of", "find_row", "is_war_of", "find_next_general", "find_needless", "find_cover_fault", "require_peace", "is_closed_cell", "are_cells", "is_known_row", "is_stand", "is_all_known", "is_stuck_of", "check_row", "check_war", "check_tree", "check_count", "check_stuck", "check_against", "check_fix", "check_run", "check_alike", "check_parts", "find_wrong_rules", "find_wrong"] : List Str) ++ (["check", "_law_spread", "_law_open", "_law_take", "_law_anew", "_law_one", "_law_columns", "_law_value", "_law_row", "_law_table", "_law_rule", "_law_case", "_law_walk", "_law_end", "_law_fixed_right", "RuleError", "InvalidColumns", "InvalidRow", "InvalidTable", "InvalidRules", "InvalidSettled", "NotAtPeace", "NotACertificate", "MOST_COLUMNS", "MOST_ROWS", "MOST_RULES", "Case", "SIZES", "MORE_SIZES"] : List Str)
abbrev R : PySem.W.OpenRow := PySem.W.OpenLaw.row PySem.Challenge.rw_whererules_k45_whole_fixes
def payB (K : PySem.W.Frag) : List Bool := [tabGB K "MORE_SIZES" zbv, tabGB K "SIZES" zfj]
def ys : List (Str × List (Str × Bool)) := []
def xs_ : List Str := []
def ex0 (K : PySem.W.Frag) : Bool := xs_.all (excB K) && (kits1 K ys && (kit1 K (.type "ValueError") [] && casB K))
theorem exo_0 {K : PySem.W.Frag} (h : ex0 K = true) : xs_.all (excB K) = true ∧ kits1 K ys = true ∧ kit1 K (.type "ValueError") [] = true ∧ casB K = true := by
  unfold ex0 at h
  simpa only [Bool.and_eq_true] using h
def ex (K : PySem.W.Frag) : Bool := ex0 K && (payB K).all id
theorem exo_e {K : PySem.W.Frag} (h : ex K = true) : ex0 K = true := (Bool.and_eq_true_iff.mp h).1
theorem zl2 {K : PySem.W.Frag} (h : ex K = true) : tabGB K "MORE_SIZES" zbv = true := List.all_eq_true.mp (Bool.and_eq_true_iff.mp h).2 _ (List.mem_of_getElem? (show (payB K)[0]? = some _ from rfl))
theorem exo_tb_SIZES {K : PySem.W.Frag} (h : ex K = true) : tabGB K "SIZES" zfj = true := List.all_eq_true.mp (Bool.and_eq_true_iff.mp h).2 _ (List.mem_of_getElem? (show (payB K)[1]? = some _ from rfl))
theorem exo_c {K : PySem.W.Frag} (h : ex K = true) : casB K = true := (exo_0 (exo_e h)).2.2.2
def as_ : List Addr := ([3, 6, 4, 24, 37, 49, 61, 73, 85, 97, 109, 118, 125, 132, 137, 144, 149, 154, 159, 166, 173, 180, 187, 192, 197, 202, 207, 212, 219, 224] : List Addr) ++ ([231, 236, 241, 248, 255, 260, 267, 272, 279, 284, 289, 294, 299, 306, 311, 318, 325, 332, 339, 344, 351, 356, 361, 366, 371, 424, 435, 440, 447, 454] : List Addr) ++ ([461, 468, 475, 482, 487, 494, 501, 506, 511, 516, 523, 530, 537, 544, 551, 558, 565, 572, 579, 586, 591, 596, 601, 608, 613, 618, 623, 628, 633, 638] : List Addr) ++ ([639, 640, 647, 654, 661, 668, 675, 682, 689, 696, 703, 708, 715, 722, 729, 736, 743, 750, 757, 764, 769, 776, 781, 788, 795, 800, 807, 814, 821, 826] : List Addr) ++ ([0, 23, 36, 48, 60, 72, 84, 96, 108, 117, 124, 131, 136, 143, 148, 153, 158, 165, 172, 179, 186, 191, 196, 201, 206, 211, 218, 223, 230, 235] : List Addr) ++ ([240, 247, 254, 259, 266, 271, 278, 283, 288, 293, 298, 305, 310, 317, 324, 331, 338, 343, 350, 355, 360, 365, 370, 423, 434, 439, 446, 453, 460, 467] : List Addr) ++ ([474, 481, 486, 493, 500, 505, 510, 515, 522, 529, 536, 543, 550, 557, 564, 571, 578, 585, 590, 595, 600, 607, 612, 617, 622, 627, 632, 637, 646, 653] : List Addr) ++ ([660, 667, 674, 681, 688, 695, 702, 707, 714, 721, 728, 735, 742, 749, 756, 763, 768, 775, 780, 787, 794, 799, 806, 813, 820, 825, 22, 25, 35, 47] : List Addr) ++ ([59, 71, 83, 95, 107, 112, 113, 114, 115, 116, 119, 120, 121, 122, 123, 126, 127, 128, 129, 130, 133, 134, 135, 138, 139, 140, 141, 142, 145, 146] : List Addr) ++ ([147, 150, 151, 152, 155, 156, 157, 160, 161, 162, 163, 164, 167, 168, 169, 170, 171, 174, 175, 176, 177, 178, 181, 182, 183, 184, 185, 188, 189, 190] : List Addr) ++ ([193, 194, 195, 198, 199, 200, 203, 204, 205, 208, 209, 210, 213, 214, 215, 216, 217, 220, 221, 222, 225, 226, 227, 228, 229, 232, 233, 234, 237, 238] : List Addr) ++ ([239, 242, 243, 244, 245, 246, 249, 250, 251, 252, 253, 256, 257, 258, 261, 262, 263, 264, 265, 268, 269, 270, 273, 274, 275, 276, 277, 280, 281, 282] : List Addr) ++ ([285, 286, 287, 290, 291, 292, 295, 296, 297, 300, 301, 302, 303, 304, 307, 308, 309, 312, 313, 314, 315, 316, 319, 320, 321, 322, 323, 326, 327, 328] : List Addr) ++ ([329, 330, 333, 334, 335, 336, 337, 340, 341, 342, 345, 346, 347, 348, 349, 352, 353, 354, 357, 358, 359, 362, 363, 364, 367, 368, 369, 385, 390, 397] : List Addr) ++ ([404, 411, 416, 421, 422, 425, 426, 429, 430, 431, 432, 433, 436, 437, 438, 441, 442, 443, 444, 445, 448, 449, 450, 451, 452, 455, 456, 457, 458, 459] : List Addr) ++ ([462, 463, 464, 465, 466, 469, 470, 471, 472, 473, 476, 477, 478, 479, 480, 483, 484, 485, 488, 489, 490, 491, 492, 495, 496, 497, 498, 499, 502, 503] : List Addr) ++ ([504, 507, 508, 509, 512, 513, 514, 517, 518, 519, 520, 521, 524, 525, 526, 527, 528, 531, 532, 533, 534, 535, 538, 539, 540, 541, 542, 545, 546, 547] : List Addr) ++ ([548, 549, 552, 553, 554, 555, 556, 559, 560, 561, 562, 563, 566, 567, 568, 569, 570, 573, 574, 575, 576, 577, 580, 581, 582, 583, 584, 587, 588, 589] : List Addr) ++ ([592, 593, 594, 597, 598, 599, 602, 603, 604, 605, 606, 609, 610, 611, 614, 615, 616, 619, 620, 621, 624, 625, 626, 629, 630, 631, 634, 635, 636, 641] : List Addr) ++ ([642, 643, 644, 645, 648, 649, 650, 651, 652, 655, 656, 657, 658, 659, 662, 663, 664, 665, 666, 669, 670, 671, 672, 673, 676, 677, 678, 679, 680, 683] : List Addr) ++ ([684, 685, 686, 687, 690, 691, 692, 693, 694, 697, 698, 699, 700, 701, 704, 705, 706, 709, 710, 711, 712, 713, 716, 717, 718, 719, 720, 723, 724, 725] : List Addr) ++ ([726, 727, 730, 731, 732, 733, 734, 737, 738, 739, 740, 741, 744, 745, 746, 747, 748, 751, 752, 753, 754, 755, 758, 759, 760, 761, 762, 765, 766, 767] : List Addr) ++ ([770, 771, 772, 773, 774, 777, 778, 779, 782, 783, 784, 785, 786, 789, 790, 791, 792, 793, 796, 797, 798, 801, 802, 803, 804, 805, 808, 809, 810, 811] : List Addr) ++ ([812, 815, 816, 817, 818, 819, 822, 823, 824, 384, 389, 396, 403, 410, 415, 420, 379, 380, 381, 382, 383, 386, 387, 388, 391, 392, 393, 394, 395, 398] : List Addr) ++ ([399, 400, 401, 402, 405, 406, 407, 408, 409, 412, 413, 414, 417, 418, 419] : List Addr)
abbrev hk : PySem.W.Hook := DL.hookT fa fn ex as_
def ob (s : PySem.W.SharedT) : He.AlD × Bool := DL.obsT fa fn ex as_ (HandSHeadRun.getT s)
theorem ob_eq (s : PySem.W.SharedT) : ob s = hk.obs s.abs := DL.obsT_eq (HandSHeadRun.getT_eq s)
open PySem PySem.W PySem.Calls PyProof.Rows in
theorem runA_t (w : World) (os : OsState) : (HandSHeadRun.endF (HandSHeadRun.stepQ (HandSHeadRun.denQ HandSHeadRun.tabQ) R.prog (w.withFollow "special-get-raises" true)) 20000 R.prog (w.withFollow "special-get-raises" true) os).map (fun s => (HandSHeadRun.looksF R.prog (boot_heap (w.withFollow "special-get-raises" true).params) s.abs, HandSHeadRun.seenQ (PySem.W.view R.prog [132]) loose (importedModules R.prog.main.body) (fun s => xlAt (PySem.W.view R.prog [132]) [] s && recOk R.toRowW.records s) s.abs)) = some (true, openGood (PySem.W.view R.prog [132]) loose) := by
  kernel_rfl
open PySem PySem.W PySem.Calls PyProof.Rows in
theorem runA_f (w : World) (os : OsState) : (HandSHeadRun.endF (HandSHeadRun.stepQ (HandSHeadRun.denQ HandSHeadRun.tabQ) R.prog (w.withFollow "special-get-raises" false)) 20000 R.prog (w.withFollow "special-get-raises" false) os).map (fun s => (HandSHeadRun.looksF R.prog (boot_heap (w.withFollow "special-get-raises" false).params) s.abs, HandSHeadRun.seenQ (PySem.W.view R.prog [132]) loose (importedModules R.prog.main.body) (fun s => xlAt (PySem.W.view R.prog [132]) [] s && recOk R.toRowW.records s) s.abs)) = some (true, openGood (PySem.W.view R.prog [132]) loose) := by
  kernel_rfl
open PySem PySem.W PySem.Calls PyProof.Rows in
theorem runA (w : World) (os : OsState) : (HandSHeadRun.endF (HandSHeadRun.stepQ (HandSHeadRun.denQ HandSHeadRun.tabQ) R.prog w) 20000 R.prog w os).map (fun s => (HandSHeadRun.looksF R.prog (boot_heap w.params) s.abs, HandSHeadRun.seenQ (PySem.W.view R.prog [132]) loose (importedModules R.prog.main.body) (fun s => xlAt (PySem.W.view R.prog [132]) [] s && recOk R.toRowW.records s) s.abs)) = some (true, openGood (PySem.W.view R.prog [132]) loose) := by
  have h : ∀ b : Bool, (HandSHeadRun.endF (HandSHeadRun.stepQ (HandSHeadRun.denQ HandSHeadRun.tabQ) R.prog (w.withFollow "special-get-raises" b)) 20000 R.prog (w.withFollow "special-get-raises" b) os).map (fun s => (HandSHeadRun.looksF R.prog (boot_heap (w.withFollow "special-get-raises" b).params) s.abs, HandSHeadRun.seenQ (PySem.W.view R.prog [132]) loose (importedModules R.prog.main.body) (fun s => xlAt (PySem.W.view R.prog [132]) [] s && recOk R.toRowW.records s) s.abs)) = some (true, openGood (PySem.W.view R.prog [132]) loose) := fun b => by
    cases b
    · exact runA_f w os
    · exact runA_t w os
  have h := h (w.params.followText "special-get-raises")
  rwa [World.withFollow_self] at h
open PySem PySem.W PySem.Calls PyProof.Rows in
theorem runB_t (w : World) (os : OsState) : (HandSHeadRun.endF (HandSHeadRun.stepQ (HandSHeadRun.denQ HandSHeadRun.tabQ) R.prog (w.withFollow "special-get-raises" true)) 20000 R.prog (w.withFollow "special-get-raises" true) os).map (fun s => ob s) = some (hk.val w) := by
  kernel_rfl
open PySem PySem.W PySem.Calls PyProof.Rows in
theorem runB_f (w : World) (os : OsState) : (HandSHeadRun.endF (HandSHeadRun.stepQ (HandSHeadRun.denQ HandSHeadRun.tabQ) R.prog (w.withFollow "special-get-raises" false)) 20000 R.prog (w.withFollow "special-get-raises" false) os).map (fun s => ob s) = some (hk.val w) := by
  kernel_rfl
open PySem PySem.W PySem.Calls PyProof.Rows in
theorem runB (w : World) (os : OsState) : (HandSHeadRun.endF (HandSHeadRun.stepQ (HandSHeadRun.denQ HandSHeadRun.tabQ) R.prog w) 20000 R.prog w os).map (fun s => ob s) = some (hk.val w) := by
  have h : ∀ b : Bool, (HandSHeadRun.endF (HandSHeadRun.stepQ (HandSHeadRun.denQ HandSHeadRun.tabQ) R.prog (w.withFollow "special-get-raises" b)) 20000 R.prog (w.withFollow "special-get-raises" b) os).map (fun s => ob s) = some (hk.val w) := fun b => by
    cases b
    · exact runB_f w os
    · exact runB_t w os
  have h := h (w.params.followText "special-get-raises")
  rwa [World.withFollow_self] at h
theorem run (w : World) : HandSHeadRun.RunEq R (PySem.W.view R.prog [132]) hk ob 20000 loose w := fun os => DL.run2 (runA w os) (runB w os)
theorem txt_of {K : PySem.W.Frag} {h : Heap} {mg : Str → Option Value} (X : K.In h) (G : h.Ns mainGlobals mg) (c : He.SaysD fa fn K) (xo : ex K = true) : Txt K mg where
  b_all := He.free_ok X G (c.fact 0 (f := .free "all") rfl)
  b_any := He.free_ok X G (c.fact 1 (f := .free "any") rfl)
  b_bool := He.free_ok X G (c.fact 2 (f := .free "bool") rfl)
  b_dict := He.free_ok X G (c.fact 3 (f := .free "dict") rfl)
  b_enumerate := He.free_ok X G (c.fact 4 (f := .free "enumerate") rfl)
  b_int := He.free_ok X G (c.fact 5 (f := .free "int") rfl)
  b_isinstance := He.free_ok X G (c.fact 6 (f := .free "isinstance") rfl)
  b_len := He.free_ok X G (c.fact 7 (f := .free "len") rfl)
  b_list := He.free_ok X G (c.fact 8 (f := .free "list") rfl)
  b_range := He.free_ok X G (c.fact 9 (f := .free "range") rfl)
  b_set := He.free_ok X G (c.fact 10 (f := .free "set") rfl)
  b_sorted := He.free_ok X G (c.fact 11 (f := .free "sorted") rfl)
  b_str := He.free_ok X G (c.fact 12 (f := .free "str") rfl)
  b_tuple := He.free_ok X G (c.fact 13 (f := .free "tuple") rfl)
  b_zip := He.free_ok X G (c.fact 14 (f := .free "zip") rfl)
  i_MOST_COLUMNS := He.int_ok X G (c.fact 15 (f := .int "MOST_COLUMNS" 4) rfl)
  i_MOST_ROWS := He.int_ok X G (c.fact 16 (f := .int "MOST_ROWS" 8) rfl)
  i_MOST_RULES := He.int_ok X G (c.fact 17 (f := .int "MOST_RULES" 8) rfl)
  e_InvalidColumns := zm_ X G (c.fact 18 (f := .glo "InvalidColumns") rfl) (c.fact 19 (f := .exc "InvalidColumns") rfl)
  e_InvalidRow := zm_ X G (c.fact 20 (f := .glo "InvalidRow") rfl) (c.fact 21 (f := .exc "InvalidRow") rfl)
  e_InvalidRules := zm_ X G (c.fact 22 (f := .glo "InvalidRules") rfl) (c.fact 23 (f := .exc "InvalidRules") rfl)
  e_InvalidSettled := zm_ X G (c.fact 24 (f := .glo "InvalidSettled") rfl) (c.fact 25 (f := .exc "InvalidSettled") rfl)
  e_InvalidTable := zm_ X G (c.fact 26 (f := .glo "InvalidTable") rfl) (c.fact 27 (f := .exc "InvalidTable") rfl)
  e_NotACertificate := zm_ X G (c.fact 28 (f := .glo "NotACertificate") rfl) (c.fact 29 (f := .exc "NotACertificate") rfl)
  d_is_integer := let ⟨fd, F⟩ := c.def_ 0 (d := mkD "is_integer" 10) rfl; ⟨_, fd, F, He.glo_ok X G (c.fact 30 (f := .glo "is_integer") rfl)⟩
  d_is_between := let ⟨fd, F⟩ := c.def_ 1 (d := mkD "is_between" 11) rfl; ⟨_, fd, F, He.glo_ok X G (c.fact 31 (f := .glo "is_between") rfl)⟩
  d_is_value := let ⟨fd, F⟩ := c.def_ 2 (d := mkD "is_value" 15) rfl; ⟨_, fd, F, He.glo_ok X G (c.fact 32 (f := .glo "is_value") rfl)⟩
  d_is_column := let ⟨fd, F⟩ := c.def_ 3 (d := mkD "is_column" 16) rfl; ⟨_, fd, F, He.glo_ok X G (c.fact 33 (f := .glo "is_column") rfl)⟩
  d_is_value_of := let ⟨fd, F⟩ := c.def_ 4 (d := mkD "is_value_of" 17) rfl; ⟨_, fd, F, He.glo_ok X G (c.fact 34 (f := .glo "is_value_of") rfl)⟩
  d_is_columns := let ⟨fd, F⟩ := c.def_ 5 (d := mkD "is_columns" 18) rfl; ⟨_, fd, F, He.glo_ok X G (c.fact 35 (f := .glo "is_columns") rfl)⟩
  d_is_row_of := let ⟨fd, F⟩ := c.def_ 6 (d := mkD "is_row_of" 19) rfl; ⟨_, fd, F, He.glo_ok X G (c.fact 36 (f := .glo "is_row_of") rfl)⟩
  d_is_table_of := let ⟨fd, F⟩ := c.def_ 7 (d := mkD "is_table_of" 20) rfl; ⟨_, fd, F, He.glo_ok X G (c.fact 37 (f := .glo "is_table_of") rfl)⟩
  d_require_columns := let ⟨fd, F⟩ := c.def_ 8 (d := mkD "require_columns" 21) rfl; ⟨_, fd, F, He.glo_ok X G (c.fact 38 (f := .glo "require_columns") rfl)⟩
  d_require_row := let ⟨fd, F⟩ := c.def_ 9 (d := mkD "require_row" 22) rfl; ⟨_, fd, F, He.glo_ok X G (c.fact 39 (f := .glo "require_row") rfl)⟩
  d_require_table := let ⟨fd, F⟩ := c.def_ 10 (d := mkD "require_table" 23) rfl; ⟨_, fd, F, He.glo_ok X G (c.fact 40 (f := .glo "require_table") rfl)⟩
  d_is_entry := let ⟨fd, F⟩ := c.def_ 11 (d := mkD "is_entry" 26) rfl; ⟨_, fd, F, He.glo_ok X G (c.fact 41 (f := .glo "is_entry") rfl)⟩
  d_is_given := let ⟨fd, F⟩ := c.def_ 12 (d := mkD "is_given" 27) rfl; ⟨_, fd, F, He.glo_ok X G (c.fact 42 (f := .glo "is_given") rfl)⟩
  d_is_rule_of := let ⟨fd, F⟩ := c.def_ 13 (d := mkD "is_rule_of" 28) rfl; ⟨_, fd, F, He.glo_ok X G (c.fact 43 (f := .glo "is_rule_of") rfl)⟩
  d_are_rules := let ⟨fd, F⟩ := c.def_ 14 (d := mkD "are_rules" 29) rfl; ⟨_, fd, F, He.glo_ok X G (c.fact 44 (f := .glo "are_rules") rfl)⟩
  d_does_match := let ⟨fd, F⟩ := c.def_ 15 (d := mkD "does_match" 30) rfl; ⟨_, fd, F, He.glo_ok X G (c.fact 45 (f := .glo "does_match") rfl)⟩
  d_are_equal := let ⟨fd, F⟩ := c.def_ 16 (d := mkD "are_equal" 31) rfl; ⟨_, fd, F, He.glo_ok X G (c.fact 46 (f := .glo "are_equal") rfl)⟩
  d_require_rules := let ⟨fd, F⟩ := c.def_ 17 (d := mkD "require_rules" 32) rfl; ⟨_, fd, F, He.glo_ok X G (c.fact 47 (f := .glo "require_rules") rfl)⟩
  d_is_settled := let ⟨fd, F⟩ := c.def_ 18 (d := mkD "is_settled" 34) rfl; ⟨_, fd, F, He.glo_ok X G (c.fact 48 (f := .glo "is_settled") rfl)⟩
  d_require_settled := let ⟨fd, F⟩ := c.def_ 19 (d := mkD "require_settled" 35) rfl; ⟨_, fd, F, He.glo_ok X G (c.fact 49 (f := .glo "require_settled") rfl)⟩
  d_find_values := let ⟨fd, F⟩ := c.def_ 20 (d := mkD "find_values" 36) rfl; ⟨_, fd, F, He.glo_ok X G (c.fact 50 (f := .glo "find_values") rfl)⟩
  d_find_next_steps := let ⟨fd, F⟩ := c.def_ 21 (d := mkD "find_next_steps" 37) rfl; ⟨_, fd, F, He.glo_ok X G (c.fact 51 (f := .glo "find_next_steps") rfl)⟩
  d_do_step := let ⟨fd, F⟩ := c.def_ 22 (d := mkD "do_step" 38) rfl; ⟨_, fd, F, He.glo_ok X G (c.fact 52 (f := .glo "do_step") rfl)⟩
  d_do_steps := let ⟨fd, F⟩ := c.def_ 23 (d := mkD "do_steps" 39) rfl; ⟨_, fd, F, He.glo_ok X G (c.fact 53 (f := .glo "do_steps") rfl)⟩
  d_find_run := let ⟨fd, F⟩ := c.def_ 24 (d := mkD "find_run" 40) rfl; ⟨_, fd, F, He.glo_ok X G (c.fact 54 (f := .glo "find_run") rfl)⟩
  d_go_on := let ⟨fd, F⟩ := c.def_ 25 (d := mkD "go_on" 41) rfl; ⟨_, fd, F, He.glo_ok X G (c.fact 55 (f := .glo "go_on") rfl)⟩
  d_find_parts := let ⟨fd, F⟩ := c.def_ 26 (d := mkD "find_parts" 42) rfl; ⟨_, fd, F, He.glo_ok X G (c.fact 56 (f := .glo "find_parts") rfl)⟩
  d_find_guards := let ⟨fd, F⟩ := c.def_ 27 (d := mkD "find_guards" 43) rfl; ⟨_, fd, F, He.glo_ok X G (c.fact 57 (f := .glo "find_guards") rfl)⟩
  d_is_guard := let ⟨fd, F⟩ := c.def_ 28 (d := mkD "is_guard" 44) rfl; ⟨_, fd, F, He.glo_ok X G (c.fact 58 (f := .glo "is_guard") rfl)⟩
  d_have_guard_form := let ⟨fd, F⟩ := c.def_ 29 (d := mkD "have_guard_form" 45) rfl; ⟨_, fd, F, He.glo_ok X G (c.fact 59 (f := .glo "have_guard_form") rfl)⟩
  d_are_guards := let ⟨fd, F⟩ := c.def_ 30 (d := mkD "are_guards" 46) rfl; ⟨_, fd, F, He.glo_ok X G (c.fact 60 (f := .glo "are_guards") rfl)⟩
  d_is_run_part := let ⟨fd, F⟩ := c.def_ 31 (d := mkD "is_run_part" 47) rfl; ⟨_, fd, F, He.glo_ok X G (c.fact 61 (f := .glo "is_run_part") rfl)⟩
  d_is_run_of := let ⟨fd, F⟩ := c.def_ 32 (d := mkD "is_run_of" 48) rfl; ⟨_, fd, F, He.glo_ok X G (c.fact 62 (f := .glo "is_run_of") rfl)⟩
  d_do_part := let ⟨fd, F⟩ := c.def_ 33 (d := mkD "do_part" 49) rfl; ⟨_, fd, F, He.glo_ok X G (c.fact 63 (f := .glo "do_part") rfl)⟩
  d_require_fix := let ⟨fd, F⟩ := c.def_ 34 (d := mkD "require_fix" 50) rfl; ⟨_, fd, F, He.glo_ok X G (c.fact 64 (f := .glo "require_fix") rfl)⟩
  d_next_steps := let ⟨fd, F⟩ := c.def_ 35 (d := mkD "next_steps" 51) rfl; ⟨_, fd, F, He.glo_ok X G (c.fact 65 (f := .glo "next_steps") rfl)⟩
  d_run := let ⟨fd, F⟩ := c.def_ 36 (d := mkD "run" 52) rfl; ⟨_, fd, F, He.glo_ok X G (c.fact 66 (f := .glo "run") rfl)⟩
  d_fix := let ⟨fd, F⟩ := c.def_ 37 (d := mkD "fix" 53) rfl; ⟨_, fd, F, He.glo_ok X G (c.fact 67 (f := .glo "fix") rfl)⟩
  d_check_fix := let ⟨fd, F⟩ := c.def_ 38 (d := mkD "check_fix" 110) rfl; ⟨_, fd, F, He.glo_ok X G (c.fact 68 (f := .glo "check_fix") rfl)⟩
  d_check_alike := let ⟨fd, F⟩ := c.def_ 39 (d := mkD "check_alike" 112) rfl; ⟨_, fd, F, He.glo_ok X G (c.fact 69 (f := .glo "check_alike") rfl)⟩
  d_check_parts := let ⟨fd, F⟩ := c.def_ 40 (d := mkD "check_parts" 113) rfl; ⟨_, fd, F, He.glo_ok X G (c.fact 70 (f := .glo "check_parts") rfl)⟩
  d_find_wrong := let ⟨fd, F⟩ := c.def_ 41 (d := mkD "find_wrong" 115) rfl; ⟨_, fd, F, He.glo_ok X G (c.fact 71 (f := .glo "find_wrong") rfl)⟩
  d_check := let ⟨fd, F⟩ := c.def_ 42 (d := mkD "check" 116) rfl; ⟨_, fd, F, He.glo_ok X G (c.fact 72 (f := .glo "check") rfl)⟩
  d_l_law_spread := let ⟨fd, F⟩ := c.def_ 43 (d := mkD "_law_spread" 118) rfl; ⟨_, fd, F, He.glo_ok X G (c.fact 73 (f := .glo "_law_spread") rfl)⟩
  d_l_law_open := let ⟨fd, F⟩ := c.def_ 44 (d := mkD "_law_open" 119) rfl; ⟨_, fd, F, He.glo_ok X G (c.fact 74 (f := .glo "_law_open") rfl)⟩
  d_l_law_take := let ⟨fd, F⟩ := c.def_ 45 (d := mkD "_law_take" 120) rfl; ⟨_, fd, F, He.glo_ok X G (c.fact 75 (f := .glo "_law_take") rfl)⟩
  d_l_law_anew := let ⟨fd, F⟩ := c.def_ 46 (d := mkD "_law_anew" 121) rfl; ⟨_, fd, F, He.glo_ok X G (c.fact 76 (f := .glo "_law_anew") rfl)⟩
  d_l_law_one := let ⟨fd, F⟩ := c.def_ 47 (d := mkD "_law_one" 122) rfl; ⟨_, fd, F, He.glo_ok X G (c.fact 77 (f := .glo "_law_one") rfl)⟩
  d_l_law_columns := let ⟨fd, F⟩ := c.def_ 48 (d := mkD "_law_columns" 123) rfl; ⟨_, fd, F, He.glo_ok X G (c.fact 78 (f := .glo "_law_columns") rfl)⟩
  d_l_law_value := let ⟨fd, F⟩ := c.def_ 49 (d := mkD "_law_value" 124) rfl; ⟨_, fd, F, He.glo_ok X G (c.fact 79 (f := .glo "_law_value") rfl)⟩
  d_l_law_row := let ⟨fd, F⟩ := c.def_ 50 (d := mkD "_law_row" 125) rfl; ⟨_, fd, F, He.glo_ok X G (c.fact 80 (f := .glo "_law_row") rfl)⟩
  d_l_law_table := let ⟨fd, F⟩ := c.def_ 51 (d := mkD "_law_table" 126) rfl; ⟨_, fd, F, He.glo_ok X G (c.fact 81 (f := .glo "_law_table") rfl)⟩
  d_l_law_rule := let ⟨fd, F⟩ := c.def_ 52 (d := mkD "_law_rule" 127) rfl; ⟨_, fd, F, He.glo_ok X G (c.fact 82 (f := .glo "_law_rule") rfl)⟩
  d_l_law_case := let ⟨fd, F⟩ := c.def_ 53 (d := mkD "_law_case" 128) rfl; ⟨_, fd, F, He.glo_ok X G (c.fact 83 (f := .glo "_law_case") rfl)⟩
  d_l_law_walk := let ⟨fd, F⟩ := c.def_ 54 (d := mkD "_law_walk" 129) rfl; ⟨_, fd, F, He.glo_ok X G (c.fact 84 (f := .glo "_law_walk") rfl)⟩
  d_l_law_end := let ⟨fd, F⟩ := c.def_ 55 (d := mkD "_law_end" 130) rfl; ⟨_, fd, F, He.glo_ok X G (c.fact 85 (f := .glo "_law_end") rfl)⟩
  d_l_law_fixed_right := let ⟨fd, F⟩ := c.def_ 56 (d := mkD "_law_fixed_right" 131) rfl; ⟨_, fd, F, He.glo_ok X G (c.fact 86 (f := .glo "_law_fixed_right") rfl)⟩
  d_law := let ⟨fd, F⟩ := c.def_ 57 (d := mkD "law" 132) rfl; ⟨_, fd, F, He.glo_ok X G (c.fact 87 (f := .glo "law") rfl)⟩
  cg := He.glo_ok X G (c.fact 88 (f := .glo "Case") rfl)
  cas := casK_of (exo_c xo) (He.cls_ok (c.fact 89 (f := .cls "Case") rfl)) (fun f hf => by
    simp only [List.mem_cons, List.not_mem_nil, or_false] at hf
    rcases hf with rfl | rfl | rfl | rfl
    · exact He.noat_ok (c.fact 90 (f := .noat "Case" "columns") rfl)
    · exact He.noat_ok (c.fact 91 (f := .noat "Case" "count") rfl)
    · exact He.noat_ok (c.fact 92 (f := .noat "Case" "labels") rfl)
    · exact He.noat_ok (c.fact 93 (f := .noat "Case" "facts") rfl))
  m_init := let ⟨fd, F⟩ := c.def_ 58 (d := mkM "__init__" 0) rfl; ⟨_, fd, F, He.mkr_ok (c.fact 94 (f := .mkr "Case") rfl)⟩
  m_copied := let ⟨fd, F⟩ := c.def_ 59 (d := mkM "copied" 1) rfl; ⟨_, fd, F, He.meth_ok (c.fact 95 (f := .meth "Case" "copied") rfl)⟩
  m_known := let ⟨fd, F⟩ := c.def_ 60 (d := mkM "known" 2) rfl; ⟨_, fd, F, He.meth_ok (c.fact 96 (f := .meth "Case" "known") rfl)⟩
  m_learn := let ⟨fd, F⟩ := c.def_ 61 (d := mkM "learn" 3) rfl; ⟨_, fd, F, He.meth_ok (c.fact 97 (f := .meth "Case" "learn") rfl)⟩
  m_join := let ⟨fd, F⟩ := c.def_ 62 (d := mkM "join" 4) rfl; ⟨_, fd, F, He.meth_ok (c.fact 98 (f := .meth "Case" "join") rfl)⟩
  m_are_alike := let ⟨fd, F⟩ := c.def_ 63 (d := mkM "are_alike" 5) rfl; ⟨_, fd, F, He.meth_ok (c.fact 99 (f := .meth "Case" "are_alike") rfl)⟩
  m_is_clash := let ⟨fd, F⟩ := c.def_ 64 (d := mkM "is_clash" 6) rfl; ⟨_, fd, F, He.meth_ok (c.fact 100 (f := .meth "Case" "is_clash") rfl)⟩
  tb_MORE_SIZES := ⟨_, He.glo_ok X G (c.fact 101 (f := .glo "MORE_SIZES") rfl), zl2 xo⟩
  tb_SIZES := ⟨_, He.glo_ok X G (c.fact 102 (f := .glo "SIZES") rfl), exo_tb_SIZES xo⟩
end T45
set_option maxHeartbeats 4000000
namespace DL
open PySem PySem.Spec PyProof.Rows L2
/-! # plain laws of the functions -/
def zoz {α : Type} (x : DV) (t e : Res α) : Res α := match x with
  | .dat (.bl b) => bif b then t else e
  | _ => .bad
theorem xAnd_eq (f g : XFn) : xAnd f g = fun ρ S => (f ρ S).bind fun x S1 => zoz x (g ρ S1) (.ok (.dat (.bl false)) S1) := by
  funext ρ S
  unfold xAnd zoz
  congr 1
  funext x S1
  cases x with
  | dat d => cases d with
    | bl b => cases b <;> rfl
    | non => rfl
    | int i => rfl
    | str i => rfl
    | lst i => rfl
    | tup i => rfl
    | cas i => rfl
    | dct i => rfl
  | obj k => rfl
  | scr ns => rfl
  | exn c p => rfl
  | fn _ => rfl
theorem xOr_eq (f g : XFn) : xOr f g = fun ρ S => (f ρ S).bind fun x S1 => zoz x (.ok (.dat (.bl true)) S1) (g ρ S1) := by
  funext ρ S
  unfold xOr zoz
  congr 1
  funext x S1
  cases x with
  | dat d => cases d with
    | bl b => cases b <;> rfl
    | non => rfl
    | int i => rfl
    | str i => rfl
    | lst i => rfl
    | tup i => rfl
    | cas i => rfl
    | dct i => rfl
  | obj k => rfl
  | scr ns => rfl
  | exn c p => rfl
  | fn _ => rfl
theorem xChain_eq (o o' : Op2) (f g k : XFn) : zmi o o' f g k = fun ρ S => (f ρ S).bind fun x S1 => (g ρ S1).bind fun y S2 => (o x y S2).bind fun z S3 => zoz z ((k ρ S3).bind fun w S4 => o' y w S4) (.ok (.dat (.bl false)) S3) := by
  funext ρ S
  unfold zmi zoz
  congr 1
  funext x S1
  congr 1
  funext x S1
  congr 1
  funext x S1
  cases x with
  | dat d => cases d with
    | bl b => cases b <;> rfl
    | non => rfl
    | int i => rfl
    | str i => rfl
    | lst i => rfl
    | tup i => rfl
    | cas i => rfl
    | dct i => rfl
  | obj k => rfl
  | scr ns => rfl
  | exn c p => rfl
  | fn _ => rfl
theorem zbh (b : Bool) (S : zaf) : zo8 (.dat (.bl b)) S = .ok b S := rfl
theorem za1 (S : zaf) : zo8 (.dat .non) S = .ok false S := rfl
theorem za0 (i : Int) (S : zaf) : zo8 (.dat (.int i)) S = .ok (i != 0) S := rfl
theorem za8 (xs : List D) (S : zaf) : zo8 (.dat (.lst xs)) S = .ok (!xs.isEmpty) S := rfl
theorem zaz (xs : List D) (S : zaf) : zo8 (.dat (.tup xs)) S = .ok (!xs.isEmpty) S := rfl
theorem zcf (n : Nat) (ρ : zat) (S : zaf) : ends n (.nx ρ S) = .ok (.dat .non) (S.take n) := rfl
theorem zck (n : Nat) (v : DV) (S : zaf) : ends n (.rt v S) = leave n v S := rfl
theorem zci (n : Nat) (c : XC) (ρ : zat) (S : zaf) : ends n (.ex c ρ S) = .ex c (S.take n) := rfl
theorem za7 (n : Nat) (d : D) (S : zaf) : leave n (.dat d) S = .ok (.dat d) (S.take n) := rfl
def szB (n : Nat) : Bool := n.ble 16777216
theorem szB_iff {n : Nat} : n ≤ sizeLine ↔ szB n = true := by simp [szB, sizeLine]
theorem zbk (ds : List DV) (S : zaf) : mkTup ds S = match dats ds with
  | some xs => bif szB xs.length then .ok (.dat (.tup xs)) S else .bad
  | none => .bad := by
  unfold mkTup
  cases dats ds with
  | none => rfl
  | some xs =>
    simp only [szB_iff]
    cases szB xs.length <;> rfl
theorem zbm (ds : List DV) (S : zaf) : mkLst ds S = match dats ds with
  | some xs => bif szB xs.length then .ok (.dat (.lst xs)) S else .bad
  | none => .bad := by
  unfold mkLst
  cases dats ds with
  | none => rfl
  | some xs =>
    simp only [szB_iff]
    cases szB xs.length <;> rfl
theorem zf8 : szB 0 = true ∧ szB 1 = true ∧ szB 2 = true ∧ szB 3 = true ∧ szB 4 = true ∧ szB 5 = true ∧ szB 6 = true ∧ szB 7 = true ∧ szB 8 = true ∧ szB 9 = true ∧ szB 10 = true ∧ szB 11 = true ∧ szB 12 = true ∧ szB 13 = true := by decide
/-! ## applied -/
def RS.seq (r : RS) (g : SFn) : RS := match r with
  | .nx ρ' S' => g ρ' S'
  | r => r
theorem zcm (ρ : zat) (S : zaf) (g : SFn) : (RS.nx ρ S).seq g = g ρ S := rfl
theorem zd_ (v : DV) (S : zaf) (g : SFn) : (RS.rt v S).seq g = .rt v S := rfl
theorem zd2 (c : XC) (ρ : zat) (S : zaf) (g : SFn) : (RS.ex c ρ S).seq g = .ex c ρ S := rfl
theorem zdt (ρ : zat) (S : zaf) (g : SFn) : (RS.bk ρ S).seq g = .bk ρ S := rfl
theorem zdb (ρ : zat) (S : zaf) (g : SFn) : (RS.ct ρ S).seq g = .ct ρ S := rfl
theorem zbl (b : Bool) (x y : RS) (g : SFn) : (bif b then x else y).seq g = bif b then x.seq g else y.seq g := by cases b <;> rfl
theorem za5 (n : Nat) (b : Bool) (x y : RS) : ends n (bif b then x else y) = bif b then ends n x else ends n y := by cases b <;> rfl
theorem c_ok {α : Type} (b : Bool) (x y : α) (S : zaf) : (bif b then Res.ok x S else Res.ok y S) = Res.ok (bif b then x else y) S := by cases b <;> rfl
theorem zf6 (b : Bool) (x y : D) : (bif b then DV.dat x else DV.dat y) = DV.dat (bif b then x else y) := by cases b <;> rfl
theorem c_bl (b : Bool) (x y : Bool) : (bif b then D.bl x else D.bl y) = D.bl (bif b then x else y) := by cases b <;> rfl
theorem zge (b : Bool) (x y : Int) : (bif b then D.int x else D.int y) = D.int (bif b then x else y) := by cases b <;> rfl
theorem zgg (b x : Bool) : (bif b then x else false) = (b && x) := by cases b <;> rfl
theorem c_or (b x : Bool) : (bif b then true else x) = (b || x) := by cases b <;> rfl
theorem zde (b x : Bool) : (bif b then false else x) = (!b && x) := by cases b <;> rfl
section
variable (ρ : zat) (S : zaf) (f g k : XFn) (fa ga : AFn) (fs gs hs : SFn) (t u : TFn) (l : LFn) (G : GFn)
theorem zc4 (i : Nat) : xVar i ρ S = match ρ[i]? with
  | some (some dv) => .ok dv S
  | _ => .bad := rfl
theorem a_c (d : D) : xC d ρ S = .ok (.dat d) S := rfl
theorem a_x2 (o : Op2) : x2 o f g ρ S = (f ρ S).bind fun x S1 => (g ρ S1).bind fun y S2 => o x y S2 := rfl
theorem a_o2 (o : D → D → Option D) (x y : D) : o2 o (.dat x) (.dat y) S = res1 (o x y) S := rfl
theorem zdl (d : D) : res1 (some d) S = .ok (.dat d) S := rfl
theorem a_xN (o : OpN) : xN o fa ρ S = (fa ρ S).bind o := rfl
theorem zgr : aNil ρ S = .ok [] S := rfl
theorem zdw : zac f fa ρ S = (f ρ S).bind fun d S1 => (fa ρ S1).bind fun ds S2 => .ok (d :: ds) S2 := rfl
theorem a_o1 (o : D → Option D) (d : D) : o1 o [.dat d] S = res1 (o d) S := rfl
theorem zf9 : xN1 l ρ S = (l ρ S).bind fun ds S1 => .ok (.dat (.lst ds)) S1 := rfl
theorem zgc : xTup fa ρ S = (fa ρ S).bind mkTup := rfl
theorem zg1 : xLst fa ρ S = (fa ρ S).bind mkLst := rfl
theorem zfx : tBl f ρ S = (f ρ S).bind bool1 := rfl
theorem zgh : tTr f ρ S = (f ρ S).bind zo8 := rfl
theorem zft : tNo t ρ S = (t ρ S).bind fun b S1 => .ok (!b) S1 := rfl
theorem zfu : tAn t u ρ S = (t ρ S).bind fun b S1 => bif b then u ρ S1 else .ok false S1 := by
  show (t ρ S).bind _ = _
  congr 1
  funext b S1
  cases b <;> rfl
theorem zgi : tOr_ t u ρ S = (t ρ S).bind fun b S1 => bif b then .ok true S1 else u ρ S1 := by
  show (t ρ S).bind _ = _
  congr 1
  funext b S1
  cases b <;> rfl
theorem zb8 (b : Bool) : bool1 (.dat (.bl b)) S = .ok b S := rfl
theorem zcg {α : Type} (b : Bool) (x y : Res α) : zoz (.dat (.bl b)) x y = bif b then x else y := rfl
theorem zfv : xAnd f g ρ S = (f ρ S).bind fun x S1 => zoz x (g ρ S1) (.ok (.dat (.bl false)) S1) := by rw [xAnd_eq]
theorem a_or : xOr f g ρ S = (f ρ S).bind fun x S1 => zoz x (.ok (.dat (.bl true)) S1) (g ρ S1) := by rw [xOr_eq]
theorem zca (o o' : Op2) : zmi o o' f g k ρ S = (f ρ S).bind fun x S1 => (g ρ S1).bind fun y S2 => (o x y S2).bind fun z S3 => zoz z ((k ρ S3).bind fun w S4 => o' y w S4) (.ok (.dat (.bl false)) S3) := by rw [xChain_eq]
theorem zf5 : xNot f ρ S = (f ρ S).bind nDV := rfl
theorem zgy (b : Bool) : nDV (.dat (.bl b)) S = .ok (.dat (.bl (!b))) S := rfl
theorem zgk : xNeg f ρ S = (f ρ S).bind neg1 := rfl
theorem zd1 (i : Int) : neg1 (.dat (.int i)) S = .ok (.dat (.int (-i))) S := rfl
theorem a_if : xIf t f g ρ S = (t ρ S).bind fun b S1 => bif b then f ρ S1 else g ρ S1 := by
  show (t ρ S).bind _ = _
  congr 1
  funext b S1
  cases b <;> rfl
theorem zgq (T : String) : xIsi T f ρ S = (f ρ S).bind (oIsi T) := rfl
theorem zda (T : String) (d : D) : oIsi T (.dat d) S = .ok (.dat (.bl (isiB T d))) S := rfl
theorem a_it : lIt f ρ S = (f ρ S).bind zes := rfl
theorem zb_ (xs : List D) : zes (.dat (.lst xs)) S = .ok xs S := rfl
theorem za6 (xs : List D) : zes (.dat (.tup xs)) S = .ok xs S := rfl
theorem zfw : zcz ρ S = .ok true S := rfl
theorem zec : sSeq fs gs ρ S = (fs ρ S).seq gs := rfl
theorem zdc : sNil ρ S = .nx ρ S := rfl
theorem zg0 : sRet f ρ S = (f ρ S).bindS ρ fun v S1 => .rt v S1 := rfl
theorem zg3 (i : Nat) : sSet i f ρ S = (f ρ S).bindS ρ fun v S1 => .nx (ρ.set i (some v)) S1 := rfl
theorem zdx : zm7 f ρ S = (f ρ S).bindS ρ fun _ S1 => .nx ρ S1 := rfl
theorem zfr : sIf t fs gs ρ S = (t ρ S).bindS ρ fun b S1 => bif b then fs ρ S1 else gs ρ S1 := by
  show (t ρ S).bindS ρ _ = _
  congr 1
  funext b S1
  cases b <;> rfl
theorem zb6 (c : Str) : zlu c ρ S = .ex c ρ S := rfl
theorem zgx (i j : Nat) : sPar i j f g ρ S = (f ρ S).bindS ρ fun x S1 => (g ρ S1).bindS ρ fun y S2 => .nx ((ρ.set i (some x)).set j (some y)) S2 := rfl
theorem a_tg : sTg G f ρ S = (f ρ S).bindS ρ fun v S1 => match v with
  | .dat d => (match G d ρ with
    | some ρ' => .nx ρ' S1
    | none => .bad)
  | _ => .bad := rfl
theorem a_fn (N : Nat) (ds : List DV) : zav N fs ds S = ends S.length (fs (ds.map some ++ List.replicate (N - ds.length) none) S) := rfl
theorem zgv (i : Nat) (d : D) : gNm i d ρ = some (ρ.set i (some (.dat d))) := rfl
theorem zg_ (q : GsFn) (ds : List D) : gTp q (.tup ds) ρ = q ds ρ := rfl
theorem zgt : gNo [] ρ = some ρ := rfl
theorem zf3 (q : GsFn) (d : D) (ds : List D) : gCo G q (d :: ds) ρ = (G d ρ).bind (q ds) := rfl
theorem zgd : sFor l G fs ρ S = (l ρ S).bindS ρ fun ds S1 => zez G fs ds ρ S1 := rfl
theorem a_lc (own : List Nat) : lLc l own G t f ρ S = (l ρ S).bind fun ds S1 => bif szB ds.length then lcGo G t f (zis ρ own) ds S1 else .bad := by
  show (l ρ S).bind _ = _
  congr 1
  funext ds S1
  simp only [szB_iff]
  cases szB ds.length <;> rfl
theorem zfz : lRg1 fa ρ S = (fa ρ S).bind rng1 := rfl
theorem zgb : lRg2 fa ρ S = (fa ρ S).bind rng2 := rfl
theorem zgo (i : Nat) : sNew i l ρ S = (l ρ S).bindS ρ fun ds S1 => .nx (ρ.set i (some (.obj S1.length))) (S1 ++ [some ds]) := rfl
theorem zdq : lLst fa ρ S = (fa ρ S).bind fun ds S1 => match dats ds with
  | some xs => bif szB xs.length then .ok xs S1 else .bad
  | none => .bad := by
  show (fa ρ S).bind _ = _
  congr 1
  funext ds S1
  cases dats ds with
  | none => rfl
  | some xs =>
    simp only [szB_iff]
    cases szB xs.length <;> rfl
theorem zb5 : dats [] = some [] := rfl
theorem zb4 (d : D) (r : List DV) : dats (.dat d :: r) = (dats r).map (d :: ·) := rfl
theorem zdz (r : List D) (d : D) : (some r).map (d :: ·) = some (d :: r) := rfl
theorem zcb : zis ρ [] = ρ := rfl
theorem zcc (i : Nat) (r : List Nat) : zis ρ (i :: r) = (zis ρ r).set i none := rfl
theorem a_sl (l h : PFn) : xSl f l h ρ S = (f ρ S).bind fun x S1 => (l ρ S1).bind fun lo S2 => (h ρ S2).bind fun hi S3 => oSl x lo hi S3 := rfl
theorem zg2 : pNo ρ S = .ok none S := rfl
theorem zgw : pEx f ρ S = (f ρ S).bind asInt := rfl
theorem zb9 (i : Int) : asInt (.dat (.int i)) S = .ok (some i) S := rfl
theorem zdi (i : Nat) : sFrz i ρ S = match ρ[i]? with
  | some (some x) => (match zd4 S x with
    | some (k, ds) => .nx (ρ.set i (some (.dat (.lst ds)))) (S.set k none)
    | none => .bad)
  | _ => .bad := rfl
theorem zf0 : lZip f g ρ S = (f ρ S).bind fun x S1 => (g ρ S1).bind fun y S2 => zip2 x y S2 := rfl
theorem zdv (xs ys : List D) : zip2 (.dat (.tup xs)) (.dat (.tup ys)) S = .ok (zipD xs ys) S := rfl
theorem zdp (xs ys : List D) : zip2 (.dat (.lst xs)) (.dat (.lst ys)) S = .ok (zipD xs ys) S := rfl
theorem zds : lEnum f ρ S = (f ρ S).bind enum1 := rfl
theorem zch (xs : List D) : enum1 (.dat (.lst xs)) S = .ok (znc xs) S := rfl
theorem zb0 (xs : List D) : enum1 (.dat (.tup xs)) S = .ok (znc xs) S := rfl
theorem zc0 : zj2 f ρ S = (f ρ S).bind zqc := rfl
theorem a_rd (d : D) : rd S (.dat d) = some d := rfl
end
theorem zfm {G : GFn} {t : TFn} {f : XFn} {ρ : zat} {S : zaf} {q : D → D} : ∀ (xs : List D), (∀ a ∈ xs, ∃ ρ1, G a ρ = some ρ1 ∧ t ρ1 S = .ok true S ∧ f ρ1 S = .ok (.dat (q a)) S) → lcGo G t f ρ xs S = .ok (xs.map q) S
  | [], _ => rfl
  | a :: r, h => by
    obtain ⟨ρ1, h1, h2, h3⟩ := h a (List.mem_cons_self ..)
    have ih := zfm (G := G) (t := t) (f := f) (ρ := ρ) (S := S) (q := q) r fun b hb => h b (List.mem_cons_of_mem _ hb)
    simp only [List.map_cons, lcGo, h1, h2, h3, Res.bindN_ok, if_true, ih]
theorem zmm {G : GFn} {t : TFn} {f : XFn} {ρ : zat} {S : zaf} {q : D → D} {p : D → Bool} : ∀ (xs : List D), (∀ a ∈ xs, ∃ ρ1, G a ρ = some ρ1 ∧ t ρ1 S = .ok (p a) S ∧ (p a = true → f ρ1 S = .ok (.dat (q a)) S)) → lcGo G t f ρ xs S = .ok ((xs.filter p).map q) S
  | [], _ => rfl
  | a :: r, h => by
    obtain ⟨ρ1, h1, h2, h3⟩ := h a (List.mem_cons_self ..)
    have ih := zmm (G := G) (t := t) (f := f) (ρ := ρ) (S := S) (q := q) (p := p) r fun b hb => h b (List.mem_cons_of_mem _ hb)
    cases hp : p a with
    | false => simp only [lcGo, h1, h2, hp, Res.bindN_ok, ih, List.filter_cons, Bool.false_eq_true, if_false]
    | true => simp only [List.map_cons, lcGo, h1, h2, h3 hp, hp, Res.bindN_ok, if_true, ih, List.filter_cons]
theorem zcv {G : GFn} {t : TFn} {f : XFn} {ρ : zat} {S : zaf} {α : Type} {enc : α → D} {q : α → D} : ∀ (xs : List α), (∀ a ∈ xs, ∃ ρ1, G (enc a) ρ = some ρ1 ∧ t ρ1 S = .ok true S ∧ f ρ1 S = .ok (.dat (q a)) S) → lcGo G t f ρ (xs.map enc) S = .ok (xs.map q) S
  | [], _ => rfl
  | a :: r, h => by
    obtain ⟨ρ1, h1, h2, h3⟩ := h a (List.mem_cons_self ..)
    have ih := zcv (G := G) (t := t) (f := f) (ρ := ρ) (S := S) (enc := enc) (q := q) r fun b hb => h b (List.mem_cons_of_mem _ hb)
    simp only [List.map_cons, lcGo, h1, h2, h3, Res.bindN_ok, if_true, ih]
theorem zhv {G : GFn} {t : TFn} {f : XFn} {ρ : zat} {S : zaf} {α : Type} {enc : α → D} {q : α → D} {p : α → Bool} : ∀ (xs : List α), (∀ a ∈ xs, ∃ ρ1, G (enc a) ρ = some ρ1 ∧ t ρ1 S = .ok (p a) S ∧ (p a = true → f ρ1 S = .ok (.dat (q a)) S)) → lcGo G t f ρ (xs.map enc) S = .ok ((xs.filter p).map q) S
  | [], _ => rfl
  | a :: r, h => by
    obtain ⟨ρ1, h1, h2, h3⟩ := h a (List.mem_cons_self ..)
    have ih := zhv (G := G) (t := t) (f := f) (ρ := ρ) (S := S) (enc := enc) (q := q) (p := p) r fun b hb => h b (List.mem_cons_of_mem _ hb)
    cases hp : p a with
    | false => simp only [List.map_cons, lcGo, h1, h2, hp, Res.bindN_ok, ih, List.filter_cons, Bool.false_eq_true, if_false]
    | true => simp only [List.map_cons, lcGo, h1, h2, h3 hp, hp, Res.bindN_ok, if_true, ih, List.filter_cons]
theorem zkt {α : Type} (p : α → Bool) : ∀ xs : List α, zif (xs.map fun a => .bl (p a)) = some (xs.map p)
  | [] => rfl
  | a :: r => by simp [zif, zkt p r]
theorem zc6 {α : Type} (p : α → Bool) (xs : List α) : dAll (.lst (xs.map fun a => .bl (p a))) = some (.bl (xs.all p)) := by
  simp [dAll, zkt, List.all_map, Function.comp_def]
theorem dAny_map {α : Type} (p : α → Bool) (xs : List α) : dAny (.lst (xs.map fun a => .bl (p a))) = some (.bl (xs.any p)) := by
  simp [dAny, zkt, List.any_map, Function.comp_def]
/-! ## isinstance -/
def D.isI : D → Bool | .int _ => true | .bl _ => true | _ => false
def D.isB : D → Bool | .bl _ => true | _ => false
def D.isT : D → Bool | .tup _ => true | _ => false
def D.isL : D → Bool | .lst _ => true | _ => false
def D.isS : D → Bool | .str _ => true | _ => false
theorem zb7 (d : D) : isiB "int" d = d.isI := by cases d <;> rfl
theorem zbp (d : D) : isiB "bool" d = d.isB := by cases d <;> rfl
theorem za9 (d : D) : isiB "tuple" d = d.isT := by cases d <;> rfl
theorem zbi (d : D) : isiB "list" d = d.isL := by cases d <;> rfl
theorem zcd (d : D) : isiB "str" d = d.isS := by cases d <;> rfl
/-! ## operators -/
theorem zgs (i j : Int) : dLt (.int i) (.int j) = some (.bl (decide (i < j))) := rfl
theorem zgf (i j : Int) : dLe (.int i) (.int j) = some (.bl (decide (i ≤ j))) := rfl
theorem zgm (i j : Int) : dGt (.int i) (.int j) = some (.bl (decide (i > j))) := rfl
theorem zgp (i j : Int) : dGe (.int i) (.int j) = some (.bl (decide (i ≥ j))) := rfl
theorem zdj (i j : Int) : dAdd (.int i) (.int j) = some (.int (i + j)) := rfl
theorem zdd (i j : Int) : dSub (.int i) (.int j) = some (.int (i - j)) := rfl
def D.isN : D → Bool | .non => true | _ => false
theorem zce (d : D) : dIsN d .non = some (.bl d.isN) := by cases d <;> rfl
theorem zbo (d : D) : zqa d .non = some (.bl (!d.isN)) := by cases d <;> rfl
theorem zdy (xs : List D) : dLen (.lst xs) = some (.int xs.length) := rfl
theorem zd0 (xs : List D) : dLen (.tup xs) = some (.int xs.length) := rfl
theorem zfq (xs : List D) (i : Int) : dIx (.lst xs) (.int i) = atI xs i := rfl
theorem ze2 (xs : List D) (i : Int) : dIx (.tup xs) (.int i) = atI xs i := rfl
theorem zcj (xs : List D) : dList (.lst xs) = some (.lst xs) := rfl
theorem zcl (xs : List D) : dList (.tup xs) = some (.lst xs) := rfl
theorem zbn (xs : List D) : ziv (.lst xs) = some (.tup xs) := rfl
theorem zbj (xs : List D) : ziv (.tup xs) = some (.tup xs) := rfl
/-! ## == of data without zo8 values -/
mutual
def D.noB : D → Bool
  | .bl _ => false
  | .cas _ => false
  | .dct _ => false
  | .lst xs => D.noBs xs
  | .tup xs => D.noBs xs
  | _ => true
def D.noBs : List D → Bool
  | [] => true
  | x :: xs => D.noB x && D.noBs xs
end
mutual
theorem eqv_iff : ∀ a b : D, a.noB = true → b.noB = true → (PyData.eqv a.py b.py = true ↔ a = b)
  | .non, b, _, h2 => by cases b <;> simp_all [D.py, PyData.eqv, D.noB]
  | .bl _, _, h1, _ => by simp [D.noB] at h1
  | .cas _, _, h1, _ => by simp [D.noB] at h1
  | .dct _, _, h1, _ => by simp [D.noB] at h1
  | .int i, b, _, h2 => by cases b <;> simp_all [D.py, PyData.eqv, D.noB]
  | .str i, b, _, h2 => by cases b <;> simp_all [D.py, PyData.eqv, D.noB]
  | .lst xs, b, h1, h2 => by
    cases b with
    | lst ys => simp only [D.py, PyData.eqv, D.lst.injEq]; exact eqvs_iff xs ys (by simpa [D.noB] using h1) (by simpa [D.noB] using h2)
    | _ => simp_all [D.py, PyData.eqv, D.noB]
  | .tup xs, b, h1, h2 => by
    cases b with
    | tup ys => simp only [D.py, PyData.eqv, D.tup.injEq]; exact eqvs_iff xs ys (by simpa [D.noB] using h1) (by simpa [D.noB] using h2)
    | _ => simp_all [D.py, PyData.eqv, D.noB]
theorem eqvs_iff : ∀ a b : List D, D.noBs a = true → D.noBs b = true → (PyData.eqvAll (D.pys a) (D.pys b) = true ↔ a = b)
  | [], [], _, _ => by simp [D.pys, PyData.eqvAll]
  | [], _ :: _, _, _ => by simp [D.pys, PyData.eqvAll]
  | _ :: _, [], _, _ => by simp [D.pys, PyData.eqvAll]
  | x :: xs, y :: ys, h1, h2 => by
    have q1 : x.noB = true ∧ D.noBs xs = true := by simpa [D.noBs] using h1
    have q2 : y.noB = true ∧ D.noBs ys = true := by simpa [D.noBs] using h2
    simp only [D.pys, PyData.eqvAll, Bool.and_eq_true, eqv_iff x y q1.1 q2.1, eqvs_iff xs ys q1.2 q2.2, List.cons.injEq]
end
theorem znk {a b : D} (h1 : a.noB = true) (h2 : b.noB = true) : dEqB a b = true ↔ a = b := eqv_iff a b h1 h2
theorem noBs_iff : ∀ {xs : List D}, D.noBs xs = true ↔ ∀ x ∈ xs, x.noB = true
  | [] => by simp [D.noBs]
  | x :: xs => by simp [D.noBs, noBs_iff (xs := xs)]
/-! ## where == is served -/
mutual
def D.fit : Nat → D → Bool
  | _, .non => true
  | _, .bl _ => true
  | _, .int _ => true
  | _, .str x => PyData.strOk x
  | _, .cas _ => false
  | _, .dct _ => false
  | 0, .lst _ => false
  | 0, .tup _ => false
  | n + 1, .lst xs => D.fits n xs
  | n + 1, .tup xs => D.fits n xs
def D.fits : Nat → List D → Bool
  | _, [] => true
  | n, x :: xs => D.fit n x && D.fits n xs
end
theorem fits_iff {n : Nat} : ∀ {xs : List D}, D.fits n xs = true ↔ ∀ x ∈ xs, x.fit n = true
  | [] => by simp [D.fits]
  | x :: xs => by simp [D.fits, fits_iff (xs := xs)]
mutual
theorem zpg : ∀ (n : Nat) (d : D), d.fit n = true → d.py.canLay0 = true ∧ d.py.depth ≤ n
  | _, .non, _ => by simp [D.py, PyData.canLay0, PyData.depth]
  | _, .bl _, _ => by simp [D.py, PyData.canLay0, PyData.depth]
  | _, .int _, _ => by simp [D.py, PyData.canLay0, PyData.depth]
  | n, .str x, h => by cases n <;> (simp only [D.fit] at h; simp [D.py, PyData.canLay0, PyData.depth, h])
  | 0, .lst _, h => by simp [D.fit] at h
  | 0, .tup _, h => by simp [D.fit] at h
  | n, .cas _, h => by cases n <;> simp [D.fit] at h
  | n, .dct _, h => by cases n <;> simp [D.fit] at h
  | n + 1, .lst xs, h => by
    have := fits_py n xs (by simpa [D.fit] using h)
    simp only [D.py, PyData.canLay0, PyData.depth]
    exact ⟨this.1, by omega⟩
  | n + 1, .tup xs, h => by
    have := fits_py n xs (by simpa [D.fit] using h)
    simp only [D.py, PyData.canLay0, PyData.depth]
    exact ⟨this.1, by omega⟩
theorem fits_py : ∀ (n : Nat) (ds : List D), D.fits n ds = true → PyData.canLayAll0 (D.pys ds) = true ∧ PyData.depthAll (D.pys ds) ≤ n
  | _, [], _ => by simp [D.pys, PyData.canLayAll0, PyData.depthAll]
  | n, x :: xs, h => by
    have h' : x.fit n = true ∧ D.fits n xs = true := by simpa [D.fits] using h
    have a := zpg n x h'.1
    have b := fits_py n xs h'.2
    simp only [D.pys, PyData.canLayAll0, PyData.depthAll, a.1, b.1, Bool.and_self, true_and]
    omega
end
theorem zoh {n m : Nat} {a b : D} (ha : a.fit n = true) (hb : b.fit m = true) (h : n ≤ 64 := by decide) : dEq a b = some (.bl (dEqB a b)) := by
  have p := zpg n a ha
  have q := zpg m b hb
  have : zo2 a b = true := by
    simp only [zo2, p.1, q.1, Bool.true_and, decide_eq_true_eq]
    omega
  simp only [dEq, this, if_true]
theorem dNe_fit {n m : Nat} {a b : D} (ha : a.fit n = true) (hb : b.fit m = true) (h : n ≤ 64 := by decide) : dNe a b = some (.bl (!dEqB a b)) := by
  have p := zpg n a ha
  have q := zpg m b hb
  have : zo2 a b = true := by
    simp only [zo2, p.1, q.1, Bool.true_and, decide_eq_true_eq]
    omega
  simp only [dNe, this, if_true]
theorem zli {n m : Nat} {a : D} {xs : List D} (ha : a.fit n = true) (hb : D.fits m xs = true) (h : n ≤ 64) : canIn a xs = true := by
  have p := zpg n a ha
  have q := fits_py m xs hb
  simp only [canIn, p.1, q.1, Bool.true_and, decide_eq_true_eq]
  omega
theorem dIn_l {n m : Nat} {a : D} {xs : List D} (ha : a.fit n = true) (hb : D.fits m xs = true) (h : n ≤ 64 := by decide) : dIn a (.lst xs) = some (.bl (dInB a xs)) := by simp only [dIn, zli ha hb h, if_true]
theorem dIn_t {n m : Nat} {a : D} {xs : List D} (ha : a.fit n = true) (hb : D.fits m xs = true) (h : n ≤ 64 := by decide) : dIn a (.tup xs) = some (.bl (dInB a xs)) := by simp only [dIn, zli ha hb h, if_true]
theorem dNin_l {n m : Nat} {a : D} {xs : List D} (ha : a.fit n = true) (hb : D.fits m xs = true) (h : n ≤ 64 := by decide) : dNin a (.lst xs) = some (.bl (!dInB a xs)) := by simp only [dNin, zli ha hb h, if_true]
theorem dNin_t {n m : Nat} {a : D} {xs : List D} (ha : a.fit n = true) (hb : D.fits m xs = true) (h : n ≤ 64 := by decide) : dNin a (.tup xs) = some (.bl (!dInB a xs)) := by simp only [dNin, zli ha hb h, if_true]
theorem zo_ (i j : Int) : dEq (.int i) (.int j) = some (.bl (i == j)) := zoh (n := 0) (m := 0) rfl rfl
theorem zju (i j : Int) : dNe (.int i) (.int j) = some (.bl (!(i == j))) := dNe_fit (n := 0) (m := 0) rfl rfl
theorem eqs_ints : ∀ a b : List Int, PyData.eqvAll (D.pys (a.map .int)) (D.pys (b.map .int)) = decide (a = b)
  | [], [] => by simp [D.pys, PyData.eqvAll]
  | [], _ :: _ => by simp [D.pys, PyData.eqvAll]
  | _ :: _, [] => by simp [D.pys, PyData.eqvAll]
  | x :: xs, y :: ys => by
    simp only [List.map_cons, D.pys, D.py, PyData.eqvAll, PyData.eqv, eqs_ints xs ys, List.cons.injEq, Bool.decide_and]
    congr 1
theorem ze0 (n : Nat) : ∀ a : List Int, D.fits n (a.map .int) = true
  | [] => rfl
  | x :: xs => by simp only [List.map_cons, D.fits, D.fit, ze0 n xs, Bool.and_self]
theorem zng (a b : List Int) : dEq (.lst (a.map .int)) (.lst (b.map .int)) = some (.bl (decide (a = b))) := by
  rw [zoh (n := 1) (m := 1) (by simp only [D.fit, ze0]) (by simp only [D.fit, ze0])]
  simp only [dEqB, D.py, PyData.eqv, eqs_ints]
theorem zd6 : ∀ a : List Int, zhf (a.map .int) = some a
  | [] => rfl
  | x :: xs => by simp only [List.map_cons, zhf, zd6 xs, Option.map_some]
theorem sort_ints (a : List Int) (h : a.length < 64) (S : zaf) : zqc (.dat (.lst (a.map .int))) S = .ok ((sset a).map .int) S := by simp only [zqc, rd, zd6, if_pos h]
theorem zpe (a : List Int) (h : a.length < 64) (S : zaf) : zqc (.dat (.tup (a.map .int))) S = .ok ((sset a).map .int) S := by simp only [zqc, rd, zd6, if_pos h]
theorem zny (i : Int) (a : List Int) : dInB (.int i) (a.map .int) = decide (i ∈ a) := by
  induction a with
  | nil => rfl
  | cons x xs ih =>
    simp only [dInB, List.map_cons, List.any_cons] at ih ⊢
    rw [ih]
    simp only [dEqB, D.py, PyData.eqv, List.mem_cons, Bool.decide_or]
    congr 1
    by_cases h : x = i
    · subst h; simp
    · have h2 : ¬ i = x := fun e => h e.symm
      simp [h, h2]
theorem lit2 : (((0 : Nat) : Int) == 2) = false ∧ (((1 : Nat) : Int) == 2) = false ∧ (((2 : Nat) : Int) == 2) = true ∧ (((3 : Nat) : Int) == 2) = false := ⟨rfl, rfl, rfl, rfl⟩
theorem lit3 : (((0 : Nat) : Int) == 3) = false ∧ (((1 : Nat) : Int) == 3) = false ∧ (((2 : Nat) : Int) == 3) = false ∧ (((3 : Nat) : Int) == 3) = true := ⟨rfl, rfl, rfl, rfl⟩
/-! ## loops -/
theorem zix {α : Type} {enc : α → D} {G : GFn} {f : SFn} (I : List α → zat → zaf → Prop) : ∀ (post pre : List α) (ρ : zat) (S : zaf), I pre ρ S →
    (∀ pre1 a post1 ρ S, pre ++ post = pre1 ++ a :: post1 → I pre1 ρ S → ∃ ρ1 ρ2 S2, G (enc a) ρ = some ρ1 ∧ (f ρ1 S = .nx ρ2 S2 ∨ f ρ1 S = .ct ρ2 S2) ∧ I (pre1 ++ [a]) ρ2 S2) →
    ∃ ρ' S', zez G f (post.map enc) ρ S = .nx ρ' S' ∧ I (pre ++ post) ρ' S'
  | [], pre, ρ, S, h0, _ => ⟨ρ, S, rfl, by simpa using h0⟩
  | a :: post, pre, ρ, S, h0, hs => by
    obtain ⟨ρ1, ρ2, S2, e1, e2, h1⟩ := hs pre a post ρ S rfl h0
    obtain ⟨ρ', S', e3, h3⟩ := zix (enc := enc) (G := G) (f := f) I post (pre ++ [a]) ρ2 S2 h1 (fun pre1 b post1 ρ S e h => hs pre1 b post1 ρ S (by simpa using e) h)
    refine ⟨ρ', S', ?_, by simpa using h3⟩
    simp only [List.map_cons, zez, e1]
    rcases e2 with e2 | e2 <;> simp only [e2, e3]
theorem for_acc {α β : Type} {enc : α → D} {eb : β → D} {q : α → List β} {G : GFn} {f : SFn} {S0 : zaf} {P : zat → Prop} : ∀ (xs : List α) (ρ : zat) (ds0 : List D), ds0.length + (xs.flatMap q).length ≤ sizeLine → P ρ →
    (∀ a ∈ xs, ∀ ρ ds, P ρ → ds.length + (q a).length ≤ sizeLine → ∃ ρ1 ρ2, G (enc a) ρ = some ρ1 ∧ f ρ1 (S0 ++ [some ds]) = .nx ρ2 (S0 ++ [some (ds ++ (q a).map eb)]) ∧ P ρ2) →
    ∃ ρ', zez G f (xs.map enc) ρ (S0 ++ [some ds0]) = .nx ρ' (S0 ++ [some (ds0 ++ (xs.flatMap q).map eb)]) ∧ P ρ'
  | [], ρ, ds0, _, h0, _ => ⟨ρ, by simp [zez], h0⟩
  | a :: r, ρ, ds0, hb, h0, hs => by
    simp only [List.flatMap_cons, List.length_append] at hb
    obtain ⟨ρ1, ρ2, e1, e2, h1⟩ := hs a (List.mem_cons_self ..) ρ ds0 h0 (by omega)
    obtain ⟨ρ', e3, h3⟩ := for_acc (q := q) (eb := eb) (enc := enc) (G := G) (f := f) (S0 := S0) (P := P) r ρ2 (ds0 ++ (q a).map eb) (by simp only [List.length_append, List.length_map]; omega) h1 (fun b hb => hs b (List.mem_cons_of_mem _ hb))
    refine ⟨ρ', ?_, h3⟩
    simp only [List.map_cons, zez, e1, e2, e3, List.flatMap_cons, List.map_append, List.append_assoc]
theorem zma (S0 : zaf) (x : Option (List D)) : (S0 ++ [x])[S0.length]? = some x := by simp
theorem zbu (S0 : zaf) (x y : Option (List D)) : (S0 ++ [x]).set S0.length y = S0 ++ [y] := by simp
theorem zbe (S0 : zaf) (x : Option (List D)) : (S0 ++ [x]).take S0.length = S0 := by simp
theorem app_end {i : Nat} {g : XFn} {ρ : zat} {S0 : zaf} {ds : List D} {d : D} (hi : ρ[i]? = some (some (.obj S0.length))) (hg : g ρ (S0 ++ [some ds]) = .ok (.dat d) (S0 ++ [some ds])) (hl : ds.length < sizeLine) :
    sApp (xVar i) g ρ (S0 ++ [some ds]) = .nx ρ (S0 ++ [some (ds ++ [d])]) := by
  have e1 : xVar i ρ (S0 ++ [some ds]) = .ok (.obj S0.length) (S0 ++ [some ds]) := by unfold xVar; rw [hi]
  simp only [sApp, e1, Res.bindS_ok, zd4, zma, hg, putApp, if_pos hl, zbu]
theorem ext_end {i : Nat} {g : XFn} {ρ : zat} {S0 : zaf} {ds es : List D} (hi : ρ[i]? = some (some (.obj S0.length))) (hg : g ρ (S0 ++ [some ds]) = .ok (.dat (.lst es)) (S0 ++ [some ds])) (hl : ds.length + es.length ≤ sizeLine) :
    sExt (xVar i) g ρ (S0 ++ [some ds]) = .nx ρ (S0 ++ [some (ds ++ es)]) := by
  have e1 : xVar i ρ (S0 ++ [some ds]) = .ok (.obj S0.length) (S0 ++ [some ds]) := by unfold xVar; rw [hi]
  simp only [sExt, e1, Res.bindS_ok, zd4, zma, hg, putExt, if_pos hl, zbu]
theorem frz_end {i : Nat} {ρ : zat} {S0 : zaf} {ds : List D} (hi : ρ[i]? = some (some (.obj S0.length))) : sFrz i ρ (S0 ++ [some ds]) = .nx (ρ.set i (some (.dat (.lst ds)))) (S0 ++ [none]) := by
  simp only [sFrz, hi, zd4, zma, zbu]
theorem range_map (n : Nat) : zmd 0 n = (List.range n).map fun i => .int ((i : Nat) : Int) := by simp [zmd]
theorem zjk {n : Nat} (h : n ≤ sizeLine) (S : zaf) : rng1 [.dat (.int (n : Nat))] S = .ok ((List.range n).map fun i => .int ((i : Nat) : Int)) S := by
  unfold sizeLine at h
  simp only [rng1, if_pos (show -(2 ^ 62) ≤ (n : Int) ∧ (n : Int) < 2 ^ 62 by omega), Int.toNat_natCast, range_map]
theorem leave_end (S0 : zaf) (ds : List D) : leave S0.length (.obj S0.length) (S0 ++ [some ds]) = .ok (.obj S0.length) (S0 ++ [some ds]) := by
  simp only [leave, Nat.lt_irrefl, if_false, zma, zbe]
theorem zko {α : Type} {xs : List α} {n : Nat} (d : α) (h : n < xs.length) : atI xs (n : Nat) = some (xs.getD n d) := by
  have h1 : (n : Int) < xs.length := by omega
  unfold atI ixN
  rw [if_pos (Int.natCast_nonneg n), if_pos h1, List.getD_eq_getElem?_getD]
  simp only [Option.bind_some, Int.toNat_natCast]
  rw [List.getElem?_eq_getElem h]
  rfl
theorem zja {α : Type} {xs : List α} {n : Nat} (e : α → D) (d : α) (h : n < xs.length) : atI (xs.map e) (n : Nat) = some (e (xs.getD n d)) := by
  rw [zko (e d) (by simpa using h)]
  simp [List.getD_eq_getElem?_getD, List.getElem?_map, List.getElem?_eq_getElem h]
theorem ze3 {n : Nat} (h : n ≤ 16000000) : n ≤ sizeLine := by unfold sizeLine; omega
theorem zcu {n : Nat} (h : n ≤ 16777216) : szB n = true := szB_iff.mp (by unfold sizeLine; omega)
theorem zau (S0 : zaf) (ds : List D) : zd4 (S0 ++ [some ds]) (.obj S0.length) = some (S0.length, ds) := by simp only [zd4, zma]
theorem zc3 (S0 : zaf) (ds : List D) : rd (S0 ++ [some ds]) (.obj S0.length) = some (.lst ds) := by simp only [rd, zma]
theorem zc1 (f : XFn) (g : AFn) (ρ : zat) (S : zaf) : aStar f g ρ S = (f ρ S).bind fun x S1 => match rd S1 x with
  | some (.lst xs) => (g ρ S1).bind fun ds S2 => .ok (xs.map .dat ++ ds) S2
  | some (.tup xs) => (g ρ S1).bind fun ds S2 => .ok (xs.map .dat ++ ds) S2
  | _ => .bad := rfl
theorem zbb : ∀ xs : List D, dats (xs.map .dat) = some xs
  | [] => rfl
  | x :: xs => by simp only [List.map_cons, dats, zbb xs, Option.map_some]
theorem zas (S0 : zaf) (ds : List D) : leave S0.length (.obj S0.length) (S0 ++ [some ds]) = .ok (.obj S0.length) (S0 ++ [some ds]) := leave_end S0 ds
theorem zipIdx_range {α : Type} (d : α) (xs : List α) : (xs.zipIdx.map fun p => (p.2, p.1)) = (List.range xs.length).map fun k => (k, xs.getD k d) := by
  apply List.ext_getElem
  · simp
  · intro i h1 h2
    simp only [List.length_map, List.length_zipIdx] at h1
    simp [List.getD_eq_getElem?_getD, List.getElem?_eq_getElem h1]
theorem za3 (G : GFn) (f : SFn) (ρ : zat) (S : zaf) : zez G f [] ρ S = .nx ρ S := rfl
/-! ## numbers -/
theorem log2_lt {n k : Nat} (h : n < 2 ^ k) (hk : 0 < k) : n.log2 < k := by
  by_cases hn : n = 0
  · subst hn
    simpa using hk
  · exact (Nat.log2_lt hn).mpr h
theorem znq {i j : Int} (hi : i.natAbs < 2 ^ 200) (hj : j.natAbs < 2 ^ 200) : zjl (.int i) (.int j) = some (.int (i * j)) := by
  have a := log2_lt hi (by decide)
  have b := log2_lt hj (by decide)
  have : i.natAbs.log2 + j.natAbs.log2 < 1000000 := by omega
  simp only [zjl, dMul, if_pos this]
theorem zhi {i j : Int} (h : 0 < j) : dMod (.int i) (.int j) = some (.int (i % j)) := by simp only [dMod, if_pos h]
theorem dDiv_i {i j : Int} (h : 0 < j) (h2 : j.natAbs < 2 ^ 200) : dDiv (.int i) (.int j) = some (.int (i / j)) := by
  have := log2_lt h2 (by decide)
  simp only [dDiv, if_pos (show 0 < j ∧ j.natAbs.log2 < 9000 from ⟨h, by omega⟩)]
theorem dPow_i {i : Int} {j : Nat} (h : i.natAbs < 2 ^ 64) (h2 : j ≤ 1000000) : dPow (.int i) (.int (j : Nat)) = some (.int (i ^ j)) := by
  have : (0 : Int) ≤ (j : Nat) ∧ ((j : Nat) : Int) ≤ 1000000 ∧ i.natAbs < 2 ^ 64 := ⟨by omega, by omega, h⟩
  simp only [dPow, if_pos this, Int.toNat_natCast]
theorem zdf (i : Int) : dInt (.int i) = some (.int i) := rfl
theorem ze_ {i : Int} (h0 : -1000000000000000000000000000000 ≤ i) (h1 : i ≤ 1000000000000000000000000000000) : i.natAbs < 2 ^ 200 := by
  have : i.natAbs ≤ 1000000000000000000000000000000 := by omega
  exact Nat.lt_of_le_of_lt this (by decide)
theorem dAdd_l (a b : List D) : dAdd (.lst a) (.lst b) = bif szB (a.length + b.length) then some (.lst (a ++ b)) else none := by
  simp only [dAdd, szB_iff]
  cases szB (a.length + b.length) <;> rfl
theorem zjx (a b : List D) : dAdd (.tup a) (.tup b) = bif szB (a.length + b.length) then some (.tup (a ++ b)) else none := by
  simp only [dAdd, szB_iff]
  cases szB (a.length + b.length) <;> rfl
theorem zgz (f i g : XFn) (ρ : zat) (S : zaf) : sPut f i g ρ S = (g ρ S).bindS ρ fun y S1 => (f ρ S1).bindS ρ fun x S2 => (i ρ S2).bindS ρ fun n S3 => zqq x n y ρ S3 := rfl
/-! ## the pen: the first list of the store -/
def penL (cells : List Int) (a : Nat) (cur : Int) : List D := [.lst (cells.map .int), .int (a : Nat), .int cur]
theorem zdk (o : D → D → Option D) (ds : List D) (T : zaf) (y : D) : o2 o (.obj 0) (.dat y) (some ds :: T) = res1 (o (.lst ds) y) (some ds :: T) := rfl
theorem zf7 (cells : List Int) (a : Nat) (cur : Int) : atI (penL cells a cur) 0 = some (.lst (cells.map .int)) := rfl
theorem zf4 (cells : List Int) (a : Nat) (cur : Int) : atI (penL cells a cur) 1 = some (.int (a : Nat)) := rfl
theorem zga (cells : List Int) (a : Nat) (cur : Int) : atI (penL cells a cur) 2 = some (.int cur) := rfl
theorem zdm (cells : List Int) (a : Nat) (cur : Int) (ρ : zat) (T : zaf) : zqq (.obj 0) (.dat (.int 1)) (.dat (.int ((a : Nat) + 1))) ρ (some (penL cells a cur) :: T) = .nx ρ (some (penL cells (a + 1) cur) :: T) := rfl
theorem zdg (cells : List Int) (a : Nat) (cur c : Int) (ρ : zat) (T : zaf) : zqq (.obj 0) (.dat (.int 2)) (.dat (.int c)) ρ (some (penL cells a cur) :: T) = .nx ρ (some (penL cells a c) :: T) := rfl
theorem za4 {α : Type} (x : α) (T : List α) : (x :: T).take (T.length + 1) = x :: T := by simp
def Pen (n : Nat) (T S : zaf) : Prop := ∃ cells a cur, S = some (penL cells a cur) :: T ∧ a ≤ n
theorem Pen.mono {n m : Nat} {T S : zaf} (h : Pen n T S) (k : n ≤ m) : Pen m T S := by
  obtain ⟨c, a, u, e, l⟩ := h
  exact ⟨c, a, u, e, Nat.le_trans l k⟩
theorem Pen.len {n : Nat} {T S : zaf} (h : Pen n T S) : S.length = T.length + 1 := by
  obtain ⟨c, a, u, e, l⟩ := h
  subst e
  rfl
theorem Pen.take {n k : Nat} {T S : zaf} (h : Pen n T S) (hk : k = T.length + 1) : S.take k = S := by
  rw [hk, ← h.len, List.take_length]
abbrev LIM : Nat := 2147483648
theorem lc_pen {G : GFn} {t : TFn} {f : XFn} {ρ : zat} {T : zaf} {R : D → D → Prop} {c : Nat} : ∀ (ds : List D) (m : Nat) (S : zaf), Pen m T S → m + c * ds.length ≤ LIM →
    (∀ d ∈ ds, ∀ m S, Pen m T S → m + c ≤ LIM → ∃ ρ1 z S1, G d ρ = some ρ1 ∧ t ρ1 S = .ok true S ∧ f ρ1 S = .ok (.dat z) S1 ∧ Pen (m + c) T S1 ∧ R d z) →
    ∃ zs S1, lcGo G t f ρ ds S = .ok zs S1 ∧ Pen (m + c * ds.length) T S1 ∧ zs.length = ds.length ∧ ∀ p ∈ ds.zip zs, R p.1 p.2
  | [], m, S, hp, _, _ => ⟨[], S, rfl, hp, rfl, fun p hp => nomatch hp⟩
  | d :: r, m, S, hp, hb, hs => by
    have hb' : m + c + c * r.length ≤ LIM := by simp only [List.length_cons, Nat.mul_succ] at hb; omega
    obtain ⟨ρ1, z, S1, h1, h2, h3, h4, h5⟩ := hs d (List.mem_cons_self ..) m S hp (by omega)
    obtain ⟨zs, S2, e, p2, l2, q2⟩ := lc_pen (G := G) (t := t) (f := f) (ρ := ρ) (R := R) (c := c) r (m + c) S1 h4 hb' fun b hb => hs b (List.mem_cons_of_mem _ hb)
    refine ⟨z :: zs, S2, ?_, ?_, by simp [l2], ?_⟩
    · simp only [lcGo, h1, h2, Res.bindN_ok, if_true, h3, e]
    · simp only [List.length_cons, Nat.mul_succ]
      exact p2.mono (by omega)
    · intro p hp
      simp only [List.zip_cons_cons, List.mem_cons] at hp
      rcases hp with rfl | hp
      · exact h5
      · exact q2 p hp
theorem zol {α : Type} {enc : α → D} {G : GFn} {f : SFn} {T : zaf} {c : Nat} (J : List α → zat → Prop) : ∀ (post pre : List α) (m : Nat) (ρ : zat) (S : zaf), J pre ρ → Pen m T S → m + c * post.length ≤ LIM →
    (∀ pre1 a post1 m ρ S, pre ++ post = pre1 ++ a :: post1 → J pre1 ρ → Pen m T S → m + c ≤ LIM → ∃ ρ1 ρ2 S2, G (enc a) ρ = some ρ1 ∧ f ρ1 S = .nx ρ2 S2 ∧ J (pre1 ++ [a]) ρ2 ∧ Pen (m + c) T S2) →
    ∃ ρ' S', zez G f (post.map enc) ρ S = .nx ρ' S' ∧ J (pre ++ post) ρ' ∧ Pen (m + c * post.length) T S'
  | [], pre, m, ρ, S, h0, hp, _, _ => ⟨ρ, S, rfl, by simpa using h0, hp⟩
  | a :: post, pre, m, ρ, S, h0, hp, hb, hs => by
    have hb' : m + c + c * post.length ≤ LIM := by simp only [List.length_cons, Nat.mul_succ] at hb; omega
    obtain ⟨ρ1, ρ2, S2, e1, e2, h1, p1⟩ := hs pre a post m ρ S rfl h0 hp (by omega)
    obtain ⟨ρ', S', e3, h3, p3⟩ := zol (enc := enc) (G := G) (f := f) (c := c) J post (pre ++ [a]) (m + c) ρ2 S2 h1 p1 hb' (fun pre1 b post1 m ρ S e h => hs pre1 b post1 m ρ S (by simpa using e) h)
    refine ⟨ρ', S', ?_, by simpa using h3, ?_⟩
    · simp only [List.map_cons, zez, e1, e2, e3]
    · simp only [List.length_cons, Nat.mul_succ]
      exact p3.mono (by omega)
theorem sset_len : ∀ l : List Int, (sset l).length ≤ l.length
  | [] => Nat.le_refl _
  | n :: ns => by
    have ins : ∀ l : List Int, (insS n l).length ≤ l.length + 1 := by
      intro l
      induction l with
      | nil => simp [insS]
      | cons m r ih => simp only [insS]; split <;> (try split) <;> simp <;> omega
    have := ins (sset ns)
    have := sset_len ns
    simp only [sset, List.length_cons]
    omega
theorem sset_idem (l : List Int) : sset (sset l) = sset l := ziw (ze4 _) (ze4 _) fun k => zg4 k _
theorem zkc {l : List Int} (h : l.Pairwise (· < ·)) : sset l = l := ziw (ze4 _) h fun k => zg4 k _
theorem sset_pos {l : List Int} (h : l ≠ []) : 1 ≤ (sset l).length := by
  cases l with
  | nil => exact absurd rfl h
  | cons n ns =>
    have : n ∈ sset (n :: ns) := (zg4 n _).mpr (List.mem_cons_self ..)
    exact List.length_pos_of_mem this
theorem cut_to {α : Type} (xs : List α) (n : Nat) : cutL xs none (some (n : Nat)) = xs.take n := by
  simp only [cutL, HT.sIx_none, HT.sIx_nat, List.drop_zero, Nat.sub_zero]
  rw [List.take_eq_take_iff]
  omega
theorem cut_from {α : Type} (xs : List α) (n : Nat) : cutL xs (some (n : Nat)) none = xs.drop n := by
  simp only [cutL, HT.sIx_none, HT.sIx_nat]
  by_cases h : n ≤ xs.length
  · rw [Nat.min_eq_left h, List.take_of_length_le (by simp)]
  · rw [Nat.min_eq_right (by omega), List.take_of_length_le (by simp), List.drop_eq_nil_of_le (Nat.le_refl _), List.drop_eq_nil_of_le (by omega)]
theorem cut_mid {α : Type} (xs : List α) (n m : Nat) (h : n ≤ m) : cutL xs (some (n : Nat)) (some (m : Nat)) = (xs.drop n).take (m - n) := by
  simp only [cutL, HT.sIx_nat]
  by_cases h1 : n ≤ xs.length
  · rw [Nat.min_eq_left h1, List.take_eq_take_iff]
    simp
    omega
  · have e1 : min n xs.length = xs.length := by omega
    rw [e1, List.drop_eq_nil_of_le (Nat.le_refl _), List.drop_eq_nil_of_le (by omega)]
    simp
theorem rng1_1 {n : Nat} (h : n ≤ 1000000) (S : zaf) : rng1 [.dat (.int (1 + (n : Nat)))] S = .ok ((List.range (1 + n)).map fun i => .int ((i : Nat) : Int)) S := by
  have e : (1 + (n : Int)) = ((1 + n : Nat) : Int) := by omega
  rw [e]
  exact zjk (ze3 (by omega)) S
theorem cut_mid1 {α : Type} (xs : List α) (n : Nat) : cutL xs (some (n : Nat)) (some ((n : Nat) + 1)) = (xs.drop n).take 1 := by
  have := cut_mid xs n (n + 1) (by omega)
  simpa using this
theorem zlz {α : Type} (xs : List α) (n : Nat) : cutL xs (some ((n : Nat) + 1)) none = xs.drop (n + 1) := cut_from xs (n + 1)
theorem zfb (xs : List D) (lo hi : Option Int) (S : zaf) : oSl (.dat (.tup xs)) lo hi S = .ok (.dat (.tup (cutL xs lo hi))) S := rfl
theorem zfp (xs : List D) (lo hi : Option Int) (S : zaf) : oSl (.dat (.lst xs)) lo hi S = .ok (.dat (.lst (cutL xs lo hi))) S := rfl
theorem zgl (ns : List Int) (lo hi : Option Int) (S : zaf) : oSl (.scr ns) lo hi S = .ok (.dat (.lst ((cutL ns lo hi).map .int))) S := rfl
theorem zp3 {n a : Nat} {pre post : List Nat} (h : List.range n = pre ++ a :: post) : a = pre.length ∧ a < n := by
  have h1 : pre.length < n := by
    have := congrArg List.length h
    simp at this
    omega
  have h2 : (List.range n)[pre.length]? = (pre ++ a :: post)[pre.length]? := by rw [h]
  rw [List.getElem?_range h1] at h2
  simp at h2
  omega
theorem mix_set {α : Type} (xs ys : List α) (a : Nat) (d : α) (h1 : a < xs.length) (h2 : a < ys.length) : xs.take a ++ (ys.drop a).take 1 ++ xs.drop (a + 1) = xs.set a (ys.getD a d) := by
  have e : (ys.drop a).take 1 = [ys[a]] := by rw [List.drop_eq_getElem_cons h2]; rfl
  rw [List.set_eq_take_append_cons_drop, if_pos h1, e]
  simp [List.getD_eq_getElem?_getD, List.getElem?_eq_getElem h2]
/-! ## repr -/
mutual
def D.tiny : D → Bool
  | .cas _ => false
  | .dct _ => false
  | .int i => decide (i.natAbs < 10 ^ 40)
  | .lst xs => D.tinys xs
  | .tup xs => D.tinys xs
  | _ => true
def D.tinys : List D → Bool
  | [] => true
  | x :: xs => D.tiny x && D.tinys xs
end
theorem tinys_iff : ∀ {xs : List D}, D.tinys xs = true ↔ ∀ x ∈ xs, x.tiny = true
  | [] => by simp [D.tinys]
  | x :: xs => by simp [D.tinys, tinys_iff (xs := xs)]
theorem zdh (o : D → Option D) (S0 : zaf) (ds : List D) : o1 o [.obj S0.length] (S0 ++ [some ds]) = res1 (o (.lst ds)) (S0 ++ [some ds]) := by simp only [o1, zc3]
end DL
local macro_rules | `(tactic| simp! only [$xs,*] $[$l:location]?) => `(tactic| simp -implicitDefEqProofs only [DL.a_fn, DL.zec, DL.zcm, DL.zd_, DL.zd2, DL.zdt, DL.zdb, DL.zbl, DL.za5, DL.c_ok, DL.zf6, DL.c_bl, DL.zge, DL.zgg, DL.c_or, DL.zde, DL.zfr, DL.zg0, DL.zg3, DL.zdc, DL.a_tg, DL.zdx, DL.zb6, DL.zgx, DL.Res.bind_ok, DL.Res.bind_ex, DL.Res.bindS_ok, DL.Res.bindS_ex, DL.zc4, DL.a_c, DL.a_x2, DL.a_o2, DL.zdl, DL.a_xN, DL.zdw, DL.zgr, DL.a_o1, DL.zf9, DL.zgc, DL.zg1, DL.zbk, DL.zbm, DL.zb5, DL.zb4, DL.zdz, DL.zfx, DL.zgh, DL.zft, DL.zfu, DL.zgi, DL.zb8, DL.zbh, DL.za1, DL.za0, DL.za8, DL.zaz, DL.zfv, DL.a_or, DL.zca, DL.zcg, DL.zf5, DL.zgy, DL.zgk, DL.zd1, DL.a_if, DL.zgq, DL.zda, DL.zb7, DL.zbp, DL.za9, DL.zbi, DL.zcd, DL.a_it, DL.zb_, DL.za6, DL.a_lc, DL.zcb, DL.zcc, DL.zgv, DL.zg_, DL.zf3, DL.zgt, DL.zfw, DL.zgd, DL.zfz, DL.zgb, DL.zgo, DL.zdq, DL.a_rd, Option.bind_some, DL.zcf, DL.zck, DL.zci, DL.za7, List.map_cons, List.map_nil, List.length_cons, List.length_nil, Nat.reduceSub, Nat.reduceAdd, List.replicate_succ, List.replicate_zero, List.cons_append, List.nil_append, List.append_nil, List.getElem?_cons_zero, List.getElem?_cons_succ, List.set_cons_zero, List.set_cons_succ, List.take_length, cond_true, cond_false, Bool.not_true, Bool.not_false, DL.zgs, DL.zgf, DL.zgm, DL.zgp, DL.zdj, DL.zdd, DL.zce, DL.zbo, DL.zdy, DL.zd0, DL.zfq, DL.ze2, DL.zcj, DL.zcl, DL.zbn, DL.zbj, DL.zf8, DL.zdh, DL.zfb, DL.zfp, DL.zgl, DL.zc0, DL.zdf, DL.zgz, DL.zdk, DL.zf7, DL.zf4, DL.zga, DL.zdm, DL.zdg, DL.za4, DL.za3, DL.zc1, DL.zbb, DL.zas, Option.map_some, DL.zau, DL.zc3, DL.zbu, DL.zbe, DL.lit2, DL.lit3, Bool.true_and, Bool.false_and, Bool.and_true, Bool.and_false, Bool.true_or, Bool.false_or, Bool.or_true, Bool.or_false, Bool.not_not, DL.a_sl, DL.zg2, DL.zgw, DL.zb9, DL.zdi, DL.zf0, DL.zdv, DL.zdp, DL.zds, DL.zch, DL.zb0, $xs,*] $[$l:location]?)
set_option maxHeartbeats 400000
namespace T45
open PySem PySem.Spec PyProof.Rows L2 DL
theorem atI_in {α : Type} {xs : List α} {i : Int} (h0 : 0 ≤ i) (h1 : i < xs.length) : atI xs i = some (xs[i.toNat]'(by omega)) := by
  unfold atI ixN
  rw [if_pos h0, if_pos h1]
  simp only [Option.bind_some]
  rw [List.getElem?_eq_getElem]
theorem at2_0 {α : Type} (a b : α) : atI [a, b] 0 = some a := rfl
theorem at2_1 {α : Type} (a b : α) : atI [a, b] 1 = some b := rfl
theorem at3_0 {α : Type} (a b c : α) : atI [a, b, c] 0 = some a := rfl
theorem zfc {α : Type} {xs : List α} {n : Nat} {d : α} (h : n < xs.length) : xs.getD n d ∈ xs := by
  rw [List.getD_eq_getElem?_getD, List.getElem?_eq_getElem h]
  exact List.getElem_mem _
theorem atI_getD {α : Type} {xs : List α} {i : Int} (d : α) (h0 : 0 ≤ i) (h1 : i < xs.length) : atI xs i = some (xs.getD i.toNat d) := by
  rw [atI_in h0 h1, List.getD_eq_getElem?_getD, List.getElem?_eq_getElem (by omega)]
  rfl
theorem zipD_map (xs ys : List D) : zipD xs ys = (xs.zip ys).map fun p => zo4 p.1 p.2 := by simp [zipD, List.zip, List.map_zipWith]
theorem zni {α β : Type} {m : Nat} {f : α → List β} : ∀ {l : List α}, (∀ x ∈ l, (f x).length ≤ m) → (l.flatMap f).length ≤ l.length * m
  | [], _ => by simp
  | x :: r, h => by
    have ih := zni (l := r) fun y hy => h y (List.mem_cons_of_mem _ hy)
    have := h x (List.mem_cons_self ..)
    simp only [List.flatMap_cons, List.length_append, List.length_cons, Nat.succ_mul]
    omega
theorem enum_map {α : Type} (e : α → D) (xs : List α) : znc (xs.map e) = (xs.zipIdx.map fun p => (p.2, p.1)).map fun p => zo4 (.int ((p.1 : Nat) : Int)) (e p.2) := by
  unfold znc
  rw [List.map_map]
  apply List.ext_getElem
  · simp
  · intro i h1 h2
    simp
theorem ints_of {zs : List D} (h : ∀ z ∈ zs, ∃ v : Int, z = .int v) : ∃ r : List Int, zs = r.map .int := by
  induction zs with
  | nil => exact ⟨[], rfl⟩
  | cons z zs ih =>
    obtain ⟨v, rfl⟩ := h z (List.mem_cons_self ..)
    obtain ⟨r, rfl⟩ := ih fun y hy => h y (List.mem_cons_of_mem _ hy)
    exact ⟨v :: r, rfl⟩
theorem a_retN (l : LFn) (ρ : zat) (S : zaf) : sRetN l ρ S = (l ρ S).bindS ρ fun ds S1 => .rt (.obj S1.length) (S1 ++ [some ds]) := rfl
theorem a_list (f : XFn) (ρ : zat) (S : zaf) : lList f ρ S = (f ρ S).bind fun x S1 => match rd S1 x with
  | some (.lst xs) => .ok xs S1
  | some (.tup xs) => .ok xs S1
  | _ => .bad := rfl
/-! ## try, slices, equality, loops that end early -/
theorem cut_1 {α : Type} (xs : List α) : cutL xs (some 1) none = xs.drop 1 := cut_from xs 1
theorem dEq_p {n m : Nat} {a b : D} {p : Bool} (ha : a.fit n = true) (hb : b.fit m = true) (na : a.noB = true) (nb : b.noB = true) (h : p = true ↔ a = b) (hn : n ≤ 64 := by decide) : dEq a b = some (.bl p) := by
  rw [zoh ha hb hn]
  have e : dEqB a b = p := by
    have := znk na nb
    cases hp : dEqB a b <;> cases q : p <;> simp_all
  rw [e]
theorem dNe_p {n m : Nat} {a b : D} {p : Bool} (ha : a.fit n = true) (hb : b.fit m = true) (na : a.noB = true) (nb : b.noB = true) (h : p = true ↔ a = b) (hn : n ≤ 64 := by decide) : dNe a b = some (.bl (!p)) := by
  rw [dNe_fit ha hb hn]
  have e : dEqB a b = p := by
    have := znk na nb
    cases hp : dEqB a b <;> cases q : p <;> simp_all
  rw [e]
theorem dInB_iff {d : D} {xs : List D} (nd : d.noB = true) (nx : D.noBs xs = true) : dInB d xs = true ↔ d ∈ xs := by
  unfold dInB
  rw [List.any_eq_true]
  constructor
  · rintro ⟨x, hx, h⟩
    have := (znk (noBs_iff.mp nx x hx) nd).mp h
    exact this ▸ hx
  · intro h
    exact ⟨d, h, (znk nd nd).mpr rfl⟩
theorem dIn_lp {n m : Nat} {d : D} {xs : List D} {p : Bool} (hd : d.fit n = true) (hx : D.fits m xs = true) (nd : d.noB = true) (nx : D.noBs xs = true) (h : p = true ↔ d ∈ xs) (hn : n ≤ 64 := by decide) : dIn d (.lst xs) = some (.bl p) := by
  rw [dIn_l hd hx hn]
  have := dInB_iff nd nx
  have e : dInB d xs = p := by cases hp : dInB d xs <;> cases q : p <;> simp_all
  rw [e]
theorem atI_0 (x : D) (l : List D) : atI (x :: l) 0 = some x := by
  rw [atI_in (by decide) (by simp)]
  rfl
theorem zhk (d : D) (S : zaf) : zco [.dat d] S = .ok (.dat (.bl (d.isI && !d.isB))) S := by
  unfold zco zmg
  simp! only []
def zm3 (d : D) (a b : Int) : Bool := match d with | .int i => decide (a ≤ i) && decide (i ≤ b) | _ => false
theorem zi6 (d : D) (a b : Int) (S : zaf) : ze7 [.dat d, .dat (.int a), .dat (.int b)] S = .ok (.dat (.bl (zm3 d a b))) S := by
  unfold ze7 zmu
  simp! only [zhk]
  cases d <;> simp -implicitDefEqProofs only [D.isI, D.isB, zm3, a_fn, zec, zcm, zd_, zd2, zdt, zdb, zbl, za5, c_ok, zf6, c_bl, zge, zgg, c_or, zde, zfr, zg0, zg3, zdc, a_tg, zdx, zb6, zgx, Res.bind_ok, Res.bind_ex, Res.bindS_ok, Res.bindS_ex, zc4, a_c, a_x2, a_o2, zdl, a_xN, zdw, zgr, a_o1, zf9, zgc, zg1, zbk, zbm, zb5, zb4, zdz, zfx, zgh, zft, zfu, zgi, zb8, zbh, za1, za0, za8, zaz, zfv, a_or, zca, zcg, zf5, zgy, zgk, zd1, a_if, zgq, zda, zb7, zbp, za9, zbi, zcd, a_it, zb_, za6, a_lc, zcb, zcc, zgv, zg_, zf3, zgt, zfw, zgd, zfz, zgb, zgo, zdq, a_rd, Option.bind_some, zcf, zck, zci, za7, List.map_cons, List.map_nil, List.length_cons, List.length_nil, Nat.reduceSub, Nat.reduceAdd, List.replicate_succ, List.replicate_zero, List.cons_append, List.nil_append, List.append_nil, List.getElem?_cons_zero, List.getElem?_cons_succ, List.set_cons_zero, List.set_cons_succ, List.take_length, cond_true, cond_false, Bool.not_true, Bool.not_false, zgs, zgf, zgm, zgp, zdj, zdd, zce, zbo, zdy, zd0, zfq, ze2, zcj, zcl, zbn, zbj, zf8, zdh, zfb, zfp, zgl, zc0, zdf, zgz, zdk, zf7, zf4, zga, zdm, zdg, za4, za3, zc1, zbb, zas, Option.map_some, zau, zc3, zbu, zbe, lit2, lit3, Bool.true_and, Bool.false_and, Bool.and_true, Bool.and_false, Bool.true_or, Bool.false_or, Bool.or_true, Bool.or_false, Bool.not_not, a_sl, zg2, zgw, zb9, zdi, zf0, zdv, zdp, zds, zch, zb0]
def zl6 : D → Bool | .int i => decide (i ≥ 0) | _ => false
theorem zns (d : D) (S : zaf) : zio [.dat d] S = .ok (.dat (.bl (zl6 d))) S := by
  unfold zio zpq
  simp! only [zhk]
  cases d <;> simp -implicitDefEqProofs only [D.isI, D.isB, zl6, a_fn, zec, zcm, zd_, zd2, zdt, zdb, zbl, za5, c_ok, zf6, c_bl, zge, zgg, c_or, zde, zfr, zg0, zg3, zdc, a_tg, zdx, zb6, zgx, Res.bind_ok, Res.bind_ex, Res.bindS_ok, Res.bindS_ex, zc4, a_c, a_x2, a_o2, zdl, a_xN, zdw, zgr, a_o1, zf9, zgc, zg1, zbk, zbm, zb5, zb4, zdz, zfx, zgh, zft, zfu, zgi, zb8, zbh, za1, za0, za8, zaz, zfv, a_or, zca, zcg, zf5, zgy, zgk, zd1, a_if, zgq, zda, zb7, zbp, za9, zbi, zcd, a_it, zb_, za6, a_lc, zcb, zcc, zgv, zg_, zf3, zgt, zfw, zgd, zfz, zgb, zgo, zdq, a_rd, Option.bind_some, zcf, zck, zci, za7, List.map_cons, List.map_nil, List.length_cons, List.length_nil, Nat.reduceSub, Nat.reduceAdd, List.replicate_succ, List.replicate_zero, List.cons_append, List.nil_append, List.append_nil, List.getElem?_cons_zero, List.getElem?_cons_succ, List.set_cons_zero, List.set_cons_succ, List.take_length, cond_true, cond_false, Bool.not_true, Bool.not_false, zgs, zgf, zgm, zgp, zdj, zdd, zce, zbo, zdy, zd0, zfq, ze2, zcj, zcl, zbn, zbj, zf8, zdh, zfb, zfp, zgl, zc0, zdf, zgz, zdk, zf7, zf4, zga, zdm, zdg, za4, za3, zc1, zbb, zas, Option.map_some, zau, zc3, zbu, zbe, lit2, lit3, Bool.true_and, Bool.false_and, Bool.and_true, Bool.and_false, Bool.true_or, Bool.false_or, Bool.or_true, Bool.or_false, Bool.not_not, a_sl, zg2, zgw, zb9, zdi, zf0, zdv, zdp, zds, zch, zb0]
theorem vals_ints : ∀ {xs : List D}, xs.all zl6 = true → ∃ a : List Int, xs = a.map .int ∧ ∀ i ∈ a, 0 ≤ i
  | [], _ => ⟨[], rfl, by simp⟩
  | x :: xs, h => by
    simp only [List.all_cons, Bool.and_eq_true] at h
    obtain ⟨a, e, p⟩ := vals_ints h.2
    have h1 := h.1
    cases x <;> simp only [zl6, decide_eq_true_eq, Bool.false_eq_true] at h1
    rename_i i
    exact ⟨i :: a, by rw [e]; rfl, by simp only [List.mem_cons]; exact fun j q => q.elim (fun e => e ▸ h1) (p j)⟩
def colB (xs : List D) : Bool := match zhf xs with | some ns => decide (ns = sset ns) | none => false
def zhz : D → Bool
  | .non => true
  | .tup xs => (decide (1 ≤ (xs.length : Int)) && decide ((xs.length : Int) ≤ 3)) && (xs.all zl6 && colB xs)
  | _ => false
theorem is_column_ok (d : D) (S : zaf) : zi0 [.dat d] S = .ok (.dat (.bl (zhz d))) S := by
  unfold zi0 zn3
  simp! only []
  cases d 
  case tup xs =>
    simp -implicitDefEqProofs only [D.isN, D.isT, zhz, a_fn, zec, zcm, zd_, zd2, zdt, zdb, zbl, za5, c_ok, zf6, c_bl, zge, zgg, c_or, zde, zfr, zg0, zg3, zdc, a_tg, zdx, zb6, zgx, Res.bind_ok, Res.bind_ex, Res.bindS_ok, Res.bindS_ex, zc4, a_c, a_x2, a_o2, zdl, a_xN, zdw, zgr, a_o1, zf9, zgc, zg1, zbk, zbm, zb5, zb4, zdz, zfx, zgh, zft, zfu, zgi, zb8, zbh, za1, za0, za8, zaz, zfv, a_or, zca, zcg, zf5, zgy, zgk, zd1, a_if, zgq, zda, zb7, zbp, za9, zbi, zcd, a_it, zb_, za6, a_lc, zcb, zcc, zgv, zg_, zf3, zgt, zfw, zgd, zfz, zgb, zgo, zdq, a_rd, Option.bind_some, zcf, zck, zci, za7, List.map_cons, List.map_nil, List.length_cons, List.length_nil, Nat.reduceSub, Nat.reduceAdd, List.replicate_succ, List.replicate_zero, List.cons_append, List.nil_append, List.append_nil, List.getElem?_cons_zero, List.getElem?_cons_succ, List.set_cons_zero, List.set_cons_succ, List.take_length, cond_true, cond_false, Bool.not_true, Bool.not_false, zgs, zgf, zgm, zgp, zdj, zdd, zce, zbo, zdy, zd0, zfq, ze2, zcj, zcl, zbn, zbj, zf8, zdh, zfb, zfp, zgl, zc0, zdf, zgz, zdk, zf7, zf4, zga, zdm, zdg, za4, za3, zc1, zbb, zas, Option.map_some, zau, zc3, zbu, zbe, lit2, lit3, Bool.true_and, Bool.false_and, Bool.and_true, Bool.and_false, Bool.true_or, Bool.false_or, Bool.or_true, Bool.or_false, Bool.not_not, a_sl, zg2, zgw, zb9, zdi, zf0, zdv, zdp, zds, zch, zb0]
    cases h : (decide (1 ≤ (xs.length : Int)) && decide ((xs.length : Int) ≤ 3))
    · simp! only []
    · have hl : szB xs.length = true := by
        rw [← szB_iff]
        simp only [Bool.and_eq_true, decide_eq_true_eq] at h
        unfold sizeLine
        omega
      rw [hl]
      simp! only []
      rw [zfm (q := fun d => .bl (zl6 d)) xs ?h]
      case h => intro d _; exact ⟨_, rfl, rfl, by simp! only [zns]⟩
      simp! only [zc6]
      cases hv : xs.all zl6
      · simp! only []
      · obtain ⟨a, rfl, ha⟩ := vals_ints hv
        simp! only [zc0]
        rw [zpe a (by simp only [List.length_map, Bool.and_eq_true, decide_eq_true_eq] at h; omega)]
        simp! only [zng, colB, zd6]
  all_goals simp -implicitDefEqProofs only [D.isN, D.isT, zhz, a_fn, zec, zcm, zd_, zd2, zdt, zdb, zbl, za5, c_ok, zf6, c_bl, zge, zgg, c_or, zde, zfr, zg0, zg3, zdc, a_tg, zdx, zb6, zgx, Res.bind_ok, Res.bind_ex, Res.bindS_ok, Res.bindS_ex, zc4, a_c, a_x2, a_o2, zdl, a_xN, zdw, zgr, a_o1, zf9, zgc, zg1, zbk, zbm, zb5, zb4, zdz, zfx, zgh, zft, zfu, zgi, zb8, zbh, za1, za0, za8, zaz, zfv, a_or, zca, zcg, zf5, zgy, zgk, zd1, a_if, zgq, zda, zb7, zbp, za9, zbi, zcd, a_it, zb_, za6, a_lc, zcb, zcc, zgv, zg_, zf3, zgt, zfw, zgd, zfz, zgb, zgo, zdq, a_rd, Option.bind_some, zcf, zck, zci, za7, List.map_cons, List.map_nil, List.length_cons, List.length_nil, Nat.reduceSub, Nat.reduceAdd, List.replicate_succ, List.replicate_zero, List.cons_append, List.nil_append, List.append_nil, List.getElem?_cons_zero, List.getElem?_cons_succ, List.set_cons_zero, List.set_cons_succ, List.take_length, cond_true, cond_false, Bool.not_true, Bool.not_false, zgs, zgf, zgm, zgp, zdj, zdd, zce, zbo, zdy, zd0, zfq, ze2, zcj, zcl, zbn, zbj, zf8, zdh, zfb, zfp, zgl, zc0, zdf, zgz, zdk, zf7, zf4, zga, zdm, zdg, za4, za3, zc1, zbb, zas, Option.map_some, zau, zc3, zbu, zbe, lit2, lit3, Bool.true_and, Bool.false_and, Bool.and_true, Bool.and_false, Bool.true_or, Bool.false_or, Bool.or_true, Bool.or_false, Bool.not_not, a_sl, zg2, zgw, zb9, zdi, zf0, zdv, zdp, zds, zch, zb0]
theorem zkl {c : D} (h : zhz c = true) : c = .non ∨ ∃ ns : List Int, c = .tup (ns.map .int) ∧ 1 ≤ ns.length ∧ ns.length ≤ 3 ∧ (∀ i ∈ ns, 0 ≤ i) ∧ ns = sset ns := by
  cases c <;> simp only [zhz, Bool.false_eq_true] at h
  · exact .inl rfl
  · simp only [Bool.and_eq_true, decide_eq_true_eq] at h
    obtain ⟨⟨h1, h2⟩, h3, h4⟩ := h
    obtain ⟨a, rfl, ha⟩ := vals_ints h3
    simp only [List.length_map] at h1 h2
    simp only [colB, zd6, decide_eq_true_eq] at h4
    exact .inr ⟨a, rfl, by omega, by omega, ha, h4⟩
def inC (d : D) : D → Bool | .tup xs => dInB d xs | _ => false
def zeu (c d : D) : Bool := zl6 d && (c.isN || inC d c)
theorem zig (c d : D) (hc : zhz c = true) (S : zaf) : zeo [.dat c, .dat d] S = .ok (.dat (.bl (zeu c d))) S := by
  unfold zeo zlf
  simp! only [zns]
  cases hv : zl6 d
  · simp -implicitDefEqProofs only [zeu, hv, a_fn, zec, zcm, zd_, zd2, zdt, zdb, zbl, za5, c_ok, zf6, c_bl, zge, zgg, c_or, zde, zfr, zg0, zg3, zdc, a_tg, zdx, zb6, zgx, Res.bind_ok, Res.bind_ex, Res.bindS_ok, Res.bindS_ex, zc4, a_c, a_x2, a_o2, zdl, a_xN, zdw, zgr, a_o1, zf9, zgc, zg1, zbk, zbm, zb5, zb4, zdz, zfx, zgh, zft, zfu, zgi, zb8, zbh, za1, za0, za8, zaz, zfv, a_or, zca, zcg, zf5, zgy, zgk, zd1, a_if, zgq, zda, zb7, zbp, za9, zbi, zcd, a_it, zb_, za6, a_lc, zcb, zcc, zgv, zg_, zf3, zgt, zfw, zgd, zfz, zgb, zgo, zdq, a_rd, Option.bind_some, zcf, zck, zci, za7, List.map_cons, List.map_nil, List.length_cons, List.length_nil, Nat.reduceSub, Nat.reduceAdd, List.replicate_succ, List.replicate_zero, List.cons_append, List.nil_append, List.append_nil, List.getElem?_cons_zero, List.getElem?_cons_succ, List.set_cons_zero, List.set_cons_succ, List.take_length, cond_true, cond_false, Bool.not_true, Bool.not_false, zgs, zgf, zgm, zgp, zdj, zdd, zce, zbo, zdy, zd0, zfq, ze2, zcj, zcl, zbn, zbj, zf8, zdh, zfb, zfp, zgl, zc0, zdf, zgz, zdk, zf7, zf4, zga, zdm, zdg, za4, za3, zc1, zbb, zas, Option.map_some, zau, zc3, zbu, zbe, lit2, lit3, Bool.true_and, Bool.false_and, Bool.and_true, Bool.and_false, Bool.true_or, Bool.false_or, Bool.or_true, Bool.or_false, Bool.not_not, a_sl, zg2, zgw, zb9, zdi, zf0, zdv, zdp, zds, zch, zb0]
  · rcases zkl hc with rfl | ⟨ns, rfl, _⟩
    · simp -implicitDefEqProofs only [zeu, hv, a_fn, zec, zcm, zd_, zd2, zdt, zdb, zbl, za5, c_ok, zf6, c_bl, zge, zgg, c_or, zde, zfr, zg0, zg3, zdc, a_tg, zdx, zb6, zgx, Res.bind_ok, Res.bind_ex, Res.bindS_ok, Res.bindS_ex, zc4, a_c, a_x2, a_o2, zdl, a_xN, zdw, zgr, a_o1, zf9, zgc, zg1, zbk, zbm, zb5, zb4, zdz, zfx, zgh, zft, zfu, zgi, zb8, zbh, za1, za0, za8, zaz, zfv, a_or, zca, zcg, zf5, zgy, zgk, zd1, a_if, zgq, zda, zb7, zbp, za9, zbi, zcd, a_it, zb_, za6, a_lc, zcb, zcc, zgv, zg_, zf3, zgt, zfw, zgd, zfz, zgb, zgo, zdq, a_rd, Option.bind_some, zcf, zck, zci, za7, List.map_cons, List.map_nil, List.length_cons, List.length_nil, Nat.reduceSub, Nat.reduceAdd, List.replicate_succ, List.replicate_zero, List.cons_append, List.nil_append, List.append_nil, List.getElem?_cons_zero, List.getElem?_cons_succ, List.set_cons_zero, List.set_cons_succ, List.take_length, cond_true, cond_false, Bool.not_true, Bool.not_false, zgs, zgf, zgm, zgp, zdj, zdd, zce, zbo, zdy, zd0, zfq, ze2, zcj, zcl, zbn, zbj, zf8, zdh, zfb, zfp, zgl, zc0, zdf, zgz, zdk, zf7, zf4, zga, zdm, zdg, za4, za3, zc1, zbb, zas, Option.map_some, zau, zc3, zbu, zbe, lit2, lit3, Bool.true_and, Bool.false_and, Bool.and_true, Bool.and_false, Bool.true_or, Bool.false_or, Bool.or_true, Bool.or_false, Bool.not_not, a_sl, zg2, zgw, zb9, zdi, zf0, zdv, zdp, zds, zch, zb0, D.isN]
    · have : dIn d (.tup (ns.map .int)) = some (.bl (dInB d (ns.map .int))) := dIn_t (n := 1) (m := 0) (by cases d <;> first | rfl | cases hv) (ze0 0 ns)
      simp -implicitDefEqProofs only [zeu, hv, a_fn, zec, zcm, zd_, zd2, zdt, zdb, zbl, za5, c_ok, zf6, c_bl, zge, zgg, c_or, zde, zfr, zg0, zg3, zdc, a_tg, zdx, zb6, zgx, Res.bind_ok, Res.bind_ex, Res.bindS_ok, Res.bindS_ex, zc4, a_c, a_x2, a_o2, zdl, a_xN, zdw, zgr, a_o1, zf9, zgc, zg1, zbk, zbm, zb5, zb4, zdz, zfx, zgh, zft, zfu, zgi, zb8, zbh, za1, za0, za8, zaz, zfv, a_or, zca, zcg, zf5, zgy, zgk, zd1, a_if, zgq, zda, zb7, zbp, za9, zbi, zcd, a_it, zb_, za6, a_lc, zcb, zcc, zgv, zg_, zf3, zgt, zfw, zgd, zfz, zgb, zgo, zdq, a_rd, Option.bind_some, zcf, zck, zci, za7, List.map_cons, List.map_nil, List.length_cons, List.length_nil, Nat.reduceSub, Nat.reduceAdd, List.replicate_succ, List.replicate_zero, List.cons_append, List.nil_append, List.append_nil, List.getElem?_cons_zero, List.getElem?_cons_succ, List.set_cons_zero, List.set_cons_succ, List.take_length, cond_true, cond_false, Bool.not_true, Bool.not_false, zgs, zgf, zgm, zgp, zdj, zdd, zce, zbo, zdy, zd0, zfq, ze2, zcj, zcl, zbn, zbj, zf8, zdh, zfb, zfp, zgl, zc0, zdf, zgz, zdk, zf7, zf4, zga, zdm, zdg, za4, za3, zc1, zbb, zas, Option.map_some, zau, zc3, zbu, zbe, lit2, lit3, Bool.true_and, Bool.false_and, Bool.and_true, Bool.and_false, Bool.true_or, Bool.false_or, Bool.or_true, Bool.or_false, Bool.not_not, a_sl, zg2, zgw, zb9, zdi, zf0, zdv, zdp, zds, zch, zb0, D.isN, this, inC]
def zjj : D → Bool
  | .tup xs => (decide (1 ≤ (xs.length : Int)) && decide ((xs.length : Int) ≤ 4)) && (xs.all zhz && decide (((xs.filter fun c => !c.isN).length : Int) ≤ 2))
  | _ => false
theorem zqv (d : D) (S : zaf) : zh5 [.dat d] S = .ok (.dat (.bl (zjj d))) S := by
  unfold zh5 zmy
  simp! only []
  cases d
  case tup xs =>
    simp -implicitDefEqProofs only [D.isT, zjj, a_fn, zec, zcm, zd_, zd2, zdt, zdb, zbl, za5, c_ok, zf6, c_bl, zge, zgg, c_or, zde, zfr, zg0, zg3, zdc, a_tg, zdx, zb6, zgx, Res.bind_ok, Res.bind_ex, Res.bindS_ok, Res.bindS_ex, zc4, a_c, a_x2, a_o2, zdl, a_xN, zdw, zgr, a_o1, zf9, zgc, zg1, zbk, zbm, zb5, zb4, zdz, zfx, zgh, zft, zfu, zgi, zb8, zbh, za1, za0, za8, zaz, zfv, a_or, zca, zcg, zf5, zgy, zgk, zd1, a_if, zgq, zda, zb7, zbp, za9, zbi, zcd, a_it, zb_, za6, a_lc, zcb, zcc, zgv, zg_, zf3, zgt, zfw, zgd, zfz, zgb, zgo, zdq, a_rd, Option.bind_some, zcf, zck, zci, za7, List.map_cons, List.map_nil, List.length_cons, List.length_nil, Nat.reduceSub, Nat.reduceAdd, List.replicate_succ, List.replicate_zero, List.cons_append, List.nil_append, List.append_nil, List.getElem?_cons_zero, List.getElem?_cons_succ, List.set_cons_zero, List.set_cons_succ, List.take_length, cond_true, cond_false, Bool.not_true, Bool.not_false, zgs, zgf, zgm, zgp, zdj, zdd, zce, zbo, zdy, zd0, zfq, ze2, zcj, zcl, zbn, zbj, zf8, zdh, zfb, zfp, zgl, zc0, zdf, zgz, zdk, zf7, zf4, zga, zdm, zdg, za4, za3, zc1, zbb, zas, Option.map_some, zau, zc3, zbu, zbe, lit2, lit3, Bool.true_and, Bool.false_and, Bool.and_true, Bool.and_false, Bool.true_or, Bool.false_or, Bool.or_true, Bool.or_false, Bool.not_not, a_sl, zg2, zgw, zb9, zdi, zf0, zdv, zdp, zds, zch, zb0]
    cases h : (decide (1 ≤ (xs.length : Int)) && decide ((xs.length : Int) ≤ 4))
    · simp! only []
    · have hl : szB xs.length = true := by
        rw [← szB_iff]
        simp only [Bool.and_eq_true, decide_eq_true_eq] at h
        unfold sizeLine
        omega
      rw [hl]
      simp! only []
      rw [zfm (q := fun d => .bl (zhz d)) xs ?h]
      case h => intro d _; exact ⟨_, rfl, rfl, by simp! only [is_column_ok]⟩
      simp! only [zc6]
      rw [zmm (p := fun c => !c.isN) (q := id) xs ?h]
      case h => intro d _; exact ⟨_, rfl, by simp! only [], fun _ => by simp! only [id]⟩
      simp! only [List.map_id]
      cases hv : xs.all zhz <;> simp! only [hl]
  all_goals simp -implicitDefEqProofs only [D.isT, zjj, a_fn, zec, zcm, zd_, zd2, zdt, zdb, zbl, za5, c_ok, zf6, c_bl, zge, zgg, c_or, zde, zfr, zg0, zg3, zdc, a_tg, zdx, zb6, zgx, Res.bind_ok, Res.bind_ex, Res.bindS_ok, Res.bindS_ex, zc4, a_c, a_x2, a_o2, zdl, a_xN, zdw, zgr, a_o1, zf9, zgc, zg1, zbk, zbm, zb5, zb4, zdz, zfx, zgh, zft, zfu, zgi, zb8, zbh, za1, za0, za8, zaz, zfv, a_or, zca, zcg, zf5, zgy, zgk, zd1, a_if, zgq, zda, zb7, zbp, za9, zbi, zcd, a_it, zb_, za6, a_lc, zcb, zcc, zgv, zg_, zf3, zgt, zfw, zgd, zfz, zgb, zgo, zdq, a_rd, Option.bind_some, zcf, zck, zci, za7, List.map_cons, List.map_nil, List.length_cons, List.length_nil, Nat.reduceSub, Nat.reduceAdd, List.replicate_succ, List.replicate_zero, List.cons_append, List.nil_append, List.append_nil, List.getElem?_cons_zero, List.getElem?_cons_succ, List.set_cons_zero, List.set_cons_succ, List.take_length, cond_true, cond_false, Bool.not_true, Bool.not_false, zgs, zgf, zgm, zgp, zdj, zdd, zce, zbo, zdy, zd0, zfq, ze2, zcj, zcl, zbn, zbj, zf8, zdh, zfb, zfp, zgl, zc0, zdf, zgz, zdk, zf7, zf4, zga, zdm, zdg, za4, za3, zc1, zbb, zas, Option.map_some, zau, zc3, zbu, zbe, lit2, lit3, Bool.true_and, Bool.false_and, Bool.and_true, Bool.and_false, Bool.true_or, Bool.false_or, Bool.or_true, Bool.or_false, Bool.not_not, a_sl, zg2, zgw, zb9, zdi, zf0, zdv, zdp, zds, zch, zb0]
theorem zjq {d : D} (h : zjj d = true) : ∃ cs : List D, d = .tup cs ∧ 1 ≤ cs.length ∧ cs.length ≤ 4 ∧ ∀ c ∈ cs, zhz c = true := by
  cases d <;> simp only [zjj, Bool.false_eq_true] at h
  rename_i xs
  simp only [Bool.and_eq_true, decide_eq_true_eq, List.all_eq_true] at h
  exact ⟨xs, rfl, by omega, by omega, h.2.1⟩
theorem zlt (d : D) (S : zaf) : zei [.dat d] S = bif zjj d then .ok (.dat .non) S else .ex "InvalidColumns" S := by
  unfold zei zir
  simp! only [zqv]
  cases zjj d <;> simp! only []
theorem znn {d : D} {a b : Int} (h : zm3 d a b = true) : ∃ i, d = .int i ∧ a ≤ i ∧ i ≤ b := by
  cases d <;> simp only [zm3, Bool.false_eq_true, Bool.and_eq_true, decide_eq_true_eq] at h
  exact ⟨_, rfl, h.1, h.2⟩
def colAt (cs : List D) : D → D | .int i => cs.getD i.toNat .non | _ => .non
def zj9 (cs : List D) : D → Bool
  | .tup xs => ((xs.length : Int) == cs.length) && (cs.zip xs).all fun p => zeu p.1 p.2
  | _ => false
theorem zjp (cs : List D) (d : D) (hc : ∀ c ∈ cs, zhz c = true) (hl : cs.length ≤ 4) (S : zaf) : zgu [.dat (.tup cs), .dat d] S = .ok (.dat (.bl (zj9 cs d))) S := by
  unfold zgu zog
  simp! only []
  cases d
  case tup xs =>
    simp -implicitDefEqProofs only [D.isT, zj9, a_fn, zec, zcm, zd_, zd2, zdt, zdb, zbl, za5, c_ok, zf6, c_bl, zge, zgg, c_or, zde, zfr, zg0, zg3, zdc, a_tg, zdx, zb6, zgx, Res.bind_ok, Res.bind_ex, Res.bindS_ok, Res.bindS_ex, zc4, a_c, a_x2, a_o2, zdl, a_xN, zdw, zgr, a_o1, zf9, zgc, zg1, zbk, zbm, zb5, zb4, zdz, zfx, zgh, zft, zfu, zgi, zb8, zbh, za1, za0, za8, zaz, zfv, a_or, zca, zcg, zf5, zgy, zgk, zd1, a_if, zgq, zda, zb7, zbp, za9, zbi, zcd, a_it, zb_, za6, a_lc, zcb, zcc, zgv, zg_, zf3, zgt, zfw, zgd, zfz, zgb, zgo, zdq, a_rd, Option.bind_some, zcf, zck, zci, za7, List.map_cons, List.map_nil, List.length_cons, List.length_nil, Nat.reduceSub, Nat.reduceAdd, List.replicate_succ, List.replicate_zero, List.cons_append, List.nil_append, List.append_nil, List.getElem?_cons_zero, List.getElem?_cons_succ, List.set_cons_zero, List.set_cons_succ, List.take_length, cond_true, cond_false, Bool.not_true, Bool.not_false, zgs, zgf, zgm, zgp, zdj, zdd, zce, zbo, zdy, zd0, zfq, ze2, zcj, zcl, zbn, zbj, zf8, zdh, zfb, zfp, zgl, zc0, zdf, zgz, zdk, zf7, zf4, zga, zdm, zdg, za4, za3, zc1, zbb, zas, Option.map_some, zau, zc3, zbu, zbe, lit2, lit3, Bool.true_and, Bool.false_and, Bool.and_true, Bool.and_false, Bool.true_or, Bool.false_or, Bool.or_true, Bool.or_false, Bool.not_not, a_sl, zg2, zgw, zb9, zdi, zf0, zdv, zdp, zds, zch, zb0, zju]
    have hz : szB (zipD cs xs).length = true := by
      rw [← szB_iff, zipD_map, List.length_map, List.length_zip]
      unfold sizeLine
      omega
    cases h : ((xs.length : Int) == cs.length)
    · simp! only []
    · rw [hz]
      simp! only []
      rw [zipD_map, zcv (q := fun p => .bl (zeu p.1 p.2)) (cs.zip xs) ?h]
      case h => intro p hp; exact ⟨_, rfl, rfl, by simp! only [zig _ _ (hc _ (List.of_mem_zip hp).1)]⟩
      simp! only [zc6]
  all_goals simp -implicitDefEqProofs only [D.isT, zj9, a_fn, zec, zcm, zd_, zd2, zdt, zdb, zbl, za5, c_ok, zf6, c_bl, zge, zgg, c_or, zde, zfr, zg0, zg3, zdc, a_tg, zdx, zb6, zgx, Res.bind_ok, Res.bind_ex, Res.bindS_ok, Res.bindS_ex, zc4, a_c, a_x2, a_o2, zdl, a_xN, zdw, zgr, a_o1, zf9, zgc, zg1, zbk, zbm, zb5, zb4, zdz, zfx, zgh, zft, zfu, zgi, zb8, zbh, za1, za0, za8, zaz, zfv, a_or, zca, zcg, zf5, zgy, zgk, zd1, a_if, zgq, zda, zb7, zbp, za9, zbi, zcd, a_it, zb_, za6, a_lc, zcb, zcc, zgv, zg_, zf3, zgt, zfw, zgd, zfz, zgb, zgo, zdq, a_rd, Option.bind_some, zcf, zck, zci, za7, List.map_cons, List.map_nil, List.length_cons, List.length_nil, Nat.reduceSub, Nat.reduceAdd, List.replicate_succ, List.replicate_zero, List.cons_append, List.nil_append, List.append_nil, List.getElem?_cons_zero, List.getElem?_cons_succ, List.set_cons_zero, List.set_cons_succ, List.take_length, cond_true, cond_false, Bool.not_true, Bool.not_false, zgs, zgf, zgm, zgp, zdj, zdd, zce, zbo, zdy, zd0, zfq, ze2, zcj, zcl, zbn, zbj, zf8, zdh, zfb, zfp, zgl, zc0, zdf, zgz, zdk, zf7, zf4, zga, zdm, zdg, za4, za3, zc1, zbb, zas, Option.map_some, zau, zc3, zbu, zbe, lit2, lit3, Bool.true_and, Bool.false_and, Bool.and_true, Bool.and_false, Bool.true_or, Bool.false_or, Bool.or_true, Bool.or_false, Bool.not_not, a_sl, zg2, zgw, zb9, zdi, zf0, zdv, zdp, zds, zch, zb0]
def isTab (cs : List D) : D → Bool
  | .tup xs => !decide ((xs.length : Int) > 8) && xs.all (zj9 cs)
  | _ => false
theorem zka (cs : List D) (d : D) (hc : ∀ c ∈ cs, zhz c = true) (hl : cs.length ≤ 4) (S : zaf) : zfi [.dat (.tup cs), .dat d] S = .ok (.dat (.bl (isTab cs d))) S := by
  unfold zfi zkw
  simp! only []
  cases d
  case tup xs =>
    simp -implicitDefEqProofs only [D.isT, isTab, a_fn, zec, zcm, zd_, zd2, zdt, zdb, zbl, za5, c_ok, zf6, c_bl, zge, zgg, c_or, zde, zfr, zg0, zg3, zdc, a_tg, zdx, zb6, zgx, Res.bind_ok, Res.bind_ex, Res.bindS_ok, Res.bindS_ex, zc4, a_c, a_x2, a_o2, zdl, a_xN, zdw, zgr, a_o1, zf9, zgc, zg1, zbk, zbm, zb5, zb4, zdz, zfx, zgh, zft, zfu, zgi, zb8, zbh, za1, za0, za8, zaz, zfv, a_or, zca, zcg, zf5, zgy, zgk, zd1, a_if, zgq, zda, zb7, zbp, za9, zbi, zcd, a_it, zb_, za6, a_lc, zcb, zcc, zgv, zg_, zf3, zgt, zfw, zgd, zfz, zgb, zgo, zdq, a_rd, Option.bind_some, zcf, zck, zci, za7, List.map_cons, List.map_nil, List.length_cons, List.length_nil, Nat.reduceSub, Nat.reduceAdd, List.replicate_succ, List.replicate_zero, List.cons_append, List.nil_append, List.append_nil, List.getElem?_cons_zero, List.getElem?_cons_succ, List.set_cons_zero, List.set_cons_succ, List.take_length, cond_true, cond_false, Bool.not_true, Bool.not_false, zgs, zgf, zgm, zgp, zdj, zdd, zce, zbo, zdy, zd0, zfq, ze2, zcj, zcl, zbn, zbj, zf8, zdh, zfb, zfp, zgl, zc0, zdf, zgz, zdk, zf7, zf4, zga, zdm, zdg, za4, za3, zc1, zbb, zas, Option.map_some, zau, zc3, zbu, zbe, lit2, lit3, Bool.true_and, Bool.false_and, Bool.and_true, Bool.and_false, Bool.true_or, Bool.false_or, Bool.or_true, Bool.or_false, Bool.not_not, a_sl, zg2, zgw, zb9, zdi, zf0, zdv, zdp, zds, zch, zb0]
    cases h : decide ((xs.length : Int) > 8)
    · have hz : szB xs.length = true := by
        rw [← szB_iff]
        simp only [decide_eq_false_iff_not] at h
        unfold sizeLine
        omega
      rw [hz]
      simp! only []
      rw [zfm (q := fun p => .bl (zj9 cs p)) xs ?h]
      case h => intro p hp; exact ⟨_, rfl, rfl, by simp! only [zjp cs _ hc hl]⟩
      simp! only [zc6]
    · simp! only []
  all_goals simp -implicitDefEqProofs only [D.isT, isTab, a_fn, zec, zcm, zd_, zd2, zdt, zdb, zbl, za5, c_ok, zf6, c_bl, zge, zgg, c_or, zde, zfr, zg0, zg3, zdc, a_tg, zdx, zb6, zgx, Res.bind_ok, Res.bind_ex, Res.bindS_ok, Res.bindS_ex, zc4, a_c, a_x2, a_o2, zdl, a_xN, zdw, zgr, a_o1, zf9, zgc, zg1, zbk, zbm, zb5, zb4, zdz, zfx, zgh, zft, zfu, zgi, zb8, zbh, za1, za0, za8, zaz, zfv, a_or, zca, zcg, zf5, zgy, zgk, zd1, a_if, zgq, zda, zb7, zbp, za9, zbi, zcd, a_it, zb_, za6, a_lc, zcb, zcc, zgv, zg_, zf3, zgt, zfw, zgd, zfz, zgb, zgo, zdq, a_rd, Option.bind_some, zcf, zck, zci, za7, List.map_cons, List.map_nil, List.length_cons, List.length_nil, Nat.reduceSub, Nat.reduceAdd, List.replicate_succ, List.replicate_zero, List.cons_append, List.nil_append, List.append_nil, List.getElem?_cons_zero, List.getElem?_cons_succ, List.set_cons_zero, List.set_cons_succ, List.take_length, cond_true, cond_false, Bool.not_true, Bool.not_false, zgs, zgf, zgm, zgp, zdj, zdd, zce, zbo, zdy, zd0, zfq, ze2, zcj, zcl, zbn, zbj, zf8, zdh, zfb, zfp, zgl, zc0, zdf, zgz, zdk, zf7, zf4, zga, zdm, zdg, za4, za3, zc1, zbb, zas, Option.map_some, zau, zc3, zbu, zbe, lit2, lit3, Bool.true_and, Bool.false_and, Bool.and_true, Bool.and_false, Bool.true_or, Bool.false_or, Bool.or_true, Bool.or_false, Bool.not_not, a_sl, zg2, zgw, zb9, zdi, zf0, zdv, zdp, zds, zch, zb0]
theorem zm4 (cs : List D) (d : D) (hc : ∀ c ∈ cs, zhz c = true) (hl : cs.length ≤ 4) (S : zaf) : zfd [.dat (.tup cs), .dat d] S = bif isTab cs d then .ok (.dat .non) S else .ex "InvalidTable" S := by
  unfold zfd zjr
  simp! only [zka cs d hc hl]
  cases isTab cs d <;> simp! only []
def zl4 (cs : List D) : D → Bool
  | .tup [a, b] => zm3 a 0 (cs.length - 1) && (b.isN || zeu (colAt cs a) b)
  | _ => false
theorem is_entry_ok (cs : List D) (d : D) (hc : ∀ c ∈ cs, zhz c = true) (S : zaf) : zj3 [.dat (.tup cs), .dat d] S = .ok (.dat (.bl (zl4 cs d))) S := by
  unfold zj3 zpk
  simp! only []
  cases d
  case tup xs =>
    simp -implicitDefEqProofs only [D.isT, a_fn, zec, zcm, zd_, zd2, zdt, zdb, zbl, za5, c_ok, zf6, c_bl, zge, zgg, c_or, zde, zfr, zg0, zg3, zdc, a_tg, zdx, zb6, zgx, Res.bind_ok, Res.bind_ex, Res.bindS_ok, Res.bindS_ex, zc4, a_c, a_x2, a_o2, zdl, a_xN, zdw, zgr, a_o1, zf9, zgc, zg1, zbk, zbm, zb5, zb4, zdz, zfx, zgh, zft, zfu, zgi, zb8, zbh, za1, za0, za8, zaz, zfv, a_or, zca, zcg, zf5, zgy, zgk, zd1, a_if, zgq, zda, zb7, zbp, za9, zbi, zcd, a_it, zb_, za6, a_lc, zcb, zcc, zgv, zg_, zf3, zgt, zfw, zgd, zfz, zgb, zgo, zdq, a_rd, Option.bind_some, zcf, zck, zci, za7, List.map_cons, List.map_nil, List.length_cons, List.length_nil, Nat.reduceSub, Nat.reduceAdd, List.replicate_succ, List.replicate_zero, List.cons_append, List.nil_append, List.append_nil, List.getElem?_cons_zero, List.getElem?_cons_succ, List.set_cons_zero, List.set_cons_succ, List.take_length, cond_true, cond_false, Bool.not_true, Bool.not_false, zgs, zgf, zgm, zgp, zdj, zdd, zce, zbo, zdy, zd0, zfq, ze2, zcj, zcl, zbn, zbj, zf8, zdh, zfb, zfp, zgl, zc0, zdf, zgz, zdk, zf7, zf4, zga, zdm, zdg, za4, za3, zc1, zbb, zas, Option.map_some, zau, zc3, zbu, zbe, lit2, lit3, Bool.true_and, Bool.false_and, Bool.and_true, Bool.and_false, Bool.true_or, Bool.false_or, Bool.or_true, Bool.or_false, Bool.not_not, a_sl, zg2, zgw, zb9, zdi, zf0, zdv, zdp, zds, zch, zb0, zju]
    match xs with
    | [] => simp! only [zl4]
    | [a] => simp! only [zl4]
    | a :: b :: c :: r =>
      have : (((a :: b :: c :: r).length : Int) == 2) = false := by simp only [List.length_cons, beq_eq_false_iff_ne]; omega
      simp only [List.length_cons] at this
      simp! only [zl4, this]
    | [a, b] =>
      simp! only [at2_0, at2_1, zi6, zl4]
      cases h : zm3 a 0 (cs.length - 1)
      · simp! only []
      · obtain ⟨i, rfl, h0, h1⟩ := znn h
        simp! only [at2_0, at2_1]
        cases hb : b.isN
        · simp! only [at2_0, at2_1, atI_getD .non h0 (show i < cs.length by omega), zig _ _ (hc _ (zfc (n := i.toNat) (d := D.non) (by omega))), colAt]
        · simp! only []
  all_goals simp -implicitDefEqProofs only [D.isT, zl4, a_fn, zec, zcm, zd_, zd2, zdt, zdb, zbl, za5, c_ok, zf6, c_bl, zge, zgg, c_or, zde, zfr, zg0, zg3, zdc, a_tg, zdx, zb6, zgx, Res.bind_ok, Res.bind_ex, Res.bindS_ok, Res.bindS_ex, zc4, a_c, a_x2, a_o2, zdl, a_xN, zdw, zgr, a_o1, zf9, zgc, zg1, zbk, zbm, zb5, zb4, zdz, zfx, zgh, zft, zfu, zgi, zb8, zbh, za1, za0, za8, zaz, zfv, a_or, zca, zcg, zf5, zgy, zgk, zd1, a_if, zgq, zda, zb7, zbp, za9, zbi, zcd, a_it, zb_, za6, a_lc, zcb, zcc, zgv, zg_, zf3, zgt, zfw, zgd, zfz, zgb, zgo, zdq, a_rd, Option.bind_some, zcf, zck, zci, za7, List.map_cons, List.map_nil, List.length_cons, List.length_nil, Nat.reduceSub, Nat.reduceAdd, List.replicate_succ, List.replicate_zero, List.cons_append, List.nil_append, List.append_nil, List.getElem?_cons_zero, List.getElem?_cons_succ, List.set_cons_zero, List.set_cons_succ, List.take_length, cond_true, cond_false, Bool.not_true, Bool.not_false, zgs, zgf, zgm, zgp, zdj, zdd, zce, zbo, zdy, zd0, zfq, ze2, zcj, zcl, zbn, zbj, zf8, zdh, zfb, zfp, zgl, zc0, zdf, zgz, zdk, zf7, zf4, zga, zdm, zdg, za4, za3, zc1, zbb, zas, Option.map_some, zau, zc3, zbu, zbe, lit2, lit3, Bool.true_and, Bool.false_and, Bool.and_true, Bool.and_false, Bool.true_or, Bool.false_or, Bool.or_true, Bool.or_false, Bool.not_not, a_sl, zg2, zgw, zb9, zdi, zf0, zdv, zdp, zds, zch, zb0]
def fstI : D → Int | .tup (.int i :: _) => i | _ => 0
def ze9 : D → List D | .tup xs => xs | .lst xs => xs | _ => []
def zq_ (cs : List D) : D → Bool
  | .tup xs => xs.all (zl4 cs) && decide (xs.map fstI = sset (xs.map fstI))
  | _ => false
theorem zkq {cs : List D} {d : D} (h : zl4 cs d = true) : ∃ i b, d = .tup [.int i, b] ∧ 0 ≤ i ∧ i < cs.length ∧ (b = .non ∨ zeu (cs.getD i.toNat .non) b = true) := by
  unfold zl4 at h
  split at h
  · simp only [Bool.and_eq_true] at h
    obtain ⟨i, rfl, h0, h1⟩ := znn h.1
    rename_i b
    refine ⟨i, b, rfl, h0, by omega, ?_⟩
    have h2 := h.2
    cases b <;> first | exact .inl rfl | (right; simpa [D.isN, colAt] using h2)
  · cases h
theorem is_given_ok (cs : List D) (d : D) (hc : ∀ c ∈ cs, zhz c = true) (hd : (ze9 d).length < 64) (S : zaf) : zj1 [.dat (.tup cs), .dat d] S = .ok (.dat (.bl (zq_ cs d))) S := by
  unfold zj1 zpi
  simp! only []
  cases d
  case tup xs =>
    have hz : szB xs.length = true := by
      rw [← szB_iff]
      simp only [ze9] at hd
      unfold sizeLine
      omega
    simp -implicitDefEqProofs only [D.isT, zq_, a_fn, zec, zcm, zd_, zd2, zdt, zdb, zbl, za5, c_ok, zf6, c_bl, zge, zgg, c_or, zde, zfr, zg0, zg3, zdc, a_tg, zdx, zb6, zgx, Res.bind_ok, Res.bind_ex, Res.bindS_ok, Res.bindS_ex, zc4, a_c, a_x2, a_o2, zdl, a_xN, zdw, zgr, a_o1, zf9, zgc, zg1, zbk, zbm, zb5, zb4, zdz, zfx, zgh, zft, zfu, zgi, zb8, zbh, za1, za0, za8, zaz, zfv, a_or, zca, zcg, zf5, zgy, zgk, zd1, a_if, zgq, zda, zb7, zbp, za9, zbi, zcd, a_it, zb_, za6, a_lc, zcb, zcc, zgv, zg_, zf3, zgt, zfw, zgd, zfz, zgb, zgo, zdq, a_rd, Option.bind_some, zcf, zck, zci, za7, List.map_cons, List.map_nil, List.length_cons, List.length_nil, Nat.reduceSub, Nat.reduceAdd, List.replicate_succ, List.replicate_zero, List.cons_append, List.nil_append, List.append_nil, List.getElem?_cons_zero, List.getElem?_cons_succ, List.set_cons_zero, List.set_cons_succ, List.take_length, cond_true, cond_false, Bool.not_true, Bool.not_false, zgs, zgf, zgm, zgp, zdj, zdd, zce, zbo, zdy, zd0, zfq, ze2, zcj, zcl, zbn, zbj, zf8, zdh, zfb, zfp, zgl, zc0, zdf, zgz, zdk, zf7, zf4, zga, zdm, zdg, za4, za3, zc1, zbb, zas, Option.map_some, zau, zc3, zbu, zbe, lit2, lit3, Bool.true_and, Bool.false_and, Bool.and_true, Bool.and_false, Bool.true_or, Bool.false_or, Bool.or_true, Bool.or_false, Bool.not_not, a_sl, zg2, zgw, zb9, zdi, zf0, zdv, zdp, zds, zch, zb0, hz]
    rw [zfm (q := fun p => .bl (zl4 cs p)) xs ?h]
    case h => intro p hp; exact ⟨_, rfl, rfl, by simp! only [is_entry_ok cs _ hc]⟩
    simp! only [zc6]
    cases h : xs.all (zl4 cs)
    · simp! only []
    · simp only [List.all_eq_true] at h
      simp! only [hz]
      rw [zfm (q := fun p => .int (fstI p)) xs ?h]
      case h =>
        intro p hp
        obtain ⟨i, b, rfl, _⟩ := zkq (h p hp)
        exact ⟨_, rfl, rfl, by simp! only [at2_0, fstI]⟩
      have e : (xs.map fun p => D.int (fstI p)) = (xs.map fstI).map .int := by simp
      simp! only [zc0, e]
      rw [sort_ints _ (by simpa [ze9] using hd)]
      simp! only [zng]
  all_goals simp -implicitDefEqProofs only [D.isT, zq_, a_fn, zec, zcm, zd_, zd2, zdt, zdb, zbl, za5, c_ok, zf6, c_bl, zge, zgg, c_or, zde, zfr, zg0, zg3, zdc, a_tg, zdx, zb6, zgx, Res.bind_ok, Res.bind_ex, Res.bindS_ok, Res.bindS_ex, zc4, a_c, a_x2, a_o2, zdl, a_xN, zdw, zgr, a_o1, zf9, zgc, zg1, zbk, zbm, zb5, zb4, zdz, zfx, zgh, zft, zfu, zgi, zb8, zbh, za1, za0, za8, zaz, zfv, a_or, zca, zcg, zf5, zgy, zgk, zd1, a_if, zgq, zda, zb7, zbp, za9, zbi, zcd, a_it, zb_, za6, a_lc, zcb, zcc, zgv, zg_, zf3, zgt, zfw, zgd, zfz, zgb, zgo, zdq, a_rd, Option.bind_some, zcf, zck, zci, za7, List.map_cons, List.map_nil, List.length_cons, List.length_nil, Nat.reduceSub, Nat.reduceAdd, List.replicate_succ, List.replicate_zero, List.cons_append, List.nil_append, List.append_nil, List.getElem?_cons_zero, List.getElem?_cons_succ, List.set_cons_zero, List.set_cons_succ, List.take_length, cond_true, cond_false, Bool.not_true, Bool.not_false, zgs, zgf, zgm, zgp, zdj, zdd, zce, zbo, zdy, zd0, zfq, ze2, zcj, zcl, zbn, zbj, zf8, zdh, zfb, zfp, zgl, zc0, zdf, zgz, zdk, zf7, zf4, zga, zdm, zdg, za4, za3, zc1, zbb, zas, Option.map_some, zau, zc3, zbu, zbe, lit2, lit3, Bool.true_and, Bool.false_and, Bool.and_true, Bool.and_false, Bool.true_or, Bool.false_or, Bool.or_true, Bool.or_false, Bool.not_not, a_sl, zg2, zgw, zb9, zdi, zf0, zdv, zdp, zds, zch, zb0]
def zna (cs : List D) : D → Bool
  | .tup [g, c, w] => zq_ cs g && ((zm3 c 0 (cs.length - 1) && !(inC c (.tup ((ze9 g).map fun e => .int (fstI e))))) && (w.isN || (zeu (colAt cs c) w && (ze9 g).all fun e => match e with | .tup [_, b] => !b.isN | _ => false)))
  | _ => false
theorem isGiv_cases {cs : List D} {d : D} (h : zq_ cs d = true) : ∃ xs, d = .tup xs ∧ (∀ x ∈ xs, zl4 cs x = true) ∧ xs.map fstI = sset (xs.map fstI) := by
  cases d <;> simp only [zq_, Bool.false_eq_true, Bool.and_eq_true, decide_eq_true_eq, List.all_eq_true] at h
  exact ⟨_, rfl, h.1, h.2⟩
def short (d : D) : Prop := match d with | .tup (g :: _) => (ze9 g).length < 64 | _ => True
theorem zqx (cs : List D) (d : D) (hc : ∀ c ∈ cs, zhz c = true) (hd : short d) (S : zaf) : zh4 [.dat (.tup cs), .dat d] S = .ok (.dat (.bl (zna cs d))) S := by
  unfold zh4 zmp
  simp! only []
  cases d
  case tup xs =>
    simp -implicitDefEqProofs only [D.isT, a_fn, zec, zcm, zd_, zd2, zdt, zdb, zbl, za5, c_ok, zf6, c_bl, zge, zgg, c_or, zde, zfr, zg0, zg3, zdc, a_tg, zdx, zb6, zgx, Res.bind_ok, Res.bind_ex, Res.bindS_ok, Res.bindS_ex, zc4, a_c, a_x2, a_o2, zdl, a_xN, zdw, zgr, a_o1, zf9, zgc, zg1, zbk, zbm, zb5, zb4, zdz, zfx, zgh, zft, zfu, zgi, zb8, zbh, za1, za0, za8, zaz, zfv, a_or, zca, zcg, zf5, zgy, zgk, zd1, a_if, zgq, zda, zb7, zbp, za9, zbi, zcd, a_it, zb_, za6, a_lc, zcb, zcc, zgv, zg_, zf3, zgt, zfw, zgd, zfz, zgb, zgo, zdq, a_rd, Option.bind_some, zcf, zck, zci, za7, List.map_cons, List.map_nil, List.length_cons, List.length_nil, Nat.reduceSub, Nat.reduceAdd, List.replicate_succ, List.replicate_zero, List.cons_append, List.nil_append, List.append_nil, List.getElem?_cons_zero, List.getElem?_cons_succ, List.set_cons_zero, List.set_cons_succ, List.take_length, cond_true, cond_false, Bool.not_true, Bool.not_false, zgs, zgf, zgm, zgp, zdj, zdd, zce, zbo, zdy, zd0, zfq, ze2, zcj, zcl, zbn, zbj, zf8, zdh, zfb, zfp, zgl, zc0, zdf, zgz, zdk, zf7, zf4, zga, zdm, zdg, za4, za3, zc1, zbb, zas, Option.map_some, zau, zc3, zbu, zbe, lit2, lit3, Bool.true_and, Bool.false_and, Bool.and_true, Bool.and_false, Bool.true_or, Bool.false_or, Bool.or_true, Bool.or_false, Bool.not_not, a_sl, zg2, zgw, zb9, zdi, zf0, zdv, zdp, zds, zch, zb0, zju]
    match xs, hd with
    | [], _ => simp! only [zna]
    | [a], _ => simp! only [zna]
    | [a, b], _ => simp! only [zna]
    | a :: b :: c :: e :: r, _ =>
      have : (((a :: b :: c :: e :: r).length : Int) == 3) = false := by simp only [List.length_cons, beq_eq_false_iff_ne]; omega
      simp only [List.length_cons] at this
      simp! only [zna, this]
    | [g, c, w], hd =>
      simp! only [at3_0, is_given_ok cs g hc hd, zna]
      cases hg : zq_ cs g
      · simp! only []
      · obtain ⟨xs, rfl, hx, _⟩ := isGiv_cases hg
        have hz : szB xs.length = true := by
          rw [← szB_iff]
          simp only [short, ze9] at hd
          unfold sizeLine
          omega
        simp! only [zi6, ze9]
        cases hb : zm3 c 0 (cs.length - 1)
        · simp! only []
        · obtain ⟨i, rfl, h0, h1⟩ := znn hb
          simp! only [hz]
          rw [zfm (q := fun p => .int (fstI p)) xs ?h]
          case h =>
            intro p hp
            obtain ⟨i, b, rfl, _⟩ := zkq (hx p hp)
            exact ⟨_, rfl, rfl, by simp! only [at2_0, fstI]⟩
          have e : (xs.map fun p => D.int (fstI p)) = (xs.map fstI).map .int := by simp
          have hin : dIn (.int i) (.lst ((xs.map fstI).map .int)) = some (.bl (dInB (.int i) ((xs.map fstI).map .int))) := dIn_l (n := 0) (m := 0) rfl (ze0 0 _)
          simp! only [e, hin, inC]
          cases dInB (.int i) ((xs.map fstI).map .int)
          · simp! only []
            cases hw : w.isN
            · simp! only [atI_getD .non h0 (show i < cs.length by omega), zig _ _ (hc _ (zfc (n := i.toNat) (d := D.non) (by omega))), colAt, hz]
              cases zeu (cs.getD i.toNat .non) w
              · simp! only []
              · simp! only []
                rw [zfm (q := fun p => .bl (match p with | .tup [_, b] => !b.isN | _ => false)) xs ?h]
                case h =>
                  intro p hp
                  obtain ⟨i, b, rfl, _⟩ := zkq (hx p hp)
                  exact ⟨_, rfl, rfl, by simp! only [at2_1, fstI]⟩
                simp! only [zc6]
            · simp! only []
          · simp! only []
  all_goals simp -implicitDefEqProofs only [D.isT, zna, a_fn, zec, zcm, zd_, zd2, zdt, zdb, zbl, za5, c_ok, zf6, c_bl, zge, zgg, c_or, zde, zfr, zg0, zg3, zdc, a_tg, zdx, zb6, zgx, Res.bind_ok, Res.bind_ex, Res.bindS_ok, Res.bindS_ex, zc4, a_c, a_x2, a_o2, zdl, a_xN, zdw, zgr, a_o1, zf9, zgc, zg1, zbk, zbm, zb5, zb4, zdz, zfx, zgh, zft, zfu, zgi, zb8, zbh, za1, za0, za8, zaz, zfv, a_or, zca, zcg, zf5, zgy, zgk, zd1, a_if, zgq, zda, zb7, zbp, za9, zbi, zcd, a_it, zb_, za6, a_lc, zcb, zcc, zgv, zg_, zf3, zgt, zfw, zgd, zfz, zgb, zgo, zdq, a_rd, Option.bind_some, zcf, zck, zci, za7, List.map_cons, List.map_nil, List.length_cons, List.length_nil, Nat.reduceSub, Nat.reduceAdd, List.replicate_succ, List.replicate_zero, List.cons_append, List.nil_append, List.append_nil, List.getElem?_cons_zero, List.getElem?_cons_succ, List.set_cons_zero, List.set_cons_succ, List.take_length, cond_true, cond_false, Bool.not_true, Bool.not_false, zgs, zgf, zgm, zgp, zdj, zdd, zce, zbo, zdy, zd0, zfq, ze2, zcj, zcl, zbn, zbj, zf8, zdh, zfb, zfp, zgl, zc0, zdf, zgz, zdk, zf7, zf4, zga, zdm, zdg, za4, za3, zc1, zbb, zas, Option.map_some, zau, zc3, zbu, zbe, lit2, lit3, Bool.true_and, Bool.false_and, Bool.and_true, Bool.and_false, Bool.true_or, Bool.false_or, Bool.or_true, Bool.or_false, Bool.not_not, a_sl, zg2, zgw, zb9, zdi, zf0, zdv, zdp, zds, zch, zb0]
def znz (cs : List D) : D → Bool
  | .tup xs => !decide ((xs.length : Int) > 8) && xs.all (zna cs)
  | _ => false
theorem are_rules_ok (cs : List D) (d : D) (hc : ∀ c ∈ cs, zhz c = true) (hd : ∀ r ∈ ze9 d, short r) (S : zaf) : zi7 [.dat (.tup cs), .dat d] S = .ok (.dat (.bl (znz cs d))) S := by
  unfold zi7 zos
  simp! only []
  cases d
  case tup xs =>
    simp -implicitDefEqProofs only [D.isT, znz, a_fn, zec, zcm, zd_, zd2, zdt, zdb, zbl, za5, c_ok, zf6, c_bl, zge, zgg, c_or, zde, zfr, zg0, zg3, zdc, a_tg, zdx, zb6, zgx, Res.bind_ok, Res.bind_ex, Res.bindS_ok, Res.bindS_ex, zc4, a_c, a_x2, a_o2, zdl, a_xN, zdw, zgr, a_o1, zf9, zgc, zg1, zbk, zbm, zb5, zb4, zdz, zfx, zgh, zft, zfu, zgi, zb8, zbh, za1, za0, za8, zaz, zfv, a_or, zca, zcg, zf5, zgy, zgk, zd1, a_if, zgq, zda, zb7, zbp, za9, zbi, zcd, a_it, zb_, za6, a_lc, zcb, zcc, zgv, zg_, zf3, zgt, zfw, zgd, zfz, zgb, zgo, zdq, a_rd, Option.bind_some, zcf, zck, zci, za7, List.map_cons, List.map_nil, List.length_cons, List.length_nil, Nat.reduceSub, Nat.reduceAdd, List.replicate_succ, List.replicate_zero, List.cons_append, List.nil_append, List.append_nil, List.getElem?_cons_zero, List.getElem?_cons_succ, List.set_cons_zero, List.set_cons_succ, List.take_length, cond_true, cond_false, Bool.not_true, Bool.not_false, zgs, zgf, zgm, zgp, zdj, zdd, zce, zbo, zdy, zd0, zfq, ze2, zcj, zcl, zbn, zbj, zf8, zdh, zfb, zfp, zgl, zc0, zdf, zgz, zdk, zf7, zf4, zga, zdm, zdg, za4, za3, zc1, zbb, zas, Option.map_some, zau, zc3, zbu, zbe, lit2, lit3, Bool.true_and, Bool.false_and, Bool.and_true, Bool.and_false, Bool.true_or, Bool.false_or, Bool.or_true, Bool.or_false, Bool.not_not, a_sl, zg2, zgw, zb9, zdi, zf0, zdv, zdp, zds, zch, zb0]
    cases h : decide ((xs.length : Int) > 8)
    · have hz : szB xs.length = true := by
        rw [← szB_iff]
        simp only [decide_eq_false_iff_not] at h
        unfold sizeLine
        omega
      rw [hz]
      simp! only []
      rw [zfm (q := fun p => .bl (zna cs p)) xs ?h]
      case h => intro p hp; exact ⟨_, rfl, rfl, by simp! only [zqx cs _ hc (hd p hp)]⟩
      simp! only [zc6]
    · simp! only []
  all_goals simp -implicitDefEqProofs only [D.isT, znz, a_fn, zec, zcm, zd_, zd2, zdt, zdb, zbl, za5, c_ok, zf6, c_bl, zge, zgg, c_or, zde, zfr, zg0, zg3, zdc, a_tg, zdx, zb6, zgx, Res.bind_ok, Res.bind_ex, Res.bindS_ok, Res.bindS_ex, zc4, a_c, a_x2, a_o2, zdl, a_xN, zdw, zgr, a_o1, zf9, zgc, zg1, zbk, zbm, zb5, zb4, zdz, zfx, zgh, zft, zfu, zgi, zb8, zbh, za1, za0, za8, zaz, zfv, a_or, zca, zcg, zf5, zgy, zgk, zd1, a_if, zgq, zda, zb7, zbp, za9, zbi, zcd, a_it, zb_, za6, a_lc, zcb, zcc, zgv, zg_, zf3, zgt, zfw, zgd, zfz, zgb, zgo, zdq, a_rd, Option.bind_some, zcf, zck, zci, za7, List.map_cons, List.map_nil, List.length_cons, List.length_nil, Nat.reduceSub, Nat.reduceAdd, List.replicate_succ, List.replicate_zero, List.cons_append, List.nil_append, List.append_nil, List.getElem?_cons_zero, List.getElem?_cons_succ, List.set_cons_zero, List.set_cons_succ, List.take_length, cond_true, cond_false, Bool.not_true, Bool.not_false, zgs, zgf, zgm, zgp, zdj, zdd, zce, zbo, zdy, zd0, zfq, ze2, zcj, zcl, zbn, zbj, zf8, zdh, zfb, zfp, zgl, zc0, zdf, zgz, zdk, zf7, zf4, zga, zdm, zdg, za4, za3, zc1, zbb, zas, Option.map_some, zau, zc3, zbu, zbe, lit2, lit3, Bool.true_and, Bool.false_and, Bool.and_true, Bool.and_false, Bool.true_or, Bool.false_or, Bool.or_true, Bool.or_false, Bool.not_not, a_sl, zg2, zgw, zb9, zdi, zf0, zdv, zdp, zds, zch, zb0]
theorem zhh (cs d : D) (hd : ∀ r ∈ ze9 d, short r) (S : zaf) : zcp [.dat cs, .dat d] S = bif zjj cs then (bif znz (ze9 cs) d then .ok (.dat .non) S else .ex "InvalidRules" S) else .ex "InvalidColumns" S := by
  unfold zcp zjs
  simp! only [zlt]
  cases h : zjj cs
  · simp! only []
  · obtain ⟨xs, rfl, _, _, hc⟩ := zjq h
    simp! only [are_rules_ok xs d hc hd, ze9]
    cases znz xs d <;> simp! only []
abbrev Ent := Nat × Option Int
abbrev Giv := List Ent
structure Rul where
  g : Giv
  c : Nat
  w : Option Int
abbrev Row := List Int
abbrev Tab := List Row
def oD : Option Int → D | none => .non | some i => .int i
def eD (p : Ent) : D := .tup [.int (p.1 : Nat), oD p.2]
def gD (g : Giv) : D := .tup (g.map eD)
def rowD (r : Row) : D := .tup (r.map .int)
def tabD (t : Tab) : D := .tup (t.map rowD)
def rulD (r : Rul) : D := .tup [gD r.g, .int (r.c : Nat), oD r.w]
def mEnt (r : Row) (p : Ent) : Bool := match p.2 with | none => true | some v => r.getD p.1 0 == v
def ze1 (g : Giv) (r : Row) : Bool := g.all (mEnt r)
def agree (g : Giv) (r s : Row) : Bool := g.all fun p => r.getD p.1 0 == s.getD p.1 0
def okG (n : Nat) (g : Giv) : Prop := (∀ p ∈ g, p.1 < n) ∧ g.length ≤ 64
theorem okG_sz {n : Nat} {g : Giv} (h : okG n g) : szB g.length = true := by
  rw [← szB_iff]
  have := h.2
  unfold sizeLine
  omega
theorem oD_isN (o : Option Int) : (oD o).isN = o.isNone := by cases o <;> rfl
theorem dEq_io (i : Int) (o : Option Int) : dEq (.int i) (oD o) = some (.bl (match o with | none => false | some v => i == v)) := by
  cases o with
  | none => exact zoh (n := 0) (m := 0) rfl rfl
  | some v => exact zo_ i v
structure okR (n : Nat) (r : Rul) : Prop where
  g : okG n r.g
  c : r.c < n
structure okT (n : Nat) (t : Tab) : Prop where
  len : t.length ≤ 8
  row : ∀ r ∈ t, r.length = n
theorem okT.get {n i : Nat} {t : Tab} (h : okT n t) (hi : i < t.length) : (t.getD i []).length = n := h.row _ (zfc hi)
def zao (rs : List Rul) : D := .tup (rs.map rulD)
structure okRs (n : Nat) (rs : List Rul) : Prop where
  len : rs.length ≤ 8
  ok : ∀ r ∈ rs, okR n r
/-! ## rules as data: plain, small -/
theorem zi4 (g : Giv) (r : Row) (h : okG r.length g) (S : zaf) : zfa [.dat (gD g), .dat (rowD r)] S = .ok (.dat (.bl (ze1 g r))) S := by
  unfold zfa zmo
  simp! only [gD, List.length_map, okG_sz h]
  rw [zcv (q := fun p => .bl (mEnt r p)) g ?h]
  case h =>
    intro p hp
    refine ⟨_, rfl, rfl, ?_⟩
    simp! only [oD_isN]
    cases h2 : p.2 with
    | none => simp! only [Option.isNone_none, mEnt, h2]
    | some v => simp! only [Option.isNone_some, mEnt, h2, rowD, zja D.int 0 (h.1 p hp), dEq_io]
  simp! only [zc6, ze1]
theorem are_equal_ok (g : Giv) (r s : Row) (h : okG r.length g) (h2 : s.length = r.length) (S : zaf) : zje [.dat (gD g), .dat (rowD r), .dat (rowD s)] S = .ok (.dat (.bl (agree g r s))) S := by
  unfold zje zoa
  simp! only [gD, List.length_map, okG_sz h]
  rw [zcv (q := fun p => .bl (r.getD p.1 0 == s.getD p.1 0)) g ?h]
  case h =>
    intro p hp
    refine ⟨_, rfl, rfl, ?_⟩
    simp! only [eD, at2_0, rowD, zja D.int 0 (h.1 p hp), zja D.int 0 (show p.1 < s.length by rw [h2]; exact h.1 p hp), zo_]
  simp! only [zc6, agree]
end T45
set_option maxHeartbeats 400000
namespace T45
open PySem PySem.Spec PyProof.Rows L2 DL
/-! ## the values that come -/
abbrev BIG : Int := 10000000000000000000000000000000000000000
def POOL : List Int := [0, 1, 2, 3, 5, 100000000000000000000000000000, 100000000000000000000000000001]
theorem pool_lt {v : Int} (h : v ∈ POOL) : 0 ≤ v ∧ v < BIG := by
  simp only [POOL, List.mem_cons, List.not_mem_nil, or_false] at h
  unfold BIG
  rcases h with rfl | rfl | rfl | rfl | rfl | rfl | rfl <;> decide
theorem pool_small {v : Int} (h0 : 0 ≤ v) (h1 : v < 4) : v ∈ POOL := by
  have : v = 0 ∨ v = 1 ∨ v = 2 ∨ v = 3 := by omega
  rcases this with rfl | rfl | rfl | rfl <;> decide
def okC (c : D) : Prop := zhz c = true ∧ c.tiny = true ∧ ∀ ns : List Int, c = .tup (ns.map .int) → ∀ v ∈ ns, v < 4
def okV (c : D) (v : Int) : Prop := zeu c (.int v) = true ∧ v ∈ POOL
theorem isVal_nn {c : D} {v : Int} (h : zeu c (.int v) = true) : 0 ≤ v := by
  simp only [zeu, zl6, Bool.and_eq_true, decide_eq_true_eq] at h
  exact h.1
theorem pool_tiny {v : Int} (h : v ∈ POOL) : (D.int v).tiny = true := by
  have := pool_lt h
  simp only [D.tiny, decide_eq_true_eq]
  have e : (10 : Nat) ^ 40 = 10000000000000000000000000000000000000000 := by decide
  unfold BIG at this
  omega
theorem okV.tiny {c : D} {v : Int} (h : okV c v) : (D.int v).tiny = true := pool_tiny h.2
theorem nn_tiny {n : Nat} (h : n ≤ 1000000) : (D.int (n : Nat)).tiny = true := by
  simp only [D.tiny, decide_eq_true_eq]
  have e : (10 : Nat) ^ 40 = 10000000000000000000000000000000000000000 := by decide
  omega
theorem okV.t {c : D} {v : Int} (h : okV c v) : decide (v.natAbs < 10 ^ 40) = true := h.tiny
def primes : List Int := [2147483629, 2147483587, 2147483579, 2147483563, 2147483549, 2147483543, 2147483497, 2147483489, 2147483477, 2147483423, 2147483399, 2147483353, 2147483323]
theorem zqm (k : Int) : ∃ p : Int, atI [D.int 2147483629, D.int 2147483587, D.int 2147483579, D.int 2147483563, D.int 2147483549, D.int 2147483543, D.int 2147483497, D.int 2147483489, D.int 2147483477, D.int 2147483423, D.int 2147483399, D.int 2147483353, D.int 2147483323] (k % 13) = some (.int p) ∧ 0 < p ∧ p < 2147483648 := by
  have h0 : 0 ≤ k % 13 := Int.emod_nonneg _ (by decide)
  have h1 : k % 13 < 13 := Int.emod_lt_of_pos _ (by decide)
  have e : atI (primes.map D.int) (((k % 13).toNat : Nat) : Int) = some (D.int (primes.getD (k % 13).toNat 0)) := zja D.int 0 (by simp [primes]; omega)
  rw [Int.toNat_of_nonneg h0] at e
  have hm : primes.getD (k % 13).toNat 0 ∈ primes := by
    rw [List.getD_eq_getElem?_getD, List.getElem?_eq_getElem (by simp [primes]; omega)]
    exact List.getElem_mem _
  have hb : ∀ p ∈ primes, 0 < p ∧ p < 2147483648 := by decide
  exact ⟨_, e, hb _ hm⟩
theorem p10_18 : dPow (.int 10) (.int 18) = some (.int 1000000000000000000) := dPow_i (i := 10) (j := 18) (by decide) (by decide)
theorem p10_17 : dPow (.int 10) (.int 17) = some (.int 100000000000000000) := dPow_i (i := 10) (j := 17) (by decide) (by decide)
theorem p10_29 : dPow (.int 10) (.int 29) = some (.int 100000000000000000000000000000) := dPow_i (i := 10) (j := 29) (by decide) (by decide)
theorem pow_s {i : Int} (h0 : 0 ≤ i) (h1 : i < 18446744073709551616) : dPow (.int i) (.int 3) = some (.int (i ^ 3)) ∧ dPow (.int i) (.int 5) = some (.int (i ^ 5)) := by
  have : i.natAbs < 2 ^ 64 := by
    have : i.natAbs < 18446744073709551616 := by omega
    exact this
  exact ⟨dPow_i (j := 3) this (by decide), dPow_i (j := 5) this (by decide)⟩
theorem znw (c : Int) (a : Nat) (ha : a ≤ 2147483648) (S : zaf) : ∃ r : Int, zg5 [.dat (.int c), .dat (.int (a : Nat))] S = .ok (.dat (.int r)) S := by
  unfold zg5 zke
  simp! only [p10_18]
  cases decide (c ≥ 1000000000000000000)
  · simp! only [dAdd_l]
    have m0 : dMod (.int c) (.int 1000000007) = some (.int (c % 1000000007)) := zhi (by decide)
    have m1 : zjl (.int 2) (.int (a : Nat)) = some (.int (2 * (a : Nat))) := znq (ze_ (by decide) (by decide)) (ze_ (by omega) (by omega))
    have b0 : 0 ≤ c % 1000000007 := Int.emod_nonneg _ (by decide)
    have b1 : c % 1000000007 < 1000000007 := Int.emod_lt_of_pos _ (by decide)
    generalize c % 1000000007 = u at *
    have m2 : zjl (.int u) (.int (2 * (a : Nat) + 69069)) = some (.int (u * (2 * (a : Nat) + 69069))) := znq (ze_ (by omega) (by omega)) (ze_ (by omega) (by omega))
    have m3 : zjl (.int (a : Nat)) (.int 40503) = some (.int ((a : Nat) * 40503)) := znq (ze_ (by omega) (by omega)) (ze_ (by decide) (by decide))
    have b2 : 0 ≤ u * (2 * (a : Nat) + 69069) := Int.mul_nonneg b0 (by omega)
    have b3 : u * (2 * (a : Nat) + 69069) ≤ 1000000007 * 4295036365 := Int.mul_le_mul (by omega) (by omega) (by omega) (by decide)
    simp! only [m0, m1, m2, m3]
    generalize u * (2 * (a : Nat) + 69069) = x at *
    have q1 := (pow_s (i := x + (a : Nat) * 40503 + 977) (by omega) (by omega)).1
    have r0 : dMod (.int (a : Nat)) (.int 13) = some (.int (((a : Nat) : Int) % 13)) := zhi (by decide)
    obtain ⟨p, ep, p0, p1⟩ := zqm (a : Nat)
    simp! only [q1, r0, ep, zhi p0]
    generalize (x + (a : Nat) * 40503 + 977) ^ 3 = y
    have c0 : 0 ≤ y % p := Int.emod_nonneg _ (by omega)
    have c1 : y % p < p := Int.emod_lt_of_pos _ p0
    generalize y % p = one at *
    have n0 : dMod (.int c) (.int 65537) = some (.int (c % 65537)) := zhi (by decide)
    have d0 : 0 ≤ c % 65537 := Int.emod_nonneg _ (by decide)
    have d1 : c % 65537 < 65537 := Int.emod_lt_of_pos _ (by decide)
    generalize c % 65537 = v at *
    have m4 : zjl (.int one) (.int ((a : Nat) + 3)) = some (.int (one * ((a : Nat) + 3))) := znq (ze_ (by omega) (by omega)) (ze_ (by omega) (by omega))
    have b4 : 0 ≤ one * ((a : Nat) + 3) := Int.mul_nonneg c0 (by omega)
    have b5 : one * ((a : Nat) + 3) ≤ 2147483648 * 2147483651 := Int.mul_le_mul (by omega) (by omega) (by omega) (by decide)
    simp! only [n0, m4]
    generalize one * ((a : Nat) + 3) = z at *
    have q2 := (pow_s (i := z + (v + 5)) (by omega) (by omega)).2
    have r1 : dMod (.int ((a : Nat) + 5)) (.int 13) = some (.int ((((a : Nat) : Int) + 5) % 13)) := zhi (by decide)
    obtain ⟨p', ep', p0', p1'⟩ := zqm ((a : Nat) + 5)
    simp! only [q2, r1, ep', zhi p0']
    generalize (z + (v + 5)) ^ 5 = y
    have c0' : 0 ≤ y % p' := Int.emod_nonneg _ (by omega)
    have c1' : y % p' < p' := Int.emod_lt_of_pos _ p0'
    generalize y % p' = two at *
    have n1 : dMod (.int one) (.int 1009) = some (.int (one % 1009)) := zhi (by decide)
    have e0 : 0 ≤ one % 1009 := Int.emod_nonneg _ (by decide)
    have e1 : one % 1009 < 1009 := Int.emod_lt_of_pos _ (by decide)
    simp! only [n1]
    generalize one % 1009 = w at *
    have q3 := (pow_s (i := two + w + (a : Nat)) (by omega) (by omega)).1
    have r2 : dMod (.int ((a : Nat) + 7)) (.int 13) = some (.int ((((a : Nat) : Int) + 7) % 13)) := zhi (by decide)
    obtain ⟨p2, ep2, p02, p12⟩ := zqm ((a : Nat) + 7)
    have m5 : zjl (.int one) (.int 2147483647) = some (.int (one * 2147483647)) := znq (ze_ (by omega) (by omega)) (ze_ (by decide) (by decide))
    have m6 : zjl (.int (one * 2147483647 + two)) (.int 2147483647) = some (.int ((one * 2147483647 + two) * 2147483647)) := znq (ze_ (by omega) (by omega)) (ze_ (by decide) (by decide))
    simp! only [q3, r2, ep2, zhi p02, m5, m6]
    exact ⟨_, rfl⟩
  · simp! only []
    exact ⟨_, rfl⟩
theorem zht {n : Nat} {T S : zaf} (h : Pen n T S) (hn : n ≤ LIM) (m : Int) (m0 : 0 < m) (m1 : m ≤ 1000000000000) : ∃ (r : Nat) (S1 : zaf), zbc [.obj 0, .dat (.int m)] S = .ok (.dat (.int (r : Nat))) S1 ∧ Pen (n + 1) T S1 ∧ (r : Int) < m := by
  have hn : n ≤ 2147483648 := hn
  obtain ⟨cells, a, cur, rfl, ha⟩ := h
  unfold zbc zm1
  simp! only []
  have fin : ∀ (cur : Int), 0 ≤ cur % m ∧ cur % m < m := fun cur => ⟨Int.emod_nonneg _ (by omega), Int.emod_lt_of_pos _ m0⟩
  have dd : ∀ cur : Int, dDiv (.int cur) (.int m) = some (.int (cur / m)) := fun cur => dDiv_i m0 (ze_ (by omega) (by omega))
  cases decide (cur < m)
  · simp! only [zhi m0, dd]
    exact ⟨(cur % m).toNat, _, by rw [Int.toNat_of_nonneg (fin cur).1], ⟨_, _, _, rfl, by omega⟩, by rw [Int.toNat_of_nonneg (fin cur).1]; exact (fin cur).2⟩
  · simp! only [List.length_map]
    cases h1 : decide (((a : Nat) : Int) < (cells.length : Nat))
    · simp! only [List.length_map]
      cases h2 : decide (((cells.length : Nat) : Int) > 0)
      · simp! only []
        obtain ⟨r, e⟩ := znw 0 a (by omega) (some (penL cells (a + 1) cur) :: T)
        simp! only [e, zhi m0, dd]
        exact ⟨(r % m).toNat, _, by rw [Int.toNat_of_nonneg (fin r).1], ⟨_, _, _, rfl, by omega⟩, by rw [Int.toNat_of_nonneg (fin r).1]; exact (fin r).2⟩
      · have h2 : (0 : Int) < cells.length := by simpa using h2
        have m5 : zjl (.int (a : Nat)) (.int 5) = some (.int ((a : Nat) * 5)) := znq (ze_ (by omega) (by omega)) (ze_ (by decide) (by decide))
        have i0 : 0 ≤ ((a : Nat) * 5 + 3 : Int) % (cells.length : Nat) := Int.emod_nonneg _ (by omega)
        have i1 : ((a : Nat) * 5 + 3 : Int) % (cells.length : Nat) < (cells.length : Nat) := Int.emod_lt_of_pos _ h2
        have e1 : atI (cells.map .int) (((a : Nat) * 5 + 3 : Int) % (cells.length : Nat)) = some (D.int (cells.getD (((a : Nat) * 5 + 3 : Int) % (cells.length : Nat)).toNat 0)) := by
          have := zja (xs := cells) (n := (((a : Nat) * 5 + 3 : Int) % (cells.length : Nat)).toNat) D.int 0 (by omega)
          rwa [Int.toNat_of_nonneg i0] at this
        simp! only [m5, List.length_map, zhi h2, e1, p10_17, zhi (show (0 : Int) < 100000000000000000 + (a : Nat) by omega)]
        obtain ⟨r, e⟩ := znw ((cells.getD (((a : Nat) * 5 + 3 : Int) % (cells.length : Nat)).toNat 0) % (100000000000000000 + (a : Nat))) a (by omega) (some (penL cells (a + 1) cur) :: T)
        simp! only [e, zhi m0, dd]
        exact ⟨(r % m).toNat, _, by rw [Int.toNat_of_nonneg (fin r).1], ⟨_, _, _, rfl, by omega⟩, by rw [Int.toNat_of_nonneg (fin r).1]; exact (fin r).2⟩
    · have h1 : a < cells.length := by simpa using h1
      simp! only [zja D.int 0 h1]
      obtain ⟨r, e⟩ := znw (cells.getD a 0) a (by omega) (some (penL cells (a + 1) cur) :: T)
      simp! only [e, zhi m0, dd]
      exact ⟨(r % m).toNat, _, by rw [Int.toNat_of_nonneg (fin r).1], ⟨_, _, _, rfl, by omega⟩, by rw [Int.toNat_of_nonneg (fin r).1]; exact (fin r).2⟩
theorem anew_ok {n : Nat} {T S : zaf} (h : Pen n T S) : ∃ S1, zh0 [.obj 0] S = .ok (.obj 0) S1 ∧ Pen n T S1 := by
  obtain ⟨cells, a, cur, rfl, ha⟩ := h
  unfold zh0 zm0
  simp! only [leave, Nat.zero_lt_succ, if_true]
  exact ⟨_, rfl, _, _, _, rfl, ha⟩
theorem zmx {n : Nat} {T S : zaf} (h : Pen n T S) (hn : n ≤ LIM) (xs : List D) (h0 : 1 ≤ xs.length) (h1 : xs.length ≤ 1000000) (d : D) (hd : d = .lst xs ∨ d = .tup xs) :
    ∃ x S1, zcs [.obj 0, .dat d] S = .ok (.dat x) S1 ∧ Pen (n + 1) T S1 ∧ x ∈ xs := by
  unfold zcs zor
  obtain ⟨r, S1, e, p, hr⟩ := zht h hn (xs.length : Nat) (by omega) (by omega)
  have hr : r < xs.length := by omega
  have hx : atI xs (r : Nat) = some (xs.getD r .non) := zko .non hr
  refine ⟨xs.getD r .non, S1, ?_, p, zfc hr⟩
  rcases hd with rfl | rfl <;> simp! only [e, hx, p.take h.len]
theorem zqi {n : Nat} {T S : zaf} (h : Pen n T S) (hn : n ≤ LIM) (c : D) (hc : okC c) : ∃ (v : Int) (S1 : zaf), zd9 [.obj 0, .dat c] S = .ok (.dat (.int v)) S1 ∧ Pen (n + 1) T S1 ∧ okV c v := by
  unfold zd9 zlk
  rcases zkl hc.1 with rfl | ⟨ns, rfl, l0, l1, hns, _⟩
  · simp! only [D.isN, p10_29]
    obtain ⟨x, S1, e, p, hx⟩ := zmx h hn [D.int 0, D.int 1, D.int 2, D.int 0, D.int 1, D.int 2, D.int 3, D.int 100000000000000000000000000000, D.int (100000000000000000000000000000 + 1)] (by simp) (by simp) _ (.inl rfl)
    simp! only [e, p.take h.len]
    have : ∃ v : Int, x = .int v ∧ 0 ≤ v ∧ v ∈ POOL := by
      simp only [List.mem_cons, List.not_mem_nil, or_false] at hx
      rcases hx with rfl | rfl | rfl | rfl | rfl | rfl | rfl | rfl | rfl <;> exact ⟨_, rfl, by decide⟩
    obtain ⟨v, rfl, hv⟩ := this
    exact ⟨v, S1, rfl, p, by simp [zeu, zl6, D.isN, hv.1], hv.2⟩
  · simp! only [D.isN]
    obtain ⟨x, S1, e, p, hx⟩ := zmx h hn (ns.map .int) (by simpa using l0) (by simp; omega) _ (.inr rfl)
    simp! only [e, p.take h.len]
    obtain ⟨v, hv, rfl⟩ := List.mem_map.mp hx
    refine ⟨v, S1, rfl, p, by simp [zeu, zl6, D.isN, inC, zny, hv, hns v hv], ?_⟩
    exact pool_small (hns v hv) (hc.2.2 ns rfl v hv)
def isC (c : D) : Bool := !c.isN
theorem columns_body {n : Nat} {T S : zaf} (h : Pen n T S) (hn : n + 5 ≤ LIM) (cs : List D) (k : Nat) (o1 o2 o5 o6 : Option DV) (hcs : ∀ c ∈ cs, okC c) (hl : cs.length ≤ 8) (hk : (cs.filter isC).length = k) (hk2 : k ≤ 2) :
    ∃ (cs' : List D) (k' : Nat) (p5 p6 : Option DV) (S1 : zaf), zej [some (.obj 0), o1, o2, some (.dat (.tup cs)), some (.dat (.int (k : Nat))), o5, o6] S = .nx [some (.obj 0), o1, o2, some (.dat (.tup cs')), some (.dat (.int (k' : Nat))), p5, p6] S1 ∧
      Pen (n + 5) T S1 ∧ cs'.length = cs.length + 1 ∧ (∀ c ∈ cs', okC c) ∧ (cs'.filter isC).length = k' ∧ k' ≤ 2 := by
  unfold zej
  obtain ⟨r, S1, e, p, hr⟩ := zht h (by omega) 3 (by decide) (by decide)
  simp! only [e, rng1_1 (show r ≤ 1000000 by omega), List.length_map, List.length_range, zcu (show 1 + r ≤ 16777216 by omega)]
  obtain ⟨zs, S2, e2, p2, l2, q2⟩ := lc_pen (G := gNm 6) (t := zcz) (f := xN zbc (zac (xVar 0) (zac (xC (.int 4)) aNil))) (ρ := [some (.obj 0), o1, o2, some (.dat (.tup cs)), some (.dat (.int (k : Nat))), o5, none]) (T := T) (R := fun _ z => ∃ v : Int, z = .int v ∧ 0 ≤ v ∧ v < 4) (c := 1) ((List.range (1 + r)).map fun i => .int ((i : Nat) : Int)) (n + 1) S1 p (by simp; omega) (by
    intro c hcs m S hp hm
    obtain ⟨v, S1, e, p, hv⟩ := zht hp (by omega) 4 (by decide) (by decide)
    exact ⟨_, .int ((v : Nat) : Int), S1, rfl, rfl, by simp! only [e], p, ⟨_, rfl, by omega, by omega⟩⟩)
  simp only [List.length_map, List.length_range] at l2 p2
  have hz : ∀ z ∈ zs, ∃ v : Int, z = .int v ∧ 0 ≤ v ∧ v < 4 := fun z hz => by
    obtain ⟨i, hi, rfl⟩ := List.mem_iff_getElem.mp hz
    exact q2 (((List.range (1 + r)).map fun i => D.int ((i : Nat) : Int))[i]'(by simp; omega), zs[i]) (by rw [List.mem_iff_getElem]; exact ⟨i, by simp; omega, by simp⟩)
  obtain ⟨ns, rfl⟩ := ints_of (zs := zs) fun z h => ⟨_, (hz z h).choose_spec.1⟩
  have hpos : ∀ v ∈ ns, 0 ≤ v ∧ v < 4 := fun v hv => by
    obtain ⟨u, e, h⟩ := hz (.int v) (List.mem_map_of_mem hv)
    cases e
    exact h
  simp only [List.length_map] at l2
  simp! only [e2, zc0, sort_ints ns (by omega)]
  have good : okC (.tup ((sset ns).map .int)) := by
    refine ⟨?_, tinys_iff.mpr fun x hx => by
      obtain ⟨v, hv, rfl⟩ := List.mem_map.mp hx
      have := hpos v ((zg4 v ns).mp hv)
      have e := nn_tiny (n := v.toNat) (by omega)
      rwa [Int.toNat_of_nonneg this.1] at e, fun ms e v hv => by
      have e2 : (sset ns).map D.int = ms.map D.int := by injection e
      have : D.int v ∈ (sset ns).map D.int := by rw [e2]; exact List.mem_map_of_mem hv
      obtain ⟨u, hu, e3⟩ := List.mem_map.mp this
      cases e3
      exact (hpos v ((zg4 v ns).mp hu)).2⟩
    have a1 := sset_len ns
    have a2 := sset_pos (l := ns) (by intro e; subst e; simp at l2; omega)
    simp only [zhz, List.length_map, colB, zd6, sset_idem, decide_true, Bool.and_true, Bool.and_eq_true, decide_eq_true_eq, List.all_eq_true]
    refine ⟨by omega, fun z hz => ?_⟩
    obtain ⟨v, hv, rfl⟩ := List.mem_map.mp hz
    simp [zl6, (hpos v ((zg4 v ns).mp hv)).1]
  have add1 : ∀ c : D, dAdd (.tup cs) (.tup [c]) = some (.tup (cs ++ [c])) := fun c => by
    rw [zjx]
    simp only [List.length_cons, List.length_nil, zcu (show cs.length + (0 + 1) ≤ 16777216 by omega), cond_true]
  have hnon : okC .non := ⟨rfl, rfl, fun ms e => nomatch e⟩
  have memb : ∀ c, okC c → ∀ d ∈ cs ++ [c], okC d := fun c hc d hd => by
    rcases List.mem_append.mp hd with h | h
    · exact hcs d h
    · simp at h; exact h ▸ hc
  by_cases hk3 : k < 2
  · have e3 : decide (((k : Nat) : Int) < 2) = true := by simp; omega
    obtain ⟨r3, S3, e4, p4, hr3⟩ := zht p2 (by omega) 3 (by decide) (by decide)
    simp! only [e3, e4, zo_]
    cases h0 : (((r3 : Nat) : Int) == 0)
    · simp! only [add1]
      exact ⟨_, k, _, _, _, rfl, p4.mono (by omega), by simp, memb _ hnon, by simp [isC, D.isN, ← hk], hk2⟩
    · simp! only [add1]
      exact ⟨_, k + 1, _, _, _, rfl, p4.mono (by omega), by simp, memb _ good, by simp [isC, D.isN, ← hk], by omega⟩
  · have e3 : decide (((k : Nat) : Int) < 2) = false := by simp; omega
    simp! only [e3, add1]
    exact ⟨_, k, _, _, _, rfl, p2.mono (by omega), by simp, memb _ hnon, by simp [isC, D.isN, ← hk], hk2⟩
theorem columns_ok {n : Nat} {T S : zaf} (h : Pen n T S) (hn : n + 21 ≤ LIM) : ∃ (cs : List D) (S1 : zaf), zfo [.obj 0, .dat (.int 4)] S = .ok (.dat (.tup cs)) S1 ∧ Pen (n + 21) T S1 ∧ zjj (.tup cs) = true ∧ ∀ c ∈ cs, okC c := by
  unfold zfo zjn
  obtain ⟨r, S1, e, p, hr⟩ := zht h (by omega) 4 (by decide) (by decide)
  simp! only [e, rng1_1 (show r ≤ 1000000 by omega)]
  obtain ⟨ρ', S2, e2, ⟨o2, cs, k, o5, o6, rfl, hl, hcs, hk, hk2⟩, p2⟩ := zol (enc := fun i : Nat => D.int ((i : Nat) : Int)) (G := gNm 2) (f := zej) (T := T) (c := 5)
    (fun pre ρ => ∃ o2 cs k o5 o6, ρ = [some (.obj 0), some (.dat (.int 4)), o2, some (.dat (.tup cs)), some (.dat (.int ((k : Nat) : Int))), o5, o6] ∧ cs.length = pre.length ∧ (∀ c ∈ cs, okC c) ∧ (cs.filter isC).length = k ∧ k ≤ 2)
    (List.range (1 + r)) [] (n + 1) [some (.obj 0), some (.dat (.int 4)), none, some (.dat (.tup [])), some (.dat (.int 0)), none, none] S1 ⟨_, [], 0, _, _, rfl, rfl, by simp, rfl, by decide⟩ p (by simp; omega) (by
    rintro pre a post m ρ S hpp ⟨o2, cs, k, o5, o6, rfl, hl, hcs, hk, hk2⟩ hp hm
    have hlen : pre.length ≤ 8 := by
      have := congrArg List.length hpp
      simp at this
      omega
    obtain ⟨cs', k', p5, p6, S1, e, p, a1, a2, a3, a4⟩ := columns_body hp hm cs k (some (.dat (.int 4))) (some (.dat (.int ((a : Nat) : Int)))) o5 o6 hcs (by omega) hk hk2
    exact ⟨_, _, S1, rfl, e, ⟨_, cs', k', _, _, rfl, by simp; omega, a2, a3, a4⟩, p⟩)
  simp only [List.nil_append, List.length_range] at hl p2
  simp! only [e2, p2.take h.len]
  refine ⟨cs, S2, rfl, p2.mono (by omega), ?_, hcs⟩
  simp only [zjj, Bool.and_eq_true, decide_eq_true_eq, List.all_eq_true]
  refine ⟨by omega, fun c hc => (hcs c hc).1, ?_⟩
  have : (cs.filter fun c => !c.isN).length = k := hk
  omega
theorem zh_ (cs : List D) (r : Row) : zj9 cs (rowD r) = true ↔ r.length = cs.length ∧ ∀ i, i < cs.length → zeu (cs.getD i .non) (.int (r.getD i 0)) = true := by
  simp only [zj9, rowD, List.length_map, Bool.and_eq_true, beq_iff_eq, List.all_eq_true]
  constructor
  · rintro ⟨h1, h2⟩
    have h1 : r.length = cs.length := by omega
    refine ⟨h1, fun i hi => ?_⟩
    have := h2 (cs.getD i .non, .int (r.getD i 0)) (by
      rw [List.mem_iff_getElem]
      refine ⟨i, by simp; omega, ?_⟩
      simp [List.getD_eq_getElem?_getD, List.getElem?_eq_getElem hi, List.getElem?_eq_getElem (show i < r.length by omega)])
    exact this
  · rintro ⟨h1, h2⟩
    refine ⟨by omega, fun p hp => ?_⟩
    obtain ⟨i, hi, rfl⟩ := List.mem_iff_getElem.mp hp
    simp only [List.length_zip, List.length_map] at hi
    have := h2 i (by omega)
    simpa [List.getD_eq_getElem?_getD, List.getElem?_eq_getElem (show i < cs.length by omega), List.getElem?_eq_getElem (show i < r.length by omega)] using this
theorem row_ok {n : Nat} {T S : zaf} (h : Pen n T S) (hn : n + 4 ≤ LIM) (cs : List D) (hc : ∀ c ∈ cs, okC c) (hl : cs.length ≤ 4) : ∃ (r : Row) (S1 : zaf), zhu [.obj 0, .dat (.tup cs)] S = .ok (.dat (rowD r)) S1 ∧ Pen (n + 4) T S1 ∧ zj9 cs (rowD r) = true ∧ ∀ v ∈ r, v ∈ POOL := by
  unfold zhu zok
  simp! only [zcu (show cs.length ≤ 16777216 by omega)]
  obtain ⟨zs, S1, e, p, l, q⟩ := lc_pen (G := gNm 2) (t := zcz) (f := xN zd9 (zac (xVar 0) (zac (xVar 2) aNil))) (ρ := [some (.obj 0), some (.dat (.tup cs)), none]) (T := T) (R := fun c z => ∃ v : Int, z = .int v ∧ okV c v) (c := 1) cs n S h (by omega) (by
    intro c hcs m S hp hm
    obtain ⟨v, S1, e, p, hv⟩ := zqi hp (by omega) c (hc c hcs)
    exact ⟨_, _, S1, rfl, rfl, by simp! only [e], p, ⟨v, rfl, hv⟩⟩)
  obtain ⟨r, rfl⟩ := ints_of (zs := zs) fun z hz => by
    obtain ⟨i, hi, rfl⟩ := List.mem_iff_getElem.mp hz
    have := q (cs[i]'(by omega), zs[i]) (by rw [List.mem_iff_getElem]; exact ⟨i, by simp; omega, by simp⟩)
    exact ⟨_, this.choose_spec.1⟩
  simp! only [e]
  refine ⟨r, S1, ?_, p.mono (by omega), ?_, fun v hv => ?_⟩
  · rw [p.take h.len]
    rfl
  · simp only [zj9, rowD, Bool.and_eq_true, beq_iff_eq, List.all_eq_true]
    refine ⟨by omega, fun p hp => ?_⟩
    obtain ⟨v, e, hv⟩ := q p hp
    rw [e]
    exact hv.1
  · obtain ⟨i, hi, rfl⟩ := List.mem_iff_getElem.mp hv
    have l' : i < cs.length := by simp at l; omega
    obtain ⟨u, e, hu⟩ := q (cs[i], .int r[i]) (by rw [List.mem_iff_getElem]; exact ⟨i, by simp; omega, by simp⟩)
    cases e
    exact hu.2
theorem isRow_set {cs : List D} {r s : Row} (a : Nat) (hr : zj9 cs (rowD r) = true) (hs : zj9 cs (rowD s) = true) (ha : a < cs.length) : zj9 cs (rowD (s.set a (r.getD a 0))) = true := by
  rw [zh_] at *
  refine ⟨by simpa using hs.1, fun i hi => ?_⟩
  by_cases h : a = i
  · subst h
    have : a < s.length := by rw [hs.1]; exact ha
    have e : (s.set a (r.getD a 0)).getD a 0 = r.getD a 0 := by
      rw [List.getD_eq_getElem?_getD, List.getElem?_set_self this]
      rfl
    rw [e]
    exact hr.2 a hi
  · have e : (s.set a (r.getD a 0)).getD i 0 = s.getD i 0 := by
      rw [List.getD_eq_getElem?_getD, List.getElem?_set_ne h, List.getD_eq_getElem?_getD]
    rw [e]
    exact hs.2 i hi
def RowOK (cs : List D) (r : Row) : Prop := zj9 cs (rowD r) = true ∧ ∀ v ∈ r, v ∈ POOL
theorem RowOK.set {cs : List D} {r s : Row} (a : Nat) (hr : RowOK cs r) (hs : RowOK cs s) (ha : a < cs.length) : RowOK cs (s.set a (r.getD a 0)) := by
  refine ⟨isRow_set a hr.1 hs.1 ha, fun v hv => ?_⟩
  rcases List.mem_or_eq_of_mem_set hv with h | h
  · exact hs.2 v h
  · rw [h]
    have l := ((zh_ cs r).mp hr.1).1
    exact hr.2 _ (zfc (by omega))
theorem table_body {n : Nat} {T S : zaf} (h : Pen n T S) (hn : n + 7 ≤ LIM) (cs : List D) (hc : ∀ c ∈ cs, okC c) (h0 : 1 ≤ cs.length) (hl : cs.length ≤ 4) (t : Tab) (k : Nat) (hk : t.length = k) (hk8 : k ≤ 8) (ht : ∀ r ∈ t, RowOK cs r) (o2 o5 o6 o7 : Option DV) :
    ∃ (r : Row) (p5 p6 p7 : Option DV) (S1 : zaf), zff [some (.obj 0), some (.dat (.tup cs)), o2, some (.dat (tabD t)), some (.dat (.int (k : Nat))), o5, o6, o7] S = .nx [some (.obj 0), some (.dat (.tup cs)), o2, some (.dat (tabD (t ++ [r]))), some (.dat (.int (k : Nat))), p5, p6, p7] S1 ∧
      Pen (n + 7) T S1 ∧ RowOK cs r := by
  unfold zff
  obtain ⟨r, S1, e, p, hr⟩ := row_ok h (by omega) cs hc hl
  have add1 : ∀ r : Row, dAdd (tabD t) (.tup [rowD r]) = some (tabD (t ++ [r])) := fun c => by
    simp only [tabD]
    rw [zjx]
    simp only [List.length_cons, List.length_nil, List.length_map, zcu (show t.length + (0 + 1) ≤ 16777216 by omega), cond_true, List.map_append, List.map_cons, List.map_nil]
  simp! only [e]
  by_cases hk0 : k = 0
  · have e3 : decide (((k : Nat) : Int) > 0) = false := by simp; omega
    simp! only [e3, add1]
    exact ⟨r, _, _, _, _, rfl, p.mono (by omega), hr⟩
  · have e3 : decide (((k : Nat) : Int) > 0) = true := by simp; omega
    obtain ⟨r3, S3, e4, p4, hr3⟩ := zht p (by omega) 2 (by decide) (by decide)
    simp! only [e3, e4, zo_]
    cases hq : (((r3 : Nat) : Int) == 0)
    · simp! only [add1]
      exact ⟨r, _, _, _, _, rfl, p4.mono (by omega), hr⟩
    · obtain ⟨a, S4, e5, p5, ha⟩ := zht p4 (by omega) (cs.length : Nat) (by omega) (by omega)
      have ha : a < cs.length := by omega
      obtain ⟨x, S5, e6, p6, hx⟩ := zmx p5 (by omega) (t.map rowD) (by rw [List.length_map]; omega) (by rw [List.length_map]; omega) (tabD t) (.inr rfl)
      obtain ⟨s, hs, rfl⟩ := List.mem_map.mp hx
      have hs' := ht s hs
      have l1 := ((zh_ cs s).mp hs'.1).1
      have l2 := ((zh_ cs r).mp hr.1).1
      have mix : dAdd (.tup ((s.map D.int).take a)) (.tup (((r.map D.int).drop a).take 1)) = some (.tup ((s.map D.int).take a ++ ((r.map D.int).drop a).take 1)) := by
        rw [zjx]
        simp only [zcu (show ((s.map D.int).take a).length + (((r.map D.int).drop a).take 1).length ≤ 16777216 by simp; omega), cond_true]
      have mix2 : dAdd (.tup ((s.map D.int).take a ++ ((r.map D.int).drop a).take 1)) (.tup ((s.map D.int).drop (a + 1))) = some (rowD (s.set a (r.getD a 0))) := by
        rw [zjx]
        simp only [zcu (show ((s.map D.int).take a ++ ((r.map D.int).drop a).take 1).length + ((s.map D.int).drop (a + 1)).length ≤ 16777216 by simp; omega), cond_true]
        rw [mix_set (s.map D.int) (r.map D.int) a (D.int 0) (by simp; omega) (by simp; omega)]
        simp only [rowD, List.map_set]
        congr 4
        simp [List.getD_eq_getElem?_getD, List.getElem?_eq_getElem (show a < r.length by omega)]
      simp! only [e5, e6]
      simp! only [rowD, cut_to, cut_mid1, zlz, mix, mix2]
      have add2 := add1 (s.set a (r.getD a 0))
      simp only [rowD] at add2
      simp! only [add2]
      exact ⟨_, _, _, _, _, rfl, p6.mono (by omega), RowOK.set a hr hs' ha⟩
theorem table_ok {n : Nat} {T S : zaf} (h : Pen n T S) (m : Nat) (hm : m ≤ 8) (hn : n + 56 ≤ LIM) (cs : List D) (hc : ∀ c ∈ cs, okC c) (h0 : 1 ≤ cs.length) (hl : cs.length ≤ 4) :
    ∃ (t : Tab) (S1 : zaf), zhq [.obj 0, .dat (.tup cs), .dat (.int (m : Nat))] S = .ok (.dat (tabD t)) S1 ∧ Pen (n + 56) T S1 ∧ t.length = m ∧ ∀ r ∈ t, RowOK cs r := by
  unfold zhq zk8
  simp! only [zjk (ze3 (show m ≤ 16000000 by omega))]
  obtain ⟨ρ', S2, e2, ⟨t, o4, o5, o6, o7, rfl, hl', ht⟩, p2⟩ := zol (enc := fun i : Nat => D.int ((i : Nat) : Int)) (G := gNm 4) (f := zff) (T := T) (c := 7)
    (fun pre ρ => ∃ t o4 o5 o6 o7, ρ = [some (.obj 0), some (.dat (.tup cs)), some (.dat (.int ((m : Nat) : Int))), some (.dat (tabD t)), o4, o5, o6, o7] ∧ t.length = pre.length ∧ ∀ r ∈ t, RowOK cs r)
    (List.range m) [] n [some (.obj 0), some (.dat (.tup cs)), some (.dat (.int ((m : Nat) : Int))), some (.dat (.tup [])), none, none, none, none] S ⟨[], _, _, _, _, rfl, rfl, fun r hr => nomatch hr⟩ h (by simp; omega) (by
    rintro pre a post m' ρ S hpp ⟨t, o4, o5, o6, o7, rfl, hlt, ht⟩ hp hm'
    obtain ⟨ha, ha2⟩ := zp3 (by simpa using hpp)
    obtain ⟨r, p5, p6, p7, S1, e, p, hr⟩ := table_body hp hm' cs hc h0 hl t a (by omega) (by omega) ht (some (.dat (.int ((m : Nat) : Int)))) o5 o6 o7
    refine ⟨_, _, S1, rfl, e, ⟨t ++ [r], _, _, _, _, rfl, by simp; omega, fun q hq => ?_⟩, p⟩
    rcases List.mem_append.mp hq with hq | hq
    · exact ht q hq
    · simp at hq; exact hq ▸ hr)
  simp only [List.nil_append, List.length_range] at hl' p2
  simp! only [e2, p2.take h.len]
  exact ⟨t, S2, rfl, p2.mono (by omega), hl', ht⟩
theorem tab_of {cs : List D} {t : Tab} (hl : t.length ≤ 8) (ht : ∀ r ∈ t, zj9 cs (rowD r) = true) : isTab cs (tabD t) = true ∧ okT cs.length t := by
  refine ⟨?_, hl, fun r hr => ((zh_ cs r).mp (ht r hr)).1⟩
  simp only [isTab, tabD, List.length_map, Bool.and_eq_true, Bool.not_eq_true', decide_eq_false_iff_not, List.all_eq_true]
  refine ⟨by omega, fun x hx => ?_⟩
  obtain ⟨r, hr, rfl⟩ := List.mem_map.mp hx
  exact ht r hr
structure RG (cs : List D) (c : Nat) (w : Option Int) (m : Nat) (g : Giv) : Prop where
  lt : ∀ p ∈ g, p.1 < m ∧ p.1 ≠ c
  val : ∀ p ∈ g, ∀ v, p.2 = some v → okV (cs.getD p.1 .non) v
  want : w ≠ none → ∀ p ∈ g, p.2 ≠ none
  inc : (g.map (·.1)).Pairwise (· < ·)
  len : g.length ≤ m
theorem RG.mono {cs : List D} {c : Nat} {w : Option Int} {m m' : Nat} {g : Giv} (h : RG cs c w m g) (k : m ≤ m') : RG cs c w m' g :=
  ⟨fun p hp => ⟨Nat.lt_of_lt_of_le (h.lt p hp).1 k, (h.lt p hp).2⟩, h.val, h.want, h.inc, Nat.le_trans h.len k⟩
theorem RG.snoc {cs : List D} {c : Nat} {w : Option Int} {m : Nat} {g : Giv} (h : RG cs c w m g) (o : Option Int) (h1 : m ≠ c) (h2 : ∀ v, o = some v → okV (cs.getD m .non) v) (h3 : w ≠ none → o ≠ none) : RG cs c w (m + 1) (g ++ [(m, o)]) := by
  refine ⟨fun p hp => ?_, fun p hp => ?_, fun hw p hp => ?_, ?_, ?_⟩
  · rcases List.mem_append.mp hp with hp | hp
    · exact ⟨Nat.lt_succ_of_lt (h.lt p hp).1, (h.lt p hp).2⟩
    · simp at hp; subst hp; exact ⟨Nat.lt_succ_self _, h1⟩
  · rcases List.mem_append.mp hp with hp | hp
    · exact h.val p hp
    · simp at hp; subst hp; exact h2
  · rcases List.mem_append.mp hp with hp | hp
    · exact h.want hw p hp
    · simp at hp; subst hp; exact h3 hw
  · rw [List.map_append, List.pairwise_append]
    refine ⟨h.inc, by simp, fun x hx y hy => ?_⟩
    obtain ⟨p, hp, rfl⟩ := List.mem_map.mp hx
    simp at hy
    subst hy
    exact (h.lt p hp).1
  · have := h.len
    simp
    omega
theorem rule_body {n : Nat} {T S : zaf} (h : Pen n T S) (hn : n + 2 ≤ LIM) (cs : List D) (hc : ∀ c ∈ cs, okC c) (hl : cs.length ≤ 4) (c : Nat) (w : Option Int) (g : Giv) (k : Nat) (hk : k < cs.length) (G : RG cs c w k g) (o6 : Option DV) :
    ∃ (g' : Giv) (p6 : Option DV) (S1 : zaf), zg7 [some (.obj 0), some (.dat (.tup cs)), some (.dat (.int (c : Nat))), some (.dat (oD w)), some (.dat (gD g)), some (.dat (.int (k : Nat))), o6] S = .nx [some (.obj 0), some (.dat (.tup cs)), some (.dat (.int (c : Nat))), some (.dat (oD w)), some (.dat (gD g')), some (.dat (.int (k : Nat))), p6] S1 ∧
      Pen (n + 2) T S1 ∧ RG cs c w (k + 1) g' := by
  unfold zg7
  obtain ⟨r, S1, e, p, hr⟩ := zht h (by omega) 5 (by decide) (by decide)
  have add1 : ∀ o : Option Int, dAdd (gD g) (.tup [.tup [.int (k : Nat), oD o]]) = some (gD (g ++ [(k, o)])) := fun o => by
    have := G.len
    simp only [gD]
    rw [zjx]
    simp only [List.length_cons, List.length_nil, List.length_map, zcu (show g.length + (0 + 1) ≤ 16777216 by omega), cond_true, List.map_append, List.map_cons, List.map_nil, eD]
  have addS : ∀ v : Int, dAdd (gD g) (.tup [.tup [.int (k : Nat), .int v]]) = some (gD (g ++ [(k, some v)])) := fun v => add1 (some v)
  have addN : dAdd (gD g) (.tup [.tup [.int (k : Nat), .non]]) = some (gD (g ++ [(k, none)])) := add1 none
  simp! only [e, zju]
  cases h1 : (((k : Nat) : Int) == ((c : Nat) : Int))
  · have hkc : k ≠ c := by
      have := (beq_eq_false_iff_ne).mp h1
      omega
    simp! only []
    cases h2 : decide (((r : Nat) : Int) < 2)
    · simp! only [zo_, oD_isN]
      cases h3 : (((r : Nat) : Int) == 2)
      · simp! only []
        exact ⟨g, _, _, rfl, p.mono (by omega), G.mono (by omega)⟩
      · simp! only [oD_isN]
        cases w with
        | none =>
          simp -implicitDefEqProofs only [Option.isNone_none, a_fn, zec, zcm, zd_, zd2, zdt, zdb, zbl, za5, c_ok, zf6, c_bl, zge, zgg, c_or, zde, zfr, zg0, zg3, zdc, a_tg, zdx, zb6, zgx, Res.bind_ok, Res.bind_ex, Res.bindS_ok, Res.bindS_ex, zc4, a_c, a_x2, a_o2, zdl, a_xN, zdw, zgr, a_o1, zf9, zgc, zg1, zbk, zbm, zb5, zb4, zdz, zfx, zgh, zft, zfu, zgi, zb8, zbh, za1, za0, za8, zaz, zfv, a_or, zca, zcg, zf5, zgy, zgk, zd1, a_if, zgq, zda, zb7, zbp, za9, zbi, zcd, a_it, zb_, za6, a_lc, zcb, zcc, zgv, zg_, zf3, zgt, zfw, zgd, zfz, zgb, zgo, zdq, a_rd, Option.bind_some, zcf, zck, zci, za7, List.map_cons, List.map_nil, List.length_cons, List.length_nil, Nat.reduceSub, Nat.reduceAdd, List.replicate_succ, List.replicate_zero, List.cons_append, List.nil_append, List.append_nil, List.getElem?_cons_zero, List.getElem?_cons_succ, List.set_cons_zero, List.set_cons_succ, List.take_length, cond_true, cond_false, Bool.not_true, Bool.not_false, zgs, zgf, zgm, zgp, zdj, zdd, zce, zbo, zdy, zd0, zfq, ze2, zcj, zcl, zbn, zbj, zf8, zdh, zfb, zfp, zgl, zc0, zdf, zgz, zdk, zf7, zf4, zga, zdm, zdg, za4, za3, zc1, zbb, zas, Option.map_some, zau, zc3, zbu, zbe, lit2, lit3, Bool.true_and, Bool.false_and, Bool.and_true, Bool.and_false, Bool.true_or, Bool.false_or, Bool.or_true, Bool.or_false, Bool.not_not, a_sl, zg2, zgw, zb9, zdi, zf0, zdv, zdp, zds, zch, zb0, addN]
          exact ⟨_, _, _, rfl, p.mono (by omega), G.snoc none hkc (fun v hv => nomatch hv) (fun hw => absurd rfl hw)⟩
        | some v =>
          simp -implicitDefEqProofs only [Option.isNone_some, a_fn, zec, zcm, zd_, zd2, zdt, zdb, zbl, za5, c_ok, zf6, c_bl, zge, zgg, c_or, zde, zfr, zg0, zg3, zdc, a_tg, zdx, zb6, zgx, Res.bind_ok, Res.bind_ex, Res.bindS_ok, Res.bindS_ex, zc4, a_c, a_x2, a_o2, zdl, a_xN, zdw, zgr, a_o1, zf9, zgc, zg1, zbk, zbm, zb5, zb4, zdz, zfx, zgh, zft, zfu, zgi, zb8, zbh, za1, za0, za8, zaz, zfv, a_or, zca, zcg, zf5, zgy, zgk, zd1, a_if, zgq, zda, zb7, zbp, za9, zbi, zcd, a_it, zb_, za6, a_lc, zcb, zcc, zgv, zg_, zf3, zgt, zfw, zgd, zfz, zgb, zgo, zdq, a_rd, Option.bind_some, zcf, zck, zci, za7, List.map_cons, List.map_nil, List.length_cons, List.length_nil, Nat.reduceSub, Nat.reduceAdd, List.replicate_succ, List.replicate_zero, List.cons_append, List.nil_append, List.append_nil, List.getElem?_cons_zero, List.getElem?_cons_succ, List.set_cons_zero, List.set_cons_succ, List.take_length, cond_true, cond_false, Bool.not_true, Bool.not_false, zgs, zgf, zgm, zgp, zdj, zdd, zce, zbo, zdy, zd0, zfq, ze2, zcj, zcl, zbn, zbj, zf8, zdh, zfb, zfp, zgl, zc0, zdf, zgz, zdk, zf7, zf4, zga, zdm, zdg, za4, za3, zc1, zbb, zas, Option.map_some, zau, zc3, zbu, zbe, lit2, lit3, Bool.true_and, Bool.false_and, Bool.and_true, Bool.and_false, Bool.true_or, Bool.false_or, Bool.or_true, Bool.or_false, Bool.not_not, a_sl, zg2, zgw, zb9, zdi, zf0, zdv, zdp, zds, zch, zb0]
          exact ⟨g, _, _, rfl, p.mono (by omega), G.mono (by omega)⟩
    · obtain ⟨v, S2, e2, p2, hv⟩ := zqi p (by omega) (cs.getD k .non) (hc _ (zfc hk))
      simp! only [zko D.non hk, e2, addS]
      exact ⟨_, _, _, rfl, p2.mono (by omega), G.snoc (some v) hkc (fun u hu => by cases hu; exact hv) (fun _ => by simp)⟩
  · simp! only []
    exact ⟨g, _, _, rfl, p.mono (by omega), G.mono (by omega)⟩
theorem isRul_of {cs : List D} {c : Nat} {w : Option Int} {g : Giv} (hc : c < cs.length) (G : RG cs c w cs.length g) (hw : ∀ v, w = some v → okV (cs.getD c .non) v) : zna cs (rulD ⟨g, c, w⟩) = true := by
  have e1 : (g.map eD).map fstI = (g.map (·.1)).map fun k => ((k : Nat) : Int) := by
    simp [List.map_map, Function.comp_def, eD, fstI]
  have e2 : ((g.map (·.1)).map fun k => ((k : Nat) : Int)).Pairwise (· < ·) := by
    rw [List.pairwise_map]
    exact G.inc.imp fun h => by omega
  have a1 : zq_ cs (gD g) = true := by
    simp only [zq_, gD, Bool.and_eq_true, decide_eq_true_eq, List.all_eq_true, e1]
    refine ⟨fun x hx => ?_, (zkc e2).symm⟩
    obtain ⟨p, hp, rfl⟩ := List.mem_map.mp hx
    have l := (G.lt p hp).1
    simp only [eD, zl4, zm3, colAt, Bool.and_eq_true, decide_eq_true_eq, Bool.or_eq_true]
    refine ⟨by omega, ?_⟩
    cases h2 : p.2 with
    | none => exact .inl rfl
    | some v => exact .inr (by simpa [oD] using (G.val p hp v h2).1)
  have a2 : inC (.int (c : Nat)) (.tup ((ze9 (gD g)).map fun e => .int (fstI e))) = false := by
    have e3 : ((ze9 (gD g)).map fun e => D.int (fstI e)) = ((g.map eD).map fstI).map .int := by simp [ze9, gD]
    rw [e3, e1]
    simp only [inC, zny, decide_eq_false_iff_not]
    intro hm
    obtain ⟨k, hk, e⟩ := List.mem_map.mp hm
    obtain ⟨p, hp, rfl⟩ := List.mem_map.mp hk
    exact (G.lt p hp).2 (by omega)
  simp only [rulD, zna, a1, a2, Bool.true_and, Bool.not_false, Bool.and_true, zm3, colAt, Bool.and_eq_true, decide_eq_true_eq, Bool.or_eq_true, List.all_eq_true]
  refine ⟨by omega, ?_⟩
  cases w with
  | none => exact .inl rfl
  | some v =>
    refine .inr ⟨by simpa [oD] using (hw v rfl).1, fun x hx => ?_⟩
    obtain ⟨p, hp, rfl⟩ := List.mem_map.mp hx
    have := G.want (by simp) p hp
    cases h2 : p.2 with
    | none => exact absurd h2 this
    | some u => simp [eD, oD, h2, D.isN]
structure GR (cs : List D) (r : Rul) : Prop where
  is : zna cs (rulD r) = true
  G : RG cs r.c r.w cs.length r.g
  hw : ∀ v, r.w = some v → okV (cs.getD r.c .non) v
  ok : okR cs.length r
  sh : r.g.length < 64
theorem rule_ok {n : Nat} {T S : zaf} (h : Pen n T S) (hn : n + 11 ≤ LIM) (cs : List D) (hc : ∀ c ∈ cs, okC c) (h0 : 1 ≤ cs.length) (hl : cs.length ≤ 4) :
    ∃ (r : Rul) (S1 : zaf), zh2 [.obj 0, .dat (.tup cs)] S = .ok (.dat (rulD r)) S1 ∧ Pen (n + 11) T S1 ∧ GR cs r := by
  unfold zh2 zmk
  obtain ⟨c, S1, e1, p1, hcl⟩ := zht h (by omega) (cs.length : Nat) (by omega) (by omega)
  have hcl : c < cs.length := by omega
  obtain ⟨v, S2, e2, p2, hv⟩ := zqi p1 (by omega) (cs.getD c .non) (hc _ (zfc hcl))
  obtain ⟨x, S3, e3, p3, hx⟩ := zmx p2 (by omega) [D.non, D.non, D.int v] (by simp) (by simp) _ (.inl rfl)
  have hw : ∃ w : Option Int, x = oD w ∧ ∀ u, w = some u → okV (cs.getD c .non) u := by
    simp only [List.mem_cons, List.not_mem_nil, or_false] at hx
    rcases hx with rfl | rfl | rfl
    · exact ⟨none, rfl, fun u hu => nomatch hu⟩
    · exact ⟨none, rfl, fun u hu => nomatch hu⟩
    · exact ⟨some v, rfl, fun u hu => by cases hu; exact hv⟩
  obtain ⟨w, rfl, hw⟩ := hw
  simp! only [e1, zko D.non hcl, e2, e3, zjk (ze3 (show cs.length ≤ 16000000 by omega))]
  obtain ⟨ρ', S4, e4, ⟨g, o5, o6, rfl, G⟩, p4⟩ := zol (enc := fun i : Nat => D.int ((i : Nat) : Int)) (G := gNm 5) (f := zg7) (T := T) (c := 2)
    (fun pre ρ => ∃ g o5 o6, ρ = [some (.obj 0), some (.dat (.tup cs)), some (.dat (.int ((c : Nat) : Int))), some (.dat (oD w)), some (.dat (gD g)), o5, o6] ∧ RG cs c w pre.length g)
    (List.range cs.length) [] (n + 1 + 1 + 1) [some (.obj 0), some (.dat (.tup cs)), some (.dat (.int ((c : Nat) : Int))), some (.dat (oD w)), some (.dat (.tup [])), none, none] S3 ⟨[], _, _, rfl, ⟨(fun p hp => nomatch hp), (fun p hp => nomatch hp), (fun _ p hp => nomatch hp), by simp, by simp⟩⟩ p3 (by simp; omega) (by
    rintro pre a post m' ρ S hpp ⟨g, o5, o6, rfl, G⟩ hp hm'
    obtain ⟨ha, ha2⟩ := zp3 (by simpa using hpp)
    obtain ⟨g', p6, S1, e, p, G'⟩ := rule_body hp hm' cs hc hl c w g a ha2 (by rw [ha]; exact G) o6
    exact ⟨_, _, S1, rfl, e, ⟨g', _, _, rfl, by rw [List.length_append, ← ha]; exact G'⟩, p⟩)
  simp only [List.nil_append, List.length_range] at G p4
  simp! only [e4, p4.take h.len]
  have gl := G.len
  exact ⟨⟨g, c, w⟩, S4, rfl, p4.mono (by omega), isRul_of hcl G hw, G, hw, ⟨⟨fun p hp => (G.lt p hp).1, by show g.length ≤ 64; omega⟩, hcl⟩, by show g.length < 64; omega⟩
theorem GR.of {cs : List D} {r : Rul} (hcl : r.c < cs.length) (G : RG cs r.c r.w cs.length r.g) (hw : ∀ v, r.w = some v → okV (cs.getD r.c .non) v) (hl : cs.length ≤ 4) : GR cs r :=
  ⟨isRul_of hcl G hw, G, hw, ⟨⟨fun p hp => (G.lt p hp).1, by have := G.len; omega⟩, hcl⟩, by have := G.len; omega⟩
theorem open_body (cells : List Int) (hl : cells.length = 12) (ns : List Int) (k : Nat) (v : Int) : ∃ cells' : List Int, cells'.length = 12 ∧
    zey [some (.scr ns), some (.obj 0), some (.dat (.int (k : Nat))), some (.dat (.int v))] [some (cells.map .int)] = .nx [some (.scr ns), some (.obj 0), some (.dat (.int (k : Nat))), some (.dat (.int v))] [some (cells'.map .int)] := by
  unfold zey
  have m : dMod (.int (k : Nat)) (.int 12) = some (.int (((k % 12 : Nat) : Int))) := by rw [zhi (by decide)]; congr 1
  have hk : k % 12 < cells.length := by omega
  simp! only [m, zja D.int 0 hk]
  have e : ixN (cells.map D.int).length ((k % 12 : Nat) : Int) = some (k % 12) := by
    unfold ixN
    rw [if_pos (by omega), if_pos (by simp; omega), Int.toNat_natCast]
  refine ⟨cells.set (k % 12) (cells.getD (k % 12) 0 + v), by simpa using hl, ?_⟩
  simp only [zqq, DL.zd4, List.getElem?_cons_zero, e, List.set_cons_zero, List.map_set]
theorem open_ok (ns : List Int) (hn : ns.length ≤ 63) : ∃ S, zh6 [.scr ns] [] = .ok (.obj 0) S ∧ Pen 0 [] S := by
  unfold zh6 zmr
  have c1 : cutL ns none (some 12) = ns.take 12 := cut_to ns 12
  have c2 : cutL ns (some 12) (some 63) = (ns.drop 12).take 51 := cut_mid ns 12 63 (by decide)
  simp! only [a_retN, a_list, c1, c2, enum_map]
  have loop : ∃ ρ' S', zez (gTp (gCo (gNm 2) (gCo (gNm 3) gNo))) zey ((((ns.drop 12).take 51).zipIdx.map fun p => (p.2, p.1)).map fun p => zo4 (.int ((p.1 : Nat) : Int)) (.int p.2)) [some (.scr ns), some (.obj 0), none, none] [some ((ns.take 12).map .int)] = .nx ρ' S' ∧ ∃ o2 o3, ∃ cells : List Int, ρ' = [some (.scr ns), some (.obj 0), o2, o3] ∧ S' = [some (cells.map .int)] := by
    obtain ⟨ρ', S', e, o2, o3, cells, h1, h2, _⟩ := zix (enc := fun p : Nat × Int => zo4 (.int ((p.1 : Nat) : Int)) (.int p.2)) (G := gTp (gCo (gNm 2) (gCo (gNm 3) gNo))) (f := zey) (fun _ ρ S => ∃ o2 o3, ∃ cells : List Int, ρ = [some (.scr ns), some (.obj 0), o2, o3] ∧ S = [some (cells.map .int)] ∧ (ns.length > 12 → cells.length = 12)) (((ns.drop 12).take 51).zipIdx.map fun p => (p.2, p.1)) [] [some (.scr ns), some (.obj 0), none, none] [some ((ns.take 12).map .int)] ⟨_, _, ns.take 12, rfl, rfl, fun h => by simp; omega⟩ (by
      rintro pre a post ρ S hpp ⟨o2, o3, cells, rfl, rfl, hc⟩
      have hlen : ns.length > 12 := by
        have := congrArg List.length hpp
        simp at this
        omega
      obtain ⟨cells', l', e⟩ := open_body cells (hc hlen) ns a.1 a.2
      exact ⟨_, _, _, rfl, .inl e, ⟨_, _, cells', rfl, rfl, fun _ => l'⟩⟩)
    exact ⟨ρ', S', e, o2, o3, cells, h1, h2⟩
  obtain ⟨ρ', S', e, o2, o3, cells, rfl, rfl⟩ := loop
  simp! only [e, DL.zd4, a_retN]
  exact ⟨_, rfl, cells, 0, 0, rfl, Nat.le_refl _⟩
end T45
set_option maxHeartbeats 400000
namespace T45
open PySem PySem.Spec PyProof.Rows L2 DL
/-! ## steps of fixes -/
def sD (st : List Nat) : D := .tup (st.map fun i => .int ((i : Nat) : Int))
def tD (l : List Int) : D := .tup (l.map .int)
theorem dInB_nat (c : Nat) (st : List Nat) : dInB (.int (c : Nat)) (st.map fun i => .int ((i : Nat) : Int)) = decide (c ∈ st) := by
  have : (st.map fun i => D.int ((i : Nat) : Int)) = (st.map fun i => ((i : Nat) : Int)).map .int := by simp
  rw [this, zny, Bool.eq_iff_iff, decide_eq_true_eq, decide_eq_true_eq, List.mem_map]
  constructor
  · rintro ⟨i, hi, e⟩
    have : i = c := by omega
    exact this ▸ hi
  · intro h; exact ⟨c, h, rfl⟩
theorem zp9 (n : Nat) (st : List Nat) : D.fits n (st.map fun i => .int ((i : Nat) : Int)) = true := fits_iff.mpr fun x hx => by
  obtain ⟨i, _, rfl⟩ := List.mem_map.mp hx
  cases n <;> rfl
theorem zp4 (c : Nat) (st : List Nat) : dNin (.int (c : Nat)) (sD st) = some (.bl (!decide (c ∈ st))) := by
  rw [sD, dNin_t (n := 0) (m := 0) rfl (zp9 0 st), dInB_nat]
theorem zov (c : Nat) (st : List Nat) : dIn (.int (c : Nat)) (sD st) = some (.bl (decide (c ∈ st))) := by
  rw [sD, dIn_t (n := 0) (m := 0) rfl (zp9 0 st), dInB_nat]
structure Fix (cs : List D) (rs : List Rul) (t : Tab) (row : Row) (st : List Nat) : Prop where
  hc : zjj (.tup cs) = true
  oc : ∀ c ∈ cs, okC c
  rl : rs.length ≤ 8
  rg : ∀ r ∈ rs, GR cs r
  tl : t.length ≤ 8
  tr : ∀ r ∈ t, RowOK cs r
  rw_ : RowOK cs row
  sb : ∀ i ∈ st, i < cs.length
  inc : st.Pairwise (· < ·)
def zj8 (r : Rul) (t : Tab) (row : Row) : List Int := match r.w with
  | some v => [v]
  | none => (t.filter fun o => ze1 r.g o && agree r.g row o).map fun o => o.getD r.c 0
def canS (r : Rul) (row : Row) (st : List Nat) : Bool := !decide (r.c ∈ st) && ((r.g.all fun p => decide (p.1 ∈ st)) && ze1 r.g row)
def zjm (k : Nat) (r : Rul) (t : Tab) (row : Row) (st : List Nat) : List (List Int) := bif canS r row st then (zj8 r t row).map fun v => [((k : Nat) : Int), ((r.c : Nat) : Int), v] else []
def zeg (rs : List Rul) (t : Tab) (row : Row) (st : List Nat) : List (List Int) := (List.range rs.length).flatMap fun k => zjm k (rs.getD k ⟨[], 0, none⟩) t row st
theorem Fix.c4 {cs rs t row st} (F : Fix cs rs t row st) : 1 ≤ cs.length ∧ cs.length ≤ 4 ∧ ∀ c ∈ cs, zhz c = true := by
  obtain ⟨_, e, a, b, c⟩ := zjq F.hc
  cases e
  exact ⟨a, b, c⟩
theorem RowOK.len {cs : List D} {r : Row} (h : RowOK cs r) : r.length = cs.length := ((zh_ cs r).mp h.1).1
theorem RowOK.val {cs : List D} {r : Row} (h : RowOK cs r) {i : Nat} (hi : i < cs.length) : okV (cs.getD i .non) (r.getD i 0) :=
  ⟨((zh_ cs r).mp h.1).2 i hi, h.2 _ (zfc (by rw [h.len]; exact hi))⟩
theorem RowOK.of {cs : List D} {r : Row} (hl : r.length = cs.length) (h : ∀ i, i < cs.length → okV (cs.getD i .non) (r.getD i 0)) : RowOK cs r :=
  ⟨(zh_ cs r).mpr ⟨hl, fun i hi => (h i hi).1⟩, fun v hv => by
    obtain ⟨i, hi, rfl⟩ := List.mem_iff_getElem.mp hv
    have := (h i (by omega)).2
    rwa [List.getD_eq_getElem?_getD, List.getElem?_eq_getElem hi] at this⟩
theorem GR.okg {cs : List D} {r : Rul} (h : GR cs r) {row : Row} (hr : row.length = cs.length) : okG row.length r.g := by rw [hr]; exact h.ok.g
theorem valsR_ok {cs : List D} {r : Rul} (hr : GR cs r) {t : Tab} (ht : ∀ o ∈ t, RowOK cs o) (row : Row) : ∀ v ∈ zj8 r t row, okV (cs.getD r.c .non) v := by
  intro v hv
  unfold zj8 at hv
  split at hv
  · rename_i u hw
    simp only [List.mem_cons, List.not_mem_nil, or_false] at hv
    rw [hv]
    exact hr.hw u hw
  · obtain ⟨o, ho, rfl⟩ := List.mem_map.mp hv
    exact (ht o (List.mem_filter.mp ho).1).val hr.ok.c
theorem valsR_len (r : Rul) (t : Tab) (row : Row) (h : t.length ≤ 8) : (zj8 r t row).length ≤ 8 := by
  unfold zj8
  split
  · simp
  · have := List.length_filter_le (fun o => ze1 r.g o && agree r.g row o) t
    rw [List.length_map]; omega
theorem stepsK_len (k : Nat) (r : Rul) (t : Tab) (row : Row) (st : List Nat) (h : t.length ≤ 8) : (zjm k r t row st).length ≤ 8 := by
  have := valsR_len r t row h
  unfold zjm
  cases canS r row st <;> simp <;> omega
theorem zkd {cs : List D} (r : Rul) (hr : GR cs r) (t : Tab) (ht : t.length ≤ 8) (htr : ∀ o ∈ t, RowOK cs o) (row : Row) (hrow : row.length = cs.length) (S : zaf) :
    zfg [.dat (rulD r), .dat (tabD t), .dat (rowD row)] S = .ok (.dat (.lst ((zj8 r t row).map .int))) S := by
  unfold zfg zk2
  simp! only [rulD, oD_isN]
  unfold zj8
  cases hw : r.w with
  | some v => simp! only [Option.isNone_some, oD]
  | none =>
    simp! only [Option.isNone_none, tabD, List.length_map, zcu (show t.length ≤ 16777216 by omega)]
    rw [zhv (p := fun o => ze1 r.g o && agree r.g row o) (q := fun o => .int (o.getD r.c 0)) t ?h]
    case h =>
      intro o ho
      have hol := (htr o ho).len
      refine ⟨_, rfl, ?_, fun _ => by simp! only [rowD, zja D.int 0 (show r.c < o.length by rw [hol]; exact hr.ok.c)]⟩
      simp! only [zi4 r.g o (hr.okg hol), are_equal_ok r.g row o (hr.okg hrow) (by rw [hol, hrow])]
    simp! only [List.map_map]
    rfl
theorem steps_few {cs rs t row st} (F : Fix cs rs t row st) : (zc8 (zeg rs t row st)).length < 63 := by
  have nd : (zc8 (zeg rs t row st)).Nodup := by
    refine (zjo _).imp fun {a b} h e => ?_
    rw [e, lx_irr] at h
    cases h
  have := PySem.DLSetT.few_of (zc8 (zeg rs t row st)) ((List.range rs.length).flatMap fun k => POOL.map fun v => [((k : Nat) : Int), (((rs.getD k ⟨[], 0, none⟩).c : Nat) : Int), v]) nd fun x hx => by
    have hx := (zc5 _ _).mp hx
    obtain ⟨k, hk, hx⟩ := List.mem_flatMap.mp hx
    have hk' : k < rs.length := by simpa using hk
    refine List.mem_flatMap.mpr ⟨k, hk, ?_⟩
    unfold zjm at hx
    cases hq : canS (rs.getD k ⟨[], 0, none⟩) row st
    · rw [hq] at hx; cases hx
    · rw [hq] at hx
      obtain ⟨v, hv, rfl⟩ := List.mem_map.mp hx
      exact List.mem_map.mpr ⟨v, (valsR_ok (F.rg _ (zfc hk')) F.tr row v hv).2, rfl⟩
  have h2 := zni (l := List.range rs.length) (m := 7) (f := fun k => POOL.map fun v => [((k : Nat) : Int), (((rs.getD k ⟨[], 0, none⟩).c : Nat) : Int), v]) (fun k _ => by rw [List.length_map]; decide)
  have := F.rl
  simp only [List.length_range] at h2
  omega
theorem zk6 {cs rs t row st} (F : Fix cs rs t row st) {x : List Int} (hx : x ∈ zeg rs t row st) : ∃ k v, k < rs.length ∧ x = [((k : Nat) : Int), (((rs.getD k ⟨[], 0, none⟩).c : Nat) : Int), v] ∧ okV (cs.getD (rs.getD k ⟨[], 0, none⟩).c .non) v ∧ (rs.getD k ⟨[], 0, none⟩).c < cs.length ∧ (rs.getD k ⟨[], 0, none⟩).c ∉ st := by
  obtain ⟨k, hk, hx⟩ := List.mem_flatMap.mp hx
  have hk' : k < rs.length := by simpa using hk
  have hg := F.rg _ (zfc (d := (⟨[], 0, none⟩ : Rul)) hk')
  unfold zjm at hx
  cases hq : canS (rs.getD k ⟨[], 0, none⟩) row st
  · rw [hq] at hx; cases hx
  · rw [hq] at hx
    obtain ⟨v, hv, rfl⟩ := List.mem_map.mp hx
    unfold canS at hq
    simp only [Bool.and_eq_true, Bool.not_eq_true', decide_eq_false_iff_not] at hq
    exact ⟨k, v, hk', rfl, valsR_ok hg F.tr row v hv, hg.ok.c, hq.1⟩
theorem tupsI_map : ∀ L : List (List Int), tupsI (L.map tD) = some L
  | [] => rfl
  | a :: L => by simp only [List.map_cons, tD, tupsI, zd6, tupsI_map L]
theorem steps_sort {cs rs t row st} (F : Fix cs rs t row st) (S : zaf) : sortT (.dat (.lst ((zeg rs t row st).map tD))) S = .ok ((zc8 (zeg rs t row st)).map tD) S := by
  have ok : tupsOk (zeg rs t row st) = true := by
    unfold tupsOk
    have l3 : ∀ x ∈ zeg rs t row st, x.length = 3 ∧ ∀ i ∈ x, 0 ≤ i := fun x hx => by
      obtain ⟨k, v, _, rfl, hv, _⟩ := zk6 F hx
      refine ⟨rfl, fun i hi => ?_⟩
      simp only [List.mem_cons, List.not_mem_nil, or_false] at hi
      rcases hi with rfl | rfl | rfl
      · omega
      · omega
      · exact isVal_nn hv.1
    simp only [Bool.and_eq_true, decide_eq_true_eq]
    refine ⟨⟨?_, ?_⟩, steps_few F⟩
    · cases hs : zeg rs t row st with
      | nil => rfl
      | cons x L =>
        rw [hs] at l3
        have h1 := (l3 x List.mem_cons_self).1
        simp only [Bool.and_eq_true, decide_eq_true_eq, List.all_eq_true]
        exact ⟨by omega, fun b hb => by rw [(l3 b hb).1, h1]⟩
    · rw [List.all_eq_true]
      intro x hx
      rw [List.all_eq_true]
      intro i hi
      exact decide_eq_true ((l3 x hx).2 i hi)
  simp only [sortT, rd, tupsI_map, ok, if_true]
  rfl
theorem zo5 {cs rs t row st} (F : Fix cs rs t row st) (S0 : zaf) : sortT (.obj S0.length) (S0 ++ [some ((zeg rs t row st).map tD)]) = .ok ((zc8 (zeg rs t row st)).map tD) (S0 ++ [some ((zeg rs t row st).map tD)]) := by
  have h := steps_sort F (S0 ++ [some ((zeg rs t row st).map tD)])
  unfold sortT at h ⊢
  rw [zc3]
  exact h
theorem a_sortT (f : XFn) (ρ : zat) (S : zaf) : znt f ρ S = (f ρ S).bind sortT := rfl
theorem fns_loop {cs rs t row st} (F : Fix cs rs t row st) (S : zaf) : ∃ ρ', zez (gTp (gCo (gNm 5) (gCo (gNm 6) gNo))) ze5 ((rs.zipIdx.map fun p => (p.2, p.1)).map fun p => zo4 (.int ((p.1 : Nat) : Int)) (rulD p.2)) [some (.dat (zao rs)), some (.dat (tabD t)), some (.dat (rowD row)), some (.dat (sD st)), some (.obj S.length), none, none, none, none, none, none, none] (S ++ [some []]) = .nx ρ' (S ++ [some ((zeg rs t row st).map tD)]) ∧ ∃ o5 o6 o7 o8 o9, ρ' = [some (.dat (zao rs)), some (.dat (tabD t)), some (.dat (rowD row)), some (.dat (sD st)), some (.obj S.length), o5, o6, o7, o8, o9, none, none] := by
  obtain ⟨c1, c2, c3⟩ := F.c4
  have hrow := F.rw_.len
  have e : zeg rs t row st = (rs.zipIdx.map fun p => (p.2, p.1)).flatMap fun p => zjm p.1 p.2 t row st := by
    rw [zeg, zipIdx_range ⟨[], 0, none⟩, List.flatMap_map]
  rw [e]
  have hlen : ((rs.zipIdx.map fun p => (p.2, p.1)).flatMap fun p => zjm p.1 p.2 t row st).length ≤ 64 := by
    have h1 := zni (l := rs.zipIdx.map fun p => (p.2, p.1)) (m := 8) (f := fun p => zjm p.1 p.2 t row st) (fun p _ => stepsK_len _ _ _ _ _ F.tl)
    have h2 : (rs.zipIdx.map fun p => (p.2, p.1)).length = rs.length := by simp
    have := F.rl
    omega
  refine for_acc (P := fun ρ => ∃ o5 o6 o7 o8 o9, ρ = [some (.dat (zao rs)), some (.dat (tabD t)), some (.dat (rowD row)), some (.dat (sD st)), some (.obj S.length), o5, o6, o7, o8, o9, none, none]) _ _ [] ?_ ⟨_, _, _, _, _, rfl⟩ ?_
  · exact ze3 (by simp only [List.length_nil]; omega)
  · rintro p hp ρ ds ⟨o5, o6, o7, o8, o9, rfl⟩ hb
    have hm : p.2 ∈ rs := by
      obtain ⟨q, hq, rfl⟩ := List.mem_map.mp hp
      exact (List.mem_zipIdx' hq).2 ▸ List.getElem_mem _
    have hr := F.rg _ hm
    have lg : szB p.2.g.length = true := zcu (by have := hr.sh; omega)
    refine ⟨[some (.dat (zao rs)), some (.dat (tabD t)), some (.dat (rowD row)), some (.dat (sD st)), some (.obj S.length), some (.dat (.int ((p.1 : Nat) : Int))), some (.dat (rulD p.2)), o7, o8, o9, none, none], [some (.dat (zao rs)), some (.dat (tabD t)), some (.dat (rowD row)), some (.dat (sD st)), some (.obj S.length), some (.dat (.int ((p.1 : Nat) : Int))), some (.dat (rulD p.2)), some (.dat (gD p.2.g)), some (.dat (.int (p.2.c : Nat))), some (.dat (oD p.2.w)), none, none], rfl, ?_, ⟨_, _, _, _, _, rfl⟩⟩
    unfold ze5
    have e1 : ∀ ρ, gTp (gCo (gNm 7) (gCo (gNm 8) (gCo (gNm 9) gNo))) (rulD p.2) ρ = some (((ρ.set 7 (some (.dat (gD p.2.g)))).set 8 (some (.dat (.int (p.2.c : Nat))))).set 9 (some (.dat (oD p.2.w)))) := fun _ => rfl
    have itg : ∀ S, zes (.dat (gD p.2.g)) S = .ok (p.2.g.map eD) S := fun _ => rfl
    simp! only [e1, itg, zp4]
    unfold zjm at hb ⊢
    unfold canS at hb ⊢
    cases h1 : (!decide (p.2.c ∈ st))
    · simp! only []
    · simp! only [itg, List.length_map, lg]
      rw [zcv (q := fun e : Ent => .bl (decide (e.1 ∈ st))) p.2.g ?h]
      case h => intro e he; exact ⟨_, rfl, rfl, by simp! only [eD, atI_0, zov]⟩
      simp! only [zc6]
      cases h2 : (p.2.g.all fun e => decide (e.1 ∈ st))
      · simp! only []
      · simp! only [zi4 p.2.g row (hr.okg hrow)]
        cases h3 : ze1 p.2.g row
        · simp! only []
        · have lv := valsR_len p.2 t row F.tl
          simp -implicitDefEqProofs only [h1, h2, h3, a_fn, zec, zcm, zd_, zd2, zdt, zdb, zbl, za5, c_ok, zf6, c_bl, zge, zgg, c_or, zde, zfr, zg0, zg3, zdc, a_tg, zdx, zb6, zgx, Res.bind_ok, Res.bind_ex, Res.bindS_ok, Res.bindS_ex, zc4, a_c, a_x2, a_o2, zdl, a_xN, zdw, zgr, a_o1, zf9, zgc, zg1, zbk, zbm, zb5, zb4, zdz, zfx, zgh, zft, zfu, zgi, zb8, zbh, za1, za0, za8, zaz, zfv, a_or, zca, zcg, zf5, zgy, zgk, zd1, a_if, zgq, zda, zb7, zbp, za9, zbi, zcd, a_it, zb_, za6, a_lc, zcb, zcc, zgv, zg_, zf3, zgt, zfw, zgd, zfz, zgb, zgo, zdq, a_rd, Option.bind_some, zcf, zck, zci, za7, List.map_cons, List.map_nil, List.length_cons, List.length_nil, Nat.reduceSub, Nat.reduceAdd, List.replicate_succ, List.replicate_zero, List.cons_append, List.nil_append, List.append_nil, List.getElem?_cons_zero, List.getElem?_cons_succ, List.set_cons_zero, List.set_cons_succ, List.take_length, cond_true, cond_false, Bool.not_true, Bool.not_false, zgs, zgf, zgm, zgp, zdj, zdd, zce, zbo, zdy, zd0, zfq, ze2, zcj, zcl, zbn, zbj, zf8, zdh, zfb, zfp, zgl, zc0, zdf, zgz, zdk, zf7, zf4, zga, zdm, zdg, za4, za3, zc1, zbb, zas, Option.map_some, zau, zc3, zbu, zbe, lit2, lit3, Bool.true_and, Bool.false_and, Bool.and_true, Bool.and_false, Bool.true_or, Bool.false_or, Bool.or_true, Bool.or_false, Bool.not_not, a_sl, zg2, zgw, zb9, zdi, zf0, zdv, zdp, zds, zch, zb0, List.length_map] at hb
          simp! only []
          refine ext_end rfl ?_ (by simpa using hb)
          simp! only [zkd p.2 hr t F.tl F.tr row hrow, List.length_map, zcu (show (zj8 p.2 t row).length ≤ 16777216 by omega)]
          rw [zcv (q := fun v : Int => tD [((p.1 : Nat) : Int), ((p.2.c : Nat) : Int), v]) (zj8 p.2 t row) ?h]
          case h => intro v hv; exact ⟨_, rfl, rfl, by simp! only [tD]⟩
          simp! only [List.map_map]
          rfl
end T45
set_option maxHeartbeats 400000
namespace T45
open PySem PySem.Spec PyProof.Rows L2 DL
theorem zjg {cs : List D} (st : List Nat) (hl : cs.length ≤ 4) (sb : ∀ i ∈ st, i < cs.length) (inc : st.Pairwise (· < ·)) (S : zaf) : ze8 [.dat (.tup cs), .dat (sD st)] S = .ok (.dat (.bl true)) S := by
  unfold ze8 zms
  have ls : st.length ≤ 4 := by
    have nd : st.Nodup := inc.imp fun h => by omega
    have := PySem.DLSetT.few_of st (List.range cs.length) nd fun x hx => List.mem_range.mpr (sb x hx)
    simp only [List.length_range] at this
    omega
  have it : ∀ S, zes (.dat (sD st)) S = .ok (st.map fun i => .int ((i : Nat) : Int)) S := fun _ => rfl
  simp! only [it, show (sD st).isT = true from rfl, List.length_map, zcu (show st.length ≤ 16777216 by omega)]
  rw [zcv (q := fun i : Nat => .bl true) st ?h]
  case h =>
    intro i hi
    have b : zm3 (.int (i : Nat)) 0 (cs.length - 1) = true := by
      have := sb i hi
      simp only [zm3, Bool.and_eq_true, decide_eq_true_eq]
      omega
    exact ⟨_, rfl, rfl, by simp! only [zi6, b]⟩
  have e2 : (st.map fun i => D.int ((i : Nat) : Int)) = (st.map fun i => ((i : Nat) : Int)).map .int := by simp
  have so : sset (st.map fun i => ((i : Nat) : Int)) = st.map fun i => ((i : Nat) : Int) := zkc (by rw [List.pairwise_map]; exact inc.imp fun h => by omega)
  have dl : dList (sD st) = some (.lst ((st.map fun i => ((i : Nat) : Int)).map .int)) := by rw [← e2]; rfl
  have so2 : ∀ S, zqc (.dat (sD st)) S = .ok ((st.map fun i => ((i : Nat) : Int)).map .int) S := fun S => by
    have : sD st = .tup ((st.map fun i => ((i : Nat) : Int)).map .int) := by rw [← e2]; rfl
    rw [this, zpe _ (by simp; omega), so]
  simp! only [zc6, dl, so2, zng, decide_true]
  cases h : st.all fun _ => true
  · simp at h
  · simp! only []
theorem zo7 (cs : List D) (d : D) (hc : ∀ c ∈ cs, zhz c = true) (hl : cs.length ≤ 4) (S : zaf) : zhp [.dat (.tup cs), .dat d] S = bif zj9 cs d then .ok (.dat .non) S else .ex "InvalidRow" S := by
  unfold zhp zkz
  simp! only [zjp cs d hc hl]
  cases zj9 cs d <;> simp! only []
theorem zlc {cs : List D} (st : List Nat) (hl : cs.length ≤ 4) (sb : ∀ i ∈ st, i < cs.length) (inc : st.Pairwise (· < ·)) (S : zaf) : zen [.dat (.tup cs), .dat (sD st)] S = .ok (.dat .non) S := by
  unfold zen ziq
  simp! only [zjg st hl sb inc]
theorem Fix.rules {cs rs t row st} (F : Fix cs rs t row st) : znz cs (zao rs) = true ∧ (∀ r ∈ ze9 (zao rs), short r) ∧ isTab cs (tabD t) = true := by
  refine ⟨?_, fun r hr => ?_, (tab_of F.tl fun r hr => (F.tr r hr).1).1⟩
  · simp only [znz, zao, List.length_map, Bool.and_eq_true, Bool.not_eq_true', decide_eq_false_iff_not, List.all_eq_true]
    refine ⟨by have := F.rl; omega, fun x hx => ?_⟩
    obtain ⟨r, hr, rfl⟩ := List.mem_map.mp hx
    exact (F.rg r hr).is
  · obtain ⟨q, hq, rfl⟩ := List.mem_map.mp hr
    have := (F.rg q hq).sh
    simp only [short, rulD, gD, ze9, List.length_map]
    exact this
theorem zij {cs rs t row st} (F : Fix cs rs t row st) (S : zaf) : zeq [.dat (.tup cs), .dat (zao rs), .dat (tabD t), .dat (rowD row), .dat (sD st)] S = .ok (.dat .non) S := by
  unfold zeq zk5
  obtain ⟨c1, c2, c3⟩ := F.c4
  obtain ⟨f1, f2, f3⟩ := F.rules
  simp! only [zhh _ _ f2, F.hc, show ze9 (.tup cs) = cs from rfl, f1, zm4 cs _ c3 c2, f3, zo7 cs _ c3 c2, F.rw_.1, zlc st c2 F.sb F.inc]
/-! ## the law's own steps -/
theorem flat_if {α β : Type} (p : α → Bool) (f : α → β) : ∀ l : List α, (l.flatMap fun o => bif p o then [f o] else []) = (l.filter p).map f
  | [] => rfl
  | a :: l => by
    have := flat_if p f l
    cases h : p a
    · simp only [List.flatMap_cons, h, cond_false, List.nil_append, this, List.filter_cons, Bool.false_eq_true, if_false]
    · simp only [List.flatMap_cons, h, cond_true, this, List.filter_cons, if_true, List.map_cons, List.cons_append, List.nil_append]
end T45
set_option maxHeartbeats 400000
namespace T45
open PySem PySem.Spec PyProof.Rows L2 DL
theorem lc_penF {α : Type} {enc q : α → D} {G : GFn} {t : TFn} {f : XFn} {ρ : zat} {T : zaf} {c : Nat} : ∀ (xs : List α) (m : Nat) (S : zaf), Pen m T S → m + c * xs.length ≤ LIM →
    (∀ a ∈ xs, ∀ m S, Pen m T S → m + c ≤ LIM → ∃ ρ1 b S1, G (enc a) ρ = some ρ1 ∧ t ρ1 S = .ok b S1 ∧ Pen (m + c) T S1 ∧ (b = true → f ρ1 S1 = .ok (.dat (q a)) S1)) →
    ∃ (ys : List α) (S1 : zaf), lcGo G t f ρ (xs.map enc) S = .ok (ys.map q) S1 ∧ Pen (m + c * xs.length) T S1 ∧ ys.Sublist xs
  | [], m, S, hp, _, _ => ⟨[], S, rfl, hp, .slnil⟩
  | a :: r, m, S, hp, hb, hs => by
    have hb' : m + c + c * r.length ≤ LIM := by simp only [List.length_cons, Nat.mul_succ] at hb; omega
    obtain ⟨ρ1, b, S1, h1, h2, h3, h4⟩ := hs a (List.mem_cons_self ..) m S hp (by omega)
    obtain ⟨ys, S2, e, p2, sl⟩ := lc_penF (enc := enc) (q := q) (G := G) (t := t) (f := f) (ρ := ρ) r (m + c) S1 h3 hb' fun b hb => hs b (List.mem_cons_of_mem _ hb)
    cases b with
    | false =>
      refine ⟨ys, S2, ?_, ?_, sl.cons a⟩
      · simp only [List.map_cons, lcGo, h1, h2, Res.bindN_ok, Bool.false_eq_true, if_false, e]
      · simp only [List.length_cons, Nat.mul_succ]; exact p2.mono (by omega)
    | true =>
      refine ⟨a :: ys, S2, ?_, ?_, sl.cons₂ a⟩
      · simp only [List.map_cons, lcGo, h1, h2, Res.bindN_ok, if_true, h4 rfl, e]
      · simp only [List.length_cons, Nat.mul_succ]; exact p2.mono (by omega)
def addS (c : Nat) (st : List Nat) : List Nat := (st ++ [c]).mergeSort
theorem addS_ok (c : Nat) (st : List Nat) (hc : c ∉ st) (hs : st.Pairwise (· < ·)) : isortI ((st ++ [c]).map fun i => ((i : Nat) : Int)) = (addS c st).map (fun i => ((i : Nat) : Int)) ∧ (addS c st).Pairwise (· < ·) ∧ ∀ i, i ∈ addS c st ↔ i ∈ st ∨ i = c := by
  have pm : (addS c st).Perm (st ++ [c]) := List.mergeSort_perm _ _
  have so : (addS c st).Pairwise (· ≤ ·) := by
    have := List.pairwise_mergeSort (le := fun a b : Nat => decide (a ≤ b)) (by intro a b c h1 h2; simp at *; omega) (by intro a b; simp; omega) (st ++ [c])
    exact this.imp fun h => by simpa using h
  refine ⟨?_, ?_, fun i => by rw [pm.mem_iff]; simp⟩
  · refine (isortI_eq (pm.map _) ?_).symm
    rw [List.pairwise_map]
    exact so.imp fun h => by omega
  · have nd : (addS c st).Nodup := by
      rw [pm.nodup_iff, List.nodup_append]
      exact ⟨hs.imp fun h => by omega, by simp, fun x hx y hy => by simp at hy; subst hy; exact fun z => hc (z ▸ hx)⟩
    exact List.Pairwise.imp (fun {a b} h => by have := h.1; have := h.2; omega) (List.Pairwise.and so nd)
theorem set_cut (r : Row) (a : Nat) (v : Int) (h : a < r.length) : (r.map D.int).take a ++ [.int v] ++ (r.map D.int).drop (a + 1) = (r.set a v).map .int := by
  rw [List.set_eq_take_append_cons_drop, if_pos h]
  simp [List.map_take, List.map_drop]
theorem Fix.step {cs rs t row st} (F : Fix cs rs t row st) {c : Nat} {v : Int} (hc : c < cs.length) (hn : c ∉ st) (hv : okV (cs.getD c .non) v) : Fix cs rs t (row.set c v) (addS c st) := by
  obtain ⟨_, a2, a3⟩ := addS_ok c st hn F.inc
  refine ⟨F.hc, F.oc, F.rl, F.rg, F.tl, F.tr, RowOK.of (by rw [List.length_set, F.rw_.len]) fun i hi => ?_, fun i hi => ?_, a2⟩
  · have hl := F.rw_.len
    by_cases e : c = i
    · subst e
      have e2 : (row.set c v).getD c 0 = v := by
        rw [List.getD_eq_getElem?_getD, List.getElem?_set_self (by omega)]
        rfl
      rw [e2]
      exact hv
    · have e2 : (row.set c v).getD i 0 = row.getD i 0 := by
        rw [List.getD_eq_getElem?_getD, List.getElem?_set_ne e, ← List.getD_eq_getElem?_getD]
      rw [e2]
      exact F.rw_.val hi
  · rcases (a3 i).mp hi with h | h
    · exact F.sb i h
    · rw [h]; exact hc
theorem case_body {n : Nat} {T S : zaf} (h : Pen n T S) (hn : n + 11 ≤ LIM) (cs : List D) (hc : ∀ c ∈ cs, okC c) (h0 : 1 ≤ cs.length) (hl : cs.length ≤ 4) (rs : List Rul) (hr : ∀ r ∈ rs, GR cs r) (h8 : rs.length ≤ 8) (o3 : Option DV) :
    ∃ (r : Rul) (S1 : zaf), zg8 [some (.obj 0), some (.dat (.tup cs)), some (.dat (zao rs)), o3, none, none, none] S = .nx [some (.obj 0), some (.dat (.tup cs)), some (.dat (zao (rs ++ [r]))), o3, none, none, none] S1 ∧ Pen (n + 11) T S1 ∧ GR cs r := by
  unfold zg8
  obtain ⟨r, S1, e, p, hr1⟩ := rule_ok h hn cs hc h0 hl
  have ad : dAdd (zao rs) (.tup [rulD r]) = some (zao (rs ++ [r])) := by
    rw [zao, zjx, zcu (by simp; omega)]
    simp [zao]
  simp! only [e, ad]
  exact ⟨r, S1, rfl, p, hr1⟩
theorem case_ok {n : Nat} {T S : zaf} (h : Pen n T S) (hn : n + 200 ≤ LIM) : ∃ (cs : List D) (rs : List Rul) (t : Tab) (row : Row) (st : List Nat) (S1 : zaf), zh3 [.obj 0] S = .ok (.dat (.tup [.tup cs, zao rs, tabD t, rowD row, sD st])) S1 ∧ Pen (n + 200) T S1 ∧ Fix cs rs t row st := by
  unfold zh3 zmh
  have hn : n + 200 ≤ 2147483648 := hn
  obtain ⟨cs, S1, e1, p1, hcs, oc⟩ := columns_ok h (by show _ ≤ 2147483648; omega)
  obtain ⟨_, ec, c1, c2, c3⟩ := zjq hcs
  cases ec
  obtain ⟨m, S2, e2, p2, hm⟩ := zht p1 (by show _ ≤ 2147483648; omega) 9 (by decide) (by decide)
  simp! only [e1, e2, zjk (ze3 (show m ≤ 16000000 by omega))]
  obtain ⟨ρ', S3, e3, ⟨rs, o3, rfl, hrl, hrs⟩, p3⟩ := zol (enc := fun i : Nat => D.int ((i : Nat) : Int)) (G := gNm 3) (f := zg8) (T := T) (c := 11)
    (fun pre ρ => ∃ rs o3, ρ = [some (.obj 0), some (.dat (.tup cs)), some (.dat (zao rs)), o3, none, none, none] ∧ rs.length = pre.length ∧ ∀ r ∈ rs, GR cs r)
    (List.range m) [] _ [some (.obj 0), some (.dat (.tup cs)), some (.dat (.tup [])), none, none, none, none] S2 ⟨[], _, rfl, rfl, fun r hr => nomatch hr⟩ p2 (by show _ ≤ 2147483648; simp; omega) (by
    rintro pre a post m' ρ S hpp ⟨rs, o3, rfl, hrl, hrs⟩ hp hm'
    obtain ⟨ha, ha2⟩ := zp3 (by simpa using hpp)
    obtain ⟨r, S1, e, p, hr⟩ := case_body hp hm' cs oc c1 c2 rs hrs (by omega) (some (.dat (.int ((a : Nat) : Int))))
    exact ⟨_, _, S1, rfl, e, ⟨rs ++ [r], _, rfl, by simp; omega, fun q hq => by
      rcases List.mem_append.mp hq with h | h
      · exact hrs q h
      · simp at h; exact h ▸ hr⟩, p⟩)
  simp only [List.nil_append, List.length_range] at hrl p3
  obtain ⟨x, S4, e4, p4, hx⟩ := zmx p3 (by show _ ≤ 2147483648; omega) [D.int 1, D.int 2, D.int 2, D.int 3, D.int 4, D.int 8] (by simp) (by simp) _ (.inl rfl)
  obtain ⟨k, rfl, hk1, hk8⟩ : ∃ k : Nat, x = .int (k : Nat) ∧ 1 ≤ k ∧ k ≤ 8 := by
    simp only [List.mem_cons, List.not_mem_nil, or_false] at hx
    rcases hx with rfl | rfl | rfl | rfl | rfl | rfl
    · exact ⟨1, rfl, by decide, by decide⟩
    · exact ⟨2, rfl, by decide, by decide⟩
    · exact ⟨2, rfl, by decide, by decide⟩
    · exact ⟨3, rfl, by decide, by decide⟩
    · exact ⟨4, rfl, by decide, by decide⟩
    · exact ⟨8, rfl, by decide, by decide⟩
  obtain ⟨t, S5, e5, p5, htl, ht⟩ := table_ok p4 k hk8 (by show _ ≤ 2147483648; omega) cs oc c1 c2
  obtain ⟨r1, S6, e6, p6, hr1⟩ := row_ok p5 (by show _ ≤ 2147483648; omega) cs oc c2
  obtain ⟨y, S7, e7, p7, hy⟩ := zmx p6 (by show _ ≤ 2147483648; omega) (t.map rowD) (by rw [List.length_map]; omega) (by rw [List.length_map]; omega) (tabD t) (.inr rfl)
  obtain ⟨r2, hr2, rfl⟩ := List.mem_map.mp hy
  obtain ⟨z, S8, e8, p8, hz⟩ := zmx p7 (by show _ ≤ 2147483648; omega) [rowD r1, rowD r2] (by simp) (by simp) _ (.inl rfl)
  obtain ⟨row, rfl, hrow⟩ : ∃ row, z = rowD row ∧ RowOK cs row := by
    simp only [List.mem_cons, List.not_mem_nil, or_false] at hz
    rcases hz with rfl | rfl
    · exact ⟨r1, rfl, hr1⟩
    · exact ⟨r2, rfl, ht _ hr2⟩
  simp! only [e3, e4, e5, e6, e7, e8, zjk (ze3 (show cs.length ≤ 16000000 by omega)), List.length_map, List.length_range, zcu (show cs.length ≤ 16777216 by omega)]
  obtain ⟨st, S9, e9, p9, hst⟩ := lc_penF (enc := fun i : Nat => D.int ((i : Nat) : Int)) (q := fun i : Nat => D.int ((i : Nat) : Int)) (G := gNm 3) (t := tBl (x2 (o2 dLt) (xN zbc (zac (xVar 0) (zac (xC (.int 5)) aNil))) (xC (.int 2)))) (f := xVar 3) (T := T) (c := 1)
    (ρ := [some (.obj 0), some (.dat (.tup cs)), some (.dat (zao rs)), none, some (.dat (tabD t)), some (.dat (rowD row)), none]) (List.range cs.length) _ S8 p8 (by show _ ≤ 2147483648; simp; omega) (by
    intro a ha m S hp hm
    obtain ⟨u, S1, e, p, hu⟩ := zht hp (by show _ ≤ 2147483648; have : m + 1 ≤ 2147483648 := hm; omega) 5 (by decide) (by decide)
    exact ⟨_, decide (((u : Nat) : Int) < 2), S1, rfl, by simp! only [e], p, fun _ => by simp! only []⟩)
  simp only [List.length_range] at p9
  simp! only [e9, p9.take h.len]
  refine ⟨cs, rs, t, row, st, S9, rfl, p9.mono (by omega), hcs, oc, by omega, hrs, by omega, ht, hrow, fun i hi => List.mem_range.mp (hst.subset hi), ?_⟩
  exact List.Pairwise.sublist hst List.pairwise_lt_range
theorem steps_tiny {cs rs t row st} (F : Fix cs rs t row st) : ∀ x ∈ zeg rs t row st, x.length = 3 ∧ ∀ i ∈ x, (D.int i).tiny = true := fun x hx => by
  obtain ⟨k, v, hk, rfl, hv, hc, _⟩ := zk6 F hx
  have := F.rl
  have := F.c4.2.1
  refine ⟨rfl, fun i hi => ?_⟩
  simp only [List.mem_cons, List.not_mem_nil, or_false] at hi
  rcases hi with rfl | rfl | rfl
  · exact nn_tiny (by omega)
  · exact nn_tiny (by omega)
  · exact hv.tiny
inductive Run (rs : List Rul) (t : Tab) : Row → List Nat → List (List Int) → Prop
  | nil {row : Row} {st : List Nat} : zc8 (zeg rs t row st) = [] → Run rs t row st []
  | cons {row : Row} {st : List Nat} {k c : Nat} {v : Int} {tr : List (List Int)} : [((k : Nat) : Int), ((c : Nat) : Int), v] ∈ zc8 (zeg rs t row st) → Run rs t (row.set c v) (addS c st) tr → Run rs t row st ([((k : Nat) : Int), ((c : Nat) : Int), v] :: tr)
theorem zl_ (c : Nat) (st : List Nat) : (addS c st).length = st.length + 1 := by
  have pm : (addS c st).Perm (st ++ [c]) := List.mergeSort_perm _ _
  rw [pm.length_eq, List.length_append]; rfl
theorem Fix.stl {cs rs t row st} (F : Fix cs rs t row st) : st.length ≤ cs.length := by
  have := PySem.DLSetT.few_of st (List.range cs.length) (F.inc.imp fun h => by omega) fun x hx => List.mem_range.mpr (F.sb x hx)
  simpa using this
theorem steps_memS {cs rs t row st} (F : Fix cs rs t row st) {x : List Int} (hx : x ∈ zc8 (zeg rs t row st)) : ∃ k c v, x = [((k : Nat) : Int), ((c : Nat) : Int), v] ∧ c < cs.length ∧ c ∉ st ∧ Fix cs rs t (row.set c v) (addS c st) := by
  obtain ⟨k, v, hk, rfl, hv, hc, hn⟩ := zk6 F ((zc5 _ _).mp hx)
  exact ⟨k, _, v, rfl, hc, hn, F.step hc hn hv⟩
theorem Run.tiny {cs rs t} : ∀ {tr row st}, Run rs t row st tr → Fix cs rs t row st → ∀ x ∈ tr, x.length = 3 ∧ ∀ i ∈ x, (D.int i).tiny = true
  | [], _, _, _, _ => fun x hx => nomatch hx
  | _ :: tr, row, st, .cons (k := k) (c := c) (v := v) hm hr, F => fun x hx => by
    rcases List.mem_cons.mp hx with rfl | hx
    · exact steps_tiny F _ ((zc5 _ _).mp hm)
    · obtain ⟨k', c', v', e, hc, hn, F2⟩ := steps_memS F hm
      simp only [List.cons.injEq, and_true] at e
      obtain ⟨_, e2, rfl⟩ := e
      have e2 : c = c' := by omega
      subst e2
      exact Run.tiny hr F2 x hx
theorem do_step_ok {cs rs t row st} (F : Fix cs rs t row st) {k c : Nat} {v : Int} (hc : c < cs.length) (hn : c ∉ st) (S : zaf) : zhb [.dat (rowD row), .dat (sD st), .dat (tD [((k : Nat) : Int), ((c : Nat) : Int), v])] S = .ok (.dat (.tup [rowD (row.set c v), sD (addS c st)])) S := by
  unfold zhb s_do_step
  obtain ⟨a1, _, _⟩ := addS_ok c st hn F.inc
  have hl := F.rw_.len
  have c4 := F.c4.2.1
  have ls := F.stl
  have e1 : ∀ ρ (a b d : D), gTp (gCo (gNm 3) (gCo (gNm 4) (gCo (gNm 5) gNo))) (.tup [a, b, d]) ρ = some (((ρ.set 3 (some (.dat a))).set 4 (some (.dat b))).set 5 (some (.dat d))) := fun _ _ _ _ => rfl
  have s4 : ∀ S, zjf (.dat (.tup (((st ++ [c]).map fun i => ((i : Nat) : Int)).map .int))) S = .ok (((addS c st).map fun i => ((i : Nat) : Int)).map .int) S := fun S => by
    simp only [zjf, rd, zd6, a1]
  have a_srt : ∀ (f : XFn) (ρ : zat) (S : zaf), zkk f ρ S = (f ρ S).bind zjf := fun _ _ _ => rfl
  have m1 : dats (((row.map D.int).take c).map DV.dat ++ DV.dat (.int v) :: ((row.map D.int).drop (c + 1)).map DV.dat) = some ((row.set c v).map .int) := by
    rw [← set_cut row c v (by omega)]
    have : ((row.map D.int).take c).map DV.dat ++ DV.dat (.int v) :: ((row.map D.int).drop (c + 1)).map DV.dat = ((row.map D.int).take c ++ [D.int v] ++ (row.map D.int).drop (c + 1)).map DV.dat := by simp
    rw [this]
    exact zbb _
  have m2 : dats ((st.map fun i => D.int ((i : Nat) : Int)).map DV.dat ++ [DV.dat (.int (c : Nat))]) = some (((st ++ [c]).map fun i => ((i : Nat) : Int)).map .int) := by
    have : (st.map fun i => D.int ((i : Nat) : Int)).map DV.dat ++ [DV.dat (.int (c : Nat))] = (((st ++ [c]).map fun i => ((i : Nat) : Int)).map D.int).map DV.dat := by simp
    rw [this]
    exact zbb _
  have z1 : szB ((row.set c v).map D.int).length = true := zcu (by rw [List.length_map, List.length_set]; omega)
  have z2 : szB (((st ++ [c]).map fun i => ((i : Nat) : Int)).map D.int).length = true := zcu (by simp; omega)
  have z3 : ((addS c st).map fun i => ((i : Nat) : Int)).map D.int = (addS c st).map fun i => D.int ((i : Nat) : Int) := by simp
  simp! only [tD, e1, rowD, sD, zc1, rd, cut_to, zlz, m1, z1]
  simp! only [a_srt, zc1, rd, m2, z2, s4, z3]
end T45
set_option maxHeartbeats 400000
namespace T45
open PySem PySem.Spec PyProof.Rows L2 DL
/-! ## runs of steps, in plain Lean -/
abbrev St45 := Row × List Nat
def zap (l : List Int) : Nat := (l.getD 1 0).toNat
def zbt (l : List Int) : Int := l.getD 2 0
def goL (s : St45) (l : List Int) : St45 := (s.1.set (zap l) (zbt l), addS (zap l) s.2)
def endL (s : St45) (ls : List (List Int)) : St45 := ls.foldl goL s
def stp (rs : List Rul) (t : Tab) (s : St45) : List (List Int) := zeg rs t s.1 s.2
def Walk (rs : List Rul) (t : Tab) : St45 → List (List Int) → Prop
  | _, [] => True
  | s, l :: ls => l ∈ stp rs t s ∧ Walk rs t (goL s l) ls
def Below (s s' : St45) : Prop := ∀ c ∈ s.2, c ∈ s'.2 ∧ s.1.getD c 0 = s'.1.getD c 0
abbrev r45 : Rul := ⟨[], 0, none⟩
section
variable {cs : List D} {rs : List Rul} {t : Tab}
def Fx (cs : List D) (rs : List Rul) (t : Tab) (s : St45) : Prop := Fix cs rs t s.1 s.2
theorem can_iff {s : St45} {l : List Int} : l ∈ stp rs t s ↔ ∃ k v, k < rs.length ∧ canS (rs.getD k r45) s.1 s.2 = true ∧ v ∈ zj8 (rs.getD k r45) t s.1 ∧ l = [((k : Nat) : Int), (((rs.getD k r45).c : Nat) : Int), v] := by
  unfold stp zeg
  rw [List.mem_flatMap]
  constructor
  · rintro ⟨k, hk, hl⟩
    unfold zjm at hl
    cases hq : canS (rs.getD k ⟨[], 0, none⟩) s.1 s.2
    · rw [hq] at hl; cases hl
    · rw [hq] at hl
      obtain ⟨v, hv, rfl⟩ := List.mem_map.mp hl
      exact ⟨k, v, List.mem_range.mp hk, hq, hv, rfl⟩
  · rintro ⟨k, v, hk, hq, hv, rfl⟩
    refine ⟨k, List.mem_range.mpr hk, ?_⟩
    unfold zjm
    rw [hq]
    exact List.mem_map.mpr ⟨v, hv, rfl⟩
theorem zj5 {s : St45} {l : List Int} (h : l ∈ stp rs t s) : ∃ k : Nat, l = [((k : Nat) : Int), ((zap l : Nat) : Int), zbt l] ∧ k < rs.length := by
  obtain ⟨k, v, hk, _, _, rfl⟩ := can_iff.mp h
  exact ⟨k, by simp [zap, zbt], hk⟩
theorem zct {s : St45} (F : Fx cs rs t s) {l : List Int} (h : l ∈ stp rs t s) : zap l < cs.length ∧ zap l ∉ s.2 ∧ Fx cs rs t (goL s l) := by
  obtain ⟨k, v, hk, rfl, hv, hc, hn⟩ := zk6 F h
  have e1 : zap [((k : Nat) : Int), (((rs.getD k ⟨[], 0, none⟩).c : Nat) : Int), v] = (rs.getD k ⟨[], 0, none⟩).c := by simp [zap]
  have e2 : zbt [((k : Nat) : Int), (((rs.getD k ⟨[], 0, none⟩).c : Nat) : Int), v] = v := rfl
  unfold Fx goL
  rw [e1, e2]
  exact ⟨hc, hn, F.step hc hn hv⟩
theorem mem_addS {c i : Nat} {st : List Nat} : i ∈ addS c st ↔ i ∈ st ∨ i = c := by
  have pm : (addS c st).Perm (st ++ [c]) := List.mergeSort_perm _ _
  rw [pm.mem_iff]; simp
theorem set_at {r : Row} {c : Nat} {v : Int} (h : c < r.length) (i : Nat) : (r.set c v).getD i 0 = if i = c then v else r.getD i 0 := by
  by_cases e : i = c
  · subst e
    rw [if_pos rfl, List.getD_eq_getElem?_getD, List.getElem?_set_self h]
    rfl
  · rw [if_neg e, List.getD_eq_getElem?_getD, List.getElem?_set_ne (fun z => e z.symm), ← List.getD_eq_getElem?_getD]
theorem Fx.len {s : St45} (F : Fx cs rs t s) : s.1.length = cs.length := Fix.rw_ F |>.len
theorem go_at {s : St45} (F : Fx cs rs t s) {l : List Int} (h : l ∈ stp rs t s) (i : Nat) : (goL s l).1.getD i 0 = if i = zap l then zbt l else s.1.getD i 0 := set_at (by rw [F.len]; exact (zct F h).1) i
theorem go_mem {s : St45} {l : List Int} {i : Nat} : i ∈ (goL s l).2 ↔ i ∈ s.2 ∨ i = zap l := mem_addS
theorem below_go {s : St45} (F : Fx cs rs t s) {l : List Int} (h : l ∈ stp rs t s) : Below s (goL s l) := fun c hc => by
  have n := (zct F h).2.1
  refine ⟨go_mem.mpr (.inl hc), ?_⟩
  rw [go_at F h, if_neg (fun (e : c = zap l) => n (e ▸ hc))]
theorem zne {s s' : St45} (F : Fx cs rs t s) {l : List Int} (h : l ∈ stp rs t s) (b : Below s s') (hc : zap l ∈ s'.2) (hv : s'.1.getD (zap l) 0 = zbt l) : Below (goL s l) s' := fun c hm => by
  rw [go_at F h]
  rcases go_mem.mp hm with hm | e
  · have n := (zct F h).2.1
    rw [if_neg (fun (e : c = zap l) => n (e ▸ hm))]
    exact b c hm
  · subst e
    rw [if_pos rfl]
    exact ⟨hc, hv.symm⟩
theorem Below.trans {a b c : St45} (h : Below a b) (h2 : Below b c) : Below a c := fun i hi => ⟨(h2 i (h i hi).1).1, (h i hi).2.trans (h2 i (h i hi).1).2⟩
theorem Below.rfl' (s : St45) : Below s s := fun _ h => ⟨h, rfl⟩
theorem zpc {g : Giv} {x y : Row} (h : ∀ p ∈ g, x.getD p.1 0 = y.getD p.1 0) : ze1 g x = ze1 g y := by
  unfold ze1
  rw [Bool.eq_iff_iff, List.all_eq_true, List.all_eq_true]
  refine forall_congr' fun p => forall_congr' fun hp => ?_
  unfold mEnt
  rw [h p hp]
theorem agree_eq {g : Giv} {x y o : Row} (h : ∀ p ∈ g, x.getD p.1 0 = y.getD p.1 0) : agree g x o = agree g y o := by
  unfold agree
  rw [Bool.eq_iff_iff, List.all_eq_true, List.all_eq_true]
  refine forall_congr' fun p => forall_congr' fun hp => ?_
  rw [h p hp]
theorem vals_eq {r : Rul} {x y : Row} (h : ∀ p ∈ r.g, x.getD p.1 0 = y.getD p.1 0) : zj8 r t x = zj8 r t y := by
  unfold zj8
  cases r.w with
  | some v => rfl
  | none =>
    simp only
    congr 1
    refine List.filter_congr fun o _ => ?_
    rw [agree_eq h]
theorem zlv {s s' : St45} {l : List Int} (h : l ∈ stp rs t s) (b : Below s s') (n : zap l ∉ s'.2) : l ∈ stp rs t s' := by
  obtain ⟨k, v, hk, hq, hv, rfl⟩ := can_iff.mp h
  have e1 : zap [((k : Nat) : Int), (((rs.getD k r45).c : Nat) : Int), v] = (rs.getD k r45).c := by simp [zap]
  rw [e1] at n
  unfold canS at hq
  simp only [Bool.and_eq_true, Bool.not_eq_true', decide_eq_false_iff_not, List.all_eq_true, decide_eq_true_eq] at hq
  have ve : ∀ p ∈ (rs.getD k r45).g, s.1.getD p.1 0 = s'.1.getD p.1 0 := fun p hp => (b p.1 (hq.2.1 p hp)).2
  refine can_iff.mpr ⟨k, v, hk, ?_, by rw [← vals_eq ve]; exact hv, rfl⟩
  unfold canS
  simp only [Bool.and_eq_true, Bool.not_eq_true', decide_eq_false_iff_not, List.all_eq_true, decide_eq_true_eq]
  exact ⟨n, fun p hp => (b p.1 (hq.2.1 p hp)).1, by rw [← zpc ve]; exact hq.2.2⟩
theorem walk_app {s : St45} : ∀ {a b : List (List Int)}, Walk rs t s (a ++ b) ↔ Walk rs t s a ∧ Walk rs t (endL s a) b
  | [], b => ⟨fun h => ⟨trivial, h⟩, fun h => h.2⟩
  | l :: a, b => by
    have := walk_app (s := goL s l) (a := a) (b := b)
    show (l ∈ stp rs t s ∧ Walk rs t (goL s l) (a ++ b)) ↔ (l ∈ stp rs t s ∧ Walk rs t (goL s l) a) ∧ Walk rs t (endL (goL s l) a) b
    rw [this, and_assoc]
theorem zl5 (s : St45) (a b : List (List Int)) : endL s (a ++ b) = endL (endL s a) b := List.foldl_append ..
theorem zem : ∀ {ls : List (List Int)} {s : St45}, Fx cs rs t s → Walk rs t s ls → Fx cs rs t (endL s ls)
  | [], _, F, _ => F
  | l :: ls, s, F, w => zem (ls := ls) (zct F w.1).2.2 w.2
theorem zed : ∀ {ls : List (List Int)} {s : St45}, Fx cs rs t s → Walk rs t s ls → Below s (endL s ls)
  | [], s, _, _ => Below.rfl' s
  | l :: ls, s, F, w => (below_go F w.1).trans (zed (ls := ls) (zct F w.1).2.2 w.2)
theorem ziz : ∀ {ls : List (List Int)} {s : St45}, Fx cs rs t s → Walk rs t s ls → ∀ l ∈ ls, zap l ∈ (endL s ls).2 ∧ (endL s ls).1.getD (zap l) 0 = zbt l
  | x :: ls, s, F, w, l, hl => by
    have F2 := (zct F w.1).2.2
    rcases List.mem_cons.mp hl with rfl | hl
    · have b := zed (ls := ls) F2 w.2 (zap l) (go_mem.mpr (.inr rfl))
      refine ⟨b.1, ?_⟩
      show (endL (goL s l) ls).1.getD _ 0 = _
      rw [← b.2, go_at F w.1, if_pos rfl]
    · exact ziz (ls := ls) F2 w.2 l hl
theorem zpw : ∀ {ls : List (List Int)} {s : St45} {c : Nat}, c ∈ (endL s ls).2 → c ∈ s.2 ∨ ∃ l ∈ ls, zap l = c
  | [], s, c, h => .inl h
  | x :: ls, s, c, h => by
    rcases zpw (ls := ls) (s := goL s x) h with h | ⟨l, hl, e⟩
    · rcases go_mem.mp h with h | h
      · exact .inl h
      · exact .inr ⟨x, List.mem_cons_self .., h.symm⟩
    · exact .inr ⟨l, List.mem_cons_of_mem _ hl, e⟩
theorem end_out : ∀ {ls : List (List Int)} {s : St45}, Fx cs rs t s → Walk rs t s ls → ∀ c, c ∉ (endL s ls).2 → (endL s ls).1.getD c 0 = s.1.getD c 0
  | [], _, _, _, _, _ => rfl
  | x :: ls, s, F, w, c, h => by
    have F2 := (zct F w.1).2.2
    have := end_out (ls := ls) F2 w.2 c h
    have b := zed (ls := ls) F2 w.2
    rw [show endL s (x :: ls) = endL (goL s x) ls from rfl, this, go_at F w.1, if_neg fun e => h (b c (go_mem.mpr (.inr e))).1]
/-! ### a run that holds a column back -/
def hB (held : Option Nat) (l : List Int) : Bool := match held with
  | none => true
  | some c => !(l.getD 1 0 == ((c : Nat) : Int))
def zev (rs : List Rul) (t : Tab) (held : Option Nat) (s : St45) : List (List Int) := (zc8 (stp rs t s)).filter (hB held)
def runH (rs : List Rul) (t : Tab) (held : Option Nat) : Nat → St45 → List (List Int)
  | 0, _ => []
  | n + 1, s => match zev rs t held s with
    | [] => []
    | l :: _ => l :: runH rs t held n (goL s l)
theorem hB_col {c : Nat} {s : St45} {l : List Int} (h : l ∈ stp rs t s) : hB (some c) l = true ↔ zap l ≠ c := by
  obtain ⟨k, e, _⟩ := zj5 h
  have h1 : l.getD 1 0 = ((zap l : Nat) : Int) := congrArg (fun x : List Int => x.getD 1 0) e
  show (!(l.getD 1 0 == ((c : Nat) : Int))) = true ↔ _
  rw [h1]
  simp only [Bool.not_eq_true', beq_eq_false_iff_ne, ne_eq]
  omega
theorem mem_possH {held : Option Nat} {s : St45} {l : List Int} : l ∈ zev rs t held s ↔ l ∈ stp rs t s ∧ hB held l = true := by
  unfold zev
  rw [List.mem_filter, zc5]
theorem zbq (held : Option Nat) : ∀ (n : Nat) (s : St45), Walk rs t s (runH rs t held n s) ∧ ∀ l ∈ runH rs t held n s, hB held l = true
  | 0, _ => ⟨trivial, fun l h => nomatch h⟩
  | n + 1, s => by
    unfold runH
    cases e : zev rs t held s with
    | nil => exact ⟨trivial, fun l h => nomatch h⟩
    | cons x L =>
      obtain ⟨h1, h2⟩ := mem_possH.mp (show x ∈ zev rs t held s by rw [e]; exact List.mem_cons_self ..)
      obtain ⟨w, a⟩ := zbq held n (goL s x)
      refine ⟨⟨h1, w⟩, fun l hl => ?_⟩
      rcases List.mem_cons.mp hl with rfl | hl
      · exact h2
      · exact a l hl
theorem runH_max (held : Option Nat) : ∀ (n : Nat) (s : St45), Fx cs rs t s → cs.length ≤ s.2.length + n → ∀ l ∈ stp rs t (endL s (runH rs t held n s)), hB held l = false
  | 0, s, F, hn, l, hl => by
    have hl : l ∈ stp rs t s := hl
    have F2 := (zct F hl).2.2
    have := Fix.stl (show Fix cs rs t (goL s l).1 (goL s l).2 from F2)
    have e : (goL s l).2.length = s.2.length + 1 := zl_ _ _
    omega
  | n + 1, s, F, hn, l, hl => by
    unfold runH at hl
    cases e : zev rs t held s with
    | nil =>
      rw [e] at hl
      have hl : l ∈ stp rs t s := hl
      cases q : hB held l with
      | false => rfl
      | true =>
        have := mem_possH.mpr ⟨hl, q⟩
        rw [e] at this
        cases this
    | cons x L =>
      rw [e] at hl
      obtain ⟨h1, _⟩ := mem_possH.mp (show x ∈ zev rs t held s by rw [e]; exact List.mem_cons_self ..)
      have e2 : (goL s x).2.length = s.2.length + 1 := zl_ _ _
      exact runH_max held n (goL s x) (zct F h1).2.2 (by omega) l hl
theorem runH_pre {c : Nat} : ∀ (pre : List (List Int)) (n : Nat) (s : St45) (g : List Int) (post : List (List Int)), runH rs t none n s = pre ++ g :: post → (∀ l ∈ pre, zap l ≠ c) → runH rs t (some c) n s = pre ++ runH rs t (some c) (n - pre.length) (endL s pre)
  | [], n, s, g, post, _, _ => rfl
  | x :: pre, 0, s, g, post, e, _ => by unfold runH at e; cases e
  | x :: pre, n + 1, s, g, post, e, h => by
    unfold runH at e
    show (match zev rs t (some c) s with
      | [] => []
      | l :: _ => l :: runH rs t (some c) n (goL s l)) = _
    cases q : zev rs t none s with
    | nil => rw [q] at e; cases e
    | cons y L =>
      rw [q] at e
      simp only [List.cons_append, List.cons.injEq] at e
      obtain ⟨e1, e2⟩ := e
      subst e1
      have hm := (mem_possH.mp (show y ∈ zev rs t none s by rw [q]; exact List.mem_cons_self ..)).1
      have q2 : zev rs t (some c) s = y :: L.filter (hB (some c)) := by
        have e0 : zev rs t none s = zc8 (stp rs t s) := by unfold zev; exact List.filter_eq_self.mpr fun _ _ => rfl
        unfold zev
        rw [← e0, q, List.filter_cons, if_pos ((hB_col hm).mpr (h y (List.mem_cons_self ..)))]
      rw [q2]
      simp only [List.cons_append, List.cons.injEq, true_and]
      have := runH_pre pre n (goL s y) g post e2 fun l hl => h l (List.mem_cons_of_mem _ hl)
      rw [this]
      have e3 : n + 1 - (y :: pre).length = n - pre.length := by simp
      rw [e3]
      rfl
end
end T45
set_option maxHeartbeats 400000
namespace T45
open PySem PySem.Spec PyProof.Rows L2 DL
/-! ## no two runs part where none is seen; all runs end alike -/
section
variable {cs : List D} {rs : List Rul} {t : Tab} {s0 : St45}
def hEnd (rs : List Rul) (t : Tab) (held : Option Nat) (s0 : St45) : St45 := endL s0 (runH rs t held 4 s0)
def NoP (cs : List D) (rs : List Rul) (t : Tab) (s0 : St45) : Prop := ∀ c, c < cs.length → ∀ a ∈ stp rs t (hEnd rs t (some c) s0), ∀ b ∈ stp rs t (hEnd rs t (some c) s0), zap a = c → zap b = c → zbt a = zbt b
theorem zoo {s : St45} (m : ∀ l ∈ stp rs t s, hB none l = false) (l : List Int) : l ∉ stp rs t s := fun h => by
  have := m l h
  cases this
theorem c4 (F : Fx cs rs t s0) : cs.length ≤ 4 := (Fix.c4 F).2.1
theorem zot (F : Fx cs rs t s0) (held : Option Nat) : Fx cs rs t (hEnd rs t held s0) := zem F (zbq held 4 s0).1
theorem zkm (F : Fx cs rs t s0) (held : Option Nat) : ∀ l ∈ stp rs t (hEnd rs t held s0), hB held l = false := runH_max held 4 s0 F (by have := c4 F; omega)
theorem fin_has (F : Fx cs rs t s0) {s : St45} (b : Below s (hEnd rs t none s0)) {l : List Int} (h : l ∈ stp rs t s) : zap l ∈ (hEnd rs t none s0).2 := by
  refine Classical.byContradiction fun n => ?_
  exact zoo (zkm F none) l (zlv h b n)
theorem fin_step (F : Fx cs rs t s0) {s : St45} (b0 : Below s0 s) (b : Below s (hEnd rs t none s0)) (Fs : Fx cs rs t s) {l : List Int} (h : l ∈ stp rs t s) : ∃ pre g post, runH rs t none 4 s0 = pre ++ g :: post ∧ zap g = zap l := by
  rcases zpw (fin_has F b h) with q | ⟨g, hg, e⟩
  · exact absurd (b0 _ q).1 (zct Fs h).2.1
  · obtain ⟨pre, post, e2⟩ := List.append_of_mem hg
    exact ⟨pre, g, post, e2, e⟩
theorem zpd (F : Fx cs rs t s0) {c : Nat} {p : St45} {N : Nat}
    (ih : ∀ ls, Walk rs t s0 ls → Below (endL s0 ls) (hEnd rs t none s0) → Below p (endL s0 ls) → ∀ x ∈ stp rs t (endL s0 ls), zap x ≠ c → (hEnd rs t none s0).1.getD (zap x) 0 = zbt x) :
    ∀ (tl ls : List (List Int)), Walk rs t s0 ls → Below (endL s0 ls) (hEnd rs t none s0) → Below p (endL s0 ls) → Walk rs t (endL s0 ls) tl → (∀ l ∈ tl, zap l ≠ c) → Below (endL (endL s0 ls) tl) (hEnd rs t none s0)
  | [], _, _, b, _, _, _ => b
  | l :: tl, ls, w, b, bp, wt, nc => by
    have Fl := zem F w
    have v := ih ls w b bp l wt.1 (nc l (List.mem_cons_self ..))
    have b2 := zne Fl wt.1 b (fin_has F b wt.1) v
    have w2 : Walk rs t s0 (ls ++ [l]) := walk_app.mpr ⟨w, wt.1, trivial⟩
    have e2 : endL s0 (ls ++ [l]) = goL (endL s0 ls) l := by rw [zl5]; rfl
    have := zpd (N := N) F ih tl (ls ++ [l]) w2 (by rw [e2]; exact b2) (by rw [e2]; exact bp.trans (below_go Fl wt.1)) (by rw [e2]; exact wt.2) fun x hx => nc x (List.mem_cons_of_mem _ hx)
    rw [e2] at this
    exact this
theorem zpm (F : Fx cs rs t s0) {c : Nat} {h : St45} (hm : ∀ l ∈ stp rs t h, hB (some c) l = false) (bh : Below h (hEnd rs t none s0)) : ∀ (ls : List (List Int)) (s : St45), Fx cs rs t s → Walk rs t s ls → Below s h → Below (endL s ls) (hEnd rs t none s0) → c ∉ (endL s ls).2 → Below (endL s ls) h
  | [], _, _, _, b, _, _ => b
  | l :: ls, s, Fs, w, b, be, nc => by
    have F2 := (zct Fs w.1).2.2
    obtain ⟨v1, v2⟩ := ziz (ls := l :: ls) Fs w l (List.mem_cons_self ..)
    have ne : zap l ≠ c := fun e => nc (e ▸ v1)
    have inh : zap l ∈ h.2 := by
      refine Classical.byContradiction fun n => ?_
      have hl := zlv w.1 b n
      have := hm l hl
      rw [(hB_col hl).mpr ne] at this
      cases this
    have val : h.1.getD (zap l) 0 = zbt l := by
      rw [(bh _ inh).2, ← (be _ v1).2, v2]
    exact zpm F hm bh ls (goL s l) F2 w.2 (zne Fs w.1 b inh val) be nc
theorem no_conf (F : Fx cs rs t s0) (np : NoP cs rs t s0) : ∀ (N : Nat) (pre : List (List Int)) (g : List Int) (post : List (List Int)), runH rs t none 4 s0 = pre ++ g :: post → post.length < N → ∀ ls, Walk rs t s0 ls → Below (endL s0 ls) (hEnd rs t none s0) → ∀ x ∈ stp rs t (endL s0 ls), zap x = zap g → zbt x = zbt g
  | 0, _, _, _, _, h => absurd h (Nat.not_lt_zero _)
  | N + 1, pre, g, post, e, hN => fun ls w b x hx ec => by
    have wG := (zbq (rs := rs) (t := t) none 4 s0).1
    rw [e, walk_app] at wG
    obtain ⟨wp, wg, wpost⟩ := wG
    have Fp := zem F wp
    have cg := (zct Fp wg).2.1
    have npre : ∀ l ∈ pre, zap l ≠ zap g := fun l hl z => cg (z ▸ (ziz F wp l hl).1)
    have er := runH_pre (c := zap g) pre 4 s0 g post e npre
    obtain ⟨wH, nH⟩ := zbq (rs := rs) (t := t) (some (zap g)) 4 s0
    generalize htl : runH rs t (some (zap g)) (4 - pre.length) (endL s0 pre) = tl at er
    rw [er, walk_app] at wH
    have eF : hEnd rs t none s0 = endL (endL s0 pre) (g :: post) := by unfold hEnd; rw [e, zl5]
    have bp : Below (endL s0 pre) (hEnd rs t none s0) := by rw [eF]; exact zed Fp ⟨wg, wpost⟩
    have eh : hEnd rs t (some (zap g)) s0 = endL (endL s0 pre) tl := by unfold hEnd; rw [er, zl5]
    have ntl : ∀ l ∈ tl, zap l ≠ zap g := fun l hl => by
      have h1 : hB (some (zap g)) l = true := nH l (by rw [er]; exact List.mem_append.mpr (.inr hl))
      obtain ⟨k, e2, _⟩ : ∃ k : Nat, l = [((k : Nat) : Int), ((zap l : Nat) : Int), zbt l] ∧ k < rs.length := by
        clear er eh
        have : ∀ (tl : List (List Int)) (s : St45), Walk rs t s tl → ∀ l ∈ tl, ∃ k : Nat, l = [((k : Nat) : Int), ((zap l : Nat) : Int), zbt l] ∧ k < rs.length := by
          intro tl
          induction tl with
          | nil => intro s _ l hl; cases hl
          | cons y tl ih =>
            intro s w l hl
            rcases List.mem_cons.mp hl with rfl | hl
            · exact zj5 w.1
            · exact ih _ w.2 l hl
        exact this tl _ wH.2 l hl
      have hg1 : l.getD 1 0 = ((zap l : Nat) : Int) := congrArg (fun x : List Int => x.getD 1 0) e2
      have h1 : (!(l.getD 1 0 == ((zap g : Nat) : Int))) = true := h1
      intro z
      rw [hg1, z] at h1
      simp at h1
    have bh : Below (hEnd rs t (some (zap g)) s0) (hEnd rs t none s0) := by
      rw [eh]
      refine zpd (N := N) (c := zap g) (p := endL s0 pre) F (fun ls2 w2 b2 bp2 y hy ny => ?_) tl pre wp bp (Below.rfl' _) wH.2 ntl
      have F2 := zem F w2
      obtain ⟨pre2, g2, post2, e2, ec2⟩ := fin_step F (zed F w2) b2 F2 hy
      have hg2 : g2 ∈ pre ++ g :: post := by rw [← e, e2]; simp
      have yn := (zct F2 hy).2.1
      rcases List.mem_append.mp hg2 with q | q
      · exact absurd (ec2 ▸ (bp2 _ (ziz F wp g2 q).1).1) yn
      · rcases List.mem_cons.mp q with q | q
        · subst q; exact absurd ec2.symm ny
        · obtain ⟨a1, a2, e3⟩ := List.append_of_mem q
          have e4 : runH rs t none 4 s0 = (pre ++ g :: a1) ++ g2 :: a2 := by rw [e, e3]; simp
          have l2 : a2.length < N := by rw [e3] at hN; simp at hN; omega
          have := no_conf F np N _ g2 a2 e4 l2 ls2 w2 b2 y hy ec2.symm
          rw [this, ← ec2]
          have ww := (zbq (rs := rs) (t := t) none 4 s0).1
          exact (ziz F ww g2 (by rw [e4]; simp)).2
    have hmax := zkm F (some (zap g))
    have xc : zap g ∉ (endL s0 ls).2 := by rw [← ec]; exact (zct (zem F w) hx).2.1
    have b0h : Below s0 (hEnd rs t (some (zap g)) s0) := zed F (zbq (some (zap g)) 4 s0).1
    have bs := zpm F hmax bh ls s0 F w b0h b xc
    have ch : zap g ∉ (hEnd rs t (some (zap g)) s0).2 := by
      rw [eh]
      intro z
      rcases zpw z with z | ⟨l, hl, z⟩
      · exact cg z
      · exact ntl l hl z
    have bph : Below (endL s0 pre) (hEnd rs t (some (zap g)) s0) := by rw [eh]; exact zed Fp wH.2
    have g1 := zlv wg bph ch
    have x1 := zlv hx bs (by rw [ec]; exact ch)
    exact np (zap g) (zct Fp wg).1 x x1 g g1 ec rfl
theorem all_below (F : Fx cs rs t s0) (np : NoP cs rs t s0) : ∀ (tl ls : List (List Int)), Walk rs t s0 ls → Below (endL s0 ls) (hEnd rs t none s0) → Walk rs t (endL s0 ls) tl → Below (endL (endL s0 ls) tl) (hEnd rs t none s0)
  | [], _, _, b, _ => b
  | l :: tl, ls, w, b, wt => by
    have Fl := zem F w
    obtain ⟨pre, g, post, e, ec⟩ := fin_step F (zed F w) b Fl wt.1
    have v := no_conf F np (post.length + 1) pre g post e (Nat.lt_succ_self _) ls w b l wt.1 ec.symm
    have ww := (zbq (rs := rs) (t := t) none 4 s0).1
    have gv := (ziz F ww g (by rw [e]; simp)).2
    rw [ec] at gv
    have b2 := zne Fl wt.1 b (fin_has F b wt.1) (by rw [v]; exact gv)
    have w2 : Walk rs t s0 (ls ++ [l]) := walk_app.mpr ⟨w, wt.1, trivial⟩
    have e2 : endL s0 (ls ++ [l]) = goL (endL s0 ls) l := by rw [zl5]; rfl
    have := all_below F np tl (ls ++ [l]) w2 (by rw [e2]; exact b2) (by rw [e2]; exact wt.2)
    rw [e2] at this
    exact this
theorem zk4 (F : Fx cs rs t s0) (np : NoP cs rs t s0) {ls : List (List Int)} (w : Walk rs t s0 ls) : Below (endL s0 ls) (hEnd rs t none s0) := all_below F np ls [] trivial (zed F (zbq none 4 s0).1) w
theorem st_ext {a b : List Nat} (ha : a.Pairwise (· < ·)) (hb : b.Pairwise (· < ·)) (h : ∀ c, c ∈ a ↔ c ∈ b) : a = b :=
  List.Perm.eq_of_pairwise (le := (· < ·)) (fun a b _ _ h1 h2 => by omega) ha hb ((List.perm_ext_iff_of_nodup (ha.imp fun h => by omega) (hb.imp fun h => by omega)).mpr h)
theorem row_ext {a b : Row} (hl : a.length = b.length) (h : ∀ i, i < a.length → a.getD i 0 = b.getD i 0) : a = b := by
  apply List.ext_getElem hl
  intro i h1 h2
  have := h i h1
  rwa [List.getD_eq_getElem?_getD, List.getD_eq_getElem?_getD, List.getElem?_eq_getElem h1, List.getElem?_eq_getElem h2] at this
theorem max_end (F : Fx cs rs t s0) (np : NoP cs rs t s0) {ls : List (List Int)} (w : Walk rs t s0 ls) (m : ∀ l, l ∉ stp rs t (endL s0 ls)) : endL s0 ls = hEnd rs t none s0 := by
  have b1 := zk4 F np w
  have Fs := zem F w
  have Fe := zot F none
  have wG := (zbq (rs := rs) (t := t) none 4 s0).1
  have b2 : ∀ (tl : List (List Int)) (s : St45), Fx cs rs t s → Walk rs t s tl → Below s (endL s0 ls) → endL s tl = hEnd rs t none s0 → Below (endL s tl) (endL s0 ls) := by
    intro tl
    induction tl with
    | nil => intro s _ _ b _; exact b
    | cons l tl ih =>
      intro s Fs2 w2 b e
      have F2 := (zct Fs2 w2.1).2.2
      have ins : zap l ∈ (endL s0 ls).2 := Classical.byContradiction fun n => m l (zlv w2.1 b n)
      obtain ⟨v1, v2⟩ := ziz (ls := l :: tl) Fs2 w2 l (List.mem_cons_self ..)
      rw [e] at v1 v2
      refine ih (goL s l) F2 w2.2 (zne Fs2 w2.1 b ins ?_) e
      rw [(b1 _ ins).2, v2]
  have b2 := b2 _ s0 F wG (zed F w) rfl
  have e2 : (endL s0 ls).2 = (hEnd rs t none s0).2 := st_ext (Fix.inc Fs) (Fix.inc Fe) fun c => ⟨fun h => (b1 c h).1, fun h => (b2 c h).1⟩
  refine Prod.ext (row_ext (by rw [Fs.len, Fe.len]) fun i _ => ?_) e2
  by_cases h : i ∈ (endL s0 ls).2
  · exact (b1 i h).2
  · rw [end_out F w i h]
    have : i ∉ (hEnd rs t none s0).2 := by rw [← e2]; exact h
    exact (end_out F wG i this).symm
/-! ### rules and rows the other way round -/
theorem zqj {s : St45} {l : List Int} (h : l ∈ stp rs.reverse t.reverse s) : ∃ l' ∈ stp rs t s, zap l' = zap l ∧ zbt l' = zbt l := by
  obtain ⟨k, v, hk, hq, hv, rfl⟩ := can_iff.mp h
  rw [List.length_reverse] at hk
  have er : rs.reverse.getD k r45 = rs.getD (rs.length - 1 - k) r45 := by
    rw [List.getD_eq_getElem?_getD, List.getD_eq_getElem?_getD, List.getElem?_reverse hk]
  rw [er] at hq hv ⊢
  refine ⟨_, can_iff.mpr ⟨rs.length - 1 - k, v, by omega, hq, ?_, rfl⟩, by simp [zap], rfl⟩
  unfold zj8 at hv ⊢
  cases e : (rs.getD (rs.length - 1 - k) r45).w with
  | some u => rw [e] at hv; exact hv
  | none =>
    rw [e] at hv
    simp only at hv ⊢
    obtain ⟨o, ho, rfl⟩ := List.mem_map.mp hv
    obtain ⟨h1, h2⟩ := List.mem_filter.mp ho
    exact List.mem_map.mpr ⟨o, List.mem_filter.mpr ⟨List.mem_reverse.mp h1, h2⟩, rfl⟩
theorem go_same {s : St45} {a b : List Int} (h1 : zap a = zap b) (h2 : zbt a = zbt b) : goL s a = goL s b := by unfold goL; rw [h1, h2]
theorem zqb : ∀ (ls : List (List Int)) (s : St45), Walk rs.reverse t.reverse s ls → ∃ ls', Walk rs t s ls' ∧ endL s ls' = endL s ls
  | [], s, _ => ⟨[], trivial, rfl⟩
  | l :: ls, s, w => by
    obtain ⟨l', h1, h2, h3⟩ := zqj w.1
    obtain ⟨ls', w2, e⟩ := zqb ls (goL s l) w.2
    have eg := go_same (s := s) h2 h3
    refine ⟨l' :: ls', ⟨h1, by rw [eg]; exact w2⟩, ?_⟩
    show endL (goL s l') ls' = _
    rw [eg, e]
    rfl
theorem fix_rev (F : Fx cs rs t s0) : Fx cs rs.reverse t.reverse s0 := by
  refine ⟨F.hc, F.oc, by rw [List.length_reverse]; exact F.rl, fun r hr => F.rg r (List.mem_reverse.mp hr), by rw [List.length_reverse]; exact F.tl, fun r hr => F.tr r (List.mem_reverse.mp hr), F.rw_, F.sb, F.inc⟩
theorem nop_rev (F : Fx cs rs t s0) (np : NoP cs rs t s0) : NoP cs rs.reverse t.reverse s0 := fun c hc a ha b hb ea eb => by
  obtain ⟨ls, w, e⟩ := zqb _ s0 (zbq (rs := rs.reverse) (t := t.reverse) (some c) 4 s0).1
  have e : endL s0 ls = hEnd rs.reverse t.reverse (some c) s0 := e
  rw [← e] at ha hb
  obtain ⟨a', ha', a1, a2⟩ := zqj ha
  obtain ⟨b', hb', b1, b2⟩ := zqj hb
  have key : ∀ x ∈ stp rs t (endL s0 ls), (hEnd rs t none s0).1.getD (zap x) 0 = zbt x := fun x hx => by
    have wx : Walk rs t s0 (ls ++ [x]) := walk_app.mpr ⟨w, hx, trivial⟩
    have bx := zk4 F np wx
    obtain ⟨v1, v2⟩ := ziz F wx x (by simp)
    rw [← (bx _ v1).2, v2]
  have ka := key a' ha'
  have kb := key b' hb'
  rw [a1, ea, a2] at ka
  rw [b1, eb, b2] at kb
  rw [← ka, ← kb]
theorem nop_iff_rev (F : Fx cs rs t s0) : NoP cs rs.reverse t.reverse s0 ↔ NoP cs rs t s0 := by
  refine ⟨fun h => ?_, nop_rev F⟩
  have := nop_rev (fix_rev F) h
  rwa [List.reverse_reverse, List.reverse_reverse] at this
theorem end_rev (F : Fx cs rs t s0) (np : NoP cs rs t s0) : hEnd rs.reverse t.reverse none s0 = hEnd rs t none s0 := by
  obtain ⟨ls, w, e⟩ := zqb _ s0 (zbq (rs := rs.reverse) (t := t.reverse) none 4 s0).1
  have e : endL s0 ls = hEnd rs.reverse t.reverse none s0 := e
  rw [← e]
  refine max_end F np w fun l hl => ?_
  rw [e] at hl
  have Fr := fix_rev F
  have := zkm Fr none
  have hl2 : l ∈ stp rs.reverse.reverse t.reverse.reverse (hEnd rs.reverse t.reverse none s0) := by rw [List.reverse_reverse, List.reverse_reverse]; exact hl
  obtain ⟨l', h1, _⟩ := zqj hl2
  exact zoo this l' h1
end
end T45
set_option maxHeartbeats 400000
namespace T45
open PySem PySem.Spec PyProof.Rows L2 DL
/-! ## texts compared -/
theorem strEq (h s : Str) (hh : PyData.strOk h = true) (hs : PyData.strOk s = true) : dEq (.str h) (.str s) = some (.bl (h == s)) := by
  rw [zoh (a := .str h) (b := .str s) (n := 0) (m := 0) hh hs]
  simp [dEqB, D.py, PyData.eqv]
theorem dEq_unit {xs : List D} {m : Nat} (h : D.fits m xs = true) : dEq (.tup xs) (.tup []) = some (.bl xs.isEmpty) := by
  have p := fits_py m xs h
  have q : zo2 (.tup xs) (.tup []) = true := by
    simp [zo2, D.py, D.pys, PyData.canLay0, PyData.canLayAll0, PyData.depth, PyData.depthAll, p.1]
  simp only [dEq, q, if_true]
  cases xs <;> rfl
theorem natEq (a b : Nat) : (((a : Nat) : Int) == ((b : Nat) : Int)) = decide (a = b) := by
  by_cases h : a = b
  · subst h; simp
  · simp only [h, decide_false, beq_eq_false_iff_ne]; omega
def RS.thn (r : RS) (k : zat → zaf → RS) : RS := match r with
  | .nx ρ S => k ρ S
  | .ct ρ S => k ρ S
  | .bk ρ S => .nx ρ S
  | r => r
theorem zgn {G : GFn} {f : SFn} {d : D} {ds : List D} {ρ ρ1 : zat} {S : zaf} (h : G d ρ = some ρ1) : zez G f (d :: ds) ρ S = RS.thn (f ρ1 S) (zez G f ds) := by
  rw [zez]
  simp only [h]
  all_goals (cases f ρ1 S <;> rfl)
theorem zpp (ρ : zat) (S : zaf) (k : zat → zaf → RS) : RS.thn (.nx ρ S) k = k ρ S := rfl
end T45
set_option maxHeartbeats 400000
namespace T45
open PySem PySem.Spec PyProof.Rows L2 DL
/-! ## the program's runs -/
def zop (h : Option Nat) : D := match h with
  | none => .non
  | some c => .int ((c : Nat) : Int)
def lsD (ls : List (List Int)) : D := .lst (ls.map tD)
section
variable {cs : List D} {rs : List Rul} {t : Tab} {s : St45}
theorem zpj {l : List Int} (h : l ∈ stp rs t s) : ∃ k : Nat, tD l = tD [((k : Nat) : Int), ((zap l : Nat) : Int), zbt l] := by
  obtain ⟨k, e, _⟩ := zj5 h
  exact ⟨k, congrArg tD e⟩
theorem td_1 {l : List Int} (h : l ∈ stp rs t s) : dIx (tD l) (.int 1) = some (.int ((zap l : Nat) : Int)) := by
  obtain ⟨k, e⟩ := zpj h
  rw [e]; rfl
theorem td_2 {l : List Int} (h : l ∈ stp rs t s) : dIx (tD l) (.int 2) = some (.int (zbt l)) := by
  obtain ⟨k, e⟩ := zpj h
  rw [e]; rfl
theorem hB_v {l : List Int} (h : l ∈ stp rs t s) (held : Option Nat) : dNe (.int ((zap l : Nat) : Int)) (zop held) = some (.bl (hB held l)) := by
  cases held with
  | none => rfl
  | some c =>
    show dNe (.int _) (.int _) = _
    rw [zju]
    obtain ⟨k, e, _⟩ := zj5 h
    have h1 : l.getD 1 0 = ((zap l : Nat) : Int) := congrArg (fun x : List Int => x.getD 1 0) e
    show _ = some (D.bl (!(l.getD 1 0 == ((c : Nat) : Int))))
    rw [h1]
theorem at_hd (a : D) (l : List D) : atI (a :: l) 0 = some a := by
  unfold atI ixN
  simp
theorem zll {cs rs t row st} (F : Fix cs rs t row st) (S : zaf) : za2 [.dat (zao rs), .dat (tabD t), .dat (rowD row), .dat (sD st)] S = .ok (.dat (.lst ((zc8 (zeg rs t row st)).map tD))) S := by
  unfold za2 ziy
  obtain ⟨ρ', e, o5, o6, o7, o8, o9, rfl⟩ := fns_loop F S
  have en : ∀ S, enum1 (.dat (zao rs)) S = .ok ((rs.zipIdx.map fun p => (p.2, p.1)).map fun p => zo4 (.int ((p.1 : Nat) : Int)) (rulD p.2)) S := fun S => by
    rw [zao, zb0, enum_map]
  simp! only [en, e, a_sortT, zo5 F]
theorem next_v (F : Fx cs rs t s) (S : zaf) : za2 [.dat (zao rs), .dat (tabD t), .dat (rowD s.1), .dat (sD s.2)] S = .ok (.dat (.lst ((zc8 (stp rs t s)).map tD))) S := zll F S
theorem zqs (F : Fx cs rs t s) : (zc8 (stp rs t s)).length < 63 := steps_few F
def cls45 : TFn := tBl (x2 (o2 dNe) (xVar 6) (xLst aNil))
abbrev fr45 (rs : List Rul) (t : Tab) (s : St45) (held : Option Nat) (n : Nat) (o6 o7 : Option DV) : zat := [some (.dat (zao rs)), some (.dat (tabD t)), some (.dat (rowD s.1)), some (.dat (sD s.2)), some (.dat (zop held)), some (.obj n), o6, o7]
theorem poss_okH (F : Fx cs rs t s) (held : Option Nat) (n : Nat) (o6 o7 : Option DV) (S : zaf) :
    sSet 6 (xN1 (lLc (lIt (xN za2 (zac (xVar 0) (zac (xVar 1) (zac (xVar 2) (zac (xVar 3) aNil)))))) [7] (gNm 7) (tBl (x2 (o2 dNe) (x2 (o2 dIx) (xVar 7) (xC (.int 1))) (xVar 4))) (xVar 7))) (fr45 rs t s held n o6 o7) S = .nx (fr45 rs t s held n (some (.dat (.lst ((zev rs t held s).map tD)))) o7) S := by
  have few := zqs F
  have e : ∀ ρ, ρ.length = 8 → ρ[4]? = some (some (.dat (zop held))) → lcGo (gNm 7) (tBl (x2 (o2 dNe) (x2 (o2 dIx) (xVar 7) (xC (.int 1))) (xVar 4))) (xVar 7) ρ ((zc8 (stp rs t s)).map tD) S = .ok ((zev rs t held s).map tD) S := fun ρ hl h4 => by
    unfold zev
    rw [zhv (p := hB held) (q := tD) (zc8 (stp rs t s))]
    intro x hx
    have hx := (zc5 _ _).mp hx
    have e1 : ∀ d : D, (ρ.set 7 (some (.dat d)))[7]? = some (some (.dat d)) := fun d => by rw [List.getElem?_set_self (by omega)]
    have e2 : ∀ d : D, (ρ.set 7 (some (.dat d)))[4]? = some (some (.dat (zop held))) := fun d => by rw [List.getElem?_set_ne (by decide)]; exact h4
    refine ⟨ρ.set 7 (some (.dat (tD x))), rfl, ?_, fun _ => ?_⟩
    · have d1 := td_1 hx
      have d2 := hB_v hx held
      simp only [tBl, x2, xVar, e1, e2, xC, Res.bind_ok, o2, rd, d1, d2, res1, bool1]
    · simp only [xVar, e1]
  have nv := fun S => next_v F S
  have ln : szB ((zc8 (stp rs t s)).map tD).length = true := zcu (by rw [List.length_map]; omega)
  unfold fr45
  simp! only [nv, ln]
  rw [e _ rfl rfl]
  simp! only []
theorem possH_few (F : Fx cs rs t s) (held : Option Nat) : (zev rs t held s).length < 63 := by
  have := List.length_filter_le (hB held) (zc8 (stp rs t s))
  have := zqs F
  unfold zev
  omega
theorem lsD_fit (L : List (List Int)) : (lsD L).fit 2 = true := by
  show D.fits 1 (L.map tD) = true
  exact fits_iff.mpr fun x hx => by obtain ⟨l, _, rfl⟩ := List.mem_map.mp hx; simp only [tD, D.fit, ze0]
theorem lsD_noB (L : List (List Int)) : (lsD L).noB = true := by
  show D.noBs (L.map tD) = true
  exact noBs_iff.mpr fun x hx => by obtain ⟨l, _, rfl⟩ := List.mem_map.mp hx; simp only [tD, D.noB]; exact noBs_iff.mpr fun y hy => by obtain ⟨i, _, rfl⟩ := List.mem_map.mp hy; rfl
theorem lsD_ne (L : List (List Int)) : dNe (.lst (L.map tD)) (.lst []) = some (.bl (!L.isEmpty)) := by
  refine dNe_p (n := 2) (m := 1) (p := L.isEmpty) (lsD_fit L) rfl (lsD_noB L) rfl ?_
  cases L <;> simp
theorem zn4 (F : Fx cs rs t s) {l : List Int} (h : l ∈ stp rs t s) (S : zaf) : zhb [.dat (rowD s.1), .dat (sD s.2), .dat (tD l)] S = .ok (.dat (.tup [rowD (goL s l).1, sD (goL s l).2])) S := by
  obtain ⟨k, e⟩ := zpj h
  obtain ⟨h1, h2, _⟩ := zct F h
  rw [e]
  exact do_step_ok F h1 h2 S
theorem run_loopH (held : Option Nat) : ∀ (n : Nat) {s : St45} (F : Fx cs rs t s), cs.length ≤ s.2.length + n → ∀ (S0 : zaf) (done : List D), done.length + n ≤ 100 → ∀ o7, ∃ o', whGo cls45 zhc (n + 1) (fr45 rs t s held S0.length (some (.dat (.lst ((zev rs t held s).map tD)))) o7) (S0 ++ [some done]) = .nx (fr45 rs t (endL s (runH rs t held n s)) held S0.length (some (.dat (.lst []))) o') (S0 ++ [some (done ++ (runH rs t held n s).map tD)]) := by
  intro n
  induction n with
  | zero =>
    intro s F hn S0 done hd o7
    have e : zev rs t held s = [] := by
      cases q : zev rs t held s with
      | nil => rfl
      | cons x L =>
        have hx := (mem_possH.mp (show x ∈ zev rs t held s by rw [q]; exact List.mem_cons_self ..)).1
        have F2 := (zct F hx).2.2
        have := Fix.stl (show Fix cs rs t (goL s x).1 (goL s x).2 from F2)
        have e : (goL s x).2.length = s.2.length + 1 := zl_ _ _
        omega
    rw [e]
    refine ⟨o7, ?_⟩
    have d1 : dNe (.lst []) (.lst []) = some (.bl false) := rfl
    have r0 : runH rs t held 0 s = [] := rfl
    rw [r0]
    simp -implicitDefEqProofs only [whGo, cls45, a_fn, zec, zcm, zd_, zd2, zdt, zdb, zbl, za5, c_ok, zf6, c_bl, zge, zgg, c_or, zde, zfr, zg0, zg3, zdc, a_tg, zdx, zb6, zgx, Res.bind_ok, Res.bind_ex, Res.bindS_ok, Res.bindS_ex, zc4, a_c, a_x2, a_o2, zdl, a_xN, zdw, zgr, a_o1, zf9, zgc, zg1, zbk, zbm, zb5, zb4, zdz, zfx, zgh, zft, zfu, zgi, zb8, zbh, za1, za0, za8, zaz, zfv, a_or, zca, zcg, zf5, zgy, zgk, zd1, a_if, zgq, zda, zb7, zbp, za9, zbi, zcd, a_it, zb_, za6, a_lc, zcb, zcc, zgv, zg_, zf3, zgt, zfw, zgd, zfz, zgb, zgo, zdq, a_rd, Option.bind_some, zcf, zck, zci, za7, List.map_cons, List.map_nil, List.length_cons, List.length_nil, Nat.reduceSub, Nat.reduceAdd, List.replicate_succ, List.replicate_zero, List.cons_append, List.nil_append, List.append_nil, List.getElem?_cons_zero, List.getElem?_cons_succ, List.set_cons_zero, List.set_cons_succ, List.take_length, cond_true, cond_false, Bool.not_true, Bool.not_false, zgs, zgf, zgm, zgp, zdj, zdd, zce, zbo, zdy, zd0, zfq, ze2, zcj, zcl, zbn, zbj, zf8, zdh, zfb, zfp, zgl, zc0, zdf, zgz, zdk, zf7, zf4, zga, zdm, zdg, za4, za3, zc1, zbb, zas, Option.map_some, zau, zc3, zbu, zbe, lit2, lit3, Bool.true_and, Bool.false_and, Bool.and_true, Bool.and_false, Bool.true_or, Bool.false_or, Bool.or_true, Bool.or_false, Bool.not_not, a_sl, zg2, zgw, zb9, zdi, zf0, zdv, zdp, zds, zch, zb0, d1, fr45, Bool.false_eq_true, if_false, List.append_nil]
    rfl
  | succ n ih =>
    intro s F hn S0 done hd o7
    cases q : zev rs t held s with
    | nil =>
      refine ⟨o7, ?_⟩
      have d1 : dNe (.lst []) (.lst []) = some (.bl false) := rfl
      have r0 : runH rs t held (n + 1) s = [] := by unfold runH; rw [q]
      rw [r0]
      simp -implicitDefEqProofs only [whGo, cls45, a_fn, zec, zcm, zd_, zd2, zdt, zdb, zbl, za5, c_ok, zf6, c_bl, zge, zgg, c_or, zde, zfr, zg0, zg3, zdc, a_tg, zdx, zb6, zgx, Res.bind_ok, Res.bind_ex, Res.bindS_ok, Res.bindS_ex, zc4, a_c, a_x2, a_o2, zdl, a_xN, zdw, zgr, a_o1, zf9, zgc, zg1, zbk, zbm, zb5, zb4, zdz, zfx, zgh, zft, zfu, zgi, zb8, zbh, za1, za0, za8, zaz, zfv, a_or, zca, zcg, zf5, zgy, zgk, zd1, a_if, zgq, zda, zb7, zbp, za9, zbi, zcd, a_it, zb_, za6, a_lc, zcb, zcc, zgv, zg_, zf3, zgt, zfw, zgd, zfz, zgb, zgo, zdq, a_rd, Option.bind_some, zcf, zck, zci, za7, List.map_cons, List.map_nil, List.length_cons, List.length_nil, Nat.reduceSub, Nat.reduceAdd, List.replicate_succ, List.replicate_zero, List.cons_append, List.nil_append, List.append_nil, List.getElem?_cons_zero, List.getElem?_cons_succ, List.set_cons_zero, List.set_cons_succ, List.take_length, cond_true, cond_false, Bool.not_true, Bool.not_false, zgs, zgf, zgm, zgp, zdj, zdd, zce, zbo, zdy, zd0, zfq, ze2, zcj, zcl, zbn, zbj, zf8, zdh, zfb, zfp, zgl, zc0, zdf, zgz, zdk, zf7, zf4, zga, zdm, zdg, za4, za3, zc1, zbb, zas, Option.map_some, zau, zc3, zbu, zbe, lit2, lit3, Bool.true_and, Bool.false_and, Bool.and_true, Bool.and_false, Bool.true_or, Bool.false_or, Bool.or_true, Bool.or_false, Bool.not_not, a_sl, zg2, zgw, zb9, zdi, zf0, zdv, zdp, zds, zch, zb0, d1, fr45, Bool.false_eq_true, if_false, List.append_nil]
      rfl
    | cons x L =>
      have hx := (mem_possH.mp (show x ∈ zev rs t held s by rw [q]; exact List.mem_cons_self ..)).1
      have F2 := (zct F hx).2.2
      have e : (goL s x).2.length = s.2.length + 1 := zl_ _ _
      have r0 : runH rs t held (n + 1) s = x :: runH rs t held n (goL s x) := by
        show (match zev rs t held s with
          | [] => []
          | l :: _ => l :: runH rs t held n (goL s l)) = _
        rw [q]
      obtain ⟨o', e⟩ := ih F2 (by omega) S0 (done ++ [tD x]) (by simp; omega) o7
      refine ⟨o', ?_⟩
      have few := possH_few F held
      rw [q] at few
      have d1 := lsD_ne (x :: L)
      have d2 : ∀ S, o2 dIx (.dat (.lst ((x :: L).map tD))) (.dat (.int 0)) S = .ok (.dat (tD x)) S := fun S => by simp! only [List.map_cons, at_hd]
      have b : zhc (fr45 rs t s held S0.length (some (.dat (.lst ((x :: L).map tD)))) o7) (S0 ++ [some done]) = .nx (fr45 rs t (goL s x) held S0.length (some (.dat (.lst ((zev rs t held (goL s x)).map tD)))) o7) (S0 ++ [some (done ++ [tD x])]) := by
        unfold zhc
        rw [zec, app_end (S0 := S0) (ds := done) (d := tD x) rfl (by simp only [x2, xVar, fr45, xC, List.getElem?_cons_zero, List.getElem?_cons_succ, Res.bind_ok, d2]) (by unfold sizeLine; omega), zcm, zec]
        have e1 : ∀ ρ (a b : D), gTp (gCo (gNm 2) (gCo (gNm 3) gNo)) (.tup [a, b]) ρ = some ((ρ.set 2 (some (.dat a))).set 3 (some (.dat b))) := fun _ _ _ => rfl
        have t1 : ∀ S, sTg (gTp (gCo (gNm 2) (gCo (gNm 3) gNo))) (xN zhb (zac (xVar 2) (zac (xVar 3) (zac (x2 (o2 dIx) (xVar 6) (xC (.int 0))) aNil)))) (fr45 rs t s held S0.length (some (.dat (.lst ((x :: L).map tD)))) o7) S = .nx (fr45 rs t (goL s x) held S0.length (some (.dat (.lst ((x :: L).map tD)))) o7) S := fun S => by
          have dv := fun S => zn4 F hx S
          simp! only [fr45, List.map_cons, at_hd, dv, e1]
        rw [t1, zcm, poss_okH F2]
      have tt : cls45 (fr45 rs t s held S0.length (some (.dat (.lst ((x :: L).map tD)))) o7) (S0 ++ [some done]) = .ok true (S0 ++ [some done]) := by
        unfold cls45
        simp only [List.map_cons] at d1 ⊢
        simp! only [fr45, d1, List.isEmpty_cons]
      rw [whGo, tt, Res.bindS_ok, if_pos rfl, b, whIn, e, r0]
      simp
      exact ⟨rfl, rfl⟩
theorem zld (held : Option Nat) : ∀ (n : Nat) (s : St45), (runH rs t held n s).length ≤ n
  | 0, _ => Nat.le_refl _
  | n + 1, s => by
    show (match zev rs t held s with
      | [] => []
      | l :: _ => l :: runH rs t held n (goL s l)).length ≤ _
    cases zev rs t held s with
    | nil => exact Nat.zero_le _
    | cons x L =>
      have := zld held n (goL s x)
      simp only [List.length_cons]
      omega
theorem ziu (F : Fx cs rs t s) (held : Option Nat) (S : zaf) : ze6 [.dat (zao rs), .dat (tabD t), .dat (rowD s.1), .dat (sD s.2), .dat (zop held)] S = .ok (.dat (lsD (runH rs t held 4 s))) S := by
  unfold ze6 zpo
  obtain ⟨o', e⟩ := run_loopH held 4 F (by have := c4 F; omega) S [] (by simp) none
  have hw : sWhile cls45 zhc (fr45 rs t s held S.length (some (.dat (.lst ((zev rs t held s).map tD)))) none) (S ++ [some []]) = _ := sWhile_of e (by simp) (by omega)
  have p := poss_okH F held S.length none none (S ++ [some []])
  have e0 : sNew 5 (lLst aNil) [some (.dat (zao rs)), some (.dat (tabD t)), some (.dat (rowD s.1)), some (.dat (sD s.2)), some (.dat (zop held)), none, none, none] S = .nx (fr45 rs t s held S.length none none) (S ++ [some []]) := rfl
  unfold cls45 at hw
  rw [show ∀ g ds S, zav 8 g ds S = ends S.length (g (ds.map some ++ List.replicate (8 - ds.length) none) S) from fun _ _ _ => rfl]
  simp only [List.map_cons, List.map_nil, List.length_cons, List.length_nil, List.replicate, List.cons_append, List.nil_append]
  have fz := frz_end (i := 5) (ρ := fr45 rs t (endL s (runH rs t held 4 s)) held S.length (some (.dat (.lst []))) o') (S0 := S) (ds := [] ++ (runH rs t held 4 s).map tD) rfl
  rw [zec, e0, zcm, zec, p, zcm, zec, hw, zcm, zec, fz, zcm]
  have tk : ∀ x, (S ++ [x]).take S.length = S := fun x => zbe S x
  simp! only [fr45, List.nil_append]
  rfl
theorem zlx : ∀ (ls : List (List Int)) {s : St45} (F : Fx cs rs t s), Walk rs t s ls → ∀ (z2 z3 : Option DV) (S : zaf), ∃ y3, zez (gNm 3) zib (ls.map tD) [some (.dat (rowD s.1)), some (.dat (sD s.2)), z2, z3] S = .nx [some (.dat (rowD (endL s ls).1)), some (.dat (sD (endL s ls).2)), z2, y3] S
  | [], s, _, _, z2, z3, S => ⟨z3, rfl⟩
  | l :: ls, s, F, w, z2, z3, S => by
    obtain ⟨y3, e⟩ := zlx ls (zct F w.1).2.2 w.2 z2 (some (.dat (tD l))) S
    refine ⟨y3, ?_⟩
    have e1 : ∀ ρ (a b : D), gTp (gCo (gNm 0) (gCo (gNm 1) gNo)) (.tup [a, b]) ρ = some ((ρ.set 0 (some (.dat a))).set 1 (some (.dat b))) := fun _ _ _ => rfl
    have dv := fun S => zn4 F w.1 S
    have st : zib [some (.dat (rowD s.1)), some (.dat (sD s.2)), z2, some (.dat (tD l))] S = .nx [some (.dat (rowD (goL s l).1)), some (.dat (sD (goL s l).2)), z2, some (.dat (tD l))] S := by
      unfold zib
      simp! only [dv, e1]
    rw [List.map_cons, zgn (ρ1 := [some (.dat (rowD s.1)), some (.dat (sD s.2)), z2, some (.dat (tD l))]) rfl, st, zpp, e]
    rfl
theorem zhr (F : Fx cs rs t s) {ls : List (List Int)} (w : Walk rs t s ls) (S : zaf) : zel [.dat (rowD s.1), .dat (sD s.2), .dat (lsD ls)] S = .ok (.dat (.tup [rowD (endL s ls).1, sD (endL s ls).2])) S := by
  obtain ⟨y3, e⟩ := zlx ls F w (some (.dat (lsD ls))) none S
  have it : zes (.dat (lsD ls)) S = .ok (ls.map tD) S := rfl
  unfold zel zpl
  simp! only [it, e]
theorem go_on_v (F : Fx cs rs t s) {ls : List (List Int)} (w : Walk rs t s ls) (hl : ls.length ≤ 100) (S : zaf) : zou [.dat (zao rs), .dat (tabD t), .dat (rowD s.1), .dat (sD s.2), .dat (lsD ls)] S = .ok (.dat (lsD (ls ++ runH rs t none 4 (endL s ls)))) S := by
  have ds := fun S => zhr F w S
  have Fe := zem F w
  have fr := fun S => ziu Fe none S
  have h0 : zop none = .non := rfl
  rw [h0] at fr
  have e1 : ∀ ρ (a b : D), gTp (gCo (gNm 5) (gCo (gNm 6) gNo)) (.tup [a, b]) ρ = some ((ρ.set 5 (some (.dat a))).set 6 (some (.dat b))) := fun _ _ _ => rfl
  have rl := zld (rs := rs) (t := t) none 4 (endL s ls)
  have ad : dAdd (lsD ls) (lsD (runH rs t none 4 (endL s ls))) = some (lsD (ls ++ runH rs t none 4 (endL s ls))) := by
    unfold lsD
    rw [dAdd_l, zcu (by simp; omega), List.map_append]
    rfl
  unfold zou s_go_on
  simp! only [ds, e1, fr, ad]
end
end T45
set_option maxHeartbeats 400000
namespace T45
open PySem PySem.Spec PyProof.Rows L2 DL
/-! ## find_parts, find_guards, fix -/
def goP (rs : List Rul) (t : Tab) (s : St45) (ls : List (List Int)) : List (List Int) := ls ++ runH rs t none 4 (endL s ls)
def cst (rs : List Rul) (t : Tab) (s : St45) (c : Nat) : List (List Int) := (zc8 (stp rs t (hEnd rs t (some c) s))).filter fun l => decide (zap l = c)
def neV (a b : List Int) : Bool := !(zbt b == zbt a)
def zn8 (rs : List Rul) (t : Tab) (s : St45) (c : Nat) : Option (List (List Int) × List (List Int)) := match cst rs t s c with
  | [] => none
  | a :: rest => (rest.find? (neV a)).map fun b => (runH rs t (some c) 4 s ++ [a], runH rs t (some c) 4 s ++ [b])
def twoD (rs : List Rul) (t : Tab) (s : St45) (p : List (List Int) × List (List Int)) : D := .lst [lsD (goP rs t s p.1), lsD (goP rs t s p.2)]
def zki (m : Nat) (rs : List Rul) (t : Tab) (s : St45) : Option (List (List Int) × List (List Int)) := (List.range m).findSome? (zn8 rs t s)
section
variable {cs : List D} {rs : List Rul} {t : Tab} {s : St45}
theorem zk1 (F : Fx cs rs t s) {c : Nat} {a : List Int} (h : a ∈ stp rs t (hEnd rs t (some c) s)) : Walk rs t s (runH rs t (some c) 4 s ++ [a]) := walk_app.mpr ⟨(zbq (some c) 4 s).1, h, trivial⟩
theorem star_v (pre : List (List Int)) (a : List Int) : dats ((pre.map tD).map DV.dat ++ [DV.dat (tD a)]) = some ((pre ++ [a]).map tD) := by
  have : (pre.map tD).map DV.dat ++ [DV.dat (tD a)] = ((pre ++ [a]).map tD).map DV.dat := by simp
  rw [this]
  exact zbb _
theorem parts_in (F : Fx cs rs t s) {c : Nat} {a : List Int} (ha : a ∈ stp rs t (hEnd rs t (some c) s)) (full : List (List Int)) (z0 z9 z10 z12 : Option DV) (S : zaf) : ∀ (rest : List (List Int)), (∀ b ∈ rest, b ∈ stp rs t (hEnd rs t (some c) s)) → ∀ z8 z11 : Option DV,
    (rest.find? (neV a) = none → ∃ y8, zez (gNm 8) zcw (rest.map tD) [z0, some (.dat (zao rs)), some (.dat (tabD t)), some (.dat (rowD s.1)), some (.dat (sD s.2)), some (.dat (.int ((c : Nat) : Int))), some (.dat (lsD (runH rs t (some c) 4 s))), some (.dat (lsD (a :: full))), z8, z9, z10, z11, z12] S = .nx [z0, some (.dat (zao rs)), some (.dat (tabD t)), some (.dat (rowD s.1)), some (.dat (sD s.2)), some (.dat (.int ((c : Nat) : Int))), some (.dat (lsD (runH rs t (some c) 4 s))), some (.dat (lsD (a :: full))), y8, z9, z10, z11, z12] S) ∧
    (∀ b, rest.find? (neV a) = some b → zez (gNm 8) zcw (rest.map tD) [z0, some (.dat (zao rs)), some (.dat (tabD t)), some (.dat (rowD s.1)), some (.dat (sD s.2)), some (.dat (.int ((c : Nat) : Int))), some (.dat (lsD (runH rs t (some c) 4 s))), some (.dat (lsD (a :: full))), z8, z9, z10, z11, z12] S = .rt (.dat (twoD rs t s (runH rs t (some c) 4 s ++ [a], runH rs t (some c) 4 s ++ [b]))) S)
  | [], _, z8, z11 => ⟨fun _ => ⟨z8, rfl⟩, fun b e => by cases e⟩
  | b :: rest, hb, z8, z11 => by
    have hb1 := hb b (List.mem_cons_self ..)
    have i0 : dIx (lsD (a :: full)) (.int 0) = some (tD a) := by
      show dIx (.lst ((a :: full).map tD)) _ = _
      rw [zfq]
      exact at_hd _ _
    have a2 := td_2 ha
    have b2 := td_2 hb1
    have ne : dNe (.int (zbt b)) (.int (zbt a)) = some (.bl (neV a b)) := by rw [zju]; rfl
    cases q : neV a b with
    | false =>
      have st : zcw [z0, some (.dat (zao rs)), some (.dat (tabD t)), some (.dat (rowD s.1)), some (.dat (sD s.2)), some (.dat (.int ((c : Nat) : Int))), some (.dat (lsD (runH rs t (some c) 4 s))), some (.dat (lsD (a :: full))), some (.dat (tD b)), z9, z10, z11, z12] S = .nx [z0, some (.dat (zao rs)), some (.dat (tabD t)), some (.dat (rowD s.1)), some (.dat (sD s.2)), some (.dat (.int ((c : Nat) : Int))), some (.dat (lsD (runH rs t (some c) 4 s))), some (.dat (lsD (a :: full))), some (.dat (tD b)), z9, z10, z11, z12] S := by
        rw [q] at ne
        unfold zcw
        simp! only [i0, a2, b2, ne]
      have ih := parts_in F ha full z0 z9 z10 z12 S rest (fun x hx => hb x (List.mem_cons_of_mem _ hx)) (some (.dat (tD b))) z11
      rw [List.find?_cons, q, List.map_cons, zgn (ρ1 := [z0, some (.dat (zao rs)), some (.dat (tabD t)), some (.dat (rowD s.1)), some (.dat (sD s.2)), some (.dat (.int ((c : Nat) : Int))), some (.dat (lsD (runH rs t (some c) 4 s))), some (.dat (lsD (a :: full))), some (.dat (tD b)), z9, z10, z11, z12]) rfl, st, zpp]
      exact ih
    | true =>
      rw [List.find?_cons, q]
      refine ⟨fun e => (by cases e), fun b' e => ?_⟩
      have e : b = b' := Option.some.inj e
      subst e
      have rl := zld (rs := rs) (t := t) (some c) 4 s
      have m1 := star_v (runH rs t (some c) 4 s) a
      have m2 := star_v (runH rs t (some c) 4 s) b
      have z1 : szB ((runH rs t (some c) 4 s ++ [a]).map tD).length = true := zcu (by simp; omega)
      have z2 : szB ((runH rs t (some c) 4 s ++ [b]).map tD).length = true := zcu (by simp; omega)
      have rdl : ∀ S, rd S (.dat (lsD (runH rs t (some c) 4 s))) = some (.lst ((runH rs t (some c) 4 s).map tD)) := fun _ => rfl
      have g1 := fun S => go_on_v F (zk1 F ha) (by simp; omega) S
      have g2 := fun S => go_on_v F (zk1 F hb1) (by simp; omega) S
      have it : ∀ x y S, zes (.dat (.lst [x, y])) S = .ok [x, y] S := fun _ _ _ => rfl
      have lc := zcv (G := gNm 12) (t := zcz) (f := xN zou (zac (xVar 1) (zac (xVar 2) (zac (xVar 3) (zac (xVar 4) (zac (xVar 12) aNil)))))) (ρ := [z0, some (.dat (zao rs)), some (.dat (tabD t)), some (.dat (rowD s.1)), some (.dat (sD s.2)), some (.dat (.int ((c : Nat) : Int))), some (.dat (lsD (runH rs t (some c) 4 s))), some (.dat (lsD (a :: full))), some (.dat (tD b)), z9, z10, some (.dat (.lst [lsD (runH rs t (some c) 4 s ++ [a]), lsD (runH rs t (some c) 4 s ++ [b])])), none]) (S := S) (enc := lsD) (q := fun ls => lsD (goP rs t s ls)) [runH rs t (some c) 4 s ++ [a], runH rs t (some c) 4 s ++ [b]] (by
        intro ls hls
        rcases List.mem_cons.mp hls with rfl | hls
        · exact ⟨_, rfl, rfl, by simp! only [g1]; rfl⟩
        · rw [List.mem_singleton] at hls
          subst hls
          exact ⟨_, rfl, rfl, by simp! only [g2]; rfl⟩)
      have l1 : D.lst ((runH rs t (some c) 4 s ++ [a]).map tD) = lsD (runH rs t (some c) 4 s ++ [a]) := rfl
      have l2 : D.lst ((runH rs t (some c) 4 s ++ [b]).map tD) = lsD (runH rs t (some c) 4 s ++ [b]) := rfl
      have zz : szB 2 = true := by decide
      have st : zcw [z0, some (.dat (zao rs)), some (.dat (tabD t)), some (.dat (rowD s.1)), some (.dat (sD s.2)), some (.dat (.int ((c : Nat) : Int))), some (.dat (lsD (runH rs t (some c) 4 s))), some (.dat (lsD (a :: full))), some (.dat (tD b)), z9, z10, z11, z12] S = .rt (.dat (twoD rs t s (runH rs t (some c) 4 s ++ [a], runH rs t (some c) 4 s ++ [b]))) S := by
        rw [q] at ne
        simp only [List.map_cons, List.map_nil] at lc
        unfold zcw
        simp! only [i0, a2, b2, ne, zc1, rdl, m1, m2, z1, z2, l1, l2, it, lc]
        rfl
      rw [List.map_cons, zgn (ρ1 := [z0, some (.dat (zao rs)), some (.dat (tabD t)), some (.dat (rowD s.1)), some (.dat (sD s.2)), some (.dat (.int ((c : Nat) : Int))), some (.dat (lsD (runH rs t (some c) 4 s))), some (.dat (lsD (a :: full))), some (.dat (tD b)), z9, z10, z11, z12]) rfl, st]
      rfl
theorem cst_mem {c : Nat} {l : List Int} : l ∈ cst rs t s c ↔ l ∈ stp rs t (hEnd rs t (some c) s) ∧ zap l = c := by
  unfold cst
  rw [List.mem_filter, zc5, decide_eq_true_eq]
theorem zn5 (F : Fx cs rs t s) (S : zaf) : ∀ (ks : List Nat), ∀ z5 z6 z7 z8 z9 z10 : Option DV,
    (ks.findSome? (zn8 rs t s) = none → ∃ y5 y6 y7 y8 y9 y10, zez (gNm 5) zex (ks.map fun k => .int ((k : Nat) : Int)) [some (.dat (.tup cs)), some (.dat (zao rs)), some (.dat (tabD t)), some (.dat (rowD s.1)), some (.dat (sD s.2)), z5, z6, z7, z8, z9, z10, none, none] S = .nx [some (.dat (.tup cs)), some (.dat (zao rs)), some (.dat (tabD t)), some (.dat (rowD s.1)), some (.dat (sD s.2)), y5, y6, y7, y8, y9, y10, none, none] S) ∧
    (∀ p, ks.findSome? (zn8 rs t s) = some p → zez (gNm 5) zex (ks.map fun k => .int ((k : Nat) : Int)) [some (.dat (.tup cs)), some (.dat (zao rs)), some (.dat (tabD t)), some (.dat (rowD s.1)), some (.dat (sD s.2)), z5, z6, z7, z8, z9, z10, none, none] S = .rt (.dat (twoD rs t s p)) S)
  | [], z5, z6, z7, z8, z9, z10 => ⟨fun _ => ⟨z5, z6, z7, z8, z9, z10, rfl⟩, fun b e => by cases e⟩
  | c :: ks, z5, z6, z7, z8, z9, z10 => by
    have Fh := zot F (some c)
    have fr := fun S => ziu F (some c) S
    have h0 : zop (some c) = .int ((c : Nat) : Int) := rfl
    rw [h0] at fr
    have ds := fun S => zhr F (zbq (rs := rs) (t := t) (some c) 4 s).1 S
    have eh : endL s (runH rs t (some c) 4 s) = hEnd rs t (some c) s := rfl
    rw [eh] at ds
    have e1 : ∀ ρ (a b : D), gTp (gCo (gNm 9) (gCo (gNm 10) gNo)) (.tup [a, b]) ρ = some ((ρ.set 9 (some (.dat a))).set 10 (some (.dat b))) := fun _ _ _ => rfl
    have nv := fun S => next_v Fh S
    have few := zqs Fh
    have zn : szB ((zc8 (stp rs t (hEnd rs t (some c) s))).map tD).length = true := zcu (by rw [List.length_map]; omega)
    have lc := fun S z7 => zhv (G := gNm 8) (t := tBl (x2 (o2 dEq) (x2 (o2 dIx) (xVar 8) (xC (.int 1))) (xVar 5))) (f := xVar 8) (ρ := [some (.dat (.tup cs)), some (.dat (zao rs)), some (.dat (tabD t)), some (.dat (rowD s.1)), some (.dat (sD s.2)), some (.dat (.int ((c : Nat) : Int))), some (.dat (lsD (runH rs t (some c) 4 s))), z7, none, some (.dat (rowD (hEnd rs t (some c) s).1)), some (.dat (sD (hEnd rs t (some c) s).2)), none, none]) (S := S) (enc := tD) (q := tD) (p := fun l => decide (zap l = c)) (zc8 (stp rs t (hEnd rs t (some c) s))) (by
      intro x hx
      have hx := (zc5 _ _).mp hx
      have d1 := td_1 hx
      have d2 : dEq (.int ((zap x : Nat) : Int)) (.int ((c : Nat) : Int)) = some (.bl (decide (zap x = c))) := by rw [zo_, natEq]
      exact ⟨_, rfl, by simp! only [d1, d2], fun _ => by simp! only []⟩)
    have lf : ((zc8 (stp rs t (hEnd rs t (some c) s))).filter fun l => decide (zap l = c)) = cst rs t s c := rfl
    rw [lf] at lc
    have sl : ∀ S, oSl (.dat (lsD (cst rs t s c))) (some 1) none S = .ok (.dat (lsD ((cst rs t s c).drop 1))) S := fun S => by
      show oSl (.dat (.lst ((cst rs t s c).map tD))) _ _ S = _
      rw [zfp, cut_1]
      unfold lsD
      rw [List.map_drop]
    have itd : ∀ L S, zes (.dat (lsD L)) S = .ok (L.map tD) S := fun _ _ => rfl
    have st0 : ∀ z6 z7 z8 z9 z10, zex [some (.dat (.tup cs)), some (.dat (zao rs)), some (.dat (tabD t)), some (.dat (rowD s.1)), some (.dat (sD s.2)), some (.dat (.int ((c : Nat) : Int))), z6, z7, z8, z9, z10, none, none] S = zez (gNm 8) zcw (((cst rs t s c).drop 1).map tD) [some (.dat (.tup cs)), some (.dat (zao rs)), some (.dat (tabD t)), some (.dat (rowD s.1)), some (.dat (sD s.2)), some (.dat (.int ((c : Nat) : Int))), some (.dat (lsD (runH rs t (some c) 4 s))), some (.dat (lsD (cst rs t s c))), z8, some (.dat (rowD (hEnd rs t (some c) s).1)), some (.dat (sD (hEnd rs t (some c) s).2)), none, none] S := fun z6 z7 z8 z9 z10 => by
      have ll : D.lst ((cst rs t s c).map tD) = lsD (cst rs t s c) := rfl
      unfold zex
      simp! only [fr, ds, e1, nv, zn, lc, ll, sl, itd]
    have pa : zn8 rs t s c = match cst rs t s c with
      | [] => none
      | a :: rest => (rest.find? (neV a)).map fun b => (runH rs t (some c) 4 s ++ [a], runH rs t (some c) 4 s ++ [b]) := rfl
    rw [List.findSome?_cons, pa, List.map_cons, zgn (ρ1 := [some (.dat (.tup cs)), some (.dat (zao rs)), some (.dat (tabD t)), some (.dat (rowD s.1)), some (.dat (sD s.2)), some (.dat (.int ((c : Nat) : Int))), z6, z7, z8, z9, z10, none, none]) rfl, st0]
    cases q : cst rs t s c with
    | nil =>
      simp only
      have ih := zn5 F S ks (some (.dat (.int ((c : Nat) : Int)))) (some (.dat (lsD (runH rs t (some c) 4 s)))) (some (.dat (lsD []))) z8 (some (.dat (rowD (hEnd rs t (some c) s).1))) (some (.dat (sD (hEnd rs t (some c) s).2)))
      exact ih
    | cons a rest =>
      simp only [List.drop_succ_cons, List.drop_zero]
      have ha := (cst_mem.mp (show a ∈ cst rs t s c by rw [q]; exact List.mem_cons_self ..)).1
      have hr : ∀ b ∈ rest, b ∈ stp rs t (hEnd rs t (some c) s) := fun b hb => (cst_mem.mp (show b ∈ cst rs t s c by rw [q]; exact List.mem_cons_of_mem _ hb)).1
      have pin := parts_in F ha rest (some (.dat (.tup cs))) (some (.dat (rowD (hEnd rs t (some c) s).1))) (some (.dat (sD (hEnd rs t (some c) s).2))) none S rest hr z8 none
      cases fq : rest.find? (neV a) with
      | none =>
        obtain ⟨y8, e⟩ := pin.1 fq
        rw [e, zpp]
        simp only [Option.map_none]
        exact zn5 F S ks (some (.dat (.int ((c : Nat) : Int)))) (some (.dat (lsD (runH rs t (some c) 4 s)))) (some (.dat (lsD (a :: rest)))) y8 (some (.dat (rowD (hEnd rs t (some c) s).1))) (some (.dat (sD (hEnd rs t (some c) s).2)))
      | some b =>
        rw [pin.2 b fq]
        simp only [Option.map_some]
        refine ⟨fun e => (by cases e), fun p e => ?_⟩
        rw [← Option.some.inj e]
        rfl
def bothD (m : Nat) (rs : List Rul) (t : Tab) (s : St45) : D := match zki m rs t s with
  | none => .non
  | some p => twoD rs t s p
theorem find_parts_v (F : Fx cs rs t s) (S : zaf) : zi_ [.dat (.tup cs), .dat (zao rs), .dat (tabD t), .dat (rowD s.1), .dat (sD s.2)] S = .ok (.dat (bothD cs.length rs t s)) S := by
  have c4 := c4 F
  have rg : ∀ S, rng1 [.dat (.int ((cs.length : Nat) : Int))] S = .ok ((List.range cs.length).map fun i => .int ((i : Nat) : Int)) S := fun S => zjk (ze3 (by omega)) S
  have po := zn5 F S (List.range cs.length) none none none none none none
  unfold bothD
  unfold zi_ zmj
  cases q : zki cs.length rs t s with
  | none =>
    obtain ⟨y5, y6, y7, y8, y9, y10, e⟩ := po.1 q
    simp! only [rg, e]
  | some p =>
    have e := po.2 p q
    simp! only [rg, e]
end
end T45
set_option maxHeartbeats 400000
namespace T45
open PySem PySem.Spec PyProof.Rows L2 DL
/-! ## find_guards, fix, run -/
section
variable {cs : List D} {rs : List Rul} {t : Tab} {s : St45}
theorem pair_none {c : Nat} : zn8 rs t s c = none ↔ ∀ a ∈ cst rs t s c, ∀ b ∈ cst rs t s c, zbt a = zbt b := by
  unfold zn8
  cases e : cst rs t s c with
  | nil => simp
  | cons a rest =>
    simp only [Option.map_eq_none_iff, List.find?_eq_none]
    constructor
    · intro h
      have k : ∀ x ∈ a :: rest, zbt x = zbt a := fun x hx => by
        rcases List.mem_cons.mp hx with rfl | hx
        · rfl
        · have := h x hx
          simpa [neV] using this
      exact fun x hx y hy => (k x hx).trans (k y hy).symm
    · intro h b hb
      have := h b (List.mem_cons_of_mem _ hb) a (List.mem_cons_self ..)
      simp [neV, this]
theorem nop_find : zki cs.length rs t s = none ↔ NoP cs rs t s := by
  unfold zki
  rw [List.findSome?_eq_none_iff]
  constructor
  · intro h c hc a ha b hb ea eb
    exact pair_none.mp (h c (List.mem_range.mpr hc)) a (cst_mem.mpr ⟨ha, ea⟩) b (cst_mem.mpr ⟨hb, eb⟩)
  · intro h c hc
    refine pair_none.mpr fun a ha b hb => ?_
    obtain ⟨a1, a2⟩ := cst_mem.mp ha
    obtain ⟨b1, b2⟩ := cst_mem.mp hb
    exact h c (List.mem_range.mp hc) a a1 b b1 a2 b2
theorem find_some {p : List (List Int) × List (List Int)} (h : zki cs.length rs t s = some p) : ∃ c a b, a ∈ stp rs t (hEnd rs t (some c) s) ∧ b ∈ stp rs t (hEnd rs t (some c) s) ∧ zap a = zap b ∧ zbt a ≠ zbt b ∧ p = (runH rs t (some c) 4 s ++ [a], runH rs t (some c) 4 s ++ [b]) := by
  obtain ⟨c, _, e⟩ := List.exists_of_findSome?_eq_some h
  unfold zn8 at e
  cases q : cst rs t s c with
  | nil => rw [q] at e; cases e
  | cons a rest =>
    rw [q] at e
    simp only [Option.map_eq_some_iff] at e
    obtain ⟨b, fb, e⟩ := e
    have hb := List.mem_of_find?_eq_some fb
    have nb := List.find?_some fb
    obtain ⟨a1, a2⟩ := cst_mem.mp (show a ∈ cst rs t s c by rw [q]; exact List.mem_cons_self ..)
    obtain ⟨b1, b2⟩ := cst_mem.mp (show b ∈ cst rs t s c by rw [q]; exact List.mem_cons_of_mem _ hb)
    refine ⟨c, a, b, a1, b1, a2.trans b2.symm, fun z => ?_, e.symm⟩
    simp [neV, z] at nb
def gE (rs : List Rul) (t : Tab) (s : St45) (c : Nat) : D := .tup [.int ((c : Nat) : Int), sD (hEnd rs t (some c) s).2]
def freeC (m : Nat) (st : List Nat) : List Nat := (List.range m).filter fun c => !decide (c ∈ st)
def gsD (m : Nat) (rs : List Rul) (t : Tab) (s : St45) : D := .tup ((freeC m s.2).map (gE rs t s))
theorem zpu (F : Fx cs rs t s) (S : zaf) : zhj [.dat (.tup cs), .dat (zao rs), .dat (tabD t), .dat (rowD s.1), .dat (sD s.2)] S = .ok (.dat (gsD cs.length rs t s)) S := by
  have c4 := c4 F
  have rg : ∀ S, rng1 [.dat (.int ((cs.length : Nat) : Int))] S = .ok ((List.range cs.length).map fun i => .int ((i : Nat) : Int)) S := fun S => zjk (ze3 (by omega)) S
  have fi := flat_if (fun c => !decide (c ∈ s.2)) (fun c : Nat => c) (List.range cs.length)
  have fl : ((List.range cs.length).flatMap fun c => bif !decide (c ∈ s.2) then [c] else []).length ≤ 4 := by
    rw [fi, List.length_map]
    have := List.length_filter_le (fun c => !decide (c ∈ s.2)) (List.range cs.length)
    rw [List.length_range] at this
    omega
  obtain ⟨ρ', e, y6, y7, y8, rfl⟩ := for_acc (enc := fun i : Nat => D.int ((i : Nat) : Int)) (eb := gE rs t s) (q := fun c => bif !decide (c ∈ s.2) then [c] else []) (G := gNm 6) (f := zdu) (S0 := S) (P := fun ρ => ∃ y6 y7 y8, ρ = [some (.dat (.tup cs)), some (.dat (zao rs)), some (.dat (tabD t)), some (.dat (rowD s.1)), some (.dat (sD s.2)), some (.obj S.length), y6, y7, y8]) (List.range cs.length) [some (.dat (.tup cs)), some (.dat (zao rs)), some (.dat (tabD t)), some (.dat (rowD s.1)), some (.dat (sD s.2)), some (.obj S.length), none, none, none] [] (ze3 (by simp only [List.length_nil]; omega)) ⟨_, _, _, rfl⟩ (by
    rintro c hc ρ ds ⟨y6, y7, y8, rfl⟩ hl
    have ni := zp4 c s.2
    cases q : (!decide (c ∈ s.2)) with
    | false =>
      rw [q] at ni
      refine ⟨_, [some (.dat (.tup cs)), some (.dat (zao rs)), some (.dat (tabD t)), some (.dat (rowD s.1)), some (.dat (sD s.2)), some (.obj S.length), some (.dat (.int ((c : Nat) : Int))), y7, y8], rfl, ?_, _, _, _, rfl⟩
      show zdu [some (.dat (.tup cs)), some (.dat (zao rs)), some (.dat (tabD t)), some (.dat (rowD s.1)), some (.dat (sD s.2)), some (.obj S.length), some (.dat (.int ((c : Nat) : Int))), y7, y8] _ = _
      unfold zdu
      simp! only [ni]
    | true =>
      rw [q] at ni hl
      have fr := fun S => ziu F (some c) S
      have h0 : zop (some c) = .int ((c : Nat) : Int) := rfl
      rw [h0] at fr
      have ds' := fun S => zhr F (zbq (rs := rs) (t := t) (some c) 4 s).1 S
      have eh : endL s (runH rs t (some c) 4 s) = hEnd rs t (some c) s := rfl
      rw [eh] at ds'
      have e1 : ∀ ρ (a b : D), gTp (gCo (gNm 7) (gCo (gNm 8) gNo)) (.tup [a, b]) ρ = some ((ρ.set 7 (some (.dat a))).set 8 (some (.dat b))) := fun _ _ _ => rfl
      refine ⟨_, [some (.dat (.tup cs)), some (.dat (zao rs)), some (.dat (tabD t)), some (.dat (rowD s.1)), some (.dat (sD s.2)), some (.obj S.length), some (.dat (.int ((c : Nat) : Int))), some (.dat (rowD (hEnd rs t (some c) s).1)), some (.dat (sD (hEnd rs t (some c) s).2))], rfl, ?_, _, _, _, rfl⟩
      show zdu [some (.dat (.tup cs)), some (.dat (zao rs)), some (.dat (tabD t)), some (.dat (rowD s.1)), some (.dat (sD s.2)), some (.obj S.length), some (.dat (.int ((c : Nat) : Int))), y7, y8] _ = _
      unfold zdu
      have ap := app_end (i := 5) (g := xTup (zac (xVar 6) (zac (xVar 8) aNil))) (ρ := [some (.dat (.tup cs)), some (.dat (zao rs)), some (.dat (tabD t)), some (.dat (rowD s.1)), some (.dat (sD s.2)), some (.obj S.length), some (.dat (.int ((c : Nat) : Int))), some (.dat (rowD (hEnd rs t (some c) s).1)), some (.dat (sD (hEnd rs t (some c) s).2))]) (S0 := S) (ds := ds) (d := gE rs t s c) rfl (by simp! only []; rfl) (by simp at hl; omega)
      simp! only [ni, fr, ds', e1, ap])
  rw [fi, List.map_map] at e
  have lm : List.map (gE rs t s ∘ fun c => c) (List.filter (fun c => !decide (c ∈ s.2)) (List.range cs.length)) = (freeC cs.length s.2).map (gE rs t s) := rfl
  rw [lm, List.nil_append] at e
  have dt : ziv (.lst ((freeC cs.length s.2).map (gE rs t s))) = some (gsD cs.length rs t s) := rfl
  unfold zhj zln
  simp! only [rg, e, dt]
def fixD (m : Nat) (rs : List Rul) (t : Tab) (s : St45) : D := match zki m rs t s with
  | some p => .tup [.str "parts", lsD (goP rs t s p.1), lsD (goP rs t s p.2)]
  | none => .tup [.str "fixed", rowD (hEnd rs t none s).1, sD (hEnd rs t none s).2, gsD m rs t s]
theorem fix_v (F : Fx cs rs t s) (S : zaf) : g_fix [.dat (.tup cs), .dat (zao rs), .dat (tabD t), .dat (rowD s.1), .dat (sD s.2)] S = .ok (.dat (fixD cs.length rs t s)) S := by
  have rq := fun S => zij F S
  have fp := fun S => find_parts_v F S
  have fr := fun S => ziu F none S
  have h0 : zop none = .non := rfl
  rw [h0] at fr
  have ds := fun S => zhr F (zbq (rs := rs) (t := t) none 4 s).1 S
  have eh : endL s (runH rs t none 4 s) = hEnd rs t none s := rfl
  rw [eh] at ds
  have fg := fun S => zpu F S
  have e1 : ∀ ρ (a b : D), gTp (gCo (gNm 6) (gCo (gNm 7) gNo)) (.tup [a, b]) ρ = some ((ρ.set 6 (some (.dat a))).set 7 (some (.dat b))) := fun _ _ _ => rfl
  unfold g_fix s_fix
  unfold bothD at fp
  unfold fixD
  cases q : zki cs.length rs t s with
  | none =>
    rw [q] at fp
    have n0 : D.non.isN = true := rfl
    simp! only [rq, fp, n0, fr, ds, e1, fg]
  | some p =>
    rw [q] at fp
    have n0 : (twoD rs t s p).isN = false := rfl
    have i0 : dIx (twoD rs t s p) (.int 0) = some (lsD (goP rs t s p.1)) := rfl
    have i1 : dIx (twoD rs t s p) (.int 1) = some (lsD (goP rs t s p.2)) := rfl
    simp! only [rq, fp, n0, i0, i1]
theorem run_v (F : Fx cs rs t s) (S : zaf) : g_run [.dat (.tup cs), .dat (zao rs), .dat (tabD t), .dat (rowD s.1), .dat (sD s.2)] S = .ok (.dat (lsD (runH rs t none 4 s))) S := by
  have rq := fun S => zij F S
  have fr := fun S => ziu F none S
  have h0 : zop none = .non := rfl
  rw [h0] at fr
  unfold g_run s_run
  simp! only [rq, fr]
theorem next_steps_v (F : Fx cs rs t s) (S : zaf) : zha [.dat (.tup cs), .dat (zao rs), .dat (tabD t), .dat (rowD s.1), .dat (sD s.2)] S = .ok (.dat (.lst ((zc8 (stp rs t s)).map tD))) S := by
  have rq := fun S => zij F S
  have nv := fun S => next_v F S
  unfold zha zmz
  simp! only [rq, nv]
end
end T45
set_option maxHeartbeats 400000
namespace T45
open PySem PySem.Spec PyProof.Rows L2 DL
theorem lc2Go_map {α β : Type} {enc : α → D} {eb : β → D} {q : α → β → D} {ys : α → List β} {g g1 : GFn} {t t1 : TFn} {l1 : LFn} {v1 : List Nat} {f : XFn} {ρ : zat} {S : zaf} : ∀ (xs : List α), (∀ a ∈ xs, ∃ ρ1, g (enc a) ρ = some ρ1 ∧ t ρ1 S = .ok true S ∧ l1 ρ1 S = .ok ((ys a).map eb) S ∧ ∀ b ∈ ys a, ∃ ρ2, g1 (eb b) (zis ρ1 v1) = some ρ2 ∧ t1 ρ2 S = .ok true S ∧ f ρ2 S = .ok (.dat (q a b)) S) →
    lc2Go g t l1 v1 g1 t1 f ρ (xs.map enc) S = .ok (xs.flatMap fun a => (ys a).map (q a)) S
  | [], _ => rfl
  | a :: r, h => by
    obtain ⟨ρ1, h1, h2, h3, h4⟩ := h a (List.mem_cons_self ..)
    have ih := lc2Go_map (g := g) (t := t) (l1 := l1) (v1 := v1) (g1 := g1) (t1 := t1) (f := f) (ρ := ρ) (S := S) (enc := enc) (eb := eb) (q := q) (ys := ys) r fun b hb => h b (List.mem_cons_of_mem _ hb)
    simp only [List.map_cons, lc2Go, h1, h2, Res.bindN_ok, if_true, h3, zcv (q := q a) (ys a) h4, ih, List.flatMap_cons]
theorem a_lc2 (l : LFn) (own : List Nat) (g : GFn) (t : TFn) (l1 : LFn) (v1 : List Nat) (g1 : GFn) (t1 : TFn) (f : XFn) (ρ : zat) (S : zaf) : lLc2 l own g t l1 v1 g1 t1 f ρ S = (l ρ S).bind fun ds S1 => (lc2Go g t l1 v1 g1 t1 f (zis ρ own) ds S1).bindN fun zs S2 => if zs.length ≤ sizeLine then .ok zs S2 else .bad := rfl
/-! ## what the checker asks of runs -/
theorem dNin_lp45 {n m : Nat} {d : D} {xs : List D} {p : Bool} (hd : d.fit n = true) (hx : D.fits m xs = true) (nd : d.noB = true) (nx : D.noBs xs = true) (h : p = true ↔ d ∈ xs) (hn : n ≤ 64 := by decide) : dNin d (.lst xs) = some (.bl (!p)) := by
  have h1 := dIn_lp hd hx nd nx h hn
  have h2 := dIn_l hd hx hn
  rw [h1] at h2
  have e : p = dInB d xs := by simpa using h2
  rw [dNin_l hd hx hn, e]
section
variable {cs : List D} {rs : List Rul} {t : Tab} {s : St45}
theorem zn7 : ∀ {ls : List (List Int)} {s : St45}, Walk rs t s ls → ∀ l ∈ ls, ∃ k : Nat, l = [((k : Nat) : Int), ((zap l : Nat) : Int), zbt l]
  | x :: ls, s, w, l, hl => by
    rcases List.mem_cons.mp hl with rfl | hl
    · obtain ⟨k, e, _⟩ := zj5 w.1
      exact ⟨k, e⟩
    · exact zn7 (ls := ls) w.2 l hl
theorem not_in_next {l : List Int} (h : l ∈ stp rs t s) : dNin (tD l) (.lst ((zc8 (stp rs t s)).map tD)) = some (.bl false) := by
  have := dNin_lp45 (n := 1) (m := 1) (p := true) (d := tD l) (xs := (zc8 (stp rs t s)).map tD) (by simp only [tD, D.fit, ze0]) (by
    have := lsD_fit (zc8 (stp rs t s))
    simpa only [lsD, D.fit] using this) (by simp only [tD, D.noB]; exact noBs_iff.mpr fun y hy => by obtain ⟨i, _, rfl⟩ := List.mem_map.mp hy; rfl) (by
    have := lsD_noB (zc8 (stp rs t s))
    simpa only [lsD, D.noB] using this) (by simp only [true_iff]; exact List.mem_map.mpr ⟨l, (zc5 _ _).mpr h, rfl⟩)
  exact this
theorem zlq : ∀ (ls : List (List Int)) {s : St45} (F : Fx cs rs t s), Walk rs t s ls → ∀ (z4 z5 : Option DV) (S : zaf), ∃ y5, zez (gNm 5) zfe (ls.map tD) [some (.dat (zao rs)), some (.dat (tabD t)), some (.dat (rowD s.1)), some (.dat (sD s.2)), z4, z5, none] S = .nx [some (.dat (zao rs)), some (.dat (tabD t)), some (.dat (rowD (endL s ls).1)), some (.dat (sD (endL s ls).2)), z4, y5, none] S
  | [], s, _, _, z4, z5, S => ⟨z5, rfl⟩
  | l :: ls, s, F, w, z4, z5, S => by
    obtain ⟨y5, e⟩ := zlq ls (zct F w.1).2.2 w.2 z4 (some (.dat (tD l))) S
    refine ⟨y5, ?_⟩
    have e1 : ∀ ρ (a b : D), gTp (gCo (gNm 2) (gCo (gNm 3) gNo)) (.tup [a, b]) ρ = some ((ρ.set 2 (some (.dat a))).set 3 (some (.dat b))) := fun _ _ _ => rfl
    have dv := fun S => zn4 F w.1 S
    have nv := fun S => next_v F S
    obtain ⟨k, el⟩ := zpj w.1
    have ln : dLen (tD l) = some (.int 3) := by rw [el]; rfl
    have tt : (tD l).isT = true := rfl
    have it : ∀ S, zes (.dat (tD l)) S = .ok (l.map .int) S := fun _ => rfl
    have l3 : l.length = 3 := by obtain ⟨k, e2, _⟩ := zj5 w.1; rw [e2]; rfl
    have zz : szB (l.map D.int).length = true := zcu (by rw [List.length_map]; omega)
    have lc := fun S => zcv (G := gNm 6) (t := zcz) (f := xN zco (zac (xVar 6) aNil)) (ρ := [some (.dat (zao rs)), some (.dat (tabD t)), some (.dat (rowD s.1)), some (.dat (sD s.2)), z4, some (.dat (tD l)), none]) (S := S) (enc := D.int) (q := fun _ => .bl true) l fun i hi => ⟨_, rfl, rfl, by
      have io : ∀ S, zco [.dat (.int i)] S = .ok (.dat (.bl true)) S := fun S => zhk (.int i) S
      simp! only [io]⟩
    have al : dAll (.lst (l.map fun _ => D.bl true)) = some (.bl true) := by
      rw [zc6 (fun _ => true)]
      simp
    have n3 : dNe (.int 3) (.int 3) = some (.bl false) := rfl
    have ni := not_in_next w.1
    have st : zfe [some (.dat (zao rs)), some (.dat (tabD t)), some (.dat (rowD s.1)), some (.dat (sD s.2)), z4, some (.dat (tD l)), none] S = .nx [some (.dat (zao rs)), some (.dat (tabD t)), some (.dat (rowD (goL s l).1)), some (.dat (sD (goL s l).2)), z4, some (.dat (tD l)), none] S := by
      unfold zfe
      simp! only [tt, ln, n3, it, zz, lc, al, nv, ni, dv, e1]
    rw [List.map_cons, zgn (ρ1 := [some (.dat (zao rs)), some (.dat (tabD t)), some (.dat (rowD s.1)), some (.dat (sD s.2)), z4, some (.dat (tD l)), none]) rfl, st, zpp, e]
    rfl
theorem zpr (F : Fx cs rs t s) {ls : List (List Int)} (w : Walk rs t s ls) (S : zaf) : zhl [.dat (zao rs), .dat (tabD t), .dat (rowD s.1), .dat (sD s.2), .dat (lsD ls)] S = .ok (.dat (.bl true)) S := by
  obtain ⟨y5, e⟩ := zlq ls F w (some (.dat (lsD ls))) none S
  have it : zes (.dat (lsD ls)) S = .ok (ls.map tD) S := rfl
  have tt : (lsD ls).isL = true := rfl
  unfold zhl zla
  simp! only [tt, it, e]
theorem zkh (F : Fx cs rs t s) {ls : List (List Int)} (w : Walk rs t s ls) (m : ∀ l, l ∉ stp rs t (endL s ls)) (S : zaf) : zfy [.dat (zao rs), .dat (tabD t), .dat (rowD s.1), .dat (sD s.2), .dat (lsD ls)] S = .ok (.dat (.bl true)) S := by
  have rp := fun S => zpr F w S
  have ds := fun S => zhr F w S
  have nv := fun S => next_v (zem F w) S
  have e0 : zc8 (stp rs t (endL s ls)) = [] := by
    cases q : zc8 (stp rs t (endL s ls)) with
    | nil => rfl
    | cons x L => exact absurd ((zc5 _ _).mp (show x ∈ zc8 (stp rs t (endL s ls)) by rw [q]; exact List.mem_cons_self ..)) (m x)
  rw [e0] at nv
  have e1 : ∀ ρ (a b : D), gTp (gCo (gNm 5) (gCo (gNm 6) gNo)) (.tup [a, b]) ρ = some ((ρ.set 5 (some (.dat a))).set 6 (some (.dat b))) := fun _ _ _ => rfl
  have d0 : dEq (.lst []) (.lst []) = some (.bl true) := rfl
  unfold zfy zoe
  simp! only [rp, ds, e1, List.map_nil] at nv ⊢
  simp! only [nv, d0]
theorem do_part_v {A B : List (List Int)} {s1 s2 : St45} (wA : Walk rs t s1 A) (wB : Walk rs t s2 B) (lA : A.length ≤ 10) (lB : B.length ≤ 10) {a b : List Int} (ha : a ∈ A) (hb : b ∈ B) (ec : zap a = zap b) (nv : zbt a ≠ zbt b) (S : zaf) : zlj [.dat (lsD A), .dat (lsD B)] S = .ok (.dat (.bl true)) S := by
  have t1 : ∀ {L : List (List Int)} {s : St45}, Walk rs t s L → ∀ l ∈ L, dIx (tD l) (.int 1) = some (.int ((zap l : Nat) : Int)) ∧ dIx (tD l) (.int 2) = some (.int (zbt l)) := fun w l hl => by
    obtain ⟨k, e⟩ := zn7 w l hl
    have e := congrArg tD e
    rw [e]
    exact ⟨rfl, rfl⟩
  have itA : zes (.dat (lsD A)) S = .ok (A.map tD) S := rfl
  have lc := lc2Go_map (enc := tD) (eb := tD) (q := fun x y => .bl (decide (zap x = zap y) && !(zbt x == zbt y))) (ys := fun _ => B) (g := gNm 2) (g1 := gNm 3) (t := zcz) (t1 := zcz) (l1 := lIt (xVar 1)) (v1 := [3]) (f := xAnd (x2 (o2 dEq) (x2 (o2 dIx) (xVar 2) (xC (.int 1))) (x2 (o2 dIx) (xVar 3) (xC (.int 1)))) (x2 (o2 dNe) (x2 (o2 dIx) (xVar 2) (xC (.int 2))) (x2 (o2 dIx) (xVar 3) (xC (.int 2))))) (ρ := [some (.dat (lsD A)), some (.dat (lsD B)), none, none]) (S := S) A (fun x hx => ⟨[some (.dat (lsD A)), some (.dat (lsD B)), some (.dat (tD x)), none], rfl, rfl, rfl, fun y hy => ⟨[some (.dat (lsD A)), some (.dat (lsD B)), some (.dat (tD x)), some (.dat (tD y))], rfl, rfl, by
    obtain ⟨x1, x2'⟩ := t1 wA x hx
    obtain ⟨y1, y2⟩ := t1 wB y hy
    have d1 : dEq (.int ((zap x : Nat) : Int)) (.int ((zap y : Nat) : Int)) = some (.bl (decide (zap x = zap y))) := by rw [zo_, natEq]
    cases q : decide (zap x = zap y) with
    | false =>
      rw [q] at d1
      simp! only [x1, x2', y1, y2, d1, zju]
    | true =>
      rw [q] at d1
      simp! only [x1, x2', y1, y2, d1, zju]⟩⟩)
  have fm : (A.flatMap fun x => B.map fun y => D.bl (decide (zap x = zap y) && !(zbt x == zbt y))) = (A.flatMap fun x => B.map fun y => (x, y)).map fun p => D.bl (decide (zap p.1 = zap p.2) && !(zbt p.1 == zbt p.2)) := by
    rw [List.map_flatMap]
    congr 1
    funext x
    rw [List.map_map]
    rfl
  have len : (A.flatMap fun x => B.map fun y => D.bl (decide (zap x = zap y) && !(zbt x == zbt y))).length ≤ sizeLine := by
    have := zni (l := A) (m := 10) (f := fun x => B.map fun y => D.bl (decide (zap x = zap y) && !(zbt x == zbt y))) fun x _ => by rw [List.length_map]; exact lB
    exact ze3 (by omega)
  have an : dAny (.lst (A.flatMap fun x => B.map fun y => D.bl (decide (zap x = zap y) && !(zbt x == zbt y)))) = some (.bl true) := by
    rw [fm, dAny_map]
    congr 2
    rw [List.any_eq_true]
    exact ⟨(a, b), List.mem_flatMap.mpr ⟨a, ha, List.mem_map.mpr ⟨b, hb, rfl⟩⟩, by simp [ec, nv]⟩
  unfold zlj s_do_part
  simp! only [a_lc2, itA]
  rw [lc]
  simp only [Res.bindN_ok]
  rw [if_pos len]
  simp! only [an]
theorem zn0 (F : Fx cs rs t s) (S : zaf) : zhx [.dat (.tup cs), .dat (tabD t), .dat (rowD s.1), .dat (sD s.2)] S = .ok (.dat .non) S := by
  obtain ⟨_, c2, c3⟩ := Fix.c4 F
  obtain ⟨_, _, f3⟩ := Fix.rules F
  have q1 := fun S => zka cs (tabD t) c3 c2 S
  have q2 := fun S => zjp cs (rowD s.1) c3 c2 S
  have q3 := fun S => zjg s.2 c2 F.sb F.inc S
  rw [f3] at q1
  rw [F.rw_.1] at q2
  unfold zhx zn2
  simp! only [q1, q2, q3]
end
end T45
set_option maxHeartbeats 400000
namespace T45
open PySem PySem.Spec PyProof.Rows L2 DL
/-! ## guards -/
theorem range_getD45 {α : Type} (d : α) (l : List α) : (List.range l.length).map (fun k => l.getD k d) = l := by
  apply List.ext_getElem
  · simp
  · intro i h1 h2
    simp [List.getD_eq_getElem?_getD, List.getElem?_eq_getElem h2]
section
variable {cs : List D} {rs : List Rul} {t : Tab} {s : St45}
theorem zkg (F : Fx cs rs t s) (np : NoP cs rs t s) (c : Nat) : Below (hEnd rs t (some c) s) (hEnd rs t none s) := zk4 F np (zbq (some c) 4 s).1
theorem held_free {c : Nat} (hn : c ∉ s.2) : c ∉ (hEnd rs t (some c) s).2 := fun z => by
  rcases zpw z with z | ⟨l, hl, e⟩
  · exact hn z
  · obtain ⟨w, nH⟩ := zbq (rs := rs) (t := t) (some c) 4 s
    obtain ⟨k, ek⟩ := zn7 w l hl
    have h1 := nH l hl
    have hg1 : l.getD 1 0 = ((zap l : Nat) : Int) := congrArg (fun x : List Int => x.getD 1 0) ek
    have h1 : (!(l.getD 1 0 == ((c : Nat) : Int))) = true := h1
    rw [hg1, e] at h1
    simp at h1
theorem guard_rule (F : Fx cs rs t s) (np : NoP cs rs t s) {c k : Nat} (hk : k < rs.length) (n : (rs.getD k r45).c ∉ (hEnd rs t (some c) s).2) (mt : ze1 (rs.getD k r45).g (hEnd rs t none s).1 = true) (al : ∀ p ∈ (rs.getD k r45).g, p.1 ∈ (hEnd rs t (some c) s).2) : ∀ v ∈ zj8 (rs.getD k r45) t (hEnd rs t none s).1, (rs.getD k r45).c = c ∧ c ∈ (hEnd rs t none s).2 ∧ (hEnd rs t none s).1.getD c 0 = v := fun v hv => by
  have b := zkg F np c
  have ve : ∀ p ∈ (rs.getD k r45).g, (hEnd rs t (some c) s).1.getD p.1 0 = (hEnd rs t none s).1.getD p.1 0 := fun p hp => (b p.1 (al p hp)).2
  have e1 : zap [((k : Nat) : Int), (((rs.getD k r45).c : Nat) : Int), v] = (rs.getD k r45).c := by simp [zap]
  have e2 : zbt [((k : Nat) : Int), (((rs.getD k r45).c : Nat) : Int), v] = v := rfl
  have hl : [((k : Nat) : Int), (((rs.getD k r45).c : Nat) : Int), v] ∈ stp rs t (hEnd rs t (some c) s) := by
    refine can_iff.mpr ⟨k, v, hk, ?_, by rw [vals_eq ve]; exact hv, rfl⟩
    unfold canS
    simp only [Bool.and_eq_true, Bool.not_eq_true', decide_eq_false_iff_not, List.all_eq_true, decide_eq_true_eq]
    exact ⟨n, al, by rw [zpc ve]; exact mt⟩
  generalize [((k : Nat) : Int), (((rs.getD k r45).c : Nat) : Int), v] = l at hl e1 e2
  have hc : (rs.getD k r45).c = c := by
    have h1 := zkm F (some c) _ hl
    refine Classical.byContradiction fun ne => ?_
    rw [(hB_col hl).mpr (by rw [e1]; exact ne)] at h1
    cases h1
  have w2 := zk1 F hl
  have bx := zk4 F np w2
  obtain ⟨v1, v2⟩ := ziz F w2 l (by simp)
  rw [e1, hc] at v1 v2
  rw [e2] at v2
  exact ⟨hc, (bx c v1).1, by rw [← (bx c v1).2, v2]⟩
theorem guard_vals {k : Nat} {c : Nat} {E : St45} (hcl : c < E.1.length) (hc : (rs.getD k r45).c = c) (hm : c ∈ E.2) {v : Int} (hv : E.1.getD c 0 = v) (z0 z1 z2 z3 z7 : Option DV) (S : zaf) (y9 : Option DV) : zh1 [z0, z1, z2, z3, some (.dat (rowD E.1)), some (.dat (sD E.2)), some (.dat (.int ((c : Nat) : Int))), z7, some (.dat (rulD (rs.getD k r45))), some (.dat (.int v)), none] S = .nx [z0, z1, z2, z3, some (.dat (rowD E.1)), some (.dat (sD E.2)), some (.dat (.int ((c : Nat) : Int))), z7, some (.dat (rulD (rs.getD k r45))), some (.dat (.int v)), none] S := by
  have i1 : dIx (rulD (rs.getD k r45)) (.int 1) = some (.int (((rs.getD k r45).c : Nat) : Int)) := rfl
  rw [hc] at i1
  have n1 : dNe (.int ((c : Nat) : Int)) (.int ((c : Nat) : Int)) = some (.bl false) := by rw [zju]; simp
  have n2 := zp4 c E.2
  rw [decide_eq_true hm] at n2
  have n3 : dIx (rowD E.1) (.int ((c : Nat) : Int)) = some (.int (E.1.getD c 0)) := by
    show dIx (.tup (E.1.map .int)) _ = _
    rw [ze2]
    exact zja D.int 0 hcl
  rw [hv] at n3
  have n4 : dNe (.int v) (.int v) = some (.bl false) := by rw [zju]; simp
  unfold zh1
  simp! only [i1, n1, n2, n3, n4]
theorem guard_go {k : Nat} {c : Nat} {E : St45} (hcl : c < E.1.length) (z0 z1 z2 z3 z7 : Option DV) (S : zaf) : ∀ (vs : List Int), (∀ v ∈ vs, (rs.getD k r45).c = c ∧ c ∈ E.2 ∧ E.1.getD c 0 = v) → ∀ z9 : Option DV, ∃ y9, zez (gNm 9) zh1 (vs.map .int) [z0, z1, z2, z3, some (.dat (rowD E.1)), some (.dat (sD E.2)), some (.dat (.int ((c : Nat) : Int))), z7, some (.dat (rulD (rs.getD k r45))), z9, none] S = .nx [z0, z1, z2, z3, some (.dat (rowD E.1)), some (.dat (sD E.2)), some (.dat (.int ((c : Nat) : Int))), z7, some (.dat (rulD (rs.getD k r45))), y9, none] S
  | [], _, z9 => ⟨z9, rfl⟩
  | v :: vs, h, z9 => by
    obtain ⟨h1, h2, h3⟩ := h v (List.mem_cons_self ..)
    obtain ⟨y9, e⟩ := guard_go hcl z0 z1 z2 z3 z7 S vs (fun x hx => h x (List.mem_cons_of_mem _ hx)) (some (.dat (.int v)))
    refine ⟨y9, ?_⟩
    rw [List.map_cons, zgn (ρ1 := [z0, z1, z2, z3, some (.dat (rowD E.1)), some (.dat (sD E.2)), some (.dat (.int ((c : Nat) : Int))), z7, some (.dat (rulD (rs.getD k r45))), some (.dat (.int v)), none]) rfl, guard_vals hcl h1 h2 h3 z0 z1 z2 z3 z7 S none, zpp, e]
theorem is_guard_v (F : Fx cs rs t s) (np : NoP cs rs t s) {c : Nat} (hc : c < cs.length) (hn : c ∉ s.2) (S : zaf) : zim [.dat (.tup cs), .dat (zao rs), .dat (tabD t), .dat (sD s.2), .dat (rowD (hEnd rs t none s).1), .dat (sD (hEnd rs t none s).2), .dat (.int ((c : Nat) : Int)), .dat (sD (hEnd rs t (some c) s).2)] S = .ok (.dat (.bl true)) S := by
  have Fh := zot F (some c)
  have Fe := zot F none
  obtain ⟨_, c2, c3⟩ := Fix.c4 F
  have q3 := fun S => zjg (hEnd rs t (some c) s).2 c2 (Fix.sb Fh) (Fix.inc Fh) S
  have hf := held_free (rs := rs) (t := t) hn
  have d1 := zov c (hEnd rs t (some c) s).2
  rw [decide_eq_false hf] at d1
  have b := zkg F np c
  have b0 := zed F (zbq (rs := rs) (t := t) (some c) 4 s).1
  have itS : ∀ (st : List Nat) S, zes (.dat (sD st)) S = .ok (st.map fun i => .int ((i : Nat) : Int)) S := fun _ _ => rfl
  have sl1 := Fix.stl (show Fix cs rs t (hEnd rs t (some c) s).1 (hEnd rs t (some c) s).2 from Fh)
  have sl0 := Fix.stl (show Fix cs rs t s.1 s.2 from F)
  have z1 : szB ((hEnd rs t (some c) s).2.map fun i => D.int ((i : Nat) : Int)).length = true := zcu (by rw [List.length_map]; omega)
  have z0 : szB (s.2.map fun i => D.int ((i : Nat) : Int)).length = true := zcu (by rw [List.length_map]; omega)
  have lc1 := fun S => zcv (G := gNm 9) (t := zcz) (f := x2 (o2 dIn) (xVar 9) (xVar 5)) (ρ := [some (.dat (.tup cs)), some (.dat (zao rs)), some (.dat (tabD t)), some (.dat (sD s.2)), some (.dat (rowD (hEnd rs t none s).1)), some (.dat (sD (hEnd rs t none s).2)), some (.dat (.int ((c : Nat) : Int))), some (.dat (sD (hEnd rs t (some c) s).2)), none, none, none]) (S := S) (enc := fun i : Nat => D.int ((i : Nat) : Int)) (q := fun i => .bl (decide (i ∈ (hEnd rs t none s).2))) (hEnd rs t (some c) s).2 fun i hi => ⟨_, rfl, rfl, by simp! only [zov]⟩
  have lc2 := fun S => zcv (G := gNm 9) (t := zcz) (f := x2 (o2 dIn) (xVar 9) (xVar 7)) (ρ := [some (.dat (.tup cs)), some (.dat (zao rs)), some (.dat (tabD t)), some (.dat (sD s.2)), some (.dat (rowD (hEnd rs t none s).1)), some (.dat (sD (hEnd rs t none s).2)), some (.dat (.int ((c : Nat) : Int))), some (.dat (sD (hEnd rs t (some c) s).2)), none, none, none]) (S := S) (enc := fun i : Nat => D.int ((i : Nat) : Int)) (q := fun i => .bl (decide (i ∈ (hEnd rs t (some c) s).2))) s.2 fun i hi => ⟨_, rfl, rfl, by simp! only [zov]⟩
  have al1 : dAll (.lst ((hEnd rs t (some c) s).2.map fun i => .bl (decide (i ∈ (hEnd rs t none s).2)))) = some (.bl true) := by
    rw [zc6]
    congr 2
    rw [List.all_eq_true]
    exact fun i hi => decide_eq_true (b i hi).1
  have al2 : dAll (.lst (s.2.map fun i => .bl (decide (i ∈ (hEnd rs t (some c) s).2)))) = some (.bl true) := by
    rw [zc6]
    congr 2
    rw [List.all_eq_true]
    exact fun i hi => decide_eq_true (b0 i hi).1
  have cel : c < (hEnd rs t none s).1.length := by rw [Fe.len]; exact hc
  obtain ⟨ρ', S', e, y8, y9, rfl, rfl⟩ := zix (enc := fun k : Nat => rulD (rs.getD k r45)) (G := gNm 8) (f := zbz) (fun pre ρ S' => ∃ y8 y9, ρ = [some (.dat (.tup cs)), some (.dat (zao rs)), some (.dat (tabD t)), some (.dat (sD s.2)), some (.dat (rowD (hEnd rs t none s).1)), some (.dat (sD (hEnd rs t none s).2)), some (.dat (.int ((c : Nat) : Int))), some (.dat (sD (hEnd rs t (some c) s).2)), y8, y9, none] ∧ S' = S) (List.range rs.length) [] [some (.dat (.tup cs)), some (.dat (zao rs)), some (.dat (tabD t)), some (.dat (sD s.2)), some (.dat (rowD (hEnd rs t none s).1)), some (.dat (sD (hEnd rs t none s).2)), some (.dat (.int ((c : Nat) : Int))), some (.dat (sD (hEnd rs t (some c) s).2)), none, none, none] S ⟨_, _, rfl, rfl⟩ (by
    rintro pre k post ρ S' hpp ⟨y8, y9, rfl, rfl⟩
    have hk : k < rs.length := by
      have : k ∈ List.range rs.length := by rw [show List.range rs.length = pre ++ k :: post by simpa using hpp]; simp
      exact List.mem_range.mp this
    have hr := F.rg _ (zfc (d := r45) hk)
    have gl := guard_rule F np (c := c) hk
    have fv := fun S => zkd (rs.getD k r45) hr t F.tl F.tr (hEnd rs t none s).1 Fe.len S
    have mv := fun S => zi4 (rs.getD k r45).g (hEnd rs t none s).1 (hr.okg Fe.len) S
    have i0 : dIx (rulD (rs.getD k r45)) (.int 0) = some (gD (rs.getD k r45).g) := rfl
    have i1 : dIx (rulD (rs.getD k r45)) (.int 1) = some (.int (((rs.getD k r45).c : Nat) : Int)) := rfl
    have itg : ∀ S, zes (.dat (gD (rs.getD k r45).g)) S = .ok ((rs.getD k r45).g.map eD) S := fun _ => rfl
    have lg : szB ((rs.getD k r45).g.map eD).length = true := zcu (by rw [List.length_map]; have := hr.sh; omega)
    have lc := zcv (G := gNm 10) (t := zcz) (f := x2 (o2 dIn) (x2 (o2 dIx) (xVar 10) (xC (.int 0))) (xVar 7)) (ρ := [some (.dat (.tup cs)), some (.dat (zao rs)), some (.dat (tabD t)), some (.dat (sD s.2)), some (.dat (rowD (hEnd rs t none s).1)), some (.dat (sD (hEnd rs t none s).2)), some (.dat (.int ((c : Nat) : Int))), some (.dat (sD (hEnd rs t (some c) s).2)), some (.dat (rulD (rs.getD k r45))), y9, none]) (S := S') (enc := eD) (q := fun p => .bl (decide (p.1 ∈ (hEnd rs t (some c) s).2))) (rs.getD k r45).g fun p hp => ⟨_, rfl, rfl, by simp! only [eD, atI_0, zov]⟩
    have al := zc6 (fun p : Ent => decide (p.1 ∈ (hEnd rs t (some c) s).2)) (rs.getD k r45).g
    have s1 := zov (rs.getD k r45).c s.2
    have s2 := zov (rs.getD k r45).c (hEnd rs t (some c) s).2
    have itv : ∀ L S, zes (.dat (.lst L)) S = .ok L S := fun _ _ => rfl
    cases h1 : decide ((rs.getD k r45).c ∈ s.2) with
    | true =>
      rw [h1] at s1
      refine ⟨_, [some (.dat (.tup cs)), some (.dat (zao rs)), some (.dat (tabD t)), some (.dat (sD s.2)), some (.dat (rowD (hEnd rs t none s).1)), some (.dat (sD (hEnd rs t none s).2)), some (.dat (.int ((c : Nat) : Int))), some (.dat (sD (hEnd rs t (some c) s).2)), some (.dat (rulD (rs.getD k r45))), y9, none], S', rfl, .inr ?_, _, _, rfl, rfl⟩
      show zbz [some (.dat (.tup cs)), some (.dat (zao rs)), some (.dat (tabD t)), some (.dat (sD s.2)), some (.dat (rowD (hEnd rs t none s).1)), some (.dat (sD (hEnd rs t none s).2)), some (.dat (.int ((c : Nat) : Int))), some (.dat (sD (hEnd rs t (some c) s).2)), some (.dat (rulD (rs.getD k r45))), y9, none] S' = _
      unfold zbz
      simp! only [i1, s1]
      all_goals rfl
    | false =>
      rw [h1] at s1
      cases h2 : decide ((rs.getD k r45).c ∈ (hEnd rs t (some c) s).2) with
      | true =>
        rw [h2] at s2
        refine ⟨_, [some (.dat (.tup cs)), some (.dat (zao rs)), some (.dat (tabD t)), some (.dat (sD s.2)), some (.dat (rowD (hEnd rs t none s).1)), some (.dat (sD (hEnd rs t none s).2)), some (.dat (.int ((c : Nat) : Int))), some (.dat (sD (hEnd rs t (some c) s).2)), some (.dat (rulD (rs.getD k r45))), y9, none], S', rfl, .inr ?_, _, _, rfl, rfl⟩
        show zbz [some (.dat (.tup cs)), some (.dat (zao rs)), some (.dat (tabD t)), some (.dat (sD s.2)), some (.dat (rowD (hEnd rs t none s).1)), some (.dat (sD (hEnd rs t none s).2)), some (.dat (.int ((c : Nat) : Int))), some (.dat (sD (hEnd rs t (some c) s).2)), some (.dat (rulD (rs.getD k r45))), y9, none] S' = _
        unfold zbz
        simp! only [i1, s1, s2]
        all_goals rfl
      | false =>
        rw [h2] at s2
        cases h3 : ze1 (rs.getD k r45).g (hEnd rs t none s).1 with
        | false =>
          rw [h3] at mv
          refine ⟨_, [some (.dat (.tup cs)), some (.dat (zao rs)), some (.dat (tabD t)), some (.dat (sD s.2)), some (.dat (rowD (hEnd rs t none s).1)), some (.dat (sD (hEnd rs t none s).2)), some (.dat (.int ((c : Nat) : Int))), some (.dat (sD (hEnd rs t (some c) s).2)), some (.dat (rulD (rs.getD k r45))), y9, none], S', rfl, .inr ?_, _, _, rfl, rfl⟩
          show zbz [some (.dat (.tup cs)), some (.dat (zao rs)), some (.dat (tabD t)), some (.dat (sD s.2)), some (.dat (rowD (hEnd rs t none s).1)), some (.dat (sD (hEnd rs t none s).2)), some (.dat (.int ((c : Nat) : Int))), some (.dat (sD (hEnd rs t (some c) s).2)), some (.dat (rulD (rs.getD k r45))), y9, none] S' = _
          unfold zbz
          simp! only [i0, i1, s1, s2, mv]
          all_goals rfl
        | true =>
          rw [h3] at mv
          cases h4 : (rs.getD k r45).g.all fun p => decide (p.1 ∈ (hEnd rs t (some c) s).2) with
          | false =>
            rw [h4] at al
            refine ⟨_, [some (.dat (.tup cs)), some (.dat (zao rs)), some (.dat (tabD t)), some (.dat (sD s.2)), some (.dat (rowD (hEnd rs t none s).1)), some (.dat (sD (hEnd rs t none s).2)), some (.dat (.int ((c : Nat) : Int))), some (.dat (sD (hEnd rs t (some c) s).2)), some (.dat (rulD (rs.getD k r45))), y9, none], S', rfl, .inl ?_, _, _, rfl, rfl⟩
            show zbz [some (.dat (.tup cs)), some (.dat (zao rs)), some (.dat (tabD t)), some (.dat (sD s.2)), some (.dat (rowD (hEnd rs t none s).1)), some (.dat (sD (hEnd rs t none s).2)), some (.dat (.int ((c : Nat) : Int))), some (.dat (sD (hEnd rs t (some c) s).2)), some (.dat (rulD (rs.getD k r45))), y9, none] S' = _
            unfold zbz
            simp! only [i0, i1, s1, s2, mv, itg, lg, lc, al]
          | true =>
            rw [h4] at al
            have gv := gl (of_decide_eq_false h2) h3 (fun p hp => by have := List.all_eq_true.mp h4 p hp; exact of_decide_eq_true this)
            obtain ⟨w9, ego⟩ := guard_go (rs := rs) (k := k) (c := c) cel (some (.dat (.tup cs))) (some (.dat (zao rs))) (some (.dat (tabD t))) (some (.dat (sD s.2))) (some (.dat (sD (hEnd rs t (some c) s).2))) S' (zj8 (rs.getD k r45) t (hEnd rs t none s).1) gv y9
            refine ⟨_, [some (.dat (.tup cs)), some (.dat (zao rs)), some (.dat (tabD t)), some (.dat (sD s.2)), some (.dat (rowD (hEnd rs t none s).1)), some (.dat (sD (hEnd rs t none s).2)), some (.dat (.int ((c : Nat) : Int))), some (.dat (sD (hEnd rs t (some c) s).2)), some (.dat (rulD (rs.getD k r45))), w9, none], S', rfl, .inl ?_, _, _, rfl, rfl⟩
            show zbz [some (.dat (.tup cs)), some (.dat (zao rs)), some (.dat (tabD t)), some (.dat (sD s.2)), some (.dat (rowD (hEnd rs t none s).1)), some (.dat (sD (hEnd rs t none s).2)), some (.dat (.int ((c : Nat) : Int))), some (.dat (sD (hEnd rs t (some c) s).2)), some (.dat (rulD (rs.getD k r45))), y9, none] S' = _
            unfold zbz
            simp! only [i0, i1, s1, s2, mv, itg, lg, lc, al, fv, itv, ego])
  have itr : ∀ S, zes (.dat (zao rs)) S = .ok ((List.range rs.length).map fun k => rulD (rs.getD k r45)) S := fun S => by
    show Res.ok (rs.map rulD) S = _
    congr 1
    have := range_getD45 r45 rs
    conv => lhs; rw [← this]
    rw [List.map_map]
    rfl
  unfold zim zph
  simp! only [q3, d1, itS, z1, z0, lc1, lc2, al1, al2, itr, e]
end
end T45
set_option maxHeartbeats 400000
namespace T45
open PySem PySem.Spec PyProof.Rows L2 DL
theorem zm2 {cs rl : D} {x0 x1 x2 x3 x4 r : D} (h : ∀ S, zeh [.dat cs, .dat rl, .dat x0, .dat x1, .dat x2, .dat x3, .dat x4] S = .ok (.dat r) S) (S : zaf) : zef [.dat (.tup [.str "alike", cs, rl, x0, x1, x2, x3, x4])] S = .ok (.dat r) S := by
  have e_run : dEq (.str "alike") (.str "run") = some (.bl false) := by
    rw [strEq _ _ (by decide +kernel) (by decide +kernel), show (("alike" : Str) == "run") = false by decide +kernel]
  have e_alike : dEq (.str "alike") (.str "alike") = some (.bl true) := by
    rw [strEq _ _ (by decide +kernel) (by decide +kernel), show (("alike" : Str) == "alike") = true by decide +kernel]
  have i0 : dIx (.tup [.str "alike", cs, rl, x0, x1, x2, x3, x4]) (.int 0) = some (.str "alike") := rfl
  have sl : ∀ S, oSl (.dat (.tup [.str "alike", cs, rl, x0, x1, x2, x3, x4])) (some 1) none S = .ok (.dat (.tup [cs, rl, x0, x1, x2, x3, x4])) S := fun S => by rw [zfb]; rfl
  have ns : ∀ S, xNS 7 zeh (xVar 2) [some (.dat (.tup [.str "alike", cs, rl, x0, x1, x2, x3, x4])), some (.dat (.str "alike")), some (.dat (.tup [cs, rl, x0, x1, x2, x3, x4]))] S = .ok (.dat r) S := fun S => by
    simp only [xNS, zc4, List.getElem?_cons_zero, List.getElem?_cons_succ, Res.bind_ok, nsK, rd]
    exact h S
  unfold zef zjv
  simp! only [i0, sl, e_run, e_alike, ns]
theorem znb {cs rl : D} {x0 x1 x2 x3 x4 r : D} (h : ∀ S, zek [.dat cs, .dat rl, .dat x0, .dat x1, .dat x2, .dat x3, .dat x4] S = .ok (.dat r) S) (S : zaf) : zef [.dat (.tup [.str "parts", cs, rl, x0, x1, x2, x3, x4])] S = .ok (.dat r) S := by
  have e_run : dEq (.str "parts") (.str "run") = some (.bl false) := by
    rw [strEq _ _ (by decide +kernel) (by decide +kernel), show (("parts" : Str) == "run") = false by decide +kernel]
  have e_alike : dEq (.str "parts") (.str "alike") = some (.bl false) := by
    rw [strEq _ _ (by decide +kernel) (by decide +kernel), show (("parts" : Str) == "alike") = false by decide +kernel]
  have e_parts : dEq (.str "parts") (.str "parts") = some (.bl true) := by
    rw [strEq _ _ (by decide +kernel) (by decide +kernel), show (("parts" : Str) == "parts") = true by decide +kernel]
  have i0 : dIx (.tup [.str "parts", cs, rl, x0, x1, x2, x3, x4]) (.int 0) = some (.str "parts") := rfl
  have sl : ∀ S, oSl (.dat (.tup [.str "parts", cs, rl, x0, x1, x2, x3, x4])) (some 1) none S = .ok (.dat (.tup [cs, rl, x0, x1, x2, x3, x4])) S := fun S => by rw [zfb]; rfl
  have ns : ∀ S, xNS 7 zek (xVar 2) [some (.dat (.tup [.str "parts", cs, rl, x0, x1, x2, x3, x4])), some (.dat (.str "parts")), some (.dat (.tup [cs, rl, x0, x1, x2, x3, x4]))] S = .ok (.dat r) S := fun S => by
    simp only [xNS, zc4, List.getElem?_cons_zero, List.getElem?_cons_succ, Res.bind_ok, nsK, rd]
    exact h S
  unfold zef zjv
  simp! only [i0, sl, e_run, e_alike, e_parts, ns]
end T45
set_option maxHeartbeats 400000
namespace T45
open PySem PySem.Spec PyProof.Rows L2 DL
/-! ## certificates: the checker -/
theorem a_gget (D : List (Str × Int)) (f g : XFn) (ρ : zat) (S : zaf) : xGGet D f g ρ S = (f ρ S).bind fun x S1 => (g ρ S1).bind fun y S2 => zn6 D x y S2 := rfl
theorem zls {D : List (Str × Int)} {k : Str} {i : Int} (h : KTD.datumAt k D = some i) (y : DV) (S : zaf) : zn6 D (.dat (.str k)) y S = .ok (.dat (.int i)) S := by
  simp only [zn6, h]
theorem zlp {D : List (Str × Int)} {k : Str} (h : KTD.datumAt k D = none) (y : DV) (S : zaf) : zn6 D (.dat (.str k)) y S = .ok y S := by
  simp only [zn6, h]
def zks (k : Str) : Int := match KTD.datumAt k zfj with
  | some i => i
  | none => match KTD.datumAt k zbv with
    | some i => i
    | none => 0
theorem gget_v (k : Str) (S : zaf) : (zn6 zbv (.dat (.str k)) (.dat (.int 0)) S).bind (fun y S2 => zn6 zfj (.dat (.str k)) y S2) = .ok (.dat (.int (zks k))) S := by
  unfold zks
  cases h1 : KTD.datumAt k zfj with
  | some i =>
    cases h2 : KTD.datumAt k zbv with
    | some j => simp only [zls h2, Res.bind_ok, zls h1]
    | none => simp only [zlp h2, Res.bind_ok, zls h1]
  | none =>
    cases h2 : KTD.datumAt k zbv with
    | some j => simp only [zls h2, Res.bind_ok, zlp h1]
    | none => simp only [zlp h2, Res.bind_ok, zlp h1]
def verD (r : D) : D := bif r.isN then .tup [.str "right"] else .tup [.str "wrong", r]
section
variable {cD rD : D}
theorem check45_v {word : Str} {xs : List D} {m : Nat} (hf : D.fits m (.str word :: cD :: rD :: xs) = true) (q1 : ∀ S, zcp [.dat (cD), .dat (rD)] S = .ok (.dat .non) S) (hs : zks word = ((xs.length + 3 : Nat) : Int)) (hc : (word == "cover") = false) {r : D} (hw : ∀ S, zef [.dat (.tup (.str word :: cD :: rD :: xs))] S = .ok (.dat r) S) (S : zaf) :
    zkj [.dat (.tup (.str word :: cD :: rD :: xs))] S = .ok (.dat (verD r)) S := by
  have hok : PyData.strOk word = true := by
    have := fits_iff.mp hf (.str word) (by simp)
    cases m <;> exact this
  have e0 := dEq_unit (xs := .str word :: cD :: rD :: xs) hf
  have gv := gget_v word
  have i0 : dIx (.tup (.str word :: cD :: rD :: xs)) (.int 0) = some (.str word) := by
    rw [ze2, show (0 : Int) = ((0 : Nat) : Int) from rfl, zko D.non (by simp)]
    rfl
  have i1 : dIx (.tup (.str word :: cD :: rD :: xs)) (.int 1) = some (cD) := by
    rw [ze2, show (1 : Int) = ((1 : Nat) : Int) from rfl, zko D.non (by simp)]
    rfl
  have i2 : dIx (.tup (.str word :: cD :: rD :: xs)) (.int 2) = some (rD) := by
    rw [ze2, show (2 : Int) = ((2 : Nat) : Int) from rfl, zko D.non (by simp)]
    rfl
  have tt : (D.tup (.str word :: cD :: rD :: xs)).isT = true := rfl
  have ts : (D.str word).isS = true := rfl
  have ne : dNe (.int (zks word)) (.int ((xs.length + 1 + 1 + 1 : Nat) : Int)) = some (.bl false) := by
    have e : ((xs.length + 3 : Nat) : Int) = ((xs.length + 1 + 1 + 1 : Nat) : Int) := by omega
    rw [zju, hs, e]
    simp
  have cv := strEq word "cover" hok (by decide +kernel)
  rw [hc] at cv
  have g2 : ∀ ρ : zat, ρ = [some (.dat (.tup (.str word :: cD :: rD :: xs))), none] → ∀ S, xGGet zfj (x2 (o2 dIx) (xVar 0) (xC (.int 0))) (xGGet zbv (x2 (o2 dIx) (xVar 0) (xC (.int 0))) (xC (.int 0))) ρ S = .ok (.dat (.int (zks word))) S := fun ρ hρ S => by
    subst hρ
    have x0 : ∀ S, x2 (o2 dIx) (xVar 0) (xC (.int 0)) [some (.dat (.tup (.str word :: cD :: rD :: xs))), none] S = .ok (.dat (.str word)) S := fun S => by simp! only [i0]
    have := gv S
    simp only [a_gget, x0, Res.bind_ok, a_c]
    exact this
  have g2 := g2 _ rfl
  unfold zkj s_check verD
  cases hN : r.isN <;> simp! only [tt, e0, List.isEmpty_cons, i0, ts, g2, ne, i1, i2, q1, cv, hw, hN]
end
end T45
set_option maxHeartbeats 400000
namespace T45
open PySem PySem.Spec PyProof.Rows L2 DL
/-! ## the checker on the told papers -/
section
variable {cs : List D} {rs : List Rul} {t : Tab} {s : St45}
theorem free_mem {m : Nat} {st : List Nat} {c : Nat} : c ∈ freeC m st ↔ c < m ∧ c ∉ st := by
  unfold freeC
  rw [List.mem_filter, List.mem_range]
  simp
theorem free_len (m : Nat) (st : List Nat) : (freeC m st).length ≤ m := by
  have := List.length_filter_le (fun c => !decide (c ∈ st)) (List.range m)
  rw [List.length_range] at this
  exact this
theorem have_form_v (hm : cs.length ≤ 4) (S : zaf) : zer [.dat (.tup cs), .dat (sD s.2), .dat (gsD cs.length rs t s)] S = .ok (.dat (.bl true)) S := by
  have fl := free_len cs.length s.2
  have rg : ∀ S, rng1 [.dat (.int ((cs.length : Nat) : Int))] S = .ok ((List.range cs.length).map fun i => .int ((i : Nat) : Int)) S := fun S => zjk (ze3 (by omega)) S
  have zr : szB ((List.range cs.length).map fun i : Nat => D.int ((i : Nat) : Int)).length = true := zcu (by simp; omega)
  have lc1 := zhv (G := gNm 4) (t := tBl (x2 (o2 dNin) (xVar 4) (xVar 1))) (f := xVar 4) (ρ := [some (.dat (.tup cs)), some (.dat (sD s.2)), some (.dat (gsD cs.length rs t s)), none, none, none]) (S := S) (enc := fun i : Nat => D.int ((i : Nat) : Int)) (q := fun i : Nat => D.int ((i : Nat) : Int)) (p := fun c => !decide (c ∈ s.2)) (List.range cs.length) (fun c hc => ⟨_, rfl, by simp! only [zp4], fun _ => by simp! only []⟩)
  have lf : (List.range cs.length).filter (fun c => !decide (c ∈ s.2)) = freeC cs.length s.2 := rfl
  rw [lf] at lc1
  have tt : (gsD cs.length rs t s).isT = true := rfl
  have it : ∀ S, zes (.dat (gsD cs.length rs t s)) S = .ok ((freeC cs.length s.2).map (gE rs t s)) S := fun _ => rfl
  have zf : szB ((freeC cs.length s.2).map (gE rs t s)).length = true := zcu (by rw [List.length_map]; omega)
  have ln : ∀ c, dLen (gE rs t s c) = some (.int 2) := fun c => rfl
  have tg : ∀ c, (gE rs t s c).isT = true := fun c => rfl
  have g0 : ∀ c, dIx (gE rs t s c) (.int 0) = some (.int ((c : Nat) : Int)) := fun c => rfl
  have e2 : dEq (.int 2) (.int 2) = some (.bl true) := rfl
  have lc2 := zcv (G := gNm 5) (t := zcz) (f := xAnd (xIsi "tuple" (xVar 5)) (x2 (o2 dEq) (xN (o1 dLen) (zac (xVar 5) aNil)) (xC (.int 2)))) (ρ := [some (.dat (.tup cs)), some (.dat (sD s.2)), some (.dat (gsD cs.length rs t s)), some (.dat (.lst ((freeC cs.length s.2).map fun i : Nat => D.int ((i : Nat) : Int)))), none, none]) (S := S) (enc := gE rs t s) (q := fun _ => .bl true) (freeC cs.length s.2) (fun c hc => ⟨_, rfl, rfl, by simp! only [tg, ln, e2]⟩)
  have lc3 := zcv (G := gNm 5) (t := zcz) (f := x2 (o2 dIx) (xVar 5) (xC (.int 0))) (ρ := [some (.dat (.tup cs)), some (.dat (sD s.2)), some (.dat (gsD cs.length rs t s)), some (.dat (.lst ((freeC cs.length s.2).map fun i : Nat => D.int ((i : Nat) : Int)))), none, none]) (S := S) (enc := gE rs t s) (q := fun i => .int ((i : Nat) : Int)) (freeC cs.length s.2) (fun c hc => ⟨_, rfl, rfl, by simp! only [g0]⟩)
  have lc4 := zcv (G := gNm 5) (t := zcz) (f := xN zco (zac (x2 (o2 dIx) (xVar 5) (xC (.int 0))) aNil)) (ρ := [some (.dat (.tup cs)), some (.dat (sD s.2)), some (.dat (gsD cs.length rs t s)), some (.dat (.lst ((freeC cs.length s.2).map fun i : Nat => D.int ((i : Nat) : Int)))), none, none]) (S := S) (enc := gE rs t s) (q := fun _ => .bl true) (freeC cs.length s.2) (fun c hc => ⟨_, rfl, rfl, by
    have io : ∀ S, zco [.dat (.int ((c : Nat) : Int))] S = .ok (.dat (.bl true)) S := fun S => zhk (.int ((c : Nat) : Int)) S
    simp! only [g0, io]⟩)
  have al : dAll (.lst ((freeC cs.length s.2).map fun _ => D.bl true)) = some (.bl true) := by
    rw [zc6 (fun _ => true)]
    simp
  have de : dEq (.lst ((freeC cs.length s.2).map fun i : Nat => D.int ((i : Nat) : Int))) (.lst ((freeC cs.length s.2).map fun i : Nat => D.int ((i : Nat) : Int))) = some (.bl true) := by
    have e : ((freeC cs.length s.2).map fun i : Nat => D.int ((i : Nat) : Int)) = ((freeC cs.length s.2).map fun i : Nat => ((i : Nat) : Int)).map .int := by rw [List.map_map]; rfl
    rw [e, zng]
    simp
  unfold zer zit
  simp! only [rg, zr, lc1, tt, it, zf, lc2, al, lc3, de, lc4]
theorem are_guards_v (F : Fx cs rs t s) (np : NoP cs rs t s) (S : zaf) : zh7 [.dat (.tup cs), .dat (zao rs), .dat (tabD t), .dat (sD s.2), .dat (rowD (hEnd rs t none s).1), .dat (sD (hEnd rs t none s).2), .dat (gsD cs.length rs t s)] S = .ok (.dat (.bl true)) S := by
  have c4 := c4 F
  have fl := free_len cs.length s.2
  have it : ∀ S, zes (.dat (gsD cs.length rs t s)) S = .ok ((freeC cs.length s.2).map (gE rs t s)) S := fun _ => rfl
  have zf : szB ((freeC cs.length s.2).map (gE rs t s)).length = true := zcu (by rw [List.length_map]; omega)
  have g0 : ∀ c, dIx (gE rs t s c) (.int 0) = some (.int ((c : Nat) : Int)) := fun c => rfl
  have g1 : ∀ c, dIx (gE rs t s c) (.int 1) = some (sD (hEnd rs t (some c) s).2) := fun c => rfl
  have lc := zcv (G := gNm 7) (t := zcz) (f := xN zim (zac (xVar 0) (zac (xVar 1) (zac (xVar 2) (zac (xVar 3) (zac (xVar 4) (zac (xVar 5) (zac (x2 (o2 dIx) (xVar 7) (xC (.int 0))) (zac (x2 (o2 dIx) (xVar 7) (xC (.int 1))) aNil))))))))) (ρ := [some (.dat (.tup cs)), some (.dat (zao rs)), some (.dat (tabD t)), some (.dat (sD s.2)), some (.dat (rowD (hEnd rs t none s).1)), some (.dat (sD (hEnd rs t none s).2)), some (.dat (gsD cs.length rs t s)), none]) (S := S) (enc := gE rs t s) (q := fun _ => .bl true) (freeC cs.length s.2) (fun c hc => ⟨_, rfl, rfl, by
    obtain ⟨h1, h2⟩ := free_mem.mp hc
    have gv := fun S => is_guard_v F np h1 h2 S
    simp! only [g0, g1, gv]⟩)
  have al : dAll (.lst ((freeC cs.length s.2).map fun _ => D.bl true)) = some (.bl true) := by
    rw [zc6 (fun _ => true)]
    simp
  unfold zh7 zmc
  simp! only [it, zf, lc, al]
theorem zpz (F : Fx cs rs t s) (np : NoP cs rs t s) (S : zaf) : zeh [.dat (.tup cs), .dat (zao rs), .dat (tabD t), .dat (rowD s.1), .dat (sD s.2), .dat (lsD (runH rs t none 4 s)), .dat (gsD cs.length rs t s)] S = .ok (.dat .non) S := by
  have cf := fun S => zn0 F S
  have w := (zbq (rs := rs) (t := t) none 4 s).1
  have io := fun S => zkh F w (zoo (zkm F none)) S
  have hf := fun S => have_form_v (rs := rs) (t := t) (s := s) (c4 F) S
  have ds := fun S => zhr F w S
  have eh : endL s (runH rs t none 4 s) = hEnd rs t none s := rfl
  rw [eh] at ds
  have ag := fun S => are_guards_v F np S
  have e1 : ∀ ρ (a b : D), gTp (gCo (gNm 8) (gCo (gNm 9) gNo)) (.tup [a, b]) ρ = some ((ρ.set 8 (some (.dat a))).set 9 (some (.dat b))) := fun _ _ _ => rfl
  have n0 : D.non.isN = true := rfl
  unfold zeh zk9
  simp! only [cf, n0, io, hf, ds, e1, ag]
theorem goP_walk (F : Fx cs rs t s) {ls : List (List Int)} (w : Walk rs t s ls) : Walk rs t s (goP rs t s ls) ∧ ∀ l, l ∉ stp rs t (endL s (goP rs t s ls)) := by
  unfold goP
  refine ⟨walk_app.mpr ⟨w, (zbq none 4 _).1⟩, ?_⟩
  rw [zl5]
  exact zoo (zkm (zem F w) none)
theorem zp2 (F : Fx cs rs t s) {p : List (List Int) × List (List Int)} (h : zki cs.length rs t s = some p) (S : zaf) : zek [.dat (.tup cs), .dat (zao rs), .dat (tabD t), .dat (rowD s.1), .dat (sD s.2), .dat (lsD (goP rs t s p.1)), .dat (lsD (goP rs t s p.2))] S = .ok (.dat .non) S := by
  obtain ⟨c, a, b, ha, hb, ec, nv, rfl⟩ := find_some h
  have cf := fun S => zn0 F S
  have w1 := zk1 F ha
  have w2 := zk1 F hb
  obtain ⟨g1, m1⟩ := goP_walk F w1
  obtain ⟨g2, m2⟩ := goP_walk F w2
  have i1 := fun S => zkh F g1 m1 S
  have i2 := fun S => zkh F g2 m2 S
  have l1 : ∀ x : List Int, (goP rs t s (runH rs t (some c) 4 s ++ [x])).length ≤ 10 := fun x => by
    have h1 := zld (rs := rs) (t := t) (some c) 4 s
    have h2 := zld (rs := rs) (t := t) none 4 (endL s (runH rs t (some c) 4 s ++ [x]))
    unfold goP
    simp
    omega
  have dp := fun S => do_part_v g1 g2 (l1 a) (l1 b) (show a ∈ goP rs t s (runH rs t (some c) 4 s ++ [a]) by unfold goP; simp) (show b ∈ goP rs t s (runH rs t (some c) 4 s ++ [b]) by unfold goP; simp) ec nv S
  have n0 : D.non.isN = true := rfl
  have it : ∀ x y S, zes (.dat (.tup [x, y])) S = .ok [x, y] S := fun _ _ _ => rfl
  have lc := fun S z7 => zcv (G := gNm 8) (t := zcz) (f := xN zfy (zac (xVar 1) (zac (xVar 2) (zac (xVar 3) (zac (xVar 4) (zac (xVar 8) aNil)))))) (ρ := [some (.dat (.tup cs)), some (.dat (zao rs)), some (.dat (tabD t)), some (.dat (rowD s.1)), some (.dat (sD s.2)), some (.dat (lsD (goP rs t s (runH rs t (some c) 4 s ++ [a])))), some (.dat (lsD (goP rs t s (runH rs t (some c) 4 s ++ [b])))), z7, none]) (S := S) (enc := lsD) (q := fun _ => .bl true) [goP rs t s (runH rs t (some c) 4 s ++ [a]), goP rs t s (runH rs t (some c) 4 s ++ [b])] (by
    intro ls hls
    rcases List.mem_cons.mp hls with rfl | hls
    · exact ⟨_, rfl, rfl, by simp! only [i1]⟩
    · rw [List.mem_singleton] at hls
      subst hls
      exact ⟨_, rfl, rfl, by simp! only [i2]⟩)
  simp only [List.map_cons, List.map_nil] at lc
  have al : dAll (.lst [.bl true, .bl true]) = some (.bl true) := rfl
  have z2 : szB 2 = true := by decide
  unfold zek zlh
  simp! only [cf, n0, it, lc, al, dp]
/-! ### the certificates -/
theorem fit_e (n : Nat) (p : Ent) : (eD p).fit (n + 1) = true := by
  show D.fits n [.int ((p.1 : Nat) : Int), oD p.2] = true
  refine fits_iff.mpr fun x hx => ?_
  simp only [List.mem_cons, List.not_mem_nil, or_false] at hx
  rcases hx with rfl | rfl
  · cases n <;> rfl
  · cases p.2 <;> cases n <;> rfl
theorem fit_g (n : Nat) (g : Giv) : (gD g).fit (n + 2) = true := by
  show D.fits (n + 1) (g.map eD) = true
  refine fits_iff.mpr fun x hx => ?_
  obtain ⟨p, _, rfl⟩ := List.mem_map.mp hx
  exact fit_e n p
theorem fit_ruls (rs : List Rul) : (zao rs).fit 4 = true := by
  show D.fits 3 (rs.map rulD) = true
  refine fits_iff.mpr fun x hx => ?_
  obtain ⟨r, _, rfl⟩ := List.mem_map.mp hx
  show D.fits 2 [gD r.g, .int ((r.c : Nat) : Int), oD r.w] = true
  refine fits_iff.mpr fun x hx => ?_
  simp only [List.mem_cons, List.not_mem_nil, or_false] at hx
  rcases hx with rfl | rfl | rfl
  · exact fit_g 0 r.g
  · rfl
  · cases r.w <;> rfl
theorem zmb (n : Nat) (r : Row) : (rowD r).fit (n + 1) = true := by
  show D.fits n (r.map .int) = true
  simp only [ze0]
theorem fit_tab (t : Tab) : (tabD t).fit 4 = true := by
  show D.fits 3 (t.map rowD) = true
  refine fits_iff.mpr fun x hx => ?_
  obtain ⟨r, _, rfl⟩ := List.mem_map.mp hx
  exact zmb 2 r
theorem zpf (n : Nat) (st : List Nat) : (sD st).fit (n + 1) = true := zp9 n st
theorem fit_lsD (L : List (List Int)) : (lsD L).fit 4 = true := by
  show D.fits 3 (L.map tD) = true
  exact fits_iff.mpr fun x hx => by obtain ⟨l, _, rfl⟩ := List.mem_map.mp hx; simp only [tD, D.fit, ze0]
theorem fit_gsD (m : Nat) (rs : List Rul) (t : Tab) (s : St45) : (gsD m rs t s).fit 4 = true := by
  show D.fits 3 ((freeC m s.2).map (gE rs t s)) = true
  refine fits_iff.mpr fun x hx => ?_
  obtain ⟨c, _, rfl⟩ := List.mem_map.mp hx
  show D.fits 2 [.int ((c : Nat) : Int), sD (hEnd rs t (some c) s).2] = true
  refine fits_iff.mpr fun x hx => ?_
  simp only [List.mem_cons, List.not_mem_nil, or_false] at hx
  rcases hx with rfl | rfl
  · rfl
  · exact zpf 1 _
theorem fit_cols {cs : List D} (h : ∀ c ∈ cs, zhz c = true) : (D.tup cs).fit 4 = true := by
  show D.fits 3 cs = true
  refine fits_iff.mpr fun c hc => ?_
  rcases zkl (h c hc) with e | ⟨ms, e, _⟩
  · rw [e]; rfl
  · rw [e]
    simp only [D.fit, ze0]
theorem zqu (F : Fx cs rs t s) (np : NoP cs rs t s) (S : zaf) : zkj [.dat (.tup [.str "alike", .tup cs, zao rs, tabD t, rowD s.1, sD s.2, lsD (runH rs t none 4 s), gsD cs.length rs t s])] S = .ok (.dat (.tup [.str "right"])) S := by
  obtain ⟨f1, f2, _⟩ := Fix.rules F
  obtain ⟨_, c2, c3⟩ := Fix.c4 F
  have rq : ∀ S, zcp [.dat (.tup cs), .dat (zao rs)] S = .ok (.dat .non) S := fun S => by
    have := zhh (.tup cs) (zao rs) f2 S
    rw [F.hc, show ze9 (.tup cs) = cs from rfl, f1] at this
    exact this
  have := check45_v (word := "alike") (cD := .tup cs) (rD := zao rs) (xs := [tabD t, rowD s.1, sD s.2, lsD (runH rs t none 4 s), gsD cs.length rs t s]) (m := 4) (fits_iff.mpr fun x hx => by
    simp only [List.mem_cons, List.not_mem_nil, or_false] at hx
    rcases hx with rfl | rfl | rfl | rfl | rfl | rfl | rfl | rfl
    · rw [D.fit]; decide +kernel
    · exact fit_cols c3
    · exact fit_ruls rs
    · exact fit_tab t
    · exact zmb 3 s.1
    · exact zpf 3 s.2
    · exact fit_lsD _
    · exact fit_gsD _ rs t s) rq (show zks "alike" = 8 by decide +kernel) (by decide +kernel) (r := .non) (fun S => zm2 (fun S => zpz F np S) S) S
  exact this
theorem zp1 (F : Fx cs rs t s) {p : List (List Int) × List (List Int)} (h : zki cs.length rs t s = some p) (S : zaf) : zkj [.dat (.tup [.str "parts", .tup cs, zao rs, tabD t, rowD s.1, sD s.2, lsD (goP rs t s p.1), lsD (goP rs t s p.2)])] S = .ok (.dat (.tup [.str "right"])) S := by
  obtain ⟨f1, f2, _⟩ := Fix.rules F
  obtain ⟨_, c2, c3⟩ := Fix.c4 F
  have rq : ∀ S, zcp [.dat (.tup cs), .dat (zao rs)] S = .ok (.dat .non) S := fun S => by
    have := zhh (.tup cs) (zao rs) f2 S
    rw [F.hc, show ze9 (.tup cs) = cs from rfl, f1] at this
    exact this
  have := check45_v (word := "parts") (cD := .tup cs) (rD := zao rs) (xs := [tabD t, rowD s.1, sD s.2, lsD (goP rs t s p.1), lsD (goP rs t s p.2)]) (m := 4) (fits_iff.mpr fun x hx => by
    simp only [List.mem_cons, List.not_mem_nil, or_false] at hx
    rcases hx with rfl | rfl | rfl | rfl | rfl | rfl | rfl | rfl
    · rw [D.fit]; decide +kernel
    · exact fit_cols c3
    · exact fit_ruls rs
    · exact fit_tab t
    · exact zmb 3 s.1
    · exact zpf 3 s.2
    · exact fit_lsD _
    · exact fit_lsD _) rq (show zks "parts" = 8 by decide +kernel) (by decide +kernel) (r := .non) (fun S => znb (fun S => zp2 F h S) S) S
  exact this
end
end T45
set_option maxHeartbeats 400000
namespace T45
open PySem PySem.Spec PyProof.Rows L2 DL
/-! ## the law's walk in a drawn order -/
section
variable {cs : List D} {rs : List Rul} {t : Tab} {s : St45}
theorem zky {n : Nat} {x : D} (hf : x.fit n = true) (hb : x.noB = true) (hn : n ≤ 64 := by decide) : dNe x x = some (.bl false) := dNe_p (p := true) hf hf hb hb (by simp) hn
theorem dEq_self {n : Nat} {x : D} (hf : x.fit n = true) (hb : x.noB = true) (hn : n ≤ 64 := by decide) : dEq x x = some (.bl true) := dEq_p (p := true) hf hf hb hb (by simp) hn
theorem step_adds (F : Fx cs rs t s) {l : List Int} (h : l ∈ stp rs t s) :
    dAdd (.tup ((s.1.map D.int).take (zap l))) (.tup [.int (zbt l)]) = some (.tup ((s.1.map D.int).take (zap l) ++ [.int (zbt l)])) ∧
    dAdd (.tup ((s.1.map D.int).take (zap l) ++ [.int (zbt l)])) (.tup ((s.1.map D.int).drop (zap l + 1))) = some (rowD (goL s l).1) ∧
    dAdd (sD s.2) (.tup [.int ((zap l : Nat) : Int)]) = some (.tup (((s.2 ++ [zap l]).map fun i => ((i : Nat) : Int)).map .int)) ∧
    (∀ S, zjf (.dat (.tup (((s.2 ++ [zap l]).map fun i => ((i : Nat) : Int)).map .int))) S = .ok (((goL s l).2.map fun i => D.int ((i : Nat) : Int))) S) := by
  obtain ⟨hc, hn, _⟩ := zct F h
  obtain ⟨a1, _, _⟩ := addS_ok (zap l) s.2 hn (Fix.inc F)
  have hl := F.len
  have c4 := c4 F
  have ls := Fix.stl (show Fix cs rs t s.1 s.2 from F)
  refine ⟨?_, ?_, ?_, fun S => ?_⟩
  · rw [zjx, zcu (by simp; omega)]; rfl
  · rw [zjx, zcu (by simp; omega), set_cut s.1 (zap l) (zbt l) (by omega)]; rfl
  · rw [sD, zjx, zcu (by simp; omega)]
    simp
  · have : ((addS (zap l) s.2).map fun i => ((i : Nat) : Int)).map D.int = (addS (zap l) s.2).map fun i => D.int ((i : Nat) : Int) := by simp
    show _ = Res.ok ((addS (zap l) s.2).map fun i => D.int ((i : Nat) : Int)) S
    rw [← this]
    simp only [zjf, rd, zd6, a1]
theorem a_srt45 (f : XFn) (ρ : zat) (S : zaf) : zkk f ρ S = (f ρ S).bind zjf := rfl
theorem walk_body (F : Fx cs rs t s) {l : List Int} (h : l ∈ stp rs t s) (z0 z1 z2 z3 z6 z7 z8 : Option DV) (S : zaf) :
    sSeq (sSet 4 (x2 (o2 dAdd) (x2 (o2 dAdd) (xSl (xVar 4) pNo (pEx (xVar 9))) (xTup (zac (xVar 10) aNil))) (xSl (xVar 4) (pEx (x2 (o2 dAdd) (xVar 9) (xC (.int 1)))) pNo))) (sSet 5 (xN (o1 ziv) (zac (xN1 (zkk (x2 (o2 dAdd) (xVar 5) (xTup (zac (xVar 9) aNil))))) aNil))) [z0, z1, z2, z3, some (.dat (rowD s.1)), some (.dat (sD s.2)), z6, z7, z8, some (.dat (.int ((zap l : Nat) : Int))), some (.dat (.int (zbt l)))] S = .nx [z0, z1, z2, z3, some (.dat (rowD (goL s l).1)), some (.dat (sD (goL s l).2)), z6, z7, z8, some (.dat (.int ((zap l : Nat) : Int))), some (.dat (.int (zbt l)))] S := by
  obtain ⟨s1, s2, s3, s4⟩ := step_adds F h
  have sd : D.tup ((goL s l).2.map fun i => D.int ((i : Nat) : Int)) = sD (goL s l).2 := rfl
  have rd0 : rowD s.1 = .tup (s.1.map .int) := rfl
  rw [rd0]
  simp! only [cut_to, zlz, s1, s2, s3, a_srt45, s4, sd]
theorem law_walk_v (F : Fx cs rs t s) (np : NoP cs rs t s) {n : Nat} {T S : zaf} (h : Pen n T S) (hn : n + 5 ≤ LIM) : ∃ S1, zh8 [.obj 0, .dat (.tup cs), .dat (zao rs), .dat (tabD t), .dat (rowD s.1), .dat (sD s.2)] S = .ok (.dat (.tup [rowD (hEnd rs t none s).1, sD (hEnd rs t none s).2])) S1 ∧ Pen (n + 5) T S1 := by
  obtain ⟨ρ', S', e, ls, z6, z7, z8, z9, z10, w, rfl, hp, pr⟩ := zix (enc := fun i : Nat => D.int ((i : Nat) : Int)) (G := gNm 6) (f := zeb) (fun pre ρ S' => ∃ ls z6 z7 z8 z9 z10, Walk rs t s ls ∧ ρ = [some (.obj 0), some (.dat (.tup cs)), some (.dat (zao rs)), some (.dat (tabD t)), some (.dat (rowD (endL s ls).1)), some (.dat (sD (endL s ls).2)), z6, z7, z8, z9, z10] ∧ Pen (n + pre.length) T S' ∧ (stp rs t (endL s ls) = [] ∨ pre.length + s.2.length ≤ (endL s ls).2.length)) (List.range 5) [] [some (.obj 0), some (.dat (.tup cs)), some (.dat (zao rs)), some (.dat (tabD t)), some (.dat (rowD s.1)), some (.dat (sD s.2)), none, none, none, none, none] S ⟨[], _, _, _, _, _, trivial, rfl, h, .inr (by simp [endL])⟩ (by
    rintro pre i post ρ S' hpp ⟨ls, z6, z7, z8, z9, z10, w, rfl, hp, pr⟩
    have ll := congrArg List.length (show List.range 5 = pre ++ i :: post by simpa using hpp)
    simp at ll
    have Fl := zem F w
    have nv := fun S => next_steps_v Fl S
    have ne := lsD_ne (zc8 (stp rs t (endL s ls)))
    cases q : zc8 (stp rs t (endL s ls)) with
    | nil =>
      rw [q] at nv ne
      refine ⟨_, [some (.obj 0), some (.dat (.tup cs)), some (.dat (zao rs)), some (.dat (tabD t)), some (.dat (rowD (endL s ls).1)), some (.dat (sD (endL s ls).2)), some (.dat (.int ((i : Nat) : Int))), some (.dat (.lst [])), z8, z9, z10], S', rfl, .inl ?_, ls, _, _, _, _, _, w, rfl, hp.mono (by simp), .inl ?_⟩
      · show zeb [some (.obj 0), some (.dat (.tup cs)), some (.dat (zao rs)), some (.dat (tabD t)), some (.dat (rowD (endL s ls).1)), some (.dat (sD (endL s ls).2)), some (.dat (.int ((i : Nat) : Int))), z7, z8, z9, z10] S' = _
        unfold zeb
        simp only [List.map_nil, List.isEmpty_nil] at nv ne
        simp! only [nv, ne]
      · refine List.eq_nil_iff_forall_not_mem.mpr fun x hx => ?_
        have := (zc5 _ _).mpr hx
        rw [q] at this
        cases this
    | cons x L =>
      have few := zqs Fl
      obtain ⟨y, S1, e1, p1, hy⟩ := zmx hp (by have l_ : LIM = 2147483648 := rfl; omega) ((zc8 (stp rs t (endL s ls))).map tD) (by rw [q]; simp) (by rw [List.length_map]; omega) _ (.inl rfl)
      obtain ⟨l, hl, rfl⟩ := List.mem_map.mp hy
      have hl := (zc5 _ _).mp hl
      obtain ⟨k, el⟩ := zpj hl
      have F2 := (zct Fl hl).2.2
      have wb := fun z7 z8 => walk_body Fl hl (some (.obj 0)) (some (.dat (.tup cs))) (some (.dat (zao rs))) (some (.dat (tabD t))) (some (.dat (.int ((i : Nat) : Int)))) z7 z8 S1
      have g1 : ∀ ρ, gTp (gCo (gNm 8) (gCo (gNm 9) (gCo (gNm 10) gNo))) (tD l) ρ = some (((ρ.set 8 (some (.dat (.int ((k : Nat) : Int))))).set 9 (some (.dat (.int ((zap l : Nat) : Int))))).set 10 (some (.dat (.int (zbt l))))) := fun ρ => by rw [el]; rfl
      have w2 : Walk rs t s (ls ++ [l]) := walk_app.mpr ⟨w, hl, trivial⟩
      have e2 : endL s (ls ++ [l]) = goL (endL s ls) l := by rw [zl5]; rfl
      have gl : (goL (endL s ls) l).2.length = (endL s ls).2.length + 1 := zl_ _ _
      rw [q] at nv ne
      refine ⟨_, [some (.obj 0), some (.dat (.tup cs)), some (.dat (zao rs)), some (.dat (tabD t)), some (.dat (rowD (goL (endL s ls) l).1)), some (.dat (sD (goL (endL s ls) l).2)), some (.dat (.int ((i : Nat) : Int))), some (.dat (.lst ((x :: L).map tD))), some (.dat (.int ((k : Nat) : Int))), some (.dat (.int ((zap l : Nat) : Int))), some (.dat (.int (zbt l)))], S1, rfl, .inl ?_, ls ++ [l], _, _, _, _, _, w2, by rw [e2], p1.mono (by simp; omega), ?_⟩
      · show zeb [some (.obj 0), some (.dat (.tup cs)), some (.dat (zao rs)), some (.dat (tabD t)), some (.dat (rowD (endL s ls).1)), some (.dat (sD (endL s ls).2)), some (.dat (.int ((i : Nat) : Int))), z7, z8, z9, z10] S' = _
        rw [q] at e1
        have wb := wb (some (.dat (.lst ((x :: L).map tD)))) (some (.dat (.int ((k : Nat) : Int))))
        unfold zeb
        generalize (x :: L).map tD = X at *
        simp only [List.isEmpty_cons] at ne
        rw [zec, show sSet 7 (xN zha (zac (xVar 1) (zac (xVar 2) (zac (xVar 3) (zac (xVar 4) (zac (xVar 5) aNil)))))) [some (.obj 0), some (.dat (.tup cs)), some (.dat (zao rs)), some (.dat (tabD t)), some (.dat (rowD (endL s ls).1)), some (.dat (sD (endL s ls).2)), some (.dat (.int ((i : Nat) : Int))), z7, z8, z9, z10] S' = .nx [some (.obj 0), some (.dat (.tup cs)), some (.dat (zao rs)), some (.dat (tabD t)), some (.dat (rowD (endL s ls).1)), some (.dat (sD (endL s ls).2)), some (.dat (.int ((i : Nat) : Int))), some (.dat (.lst X)), z8, z9, z10] S' by simp! only [nv], zcm]
        rw [zfr, show tBl (x2 (o2 dNe) (xVar 7) (xLst aNil)) [some (.obj 0), some (.dat (.tup cs)), some (.dat (zao rs)), some (.dat (tabD t)), some (.dat (rowD (endL s ls).1)), some (.dat (sD (endL s ls).2)), some (.dat (.int ((i : Nat) : Int))), some (.dat (.lst X)), z8, z9, z10] S' = .ok true S' by simp! only [ne], Res.bindS_ok, cond_true]
        rw [zec, show sTg (gTp (gCo (gNm 8) (gCo (gNm 9) (gCo (gNm 10) gNo)))) (xN zcs (zac (xVar 0) (zac (xVar 7) aNil))) [some (.obj 0), some (.dat (.tup cs)), some (.dat (zao rs)), some (.dat (tabD t)), some (.dat (rowD (endL s ls).1)), some (.dat (sD (endL s ls).2)), some (.dat (.int ((i : Nat) : Int))), some (.dat (.lst X)), z8, z9, z10] S' = .nx [some (.obj 0), some (.dat (.tup cs)), some (.dat (zao rs)), some (.dat (tabD t)), some (.dat (rowD (endL s ls).1)), some (.dat (sD (endL s ls).2)), some (.dat (.int ((i : Nat) : Int))), some (.dat (.lst X)), some (.dat (.int ((k : Nat) : Int))), some (.dat (.int ((zap l : Nat) : Int))), some (.dat (.int (zbt l)))] S1 by simp! only [e1, g1], zcm, wb]
      · rcases pr with pr | pr
        · rw [pr] at hl; cases hl
        · right
          rw [e2, gl]
          simp
          omega)
  simp only [List.nil_append, List.length_range] at e hp pr
  have Fl := zem F w
  have st0 : stp rs t (endL s ls) = [] := by
    rcases pr with pr | pr
    · exact pr
    · have := Fix.stl (show Fix cs rs t (endL s ls).1 (endL s ls).2 from Fl)
      have := c4 F
      omega
  have ee := max_end F np w fun l hl => by rw [st0] at hl; cases hl
  rw [ee] at e
  refine ⟨S', ?_, hp⟩
  have rg : rng1 [.dat (.int 5)] S = .ok ((List.range 5).map fun i => .int ((i : Nat) : Int)) S := zjk (n := 5) (ze3 (by decide)) S
  have tk : S.length = S'.length := by rw [h.len, hp.len]
  unfold zh8 zmv
  simp! only [rg, e]
  rw [tk]
  simp! only []
theorem zmt : ∀ (ls : List (List Int)) {s : St45} (F : Fx cs rs t s), Walk rs t s ls → ∀ (z2 z3 z4 z5 : Option DV) (S : zaf), ∃ y3 y4 y5, zez (gTp (gCo (gNm 3) (gCo (gNm 4) (gCo (gNm 5) gNo)))) zhm (ls.map tD) [some (.dat (rowD s.1)), some (.dat (sD s.2)), z2, z3, z4, z5] S = .nx [some (.dat (rowD (endL s ls).1)), some (.dat (sD (endL s ls).2)), z2, y3, y4, y5] S
  | [], s, _, _, z2, z3, z4, z5, S => ⟨z3, z4, z5, rfl⟩
  | l :: ls, s, F, w, z2, z3, z4, z5, S => by
    obtain ⟨k, el⟩ := zpj w.1
    obtain ⟨y3, y4, y5, e⟩ := zmt ls (zct F w.1).2.2 w.2 z2 (some (.dat (.int ((k : Nat) : Int)))) (some (.dat (.int ((zap l : Nat) : Int)))) (some (.dat (.int (zbt l)))) S
    refine ⟨y3, y4, y5, ?_⟩
    obtain ⟨s1, s2, s3, s4⟩ := step_adds F w.1
    have sd : D.tup ((goL s l).2.map fun i => D.int ((i : Nat) : Int)) = sD (goL s l).2 := rfl
    have rd0 : rowD s.1 = .tup (s.1.map .int) := rfl
    have g1 : gTp (gCo (gNm 3) (gCo (gNm 4) (gCo (gNm 5) gNo))) (tD l) [some (.dat (rowD s.1)), some (.dat (sD s.2)), z2, z3, z4, z5] = some [some (.dat (rowD s.1)), some (.dat (sD s.2)), z2, some (.dat (.int ((k : Nat) : Int))), some (.dat (.int ((zap l : Nat) : Int))), some (.dat (.int (zbt l)))] := by rw [el]; rfl
    have st : zhm [some (.dat (rowD s.1)), some (.dat (sD s.2)), z2, some (.dat (.int ((k : Nat) : Int))), some (.dat (.int ((zap l : Nat) : Int))), some (.dat (.int (zbt l)))] S = .nx [some (.dat (rowD (goL s l).1)), some (.dat (sD (goL s l).2)), z2, some (.dat (.int ((k : Nat) : Int))), some (.dat (.int ((zap l : Nat) : Int))), some (.dat (.int (zbt l)))] S := by
      unfold zhm
      rw [rd0]
      simp! only [cut_to, zlz, s1, s2, s3, a_srt45, s4, sd]
    rw [List.map_cons, zgn g1, st, zpp, e]
    rfl
theorem law_end_v (F : Fx cs rs t s) {ls : List (List Int)} (w : Walk rs t s ls) (S : zaf) : zi5 [.dat (rowD s.1), .dat (sD s.2), .dat (lsD ls)] S = .ok (.dat (.tup [rowD (endL s ls).1, sD (endL s ls).2])) S := by
  obtain ⟨y3, y4, y5, e⟩ := zmt ls F w (some (.dat (lsD ls))) none none none S
  have it : zes (.dat (lsD ls)) S = .ok (ls.map tD) S := rfl
  unfold zi5 znx
  simp! only [it, e]
end
end T45
set_option maxHeartbeats 400000
namespace T45
open PySem PySem.Spec PyProof.Rows L2 DL
/-! ## `_law_fixed_right` and a turn of the law -/
section
variable {cs : List D} {rs : List Rul} {t : Tab} {s : St45}
theorem stuck_run (h : ∀ l, l ∉ stp rs t s) (held : Option Nat) : runH rs t held 4 s = [] ∧ hEnd rs t held s = s := by
  have e : zev rs t held s = [] := List.eq_nil_iff_forall_not_mem.mpr fun x hx => h x (mem_possH.mp hx).1
  have r : runH rs t held 4 s = [] := by
    show (match zev rs t held s with
      | [] => []
      | l :: _ => l :: runH rs t held 3 (goL s l)) = _
    rw [e]
  exact ⟨r, by unfold hEnd; rw [r]; rfl⟩
theorem stuck_fix (h : ∀ l, l ∉ stp rs t s) (m : Nat) (hm : cs.length = m) : fixD m rs t s = .tup [.str "fixed", rowD s.1, sD s.2, gsD m rs t s] := by
  have np : NoP cs rs t s := fun c _ a ha _ _ _ _ => by
    rw [(stuck_run h (some c)).2] at ha
    exact absurd ha (h a)
  have f := nop_find.mpr np
  rw [hm] at f
  unfold fixD
  rw [f, (stuck_run h none).2]
theorem fit_two (a b : D) (n : Nat) (ha : a.fit n = true) (hb : b.fit n = true) : (D.tup [a, b]).fit (n + 1) = true := by
  show D.fits n [a, b] = true
  refine fits_iff.mpr fun x hx => ?_
  simp only [List.mem_cons, List.not_mem_nil, or_false] at hx
  rcases hx with rfl | rfl
  · exact ha
  · exact hb
theorem noB_row (r : Row) : (rowD r).noB = true := by
  show D.noBs (r.map .int) = true
  exact noBs_iff.mpr fun y hy => by obtain ⟨i, _, rfl⟩ := List.mem_map.mp hy; rfl
theorem noB_sD (st : List Nat) : (sD st).noB = true := by
  show D.noBs (st.map fun i => .int ((i : Nat) : Int)) = true
  exact noBs_iff.mpr fun y hy => by obtain ⟨i, _, rfl⟩ := List.mem_map.mp hy; rfl
theorem end_ne (E : St45) : dNe (.tup [rowD E.1, sD E.2]) (.tup [rowD E.1, sD E.2]) = some (.bl false) := by
  refine zky (n := 2) (fit_two _ _ 1 (zmb 0 _) (zpf 0 _)) ?_
  show D.noBs [rowD E.1, sD E.2] = true
  refine noBs_iff.mpr fun x hx => ?_
  simp only [List.mem_cons, List.not_mem_nil, or_false] at hx
  rcases hx with rfl | rfl
  · exact noB_row _
  · exact noB_sD _
theorem three_ne (E : St45) : dNe (.tup [.str "fixed", rowD E.1, sD E.2]) (.tup [.str "fixed", rowD E.1, sD E.2]) = some (.bl false) := by
  refine zky (n := 2) ?_ ?_
  · show D.fits 1 [.str "fixed", rowD E.1, sD E.2] = true
    refine fits_iff.mpr fun x hx => ?_
    simp only [List.mem_cons, List.not_mem_nil, or_false] at hx
    rcases hx with rfl | rfl | rfl
    · rw [D.fit]; decide +kernel
    · exact zmb 0 _
    · exact zpf 0 _
  · show D.noBs [.str "fixed", rowD E.1, sD E.2] = true
    refine noBs_iff.mpr fun x hx => ?_
    simp only [List.mem_cons, List.not_mem_nil, or_false] at hx
    rcases hx with rfl | rfl | rfl
    · rfl
    · exact noB_row _
    · exact noB_sD _
theorem right_ne : dNe (.tup [.str "right"]) (.tup [.str "right"]) = some (.bl false) := by
  refine zky (n := 1) ?_ rfl
  show D.fits 0 [.str "right"] = true
  refine fits_iff.mpr fun x hx => ?_
  simp only [List.mem_cons, List.not_mem_nil, or_false] at hx
  subst hx
  rw [D.fit]; decide +kernel
def zii (cs : List D) (rs : List Rul) (t : Tab) (s : St45) : D := .tup [.tup cs, zao rs, tabD t, rowD s.1, sD s.2]
theorem walk3 (F : Fx cs rs t s) (np : NoP cs rs t s) {n : Nat} {T S : zaf} (h : Pen n T S) (hn : n + 15 ≤ LIM) (z1 z2 z3 z4 z5 z6 z13 : Option DV) : ∃ y6 S', zez (gNm 6) zcn ((List.range 3).map fun i => .int ((i : Nat) : Int)) [some (.obj 0), z1, z2, z3, z4, z5, z6, some (.dat (.tup cs)), some (.dat (zao rs)), some (.dat (tabD t)), some (.dat (rowD s.1)), some (.dat (sD s.2)), some (.dat (.tup [rowD (hEnd rs t none s).1, sD (hEnd rs t none s).2])), z13] S = .nx [some (.obj 0), z1, z2, z3, z4, z5, y6, some (.dat (.tup cs)), some (.dat (zao rs)), some (.dat (tabD t)), some (.dat (rowD s.1)), some (.dat (sD s.2)), some (.dat (.tup [rowD (hEnd rs t none s).1, sD (hEnd rs t none s).2])), z13] S' ∧ Pen (n + 15) T S' := by
  obtain ⟨ρ', S', e, y6, rfl, hp⟩ := zix (enc := fun i : Nat => D.int ((i : Nat) : Int)) (G := gNm 6) (f := zcn) (fun pre ρ S' => ∃ y6, ρ = [some (.obj 0), z1, z2, z3, z4, z5, y6, some (.dat (.tup cs)), some (.dat (zao rs)), some (.dat (tabD t)), some (.dat (rowD s.1)), some (.dat (sD s.2)), some (.dat (.tup [rowD (hEnd rs t none s).1, sD (hEnd rs t none s).2])), z13] ∧ Pen (n + 5 * pre.length) T S') (List.range 3) [] [some (.obj 0), z1, z2, z3, z4, z5, z6, some (.dat (.tup cs)), some (.dat (zao rs)), some (.dat (tabD t)), some (.dat (rowD s.1)), some (.dat (sD s.2)), some (.dat (.tup [rowD (hEnd rs t none s).1, sD (hEnd rs t none s).2])), z13] S ⟨_, rfl, h⟩ (by
    rintro pre i post ρ S' hpp ⟨y6, rfl, hp⟩
    have ll := congrArg List.length (show List.range 3 = pre ++ i :: post by simpa using hpp)
    simp at ll
    obtain ⟨S1, e1, p1⟩ := law_walk_v F np hp (by have l_ : LIM = 2147483648 := rfl; omega)
    have ne := end_ne (hEnd rs t none s)
    refine ⟨_, [some (.obj 0), z1, z2, z3, z4, z5, some (.dat (.int ((i : Nat) : Int))), some (.dat (.tup cs)), some (.dat (zao rs)), some (.dat (tabD t)), some (.dat (rowD s.1)), some (.dat (sD s.2)), some (.dat (.tup [rowD (hEnd rs t none s).1, sD (hEnd rs t none s).2])), z13], S1, rfl, .inl ?_, _, rfl, p1.mono (by simp; omega)⟩
    show zcn [some (.obj 0), z1, z2, z3, z4, z5, some (.dat (.int ((i : Nat) : Int))), some (.dat (.tup cs)), some (.dat (zao rs)), some (.dat (tabD t)), some (.dat (rowD s.1)), some (.dat (sD s.2)), some (.dat (.tup [rowD (hEnd rs t none s).1, sD (hEnd rs t none s).2])), z13] S' = _
    unfold zcn
    generalize D.tup [rowD (hEnd rs t none s).1, sD (hEnd rs t none s).2] = X at *
    simp! only [e1, ne])
  exact ⟨y6, S', e, hp⟩
theorem zp5 (F : Fx cs rs t s) (np : NoP cs rs t s) {n : Nat} {T S : zaf} (h : Pen n T S) (hn : n + 15 ≤ LIM) : ∃ S1, zd8 [.obj 0, .dat (zii cs rs t s), .dat (.tup [.str "fixed", rowD (hEnd rs t none s).1, sD (hEnd rs t none s).2, gsD cs.length rs t s])] S = .ok (.dat (.bl true)) S1 ∧ Pen (n + 15) T S1 := by
  have Fe := zot F none
  have fv := fun S => fix_v Fe S
  rw [stuck_fix (zoo (zkm F none)) cs.length rfl] at fv
  have rv := fun S => run_v F S
  have w := (zbq (rs := rs) (t := t) none 4 s).1
  have ev := fun S => law_end_v F w S
  have eh : endL s (runH rs t none 4 s) = hEnd rs t none s := rfl
  rw [eh] at ev
  have ck := fun S => zqu F np S
  have en := end_ne (hEnd rs t none s)
  have tn := three_ne (hEnd rs t none s)
  have rn := right_ne
  have g1 : ∀ ρ, gTp (gCo (gNm 7) (gCo (gNm 8) (gCo (gNm 9) (gCo (gNm 10) (gCo (gNm 11) gNo))))) (zii cs rs t s) ρ = some (((((ρ.set 7 (some (.dat (.tup cs)))).set 8 (some (.dat (zao rs)))).set 9 (some (.dat (tabD t)))).set 10 (some (.dat (rowD s.1)))).set 11 (some (.dat (sD s.2)))) := fun _ => rfl
  have s13 : ∀ a b c d : D, cutL [a, b, c, d] (some 1) (some 3) = [b, c] := fun _ _ _ _ => rfl
  have s3 : ∀ a b c d : D, cutL [a, b, c, d] none (some 3) = [a, b, c] := fun _ _ _ _ => rfl
  have i3 : ∀ a b c d : D, atI [a, b, c, d] 3 = some d := fun _ _ _ _ => rfl
  have i0 : ∀ a b : D, atI [a, b] 0 = some a := fun _ _ => rfl
  have i1 : ∀ a b : D, atI [a, b] 1 = some b := fun _ _ => rfl
  obtain ⟨y6, S', e, hp⟩ := walk3 F np h hn (some (.dat (zii cs rs t s))) (some (.dat (.tup [.str "fixed", rowD (hEnd rs t none s).1, sD (hEnd rs t none s).2, gsD cs.length rs t s]))) (some (.dat (.tup [.str "fixed", rowD (hEnd rs t none s).1, sD (hEnd rs t none s).2, gsD cs.length rs t (hEnd rs t none s)]))) (some (.dat (lsD (runH rs t none 4 s)))) (some (.dat (.tup [.str "alike", .tup cs, zao rs, tabD t, rowD s.1, sD s.2, lsD (runH rs t none 4 s), gsD cs.length rs t s]))) none (some (.dat (gsD cs.length rs t s)))
  refine ⟨S', ?_, hp⟩
  have rg : ∀ S, rng1 [.dat (.int 3)] S = .ok ((List.range 3).map fun i => .int ((i : Nat) : Int)) S := fun S => zjk (n := 3) (ze3 (by decide)) S
  have tk : S.length = S'.length := by rw [h.len, hp.len]
  unfold zd8 zhw
  simp! only [g1, s13, s3, i3, i0, i1, fv, tn, rv, ev, en, ck, rn, rg, e]
  rw [tk]
  simp! only []
theorem whole_fx (F : Fx cs rs t s) : Fx cs rs t (s.1, List.range cs.length) := ⟨F.hc, F.oc, F.rl, F.rg, F.tl, F.tr, F.rw_, fun i hi => List.mem_range.mp hi, List.pairwise_lt_range⟩
theorem whole_fix (F : Fx cs rs t s) : fixD cs.length rs t (s.1, List.range cs.length) = .tup [.str "fixed", rowD s.1, sD (List.range cs.length), .tup []] := by
  have Fw := whole_fx F
  rw [stuck_fix (cs := cs) (fun l hl => by
    obtain ⟨h1, h2, _⟩ := zct Fw hl
    exact h2 (List.mem_range.mpr h1)) cs.length rfl]
  have e : freeC cs.length (List.range cs.length) = [] := List.filter_eq_nil_iff.mpr fun x hx => by simp [List.mem_range.mp hx]
  have e2 : gsD cs.length rs t (s.1, List.range cs.length) = .tup [] := by
    unfold gsD
    show D.tup ((freeC cs.length (List.range cs.length)).map _) = _
    rw [e]
    rfl
  rw [e2]
theorem four_ne (r : Row) (st : List Nat) : dNe (.tup [.str "fixed", rowD r, sD st, .tup []]) (.tup [.str "fixed", rowD r, sD st, .tup []]) = some (.bl false) := by
  refine zky (n := 2) ?_ ?_
  · show D.fits 1 [.str "fixed", rowD r, sD st, .tup []] = true
    refine fits_iff.mpr fun x hx => ?_
    simp only [List.mem_cons, List.not_mem_nil, or_false] at hx
    rcases hx with rfl | rfl | rfl | rfl
    · rw [D.fit]; decide +kernel
    · exact zmb 0 _
    · exact zpf 0 _
    · rfl
  · show D.noBs [.str "fixed", rowD r, sD st, .tup []] = true
    refine noBs_iff.mpr fun x hx => ?_
    simp only [List.mem_cons, List.not_mem_nil, or_false] at hx
    rcases hx with rfl | rfl | rfl | rfl
    · rfl
    · exact noB_row _
    · exact noB_sD _
    · rfl
theorem str_ne (x : Str) (h : PyData.strOk x = true) : dNe (.str x) (.str x) = some (.bl false) := zky (n := 0) (by rw [D.fit]; exact h) rfl
theorem rev45 (f : XFn) (ρ : zat) (S : zaf) : xRev f ρ S = (f ρ S).bind rev1 := rfl
theorem turn_ok {n : Nat} {T S : zaf} (h : Pen n T S) (hn : n + 300 ≤ LIM) (z0 z2 z3 z4 z5 z6 z7 z8 z9 z10 z11 z12 : Option DV) : ∃ ρ' S', znv [z0, some (.obj 0), z2, z3, z4, z5, z6, z7, z8, z9, z10, z11, z12] S = .nx ρ' S' ∧ Pen (n + 300) T S' ∧ ∃ y3 y4 y5 y6 y7 y8 y9 y10 y11 y12, ρ' = [z0, some (.obj 0), z2, y3, y4, y5, y6, y7, y8, y9, y10, y11, y12] := by
  obtain ⟨S1, e1, p1⟩ := anew_ok h
  obtain ⟨cs, rs, t, row, st, S2, e2, p2, F⟩ := case_ok p1 (by have l_ : LIM = 2147483648 := rfl; omega)
  obtain ⟨s, rfl, rfl⟩ : ∃ s : St45, s.1 = row ∧ s.2 = st := ⟨(row, st), rfl, rfl⟩
  have F : Fx cs rs t s := F
  have c4 := c4 F
  have fv := fun S => fix_v F S
  have Fr := fix_rev F
  have fr := fun S => fix_v Fr S
  have Fw := whole_fx F
  have fw := fun S => fix_v Fw S
  rw [whole_fix F] at fw
  have ec : D.tup [.tup cs, zao rs, tabD t, rowD s.1, sD s.2] = zii cs rs t s := rfl
  rw [ec] at e2
  have g1 : ∀ ρ, gTp (gCo (gNm 7) (gCo (gNm 8) (gCo (gNm 9) (gCo (gNm 10) (gCo (gNm 11) gNo))))) (zii cs rs t s) ρ = some (((((ρ.set 7 (some (.dat (.tup cs)))).set 8 (some (.dat (zao rs)))).set 9 (some (.dat (tabD t)))).set 10 (some (.dat (rowD s.1)))).set 11 (some (.dat (sD s.2)))) := fun _ => rfl
  have rv1 : ∀ S, rev1 (.dat (zao rs)) S = .ok (.dat (zao rs.reverse)) S := fun S => by
    show Res.ok (DV.dat (D.tup (rs.map rulD).reverse)) S = _
    rw [← List.map_reverse]
    rfl
  have rv2 : ∀ S, rev1 (.dat (tabD t)) S = .ok (.dat (tabD t.reverse)) S := fun S => by
    show Res.ok (DV.dat (D.tup (t.map rowD).reverse)) S = _
    rw [← List.map_reverse]
    rfl
  have rg : ∀ S, rng1 [.dat (.int ((cs.length : Nat) : Int))] S = .ok ((List.range cs.length).map fun i => .int ((i : Nat) : Int)) S := fun S => zjk (ze3 (by omega)) S
  have zr : szB ((List.range cs.length).map fun i : Nat => D.int ((i : Nat) : Int)).length = true := zcu (by simp; omega)
  have lc := fun S z4 z5 z6 => zcv (G := gNm 12) (t := zcz) (f := xVar 12) (ρ := [z0, some (.obj 0), z2, some (.dat (zii cs rs t s)), z4, z5, z6, some (.dat (.tup cs)), some (.dat (zao rs)), some (.dat (tabD t)), some (.dat (rowD s.1)), some (.dat (sD s.2)), none]) (S := S) (enc := fun i : Nat => D.int ((i : Nat) : Int)) (q := fun i : Nat => D.int ((i : Nat) : Int)) (List.range cs.length) fun i hi => ⟨_, rfl, rfl, by simp! only []⟩
  have wd : D.tup ((List.range cs.length).map fun i : Nat => D.int ((i : Nat) : Int)) = sD (List.range cs.length) := rfl
  have fn := four_ne s.1 (List.range cs.length)
  have rn := right_ne
  by_cases np : NoP cs rs t s
  · have f1 : zki cs.length rs t s = none := nop_find.mpr np
    have f2 : zki cs.length rs.reverse t.reverse s = none := nop_find.mpr (nop_rev F np)
    have x1 : fixD cs.length rs t s = .tup [.str "fixed", rowD (hEnd rs t none s).1, sD (hEnd rs t none s).2, gsD cs.length rs t s] := by unfold fixD; rw [f1]
    have x2' : fixD cs.length rs.reverse t.reverse s = .tup [.str "fixed", rowD (hEnd rs t none s).1, sD (hEnd rs t none s).2, gsD cs.length rs.reverse t.reverse s] := by unfold fixD; rw [f2, end_rev F np]
    rw [x1] at fv
    rw [x2'] at fr
    obtain ⟨S3, e3, p3⟩ := zp5 F np p2 (by have l_ : LIM = 2147483648 := rfl; omega)
    have i0 : ∀ a b c d : D, atI [a, b, c, d] 0 = some a := fun _ _ _ _ => rfl
    have s3 : ∀ a b c d : D, cutL [a, b, c, d] none (some 3) = [a, b, c] := fun _ _ _ _ => rfl
    have sn := str_ne "fixed" (by decide +kernel)
    have se : dEq (.str "fixed") (.str "fixed") = some (.bl true) := dEq_self (n := 0) (by rw [D.fit]; decide +kernel) rfl
    have tn := three_ne (hEnd rs t none s)
    refine ⟨[z0, some (.obj 0), z2, some (.dat (zii cs rs t s)), some (.dat (.tup [.str "fixed", rowD (hEnd rs t none s).1, sD (hEnd rs t none s).2, gsD cs.length rs t s])), some (.dat (.tup [.str "fixed", rowD (hEnd rs t none s).1, sD (hEnd rs t none s).2, gsD cs.length rs.reverse t.reverse s])), some (.dat (sD (List.range cs.length))), some (.dat (.tup cs)), some (.dat (zao rs)), some (.dat (tabD t)), some (.dat (rowD s.1)), some (.dat (sD s.2)), z12], S3, ?_, p3.mono (by omega), _, _, _, _, _, _, _, _, _, _, rfl⟩
    unfold znv
    simp! only [e1, e2, g1, fv, rev45, rv1, rv2, fr, i0, sn, rg, zr, lc, wd, fw, fn, se, s3, tn, e3]
  · obtain ⟨p, f1⟩ : ∃ p, zki cs.length rs t s = some p := by
      cases q : zki cs.length rs t s with
      | none => exact absurd (nop_find.mp q) np
      | some p => exact ⟨p, rfl⟩
    obtain ⟨p', f2⟩ : ∃ p, zki cs.length rs.reverse t.reverse s = some p := by
      cases q : zki cs.length rs.reverse t.reverse s with
      | none => exact absurd ((nop_iff_rev F).mp (nop_find.mp q)) np
      | some p => exact ⟨p, rfl⟩
    have x1 : fixD cs.length rs t s = .tup [.str "parts", lsD (goP rs t s p.1), lsD (goP rs t s p.2)] := by unfold fixD; rw [f1]
    have x2' : fixD cs.length rs.reverse t.reverse s = .tup [.str "parts", lsD (goP rs.reverse t.reverse s p'.1), lsD (goP rs.reverse t.reverse s p'.2)] := by unfold fixD; rw [f2]
    rw [x1] at fv
    rw [x2'] at fr
    have ck := fun S => zp1 F f1 S
    have i0 : ∀ a b c : D, atI [a, b, c] 0 = some a := fun _ _ _ => rfl
    have s1 : ∀ a b c : D, cutL [a, b, c] (some 1) none = [b, c] := fun _ _ _ => rfl
    have sn := str_ne "parts" (by decide +kernel)
    have se : dEq (.str "parts") (.str "fixed") = some (.bl false) := by
      rw [strEq _ _ (by decide +kernel) (by decide +kernel), show (("parts" : Str) == "fixed") = false by decide +kernel]
    have a1 : dAdd (.tup [.str "parts"]) (zii cs rs t s) = some (.tup [.str "parts", .tup cs, zao rs, tabD t, rowD s.1, sD s.2]) := by
      unfold zii
      rw [zjx, zcu (by simp)]
      rfl
    have a2 : ∀ x y : D, dAdd (.tup [.str "parts", .tup cs, zao rs, tabD t, rowD s.1, sD s.2]) (.tup [x, y]) = some (.tup [.str "parts", .tup cs, zao rs, tabD t, rowD s.1, sD s.2, x, y]) := fun x y => by
      rw [zjx, zcu (by simp)]
      rfl
    refine ⟨[z0, some (.obj 0), z2, some (.dat (zii cs rs t s)), some (.dat (.tup [.str "parts", lsD (goP rs t s p.1), lsD (goP rs t s p.2)])), some (.dat (.tup [.str "parts", lsD (goP rs.reverse t.reverse s p'.1), lsD (goP rs.reverse t.reverse s p'.2)])), some (.dat (sD (List.range cs.length))), some (.dat (.tup cs)), some (.dat (zao rs)), some (.dat (tabD t)), some (.dat (rowD s.1)), some (.dat (sD s.2)), z12], S2, ?_, p2.mono (by omega), _, _, _, _, _, _, _, _, _, _, rfl⟩
    unfold znv
    simp! only [e1, e2, g1, fv, rev45, rv1, rv2, fr, i0, sn, rg, zr, lc, wd, fw, fn, se, s1, a1, a2, ck, rn]
theorem answers (ns : List Int) (h : ns.length ≤ 63) : ∃ S, g_law [.scr ns] [] = .ok (.dat (.bl true)) S := by
  unfold g_law s_law
  obtain ⟨S, e, p⟩ := open_ok ns h
  obtain ⟨ρ', S', e2, y2, y3, y4, y5, y6, y7, y8, y9, y10, y11, y12, T, rfl, p2⟩ := zix (enc := fun i : Nat => D.int ((i : Nat) : Int)) (G := gNm 2) (f := znv) (fun pre ρ S => ∃ y2 y3 y4 y5 y6 y7 y8 y9 y10 y11 y12 T, ρ = [some (.scr ns), some (.obj 0), y2, y3, y4, y5, y6, y7, y8, y9, y10, y11, y12] ∧ Pen (300 * pre.length) T S) (List.range 12) [] [some (.scr ns), some (.obj 0), none, none, none, none, none, none, none, none, none, none, none] S ⟨_, _, _, _, _, _, _, _, _, _, _, _, rfl, p⟩ (by
    rintro pre a post ρ S hpp ⟨y2, y3, y4, y5, y6, y7, y8, y9, y10, y11, y12, T, rfl, hp⟩
    have ll := congrArg List.length (show List.range 12 = pre ++ a :: post by simpa using hpp)
    simp at ll
    obtain ⟨ρ', S', e, p, x3, x4, x5, x6, x7, x8, x9, x10, x11, x12, rfl⟩ := turn_ok hp (by have l_ : LIM = 2147483648 := rfl; omega) (some (.scr ns)) (some (.dat (.int (a : Nat)))) y3 y4 y5 y6 y7 y8 y9 y10 y11 y12
    exact ⟨_, _, S', rfl, .inl e, _, x3, x4, x5, x6, x7, x8, x9, x10, x11, x12, T, rfl, by rw [List.length_append]; exact p.mono (by simp; omega)⟩)
  have rg4 : rng1 [.dat (.int 12)] S = .ok ((List.range 12).map fun i => .int ((i : Nat) : Int)) S := zjk (n := 12) (ze3 (by decide)) S
  simp! only [e, rg4, e2]
  exact ⟨_, rfl⟩
end
end T45
set_option maxHeartbeats 0
open PySem PySem.W PySem.Calls PyProof.Rows
theorem PySem.Challenge.cw_whererules_k45_whole_fixes_holds : PySem.Challenge.rw_whererules_k45_whole_fixes.Holds := by
  w_on; o_law
  refine HandSHeadRun.head_any (r := OpenLaw.row PySem.Challenge.rw_whererules_k45_whole_fixes) (q := view (OpenLaw.row PySem.Challenge.rw_whererules_k45_whole_fixes).prog [132]) (H := T45.hk) (ob := T45.ob) (M := 20000) (loose := T45.loose) (d := HandSHeadRun.topDef (OpenLaw.row PySem.Challenge.rw_whererules_k45_whole_fixes).prog 132) (kwd := []) T45.ob_eq
    (by kernel_rfl) (fun s => by kernel_rfl) T45.run (by kernel_rfl) (by kernel_rfl) (by kernel_rfl) (by rfl) (by first | assumption | decide +kernel) (by decide +kernel) ⟨rfl, rfl, rfl, rfl, rfl, by decide +kernel⟩ ?hw ?hc
  case hw => w_witness2
  case hc =>
    refine DL.walkD (l := PySem.Challenge.rw_whererules_k45_whole_fixes) (n := 63) (k := 13) (x := "_law_script") (g := T45.g_law) rfl (by decide) (by kernel_rfl) ⟨rfl, by decide, by decide⟩ ?F T45.answers
    intro w mg fa h Y G hmg0
    obtain ⟨K, KX, c, xo, tl⟩ := Y
    have T := T45.txt_of KX G c xo
    obtain ⟨f, fd, Fd, hm⟩ := T.d_law
    have e : (HandSHeadRun.topDef (OpenLaw.row PySem.Challenge.rw_whererules_k45_whole_fixes).prog 132).name = ("law" : PySem.Str) := by kernel_rfl
    rw [e, hm] at hmg0
    cases hmg0
    exact ⟨K, fd, KX, tl, fun s u => L2.FunD.bindsA (ps := ["_law_script"]) Fd (fun _ _ _ _ _ _ us hl => match us, hl with | [_], _ => rfl) s [u] rfl, fun base _ _ => DL.fn_D Fd T45.sc_law rfl rfl (T45.bd_law T fa)⟩
