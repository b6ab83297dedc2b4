import PyProof.Rows.All
import Wide.All
import OpenK.AllK
import Wide.FinOn
import PyProof.EqAt
import PyProof.EqKinds
import PyProof.TupleCall
import HandS.ForMost
import HandS.Exc
import HandS.TryOnly
import HandS.ExcOwn
import HandS.TryMany
import HandS.WordsExc
import HandS.More
import HandS.Conv
import HandS.IsInst
import HandS.Sort
import HandS.SortRule
import HandS.SortInts
import HandS.Strs
import HandS.SetFor
import HandS.Deep
import HandS.Zip
import HandS.ClsMeth
import HandS.Codes
import HandS.Steps
import HandS.Evl
import HandS.Defaults
import HandS.HeadHook1
import HandS.Walk
import KE.KStateDown
import Lean
import HandS.Ends
import HandS.Words
import HandS.Head0
import HandS.Head1
import HandS.Head2
import HandS.HeadEnd
import HandS.HeadHook2
import HandS.HeadHook3
import HandS.HeadHook4
import PySem.Challenge.RW_gleanyard_k59_whole_swept_at_once
set_option Elab.async false
set_option linter.all false
set_option maxRecDepth 100000
set_option maxHeartbeats 4000000
/-! Part 0: addresses by names, bundles of promises, the rules that the layer lacks. -/
namespace Gy
open PySem PySem.Spec PyProof.Rows L2
open Evl (rLenS rListS rMax2)
/-! ### addresses by names -/
abbrev aF (K : PySem.W.Frag) (x : Str) : Addr := He.ga K x
abbrev aC (K : PySem.W.Frag) : Addr := He.ga K "Counts"
abbrev aY (K : PySem.W.Frag) : Addr := He.ga K "Yard"
abbrev aM (K : PySem.W.Frag) (m : Str) : Addr := He.ma K (He.ga K "Counts") m
/-! ### readings by names -/
abbrev rAddI : R2 := rI0 fun i j => .int (i + j)
abbrev rSubI : R2 := rI0 fun i j => .int (i - j)
abbrev rMulI : R2 := rI CMul fun i j => .int (i * j)
abbrev rModI : R2 := rI (fun _ j => 0 < j) fun i j => .int (i % j)
abbrev rDivI : R2 := rI CDiv fun i j => .int (i / j)
abbrev rLtI : R2 := rI0 fun i j => .bl (decide (i < j))
abbrev rLeI : R2 := rI0 fun i j => .bl (decide (i ≤ j))
abbrev rGtI : R2 := rI0 fun i j => .bl (decide (j < i))
abbrev rGeI : R2 := rI0 fun i j => .bl (decide (j ≤ i))
def rInt1 : List V → Hp → VK → Prop := fun xs H Q => (∃ i, xs = [.int i] ∧ Q (.int i) H) ∨ ∃ k, xs = [.bl k] ∧ Q (.int (if k then 1 else 0)) H
def rDictP (K : PySem.W.Frag) : List V → Hp → VK → Prop := fun xs H Q => ∃ (a : Addr) (ps : List Addr) (kvs : List (Key × V)), xs = [.ref a] ∧ SqL K H a (ps.map V.ref) ∧ Paired (fun p kv => SqT K H p [kV kv.1, kv.2]) ps kvs ∧ ∀ p, H p = none → Q (.ref p) (upd H p (.dK (mergeK [] kvs)))
def rDictD : List V → Hp → VK → Prop := fun xs H Q => ∃ (a : Addr) (kvs : List (Key × V)), xs = [.ref a] ∧ Rd H a (.dK kvs) ∧ ∀ p, H p = none → Q (.ref p) (upd H p (.dK kvs))
/-! ### a def's promise, as a caller takes it -/
structure OkA (CX : CXT) (P : Program) (w : World) (K : PySem.W.Frag) (mg : Str → Option Value) (base : Heap) (k : Nat) (f : Addr) (sp : Sp) : Prop where
  ex : ∃ (fd : FuncData) (ps : List Str), FnOk P w K mg base CX k f fd ps sp ∧ Binds K fd ps []
section
variable {X : Cx} {CX : CXT} {k j : Nat} {f C : Addr} {sp : Sp} {x m : Str} {p pos apos : Pos} {e o : Expr} {es : List Expr} {ta : TE} {t : TA} {W : WX} {E : XK}
theorem pc (c : OkA CX0 X.prog X.w X.K X.mg X.base k f sp) (hr : Room j X.A) (hm : X.mg x = some (.ref f)) (hk : PySem.W.keepIn X.K (.ref f) = true) (ha : PA X (e :: es) t) (hkj : k ≤ j := by decide) (hg : Gl X x := by rfl)
    (hdb : (x == ("__debug__" : Str)) = false := by decide) (he : starEach (e :: es) X.env = (false, eval e X.env) :: starEach es X.env := by rfl) (hpl : (backTo pos (starEach es X.env)).any (·.1) = false := by rfl) :
    PE X (.Call (.Name x p) (e :: es) [] pos) (tCall sp [] E0 t) := by
  obtain ⟨fd, ps, F, b⟩ := c.ex
  exact pe_call F (hr.mono hkj) hg hm hk b .nil pass0 ha hdb he hpl
theorem pcS (c : OkA (L2.CX X.prog X.w) X.prog X.w X.K X.mg X.base k f sp) (hr : Room j X.A) (hm : X.mg x = some (.ref f)) (hk : PySem.W.keepIn X.K (.ref f) = true) (tk : Takes X W) (ha : PA X (e :: es) t) (hkj : k ≤ j := by decide) (hg : Gl X x := by rfl)
    (hdb : (x == ("__debug__" : Str)) = false := by decide) (he : starEach (e :: es) X.env = (false, eval e X.env) :: starEach es X.env := by rfl) (hpl : (backTo pos (starEach es X.env)).any (·.1) = false := by rfl) :
    PE X (.Call (.Name x p) (e :: es) [] pos) (tCallS sp (WE W) t) := by
  obtain ⟨fd, ps, F, b⟩ := c.ex
  exact pe_callS F (hr.mono hkj) hg hm hk b (fun σ => passAt tk σ) ha hdb he hpl
theorem pm {pl : Sem Bool} (c : OkA CX0 X.prog X.w X.K X.mg X.base k f sp) (cl : Cls X.K C) (hm : Meth X.K C m f) (hr : Room j X.A) (ho : PE X o ta) (ha : PA X (e :: es) t) (hkj : k ≤ j := by decide)
    (hst : starEach (e :: es) X.env = (false, eval e X.env) :: starEach es X.env := by rfl) (hpl : (backTo pos (starEach es X.env)).any (·.1) = false := by rfl)
    (ht : eval (.Call (.Attribute o m apos) (e :: es) [] pos) X.env = (do
      let ov ← eval o X.env
      standAt apos.atName
      let (f, first) ← holding [ov] (getMethod ov m pl)
      callWith pos f first (backTo pos (starEach (e :: es) X.env)) (backToKw pos (keywordEach [] X.env))) := by rfl) :
    PE X (.Call (.Attribute o m apos) (e :: es) [] pos) (tMeth C m sp [] E0 ta t) := by
  obtain ⟨fd, ps, F, b⟩ := c.ex
  exact pe_meth (pl := pl) ho cl hm F (hr.mono hkj) b .nil pass0 ha hst hpl ht
theorem pm0 {pl : Sem Bool} (c : OkA CX0 X.prog X.w X.K X.mg X.base k f sp) (cl : Cls X.K C) (hm : Meth X.K C m f) (hr : Room j X.A) (ho : PE X o ta) (hkj : k ≤ j := by decide)
    (ht : eval (.Call (.Attribute o m apos) [] [] pos) X.env = (do
      let ov ← eval o X.env
      standAt apos.atName
      let (f, first) ← holding [ov] (getMethod ov m pl)
      callWith pos f first (backTo pos (starEach [] X.env)) (backToKw pos (keywordEach [] X.env))) := by rfl) :
    PE X (.Call (.Attribute o m apos) [] [] pos) (tMeth C m sp [] E0 ta tNil) := by
  obtain ⟨fd, ps, F, b⟩ := c.ex
  exact pe_meth0 (pl := pl) ho cl hm F (hr.mono hkj) b .nil pass0 ht
/-- a method that may raise: what it lets out is what this body wants -/
theorem pmX {pl : Sem Bool} (c : OkA (L2.CX X.prog X.w) X.prog X.w X.K X.mg X.base k f sp) (cl : Cls X.K C) (hm : Meth X.K C m f) (hr : Room j X.A) (tk : Takes X (fun cls d _ H => E cls d H)) (ho : PE X o ta) (ha : PA X (e :: es) t) (hkj : k ≤ j := by decide)
    (hst : starEach (e :: es) X.env = (false, eval e X.env) :: starEach es X.env := by rfl) (hpl : (backTo pos (starEach es X.env)).any (·.1) = false := by rfl)
    (ht : eval (.Call (.Attribute o m apos) (e :: es) [] pos) X.env = (do
      let ov ← eval o X.env
      standAt apos.atName
      let (f, first) ← holding [ov] (getMethod ov m pl)
      callWith pos f first (backTo pos (starEach (e :: es) X.env)) (backToKw pos (keywordEach [] X.env))) := by rfl) :
    PE X (.Call (.Attribute o m apos) (e :: es) [] pos) (tMeth C m sp [] E ta t) := by
  obtain ⟨fd, ps, F, b⟩ := c.ex
  exact pe_meth (pl := pl) ho cl hm F (hr.mono hkj) b .nil (passes_call tk fun _ _ _ _ h => h) ha hst hpl ht
theorem pmk (M : Mk X.K C f) (c : OkA CX0 X.prog X.w X.K X.mg X.base k f sp) (hr : Room j X.A) (hm : X.mg x = some (.ref C)) (ha : PA X (e :: es) t) (hkj : k + 1 ≤ j := by decide) (hg : Gl X x := by rfl)
    (hdb : (x == ("__debug__" : Str)) = false := by decide) (he : starEach (e :: es) X.env = (false, eval e X.env) :: starEach es X.env := by rfl) (hpl : (backTo pos (starEach es X.env)).any (·.1) = false := by rfl) :
    PE X (.Call (.Name x p) (e :: es) [] pos) (tMake C sp [] E0 t) := by
  obtain ⟨fd, ps, F, b⟩ := c.ex
  exact pe_make M F (hr.mono hkj) hg hm b .nil pass0 ha hdb he hpl
/-! ### C.f(..), f a plain def of the class at C -/
def tCFun (C : Addr) (sp : Sp) (dvs : List V) (E : XK) (ta : TE) (t : TA) : TE := fun σ H Q => ta σ H fun x H1 => x = .ref C ∧ t σ H1 fun vs H2 => sp (vs ++ dvs) H2 Q E
theorem pcf {pl : Sem Bool} {mc : Value} (c : OkA CX0 X.prog X.w X.K X.mg X.base k f sp) (r : ClX.CRead X.K C mc) (v : ClX.CVal X.K C mc m (.ref f) (.ref f) ∧ PySem.W.keepIn X.K (.ref f) = true) (hr : Room j X.A) (ho : PE X o ta) (ha : PA X (e :: es) t) (hkj : k ≤ j := by decide)
    (hst : starEach (e :: es) X.env = (false, eval e X.env) :: starEach es X.env := by rfl) (hpl : (backTo pos (starEach es X.env)).any (·.1) = false := by rfl)
    (ht : eval (.Call (.Attribute o m apos) (e :: es) [] pos) X.env = (do
      let ov ← eval o X.env
      standAt apos.atName
      let (f, first) ← holding [ov] (getMethod ov m pl)
      callWith pos f first (backTo pos (starEach (e :: es) X.env)) (backToKw pos (keywordEach [] X.env))) := by rfl) :
    PE X (.Call (.Attribute o m apos) (e :: es) [] pos) (tCFun C sp [] E0 ta t) := by
  obtain ⟨fd, ps, F, b⟩ := c.ex
  refine ⟨fun pins s σ H Q I h => ?_⟩
  refine PySem.W.methodCall_KW (pl := pl) (thn (ho.run pins s σ H _ I h) fun u s1 ⟨y, H1, I1, ry, ey, q⟩ => ?_) ht
  subst ey
  obtain rfl : u = Value.ref C := ry
  refine PySem.W.method_cls I1.kIn r.ga (ClX.getcval_ok I1 r v.1 fun s2 I2 => ?_)
  refine PySem.W.callWith_K (first := []) (h₀ := X.base) I2.ok.mod.kin v.2 (thn (ha.run pos pins s2 σ H1 _ I2 q) fun us s3 ⟨vs, H2, I3, r3, q3⟩ => ⟨I3.kIn, ?_⟩) hst hpl
  exact run_fn (us := us) (vs := vs) F (hr.mono hkj) b .nil pass0 I3 r3 q3
end
theorem hu65 {A : Around} {k : Nat} (hr : Room k A) : A.units + 65 < cLine := by
  have h := hr.units
  have z := hr.un
  have d := hr.dp
  first | omega | exact Nat.lt_of_le_of_lt (Nat.le_refl _) h
end Gy

set_option Elab.async false
set_option linter.all false
set_option maxRecDepth 100000
set_option maxHeartbeats 4000000
/-! Part 1: three rules that the layer lacks: set(a list of ints), list.count of data, a tuple or None against None. -/
namespace Gy
open PySem PySem.Spec PyProof.Rows L2
section
variable {P : Program} {w : World} {A : Around} {E : Value → Shared → Prop} {s : Shared}
/- set(l), l a list of ints: as set(t) of a tuple -/
set_option maxHeartbeats 8000000 in
theorem call_set_lstI {l : Addr} {items : Array Value} (ns : List Int) {Q : Value → Shared → Prop} (hh : A.handled = none) (hl : s.heap.IsList l items) (hit : IntsAre items.toList ns) (hb : ns.length + 1 < scanBound)
    (h : ∀ (h' : Heap) (tk c : Nat), SetR w h' s.heap.objs.size (fun j => decide (j ∈ ns)) c → c ≤ ns.length → (∀ b o, s.heap.get? b = some o → h'.get? b = some o) → Q (.ref s.heap.objs.size) { s with heap := h', toks := tk }) :
    wpAny (model P w) A (call (.type "set") [.ref l]) Q E s := by
  have hisz : items.size = ns.length := by
    have q := IntsAre.length hit
    rw [Array.length_toList] at q
    exact q
  obtain ⟨c, tl, hmro⟩ := PySem.F.called_set.mro
  have hmade := PySem.F.called_set.made
  have hsub := PySem.F.called_set.sub
  refine wpAny_call (codeAny_of_tree ?_)
  show wpAny _ _ (callAny (.type "set") _) _ _ _
  refine wpAny_pure ⟨Code.quiet_builtin _ (by decide +kernel), codeAny_builtin PySem.F.entry_type_call ?_⟩
  rw [Around.under_plain (weight_type_call_type "set" [.ref l] []) rfl]
  have h1 := PySem.F.called_set.notType
  have h2 := PySem.F.called_set.canCreate
  have hct := PySem.F.typeCall_set_1 (.ref l)
  repeat (any_goals (first | assumption | wp_step))

  refine codeAny_mono (code_set_led1 (.ref l) (E := E) (Q₁ := fun obj s₁ => obj = .ref s.heap.objs.size ∧ s₁ = { s with heap := s.heap.push { cls := .type "set", dict := none, data := .set #[] 0 (.fresh 0 0 (!w.params.followText "set-order")) } }) ⟨rfl, rfl⟩) fun r s₁ hr => ?_
  cases r with
  | error e => exact hr
  | ok fl =>
    cases fl with
    | ret obj =>
      obtain ⟨rfl, rfl⟩ := hr
      have hS : (s.heap.push { cls := .type "set", dict := none, data := .set #[] 0 (.fresh 0 0 (!w.params.followText "set-order")) }).get? s.heap.objs.size = some { cls := .type "set", dict := none, data := .set #[] 0 (.fresh 0 0 (!w.params.followText "set-order")) } := Heap.get?_push_size _ rfl
      have hT : Shared.TypeIs { s with heap := s.heap.push { cls := .type "set", dict := none, data := .set #[] 0 (.fresh 0 0 (!w.params.followText "set-order")) } } (.ref s.heap.objs.size) "set" := ⟨_, hS, rfl⟩
      have hli := PySem.F.called_set.init.lookup
      have hbi := PySem.F.called_set.init.bind (.ref s.heap.objs.size)
      repeat (any_goals (first | assumption | wp_step))

      refine codeAny_mono (codeAny_call_builtin (R := wants (fun r s₂ => r = .none ∧ ∃ h' tk c, s₂ = { s with heap := h', toks := tk } ∧ SetR w h' s.heap.objs.size (fun j => decide (j ∈ ns)) c ∧ c ≤ ns.length ∧
          (∀ b o, s.heap.get? b = some o → h'.get? b = some o)) E) PySem.F.called_set.init.plain PySem.F.entry_set_init (check_set_init_1 hT ?_)) fun r₂ s₂ hr₂ => ?_
      · obtain ⟨ol, hol, hcl, nl, hdl⟩ := hl
        obtain ⟨ocls, odict, odata, oslots⟩ := ol
        simp only at hcl hdl
        subst hcl; subst hdl
        have hol' : (s.heap.push { cls := .type "set", dict := none, data := .set #[] 0 (.fresh 0 0 (!w.params.followText "set-order")) }).get? l = some { cls := .type "list", dict := odict, data := .seq items nl, slots := oslots } := Heap.get?_push_of_some _ hol
        have hsls := PySem.F.sub_list_set
        have hslf := PySem.F.sub_list_frozenset
        have hne : (Value.type "list" == Value.type "dict") = false := by decide
        have hl1 : (s.heap.push { cls := .type "set", dict := none, data := .set #[] 0 (.fresh 0 0 (!w.params.followText "set-order")) }).IsList l items := ⟨_, hol', rfl, nl, rfl⟩
        unfold Builtin.«set.__init__» noKeywords Builtin.Frozenset.updateFrom
        generalize hPI : pyIter = PI
        wp_walk
        subst hPI

        refine wpAny_pyIter_list hl1 ?_
        refine wpAny_bind (wpAny_runValue ?_)
        have hlS : l < s.heap.objs.size := Heap.lt_size hol
        have hh3 : A.in1.in1.in1.handled = none := by simp [hh]
        have hz1 : (s.heap.push { cls := .type "set", dict := none, data := .set #[] 0 (.fresh 0 0 (!w.params.followText "set-order")) }).objs.size = s.heap.objs.size + 1 := Heap.size_push ..
        have hneI : l ≠ (s.heap.push { cls := .type "set", dict := none, data := .set #[] 0 (.fresh 0 0 (!w.params.followText "set-order")) }).objs.size := by
          rw [Heap.size_push]; exact Nat.ne_of_lt (Nat.lt_succ_of_lt hlS)
        have hSf : s.heap.objs.size ∉ [(s.heap.push { cls := .type "set", dict := none, data := .set #[] 0 (.fresh 0 0 (!w.params.followText "set-order")) }).objs.size, l] := by
          rw [Heap.size_push]; simp only [List.mem_cons, List.mem_singleton, List.not_mem_nil, or_false, not_or]
          exact ⟨Nat.ne_of_lt (Nat.lt_succ_self _), Nat.ne_of_gt hlS⟩
        have hval : ∀ (i : Nat) (v : Value), items[i]? = some v → ∃ k t, ns[i]? = some k ∧ v = .int k t := fun i v hv => by
          have hi : i < ns.length := by rw [← hisz]; exact (Array.getElem?_eq_some_iff.mp hv).1
          obtain ⟨t, e⟩ := PyProof.Rows.IntsAre.int_at hit i v (by rw [Array.getElem?_toList]; exact hv)
          refine ⟨ns[i], t, List.getElem?_eq_getElem hi, ?_⟩
          rw [e, List.getD_eq_getElem?_getD, List.getElem?_eq_getElem hi] <;> rfl
        refine set_update_ints ((Walks.list hh3 _ l hneI items).toS) s.heap.objs.size
          hSf ns hisz hb hval (items.size - 0) 0 _ (by omega) (Nat.zero_le _)
          ⟨⟨_, Heap.get?_push_size _ rfl, rfl, rfl⟩, (hl1.push _)⟩ ?hS0 ?hR
        case hS0 =>
          have hget : ((s.heap.push { cls := .type "set", dict := none, data := .set #[] 0 (.fresh 0 0 (!w.params.followText "set-order")) }).push { cls := .type "list_iterator", data := .fields #[.ref l, .int 0 0] }).get? s.heap.objs.size
              = some { cls := .type "set", dict := none, data := .set #[] 0 (.fresh 0 0 (!w.params.followText "set-order")) } := Heap.get?_push_of_some _ hS
          exact ⟨0, Nat.le_refl 0, setR_new_at hget⟩
        case hR =>
          intro s' c' hm hc' hS'
          obtain ⟨h', g2, d', tk', os'⟩ := s'
          have eg : g2 = s.gens := hm.gens
          have ed : d' = s.drawn := hm.drawn
          have eo : os' = s.os := hm.os
          subst eg; subst ed; subst eo
          show wpAny _ _ _ _ _ _
          refine wpAny_pure ?_
          show wpAny _ _ (ret Value.none) _ _ _
          rw [hisz] at hc'
          refine wpAny_pure ⟨rfl, h', tk', c', rfl, hS', hc', fun b o e => ?_⟩
          have hb0 : b < s.heap.objs.size := Heap.lt_size e
          have hb1 : b ≠ s.heap.objs.size := Nat.ne_of_lt hb0
          have hb2 : b ≠ (s.heap.push { cls := .type "set", dict := none, data := .set #[] 0 (.fresh 0 0 (!w.params.followText "set-order")) }).objs.size := by
            rw [Heap.size_push]; exact Nat.ne_of_lt (Nat.lt_succ_of_lt hb0)
          exact hm.heap b o (by simp only [List.mem_cons, List.mem_singleton, List.not_mem_nil, or_false, not_or]; exact ⟨hb1, hb2⟩) (Heap.get?_push_of_some _ (Heap.get?_push_of_some _ e))

      · cases r₂ with
        | error e => exact hr₂
        | ok fl₂ =>
          cases fl₂ with
          | ret r =>
            obtain ⟨rfl, h', tk, c', rfl, hS', hc', hk'⟩ := hr₂
            repeat (any_goals (first | assumption | wp_step))
            exact h _ _ _ hS' hc' hk'
          | _ => exact hr₂.elim
    | _ => exact hr.elim
end
section
variable {X : Cx}
def rSetI (K : PySem.W.Frag) (w : World) : List V → Hp → VK → Prop := fun xs H Q => ∃ (l : Addr) (ns : List Int), xs = [.ref l] ∧ SqL K H l (ns.map V.int) ∧ ns.length ≤ 1000 ∧ ∀ p c, H p = none → c ≤ ns.length → Q (.ref p) (upd H p (SetO w p (fun j => decide (j ∈ ns)) c))
theorem cr_setI (hc : X.calm = true) : CallR X (.type "set") (rSetI X.K X.w) := by
  intro pins s σ H xs us Q I r h
  obtain ⟨l, ns, rfl, hs, hb, q⟩ := h
  rw [Vals.ref1 r]
  obtain ⟨its, rv, hl, hlen⟩ := I.list hs
  refine call_set_lstI ns (I.ok.hd hc) hl.isList (by simpa using ints_of_vals rv) (by unfold scanBound; omega) fun h' tk c hR hc' k => ?_
  exact ⟨.ref s.heap.objs.size, upd H s.heap.objs.size (SetO X.w s.heap.objs.size (fun j => decide (j ∈ ns)) c), I.laid (t' := tk) k (Nat.le_refl _) (setO_new hR), rfl, q _ c (I.hok.fresh (Nat.le_refl _)) hc'⟩
/-- l.count(y), data of any depth -/
def rCntD (K : PySem.W.Frag) : V → List V → Hp → VK → Prop := fun x xs H Q => ∃ (a : Addr) (y : V) (d : PyData) (ds : List PyData), x = V.ref a ∧ xs = [y] ∧ Dp K H (V.ref a) (.list ds) ∧ Dp K H y d ∧
  SeqAt.shaped (.list ds) = true ∧ SeqAt.shaped d = true ∧ Q (.int ((ds.countP fun z => PyData.eqv z d : Nat) : Int)) H
theorem mt_cntD (hu : X.A.units + 65 < cLine) : MtR X "list.count" (rCntD X.K) := by
  intro pins s σ H x xs v us Q I rx rxs h
  obtain ⟨a, y, d, ds, rfl, rfl, hl, hy, sl, sd, q⟩ := h
  cases rx
  cases rxs with
  | cons ry rt =>
    rename_i uy ut
    cases rt
    obtain ⟨bs, r1⟩ := Dp.reads I d y uy hy ry
    have hxs : PyData.canLayAll0 ds = true := SeqAt.canLay_of_shaped sl
    have hroom : X.A.units + 1 + min (PyData.depthAll ds) d.depth < cLine := room_in_shaped sd hu
    cases hl with
    | lst hs ha =>
      obtain ⟨its, rv, ⟨⟨cls, dd, data, sls⟩, n, ho, hc, hdn, hdt⟩, hlen⟩ := I.list hs
      simp only at hc hdt
      subst hc hdt
      obtain ⟨as, h4⟩ := Dp.readsAll I ds _ its ha rv
      have hmap : its.map (SeqAt.readOf s.heap) = ds := SeqAt.readsAll_map ds its as hxs h4
      have e5 := SeqAt.items_eqAt (vs := its.toArray) (show ReadsAll s.heap its.toArray.toList ds as from h4) r1 hxs (SeqAt.canLay_of_shaped sd) hroom
      refine call_meets PySem.F.slot_list_count ⟨_, ho, rfl⟩ PySem.F.entry_list_count (PySem.F.args_list_count_2 _ _)
        (SeqAt.list_countAt a its.toArray n dd sls uy (fun u => PyData.eqv (SeqAt.readOf s.heap u) d)) ⟨ho, fun z hz => e5 z hz, ?_⟩
      have ec : its.toArray.toList.countP (fun u => PyData.eqv (SeqAt.readOf s.heap u) d) = ds.countP fun z => PyData.eqv z d := by
        rw [← hmap, List.countP_map]
        rfl
      refine ⟨.int ((ds.countP fun z => PyData.eqv z d : Nat) : Int), H, I.tok _, ⟨s.toks, ?_⟩, q⟩
      show Value.int ((its.toArray.toList.countP _ : Nat) : Int) s.toks = _
      rw [ec]
/-- x != None, x None or a tuple -/
def rNePap (K : PySem.W.Frag) : R2 := fun x y H Q => y = .non ∧ ((x = .non ∧ Q (.bl false) H) ∨ ∃ a xs, x = .ref a ∧ SqT K H a xs ∧ Q (.bl true) H)
theorem op_nePap (hu : X.A.units < cLine) : OpR X (compareOp .NotEq) (rNePap X.K) := by
  intro pins s σ H x y v u Q I rx ry h
  obtain ⟨rfl, ⟨rfl, q⟩ | ⟨a, xs, rfl, hs, q⟩⟩ := h
  · cases rx
    cases ry
    exact SeqAt.RcNeAt.none_none _ _ _ _ ⟨.bl false, H, I, rfl, q⟩
  · cases rx
    cases ry
    obtain ⟨its, rv, ht, _⟩ := I.tuple hs
    exact SeqAt.RcNeAt.tuple_none ht hu _ _ _ _ ⟨.bl true, H, I, rfl, q⟩
end
end Gy

set_option Elab.async false
set_option linter.all false
set_option maxRecDepth 100000
set_option maxHeartbeats 1000000
/-! Part 2: words of a yard, what stands for them in the heap; heaps that grow, heaps that are written at a yard's own places; evaluation. -/
namespace Gy
open PySem PySem.Spec PyProof.Rows L2
open Evl (Ex Ev EvL EvU EvT EvA EvO rLenS rListS rMax2)
/-! ### words -/
inductive Wd where
  | non | num (n : Int) | ptr (a : Nat) | head (n sz : Nat)
  deriving DecidableEq
def WR (H : Hp) (v : V) : Wd → Prop
  | .non => v = .non
  | .num n => ∃ t, v = .ref t ∧ H t = some (.tup [.str "is", .int n])
  | .ptr a => ∃ t, v = .ref t ∧ H t = some (.tup [.str "at", .int (a : Int)])
  | .head n s => ∃ t, v = .ref t ∧ H t = some (.tup [.str "head", .int (n : Int), .int (s : Int)])
abbrev WRs (H : Hp) : List V → List Wd → Prop := Paired (WR H)
def StR (H : Hp) (v : V) (p : Nat × Nat) : Prop := ∃ t, v = .ref t ∧ H t = some (.tup [.int (p.1 : Int), .int (p.2 : Int)])
abbrev StRs (H : Hp) : List V → List (Nat × Nat) → Prop := Paired (StR H)
def nsV (l : List Nat) : List V := l.map fun n : Nat => V.int (n : Int)
def oInt : Option Nat → V
  | none => .non
  | some n => .int (n : Int)
/-! ### Paired -/
section
variable {α β : Type} {R S : α → β → Prop}
theorem pr_get : ∀ {xs : List α} {ys : List β} {i : Nat} {x : α}, Paired R xs ys → xs[i]? = some x → ∃ y, ys[i]? = some y ∧ R x y
  | _, _, _, _, .nil, e => by simp at e
  | _, _, 0, _, .cons r t, e => by simp at e; subst e; exact ⟨_, rfl, r⟩
  | _, _, i + 1, x, .cons _ t, e => by
    obtain ⟨u, h1, h2⟩ := pr_get (i := i) (x := x) t (by simpa using e)
    exact ⟨u, by simpa using h1, h2⟩
theorem pr_getR : ∀ {xs : List α} {ys : List β} {i : Nat} {y : β}, Paired R xs ys → ys[i]? = some y → ∃ x, xs[i]? = some x ∧ R x y
  | _, _, _, _, .nil, e => by simp at e
  | _, _, 0, _, .cons r t, e => by simp at e; subst e; exact ⟨_, rfl, r⟩
  | _, _, i + 1, x, .cons _ t, e => by
    obtain ⟨u, h1, h2⟩ := pr_getR (i := i) (y := x) t (by simpa using e)
    exact ⟨u, by simpa using h1, h2⟩
theorem pr_set {x : α} {u : β} (r : R x u) : ∀ {xs : List α} {us : List β} (i : Nat), Paired R xs us → Paired R (xs.set i x) (us.set i u)
  | _, _, _, .nil => .nil
  | _, _, 0, .cons _ t => .cons r t
  | _, _, i + 1, .cons q t => .cons q (pr_set r i t)
theorem pr_app : ∀ {xs ys : List α} {us ws : List β}, Paired R xs us → Paired R ys ws → Paired R (xs ++ ys) (us ++ ws)
  | _, _, _, _, .nil, s => s
  | _, _, _, _, .cons r t, s => .cons r (pr_app t s)
theorem pr_take : ∀ {xs : List α} {us : List β} (n : Nat), Paired R xs us → Paired R (xs.take n) (us.take n)
  | _, _, 0, _ => .nil
  | _, _, _ + 1, .nil => .nil
  | _, _, n + 1, .cons r t => .cons r (pr_take n t)
theorem pr_drop : ∀ {xs : List α} {us : List β} (n : Nat), Paired R xs us → Paired R (xs.drop n) (us.drop n)
  | _, _, 0, r => r
  | _, _, _ + 1, .nil => .nil
  | _, _, n + 1, .cons _ t => pr_drop n t
theorem pr_len {xs : List α} {us : List β} (r : Paired R xs us) : xs.length = us.length := Paired.length r
theorem pr_snoc {xs : List α} {us : List β} {x : α} {u : β} (r : Paired R xs us) (q : R x u) : Paired R (xs ++ [x]) (us ++ [u]) := pr_app r (.cons q .nil)
theorem pr_imp (h : ∀ a b, R a b → S a b) : ∀ {xs : List α} {us : List β}, Paired R xs us → Paired S xs us
  | _, _, .nil => .nil
  | _, _, .cons r t => .cons (h _ _ r) (pr_imp h t)
theorem pr_rep {x : α} {u : β} (q : R x u) : ∀ n : Nat, Paired R (List.replicate n x) (List.replicate n u)
  | 0 => .nil
  | n + 1 => .cons q (pr_rep q n)
theorem pr_mem : ∀ {xs : List α} {us : List β} {x : α}, Paired R xs us → x ∈ xs → ∃ u ∈ us, R x u
  | _, _, _, .nil, e => by cases e
  | _, _, _, .cons r t, e => by
    rcases List.mem_cons.mp e with e | e
    · subst e; exact ⟨_, List.mem_cons_self, r⟩
    · obtain ⟨u, h1, h2⟩ := pr_mem t e
      exact ⟨u, List.mem_cons_of_mem _ h1, h2⟩
end
theorem pr_nil {α β : Type} {R : α → β → Prop} {xs : List α} (h : Paired R xs ([] : List β)) : xs = [] := by cases h; rfl
theorem pr_consR {α β : Type} {R : α → β → Prop} {xs : List α} {u : β} {us : List β} (h : Paired R xs (u :: us)) : ∃ x r, xs = x :: r ∧ R x u ∧ Paired R r us := by
  cases h with
  | cons r t => exact ⟨_, _, rfl, r, t⟩
theorem pr_snocR {α β : Type} {R : α → β → Prop} : ∀ {us : List β} {xs : List α} {u : β}, Paired R xs (us ++ [u]) → ∃ x r, xs = r ++ [x] ∧ R x u ∧ Paired R r us
  | [], xs, u, h => by
    obtain ⟨x, r, rfl, h1, h2⟩ := pr_consR (us := []) (by simpa using h)
    have := pr_nil h2
    subst this
    exact ⟨x, [], rfl, h1, .nil⟩
  | w :: us, xs, u, h => by
    obtain ⟨x, r, rfl, h1, h2⟩ := pr_consR (us := us ++ [u]) (by simpa using h)
    obtain ⟨y, r2, rfl, h3, h4⟩ := pr_snocR h2
    exact ⟨y, x :: r2, rfl, h3, .cons h1 h4⟩
theorem nsV_len (l : List Nat) : (nsV l).length = l.length := by unfold nsV; exact List.length_map ..
theorem nsV_app (l m : List Nat) : nsV (l ++ m) = nsV l ++ nsV m := by unfold nsV; exact List.map_append ..
theorem nsV_get {l : List Nat} {i n : Nat} (h : l[i]? = some n) : (nsV l)[i]? = some (.int (n : Int)) := by
  unfold nsV
  rw [List.getElem?_map, h]; rfl
theorem nsV_ofget {l : List Nat} {i : Nat} {x : V} (h : (nsV l)[i]? = some x) : ∃ n, l[i]? = some n ∧ x = .int (n : Int) := by
  unfold nsV at h
  rw [List.getElem?_map] at h
  cases e : l[i]? with
  | none => rw [e] at h; cases h
  | some n => rw [e] at h; exact ⟨n, rfl, (Option.some.inj h).symm⟩
theorem nsV_ints (l : List Nat) : nsV l = (l.map fun n : Nat => (n : Int)).map V.int := by
  unfold nsV
  rw [List.map_map]; rfl
/-! ### heaps -/
/-- all tuples are kept -/
def TK (H H' : Hp) : Prop := ∀ b xs, H b = some (.tup xs) → H' b = some (.tup xs)
theorem TK.refl (H : Hp) : TK H H := fun _ _ h => h
theorem TK.trans {H H1 H2 : Hp} (a : TK H H1) (b : TK H1 H2) : TK H H2 := fun c o h => b c o (a c o h)
theorem ex_tk {H H' : Hp} (e : Ex H H') : TK H H' := fun b xs h => e b _ h
theorem tk_upd {H : Hp} {a : Addr} {o : HO} (h : ∀ xs, H a ≠ some (.tup xs)) : TK H (upd H a o) := fun b xs e => by
  have n : b ≠ a := fun z => h xs (z ▸ e)
  rw [upd_ne n]; exact e
theorem WR.mono {H H' : Hp} {v : V} {w : Wd} (k : TK H H') (h : WR H v w) : WR H' v w := by
  cases w with
  | non => exact h
  | num n => obtain ⟨t, e, q⟩ := h; exact ⟨t, e, k _ _ q⟩
  | ptr n => obtain ⟨t, e, q⟩ := h; exact ⟨t, e, k _ _ q⟩
  | head n s => obtain ⟨t, e, q⟩ := h; exact ⟨t, e, k _ _ q⟩
theorem WRs.mono {H H' : Hp} {vs : List V} {ws : List Wd} (k : TK H H') (h : WRs H vs ws) : WRs H' vs ws := pr_imp (fun _ _ r => r.mono k) h
theorem StR.mono {H H' : Hp} {v : V} {w : Nat × Nat} (k : TK H H') (h : StR H v w) : StR H' v w := let ⟨t, e, q⟩ := h; ⟨t, e, k _ _ q⟩
theorem StRs.mono {H H' : Hp} {vs : List V} {ws : List (Nat × Nat)} (k : TK H H') (h : StRs H vs ws) : StRs H' vs ws := pr_imp (fun _ _ r => r.mono k) h
/-- all but what M tells is kept -/
def Keep (M : Addr → Prop) (H H' : Hp) : Prop := ∀ b o, H b = some o → ¬ M b → H' b = some o
theorem Keep.refl {M : Addr → Prop} (H : Hp) : Keep M H H := fun _ _ h _ => h
theorem Keep.trans {M : Addr → Prop} {H H1 H2 : Hp} (a : Keep M H H1) (b : Keep M H1 H2) : Keep M H H2 := fun c o h n => b c o (a c o h n) n
theorem Keep.ex {M : Addr → Prop} {H H' : Hp} (e : Ex H H') : Keep M H H' := fun b o h _ => e b o h
theorem Keep.upd {M : Addr → Prop} {H : Hp} {a : Addr} {o : HO} (h : M a) : Keep M H (upd H a o) := fun b u e n => by
  have hn : b ≠ a := fun z => n (by rw [z]; exact h)
  rw [upd_ne hn]; exact e
theorem Keep.mono {M M' : Addr → Prop} {H H' : Hp} (k : Keep M H H') (h : ∀ a, M a → M' a) : Keep M' H H' := fun b o e n => k b o e fun m => n (h b m)
theorem ex_new {H : Hp} {p : Addr} {o : HO} (h : H p = none) : Ex H (upd H p o) := Evl.Ex.new h
/-! ### the words as data -/
def pd : Wd → PyData
  | .non => .none
  | .num n => .tuple [.str "is", .int n]
  | .ptr a => .tuple [.str "at", .int (a : Int)]
  | .head n s => .tuple [.str "head", .int (n : Int), .int (s : Int)]
theorem wr_dp {K : PySem.W.Frag} {H : Hp} {v : V} {w : Wd} (h : WR H v w) : Dp K H v (pd w) := by
  cases w with
  | non => cases h; exact .non
  | num n => obtain ⟨t, rfl, q⟩ := h; exact .tup (SqT.of q) (.cons (.str _) (.cons (.int _) .nil))
  | ptr n => obtain ⟨t, rfl, q⟩ := h; exact .tup (SqT.of q) (.cons (.str _) (.cons (.int _) .nil))
  | head n s => obtain ⟨t, rfl, q⟩ := h; exact .tup (SqT.of q) (.cons (.str _) (.cons (.int _) (.cons (.int _) .nil)))
theorem wrs_dp {K : PySem.W.Frag} {H : Hp} : ∀ {vs : List V} {ws : List Wd}, WRs H vs ws → DpAll K H vs (ws.map pd)
  | _, _, .nil => .nil
  | _, _, .cons r t => .cons (wr_dp r) (wrs_dp t)
theorem ok_is : PyData.strOk "is" = true := by decide +kernel
theorem ok_at : PyData.strOk "at" = true := by decide +kernel
theorem ok_head : PyData.strOk "head" = true := by decide +kernel
theorem pd_lay (w : Wd) : (pd w).canLay0 = true := by cases w <;> simp [pd, PyData.canLay0, PyData.canLayAll0, ok_is, ok_at, ok_head]
theorem pd_depth (w : Wd) : (pd w).depth ≤ 1 := by cases w <;> simp [pd, PyData.depth, PyData.depthAll]
theorem all_lay {α : Type} {f : α → PyData} (h : ∀ a, (f a).canLay0 = true) : ∀ l : List α, PyData.canLayAll0 (l.map f) = true
  | [] => by simp [PyData.canLayAll0]
  | a :: l => by simp [PyData.canLayAll0, h a, all_lay h l]
theorem all_depth {α : Type} {f : α → PyData} {n : Nat} (h : ∀ a, (f a).depth ≤ n) : ∀ l : List α, PyData.depthAll (l.map f) ≤ n
  | [] => by simp [PyData.depthAll]
  | a :: l => by
    have h1 := h a
    have h2 := all_depth h l
    simp only [List.map_cons, PyData.depthAll]
    omega
theorem shaped_of {d : PyData} (h : d.canLay0 = true) (h2 : d.depth ≤ 64) : SeqAt.shaped d = true := by
  show (d.canLay0 && decide (d.depth ≤ 64)) = true
  rw [Bool.and_eq_true]
  exact ⟨h, decide_eq_true h2⟩
theorem pd_shaped (w : Wd) : SeqAt.shaped (pd w) = true := shaped_of (pd_lay w) (Nat.le_trans (pd_depth w) (by decide))
theorem list_shaped {α : Type} {f : α → PyData} {n : Nat} (h : ∀ a, (f a).canLay0 = true) (h2 : ∀ a, (f a).depth ≤ n) (hn : n ≤ 60) (l : List α) : SeqAt.shaped (.list (l.map f)) = true := by
  have h3 := all_depth h2 l
  exact shaped_of (by simp only [PyData.canLay0]; exact all_lay h l) (by show PyData.depthAll (l.map f) + 1 ≤ 64; omega)
theorem str_beq_self (x : Str) : (x == x) = true := by simp
theorem is_ne_at : ¬ (Str.ofString "is" = Str.ofString "at") := by decide +kernel
theorem at_ne_is : ¬ (Str.ofString "at" = Str.ofString "is") := by decide +kernel
theorem is_ne_head : ¬ (Str.ofString "is" = Str.ofString "head") := by decide +kernel
theorem head_ne_is : ¬ (Str.ofString "head" = Str.ofString "is") := by decide +kernel
theorem at_ne_head : ¬ (Str.ofString "at" = Str.ofString "head") := by decide +kernel
theorem head_ne_at : ¬ (Str.ofString "head" = Str.ofString "at") := by decide +kernel
theorem nat_beq (i j : Nat) : ((i : Int) == (j : Int)) = decide (i = j) := by
  by_cases h : i = j
  · subst h; simp
  · rw [decide_eq_false h]; exact beq_eq_false_iff_ne.mpr (by omega)
theorem int_beq (i j : Int) : (i == j) = decide (i = j) := by
  by_cases h : i = j
  · subst h; simp
  · rw [decide_eq_false h]; exact beq_eq_false_iff_ne.mpr h
theorem pd_eqv (x y : Wd) : PyData.eqv (pd x) (pd y) = decide (x = y) := by
  cases x <;> cases y <;> simp [pd, PyData.eqv, PyData.eqvAll, is_ne_at, at_ne_is, nat_beq]
  exact int_beq _ _
theorem eqvAll_map {α : Type} [DecidableEq α] {f : α → PyData} (h : ∀ a b, PyData.eqv (f a) (f b) = decide (a = b)) : ∀ l m : List α, PyData.eqvAll (l.map f) (m.map f) = decide (l = m)
  | [], [] => by simp [PyData.eqvAll]
  | [], b :: m => by simp [PyData.eqvAll]
  | a :: l, [] => by simp [PyData.eqvAll]
  | a :: l, b :: m => by
    simp only [List.map_cons, PyData.eqvAll]
    rw [h a b, eqvAll_map h l m]
    by_cases e1 : a = b <;> by_cases e2 : l = m <;> simp [e1, e2]
theorem list_eqv {α : Type} [DecidableEq α] {f : α → PyData} (h : ∀ a b, PyData.eqv (f a) (f b) = decide (a = b)) (l m : List α) : PyData.eqv (.list (l.map f)) (.list (m.map f)) = decide (l = m) := by
  simp only [PyData.eqv]
  exact eqvAll_map h l m
abbrev pdL (ws : List Wd) : PyData := .list (ws.map pd)
theorem pdL_shaped (ws : List Wd) : SeqAt.shaped (pdL ws) = true := list_shaped pd_lay pd_depth (by decide) ws
theorem pdL_eqv (a b : List Wd) : PyData.eqv (pdL a) (pdL b) = decide (a = b) := list_eqv pd_eqv a b
theorem pdL_lay (ws : List Wd) : (pdL ws).canLay0 = true := by simp only [pdL, PyData.canLay0]; exact all_lay pd_lay ws
theorem pdL_depth (ws : List Wd) : (pdL ws).depth ≤ 2 := by
  have h3 := all_depth pd_depth ws
  simp only [pdL, PyData.depth]; omega
abbrev pdLL (ws : List (List Wd)) : PyData := .list (ws.map pdL)
theorem pdLL_shaped (ws : List (List Wd)) : SeqAt.shaped (pdLL ws) = true := list_shaped pdL_lay pdL_depth (by decide) ws
theorem pdLL_eqv (a b : List (List Wd)) : PyData.eqv (pdLL a) (pdLL b) = decide (a = b) := list_eqv pdL_eqv a b
def pdN (n : Nat) : PyData := .int (n : Int)
abbrev pdNs (l : List Nat) : PyData := .list (l.map pdN)
theorem pdN_lay (n : Nat) : (pdN n).canLay0 = true := by simp [pdN, PyData.canLay0]
theorem pdN_depth (n : Nat) : (pdN n).depth ≤ 0 := by simp [pdN, PyData.depth]
theorem pdN_eqv (a b : Nat) : PyData.eqv (pdN a) (pdN b) = decide (a = b) := by
  simp only [pdN, PyData.eqv, nat_beq]
theorem pdNs_shaped (l : List Nat) : SeqAt.shaped (pdNs l) = true := list_shaped pdN_lay pdN_depth (by decide) l
theorem pdNs_eqv (a b : List Nat) : PyData.eqv (pdNs a) (pdNs b) = decide (a = b) := list_eqv pdN_eqv a b
theorem nsV_dp {K : PySem.W.Frag} {H : Hp} : ∀ l : List Nat, DpAll K H (nsV l) (l.map pdN)
  | [] => .nil
  | n :: l => .cons (.int _) (nsV_dp l)
end Gy

set_option Elab.async false
set_option linter.all false
set_option maxRecDepth 100000
set_option maxHeartbeats 1000000
/-! Part 3: a yard in the heap. -/
namespace Gy
open PySem PySem.Spec PyProof.Rows L2
open Evl (Ex Ev EvL EvU EvT EvA EvO rLenS rListS rMax2)
/-- where a yard's own objects stand: the instance, its dict, its words, roots, gone, led_in -/
structure YA where
  p : Addr
  dx : Addr
  lw : Addr
  lr : Addr
  lg : Addr
  ld : Addr
  al : Addr → Prop
def YA.own (Y : YA) (b : Addr) : Prop := b = Y.p ∨ b = Y.lw ∨ b = Y.lr ∨ b = Y.lg ∨ b = Y.ld
/-- neither own nor one of the lists that stand outside -/
def YA.far (Y : YA) (b : Addr) : Prop := ¬ Y.own b ∧ ¬ Y.al b
/-- what a yard holds -/
structure YS where
  words : List Wd
  roots : List Wd
  born : Nat
  gone : List Nat
  last : Bool
  free : List (Nat × Nat)
  led : List (Nat × Int)
def fls (Y : YA) (born : Nat) (lf : Addr) (lv : V) : List (Str × V) :=
  [("room", .int 60), ("words", .ref Y.lw), ("roots", .ref Y.lr), ("born", .int (born : Int)), ("gone", .ref Y.lg), ("last", lv), ("free", .ref lf), ("led_in", .ref Y.ld)]
def kvs (l : List (Nat × Int)) : List (Key × V) := l.map fun e : Nat × Int => ((Sum.inl (e.1 : Int) : Key), V.int e.2)
def FreeAt (H : Hp) (lf : Addr) (fs : List (Nat × Nat)) : Prop := ∃ xs, H lf = some (.lst xs) ∧ StRs H xs fs
/-- the last paper: a tuple of two lists, no own ones -/
def LastAt (Y : YA) (H : Hp) (lv : V) : Bool → Prop
  | false => lv = .non
  | true => ∃ t k s kx sx, lv = .ref t ∧ H t = some (.tup [.ref k, .ref s]) ∧ H k = some (.lst kx) ∧ H s = some (.lst sx) ∧ Y.far k ∧ Y.far s
structure YAt (K : PySem.W.Frag) (Y : YA) (H : Hp) (s : YS) : Prop where
  ins : ∃ lf lv, H Y.p = some (.ins (aC K) Y.dx (fls Y s.born lf lv)) ∧ FreeAt H lf s.free ∧ Y.far lf ∧ LastAt Y H lv s.last
  wd : ∃ ws, H Y.lw = some (.lst ws) ∧ WRs H ws s.words
  rt : ∃ rs, H Y.lr = some (.lst rs) ∧ WRs H rs s.roots
  gn : H Y.lg = some (.lst (nsV s.gone))
  ld : H Y.ld = some (.dK (kvs s.led))
  wr : Y.lw ≠ Y.lr
  wg : Y.lw ≠ Y.lg
  rg : Y.lr ≠ Y.lg
  als : ∀ b, Y.al b → H b ≠ none ∧ ¬ Y.own b
/-! ### the attributes -/
theorem beq_str {a b : Str} (h : ¬ a = b) : (a == b) = false := by simpa using h
section
variable {Y : YA} {born : Nat} {lf : Addr} {lv : V}
theorem fl_words : (fls Y born lf lv).lookup ("words" : Str) = some (.ref Y.lw) := by
  have h1 : (("words" : Str) == "room") = false := by decide +kernel
  simp [fls, List.lookup, h1]
theorem fl_roots : (fls Y born lf lv).lookup ("roots" : Str) = some (.ref Y.lr) := by
  have h1 : (("roots" : Str) == "room") = false := by decide +kernel
  have h2 : (("roots" : Str) == "words") = false := by decide +kernel
  simp [fls, List.lookup, h1, h2]
theorem fl_born : (fls Y born lf lv).lookup ("born" : Str) = some (.int (born : Int)) := by
  have h1 : (("born" : Str) == "room") = false := by decide +kernel
  have h2 : (("born" : Str) == "words") = false := by decide +kernel
  have h3 : (("born" : Str) == "roots") = false := by decide +kernel
  simp [fls, List.lookup, h1, h2, h3]
theorem fl_gone : (fls Y born lf lv).lookup ("gone" : Str) = some (.ref Y.lg) := by
  have h1 : (("gone" : Str) == "room") = false := by decide +kernel
  have h2 : (("gone" : Str) == "words") = false := by decide +kernel
  have h3 : (("gone" : Str) == "roots") = false := by decide +kernel
  have h4 : (("gone" : Str) == "born") = false := by decide +kernel
  simp [fls, List.lookup, h1, h2, h3, h4]
theorem fl_last : (fls Y born lf lv).lookup ("last" : Str) = some lv := by
  have h1 : (("last" : Str) == "room") = false := by decide +kernel
  have h2 : (("last" : Str) == "words") = false := by decide +kernel
  have h3 : (("last" : Str) == "roots") = false := by decide +kernel
  have h4 : (("last" : Str) == "born") = false := by decide +kernel
  have h5 : (("last" : Str) == "gone") = false := by decide +kernel
  simp [fls, List.lookup, h1, h2, h3, h4, h5]
theorem fl_free : (fls Y born lf lv).lookup ("free" : Str) = some (.ref lf) := by
  have h1 : (("free" : Str) == "room") = false := by decide +kernel
  have h2 : (("free" : Str) == "words") = false := by decide +kernel
  have h3 : (("free" : Str) == "roots") = false := by decide +kernel
  have h4 : (("free" : Str) == "born") = false := by decide +kernel
  have h5 : (("free" : Str) == "gone") = false := by decide +kernel
  have h6 : (("free" : Str) == "last") = false := by decide +kernel
  simp [fls, List.lookup, h1, h2, h3, h4, h5, h6]
theorem fl_led : (fls Y born lf lv).lookup ("led_in" : Str) = some (.ref Y.ld) := by
  have h1 : (("led_in" : Str) == "room") = false := by decide +kernel
  have h2 : (("led_in" : Str) == "words") = false := by decide +kernel
  have h3 : (("led_in" : Str) == "roots") = false := by decide +kernel
  have h4 : (("led_in" : Str) == "born") = false := by decide +kernel
  have h5 : (("led_in" : Str) == "gone") = false := by decide +kernel
  have h6 : (("led_in" : Str) == "last") = false := by decide +kernel
  have h7 : (("led_in" : Str) == "free") = false := by decide +kernel
  simp [fls, List.lookup, h1, h2, h3, h4, h5, h6, h7]
def flNames : List Str := ["room", "words", "roots", "born", "gone", "last", "free", "led_in"]
theorem look_none {m : Str} : ∀ {l : List (Str × V)}, m ∉ l.map (·.1) → l.lookup m = none
  | [], _ => rfl
  | (a, b) :: l, h => by
    have h1 : ¬ m = a := fun z => h (by rw [z]; exact List.mem_cons_self)
    have h2 : m ∉ l.map (·.1) := fun z => h (List.mem_cons_of_mem _ z)
    have h3 : (m == a) = false := by simpa using h1
    simp [List.lookup, h3, look_none h2]
theorem fl_no {m : Str} (h : m ∉ flNames) : (fls Y born lf lv).lookup m = none := look_none h
theorem fl_len : (fls Y born lf lv).length < 1000 := by show 8 < 1000; decide
theorem put_last {v : V} : putF "last" v (fls Y born lf lv) = fls Y born lf v := by
  have h1 : ¬ (("room" : Str) = "last") := by decide +kernel
  have h2 : ¬ (("words" : Str) = "last") := by decide +kernel
  have h3 : ¬ (("roots" : Str) = "last") := by decide +kernel
  have h4 : ¬ (("born" : Str) = "last") := by decide +kernel
  have h5 : ¬ (("gone" : Str) = "last") := by decide +kernel
  simp [fls, putF, h1, h2, h3, h4, h5]
theorem put_free {a : Addr} : putF "free" (.ref a) (fls Y born lf lv) = fls Y born a lv := by
  have h1 : ¬ (("room" : Str) = "free") := by decide +kernel
  have h2 : ¬ (("words" : Str) = "free") := by decide +kernel
  have h3 : ¬ (("roots" : Str) = "free") := by decide +kernel
  have h4 : ¬ (("born" : Str) = "free") := by decide +kernel
  have h5 : ¬ (("gone" : Str) = "free") := by decide +kernel
  have h6 : ¬ (("last" : Str) = "free") := by decide +kernel
  simp [fls, putF, h1, h2, h3, h4, h5, h6]
theorem put_born {n : Nat} : putF "born" (.int (n : Int)) (fls Y born lf lv) = fls Y n lf lv := by
  have h1 : ¬ (("room" : Str) = "born") := by decide +kernel
  have h2 : ¬ (("words" : Str) = "born") := by decide +kernel
  have h3 : ¬ (("roots" : Str) = "born") := by decide +kernel
  simp [fls, putF, h1, h2, h3]
end
/-! ### a yard stands while its own objects do -/
section
variable {K : PySem.W.Frag} {Y : YA} {H H' : Hp} {s : YS}
theorem YAt.noT (h : YAt K Y H s) : ∀ b xs, H b = some (.tup xs) → ¬ Y.own b := by
  intro b xs e o
  obtain ⟨lf, lv, hi, _⟩ := h.ins
  obtain ⟨ws, hw, _⟩ := h.wd
  obtain ⟨rs, hr, _⟩ := h.rt
  rcases o with o | o | o | o | o <;> subst o
  · rw [hi] at e; cases e
  · rw [hw] at e; cases e
  · rw [hr] at e; cases e
  · rw [h.gn] at e; cases e
  · rw [h.ld] at e; cases e
theorem YAt.tk (h : YAt K Y H s) (k : Keep Y.own H H') : TK H H' := fun b xs e => k b _ e (h.noT b xs e)
theorem YAt.ownSome (h : YAt K Y H s) {b : Addr} (o : Y.own b) : H b ≠ none := by
  obtain ⟨lf, lv, hi, _⟩ := h.ins
  obtain ⟨ws, hw, _⟩ := h.wd
  obtain ⟨rs, hr, _⟩ := h.rt
  intro e
  rcases o with o | o | o | o | o <;> subst o
  · rw [hi] at e; cases e
  · rw [hw] at e; cases e
  · rw [hr] at e; cases e
  · rw [h.gn] at e; cases e
  · rw [h.ld] at e; cases e
theorem YAt.new (h : YAt K Y H s) {b : Addr} (e : H b = none) : Y.far b := ⟨fun o => h.ownSome o e, fun o => (h.als b o).1 e⟩
theorem FreeAt.keep {M : Addr → Prop} {lf : Addr} {fs : List (Nat × Nat)} (k : Keep M H H') (t : TK H H') (h : FreeAt H lf fs) (n : ¬ M lf) : FreeAt H' lf fs := by
  obtain ⟨xs, e, r⟩ := h
  exact ⟨xs, k _ _ e n, r.mono t⟩
theorem LastAt.keep {lv : V} : ∀ {b : Bool}, Keep Y.own H H' → TK H H' → LastAt Y H lv b → LastAt Y H' lv b
  | false, _, _, h => h
  | true, k, t, ⟨a, c, d, kx, sx, e, h1, h2, h3, n1, n2⟩ => ⟨a, c, d, kx, sx, e, t _ _ h1, k _ _ h2 n1.1, k _ _ h3 n2.1, n1, n2⟩
/-- a heap that keeps all but some of the yard's own objects, which hold the new state -/
theorem YAt.step {s' : YS} (h : YAt K Y H s) (k : Keep Y.own H H')
    (ins : ∀ lf lv, H Y.p = some (.ins (aC K) Y.dx (fls Y s.born lf lv)) → FreeAt H' lf s.free → Y.far lf → LastAt Y H' lv s.last → ∃ lf' lv', H' Y.p = some (.ins (aC K) Y.dx (fls Y s'.born lf' lv')) ∧ FreeAt H' lf' s'.free ∧ Y.far lf' ∧ LastAt Y H' lv' s'.last)
    (wd : ∀ ws, H Y.lw = some (.lst ws) → WRs H' ws s.words → ∃ ws', H' Y.lw = some (.lst ws') ∧ WRs H' ws' s'.words)
    (rt : ∀ rs, H Y.lr = some (.lst rs) → WRs H' rs s.roots → ∃ rs', H' Y.lr = some (.lst rs') ∧ WRs H' rs' s'.roots)
    (gn : H Y.lg = some (.lst (nsV s.gone)) → H' Y.lg = some (.lst (nsV s'.gone))) (ld : H Y.ld = some (.dK (kvs s.led)) → H' Y.ld = some (.dK (kvs s'.led))) : YAt K Y H' s' := by
  have t := h.tk k
  obtain ⟨lf, lv, hi, hf, hn, hl⟩ := h.ins
  obtain ⟨ws, hw, hws⟩ := h.wd
  obtain ⟨rs, hr, hrs⟩ := h.rt
  have hal : ∀ b, Y.al b → H' b ≠ none ∧ ¬ Y.own b := fun b o => by
    refine ⟨fun z => ?_, (h.als b o).2⟩
    cases q : H b with
    | none => exact (h.als b o).1 q
    | some u => rw [k b u q (h.als b o).2] at z; cases z
  exact ⟨ins lf lv hi (hf.keep k t hn.1) hn (hl.keep k t), wd ws hw (hws.mono t), rt rs hr (hrs.mono t), gn h.gn, ld h.ld, h.wr, h.wg, h.rg, hal⟩
theorem YAt.ex (h : YAt K Y H s) (e : Ex H H') : YAt K Y H' s :=
  h.step (Keep.ex e) (fun lf lv hi hf hn hl => ⟨lf, lv, e _ _ hi, hf, hn, hl⟩) (fun ws hw r => ⟨ws, e _ _ hw, r⟩) (fun rs hr r => ⟨rs, e _ _ hr, r⟩) (fun z => e _ _ z) (fun z => e _ _ z)
theorem YAt.ne (h : YAt K Y H s) : Y.lw ≠ Y.p ∧ Y.lr ≠ Y.p ∧ Y.lg ≠ Y.p ∧ Y.ld ≠ Y.p ∧ Y.lw ≠ Y.ld ∧ Y.lr ≠ Y.ld ∧ Y.lg ≠ Y.ld := by
  obtain ⟨lf, lv, hi, _⟩ := h.ins
  obtain ⟨ws, hw, _⟩ := h.wd
  obtain ⟨rs, hr, _⟩ := h.rt
  exact ⟨ne_of hw hi (by intro q; cases q), ne_of hr hi (by intro q; cases q), ne_of h.gn hi (by intro q; cases q), ne_of h.ld hi (by intro q; cases q), ne_of hw h.ld (by intro q; cases q), ne_of hr h.ld (by intro q; cases q), ne_of h.gn h.ld (by intro q; cases q)⟩
theorem own_p : Y.own Y.p := .inl rfl
theorem own_lw : Y.own Y.lw := .inr (.inl rfl)
theorem own_lr : Y.own Y.lr := .inr (.inr (.inl rfl))
theorem own_lg : Y.own Y.lg := .inr (.inr (.inr (.inl rfl)))
theorem own_ld : Y.own Y.ld := .inr (.inr (.inr (.inr rfl)))
/-- the words are written -/
theorem YAt.setW {ws' : List V} {w' : List Wd} (h : YAt K Y H s) (r : WRs H ws' w') : YAt K Y (upd H Y.lw (.lst ws')) { s with words := w' } := by
  obtain ⟨n1, n2, n3, n4, n5, n6, n7⟩ := h.ne
  have k : Keep Y.own H (upd H Y.lw (.lst ws')) := Keep.upd own_lw
  have r' := r.mono (h.tk k)
  exact h.step k (fun lf lv hi hf hn hl => ⟨lf, lv, by rw [upd_ne n1.symm]; exact hi, hf, hn, hl⟩) (fun ws hw _ => ⟨ws', upd_same, r'⟩) (fun rs hr q => ⟨rs, by rw [upd_ne h.wr.symm]; exact hr, q⟩)
    (fun z => by rw [upd_ne h.wg.symm]; exact z) (fun z => by rw [upd_ne n5.symm]; exact z)
theorem YAt.setR {rs' : List V} {r' : List Wd} (h : YAt K Y H s) (r : WRs H rs' r') : YAt K Y (upd H Y.lr (.lst rs')) { s with roots := r' } := by
  obtain ⟨n1, n2, n3, n4, n5, n6, n7⟩ := h.ne
  have k : Keep Y.own H (upd H Y.lr (.lst rs')) := Keep.upd own_lr
  have q' := r.mono (h.tk k)
  exact h.step k (fun lf lv hi hf hn hl => ⟨lf, lv, by rw [upd_ne n2.symm]; exact hi, hf, hn, hl⟩) (fun ws hw q => ⟨ws, by rw [upd_ne h.wr]; exact hw, q⟩) (fun rs hr q => ⟨rs', upd_same, q'⟩)
    (fun z => by rw [upd_ne h.rg.symm]; exact z) (fun z => by rw [upd_ne n6.symm]; exact z)
theorem YAt.setG {g' : List Nat} (h : YAt K Y H s) : YAt K Y (upd H Y.lg (.lst (nsV g'))) { s with gone := g' } := by
  obtain ⟨n1, n2, n3, n4, n5, n6, n7⟩ := h.ne
  have k : Keep Y.own H (upd H Y.lg (.lst (nsV g'))) := Keep.upd own_lg
  exact h.step k (fun lf lv hi hf hn hl => ⟨lf, lv, by rw [upd_ne n3.symm]; exact hi, hf, hn, hl⟩) (fun ws hw q => ⟨ws, by rw [upd_ne h.wg]; exact hw, q⟩) (fun rs hr q => ⟨rs, by rw [upd_ne h.rg]; exact hr, q⟩)
    (fun z => upd_same) (fun z => by rw [upd_ne n7.symm]; exact z)
theorem YAt.setL {l' : List (Nat × Int)} (h : YAt K Y H s) : YAt K Y (upd H Y.ld (.dK (kvs l'))) { s with led := l' } := by
  obtain ⟨n1, n2, n3, n4, n5, n6, n7⟩ := h.ne
  have k : Keep Y.own H (upd H Y.ld (.dK (kvs l'))) := Keep.upd own_ld
  exact h.step k (fun lf lv hi hf hn hl => ⟨lf, lv, by rw [upd_ne n4.symm]; exact hi, hf, hn, hl⟩) (fun ws hw q => ⟨ws, by rw [upd_ne n5]; exact hw, q⟩) (fun rs hr q => ⟨rs, by rw [upd_ne n6]; exact hr, q⟩)
    (fun z => by rw [upd_ne n7]; exact z) (fun z => upd_same)
/-- an attribute is written -/
theorem YAt.setI {born' : Nat} {lf' : Addr} {lv' : V} {free' : List (Nat × Nat)} {last' : Bool} (h : YAt K Y H s) (hf : FreeAt H lf' free') (hn : Y.far lf') (hl : LastAt Y H lv' last') :
    YAt K Y (upd H Y.p (.ins (aC K) Y.dx (fls Y born' lf' lv'))) { s with born := born', free := free', last := last' } := by
  obtain ⟨n1, n2, n3, n4, n5, n6, n7⟩ := h.ne
  have k : Keep Y.own H (upd H Y.p (.ins (aC K) Y.dx (fls Y born' lf' lv'))) := Keep.upd own_p
  have t := h.tk k
  exact h.step k (fun lf lv hi _ _ _ => ⟨lf', lv', upd_same, hf.keep k t hn.1, hn, hl.keep k t⟩) (fun ws hw q => ⟨ws, by rw [upd_ne n1]; exact hw, q⟩) (fun rs hr q => ⟨rs, by rw [upd_ne n2]; exact hr, q⟩)
    (fun z => by rw [upd_ne n3]; exact z) (fun z => by rw [upd_ne n4]; exact z)
end
/-- a yard that was in H0, now in H -/
structure Yd (K : PySem.W.Frag) (Y : YA) (H0 H : Hp) (s : YS) : Prop where
  at_ : YAt K Y H s
  kp : Keep Y.own H0 H
  tk : TK H0 H
section
variable {K : PySem.W.Frag} {Y : YA} {H0 H H' : Hp} {s s' : YS}
theorem Yd.refl (h : YAt K Y H s) : Yd K Y H H s := ⟨h, Keep.refl _, TK.refl _⟩
theorem Yd.ex (h : Yd K Y H0 H s) (e : Ex H H') : Yd K Y H0 H' s := ⟨h.at_.ex e, h.kp.trans (Keep.ex e), h.tk.trans (ex_tk e)⟩
theorem Yd.go (h : Yd K Y H0 H s) (q : Yd K Y H H' s') : Yd K Y H0 H' s' := ⟨q.at_, h.kp.trans q.kp, h.tk.trans q.tk⟩
theorem Yd.by (h : Yd K Y H0 H s) (q : YAt K Y H' s') (k : Keep Y.own H H') : Yd K Y H0 H' s' := ⟨q, h.kp.trans k, h.tk.trans (h.at_.tk k)⟩
end
section
variable {K : PySem.W.Frag} {Y : YA} {H0 H H' : Hp} {s s' : YS}
theorem Yd.back (h : Yd K Y H0 H s) {b : Addr} (e : H b = none) : H0 b = none := by
  have n : ¬ Y.own b := (h.at_.new e).1
  cases q : H0 b with
  | none => rfl
  | some o => rw [h.kp b o q n] at e; cases e
/-- lists outside are changed, others join them -/
theorem YAt.out {al' : Addr → Prop} (h : YAt K Y H s) (k : Keep Y.al H H') (t : TK H H') (ha : ∀ b, al' b → (Y.al b ∨ H b = none) ∧ H' b ≠ none) : YAt K { Y with al := al' } H' s := by
  obtain ⟨lf, lv, hi, hf, hn, hl⟩ := h.ins
  obtain ⟨ws, hw, rw⟩ := h.wd
  obtain ⟨rs, hr, rr⟩ := h.rt
  have nal : ∀ b, Y.own b → ¬ Y.al b := fun b o a => (h.als b a).2 o
  have far : ∀ b o, H b = some o → Y.far b → YA.far { Y with al := al' } b := fun b o e f => ⟨f.1, fun a => by
    rcases (ha b a).1 with q | q
    · exact f.2 q
    · rw [e] at q; cases q⟩
  have hf0 := hf
  obtain ⟨xs, hx, rx⟩ := hf
  refine ⟨⟨lf, lv, k _ _ hi (nal _ own_p), hf0.keep (M := Y.al) k t hn.2, far _ _ hx hn, ?_⟩, ⟨ws, k _ _ hw (nal _ own_lw), rw.mono t⟩, ⟨rs, k _ _ hr (nal _ own_lr), rr.mono t⟩, k _ _ h.gn (nal _ own_lg), k _ _ h.ld (nal _ own_ld), h.wr, h.wg, h.rg, fun b a => ⟨(ha b a).2, fun o => ?_⟩⟩
  · cases e : s.last with
    | false => rw [e] at hl; exact hl
    | true =>
      rw [e] at hl
      obtain ⟨a, c, d, kx, sx, e, h1, h2, h3, n1, n2⟩ := hl
      exact ⟨a, c, d, kx, sx, e, t _ _ h1, k _ _ h2 n1.2, k _ _ h3 n2.2, far _ _ h2 n1, far _ _ h3 n2⟩
  · rcases (ha b a).1 with q | q
    · exact nal b o q
    · exact (h.new q).1 o
end
end Gy

set_option Elab.async false
set_option linter.all false
set_option maxRecDepth 100000
set_option maxHeartbeats 1000000
/-! Part 4: evaluation: values with a property, fields of a yard, method calls, comprehensions. -/
namespace Gy
open PySem PySem.Spec PyProof.Rows L2
open Evl (Ex Ev EvL EvU EvT EvA EvO rLenS rListS rMax2)
/-- what the pure theorems lean on -/
structure Tk (K : PySem.W.Frag) : Prop where
  cl : Cls K (aC K)
  words : NoAttr K (aC K) "words"
  roots : NoAttr K (aC K) "roots"
  born : NoAttr K (aC K) "born"
  gone : NoAttr K (aC K) "gone"
  last : NoAttr K (aC K) "last"
  free : NoAttr K (aC K) "free"
  led_in : NoAttr K (aC K) "led_in"
  room : NoAttr K (aC K) "room"
  e_NoCell_NoRoot : PySem.W.exmOne K (.ref (aF K "NoCell")) (.ref (aF K "NoRoot")) = some false
  e_NoCell_NoSize : PySem.W.exmOne K (.ref (aF K "NoCell")) (.ref (aF K "NoSize")) = some false
  e_NoCell_NoNumber : PySem.W.exmOne K (.ref (aF K "NoCell")) (.ref (aF K "NoNumber")) = some false
  e_NoCell_NoCell : PySem.W.exmOne K (.ref (aF K "NoCell")) (.ref (aF K "NoCell")) = some true
  e_NoSlot_NoRoot : PySem.W.exmOne K (.ref (aF K "NoSlot")) (.ref (aF K "NoRoot")) = some false
  e_NoSlot_NoSize : PySem.W.exmOne K (.ref (aF K "NoSlot")) (.ref (aF K "NoSize")) = some false
  e_NoSlot_NoNumber : PySem.W.exmOne K (.ref (aF K "NoSlot")) (.ref (aF K "NoNumber")) = some false
  e_NoSlot_NoCell : PySem.W.exmOne K (.ref (aF K "NoSlot")) (.ref (aF K "NoCell")) = some false
  e_NoSlot_NoSlot : PySem.W.exmOne K (.ref (aF K "NoSlot")) (.ref (aF K "NoSlot")) = some true
  e_Full_NoRoot : PySem.W.exmOne K (.ref (aF K "Full")) (.ref (aF K "NoRoot")) = some false
  e_Full_NoSize : PySem.W.exmOne K (.ref (aF K "Full")) (.ref (aF K "NoSize")) = some false
  e_Full_NoNumber : PySem.W.exmOne K (.ref (aF K "Full")) (.ref (aF K "NoNumber")) = some false
  e_Full_NoCell : PySem.W.exmOne K (.ref (aF K "Full")) (.ref (aF K "NoCell")) = some false
  e_Full_NoSlot : PySem.W.exmOne K (.ref (aF K "Full")) (.ref (aF K "NoSlot")) = some false
  e_Full_Full : PySem.W.exmOne K (.ref (aF K "Full")) (.ref (aF K "Full")) = some true
/-- a value with a property -/
def EvP (te : TE) (σ : L2.St) (H : Hp) (P : V → Hp → Prop) : Prop := ∀ H1, Ex H H1 → ∀ Q : VK, (∀ v H2, Ex H1 H2 → P v H2 → Q v H2) → te σ H1 Q
section
variable {K : PySem.W.Frag} {σ : L2.St} {H H' : Hp} {ta tb te tx : TE} {t u : TT} {x y z v : V} {r : R2} {P P' : V → Hp → Prop} {D : Ends} {tu tw tz : TS} {g : TG} {i j : Nat}
theorem evp_of (h : Ev te σ H v) : EvP te σ H (fun x _ => x = v) := fun H1 e Q q => h H1 e Q fun H2 e2 => q v H2 e2 rfl
theorem ev_of (h : EvP te σ H (fun x _ => x = v)) : Ev te σ H v := fun H1 e Q q => h H1 e Q fun x H2 e2 ex => by rw [ex]; exact q H2 e2
theorem EvP.mono (e : Ex H H') (h : EvP te σ H P) : EvP te σ H' P := fun H1 a Q q => h H1 (e.trans a) Q q
theorem EvP.imp (h : EvP te σ H P) (k : ∀ v H1, Ex H H1 → P v H1 → P' v H1) : EvP te σ H P' := fun H1 a Q q => h H1 a Q fun v H2 e2 p => q v H2 e2 (k v H2 (a.trans e2) p)
theorem evp_L {xs : List V} (h : EvL te σ H xs) : EvP te σ H (fun v H' => ∃ p, v = .ref p ∧ H p = none ∧ H' p = some (.lst xs)) := fun H1 e Q q => h H1 e Q fun p H2 hp e2 h2 => q _ H2 e2 ⟨p, rfl, Evl.fresh_back e hp, h2⟩
theorem evp_U {xs : List V} (h : EvU te σ H xs) : EvP te σ H (fun v H' => ∃ p, v = .ref p ∧ H p = none ∧ H' p = some (.tup xs)) := fun H1 e Q q => h H1 e Q fun p H2 hp e2 h2 => q _ H2 e2 ⟨p, rfl, Evl.fresh_back e hp, h2⟩
theorem q_asgP (h : EvP te σ H P) (k : ∀ v H1, Ex H H1 → P v H1 → tz D (σ.set i (some v)) H1) : tSeq (tAsg te (gName i)) tz D σ H := h H (Ex.refl H) _ fun v H1 e p => k v H1 e p
theorem s_asgP (h : EvP te σ H P) (k : ∀ v H1, Ex H H1 → P v H1 → D.nx (σ.set i (some v)) H1) : tAsg te (gName i) D σ H := h H (Ex.refl H) _ fun v H1 e p => k v H1 e p
theorem s_retP (h : EvP te σ H P) (k : ∀ v H1, Ex H H1 → P v H1 → D.rt v H1) : tRet te D σ H := h H (Ex.refl H) _ k
theorem q_dropP (h : EvP te σ H P) (k : ∀ v H1, Ex H H1 → P v H1 → tz D σ H1) : tSeq (tDrop te) tz D σ H := h H (Ex.refl H) _ k
theorem evp_call {sp : Sp} {E : XK} {ta : TA} {vs : List V} (h : EvA ta σ H vs) (hs : ∀ H1, Ex H H1 → ∀ Q : VK, (∀ v H2, Ex H1 H2 → P v H2 → Q v H2) → sp vs H1 Q E) : EvP (tCall sp [] E ta) σ H P := fun H1 e Q q =>
  h H1 e _ fun H2 e2 => by
    have z := hs H2 (e.trans e2) Q fun v H3 e3 p => q v H3 (e2.trans e3) p
    show sp (vs ++ []) H2 Q E
    rw [List.append_nil]; exact z
/-- a two-place operation whose operands have a property -/
theorem evp_op {Pa Pb : V → Hp → Prop} (ha : EvP ta σ H Pa) (hb : EvP tb σ H Pb) (hr : ∀ x y H1 H2, Ex H H1 → Pa x H1 → Ex H1 H2 → Pb y H2 → ∀ Q : VK, (∀ v H3, Ex H2 H3 → P v H3 → Q v H3) → r x y H2 Q) : EvP (tOp r ta tb) σ H P := fun H1 e Q q =>
  ha H1 e _ fun x H2 e2 pa => hb H2 (e.trans e2) _ fun y H3 e3 pb => hr x y H2 H3 (e.trans e2) pa e3 pb Q fun v H4 e4 p => q v H4 ((e2.trans e3).trans e4) p
/-! ### fields -/
theorem ev_fld {a C dx : Addr} {fs : List (Str × V)} {f : Str} (ha : Ev ta σ H (.ref a)) (hi : H a = some (.ins C dx fs)) (hc : Cls K C) (hn : NoAttr K C f) (hl : fs.lookup f = some v) : Ev (tFld K ta f) σ H v := fun H1 e Q q =>
  ha H1 e _ fun H2 e2 => ⟨a, C, dx, fs, v, rfl, (e.trans e2) _ _ hi, hc, hn, hl, q H2 e2⟩
variable {Y : YA} {s : YS}
theorem YAt.ewords (h : YAt K Y H s) (N : Tk K) (hs : σ[i]? = some (some (.ref Y.p))) : Ev (tFld K (tVar i) "words") σ H (.ref Y.lw) := by
  obtain ⟨lf, lv, hi, _⟩ := h.ins
  exact ev_fld (Evl.ev_var hs) hi N.cl N.words fl_words
theorem YAt.eroots (h : YAt K Y H s) (N : Tk K) (hs : σ[i]? = some (some (.ref Y.p))) : Ev (tFld K (tVar i) "roots") σ H (.ref Y.lr) := by
  obtain ⟨lf, lv, hi, _⟩ := h.ins
  exact ev_fld (Evl.ev_var hs) hi N.cl N.roots fl_roots
theorem YAt.egone (h : YAt K Y H s) (N : Tk K) (hs : σ[i]? = some (some (.ref Y.p))) : Ev (tFld K (tVar i) "gone") σ H (.ref Y.lg) := by
  obtain ⟨lf, lv, hi, _⟩ := h.ins
  exact ev_fld (Evl.ev_var hs) hi N.cl N.gone fl_gone
theorem YAt.eled (h : YAt K Y H s) (N : Tk K) (hs : σ[i]? = some (some (.ref Y.p))) : Ev (tFld K (tVar i) "led_in") σ H (.ref Y.ld) := by
  obtain ⟨lf, lv, hi, _⟩ := h.ins
  exact ev_fld (Evl.ev_var hs) hi N.cl N.led_in fl_led
theorem YAt.eborn (h : YAt K Y H s) (N : Tk K) (hs : σ[i]? = some (some (.ref Y.p))) : Ev (tFld K (tVar i) "born") σ H (.int (s.born : Int)) := by
  obtain ⟨lf, lv, hi, _⟩ := h.ins
  exact ev_fld (Evl.ev_var hs) hi N.cl N.born fl_born
/-! ### a method of the yard -/
theorem m_go {to : TE} {ta : TA} {m : Str} {sp : Sp} {vs : List V} {Q : VK} {E : XK} (h : YAt K Y H s) (ho : Ev to σ H (.ref Y.p)) (ha : EvA ta σ H vs) (hm : m ∉ flNames) (k : ∀ H1, Ex H H1 → sp (.ref Y.p :: vs) H1 Q E) : tMeth (aC K) m sp [] E to ta σ H Q := by
  refine ho H (Ex.refl H) _ fun H1 e1 => ?_
  obtain ⟨lf, lv, hi, _⟩ := (h.ex e1).ins
  refine ⟨Y.p, Y.dx, _, rfl, hi, fl_no hm, ha H1 e1 _ fun H2 e2 => ?_⟩
  show sp (.ref Y.p :: (vs ++ [])) H2 Q E
  rw [List.append_nil]
  exact k H2 (e1.trans e2)
theorem m_ev {to : TE} {ta : TA} {m : Str} {sp : Sp} {vs : List V} {E : XK} (h : YAt K Y H s) (ho : Ev to σ H (.ref Y.p)) (ha : EvA ta σ H vs) (hm : m ∉ flNames) (k : ∀ H1, Ex H H1 → ∀ Q : VK, (∀ v H2, Ex H1 H2 → P v H2 → Q v H2) → sp (.ref Y.p :: vs) H1 Q E) :
    EvP (tMeth (aC K) m sp [] E to ta) σ H P := fun H1 e Q q => m_go (h.ex e) (ho.mono e) (ha.mono e) hm fun H2 e2 => k H2 (e.trans e2) Q fun v H3 e3 p => q v H3 (e2.trans e3) p
/-! ### tests on words -/
def isPtr : Wd → Bool
  | .ptr _ => true
  | _ => false
def isHead : Wd → Bool
  | .head _ _ => true
  | _ => false
theorem s_is_at : ¬ (("is" : Str) = "at") := by decide +kernel
theorem s_head_at : ¬ (("head" : Str) = "at") := by decide +kernel
theorem s_is_head : ¬ (("is" : Str) = "head") := by decide +kernel
theorem s_at_head : ¬ (("at" : Str) = "head") := by decide +kernel
theorem s_at_is : ¬ (("at" : Str) = "is") := by decide +kernel
theorem s_head_is : ¬ (("head" : Str) = "is") := by decide +kernel
/-- the first place of a word -/
def tagS : Wd → Str
  | .non => ""
  | .num _ => "is"
  | .ptr _ => "at"
  | .head _ _ => "head"
theorem ev_tag {w : Wd} (h : WR H v w) (hn : w ≠ .non) (ha : Ev ta σ H v) : Ev (tOp (rIxT K) ta (tC (.int 0))) σ H (.str (tagS w)) := by
  cases w with
  | non => exact absurd rfl hn
  | num n => obtain ⟨t, rfl, q⟩ := h; exact Evl.ev_op ha Evl.ev_c (Evl.rv_ixT (Evl.st_of q) rfl)
  | ptr n => obtain ⟨t, rfl, q⟩ := h; exact Evl.ev_op ha Evl.ev_c (Evl.rv_ixT (Evl.st_of q) rfl)
  | head n s => obtain ⟨t, rfl, q⟩ := h; exact Evl.ev_op ha Evl.ev_c (Evl.rv_ixT (Evl.st_of q) rfl)
theorem dec_str {a b : Str} : decide (V.str a = V.str b) = decide (a = b) := by
  by_cases h : a = b
  · rw [h]; simp
  · rw [decide_eq_false h]; exact decide_eq_false fun z => h (by injection z)
theorem dec_int {a b : Int} : decide (V.int a = V.int b) = decide (a = b) := by
  by_cases h : a = b
  · rw [h]; simp
  · rw [decide_eq_false h]; exact decide_eq_false fun z => h (by injection z)
theorem wr_non {w : Wd} (h : WR H v w) : decide (v = V.non) = decide (w = .non) := by
  cases w with
  | non => cases h; rfl
  | num n => obtain ⟨t, rfl, q⟩ := h; rfl
  | ptr n => obtain ⟨t, rfl, q⟩ := h; rfl
  | head n s => obtain ⟨t, rfl, q⟩ := h; rfl
/-- x is not None and x[0] == tag -/
theorem et_tag {w : Wd} {c : Str} (h : WR H v w) (ha : Ev ta σ H v) : EvT (tAnd (tTest (tOp rNotN ta (tC .non))) (tTest (tOp rEq (tOp (rIxT K) ta (tC (.int 0))) (tC (.str c))))) σ H (!decide (w = .non) && decide (tagS w = c)) := by
  refine Evl.et_and (Evl.et_test ?_) fun hb => Evl.et_test ?_
  · refine Evl.ev_is (Evl.ev_op ha Evl.ev_c (z := .bl (!decide (v = V.non))) fun H1 _ Q q => ⟨rfl, q H1 (Ex.refl H1)⟩) ?_
    rw [wr_non h]
  · have hn : w ≠ .non := fun z => by rw [z] at hb; simp at hb
    exact Evl.ev_is (Evl.ev_op (ev_tag h hn ha) Evl.ev_c (Evl.rv_eq rfl)) (by rw [dec_str])
theorem tag_at (w : Wd) : (!decide (w = .non) && decide (tagS w = "at")) = isPtr w := by
  cases w <;> simp [tagS, isPtr, s_is_at, s_head_at]
theorem tag_head (w : Wd) : (!decide (w = .non) && decide (tagS w = "head")) = isHead w := by
  cases w <;> simp [tagS, isHead, s_is_head, s_at_head]
theorem et_at {w : Wd} (h : WR H v w) (ha : Ev ta σ H v) : EvT (tAnd (tTest (tOp rNotN ta (tC .non))) (tTest (tOp rEq (tOp (rIxT K) ta (tC (.int 0))) (tC (.str "at"))))) σ H (isPtr w) := by
  rw [← tag_at]; exact et_tag h ha
theorem et_head {w : Wd} (h : WR H v w) (ha : Ev ta σ H v) : EvT (tAnd (tTest (tOp rNotN ta (tC .non))) (tTest (tOp rEq (tOp (rIxT K) ta (tC (.int 0))) (tC (.str "head"))))) σ H (isHead w) := by
  rw [← tag_head]; exact et_tag h ha
theorem ev_ptr {a : Nat} (h : WR H v (.ptr a)) (ha : Ev ta σ H v) : Ev (tOp (rIxT K) ta (tC (.int 1))) σ H (.int (a : Int)) := by
  obtain ⟨t, rfl, q⟩ := h
  exact Evl.ev_op ha Evl.ev_c (Evl.rv_ixT (Evl.st_of q) rfl)
theorem ev_name {n z : Nat} (h : WR H v (.head n z)) (ha : Ev ta σ H v) : Ev (tOp (rIxT K) ta (tC (.int 1))) σ H (.int (n : Int)) := by
  obtain ⟨t, rfl, q⟩ := h
  exact Evl.ev_op ha Evl.ev_c (Evl.rv_ixT (Evl.st_of q) rfl)
theorem ev_size {n z : Nat} (h : WR H v (.head n z)) (ha : Ev ta σ H v) : Ev (tOp (rIxT K) ta (tC (.int 2))) σ H (.int (z : Int)) := by
  obtain ⟨t, rfl, q⟩ := h
  exact Evl.ev_op ha Evl.ev_c (Evl.rv_ixT (Evl.st_of q) rfl)
/-- self.words[a] -/
theorem YAt.eword {a : Nat} {w : Wd} (h : YAt K Y H s) (N : Tk K) (hs : σ[i]? = some (some (.ref Y.p))) (ha : Ev ta σ H (.int (a : Int))) (hw : s.words[a]? = some w) : ∃ v, WR H v w ∧ Ev (tOp (rIxL K) (tFld K (tVar i) "words") ta) σ H v := by
  obtain ⟨ws, e, r⟩ := h.wd
  obtain ⟨v, hv, rv⟩ := pr_getR r hw
  exact ⟨v, rv, Evl.ev_op (h.ewords N hs) ha (Evl.rv_ixL (Evl.sq_of e) (atI_nat hv))⟩
theorem YAt.eroot {a : Nat} {w : Wd} (h : YAt K Y H s) (N : Tk K) (hs : σ[i]? = some (some (.ref Y.p))) (ha : Ev ta σ H (.int (a : Int))) (hw : s.roots[a]? = some w) : ∃ v, WR H v w ∧ Ev (tOp (rIxL K) (tFld K (tVar i) "roots") ta) σ H v := by
  obtain ⟨ws, e, r⟩ := h.rt
  obtain ⟨v, hv, rv⟩ := pr_getR r hw
  exact ⟨v, rv, Evl.ev_op (h.eroots N hs) ha (Evl.rv_ixL (Evl.sq_of e) (atI_nat hv))⟩
theorem ev_int {a b : Int} (h : Ev te σ H (.int a)) (e : a = b) : Ev te σ H (.int b) := e ▸ h
theorem ev_add {a b : Int} (ha : Ev ta σ H (.int a)) (hb : Ev tb σ H (.int b)) : Ev (tOp rAddI ta tb) σ H (.int (a + b)) := Evl.ev_op ha hb Evl.rv_I0
theorem ev_sub {a b : Int} (ha : Ev ta σ H (.int a)) (hb : Ev tb σ H (.int b)) : Ev (tOp rSubI ta tb) σ H (.int (a - b)) := Evl.ev_op ha hb Evl.rv_I0
theorem ev_dget {d : Addr} {kv : List (Key × V)} {k : Int} (ha : Ev ta σ H (.ref d)) (hk : Ev tb σ H (.int k)) (hd : H d = some (.dK kv)) (hv : valV kv (Sum.inl k) = some v) : Ev (tDGet ta tb) σ H v := fun H1 e Q q =>
  ha H1 e _ fun H2 e2 => hk H2 (e.trans e2) _ fun H3 e3 => ⟨d, v, rfl, by
    have z := DGet.k (k := (Sum.inl k : Key)) (kvs := kv) (((e.trans e2).trans e3) _ _ hd)
    rw [hv] at z
    exact z, q H3 (e2.trans e3)⟩
end
/-! ### comprehensions -/
/-- all but the list at d is kept -/
def But (d : Addr) (H1 H2 : Hp) : Prop := ∀ b o, b ≠ d → H1 b = some o → H2 b = some o
theorem But.tk {d : Addr} {H1 H2 : Hp} {xs : List V} (h : But d H1 H2) (e : H1 d = some (.lst xs)) : TK H1 H2 := fun b ys q => h b _ (fun z => by rw [z, e] at q; cases q) q
theorem e_lc {K : PySem.W.Frag} {σ : L2.St} {H : Hp} {tl te : TE} {g : TG} {t : TT} {vs : List Nat} {xs : List V} (R : Addr → Nat → List V → Hp → Prop) (hl : EvP tl σ H (fun v H' => ∃ a, v = .ref a ∧ SqL K H' a xs)) (hz : xs.length ≤ 40000)
    (mono : ∀ D i acc acc' H1 H2, H1 D = some (.lst acc') → But D H1 H2 → R D i acc H1 → R D i acc H2) (h0 : ∀ D H1, Ex H H1 → H D = none → H1 D = some (.lst []) → R D 0 [] H1)
    (hs : ∀ D i x acc H1, xs[i]? = some x → Ex H H1 → H D = none → H1 D = some (.lst acc) → R D i acc H1 →
      ∃ σ2 b, (∀ Q : L2.St → Hp → Prop, Q σ2 H1 → g x (wipe σ vs) H1 Q) ∧ wipe σ2 vs = wipe σ vs ∧ EvT t σ2 H1 b ∧ (b = true → EvP te σ2 H1 (fun y H2 => R D (i + 1) (acc ++ [y]) H2)) ∧ (b = false → ∀ H2, Ex H1 H2 → R D (i + 1) acc H2)) :
    EvP (tLc (iList K tl) g t te vs) σ H (fun v H' => ∃ D ys, v = .ref D ∧ H D = none ∧ H' D = some (.lst ys) ∧ ys.length ≤ xs.length ∧ R D xs.length ys H') := fun H0 e0 Q q =>
  hl H0 e0 _ fun v H1 e1 hp => by
    obtain ⟨a, rfl, hx⟩ := hp
    refine ⟨a, rfl, ⟨xs, hx⟩, fun D hD => ?_⟩
    have hD0 : H D = none := Evl.fresh_back (e0.trans e1) hD
    refine lc_list (xs := xs) (fun i H' => ∃ acc, H' D = some (.lst acc) ∧ acc.length ≤ i ∧ Ex H1 H' ∧ R D i acc H') ⟨[], upd_same, Nat.le_refl _, ex_new hD, h0 D _ ((e0.trans e1).trans (ex_new hD)) hD0 upd_same⟩ (fun i H' _ ⟨_, _, _, e2, _⟩ => Evl.ex_l e2 hx) (fun i x H' hi ⟨acc, hacc, hlen, e2, hR⟩ => ?_) (fun H' ⟨acc, hacc, hlen, e2, hR⟩ => q _ H' (e1.trans e2) ⟨D, acc, rfl, hD0, hacc, hlen, hR⟩)
    have hi' := (List.getElem?_eq_some_iff.mp hi).1
    obtain ⟨σ2, b, hg, hw, ht, h1, h2⟩ := hs D i x acc H' hi ((e0.trans e1).trans e2) hD0 hacc hR
    refine hg _ ⟨hw, ht H' (Ex.refl H') _ fun H3 e3 => ?_⟩
    cases b with
    | true =>
      show te σ2 H3 _
      refine h1 rfl H3 e3 _ fun y H4 e4 r4 => ?_
      have e5 := e3.trans e4
      exact ⟨acc, e5 _ _ hacc, Nat.lt_of_le_of_lt hlen (Nat.lt_of_lt_of_le hi' (Nat.le_trans hz (by decide))), acc ++ [y], upd_same, by rw [List.length_append]; show acc.length + 1 ≤ i + 1; omega, (e2.trans e5).mut hD, mono D _ _ acc H4 _ (e5 _ _ hacc) (fun b o hb q => by rw [upd_ne hb]; exact q) r4⟩
    | false => exact ⟨acc, e3 _ _ hacc, Nat.le_succ_of_le hlen, e2.trans e3, h2 rfl H3 e3⟩
/-- the target a name, a pair of names -/
theorem g_nm {j : Nat} {x : V} {σ : L2.St} {H : Hp} : ∀ Q : L2.St → Hp → Prop, Q (σ.set j (some x)) H → gName j x σ H Q := fun _ q => q
theorem g_pr {K : PySem.W.Frag} {i j : Nat} {a : Addr} {x y : V} {σ : L2.St} {H : Hp} (h : SqT K H a [x, y]) : ∀ Q : L2.St → Hp → Prop, Q ((σ.set i (some x)).set j (some y)) H → gTup K 2 (gCons (gName i) (gCons (gName j) gNil)) (.ref a) σ H Q := fun _ q =>
  ⟨a, [x, y], rfl, h, rfl, x, [y], rfl, y, [], rfl, rfl, q⟩
theorem et_yes {σ : L2.St} {H : Hp} : EvT tYes σ H true := fun H1 _ _ q => q H1 (Ex.refl H1)
end Gy

set_option Elab.async false
set_option linter.all false
set_option maxRecDepth 100000
set_option maxHeartbeats 1000000
/-! Part 4b: more of evaluation: ints, lists and tuples with a property, joined lists, slices. -/
namespace Gy
open PySem PySem.Spec PyProof.Rows L2
open Evl (Ex Ev EvL EvU EvT EvA EvO rLenS rListS rMax2)
theorem drop_get {α : Type} {l : List α} {i : Nat} {x : α} (h : l[i]? = some x) : l.drop i = x :: l.drop (i + 1) := by
  obtain ⟨h1, h2⟩ := List.getElem?_eq_some_iff.mp h
  rw [List.drop_eq_getElem_cons h1, h2]
theorem take_get {α : Type} {l : List α} {i : Nat} {x : α} (h : l[i]? = some x) : l.take (i + 1) = l.take i ++ [x] := by
  rw [List.take_succ, h]; rfl
/-- what holds of a list's items, of a list, of a new list -/
abbrev PL := List V → Hp → Prop
def Mono (P : PL) : Prop := ∀ xs H1 H2, Ex H1 H2 → P xs H1 → P xs H2
def LstP (P : PL) : V → Hp → Prop := fun v H' => ∃ p xs, v = .ref p ∧ H' p = some (.lst xs) ∧ P xs H'
def NewP (H : Hp) (P : PL) : V → Hp → Prop := fun v H' => ∃ p xs, v = .ref p ∧ H p = none ∧ H' p = some (.lst xs) ∧ P xs H'
def TupP (P : PL) : V → Hp → Prop := fun v H' => ∃ p xs, v = .ref p ∧ H' p = some (.tup xs) ∧ P xs H'
def EvAP (ta : TA) (σ : L2.St) (H : Hp) (P : PL) : Prop := ∀ H1, Ex H H1 → ∀ Q : List V → Hp → Prop, (∀ vs H2, Ex H1 H2 → P vs H2 → Q vs H2) → ta σ H1 Q
section
variable {K : PySem.W.Frag} {σ : L2.St} {H H' : Hp} {ta tb te tx : TE} {t u : TT} {x y z v : V} {r : R2} {P P' : V → Hp → Prop} {D : Ends} {tu tw tz : TS} {g : TG} {i j : Nat} {s : Nat × Nat}
theorem ev_s0 (h : StR H v s) (ha : Ev ta σ H v) : Ev (tOp (rIxT K) ta (tC (.int 0))) σ H (.int (s.1 : Int)) := by
  obtain ⟨t, rfl, q⟩ := h
  exact Evl.ev_op ha Evl.ev_c (Evl.rv_ixT (Evl.st_of q) rfl)
theorem ev_s1 (h : StR H v s) (ha : Ev ta σ H v) : Ev (tOp (rIxT K) ta (tC (.int 1))) σ H (.int (s.2 : Int)) := by
  obtain ⟨t, rfl, q⟩ := h
  exact Evl.ev_op ha Evl.ev_c (Evl.rv_ixT (Evl.st_of q) rfl)
theorem et_le {a b : Int} (ha : Ev ta σ H (.int a)) (hb : Ev tb σ H (.int b)) : EvT (tTest (tOp rLeI ta tb)) σ H (decide (a ≤ b)) := Evl.et_test (Evl.ev_op ha hb Evl.rv_I0)
theorem et_lt {a b : Int} (ha : Ev ta σ H (.int a)) (hb : Ev tb σ H (.int b)) : EvT (tTest (tOp rLtI ta tb)) σ H (decide (a < b)) := Evl.et_test (Evl.ev_op ha hb Evl.rv_I0)
theorem et_ge {a b : Int} (ha : Ev ta σ H (.int a)) (hb : Ev tb σ H (.int b)) : EvT (tTest (tOp rGeI ta tb)) σ H (decide (b ≤ a)) := Evl.et_test (Evl.ev_op ha hb Evl.rv_I0)
theorem et_gt {a b : Int} (ha : Ev ta σ H (.int a)) (hb : Ev tb σ H (.int b)) : EvT (tTest (tOp rGtI ta tb)) σ H (decide (b < a)) := Evl.et_test (Evl.ev_op ha hb Evl.rv_I0)
theorem et_eqI {a b : Int} (ha : Ev ta σ H (.int a)) (hb : Ev tb σ H (.int b)) : EvT (tTest (tOp rEq ta tb)) σ H (decide (a = b)) := Evl.et_test (Evl.ev_is (Evl.ev_op ha hb (Evl.rv_eq rfl)) (by rw [dec_int]))
theorem et_neI {a b : Int} (ha : Ev ta σ H (.int a)) (hb : Ev tb σ H (.int b)) : EvT (tTest (tOp rNe ta tb)) σ H (!decide (a = b)) := Evl.et_test (Evl.ev_is (Evl.ev_op ha hb (Evl.rv_ne rfl)) (by rw [dec_int]))
theorem ev_chain {a b c : Int} (ha : Ev ta σ H (.int a)) (hb : Ev tb σ H (.int b)) (hc : Ev te σ H (.int c)) : Ev (tChain rLeI rLtI ta tb te) σ H (.bl (decide (a ≤ b) && decide (b < c))) := fun H1 e Q q =>
  ha H1 e _ fun H2 e2 => hb H2 (e.trans e2) _ fun H3 e3 => ⟨a, b, rfl, rfl, decide (a ≤ b), rfl, by
    cases hd : decide (a ≤ b) with
    | true =>
      rw [hd] at q
      show te σ H3 _
      exact hc H3 ((e.trans e2).trans e3) _ fun H4 e4 => ⟨b, c, rfl, rfl, q H4 ((e2.trans e3).trans e4)⟩
    | false =>
      rw [hd] at q
      exact q H3 (e2.trans e3)⟩
theorem ev_chainLL {a b c : Int} (ha : Ev ta σ H (.int a)) (hb : Ev tb σ H (.int b)) (hc : Ev te σ H (.int c)) : Ev (tChain rLeI rLeI ta tb te) σ H (.bl (decide (a ≤ b) && decide (b ≤ c))) := fun H1 e Q q =>
  ha H1 e _ fun H2 e2 => hb H2 (e.trans e2) _ fun H3 e3 => ⟨a, b, rfl, rfl, decide (a ≤ b), rfl, by
    cases hd : decide (a ≤ b) with
    | true =>
      rw [hd] at q
      show te σ H3 _
      exact hc H3 ((e.trans e2).trans e3) _ fun H4 e4 => ⟨b, c, rfl, rfl, q H4 ((e2.trans e3).trans e4)⟩
    | false =>
      rw [hd] at q
      exact q H3 (e2.trans e3)⟩
theorem ev_neg {a : Int} (ha : Ev ta σ H (.int a)) : Ev (tUn (rU fun i => .int (-i)) ta) σ H (.int (-a)) := Evl.ev_un ha Evl.ru_neg
theorem ev_lix {l : Addr} {xs : List V} {i : Nat} (ha : Ev ta σ H (.ref l)) (hb : Ev tb σ H (.int (i : Int))) (hl : H l = some (.lst xs)) (hx : xs[i]? = some v) : Ev (tOp (rIxL K) ta tb) σ H v := Evl.ev_op ha hb (Evl.rv_ixL (Evl.sq_of hl) (atI_nat hx))
theorem ev_tix {l : Addr} {xs : List V} {i : Int} (ha : Ev ta σ H (.ref l)) (hb : Ev tb σ H (.int i)) (hl : H l = some (.tup xs)) (hx : atI xs i = some v) : Ev (tOp (rIxT K) ta tb) σ H v := Evl.ev_op ha hb (Evl.rv_ixT (Evl.st_of hl) hx)
theorem ea1 (ha : Ev ta σ H v) : EvA (tCons ta tNil) σ H [v] := Evl.ea_cons ha Evl.ea_nil
theorem ea2 {w : V} (ha : Ev ta σ H v) (hb : Ev tb σ H w) : EvA (tCons ta (tCons tb tNil)) σ H [v, w] := Evl.ea_cons ha (ea1 hb)
theorem ea3 {w w2 : V} {tc : TE} (ha : Ev ta σ H v) (hb : Ev tb σ H w) (hc : Ev tc σ H w2) : EvA (tCons ta (tCons tb (tCons tc tNil))) σ H [v, w, w2] := Evl.ea_cons ha (ea2 hb hc)
theorem Mono.and {P Q : PL} (a : Mono P) (b : Mono Q) : Mono (fun xs H => P xs H ∧ Q xs H) := fun xs H1 H2 e h => ⟨a _ _ _ e h.1, b _ _ _ e h.2⟩
theorem mono_st (fs : List (Nat × Nat)) : Mono (fun xs H => StRs H xs fs) := fun xs H1 H2 e h => h.mono (ex_tk e)
theorem mono_wr (ws : List Wd) : Mono (fun xs H => WRs H xs ws) := fun xs H1 H2 e h => h.mono (ex_tk e)
theorem mono_c (p : List V → Prop) : Mono (fun xs _ => p xs) := fun xs H1 H2 e h => h
theorem LstP.mono {P : PL} (m : Mono P) {H1 H2 : Hp} (e : Ex H1 H2) (h : LstP P v H1) : LstP P v H2 := let ⟨p, xs, e1, e2, e3⟩ := h; ⟨p, xs, e1, e _ _ e2, m _ _ _ e e3⟩
theorem NewP.lst {P : PL} {H1 : Hp} (h : NewP H P v H1) : LstP P v H1 := let ⟨p, xs, e1, _, e2, e3⟩ := h; ⟨p, xs, e1, e2, e3⟩
theorem evp_var (hv : σ[i]? = some (some v)) (h : ∀ H1, Ex H H1 → P v H1) : EvP (tVar i) σ H P := fun H1 e Q q => ⟨v, hv, q v H1 (Ex.refl H1) (h H1 e)⟩
theorem evp_ev (h : Ev te σ H v) (k : ∀ H1, Ex H H1 → P v H1) : EvP te σ H P := fun H1 e Q q => h H1 e Q fun H2 e2 => q v H2 e2 (k H2 (e.trans e2))
theorem evp_el {xs : List V} {P : PL} (h : EvL te σ H xs) (k : ∀ H1, Ex H H1 → P xs H1) : EvP te σ H (NewP H P) := fun H1 e Q q => h H1 e Q fun p H2 hp e2 h2 => q _ H2 e2 ⟨p, xs, rfl, Evl.fresh_back e hp, h2, k H2 (e.trans e2)⟩
/-- a + b, of two lists -/
theorem evp_cat {Pa Pb : PL} (ha : EvP ta σ H (LstP Pa)) (hb : EvP tb σ H (LstP Pb)) (ma : Mono Pa) (mb : Mono Pb) (hz : ∀ xs ys H', Pa xs H' → Pb ys H' → xs.length + ys.length ≤ sizeLine) :
    EvP (tOp rCat ta tb) σ H (NewP H fun zs H' => ∃ xs ys, zs = xs ++ ys ∧ Pa xs H' ∧ Pb ys H') :=
  evp_op ha hb fun x y H1 H2 e1 px e2 py Q q => by
    obtain ⟨p, xs, rfl, h1, pa⟩ := px
    obtain ⟨p2, ys, rfl, h2, pb⟩ := py
    have pa2 := ma _ _ _ e2 pa
    refine ⟨p, p2, xs, ys, rfl, rfl, e2 _ _ h1, h2, hz xs ys H2 pa2 pb, fun n hn => ?_⟩
    refine q _ _ (ex_new hn) ⟨n, xs ++ ys, rfl, Evl.fresh_back (e1.trans e2) hn, upd_same, xs, ys, rfl, ma _ _ _ (ex_new hn) pa2, mb _ _ _ (ex_new hn) pb⟩
theorem eap_nil : EvAP tNil σ H (fun vs _ => vs = []) := fun H1 _ _ q => q [] H1 (Ex.refl H1) rfl
theorem eap_cons {ta : TE} {tr : TA} {Pr : PL} (h : EvP ta σ H P) (m : ∀ x H1 H2, Ex H1 H2 → P x H1 → P x H2) (hr : EvAP tr σ H Pr) : EvAP (tCons ta tr) σ H (fun vs H' => ∃ x r, vs = x :: r ∧ P x H' ∧ Pr r H') := fun H1 e _ q =>
  h H1 e _ fun x H2 e2 px => hr H2 (e.trans e2) _ fun r H3 e3 pr => q _ H3 (e2.trans e3) ⟨x, r, rfl, m _ _ _ e3 px, pr⟩
theorem evp_lst {ta : TA} {P : PL} (h : EvAP ta σ H P) (m : Mono P) (hz : ∀ xs H', P xs H' → xs.length ≤ sizeLine) : EvP (tLst ta) σ H (NewP H P) := fun H1 e Q q =>
  h H1 e _ fun xs H2 e2 p => ⟨hz _ _ p, fun n hn => q _ _ (e2.trans (ex_new hn)) ⟨n, xs, rfl, Evl.fresh_back (e.trans e2) hn, upd_same, m _ _ _ (ex_new hn) p⟩⟩
theorem evp_tup {ta : TA} {P : PL} (h : EvAP ta σ H P) (m : Mono P) (hz : ∀ xs H', P xs H' → xs.length ≤ sizeLine) : EvP (tTup ta) σ H (TupP P) := fun H1 e Q q =>
  h H1 e _ fun xs H2 e2 p => ⟨hz _ _ p, fun n hn => q _ _ (e2.trans (ex_new hn)) ⟨n, xs, rfl, upd_same, m _ _ _ (ex_new hn) p⟩⟩
/-- a new pair of ints -/
theorem evp_st {a b : Int} (ha : Ev ta σ H (.int a)) (hb : Ev tb σ H (.int b)) (e1 : a = (s.1 : Int)) (e2 : b = (s.2 : Int)) : EvP (tTup (tCons ta (tCons tb tNil))) σ H (fun v H' => StR H' v s) := fun H1 e Q q =>
  (Evl.eu_tup (ea2 ha hb) (by show 2 ≤ 100000; decide)) H1 e Q fun p H2 hp e2' h2 => q _ H2 e2' ⟨p, rfl, by rw [h2, e1, e2]⟩
/-- a, b = e -/
theorem q_unp2 (h : EvP te σ H (fun v H' => ∃ a, v = .ref a ∧ SqT K H' a [x, y])) (k : ∀ H1, Ex H H1 → tz D ((σ.set i (some x)).set j (some y)) H1) : tSeq (tAsg te (gTup K 2 (gCons (gName i) (gCons (gName j) gNil)))) tz D σ H :=
  h H (Ex.refl H) _ fun v H1 e ⟨a, ea, ht⟩ => by
    subst ea
    exact ⟨a, [x, y], rfl, ht, rfl, x, [y], rfl, y, [], rfl, rfl, k H1 e⟩
theorem st_sq (h : StR H v s) : ∃ a, v = .ref a ∧ SqT K H a [.int (s.1 : Int), .int (s.2 : Int)] := let ⟨t, e, q⟩ := h; ⟨t, e, Evl.st_of q⟩
/-- slices -/
theorem cut_to (xs : List V) (k : Nat) : cutV xs none (some (k : Int)) = xs.take k := by
  unfold cutV
  rw [HT.sIx_none, HT.sIx_nat, List.drop_zero, Nat.sub_zero]
  by_cases h : k ≤ xs.length
  · rw [Nat.min_eq_left h]
  · rw [Nat.min_eq_right (by omega), List.take_of_length_le (Nat.le_refl _), List.take_of_length_le (by omega)]
theorem cut_from (xs : List V) (k : Nat) : cutV xs (some (k : Int)) none = xs.drop k := by
  unfold cutV
  rw [HT.sIx_none, HT.sIx_nat]
  by_cases h : k ≤ xs.length
  · rw [Nat.min_eq_left h, List.take_of_length_le (by rw [List.length_drop]; omega)]
  · rw [Nat.min_eq_right (by omega), List.drop_of_length_le (Nat.le_refl _), List.drop_of_length_le (by omega)]; simp
theorem cut_mid (xs : List V) (a n : Nat) (h : a + n ≤ xs.length) : cutV xs (some (a : Int)) (some ((a + n : Nat) : Int)) = (xs.drop a).take n := by
  unfold cutV
  rw [HT.sIx_nat, HT.sIx_nat, Nat.min_eq_left (show a ≤ xs.length by omega), Nat.min_eq_left h, Nat.add_sub_cancel_left]
/-! ### a comprehension whose items stand for things -/
/-- [f(x) for x in xs if ..]: xs stand for as, what is kept for the things that are to be kept -/
theorem e_lcM {α β : Type} {tl : TE} {t : TT} {te : TE} {g : TG} {vs : List Nat} {xs : List V} {as : List α} (Ra : Hp → V → α → Prop) (Rb : Addr → Hp → V → β → Prop) (f : α → Option β) (hx : ∀ H1, Ex H H1 → Paired (Ra H1) xs as)
    (hl : EvP tl σ H (fun v H' => ∃ a, v = .ref a ∧ SqL K H' a xs)) (hz : xs.length ≤ 40000)
    (mono : ∀ D acc H1 H2 x b, H1 D = some (.lst acc) → But D H1 H2 → Rb D H1 x b → Rb D H2 x b)
    (hs : ∀ (D : Addr) (i : Nat) (x : V) (a : α) (acc : List V) (H1 : Hp), xs[i]? = some x → as[i]? = some a → Ex H H1 → H D = none → H1 D = some (.lst acc) → Ra H1 x a →
      ∃ σ2, (∀ Q : L2.St → Hp → Prop, Q σ2 H1 → g x (wipe σ vs) H1 Q) ∧ wipe σ2 vs = wipe σ vs ∧ EvT t σ2 H1 (f a).isSome ∧ (∀ b, f a = some b → EvP te σ2 H1 (fun y H2 => Rb D H2 y b))) :
    EvP (tLc (iList K tl) g t te vs) σ H (fun v H' => ∃ D ys, v = .ref D ∧ H D = none ∧ H' D = some (.lst ys) ∧ Paired (Rb D H') ys (as.filterMap f)) := by
  have hlen : xs.length = as.length := pr_len (hx H (Ex.refl H))
  refine (e_lc (fun D i acc H1 => Paired (Rb D H1) acc ((as.take i).filterMap f)) hl hz (fun D i acc acc' H1 H2 e k r => pr_imp (fun a b q => mono D acc' H1 H2 a b e k q) r) (fun D H1 _ _ _ => .nil) (fun D i x acc H1 hi e hD hacc hR => ?_)).imp ?_
  · obtain ⟨a, ha, ra⟩ := pr_get (hx H1 e) hi
    obtain ⟨σ2, hg, hw, ht, he⟩ := hs D i x a acc H1 hi ha e hD hacc ra
    refine ⟨σ2, (f a).isSome, hg, hw, ht, fun hb => ?_, fun hb H2 e2 => ?_⟩
    · obtain ⟨b, hb'⟩ := Option.isSome_iff_exists.mp hb
      refine (he b hb').imp fun y H2 e2 q => ?_
      rw [take_get ha, List.filterMap_append]
      refine pr_app (pr_imp (fun a b q => mono D acc H1 H2 a b hacc (fun c o _ z => e2 c o z) q) hR) ?_
      simp only [List.filterMap_cons, List.filterMap_nil, hb']
      exact .cons q .nil
    · rw [take_get ha, List.filterMap_append]
      have hn : f a = none := by cases q : f a with
        | none => rfl
        | some b => rw [q] at hb; cases hb
      simp only [List.filterMap_cons, List.filterMap_nil, hn, List.append_nil]
      exact pr_imp (fun a b q => mono D acc H1 H2 a b hacc (fun c o _ z => e2 c o z) q) hR
  · rintro v H1 e ⟨D, ys, rfl, hD, hys, _, hR⟩
    refine ⟨D, ys, rfl, hD, hys, ?_⟩
    rw [hlen, List.take_length] at hR
    exact hR
/-! ### lists that are changed -/
theorem seq0 {n : Nat} (h : 0 < n) : seqIndex? 0 n = some 0 := by
  unfold seqIndex?
  simp [h]
theorem e_popAt0 {l : Addr} {xs : List V} {Q : VK} (ha : Ev ta σ H (.ref l)) (hl : H l = some (.lst (y :: xs))) (k : ∀ H1, Ex H H1 → Q y (upd H1 l (.lst xs))) : tBM K "list" rPopAt ta (tCons (tC (.int 0)) tNil) σ H Q :=
  ha H (Ex.refl H) _ fun H1 e1 => ⟨Or.inl ⟨rfl, _, SqL.of (e1 _ _ hl)⟩, ⟨l, y :: xs, 0, 0, y, rfl, rfl, e1 _ _ hl, by decide, by decide, seq0 (Nat.succ_pos _), rfl, k H1 e1⟩⟩
theorem e_pop {l : Addr} {xs : List V} {Q : VK} (ha : Ev ta σ H (.ref l)) (hl : H l = some (.lst (xs ++ [y]))) (k : ∀ H1, Ex H H1 → Q y (upd H1 l (.lst xs))) : tBM0 K "list" rPop ta σ H Q :=
  ha H (Ex.refl H) _ fun H1 e1 => ⟨Or.inl ⟨rfl, _, SqL.of (e1 _ _ hl)⟩, ⟨l, xs ++ [y], y, rfl, rfl, e1 _ _ hl, by simp, by rw [List.dropLast_concat]; exact k H1 e1⟩⟩
/-- l.append(e), e with a property -/
theorem e_app {l : Addr} {xs : List V} {Q : VK} (ha : Ev ta σ H (.ref l)) (hl : H l = some (.lst xs)) (h : EvP te σ H P) (hz : xs.length < 100000) (k : ∀ v H1, Ex H H1 → P v H1 → Q .non (upd H1 l (.lst (xs ++ [v])))) : tBM K "list" rAppend ta (tCons te tNil) σ H Q :=
  ha H (Ex.refl H) _ fun H1 e1 => ⟨Or.inl ⟨rfl, _, SqL.of (e1 _ _ hl)⟩, h H1 e1 _ fun v H2 e2 p => ⟨l, xs, v, rfl, rfl, e2 _ _ (e1 _ _ hl), Nat.lt_trans hz (by decide), k v H2 (e1.trans e2) p⟩⟩
/-- l.extend(m) -/
theorem e_ext {l : Addr} {xs : List V} {Q : VK} {Pb : PL} (ha : Ev ta σ H (.ref l)) (hl : H l = some (.lst xs)) (h : EvP te σ H (LstP Pb)) (hz : ∀ ys H', Pb ys H' → xs.length + ys.length ≤ sizeLine) (k : ∀ ys H1, Ex H H1 → Pb ys H1 → Q .non (upd H1 l (.lst (xs ++ ys)))) : tBM K "list" rExtend ta (tCons te tNil) σ H Q :=
  ha H (Ex.refl H) _ fun H1 e1 => ⟨Or.inl ⟨rfl, _, SqL.of (e1 _ _ hl)⟩, h H1 e1 _ fun v H2 e2 p => by
    obtain ⟨b, ys, rfl, hb, pb⟩ := p
    exact ⟨l, b, xs, ys, rfl, rfl, e2 _ _ (e1 _ _ hl), hb, hz _ _ pb, k ys H2 (e1.trans e2) pb⟩⟩
end
end Gy

set_option Elab.async false
set_option linter.all false
set_option maxRecDepth 100000
set_option maxHeartbeats 1000000
/-! Part 5: plain mathematics: what the defs compute (mirrors), counts, sweeping. No program in sight. -/
namespace Gy
open L2 (V Key putK dropK valV)
/-! ### stretches -/
def firstFit : List (Nat × Nat) → Nat → Option Nat
  | [], _ => none
  | s :: r, m => if m ≤ s.2 then some s.1 else firstFit r m
def covers (first many : Nat) (s : Nat × Nat) : Bool := decide (s.1 ≤ first) && decide (first + many ≤ s.1 + s.2)
def cutOut (s : Nat × Nat) (first many : Nat) : List (Nat × Nat) := [(s.1, first - s.1), (first + many, s.1 + s.2 - first - many)].filter fun p => decide (0 < p.2)
def withoutL (free : List (Nat × Nat)) (first many k : Nat) (s : Nat × Nat) : List (Nat × Nat) := free.take k ++ cutOut s first many ++ free.drop (k + 1)
def aheadL (free : List (Nat × Nat)) (first : Nat) : List (Nat × Nat) := free.filter fun s => decide (s.1 + s.2 ≤ first)
def behindL (free : List (Nat × Nat)) (first many : Nat) : List (Nat × Nat) := free.filter fun s => decide (first + many ≤ s.1)
/-- the ahead part, the first word, how many words -/
def join1 (ahead : List (Nat × Nat)) (first many : Nat) : List (Nat × Nat) × Nat × Nat := match ahead.getLast? with
  | some l => if l.1 + l.2 = first then (ahead.dropLast, l.1, many + l.2) else (ahead, first, many)
  | none => (ahead, first, many)
def join2 (ahead : List (Nat × Nat)) (first many : Nat) : List (Nat × Nat) → List (Nat × Nat)
  | [] => ahead ++ [(first, many)]
  | b :: r => if b.1 = first + many then ahead ++ [(first, many + b.2)] ++ r else ahead ++ [(first, many)] ++ b :: r
def joinedL (free : List (Nat × Nat)) (first many : Nat) : List (Nat × Nat) :=
  join2 (join1 (aheadL free first) first many).1 (join1 (aheadL free first) first many).2.1 (join1 (aheadL free first) first many).2.2 (behindL free first many)
/-! ### the dict of counts -/
def lookL (l : List (Nat × Int)) (a : Nat) : Option Int := (l.find? fun e => decide (e.1 = a)).map (·.2)
def putL (l : List (Nat × Int)) (a : Nat) (c : Int) : List (Nat × Int) := if (l.any fun e => decide (e.1 = a)) = true then l.map (fun e => if e.1 = a then (e.1, c) else e) else l ++ [(a, c)]
def dropL (l : List (Nat × Int)) (a : Nat) : List (Nat × Int) := l.filter fun e => !decide (e.1 = a)
theorem key_dec (a b : Nat) : decide ((Sum.inl (a : Int) : Key) = Sum.inl (b : Int)) = decide (a = b) := by
  by_cases h : a = b
  · rw [h]; simp
  · rw [decide_eq_false h]; exact decide_eq_false fun z => h (by injection z with z; omega)
theorem kvs_look (a : Nat) : ∀ l : List (Nat × Int), valV (kvs l) (Sum.inl (a : Int)) = (lookL l a).map V.int
  | [] => rfl
  | e :: l => by
    have ih := kvs_look a l
    unfold valV lookL kvs at *
    rw [List.map_cons, List.find?_cons, List.find?_cons]
    simp only [key_dec]
    cases h : decide (e.1 = a) with
    | true => rfl
    | false => exact ih
theorem kvs_any (a : Nat) (l : List (Nat × Int)) : ((kvs l).any fun kv => decide (kv.1 = (Sum.inl (a : Int) : Key))) = l.any fun e => decide (e.1 = a) := by
  unfold kvs
  rw [List.any_map]
  congr 1
  funext e
  exact key_dec e.1 a
theorem kvs_put (l : List (Nat × Int)) (a : Nat) (c : Int) : putK (kvs l) (Sum.inl (a : Int)) (V.int c) = kvs (putL l a c) := by
  unfold putK putL
  rw [kvs_any]
  by_cases h : (l.any fun e => decide (e.1 = a)) = true
  · rw [if_pos h, if_pos h]
    unfold kvs
    rw [List.map_map, List.map_map]
    congr 1
    funext e
    show (if (Sum.inl (e.1 : Int) : Key) = Sum.inl (a : Int) then ((Sum.inl (e.1 : Int) : Key), V.int c) else (Sum.inl (e.1 : Int), V.int e.2)) = _
    by_cases q : e.1 = a
    · rw [if_pos (by rw [q])]; simp [q]
    · rw [if_neg (fun z => q (by injection z with z; omega))]; simp [q]
  · rw [if_neg h, if_neg h]
    unfold kvs
    rw [List.map_append]; rfl
theorem kvs_drop (l : List (Nat × Int)) (a : Nat) : dropK (kvs l) (Sum.inl (a : Int)) = kvs (dropL l a) := by
  unfold dropK dropL kvs
  rw [List.filter_map]
  congr 1
  congr 1
  funext e
  show decide ((Sum.inl (e.1 : Int) : Key) ≠ Sum.inl (a : Int)) = _
  rw [decide_not, key_dec]
theorem kvs_len (l : List (Nat × Int)) : (kvs l).length = l.length := by unfold kvs; exact List.length_map ..
theorem putL_keys {l : List (Nat × Int)} {a : Nat} {c : Int} (h : lookL l a ≠ none) : (putL l a c).map (·.1) = l.map (·.1) := by
  unfold putL
  by_cases q : (l.any fun e => decide (e.1 = a)) = true
  · rw [if_pos q, List.map_map]
    congr 1
    funext e
    show (if e.1 = a then (e.1, c) else e).1 = e.1
    by_cases z : e.1 = a <;> simp [z]
  · refine absurd ?_ h
    unfold lookL
    rw [List.find?_eq_none.mpr]
    · rfl
    · intro e he z
      exact q (List.any_eq_true.mpr ⟨e, he, z⟩)
theorem lookL_put (l : List (Nat × Int)) (a b : Nat) (c : Int) : lookL (putL l a c) b = if b = a then some c else lookL l b := by
  have e := L2.valV_put (kvs l) (Sum.inl (a : Int) : Key) (Sum.inl (b : Int)) (V.int c)
  rw [kvs_put, kvs_look, kvs_look] at e
  by_cases h : b = a
  · rw [if_pos (by rw [h])] at e
    rw [if_pos h]
    cases q : lookL (putL l a c) b with
    | none => rw [q] at e; cases e
    | some x => rw [q] at e; injection e with e; injection e with e; rw [e]
  · rw [if_neg (fun z => h (by injection z with z; omega))] at e
    rw [if_neg h]
    cases q : lookL (putL l a c) b with
    | none =>
      cases q2 : lookL l b with
      | none => rfl
      | some y => rw [q, q2] at e; cases e
    | some x =>
      cases q2 : lookL l b with
      | none => rw [q, q2] at e; cases e
      | some y => rw [q, q2] at e; injection e with e; injection e with e; rw [e]
theorem lookL_drop : ∀ (l : List (Nat × Int)) (a b : Nat), b ≠ a → lookL (dropL l a) b = lookL l b
  | [], _, _, _ => rfl
  | e :: l, a, b, h => by
    have ih := lookL_drop l a b h
    unfold lookL dropL at *
    rw [List.filter_cons]
    by_cases q : e.1 = a
    · have h1 : ¬ a = b := fun z => h z.symm
      simp only [q, decide_true, Bool.not_true, Bool.false_eq_true, if_false]
      rw [ih, List.find?_cons]
      simp [q, h1]
    · simp only [q, decide_false, Bool.not_false, if_true]
      rw [List.find?_cons, List.find?_cons]
      cases decide (e.1 = b) with
      | true => rfl
      | false => exact ih
theorem dropL_keys (l : List (Nat × Int)) (a : Nat) : (dropL l a).map (·.1) = (l.map (·.1)).filter fun x => !decide (x = a) := by
  unfold dropL
  rw [List.filter_map]; rfl
/-! ### words wiped -/
def wipeW (w : List Wd) (a : Nat) : Nat → List Wd
  | 0 => w
  | n + 1 => (wipeW w a n).set (a + n) .non
theorem wipeW_len (w : List Wd) (a : Nat) : ∀ n, (wipeW w a n).length = w.length
  | 0 => rfl
  | n + 1 => by unfold wipeW; rw [List.length_set, wipeW_len w a n]
theorem wipeW_get (w : List Wd) (a i : Nat) : ∀ n, (wipeW w a n)[i]? = if a ≤ i ∧ i < a + n ∧ i < w.length then some .non else w[i]?
  | 0 => by rw [if_neg (by omega)]; rfl
  | n + 1 => by
    unfold wipeW
    rw [List.getElem?_set, wipeW_get w a i n, wipeW_len]
    by_cases h : a + n = i
    · rw [if_pos h]
      by_cases h2 : i < w.length
      · rw [if_pos (by omega), if_pos (by omega)]
      · rw [if_neg (by omega), if_neg (by omega), List.getElem?_eq_none (by omega)]
    · rw [if_neg h]
      by_cases h3 : a ≤ i ∧ i < a + n ∧ i < w.length
      · rw [if_pos h3, if_pos (by omega)]
      · rw [if_neg h3, if_neg (by omega)]
end Gy

set_option Elab.async false
set_option linter.all false
set_option maxRecDepth 100000
set_option maxHeartbeats 1000000
/-! Part 6: the promise of each def. -/
namespace Gy
open PySem PySem.Spec PyProof.Rows L2
open Evl (Ex)

/-! ### stretches -/
def sp_first_fit (K : PySem.W.Frag) : Sp := fun vs H Q _ => ∃ (lf : Addr) (fs : List (Nat × Nat)) (m : Nat), vs = [.ref lf, .int (m : Int)] ∧ FreeAt H lf fs ∧ ∀ H', Ex H H' → Q (oInt (firstFit fs m)) H'
def sp_covering (K : PySem.W.Frag) : Sp := fun vs H Q _ => ∃ (lf : Addr) (fs : List (Nat × Nat)) (f m k : Nat) (s : Nat × Nat), vs = [.ref lf, .int (f : Int), .int (m : Int)] ∧ FreeAt H lf fs ∧ fs.length ≤ 1000 ∧ fs[k]? = some s ∧ covers f m s = true ∧
  (∀ (j : Nat) t, j < k → fs[j]? = some t → covers f m t = false) ∧ ∀ H', Ex H H' → Q (.int (k : Int)) H'
def sp_without (K : PySem.W.Frag) : Sp := fun vs H Q _ => ∃ (lf : Addr) (fs : List (Nat × Nat)) (f m k : Nat) (s : Nat × Nat), vs = [.ref lf, .int (f : Int), .int (m : Int)] ∧ FreeAt H lf fs ∧ fs.length ≤ 1000 ∧ fs[k]? = some s ∧ covers f m s = true ∧
  (∀ (j : Nat) t, j < k → fs[j]? = some t → covers f m t = false) ∧ ∀ H' p, Ex H H' → H p = none → FreeAt H' p (withoutL fs f m k s) → Q (.ref p) H'
def sp_joined (K : PySem.W.Frag) : Sp := fun vs H Q _ => ∃ (lf : Addr) (fs : List (Nat × Nat)) (f m : Nat), vs = [.ref lf, .int (f : Int), .int (m : Int)] ∧ FreeAt H lf fs ∧ fs.length ≤ 1000 ∧ ∀ H' p, Ex H H' → H p = none → FreeAt H' p (joinedL fs f m) → Q (.ref p) H'
/-! ### the yard's small ones -/
def toldW (words : List Wd) : Wd → Wd
  | .ptr a => match words[a]? with
    | some (.head n _) => .ptr n
    | _ => .ptr a
  | w => w
def PtrAt (words : List Wd) (w : Wd) : Prop := ∀ a, w = .ptr a → ∃ n z, words[a]? = some (.head n z)
def slotsW (words : List Wd) (a z : Nat) : List Wd := (words.drop (a + 1)).take z
def ptrOf : Wd → Option Nat
  | .ptr a => some a
  | _ => none
def innerW (words : List Wd) (a z : Nat) : List Nat := (slotsW words a z).filterMap ptrOf
/-- names and addresses of the heads, by addresses -/
def headOf : Wd × Nat → Option (Nat × Nat)
  | (.head n _, a) => some (n, a)
  | _ => none
def headsW (words : List Wd) : List (Nat × Nat) := words.zipIdx.filterMap headOf
def sp_told (K : PySem.W.Frag) : Sp := fun vs H Q _ => ∃ (Y : YA) (s : YS) (v : V) (w : Wd), vs = [.ref Y.p, v] ∧ YAt K Y H s ∧ WR H v w ∧ PtrAt s.words w ∧ ∀ v' H', Ex H H' → WR H' v' (toldW s.words w) → Q v' H'
def sp_write_root (K : PySem.W.Frag) : Sp := fun vs H Q _ => ∃ (Y : YA) (s : YS) (k : Nat) (v : V) (w : Wd), vs = [.ref Y.p, .int (k : Int), v] ∧ YAt K Y H s ∧ k < s.roots.length ∧ WR H v w ∧ ∀ H', Yd K Y H H' { s with roots := s.roots.set k w } → Q .non H'
def sp_write_slot (K : PySem.W.Frag) : Sp := fun vs H Q _ => ∃ (Y : YA) (s : YS) (a i : Nat) (v : V) (w : Wd), vs = [.ref Y.p, .int (a : Int), .int (i : Int), v] ∧ YAt K Y H s ∧ a + 1 + i < s.words.length ∧ WR H v w ∧ ∀ H', Yd K Y H H' { s with words := s.words.set (a + 1 + i) w } → Q .non H'
def sp_release (K : PySem.W.Frag) : Sp := fun vs H Q _ => ∃ (Y : YA) (s : YS) (a n z : Nat), vs = [.ref Y.p, .int (a : Int)] ∧ YAt K Y H s ∧ s.words[a]? = some (.head n z) ∧ a + z < s.words.length ∧ s.words.length ≤ 1000 ∧ s.gone.length ≤ 1000 ∧
  ∀ H', Yd K Y H H' { s with words := wipeW s.words a (z + 1), gone := s.gone ++ [n] } → Q .non H'
def sp_ask_root (_ : PySem.W.Frag) : Sp := fun vs H Q _ => ∃ (v : V) (k : Nat), vs = [v, .int (k : Int)] ∧ k < 8 ∧ ∀ H', Ex H H' → Q .non H'
def sp_cell_at (K : PySem.W.Frag) : Sp := fun vs H Q E => ∃ (Y : YA) (s : YS) (k : Nat) (w : Wd), vs = [.ref Y.p, .int (k : Int)] ∧ YAt K Y H s ∧ s.roots[k]? = some w ∧ (∀ a, w = .ptr a → ∀ H', Ex H H' → Q (.int (a : Int)) H') ∧ (isPtr w = false → ∀ H', Ex H H' → E (.ref (aF K "NoCell")) none H')
def sp_slot_at (K : PySem.W.Frag) : Sp := fun vs H Q E => ∃ (Y : YA) (s : YS) (a i n z : Nat), vs = [.ref Y.p, .int (a : Int), .int (i : Int)] ∧ YAt K Y H s ∧ s.words[a]? = some (.head n z) ∧ (i < z → ∀ H', Ex H H' → Q (.int ((a + 1 + i : Nat) : Int)) H') ∧ (z ≤ i → ∀ H', Ex H H' → E (.ref (aF K "NoSlot")) none H')
def sp_room_for (K : PySem.W.Frag) : Sp := fun vs H Q _ => ∃ (Y : YA) (s : YS) (z : Nat), vs = [.ref Y.p, .int (z : Int)] ∧ YAt K Y H s ∧ ∀ H', Ex H H' → Q (oInt (firstFit s.free (z + 1))) H'
def sp_where (K : PySem.W.Frag) : Sp := fun vs H Q _ => ∃ (Y : YA) (s : YS), vs = [.ref Y.p] ∧ YAt K Y H s ∧ s.words.length ≤ 1000 ∧ ∀ (zs : List (Nat × Nat)) (xs : List V) (D : Addr) H', Ex H H' → zs.Perm (headsW s.words) → zs.Pairwise (fun x y => x.1 ≤ y.1) → H D = none → H' D = some (.lst xs) → StRs H' xs zs → Q (.ref D) H'
def sp_slots_at (K : PySem.W.Frag) : Sp := fun vs H Q _ => ∃ (Y : YA) (s : YS) (a n z : Nat), vs = [.ref Y.p, .int (a : Int)] ∧ YAt K Y H s ∧ s.words[a]? = some (.head n z) ∧ a + z < s.words.length ∧ s.words.length ≤ 1000 ∧ (∀ w ∈ slotsW s.words a z, PtrAt s.words w) ∧
  ∀ H' D xs, Ex H H' → H D = none → H' D = some (.lst xs) → WRs H' xs ((slotsW s.words a z).map (toldW s.words)) → Q (.ref D) H'
/-- a cell of a picture -/
def CellR (H : Hp) (v : V) (c : Nat × List Wd) : Prop := ∃ t l xs, v = .ref t ∧ H t = some (.tup [.int (c.1 : Int), .ref l]) ∧ H l = some (.lst xs) ∧ WRs H xs c.2
def PicAt (H : Hp) (v : V) (R : List Wd) (C : List (Nat × List Wd)) : Prop := ∃ t r c rs cs, v = .ref t ∧ H t = some (.tup [.ref r, .ref c]) ∧ H r = some (.lst rs) ∧ WRs H rs R ∧ H c = some (.lst cs) ∧ Paired (CellR H) cs C
def szAt (words : List Wd) (a : Nat) : Nat := match words[a]? with
  | some (.head _ z) => z
  | _ => 0
def sp_picture (K : PySem.W.Frag) : Sp := fun vs H Q _ => ∃ (Y : YA) (s : YS), vs = [.ref Y.p] ∧ YAt K Y H s ∧ s.words.length ≤ 1000 ∧ s.roots.length ≤ 1000 ∧ (∀ w ∈ s.roots, PtrAt s.words w) ∧
  (∀ a n z, s.words[a]? = some (.head n z) → a + z < s.words.length ∧ ∀ w ∈ slotsW s.words a z, PtrAt s.words w) ∧
  ∀ v H' (zs : List (Nat × Nat)), Ex H H' → zs.Perm (headsW s.words) → zs.Pairwise (fun x y => x.1 ≤ y.1) → PicAt H' v (s.roots.map (toldW s.words)) (zs.map fun e => (e.1, (slotsW s.words e.2 (szAt s.words e.2)).map (toldW s.words))) → Q v H'
def sp_inner (K : PySem.W.Frag) : Sp := fun vs H Q _ => ∃ (p dx lw : Addr) (fs : List (Str × V)) (ws : List V) (words : List Wd) (a n z : Nat), vs = [.ref p, .int (a : Int)] ∧ H p = some (.ins (aC K) dx fs) ∧ fs.lookup ("words" : Str) = some (V.ref lw) ∧ H lw = some (.lst ws) ∧ WRs H ws words ∧
  words[a]? = some (.head n z) ∧ a + z < words.length ∧ words.length ≤ 1000 ∧ ∀ H' D, Ex H H' → H D = none → H' D = some (.lst (nsV (innerW words a z))) → Q (.ref D) H'
end Gy

set_option Elab.async false
set_option linter.all false
set_option maxRecDepth 100000
set_option maxHeartbeats 1000000
/-! Part 10: a yard against roots and cells by names; sweeping. No program in sight. -/
namespace Gy
/-! ### live cells, values -/
def cl (C : List (List Wd)) (n : Nat) : List Wd := C.getD n []
def Live (C : List (List Wd)) (G : List Nat) (n : Nat) : Prop := n < C.length ∧ n ∉ G
instance (C : List (List Wd)) (G : List Nat) (n : Nat) : Decidable (Live C G n) := inferInstanceAs (Decidable (_ ∧ _))
def ad (pos : Nat → Nat) : Wd → Wd
  | .ptr n => .ptr (pos n)
  | w => w
def OkW (C : List (List Wd)) (G : List Nat) : Wd → Prop
  | .non => True
  | .num i => -1000000 ≤ i ∧ i ≤ 1000000
  | .ptr n => Live C G n
  | .head _ _ => False
def ptrs (l : List Wd) : List Nat := l.filterMap ptrOf
theorem cl_get {C : List (List Wd)} {n : Nat} {l : List Wd} (h : C[n]? = some l) : cl C n = l := by unfold cl; rw [List.getD_eq_getElem?_getD, h]; rfl
theorem cl_some {C : List (List Wd)} {n : Nat} (h : n < C.length) : C[n]? = some (cl C n) := by
  unfold cl
  rw [List.getD_eq_getElem?_getD, List.getElem?_eq_getElem h]; rfl
theorem cl_out {C : List (List Wd)} {n : Nat} (h : C.length ≤ n) : cl C n = [] := by
  unfold cl
  rw [List.getD_eq_getElem?_getD, List.getElem?_eq_none h]; rfl
theorem cl_app {C : List (List Wd)} {l : List Wd} {n : Nat} (h : n ≠ C.length) : cl (C ++ [l]) n = cl C n := by
  unfold cl
  rw [List.getD_eq_getElem?_getD, List.getD_eq_getElem?_getD]
  rcases Nat.lt_or_ge n C.length with q | q
  · rw [List.getElem?_append_left q]
  · rw [List.getElem?_eq_none (by rw [List.length_append, List.length_singleton]; omega), List.getElem?_eq_none q]
theorem cl_app_new {C : List (List Wd)} {l : List Wd} : cl (C ++ [l]) C.length = l := cl_get (by rw [List.getElem?_append_right (Nat.le_refl _)]; simp)
theorem cl_set {C : List (List Wd)} {l : List Wd} {n m : Nat} (h : n < C.length) : cl (C.set n l) m = if m = n then l else cl C m := by
  unfold cl
  rw [List.getD_eq_getElem?_getD, List.getD_eq_getElem?_getD, List.getElem?_set]
  by_cases q : n = m
  · subst q; rw [if_pos rfl, if_pos h, if_pos rfl]; rfl
  · rw [if_neg q, if_neg (fun z => q z.symm)]
theorem Live.app {C : List (List Wd)} {G : List Nat} {n m : Nat} (h : Live C (G ++ [m]) n) : Live C G n := ⟨h.1, fun z => h.2 (List.mem_append_left _ z)⟩
theorem Live.apps {C : List (List Wd)} {G X : List Nat} {n : Nat} (h : Live C (G ++ X) n) : Live C G n := ⟨h.1, fun z => h.2 (List.mem_append_left _ z)⟩
theorem live_app {C : List (List Wd)} {G : List Nat} {n m : Nat} : Live C (G ++ [m]) n ↔ Live C G n ∧ n ≠ m := by
  unfold Live
  rw [List.mem_append, List.mem_singleton]
  constructor
  · rintro ⟨h1, h2⟩; exact ⟨⟨h1, fun z => h2 (.inl z)⟩, fun z => h2 (.inr z)⟩
  · rintro ⟨⟨h1, h2⟩, h3⟩; exact ⟨h1, fun z => z.elim h2 h3⟩
theorem ptrs_mem {l : List Wd} {n : Nat} : n ∈ ptrs l ↔ Wd.ptr n ∈ l := by
  unfold ptrs
  rw [List.mem_filterMap]
  constructor
  · rintro ⟨w, h1, h2⟩
    cases w with
    | ptr a => injection h2 with h2; subst h2; exact h1
    | _ => cases h2
  · intro h; exact ⟨_, h, rfl⟩
theorem ptrs_count (n : Nat) : ∀ l : List Wd, (ptrs l).count n = l.count (.ptr n)
  | [] => rfl
  | w :: l => by
    have ih := ptrs_count n l
    cases w with
    | ptr a =>
      show (a :: ptrs l).count n = _
      rw [List.count_cons, List.count_cons, ih]
      congr 1
      by_cases h : a = n
      · subst h; simp
      · have : ¬ (Wd.ptr a = Wd.ptr n) := fun z => h (by injection z)
        simp [h, this]
    | non => show (ptrs l).count n = _; rw [ih, List.count_cons]; simp
    | num i => show (ptrs l).count n = _; rw [ih, List.count_cons]; simp
    | head i j => show (ptrs l).count n = _; rw [ih, List.count_cons]; simp
/-! ### free stretches -/
def FreeOk (fs : List (Nat × Nat)) : Prop := (∀ f ∈ fs, 0 < f.2 ∧ f.1 + f.2 ≤ 60) ∧ fs.Pairwise (fun x y => x.1 + x.2 ≤ y.1)
theorem FreeOk.len_from : ∀ {fs : List (Nat × Nat)} {lo : Nat}, FreeOk fs → (∀ f ∈ fs, lo ≤ f.1) → lo ≤ 60 → fs.length + lo ≤ 60
  | [], lo, _, _, h => by simpa using h
  | f :: r, lo, h, hl, _ => by
    obtain ⟨h1, h2⟩ := h
    have a := h1 f List.mem_cons_self
    have b := hl f List.mem_cons_self
    have c := List.pairwise_cons.mp h2
    have d := FreeOk.len_from (fs := r) (lo := f.1 + f.2) ⟨fun g hg => h1 g (List.mem_cons_of_mem _ hg), c.2⟩ c.1 a.2
    rw [List.length_cons]; omega
theorem FreeOk.len {fs : List (Nat × Nat)} (h : FreeOk fs) : fs.length ≤ 60 := by
  have := h.len_from (lo := 0) (fun _ _ => Nat.zero_le _) (by omega)
  omega
/-- apart from the words of a cell -/
def Apart (p z : Nat) (f : Nat × Nat) : Prop := f.1 + f.2 ≤ p ∨ p + z < f.1
theorem pw_app3 {A B : List (Nat × Nat)} {x : Nat × Nat} (h1 : A.Pairwise (fun x y => x.1 + x.2 ≤ y.1)) (h2 : B.Pairwise (fun x y => x.1 + x.2 ≤ y.1)) (h3 : ∀ a ∈ A, a.1 + a.2 ≤ x.1) (h4 : ∀ b ∈ B, x.1 + x.2 ≤ b.1) : (A ++ [x] ++ B).Pairwise (fun x y => x.1 + x.2 ≤ y.1) := by
  refine List.pairwise_append.mpr ⟨List.pairwise_append.mpr ⟨h1, List.pairwise_singleton _ _, fun a ha b hb => ?_⟩, h2, fun a ha b hb => ?_⟩
  · rw [List.mem_singleton.mp hb]; exact h3 a ha
  · have := h4 b hb
    rcases List.mem_append.mp ha with q | q
    · have := h3 a q; omega
    · rw [List.mem_singleton.mp q]; exact this
theorem join1_spec {A : List (Nat × Nat)} {first many : Nat} (h : FreeOk A) (ha : ∀ a ∈ A, a.1 + a.2 ≤ first) :
    FreeOk (join1 A first many).1 ∧ (∀ a ∈ (join1 A first many).1, a ∈ A ∧ a.1 + a.2 ≤ (join1 A first many).2.1) ∧ (join1 A first many).2.1 + (join1 A first many).2.2 = first + many ∧ (join1 A first many).2.1 ≤ first ∧
    ∀ p z, (∀ a ∈ A, Apart p z a) → Apart p z (first, many) → Apart p z ((join1 A first many).2.1, (join1 A first many).2.2) := by
  rcases List.eq_nil_or_concat A with hA | ⟨A0, l, hA⟩
  · subst hA
    refine ⟨h, fun a q => ?_, rfl, Nat.le_refl _, fun p z _ q => q⟩
    cases q
  · rw [List.concat_eq_append] at hA
    subst hA
    have j1 : join1 (A0 ++ [l]) first many = if l.1 + l.2 = first then (A0, l.1, many + l.2) else (A0 ++ [l], first, many) := by
      unfold join1
      rw [List.getLast?_concat]
      simp only [List.dropLast_concat]
    rw [j1]
    by_cases e : l.1 + l.2 = first
    · rw [if_pos e]
      obtain ⟨h1, h2⟩ := h
      obtain ⟨p1, p2, p3⟩ := List.pairwise_append.mp h2
      refine ⟨⟨fun a q => h1 a (List.mem_append_left _ q), p1⟩, fun a q => ⟨List.mem_append_left _ q, p3 a q l List.mem_cons_self⟩, ?_, ?_, fun p z q1 q2 => ?_⟩
      · show l.1 + (many + l.2) = _; omega
      · show l.1 ≤ _; omega
      · have := q1 l (List.mem_append_right _ List.mem_cons_self)
        unfold Apart at *
        simp only at *
        omega
    · rw [if_neg e]
      exact ⟨h, fun a q => ⟨q, ha a q⟩, rfl, Nat.le_refl _, fun p z _ q => q⟩
theorem FreeOk.filter {fs : List (Nat × Nat)} (h : FreeOk fs) (p : Nat × Nat → Bool) : FreeOk (fs.filter p) := ⟨fun f q => h.1 f ((List.mem_filter.mp q).1), h.2.filter p⟩
theorem joined_spec {fs : List (Nat × Nat)} {first many : Nat} (h : FreeOk fs) (hm : 0 < many) (hb : first + many ≤ 60) :
    FreeOk (joinedL fs first many) ∧ ∀ p z, (∀ f ∈ fs, Apart p z f) → Apart p z (first, many) → ∀ f ∈ joinedL fs first many, Apart p z f := by
  have hA := h.filter fun s => decide (s.1 + s.2 ≤ first)
  have hB := h.filter fun s => decide (first + many ≤ s.1)
  obtain ⟨k1, k2, k3, k4, k5⟩ := join1_spec (many := many) hA fun a q => by simpa using (List.mem_filter.mp q).2
  have hBm : ∀ b ∈ behindL fs first many, first + many ≤ b.1 := fun b q => by simpa using (List.mem_filter.mp q).2
  have hBs : ∀ b ∈ behindL fs first many, b ∈ fs := fun b q => (List.mem_filter.mp q).1
  have hAs : ∀ b ∈ aheadL fs first, b ∈ fs := fun b q => (List.mem_filter.mp q).1
  have hB' : FreeOk (behindL fs first many) := hB
  unfold joinedL
  change FreeOk (join1 (aheadL fs first) first many).1 at k1
  generalize hj : join1 (aheadL fs first) first many = J at *
  have hj' : join1 (List.filter (fun s => decide (s.1 + s.2 ≤ first)) fs) first many = J := hj
  rw [hj'] at k2 k3 k4 k5
  cases hbl : behindL fs first many with
  | nil =>
    show FreeOk (J.1 ++ [(J.2.1, J.2.2)]) ∧ _
    refine ⟨⟨fun f q => ?_, ?_⟩, fun p z q1 q2 f q => ?_⟩
    · rcases List.mem_append.mp q with q | q
      · exact k1.1 f q
      · rw [List.mem_singleton.mp q]; show 0 < J.2.2 ∧ J.2.1 + J.2.2 ≤ 60; omega
    · have := pw_app3 (B := []) (x := (J.2.1, J.2.2)) k1.2 .nil (fun a q => (k2 a q).2) (fun _ q => by cases q)
      rwa [List.append_nil] at this
    · have q5 := k5 p z (fun a qa => q1 a (hAs a qa)) q2
      rcases List.mem_append.mp q with q | q
      · exact q1 f (hAs f (k2 f q).1)
      · rw [List.mem_singleton.mp q]; exact q5
  | cons b r =>
    rw [hbl] at hBm hBs hB'
    have ob := hB'.1 b List.mem_cons_self
    obtain ⟨pb, pr⟩ := List.pairwise_cons.mp hB'.2
    have mb := hBm b List.mem_cons_self
    show FreeOk (join2 J.1 J.2.1 J.2.2 (b :: r)) ∧ ∀ p z, _ → _ → ∀ f ∈ join2 J.1 J.2.1 J.2.2 (b :: r), _
    have ej : join2 J.1 J.2.1 J.2.2 (b :: r) = if b.1 = J.2.1 + J.2.2 then J.1 ++ [(J.2.1, J.2.2 + b.2)] ++ r else J.1 ++ [(J.2.1, J.2.2)] ++ b :: r := rfl
    rw [ej]
    by_cases e : b.1 = J.2.1 + J.2.2
    · rw [if_pos e]
      refine ⟨⟨fun f q => ?_, pw_app3 k1.2 pr (fun a q => (k2 a q).2) fun c q => ?_⟩, fun p z q1 q2 f q => ?_⟩
      · rcases List.mem_append.mp q with q | q
        · rcases List.mem_append.mp q with q | q
          · exact k1.1 f q
          · rw [List.mem_singleton.mp q]; show 0 < J.2.2 + b.2 ∧ J.2.1 + (J.2.2 + b.2) ≤ 60; omega
        · exact hB'.1 f (List.mem_cons_of_mem _ q)
      · have := pb c q
        show J.2.1 + (J.2.2 + b.2) ≤ c.1; omega
      · have q5 := k5 p z (fun a qa => q1 a (hAs a qa)) q2
        rcases List.mem_append.mp q with q | q
        · rcases List.mem_append.mp q with q | q
          · exact q1 f (hAs f (k2 f q).1)
          · rw [List.mem_singleton.mp q]
            have := q1 b (hBs b List.mem_cons_self)
            unfold Apart at *
            simp only at *
            omega
        · exact q1 f (hBs f (List.mem_cons_of_mem _ q))
    · rw [if_neg e]
      refine ⟨⟨fun f q => ?_, pw_app3 k1.2 hB'.2 (fun a q => (k2 a q).2) fun c q => ?_⟩, fun p z q1 q2 f q => ?_⟩
      · rcases List.mem_append.mp q with q | q
        · rcases List.mem_append.mp q with q | q
          · exact k1.1 f q
          · rw [List.mem_singleton.mp q]; show 0 < J.2.2 ∧ J.2.1 + J.2.2 ≤ 60; omega
        · exact hB'.1 f q
      · have := hBm c q
        show J.2.1 + J.2.2 ≤ c.1; omega
      · have q5 := k5 p z (fun a qa => q1 a (hAs a qa)) q2
        rcases List.mem_append.mp q with q | q
        · rcases List.mem_append.mp q with q | q
          · exact q1 f (hAs f (k2 f q).1)
          · rw [List.mem_singleton.mp q]; exact q5
        · exact q1 f (hBs f q)
theorem firstFit_mem : ∀ {fs : List (Nat × Nat)} {m a : Nat}, firstFit fs m = some a → ∃ s ∈ fs, s.1 = a ∧ m ≤ s.2
  | s :: r, m, a, h => by
    unfold firstFit at h
    by_cases q : m ≤ s.2
    · rw [if_pos q] at h
      injection h with h
      exact ⟨s, List.mem_cons_self, h, q⟩
    · rw [if_neg q] at h
      obtain ⟨t, h1, h2⟩ := firstFit_mem h
      exact ⟨t, List.mem_cons_of_mem _ h1, h2⟩
/-- the first stretch that covers -/
theorem cover_first {fs : List (Nat × Nat)} {f m : Nat} (h : ∃ s ∈ fs, covers f m s = true) : ∃ (k : Nat) (s : Nat × Nat), fs[k]? = some s ∧ covers f m s = true ∧ ∀ (j : Nat) t, j < k → fs[j]? = some t → covers f m t = false := by
  induction fs with
  | nil => obtain ⟨s, h, _⟩ := h; cases h
  | cons x r ih =>
    cases hx : covers f m x with
    | true => exact ⟨0, x, rfl, hx, fun j t hj => by omega⟩
    | false =>
      obtain ⟨s, hs, hc⟩ := h
      rcases List.mem_cons.mp hs with q | q
      · rw [q, hx] at hc; cases hc
      · obtain ⟨k, t, h1, h2, h3⟩ := ih ⟨s, q, hc⟩
        refine ⟨k + 1, t, by simpa using h1, h2, fun j u hj hu => ?_⟩
        cases j with
        | zero => simp at hu; subst hu; exact hx
        | succ j => exact h3 j u (by omega) (by simpa using hu)
theorem cut_spec {s : Nat × Nat} {f m : Nat} (hc : covers f m s = true) : s.1 ≤ f ∧ f + m ≤ s.1 + s.2 := by
  unfold covers at hc
  simpa using hc
theorem cutOut_mem {s g : Nat × Nat} {f m : Nat} (hc : covers f m s = true) (hg : g ∈ cutOut s f m) : 0 < g.2 ∧ ((s.1 = g.1 ∧ g.1 + g.2 = f) ∨ (g.1 = f + m ∧ g.1 + g.2 = s.1 + s.2)) := by
  obtain ⟨c1, c2⟩ := cut_spec hc
  unfold cutOut at hg
  obtain ⟨h1, h2⟩ := List.mem_filter.mp hg
  have h2 : 0 < g.2 := by simpa using h2
  refine ⟨h2, ?_⟩
  rcases List.mem_cons.mp h1 with q | q
  · rw [q]; exact .inl ⟨rfl, by show s.1 + (f - s.1) = f; omega⟩
  · rw [List.mem_singleton.mp q]; exact .inr ⟨rfl, by show f + m + (s.1 + s.2 - f - m) = s.1 + s.2; omega⟩
theorem without_spec {fs : List (Nat × Nat)} {f m k : Nat} {s : Nat × Nat} (h : FreeOk fs) (hk : fs[k]? = some s) (hc : covers f m s = true) (hm : 0 < m) :
    FreeOk (withoutL fs f m k s) ∧ (∀ g ∈ withoutL fs f m k s, Apart f (m - 1) g) ∧ ∀ p z, (∀ g ∈ fs, Apart p z g) → ∀ g ∈ withoutL fs f m k s, Apart p z g := by
  obtain ⟨c1, c2⟩ := cut_spec hc
  have hsm := List.mem_of_getElem? hk
  have hs := h.1 s hsm
  have ek : fs = fs.take k ++ s :: fs.drop (k + 1) := by
    conv => lhs; rw [← List.take_append_drop k fs]
    obtain ⟨h1, h2⟩ := List.getElem?_eq_some_iff.mp hk
    rw [List.drop_eq_getElem_cons h1, h2]
  have hp := h.2
  rw [ek] at hp
  obtain ⟨p1, p2, p3⟩ := List.pairwise_append.mp hp
  obtain ⟨p4, p5⟩ := List.pairwise_cons.mp p2
  have cm : ∀ g ∈ cutOut s f m, _ := fun g hg => cutOut_mem hc hg
  have tm : ∀ g ∈ fs.take k, g ∈ fs := fun g hg => List.mem_of_mem_take hg
  have dm : ∀ g ∈ fs.drop (k + 1), g ∈ fs := fun g hg => List.mem_of_mem_drop hg
  have ta : ∀ g ∈ fs.take k, g.1 + g.2 ≤ s.1 := fun g hg => p3 g hg s List.mem_cons_self
  refine ⟨⟨fun g hg => ?_, ?_⟩, fun g hg => ?_, fun p z hz g hg => ?_⟩
  · rcases List.mem_append.mp hg with q | q
    · rcases List.mem_append.mp q with q | q
      · exact h.1 g (tm g q)
      · have := cm g q; omega
    · exact h.1 g (dm g q)
  · refine List.pairwise_append.mpr ⟨List.pairwise_append.mpr ⟨p1, ?_, fun a ha b hb => ?_⟩, p5, fun a ha b hb => ?_⟩
    · unfold cutOut
      refine List.Pairwise.filter _ ?_
      refine List.pairwise_cons.mpr ⟨fun b hb => ?_, List.pairwise_singleton _ _⟩
      rw [List.mem_singleton.mp hb]; show s.1 + (f - s.1) ≤ f + m; omega
    · have := ta a ha; have := cm b hb; omega
    · have := p4 b hb
      rcases List.mem_append.mp ha with q | q
      · have := ta a q; omega
      · have := cm a q; omega
  · unfold Apart
    rcases List.mem_append.mp hg with q | q
    · rcases List.mem_append.mp q with q | q
      · have := ta g q; omega
      · have := cm g q; omega
    · have := p4 g q; omega
  · rcases List.mem_append.mp hg with q | q
    · rcases List.mem_append.mp q with q | q
      · exact hz g (tm g q)
      · have := cm g q; have := hz s hsm; unfold Apart at *; omega
    · exact hz g (dm g q)
end Gy

set_option Elab.async false
set_option linter.all false
set_option maxRecDepth 100000
set_option maxHeartbeats 1000000
/-! Part 11: counts, sweeping. No program in sight. -/
namespace Gy
/-! ### sums over the cells -/
def csum (f : Nat → Nat) : Nat → Nat
  | 0 => 0
  | n + 1 => csum f n + f n
theorem csum_congr {f g : Nat → Nat} : ∀ {n : Nat}, (∀ m, m < n → f m = g m) → csum f n = csum g n
  | 0, _ => rfl
  | n + 1, h => by
    show csum f n + f n = csum g n + g n
    rw [csum_congr fun m hm => h m (Nat.lt_succ_of_lt hm), h n (Nat.lt_succ_self n)]
theorem csum_upd {f g : Nat → Nat} {k : Nat} : ∀ {n : Nat}, k < n → (∀ m, m < n → m ≠ k → f m = g m) → csum f n + g k = csum g n + f k
  | n + 1, hk, h => by
    show csum f n + f n + g k = csum g n + g n + f k
    by_cases e : k = n
    · subst e
      rw [csum_congr fun m hm => h m (Nat.lt_succ_of_lt hm) (Nat.ne_of_lt hm)]; omega
    · have := csum_upd (f := f) (g := g) (n := n) (k := k) (by omega) fun m hm hn => h m (Nat.lt_succ_of_lt hm) hn
      have := h n (Nat.lt_succ_self n) (fun z => e z.symm)
      omega
theorem csum_zero {f : Nat → Nat} : ∀ {n : Nat}, csum f n = 0 → ∀ m, m < n → f m = 0
  | n + 1, h, m, hm => by
    have h : csum f n + f n = 0 := h
    by_cases e : m = n
    · subst e; omega
    · exact csum_zero (n := n) (by omega) m (by omega)
theorem csum_pos {f : Nat → Nat} {n m : Nat} (hm : m < n) (h : 0 < f m) : 0 < csum f n := by
  rcases Nat.eq_zero_or_pos (csum f n) with q | q
  · have := csum_zero q m hm; omega
  · exact q
theorem csum_all0 {f : Nat → Nat} : ∀ {n : Nat}, (∀ m, m < n → f m = 0) → csum f n = 0
  | 0, _ => rfl
  | n + 1, h => by
    show csum f n + f n = 0
    rw [csum_all0 fun m hm => h m (Nat.lt_succ_of_lt hm), h n (Nat.lt_succ_self n)]
/-- how many slots of live cells lead to n; .. and roots -/
def cellN (C : List (List Wd)) (G : List Nat) (n m : Nat) : Nat := if m ∈ G then 0 else (cl C m).count (.ptr n)
def cntC (C : List (List Wd)) (G : List Nat) (n : Nat) : Nat := csum (cellN C G n) C.length
def cnt (R : List Wd) (C : List (List Wd)) (G : List Nat) (n : Nat) : Nat := R.count (.ptr n) + cntC C G n
structure OkS (R : List Wd) (C : List (List Wd)) (G : List Nat) : Prop where
  r8 : R.length = 8
  rt : ∀ w ∈ R, OkW C G w
  cc : ∀ n, Live C G n → ∀ w ∈ cl C n, OkW C G w
  z4 : ∀ n, (cl C n).length ≤ 4
  gl : ∀ g ∈ G, g < C.length
  gd : G.Nodup
/-! ### sweeping -/
structure SW where
  L : Nat → Int
  gone : List Nat
  wait : List Wd
def ovr (L : Nat → Int) (n : Nat) (c : Int) : Nat → Int := fun m => if m = n then c else L m
def stepS (C : List (List Wd)) (t : SW) : SW := match t.wait with
  | [] => t
  | .ptr n :: r => if t.L n - 1 = 0 then ⟨ovr t.L n (t.L n - 1), t.gone ++ [n], r ++ cl C n⟩ else ⟨ovr t.L n (t.L n - 1), t.gone, r⟩
  | _ :: r => ⟨t.L, t.gone, r⟩
def itS (C : List (List Wd)) : Nat → SW → SW
  | 0, t => t
  | k + 1, t => stepS C (itS C k t)
structure SI (R : List Wd) (C : List (List Wd)) (t : SW) : Prop where
  ok : OkS R C t.gone
  wt : ∀ w ∈ t.wait, OkW C t.gone w
  eq : ∀ n, Live C t.gone n → t.L n = ((cnt R C t.gone n + t.wait.count (.ptr n) : Nat) : Int)
theorem OkW.drop {C : List (List Wd)} {G : List Nat} {n : Nat} {w : Wd} (h : OkW C G w) (hn : w ≠ .ptr n) : OkW C (G ++ [n]) w := by
  cases w with
  | ptr m => exact live_app.mpr ⟨h, fun z => hn (by rw [z])⟩
  | num i => exact h
  | non => trivial
  | head i j => exact h
theorem OkS.gl_app {R : List Wd} {C : List (List Wd)} {G : List Nat} {n : Nat} (ok : OkS R C G) (hl : Live C G n) : ∀ g ∈ G ++ [n], g < C.length := fun g q => by
  rcases List.mem_append.mp q with q | q
  · exact ok.gl g q
  · rw [List.mem_singleton.mp q]; exact hl.1
theorem OkS.gd_app {R : List Wd} {C : List (List Wd)} {G : List Nat} {n : Nat} (ok : OkS R C G) (hl : Live C G n) : (G ++ [n]).Nodup := List.nodup_append.mpr ⟨ok.gd, by simp, fun x hx y hy e => hl.2 (by rw [List.mem_singleton.mp hy] at e; rw [← e]; exact hx)⟩
/-- different numbers below n -/
theorem nodup_below : ∀ {n : Nat} {l : List Nat}, l.Nodup → (∀ x ∈ l, x < n) → l.length ≤ n
  | 0, [], _, _ => Nat.le_refl _
  | 0, x :: _, _, h => absurd (h x List.mem_cons_self) (Nat.not_lt_zero x)
  | n + 1, l, hd, h => by
    by_cases q : n ∈ l
    · have e := List.length_erase_of_mem q
      have p := List.length_pos_of_mem q
      have := nodup_below (n := n) (hd.erase n) fun x hx => by
        have h1 := h x (List.mem_of_mem_erase hx)
        have h2 : x ≠ n := fun z => by rw [z] at hx; exact (List.Nodup.not_mem_erase hd) hx
        omega
      omega
    · have := nodup_below (n := n) hd fun x hx => by
        have h1 := h x hx
        have h2 : x ≠ n := fun z => q (z ▸ hx)
        omega
      omega
theorem OkS.glen {R : List Wd} {C : List (List Wd)} {G : List Nat} (ok : OkS R C G) : G.length ≤ C.length := nodup_below ok.gd ok.gl
theorem cnt_zero {R : List Wd} {C : List (List Wd)} {G : List Nat} {n : Nat} (h : cnt R C G n = 0) : Wd.ptr n ∉ R ∧ ∀ m, Live C G m → Wd.ptr n ∉ cl C m := by
  unfold cnt at h
  have h1 : R.count (.ptr n) = 0 := by omega
  have h2 : cntC C G n = 0 := by omega
  refine ⟨List.count_eq_zero.mp h1, fun m hm => ?_⟩
  have := csum_zero h2 m hm.1
  unfold cellN at this
  rw [if_neg hm.2] at this
  exact List.count_eq_zero.mp this
theorem cntC_drop {C : List (List Wd)} {G : List Nat} {n m : Nat} (h : Live C G n) : cntC C (G ++ [n]) m + (cl C n).count (.ptr m) = cntC C G m := by
  unfold cntC
  have := csum_upd (f := cellN C (G ++ [n]) m) (g := cellN C G m) h.1 fun k _ hk => by
    unfold cellN
    by_cases q : k ∈ G
    · rw [if_pos q, if_pos (List.mem_append_left _ q)]
    · rw [if_neg q, if_neg (fun z => by rcases List.mem_append.mp z with z | z
                                        · exact q z
                                        · exact hk (List.mem_singleton.mp z))]
  have e1 : cellN C (G ++ [n]) m n = 0 := by unfold cellN; rw [if_pos (List.mem_append_right _ List.mem_cons_self)]
  have e2 : cellN C G m n = (cl C n).count (.ptr m) := by unfold cellN; rw [if_neg h.2]
  omega
theorem SI.step {R : List Wd} {C : List (List Wd)} {t : SW} (h : SI R C t) : SI R C (stepS C t) := by
  obtain ⟨ok, wt, eq⟩ := h
  unfold stepS
  cases hw : t.wait with
  | nil => exact ⟨ok, wt, eq⟩
  | cons w r =>
    rw [hw] at wt eq
    have wr : ∀ w ∈ r, OkW C t.gone w := fun w q => wt w (List.mem_cons_of_mem _ q)
    have plain : (∀ n, w ≠ .ptr n) → SI R C ⟨t.L, t.gone, r⟩ := fun hn => ⟨ok, wr, fun n hl => by
      have := eq n hl
      rw [List.count_cons_of_ne (fun z => hn n z)] at this
      exact this⟩
    cases w with
    | non => exact plain fun n z => by cases z
    | num i => exact plain fun n z => by cases z
    | head i j => exact plain fun n z => by cases z
    | ptr n =>
      have hl : Live C t.gone n := wt _ List.mem_cons_self
      have en := eq n hl
      rw [List.count_cons_self] at en
      show SI R C (if t.L n - 1 = 0 then _ else _)
      by_cases z : t.L n - 1 = 0
      · rw [if_pos z]
        have c0 : cnt R C t.gone n = 0 := by omega
        have r0 : r.count (.ptr n) = 0 := by omega
        obtain ⟨c1, c2⟩ := cnt_zero c0
        have c3 := List.count_eq_zero.mp r0
        have o1 : OkS R C (t.gone ++ [n]) := ⟨ok.r8, fun w q => (ok.rt w q).drop fun z => c1 (z ▸ q), fun m hm w q => (ok.cc m hm.app w q).drop fun z => c2 m hm.app (z ▸ q), ok.z4, ok.gl_app hl, ok.gd_app hl⟩
        refine ⟨o1, fun w q => ?_, fun m hm => ?_⟩
        · rcases List.mem_append.mp q with q | q
          · exact (wr w q).drop fun z => c3 (z ▸ q)
          · exact (ok.cc n hl w q).drop fun z => c2 n hl (z ▸ q)
        · obtain ⟨hm1, hm2⟩ := live_app.mp hm
          have em := eq m hm1
          rw [List.count_cons_of_ne (fun z => hm2 (by injection z with z; exact z.symm))] at em
          have ed := cntC_drop (m := m) hl
          show (if m = n then _ else t.L m) = _
          rw [if_neg hm2, em]
          show _ = ((cnt R C (t.gone ++ [n]) m + (r ++ cl C n).count (.ptr m) : Nat) : Int)
          rw [List.count_append]
          unfold cnt
          omega
      · rw [if_neg z]
        refine ⟨ok, wr, fun m hm => ?_⟩
        show (if m = n then _ else t.L m) = _
        by_cases q : m = n
        · subst q
          rw [if_pos rfl, en]; show _ = ((cnt R C t.gone m + r.count (.ptr m) : Nat) : Int); omega
        · rw [if_neg q]
          have em := eq m hm
          rw [List.count_cons_of_ne (fun z => q (by injection z with z; exact z.symm))] at em
          exact em
theorem SI.it {R : List Wd} {C : List (List Wd)} {t : SW} (h : SI R C t) : ∀ i, SI R C (itS C i t)
  | 0 => h
  | i + 1 => (h.it i).step
/-- what is still to be done -/
def mu (C : List (List Wd)) (t : SW) : Nat := t.wait.length + csum (fun m => if m ∈ t.gone then 0 else (cl C m).length) C.length
theorem mu_step {R : List Wd} {C : List (List Wd)} {t : SW} (h : SI R C t) (hw : t.wait ≠ []) : mu C (stepS C t) + 1 = mu C t := by
  unfold stepS
  cases e : t.wait with
  | nil => exact absurd e hw
  | cons w r =>
    have plain : mu C ⟨t.L, t.gone, r⟩ + 1 = mu C t := by
      unfold mu
      rw [e, List.length_cons]
      show r.length + csum (fun m => if m ∈ t.gone then 0 else (cl C m).length) C.length + 1 = r.length + 1 + _
      omega
    cases w with
    | non => exact plain
    | num i => exact plain
    | head i j => exact plain
    | ptr n =>
      have hl : Live C t.gone n := h.wt (.ptr n) (by rw [e]; exact List.mem_cons_self)
      show mu C (if t.L n - 1 = 0 then _ else _) + 1 = _
      by_cases z : t.L n - 1 = 0
      · rw [if_pos z]
        have := csum_upd (f := fun m => if m ∈ t.gone ++ [n] then 0 else (cl C m).length) (g := fun m => if m ∈ t.gone then 0 else (cl C m).length) hl.1 fun k _ hk => by
          show (if k ∈ t.gone ++ [n] then 0 else (cl C k).length) = if k ∈ t.gone then 0 else (cl C k).length
          by_cases q : k ∈ t.gone
          · rw [if_pos q, if_pos (List.mem_append_left _ q)]
          · rw [if_neg q, if_neg (fun z => by rcases List.mem_append.mp z with z | z
                                              · exact q z
                                              · exact hk (List.mem_singleton.mp z))]
        rw [if_pos (List.mem_append_right _ List.mem_cons_self), if_neg hl.2] at this
        unfold mu
        rw [e, List.length_cons]
        show (r ++ cl C n).length + csum (fun m => if m ∈ t.gone ++ [n] then 0 else (cl C m).length) C.length + 1 = _
        rw [List.length_append]
        omega
      · rw [if_neg z]
        exact plain
theorem step_nil {C : List (List Wd)} {t : SW} (h : t.wait = []) : stepS C t = t := by unfold stepS; rw [h]
theorem itS_fix {C : List (List Wd)} {t : SW} {i : Nat} (h : (itS C i t).wait = []) : ∀ j, itS C (i + j) t = itS C i t
  | 0 => rfl
  | j + 1 => by
    show stepS C (itS C (i + j) t) = _
    rw [itS_fix h j, step_nil h]
theorem it_mu {R : List Wd} {C : List (List Wd)} {t : SW} (h : SI R C t) : ∀ i, (itS C i t).wait = [] ∨ mu C (itS C i t) + i = mu C t
  | 0 => .inr rfl
  | i + 1 => by
    rcases it_mu h i with q | q
    · left
      show (stepS C (itS C i t)).wait = []
      rw [step_nil q]; exact q
    · by_cases z : (itS C i t).wait = []
      · left
        show (stepS C (itS C i t)).wait = []
        rw [step_nil z]; exact z
      · right
        have := mu_step (h.it i) z
        show mu C (stepS C (itS C i t)) + (i + 1) = _
        omega
theorem mu_nil {C : List (List Wd)} {t : SW} (h : mu C t = 0) : t.wait = [] := by
  unfold mu at h
  exact List.eq_nil_of_length_eq_zero (by omega)
theorem sweep_done {R : List Wd} {C : List (List Wd)} {t : SW} (h : SI R C t) : (itS C (mu C t) t).wait = [] := by
  rcases it_mu h (mu C t) with q | q
  · exact q
  · exact mu_nil (C := C) (by omega)
/-- what is gone behind the sweep -/
def swp (C : List (List Wd)) (t : SW) : List Nat := (itS C (mu C t) t).gone
theorem swp_eq {R : List Wd} {C : List (List Wd)} {t : SW} (h : SI R C t) {i : Nat} (hi : (itS C i t).wait = []) : itS C i t = itS C (mu C t) t := by
  have e1 := itS_fix hi (mu C t)
  have e2 := itS_fix (sweep_done h) i
  rw [← e1, ← e2, Nat.add_comm]
theorem step_pre {C : List (List Wd)} (t : SW) : ∃ g, (stepS C t).gone = t.gone ++ g := by
  unfold stepS
  cases t.wait with
  | nil => exact ⟨[], by simp⟩
  | cons w r => cases w with
    | ptr n =>
      by_cases z : t.L n - 1 = 0
      · exact ⟨[n], by simp [z]⟩
      · exact ⟨[], by simp [z]⟩
    | _ => exact ⟨[], by simp⟩
theorem it_pre {C : List (List Wd)} (t : SW) : ∀ i, ∃ g, (itS C i t).gone = t.gone ++ g
  | 0 => ⟨[], by simp [itS]⟩
  | i + 1 => by
    obtain ⟨g, h⟩ := it_pre t i
    obtain ⟨g2, h2⟩ := step_pre (C := C) (itS C i t)
    exact ⟨g ++ g2, by show (stepS C (itS C i t)).gone = _; rw [h2, h, List.append_assoc]⟩
/-! ### the start of a sweep: one place has let go of u -/
def L0 (R : List Wd) (C : List (List Wd)) (G : List Nat) (u : Wd) : Nat → Int := fun n => ((cnt R C G n + [u].count (.ptr n) : Nat) : Int)
def sw0 (R : List Wd) (C : List (List Wd)) (G : List Nat) (u : Wd) : SW := ⟨L0 R C G u, G, [u]⟩
theorem SI.sw0 {R : List Wd} {C : List (List Wd)} {G : List Nat} {u : Wd} (h : OkS R C G) (hu : OkW C G u) : SI R C (sw0 R C G u) := ⟨h, fun w q => by rw [List.mem_singleton.mp q]; exact hu, fun n _ => rfl⟩
/-- what is still led to by what let go is not swept -/
theorem swp_same {R : List Wd} {C : List (List Wd)} {G : List Nat} {u : Wd} (h : OkS R C G) (hu : OkW C G u) (hp : ∀ n, u = .ptr n → 0 < cnt R C G n) : swp C (sw0 R C G u) = G := by
  have e : (itS C 1 (sw0 R C G u)).wait = [] ∧ (itS C 1 (sw0 R C G u)).gone = G := by
    show (stepS C (Gy.sw0 R C G u)).wait = [] ∧ (stepS C (Gy.sw0 R C G u)).gone = G
    unfold stepS Gy.sw0
    cases u with
    | ptr n =>
      have := hp n rfl
      have q : ¬ L0 R C G (.ptr n) n - 1 = 0 := by
        unfold L0
        rw [List.count_singleton_self]; omega
      show (if L0 R C G (.ptr n) n - 1 = 0 then (_ : SW) else _).wait = [] ∧ (if L0 R C G (.ptr n) n - 1 = 0 then (_ : SW) else _).gone = G
      rw [if_neg q]
      exact ⟨rfl, rfl⟩
    | _ => exact ⟨rfl, rfl⟩
  unfold swp
  rw [← swp_eq (SI.sw0 h hu) e.1]
  exact e.2
/-! ### one place is written -/
theorem count_set {l : List Wd} {i : Nat} {u w x : Wd} (h : l[i]? = some u) : (l.set i w).count x + [u].count x = l.count x + [w].count x := by
  obtain ⟨h1, h2⟩ := List.getElem?_eq_some_iff.mp h
  have e1 : l = l.take i ++ u :: l.drop (i + 1) := by
    conv => lhs; rw [← List.take_append_drop i l]
    rw [List.drop_eq_getElem_cons h1, h2]
  have e2 : l.set i w = l.take i ++ w :: l.drop (i + 1) := List.set_eq_take_append_cons_drop .. |>.trans (by rw [if_pos h1])
  rw [e2]
  conv => rhs; rw [e1]
  rw [List.count_append, List.count_append, List.count_cons, List.count_cons, List.count_cons, List.count_cons, List.count_nil]
  omega
theorem cnt_root {R : List Wd} {C : List (List Wd)} {G : List Nat} {k n : Nat} {u w : Wd} (h : R[k]? = some u) : cnt (R.set k w) C G n + [u].count (.ptr n) = cnt R C G n + [w].count (.ptr n) := by
  have := count_set (w := w) (x := .ptr n) h
  unfold cnt
  omega
theorem cnt_slot {R : List Wd} {C : List (List Wd)} {G : List Nat} {a i n : Nat} {u w : Wd} (ha : Live C G a) (h : (cl C a)[i]? = some u) : cnt R (C.set a ((cl C a).set i w)) G n + [u].count (.ptr n) = cnt R C G n + [w].count (.ptr n) := by
  have e0 := count_set (w := w) (x := .ptr n) h
  have e1 := csum_upd (f := cellN (C.set a ((cl C a).set i w)) G n) (g := cellN C G n) ha.1 fun m hm hn => by
    unfold cellN
    rw [cl_set ha.1, if_neg hn]
  have e2 : cellN (C.set a ((cl C a).set i w)) G n a = ((cl C a).set i w).count (.ptr n) := by
    unfold cellN
    rw [if_neg ha.2, cl_set ha.1, if_pos rfl]
  have e3 : cellN C G n a = (cl C a).count (.ptr n) := by unfold cellN; rw [if_neg ha.2]
  unfold cnt cntC
  rw [List.length_set]
  omega
theorem cnt_make {R : List Wd} {C : List (List Wd)} {G : List Nat} {n z : Nat} : cnt R (C ++ [List.replicate z .non]) G n = cnt R C G n := by
  unfold cnt cntC
  rw [List.length_append, List.length_singleton]
  show _ + (csum _ C.length + _) = _
  have e1 : cellN (C ++ [List.replicate z .non]) G n C.length = 0 := by
    unfold cellN
    rw [cl_app_new, List.count_replicate]
    simp
  have e2 : csum (cellN (C ++ [List.replicate z .non]) G n) C.length = csum (cellN C G n) C.length := csum_congr fun m hm => by
    unfold cellN
    rw [cl_app (Nat.ne_of_lt hm)]
  rw [e1, e2]; rfl
theorem live_set {C : List (List Wd)} {G : List Nat} {a n : Nat} {l : List Wd} : Live (C.set a l) G n ↔ Live C G n := by unfold Live; rw [List.length_set]
theorem OkW.set {C : List (List Wd)} {G : List Nat} {a : Nat} {l : List Wd} {w : Wd} (h : OkW C G w) : OkW (C.set a l) G w := by
  cases w with
  | ptr m => exact live_set.mpr h
  | num i => exact h
  | non => trivial
  | head i j => exact h
theorem OkW.make {C : List (List Wd)} {G : List Nat} {l : List Wd} {w : Wd} (h : OkW C G w) : OkW (C ++ [l]) G w := by
  cases w with
  | ptr m => exact ⟨by rw [List.length_append, List.length_singleton]; exact Nat.lt_succ_of_lt h.1, h.2⟩
  | num i => exact h
  | non => trivial
  | head i j => exact h
theorem mem_set {α : Type} {l : List α} {i : Nat} {w x : α} (h : x ∈ l.set i w) : x ∈ l ∨ x = w := List.mem_or_eq_of_mem_set h
theorem OkS.root {R : List Wd} {C : List (List Wd)} {G : List Nat} {k : Nat} {w : Wd} (h : OkS R C G) (hw : OkW C G w) : OkS (R.set k w) C G := ⟨by rw [List.length_set]; exact h.r8, fun x q => (mem_set q).elim (h.rt x) fun z => z ▸ hw, h.cc, h.z4, h.gl, h.gd⟩
theorem OkS.slot {R : List Wd} {C : List (List Wd)} {G : List Nat} {a i : Nat} {w : Wd} (h : OkS R C G) (ha : Live C G a) (hw : OkW C G w) : OkS R (C.set a ((cl C a).set i w)) G := by
  refine ⟨h.r8, fun x q => (h.rt x q).set, fun n hn x q => ?_, fun n => ?_, fun g q => by rw [List.length_set]; exact h.gl g q, h.gd⟩
  · have hn' := live_set.mp hn
    rw [cl_set ha.1] at q
    by_cases e : n = a
    · rw [if_pos e] at q
      exact ((mem_set q).elim (h.cc a ha x) fun z => z ▸ hw).set
    · rw [if_neg e] at q
      exact (h.cc n hn' x q).set
  · rw [cl_set ha.1]
    by_cases e : n = a
    · rw [if_pos e, List.length_set]; exact h.z4 a
    · rw [if_neg e]; exact h.z4 n
theorem OkS.make {R : List Wd} {C : List (List Wd)} {G : List Nat} {z : Nat} (h : OkS R C G) (hz : z ≤ 4) : OkS R (C ++ [List.replicate z .non]) G := by
  refine ⟨h.r8, fun x q => (h.rt x q).make, fun n hn x q => ?_, fun n => ?_, fun g q => by rw [List.length_append]; have := h.gl g q; omega, h.gd⟩
  · by_cases e : n = C.length
    · subst e
      rw [cl_app_new] at q
      rw [List.eq_of_mem_replicate q]; trivial
    · rw [cl_app e] at q
      refine (h.cc n ⟨?_, hn.2⟩ x q).make
      have := hn.1
      rw [List.length_append, List.length_singleton] at this
      omega
  · by_cases e : n = C.length
    · subst e; rw [cl_app_new, List.length_replicate]; exact hz
    · rw [cl_app e]; exact h.z4 n
theorem cnt_dead {R : List Wd} {C : List (List Wd)} {G : List Nat} {n : Nat} (h : OkS R C G) (hn : ¬ Live C G n) : cnt R C G n = 0 := by
  unfold cnt
  have h1 : R.count (.ptr n) = 0 := List.count_eq_zero.mpr fun q => hn (h.rt _ q)
  have h2 : cntC C G n = 0 := csum_all0 fun m hm => by
    unfold cellN
    by_cases q : m ∈ G
    · rw [if_pos q]
    · rw [if_neg q]
      exact List.count_eq_zero.mpr fun z => hn (h.cc m ⟨hm, q⟩ _ z)
  omega
end Gy

set_option Elab.async false
set_option linter.all false
set_option maxRecDepth 100000
set_option maxHeartbeats 1000000
/-! Part 12: a yard's state against roots and cells by names. No program in sight. -/
namespace Gy
structure Rep (pos : Nat → Nat) (R : List Wd) (C : List (List Wd)) (G : List Nat) (L : Nat → Int) (s : YS) : Prop where
  wl : s.words.length = 60
  rt : s.roots = R.map (ad pos)
  bn : s.born = C.length
  gn : s.gone = G
  hd : ∀ n, Live C G n → s.words[pos n]? = some (.head n (cl C n).length)
  sl : ∀ n, Live C G n → ∀ i w, (cl C n)[i]? = some w → s.words[pos n + 1 + i]? = some (ad pos w)
  bd : ∀ n, Live C G n → pos n + (cl C n).length < 60
  dj : ∀ m n, Live C G m → Live C G n → m ≠ n → pos m + (cl C m).length < pos n ∨ pos n + (cl C n).length < pos m
  oh : ∀ a n z, s.words[a]? = some (.head n z) → Live C G n ∧ pos n = a
  fr : FreeOk s.free
  fd : ∀ f ∈ s.free, ∀ n, Live C G n → Apart (pos n) (cl C n).length f
  ll : ∀ n, Live C G n → lookL s.led (pos n) = some (L n)
  lk : ∀ a ∈ s.led.map (·.1), ∃ n, Live C G n ∧ pos n = a
  nd : (s.led.map (·.1)).Nodup
section
variable {pos : Nat → Nat} {R : List Wd} {C : List (List Wd)} {G : List Nat} {L L' : Nat → Int} {s : YS}
theorem Rep.inj (h : Rep pos R C G L s) {m n : Nat} (hm : Live C G m) (hn : Live C G n) (e : pos m = pos n) : m = n := by
  by_cases q : m = n
  · exact q
  · have := h.dj m n hm hn q; omega
theorem Rep.congrL (h : Rep pos R C G L s) (e : ∀ n, Live C G n → L n = L' n) : Rep pos R C G L' s := ⟨h.wl, h.rt, h.bn, h.gn, h.hd, h.sl, h.bd, h.dj, h.oh, h.fr, h.fd, fun n hn => by rw [h.ll n hn, e n hn], h.lk, h.nd⟩
theorem Rep.last (h : Rep pos R C G L s) (b : Bool) : Rep pos R C G L { s with last := b } := ⟨h.wl, h.rt, h.bn, h.gn, h.hd, h.sl, h.bd, h.dj, h.oh, h.fr, h.fd, h.ll, h.lk, h.nd⟩
theorem Rep.szAt (h : Rep pos R C G L s) {n : Nat} (hn : Live C G n) : szAt s.words (pos n) = (cl C n).length := by unfold Gy.szAt; rw [h.hd n hn]
theorem Rep.bdw (h : Rep pos R C G L s) {n : Nat} (hn : Live C G n) : pos n + (cl C n).length < s.words.length := by rw [h.wl]; exact h.bd n hn
/-- the slots of a cell -/
theorem Rep.slots (h : Rep pos R C G L s) {n : Nat} (hn : Live C G n) : slotsW s.words (pos n) (cl C n).length = (cl C n).map (ad pos) := by
  refine List.ext_getElem? fun i => ?_
  rw [List.getElem?_map]
  by_cases hi : i < (cl C n).length
  · have e : (slotsW s.words (pos n) (cl C n).length)[i]? = s.words[pos n + 1 + i]? := by
      unfold slotsW
      rw [List.getElem?_take_of_lt hi, List.getElem?_drop]
    rw [e, h.sl n hn i _ (List.getElem?_eq_getElem hi), List.getElem?_eq_getElem hi]; rfl
  · rw [List.getElem?_eq_none (by unfold slotsW; rw [List.length_take]; omega), List.getElem?_eq_none (by omega)]; rfl
theorem ptrOf_ad {w : Wd} : ptrOf (ad pos w) = (ptrOf w).map pos := by cases w <;> rfl
theorem ptrs_ad : ∀ l : List Wd, (l.map (ad pos)).filterMap ptrOf = (ptrs l).map pos
  | [] => rfl
  | w :: l => by
    have ih := ptrs_ad l
    unfold ptrs at *
    rw [List.map_cons, List.filterMap_cons, ptrOf_ad, ih, List.filterMap_cons]
    cases ptrOf w <;> rfl
theorem Rep.inner (h : Rep pos R C G L s) {n : Nat} (hn : Live C G n) : innerW s.words (pos n) (cl C n).length = (ptrs (cl C n)).map pos := by
  unfold innerW
  rw [h.slots hn, ptrs_ad]
theorem Rep.told (h : Rep pos R C G L s) {w : Wd} (hw : OkW C G w) : toldW s.words (ad pos w) = w := by
  cases w with
  | ptr n =>
    show (match s.words[pos n]? with | some (.head n _) => Wd.ptr n | _ => .ptr (pos n)) = _
    rw [h.hd n hw]
  | _ => rfl
theorem Rep.ptrAt (h : Rep pos R C G L s) {w : Wd} (hw : OkW C G w) : PtrAt s.words (ad pos w) := by
  intro a e
  cases w with
  | ptr n =>
    injection e with e
    exact ⟨n, _, by rw [← e]; exact h.hd n hw⟩
  | num i => cases e
  | non => cases e
  | head i j => cases e
theorem Rep.root (h : Rep pos R C G L s) {k : Nat} {w : Wd} : Rep pos (R.set k w) C G L { s with roots := s.roots.set k (ad pos w) } :=
  ⟨h.wl, by show s.roots.set k (ad pos w) = _; rw [h.rt, List.map_set], h.bn, h.gn, h.hd, h.sl, h.bd, h.dj, h.oh, h.fr, h.fd, h.ll, h.lk, h.nd⟩
/-- a count is written -/
theorem Rep.led (h : Rep pos R C G L s) {n : Nat} (hn : Live C G n) (c : Int) : Rep pos R C G (ovr L n c) { s with led := putL s.led (pos n) c } := by
  have hk : (putL s.led (pos n) c).map (·.1) = s.led.map (·.1) := putL_keys (by rw [h.ll n hn]; exact fun z => by cases z)
  refine ⟨h.wl, h.rt, h.bn, h.gn, h.hd, h.sl, h.bd, h.dj, h.oh, h.fr, h.fd, fun m hm => ?_, fun a ha => h.lk a (by rw [← hk]; exact ha), by show ((putL s.led (pos n) c).map (·.1)).Nodup; rw [hk]; exact h.nd⟩
  show lookL (putL s.led (pos n) c) (pos m) = some (if m = n then c else L m)
  rw [lookL_put]
  by_cases e : m = n
  · rw [if_pos (by rw [e]), if_pos e]
  · rw [if_neg (fun z => e (h.inj hm hn z)), if_neg e, h.ll m hm]
theorem ad_head {w : Wd} {i j : Nat} (h : ad pos w = .head i j) : w = .head i j := by cases w <;> first | exact h | cases h
/-- a slot is written -/
theorem Rep.slot (h : Rep pos R C G L s) {n i : Nat} {w : Wd} (hn : Live C G n) (hi : i < (cl C n).length) (hw : ∀ i j, w ≠ .head i j) : Rep pos R (C.set n ((cl C n).set i w)) G L { s with words := s.words.set (pos n + 1 + i) (ad pos w) } := by
  have el : ∀ m, (cl (C.set n ((cl C n).set i w)) m).length = (cl C m).length := fun m => by
    rw [cl_set hn.1]
    by_cases e : m = n
    · rw [if_pos e, List.length_set, e]
    · rw [if_neg e]
  have hb := h.bd n hn
  refine ⟨by show (s.words.set _ _).length = 60; rw [List.length_set]; exact h.wl, h.rt, by show s.born = _; rw [List.length_set]; exact h.bn, h.gn, fun m hm => ?_, fun m hm j u hu => ?_, fun m hm => by rw [el]; exact h.bd m (live_set.mp hm), fun a b ha hb' => by rw [el, el]; exact h.dj a b (live_set.mp ha) (live_set.mp hb'), fun a m z hz => ?_, h.fr, fun f hf m hm => by rw [el]; exact h.fd f hf m (live_set.mp hm), fun m hm => h.ll m (live_set.mp hm), fun a ha => ?_, h.nd⟩
  · have hm := live_set.mp hm
    rw [el]
    show (s.words.set (pos n + 1 + i) (ad pos w))[pos m]? = _
    rw [List.getElem?_set_ne, h.hd m hm]
    by_cases e : m = n
    · subst e; omega
    · have := h.dj m n hm hn e
      have := h.bd m hm
      omega
  · have hm := live_set.mp hm
    rw [cl_set hn.1] at hu
    show (s.words.set (pos n + 1 + i) (ad pos w))[pos m + 1 + j]? = _
    by_cases e : m = n
    · subst e
      rw [if_pos rfl, List.getElem?_set] at hu
      rw [List.getElem?_set]
      by_cases q : i = j
      · subst q
        rw [if_pos rfl, if_pos hi] at hu
        injection hu with hu
        rw [if_pos rfl, if_pos (by rw [h.wl]; omega), hu]
      · rw [if_neg q] at hu
        rw [if_neg (by omega)]
        exact h.sl m hn j u hu
    · rw [if_neg e] at hu
      rw [List.getElem?_set_ne, h.sl m hm j u hu]
      have := h.dj m n hm hn e
      have := (List.getElem?_eq_some_iff.mp hu).1
      omega
  · have hz : (s.words.set (pos n + 1 + i) (ad pos w))[a]? = some (.head m z) := hz
    rw [List.getElem?_set] at hz
    by_cases e : pos n + 1 + i = a
    · rw [if_pos e] at hz
      by_cases q : a < s.words.length
      · rw [if_pos (by omega)] at hz
        injection hz with hz
        exact absurd (ad_head hz) (hw _ _)
      · rw [if_neg (by omega)] at hz; cases hz
    · rw [if_neg e] at hz
      obtain ⟨h1, h2⟩ := h.oh a m z hz
      exact ⟨live_set.mpr h1, h2⟩
  · obtain ⟨m, h1, h2⟩ := h.lk a ha
    exact ⟨m, live_set.mpr h1, h2⟩
theorem lookL_none {l : List (Nat × Int)} {a : Nat} (h : a ∉ l.map (·.1)) : lookL l a = none := by
  unfold lookL
  rw [List.find?_eq_none.mpr]
  · rfl
  · intro e he z
    exact h (List.mem_map.mpr ⟨e, he, by simpa using z⟩)
theorem lookL_key {l : List (Nat × Int)} {a : Nat} (h : a ∈ l.map (·.1)) : ∃ c, lookL l a = some c := by
  unfold lookL
  obtain ⟨e, he, q⟩ := List.mem_map.mp h
  cases z : l.find? fun e => decide (e.1 = a) with
  | some x => exact ⟨x.2, rfl⟩
  | none => exact absurd (List.find?_eq_none.mp z e he) (by simp [q])
theorem key_of_look {l : List (Nat × Int)} {a : Nat} {c : Int} (h : lookL l a = some c) : a ∈ l.map (·.1) := by
  by_cases q : a ∈ l.map (·.1)
  · exact q
  · rw [lookL_none q] at h; cases h
theorem Rep.key (h : Rep pos R C G L s) {n : Nat} (hn : Live C G n) : pos n ∈ s.led.map (·.1) := key_of_look (h.ll n hn)
/-- a cell is freed -/
def freed (s : YS) (a n z : Nat) : YS := { s with words := wipeW s.words a (z + 1), gone := s.gone ++ [n], free := joinedL s.free a (z + 1), led := dropL s.led a }
theorem Rep.free (h : Rep pos R C G L s) {n : Nat} (hn : Live C G n) : Rep pos R C (G ++ [n]) L (freed s (pos n) n (cl C n).length) := by
  have hb := h.bd n hn
  obtain ⟨j1, j2⟩ := joined_spec (first := pos n) (many := (cl C n).length + 1) h.fr (by omega) (by omega)
  have wne : ∀ i, (i < pos n ∨ pos n + (cl C n).length < i) → (wipeW s.words (pos n) ((cl C n).length + 1))[i]? = s.words[i]? := fun i hi => by
    rw [wipeW_get, if_neg (by omega)]
  refine ⟨by show (wipeW _ _ _).length = 60; rw [wipeW_len]; exact h.wl, h.rt, h.bn, by show s.gone ++ [n] = _; rw [h.gn], fun m hm => ?_, fun m hm i w hw => ?_, fun m hm => h.bd m hm.app, fun a b ha hb => h.dj a b ha.app hb.app, fun a m z hz => ?_, j1, fun f hf m hm => ?_, fun m hm => ?_, fun a ha => ?_, ?_⟩
  · obtain ⟨hm1, hm2⟩ := live_app.mp hm
    show (wipeW s.words (pos n) ((cl C n).length + 1))[pos m]? = _
    rw [wne, h.hd m hm1]
    have := h.dj m n hm1 hn hm2
    omega
  · obtain ⟨hm1, hm2⟩ := live_app.mp hm
    show (wipeW s.words (pos n) ((cl C n).length + 1))[pos m + 1 + i]? = _
    rw [wne, h.sl m hm1 i w hw]
    have := h.dj m n hm1 hn hm2
    have := (List.getElem?_eq_some_iff.mp hw).1
    omega
  · have hz : (wipeW s.words (pos n) ((cl C n).length + 1))[a]? = some (.head m z) := hz
    rw [wipeW_get] at hz
    by_cases q : pos n ≤ a ∧ a < pos n + ((cl C n).length + 1) ∧ a < s.words.length
    · rw [if_pos q] at hz; cases hz
    · rw [if_neg q] at hz
      obtain ⟨h1, h2⟩ := h.oh a m z hz
      refine ⟨live_app.mpr ⟨h1, fun e => ?_⟩, h2⟩
      subst e
      rw [h.wl] at q
      omega
  · obtain ⟨hm1, hm2⟩ := live_app.mp hm
    refine j2 (pos m) (cl C m).length (fun g hg => h.fd g hg m hm1) ?_ f hf
    have := h.dj m n hm1 hn hm2
    unfold Apart
    show pos n + ((cl C n).length + 1) ≤ pos m ∨ pos m + (cl C m).length < pos n
    omega
  · obtain ⟨hm1, hm2⟩ := live_app.mp hm
    show lookL (dropL s.led (pos n)) (pos m) = _
    rw [lookL_drop _ _ _ (fun z => hm2 (h.inj hm1 hn z)), h.ll m hm1]
  · have ha : a ∈ (dropL s.led (pos n)).map (·.1) := ha
    rw [dropL_keys] at ha
    obtain ⟨h1, h2⟩ := List.mem_filter.mp ha
    obtain ⟨m, h3, h4⟩ := h.lk a h1
    refine ⟨m, live_app.mpr ⟨h3, fun e => ?_⟩, h4⟩
    subst e
    simp [h4] at h2
  · show ((dropL s.led (pos n)).map (·.1)).Nodup
    rw [dropL_keys]
    exact h.nd.filter _
/-- a cell is made at a free stretch -/
def made (s : YS) (a n z k : Nat) (t : Nat × Nat) : YS := { s with words := wipeW (s.words.set a (.head n z)) (a + 1) z, born := n + 1, free := withoutL s.free a (z + 1) k t, led := putL s.led a 0 }
theorem map_ad_congr {p q : Nat → Nat} {l : List Wd} (h : ∀ n, Wd.ptr n ∈ l → p n = q n) : l.map (ad p) = l.map (ad q) := List.map_congr_left fun w hw => by
  cases w with
  | ptr n => show Wd.ptr (p n) = Wd.ptr (q n); rw [h n hw]
  | _ => rfl
theorem Rep.make (h : Rep pos R C G L s) (ok : OkS R C G) {a z k : Nat} {t : Nat × Nat} (ha : s.free[k]? = some t) (hc : covers a (z + 1) t = true) :
    Rep (fun n => if n = C.length then a else pos n) R (C ++ [List.replicate z .non]) G (ovr L C.length 0) (made s a C.length z k t) := by
  obtain ⟨c1, c2⟩ := cut_spec hc
  have htm := List.mem_of_getElem? ha
  have ht := h.fr.1 t htm
  obtain ⟨w1, w2, w3⟩ := without_spec h.fr ha hc (by omega)
  have ap : ∀ m, Live C G m → a + (z + 1) ≤ pos m ∨ pos m + (cl C m).length < a := fun m hm => by
    have := h.fd t htm m hm
    unfold Apart at this
    omega
  have lv : ∀ {m}, Live (C ++ [List.replicate z .non]) G m → m ≠ C.length → Live C G m := fun {m} hm hn => ⟨by have := hm.1; rw [List.length_append, List.length_singleton] at this; omega, hm.2⟩
  have vl : ∀ {m}, Live C G m → Live (C ++ [List.replicate z .non]) G m := fun {m} hm => ⟨by rw [List.length_append, List.length_singleton]; have := hm.1; omega, hm.2⟩
  have wne : ∀ i, (i < a ∨ a + z < i) → (wipeW (s.words.set a (.head C.length z)) (a + 1) z)[i]? = s.words[i]? := fun i hi => by
    rw [wipeW_get, if_neg (by omega), List.getElem?_set_ne (by omega)]
  have w0 : (wipeW (s.words.set a (.head C.length z)) (a + 1) z)[a]? = some (.head C.length z) := by
    rw [wipeW_get, if_neg (by omega), List.getElem?_set, if_pos rfl, if_pos (by rw [h.wl]; omega)]
  have pn : ∀ m, Live C G m → (if m = C.length then a else pos m) = pos m := fun m hm => if_neg (Nat.ne_of_lt hm.1)
  have nk : a ∉ s.led.map (·.1) := fun q => by
    obtain ⟨m, h1, h2⟩ := h.lk a q
    have := ap m h1
    omega
  have ek : (putL s.led a 0).map (·.1) = s.led.map (·.1) ++ [a] := by
    unfold putL
    rw [if_neg (fun q => by
      obtain ⟨e, h1, h2⟩ := List.any_eq_true.mp q
      exact nk (List.mem_map.mpr ⟨e, h1, by simpa using h2⟩)), List.map_append]
    rfl
  refine ⟨by show (wipeW _ _ _).length = 60; rw [wipeW_len, List.length_set]; exact h.wl, ?_, by show C.length + 1 = _; rw [List.length_append, List.length_singleton], h.gn, fun m hm => ?_, fun m hm i w hw => ?_, fun m hm => ?_, fun m n hm hn hmn => ?_, fun b m y hy => ?_, w1, fun f hf m hm => ?_, fun m hm => ?_, fun b hb => ?_, ?_⟩
  · show s.roots = _
    rw [h.rt]
    exact map_ad_congr fun n hn => (pn n (ok.rt _ hn)).symm
  · show (wipeW (s.words.set a (.head C.length z)) (a + 1) z)[if m = C.length then a else pos m]? = _
    by_cases e : m = C.length
    · subst e
      rw [if_pos rfl, w0, cl_app_new, List.length_replicate]
    · have hm := lv hm e
      rw [if_neg e, cl_app e, wne, h.hd m hm]
      have := ap m hm; omega
  · show (wipeW (s.words.set a (.head C.length z)) (a + 1) z)[(if m = C.length then a else pos m) + 1 + i]? = _
    by_cases e : m = C.length
    · subst e
      rw [cl_app_new] at hw
      have hi := (List.getElem?_eq_some_iff.mp hw).1
      rw [List.length_replicate] at hi
      have : w = .non := by
        rw [List.getElem?_replicate, if_pos hi] at hw
        injection hw with hw; exact hw.symm
      subst this
      rw [if_pos rfl, wipeW_get, if_pos ⟨by omega, by omega, by rw [List.length_set, h.wl]; omega⟩]
      rfl
    · have hm := lv hm e
      rw [cl_app e] at hw
      have hi := (List.getElem?_eq_some_iff.mp hw).1
      rw [if_neg e, wne, h.sl m hm i w hw]
      · have hwm := List.mem_of_getElem? hw
        cases w with
        | ptr n => show some (Wd.ptr (pos n)) = some (Wd.ptr (if n = C.length then a else pos n)); rw [pn n (ok.cc m hm _ hwm)]
        | _ => rfl
      · have := ap m hm; omega
  · show (if m = C.length then a else pos m) + _ < 60
    by_cases e : m = C.length
    · subst e; rw [if_pos rfl, cl_app_new, List.length_replicate]; omega
    · rw [if_neg e, cl_app e]; exact h.bd m (lv hm e)
  · show (if m = C.length then a else pos m) + _ < (if n = C.length then a else pos n) ∨ (if n = C.length then a else pos n) + _ < (if m = C.length then a else pos m)
    by_cases e : m = C.length
    · subst e
      rw [if_pos rfl, cl_app_new, List.length_replicate, if_neg (fun z => hmn z.symm), cl_app (fun z => hmn z.symm)]
      have := ap n (lv hn (fun z => hmn z.symm)); omega
    · rw [if_neg e, cl_app e]
      by_cases e2 : n = C.length
      · subst e2
        rw [if_pos rfl, cl_app_new, List.length_replicate]
        have := ap m (lv hm e); omega
      · rw [if_neg e2, cl_app e2]
        exact h.dj m n (lv hm e) (lv hn e2) hmn
  · have hy : (wipeW (s.words.set a (.head C.length z)) (a + 1) z)[b]? = some (.head m y) := hy
    show _ ∧ (if m = C.length then a else pos m) = b
    by_cases q : b < a ∨ a + z < b
    · rw [wne b q] at hy
      obtain ⟨h1, h2⟩ := h.oh b m y hy
      exact ⟨vl h1, by rw [pn m h1]; exact h2⟩
    · by_cases e : b = a
      · subst e
        rw [w0] at hy
        injection hy with hy
        injection hy with e1 e2
        subst e1
        exact ⟨⟨by rw [List.length_append, List.length_singleton]; omega, fun z => absurd (ok.gl _ z) (Nat.lt_irrefl _)⟩, if_pos rfl⟩
      · rw [wipeW_get, if_pos ⟨by omega, by omega, by rw [List.length_set, h.wl]; omega⟩] at hy
        cases hy
  · show Apart (if m = C.length then a else pos m) _ f
    by_cases e : m = C.length
    · subst e
      rw [if_pos rfl, cl_app_new, List.length_replicate]
      have := w2 f hf
      simpa using this
    · rw [if_neg e, cl_app e]
      exact w3 _ _ (fun g hg => h.fd g hg m (lv hm e)) f hf
  · show lookL (putL s.led a 0) (if m = C.length then a else pos m) = some (if m = C.length then 0 else L m)
    rw [lookL_put]
    by_cases e : m = C.length
    · rw [if_pos e, if_pos e, if_pos rfl]
    · have hm := lv hm e
      rw [if_neg e, if_neg e, if_neg, h.ll m hm]
      intro q
      have := ap m hm; omega
  · have hb : b ∈ (putL s.led a 0).map (·.1) := hb
    rw [ek] at hb
    show ∃ n, _ ∧ (if n = C.length then a else pos n) = b
    rcases List.mem_append.mp hb with q | q
    · obtain ⟨m, h1, h2⟩ := h.lk b q
      exact ⟨m, vl h1, by rw [pn m h1]; exact h2⟩
    · rw [List.mem_singleton.mp q]
      exact ⟨C.length, ⟨by rw [List.length_append, List.length_singleton]; omega, fun z => absurd (ok.gl _ z) (Nat.lt_irrefl _)⟩, if_pos rfl⟩
  · show ((putL s.led a 0).map (·.1)).Nodup
    rw [ek, List.nodup_append]
    exact ⟨h.nd, by simp, fun x hx y hy e => nk (by rw [List.mem_singleton.mp hy] at e; rw [← e]; exact hx)⟩
/-- a stable state -/
structure St (pos : Nat → Nat) (R : List Wd) (C : List (List Wd)) (G : List Nat) (s : YS) : Prop where
  rp : Rep pos R C G (fun n => (cnt R C G n : Int)) s
  ok : OkS R C G
theorem Rep.ledlen (h : Rep pos R C G L s) : s.led.length ≤ 60 := by
  have := nodup_below (n := 60) h.nd fun a ha => by
    obtain ⟨n, h1, h2⟩ := h.lk a ha
    have := h.bd n h1; omega
  rw [List.length_map] at this; exact this
end
end Gy

set_option Elab.async false
set_option linter.all false
set_option maxRecDepth 100000
set_option maxHeartbeats 1000000
/-! Part 13: deeds by names; the promises of the other defs. -/
namespace Gy
open PySem PySem.Spec PyProof.Rows L2
open Evl (Ex)
/-! ### deeds -/
inductive Dd where
  | make (k z : Nat) | number (k : Nat) (i : Int) | clear (k : Nat) | copy (t o : Nat) | put (k i o : Nat) | take (t k i : Nat) | tell (k : Nat) | same (k o : Nat)
inductive Td where
  | none | word (w : Wd) | bool (b : Bool) | refd (c : Str)
def ddV : Dd → List V
  | .make k z => [.str "make", .int (k : Int), .int (z : Int)]
  | .number k i => [.str "number", .int (k : Int), .int i]
  | .clear k => [.str "clear", .int (k : Int)]
  | .copy t o => [.str "copy", .int (t : Int), .int (o : Int)]
  | .put k i o => [.str "put", .int (k : Int), .int (i : Int), .int (o : Int)]
  | .take t k i => [.str "take", .int (t : Int), .int (k : Int), .int (i : Int)]
  | .tell k => [.str "tell", .int (k : Int)]
  | .same k o => [.str "same", .int (k : Int), .int (o : Int)]
def DdAt (H : Hp) (v : V) (d : Dd) : Prop := ∃ t, v = .ref t ∧ H t = some (.tup (ddV d))
def OkD : Dd → Prop
  | .make k z => k < 8 ∧ z ≤ 4
  | .number k i => k < 8 ∧ -1000000 ≤ i ∧ i ≤ 1000000
  | .clear k => k < 8
  | .copy t o => t < 8 ∧ o < 8
  | .put k _ o => k < 8 ∧ o < 8
  | .take t k _ => t < 8 ∧ k < 8
  | .tell k => k < 8
  | .same k o => k < 8 ∧ o < 8
def tdV (H : Hp) : Td → List V → Prop
  | .none, xs => xs = []
  | .word w, xs => ∃ x, xs = [x] ∧ WR H x w
  | .bool b, xs => xs = [.bl b]
  | .refd c, xs => ∃ t, xs = [.ref t] ∧ H t = some (.tup [.str "refused", .str c])
/-- a list that tells, not there in H0 -/
def TdAt (H0 H : Hp) (v : V) (td : Td) : Prop := ∃ l xs, v = .ref l ∧ H0 l = none ∧ H l = some (.lst xs) ∧ tdV H td xs
def rg (R : List Wd) (k : Nat) : Wd := R.getD k .non
def ledTo (R : List Wd) (C : List (List Wd)) (k i : Nat) : Option Nat := match rg R k with
  | .ptr n => if i < (cl C n).length then some n else none
  | _ => none
def refusal (R : List Wd) (k : Nat) : Td := match rg R k with
  | .ptr _ => .refd "NoSlot"
  | _ => .refd "NoCell"
def sg (C : List (List Wd)) (n i : Nat) : Wd := (cl C n).getD i .non
def doR (R : List Wd) (C : List (List Wd)) : Dd → List Wd
  | .make k _ => R.set k (.ptr C.length)
  | .number k i => R.set k (.num i)
  | .clear k => R.set k .non
  | .copy t o => R.set t (rg R o)
  | .take t k i => match ledTo R C k i with
    | some n => R.set t (sg C n i)
    | none => R
  | _ => R
def doC (R : List Wd) (C : List (List Wd)) : Dd → List (List Wd)
  | .make _ z => C ++ [List.replicate z .non]
  | .put k i o => match ledTo R C k i with
    | some n => C.set n ((cl C n).set i (rg R o))
    | none => C
  | _ => C
def doT (R : List Wd) (C : List (List Wd)) : Dd → Td
  | .put k i _ => match ledTo R C k i with
    | some _ => .none
    | none => refusal R k
  | .take _ k i => match ledTo R C k i with
    | some _ => .none
    | none => refusal R k
  | .tell k => .word (rg R k)
  | .same k o => .bool (decide (rg R k = rg R o))
  | _ => .none
/-- what the written place held -/
def lets (R : List Wd) (C : List (List Wd)) : Dd → Option Wd
  | .make k _ => some (rg R k)
  | .number k _ => some (rg R k)
  | .clear k => some (rg R k)
  | .copy t _ => some (rg R t)
  | .put k i _ => match ledTo R C k i with
    | some n => some (sg C n i)
    | none => none
  | .take t k i => match ledTo R C k i with
    | some _ => some (rg R t)
    | none => none
  | _ => none
def goneD (R : List Wd) (C : List (List Wd)) (G : List Nat) (d : Dd) : List Nat := match lets R C d with
  | some u => swp (doC R C d) (sw0 (doR R C d) (doC R C d) G u)
  | none => G
def lives (C : List (List Wd)) (G : List Nat) : List Nat := (List.range C.length).filter fun n => decide (n ∉ G)
def isMake : Dd → Bool
  | .make _ _ => true
  | _ => false
/-! ### pictures -/
def okV (ns : List Nat) : Wd → Bool
  | .non => true
  | .num i => decide (-1000000 ≤ i) && decide (i ≤ 1000000)
  | .ptr n => decide (n ∈ ns)
  | .head _ _ => false
structure PicOk (R : List Wd) (C : List (Nat × List Wd)) : Prop where
  r8 : R.length = 8
  srt : (C.map (·.1)).Pairwise (· < ·)
  c60 : C.length ≤ 60
  z4 : ∀ c ∈ C, c.2.length ≤ 4
  rt : ∀ w ∈ R, okV (C.map (·.1)) w = true
  cc : ∀ c ∈ C, ∀ w ∈ c.2, okV (C.map (·.1)) w = true
def sp_is_value (K : PySem.W.Frag) : Sp := fun vs H Q _ => ∃ (v : V) (w : Wd) (l : Addr) (ns : List Nat), vs = [v, .ref l] ∧ WR H v w ∧ isHead w = false ∧ H l = some (.lst (nsV ns)) ∧ ∀ H', Ex H H' → Q (.bl (okV ns w)) H'
def sp_is_picture (K : PySem.W.Frag) : Sp := fun vs H Q _ => ∃ (r c : Addr) (rs cs : List V) (R : List Wd) (C : List (Nat × List Wd)), vs = [.ref r, .ref c] ∧ H r = some (.lst rs) ∧ WRs H rs R ∧ H c = some (.lst cs) ∧ Paired (CellR H) cs C ∧ PicOk R C ∧ ∀ H', Ex H H' → Q (.bl true) H'
def sp_ask_picture (K : PySem.W.Frag) : Sp := fun vs H Q _ => ∃ (v : V) (R : List Wd) (C : List (Nat × List Wd)), vs = [v] ∧ PicAt H v R C ∧ PicOk R C ∧ ∀ H', Ex H H' → Q .non H'
def sp_led_to (K : PySem.W.Frag) : Sp := fun vs H Q _ => ∃ (v : V) (w : Wd), vs = [v] ∧ WR H v w ∧ ∀ H', Ex H H' → Q (oInt (ptrOf w)) H'
def NmR (H : Hp) (v : V) (n : Nat) : Prop := ∃ t x, v = .ref t ∧ H t = some (.tup [.int (n : Int), x])
def sp_reasons (K : PySem.W.Frag) : Sp := fun vs H Q _ => ∃ (v : V) (R : List Wd) (C : List (Nat × List Wd)), vs = [v] ∧ PicAt H v R C ∧ PicOk R C ∧ ∀ H' D xs ns, Ex H H' → H D = none → H' D = some (.lst xs) → Paired (NmR H') xs ns → xs.length ≤ 1000 → Q (.ref D) H'
/-- a paper: a new tuple of two new lists -/
def PapAt (H0 H : Hp) (v : V) : Prop := ∃ t k s kx sx, v = .ref t ∧ H t = some (.tup [.ref k, .ref s]) ∧ H k = some (.lst kx) ∧ H s = some (.lst sx) ∧ H0 k = none ∧ H0 s = none
def sp_paper_of (K : PySem.W.Frag) : Sp := fun vs H Q _ => ∃ (v : V) (R : List Wd) (C : List (Nat × List Wd)), vs = [v] ∧ PicAt H v R C ∧ PicOk R C ∧ ∀ v' H', Ex H H' → PapAt H H' v' → Q v' H'
/-! ### the yard's making -/
def s0 : YS := ⟨List.replicate 60 .non, List.replicate 8 .non, 0, [], false, [(0, 60)], []⟩
def fl6 (lw lr lg : Addr) : List (Str × V) := [("room", .int 60), ("words", .ref lw), ("roots", .ref lr), ("born", .int 0), ("gone", .ref lg), ("last", .non)]
def sp_yinit (K : PySem.W.Frag) : Sp := fun vs H Q _ => ∃ (x dx : Addr), vs = [.ref x, .int 60] ∧ H x = some (.ins (aC K) dx []) ∧
  ∀ H' lw lr lg, Keep (fun b => b = x) H H' → H lw = none → H lr = none → H lg = none → H' x = some (.ins (aC K) dx (fl6 lw lr lg)) → H' lw = some (.lst (List.replicate 60 .non)) → H' lr = some (.lst (List.replicate 8 .non)) → H' lg = some (.lst []) → lw ≠ lr → lw ≠ lg → lr ≠ lg → Q .non H'
def sp_cinit (K : PySem.W.Frag) : Sp := fun vs H Q _ => ∃ (x dx : Addr), vs = [.ref x, .int 60] ∧ H x = some (.ins (aC K) dx []) ∧ ∀ H' Y, Y.p = x → (∀ b, ¬ Y.al b) → (∀ b, Y.own b → b = x ∨ H b = none) → YAt K Y H' s0 → Keep (fun b => b = x) H H' → Q .non H'
/-! ### counts and gleaning -/
def decs (l : List (Nat × Int)) (ts : List Nat) : List (Nat × Int) := ts.foldl (fun l t => putL l t ((lookL l t).getD 0 - 1)) l
def inAll (words : List Wd) (ks : List Nat) : List Nat := ks.flatMap fun b => innerW words b (szAt words b)
/-- every key is a head, its cell's slots lead to keys -/
def Keys (s : YS) : Prop := ∀ a ∈ s.led.map (·.1), ∃ n z, s.words[a]? = some (.head n z) ∧ a + z < s.words.length ∧ ∀ t ∈ innerW s.words a z, t ∈ s.led.map (·.1)
def sp_outer (K : PySem.W.Frag) : Sp := fun vs H Q _ => ∃ (Y : YA) (s : YS), vs = [.ref Y.p] ∧ YAt K Y H s ∧ s.words.length ≤ 1000 ∧ s.led.length ≤ 60 ∧ Keys s ∧
  ∀ H' D, Ex H H' → H D = none → H' D = some (.dK (kvs (decs s.led (inAll s.words (s.led.map (·.1)))))) → Q (.ref D) H'
def sp_saved (K : PySem.W.Frag) : Sp := fun vs H Q _ => ∃ (Y : YA) (s : YS), vs = [.ref Y.p] ∧ YAt K Y H s ∧ s.words.length ≤ 1000 ∧ s.led.length ≤ 60 ∧ (s.led.map (·.1)).Nodup ∧ Keys s ∧
  ∀ H' D found, Ex H H' → H D = none → H' D = some (.lst (nsV found)) → (∀ a ∈ found, a ∈ s.led.map (·.1)) → (∀ a c, lookL (decs s.led (inAll s.words (s.led.map (·.1)))) a = some c → 0 < c → a ∈ found) → (∀ a ∈ found, ∀ t ∈ innerW s.words a (szAt s.words a), t ∈ found) → Q (.ref D) H'
def sp_free_up (K : PySem.W.Frag) : Sp := fun vs H Q _ => ∃ (Y : YA) (s : YS) (a n z : Nat), vs = [.ref Y.p, .int (a : Int)] ∧ YAt K Y H s ∧ s.words[a]? = some (.head n z) ∧ a + z < s.words.length ∧ s.words.length ≤ 1000 ∧ s.gone.length ≤ 1000 ∧ s.free.length ≤ 1000 ∧ (∃ c, lookL s.led a = some c) ∧
  ∀ H', Yd K Y H H' (freed s a n z) → Q .non H'
def sp_placed (K : PySem.W.Frag) : Sp := fun vs H Q _ => ∃ (Y : YA) (s : YS) (a n z k : Nat) (t : Nat × Nat), vs = [.ref Y.p, .int (a : Int)] ∧ YAt K Y H s ∧ s.words[a]? = some (.head n z) ∧ s.free.length ≤ 1000 ∧ s.led.length ≤ 1000 ∧ s.free[k]? = some t ∧ covers a (z + 1) t = true ∧ (∀ (j : Nat) u, j < k → s.free[j]? = some u → covers a (z + 1) u = false) ∧
  ∀ H', Yd K Y H H' { s with free := withoutL s.free a (z + 1) k t, led := putL s.led a 0 } → Q .non H'
def moreL (l : List (Nat × Int)) : Wd → List (Nat × Int)
  | .ptr a => putL l a ((lookL l a).getD 0 + 1)
  | _ => l
def sp_more (K : PySem.W.Frag) : Sp := fun vs H Q _ => ∃ (Y : YA) (s : YS) (v : V) (w : Wd), vs = [.ref Y.p, v] ∧ YAt K Y H s ∧ WR H v w ∧ s.led.length ≤ 1000 ∧ (∀ a, w = .ptr a → ∃ c, lookL s.led a = some c) ∧ ∀ H', Yd K Y H H' { s with led := moreL s.led w } → Q .non H'
def sp_less (K : PySem.W.Frag) : Sp := fun vs H Q _ => ∃ (Y : YA) (s : YS) (v : V) (pos : Nat → Nat) (R : List Wd) (C : List (List Wd)) (t : SW) (u : Wd), vs = [.ref Y.p, v] ∧ YAt K Y H s ∧ t.wait = [u] ∧ WR H v (ad pos u) ∧ Rep pos R C t.gone t.L s ∧ SI R C t ∧ C.length ≤ 100 ∧
  ∀ H' s', Yd K Y H H' s' → s'.last = s.last → Rep pos R C (swp C t) (itS C (mu C t) t).L s' → Q .non H'
def sp_set_root (K : PySem.W.Frag) : Sp := fun vs H Q _ => ∃ (Y : YA) (s : YS) (pos : Nat → Nat) (R : List Wd) (C : List (List Wd)) (G : List Nat) (k : Nat) (v : V) (w : Wd), vs = [.ref Y.p, .int (k : Int), v] ∧ YAt K Y H s ∧ St pos R C G s ∧ k < 8 ∧ WR H v (ad pos w) ∧ OkW C G w ∧ C.length ≤ 100 ∧
  ∀ H' s', Yd K Y H H' s' → s'.last = s.last → St pos (R.set k w) C (swp C (sw0 (R.set k w) C G (rg R k))) s' → Q .non H'
def sp_set_slot (K : PySem.W.Frag) : Sp := fun vs H Q _ => ∃ (Y : YA) (s : YS) (pos : Nat → Nat) (R : List Wd) (C : List (List Wd)) (G : List Nat) (n i : Nat) (v : V) (w : Wd), vs = [.ref Y.p, .int (pos n : Int), .int (i : Int), v] ∧ YAt K Y H s ∧ St pos R C G s ∧ Live C G n ∧ i < (cl C n).length ∧ WR H v (ad pos w) ∧ OkW C G w ∧ C.length ≤ 100 ∧
  ∀ H' s', Yd K Y H H' s' → s'.last = s.last → St pos R (C.set n ((cl C n).set i w)) (swp (C.set n ((cl C n).set i w)) (sw0 R (C.set n ((cl C n).set i w)) G (sg C n i))) s' → Q .non H'
def sp_glean (K : PySem.W.Frag) : Sp := fun vs H Q _ => ∃ (Y : YA) (s : YS) (pos : Nat → Nat) (R : List Wd) (C : List (List Wd)) (G : List Nat), vs = [.ref Y.p] ∧ YAt K Y H s ∧ St pos R C G s ∧ C.length ≤ 100 ∧
  ∀ H' s' X v, Yd K Y H H' s' → s'.last = s.last → St pos R C (G ++ X) s' → LastAt Y H' v true → Q v H'
def sp_collect (K : PySem.W.Frag) : Sp := fun vs H Q _ => ∃ (Y : YA) (s : YS) (pos : Nat → Nat) (R : List Wd) (C : List (List Wd)) (G : List Nat), vs = [.ref Y.p] ∧ YAt K Y H s ∧ St pos R C G s ∧ C.length ≤ 100 ∧
  ∀ H' s' X v, Yd K Y H H' s' → s'.last = true → St pos R C (G ++ X) s' → Q v H'
/-! ### deeds on the yard -/
/-- a state that a deed starts from -/
def At (K : PySem.W.Frag) (Y : YA) (H : Hp) (pos : Nat → Nat) (R : List Wd) (C : List (List Wd)) (G : List Nat) : Prop := ∃ s, YAt K Y H s ∧ St pos R C G s ∧ s.last = false
/-- a state behind a deed -/
def Aft (K : PySem.W.Frag) (Y : YA) (H H' : Hp) (R : List Wd) (C : List (List Wd)) (G : List Nat) (d : Dd) : Prop := ∃ s pos, Yd K Y H H' s ∧ s.last = false ∧ St pos (doR R C d) (doC R C d) (goneD R C G d) s
/-- .. behind a gleaning -/
def Gln (K : PySem.W.Frag) (Y : YA) (H H' : Hp) (G : List Nat) : Prop := ∃ s X, Yd K Y H H' s ∧ s.last = true ∧ s.gone = G ++ X
def sp_make (K : PySem.W.Frag) : Sp := fun vs H Q E => ∃ (Y : YA) (pos : Nat → Nat) (R : List Wd) (C : List (List Wd)) (G : List Nat) (k z : Nat), vs = [.ref Y.p, .int (k : Int), .int (z : Int)] ∧ At K Y H pos R C G ∧ OkD (.make k z) ∧ C.length < 100 ∧
  (∀ v H', Aft K Y H H' R C G (.make k z) → Q v H') ∧ (∀ v H', Gln K Y H H' G → Q v H') ∧ (∀ H', Gln K Y H H' G → E (.ref (aF K "Full")) none H')
def sp_number (K : PySem.W.Frag) : Sp := fun vs H Q _ => ∃ (Y : YA) (pos : Nat → Nat) (R : List Wd) (C : List (List Wd)) (G : List Nat) (k : Nat) (i : Int), vs = [.ref Y.p, .int (k : Int), .int i] ∧ At K Y H pos R C G ∧ OkD (.number k i) ∧ C.length < 100 ∧ ∀ H', Aft K Y H H' R C G (.number k i) → Q .non H'
def sp_clear (K : PySem.W.Frag) : Sp := fun vs H Q _ => ∃ (Y : YA) (pos : Nat → Nat) (R : List Wd) (C : List (List Wd)) (G : List Nat) (k : Nat), vs = [.ref Y.p, .int (k : Int)] ∧ At K Y H pos R C G ∧ OkD (.clear k) ∧ C.length < 100 ∧ ∀ H', Aft K Y H H' R C G (.clear k) → Q .non H'
def sp_pass_on (K : PySem.W.Frag) : Sp := fun vs H Q _ => ∃ (Y : YA) (pos : Nat → Nat) (R : List Wd) (C : List (List Wd)) (G : List Nat) (t o : Nat), vs = [.ref Y.p, .int (t : Int), .int (o : Int)] ∧ At K Y H pos R C G ∧ OkD (.copy t o) ∧ C.length < 100 ∧ ∀ H', Aft K Y H H' R C G (.copy t o) → Q .non H'
def sp_put (K : PySem.W.Frag) : Sp := fun vs H Q E => ∃ (Y : YA) (pos : Nat → Nat) (R : List Wd) (C : List (List Wd)) (G : List Nat) (k i o : Nat), vs = [.ref Y.p, .int (k : Int), .int (i : Int), .int (o : Int)] ∧ At K Y H pos R C G ∧ OkD (.put k i o) ∧ C.length < 100 ∧
  (doT R C (.put k i o) = .none → ∀ H', Aft K Y H H' R C G (.put k i o) → Q .non H') ∧ (∀ c, doT R C (.put k i o) = .refd c → ∀ H', Aft K Y H H' R C G (.put k i o) → E (.ref (aF K c)) none H')
def sp_take (K : PySem.W.Frag) : Sp := fun vs H Q E => ∃ (Y : YA) (pos : Nat → Nat) (R : List Wd) (C : List (List Wd)) (G : List Nat) (t k i : Nat), vs = [.ref Y.p, .int (t : Int), .int (k : Int), .int (i : Int)] ∧ At K Y H pos R C G ∧ OkD (.take t k i) ∧ C.length < 100 ∧
  (doT R C (.take t k i) = .none → ∀ H', Aft K Y H H' R C G (.take t k i) → Q .non H') ∧ (∀ c, doT R C (.take t k i) = .refd c → ∀ H', Aft K Y H H' R C G (.take t k i) → E (.ref (aF K c)) none H')
def sp_value (K : PySem.W.Frag) : Sp := fun vs H Q _ => ∃ (Y : YA) (pos : Nat → Nat) (R : List Wd) (C : List (List Wd)) (G : List Nat) (k : Nat), vs = [.ref Y.p, .int (k : Int)] ∧ At K Y H pos R C G ∧ k < 8 ∧ ∀ v H', Ex H H' → WR H' v (rg R k) → Q v H'
def sp_same (K : PySem.W.Frag) : Sp := fun vs H Q _ => ∃ (Y : YA) (pos : Nat → Nat) (R : List Wd) (C : List (List Wd)) (G : List Nat) (k o : Nat), vs = [.ref Y.p, .int (k : Int), .int (o : Int)] ∧ At K Y H pos R C G ∧ k < 8 ∧ o < 8 ∧ ∀ H', Ex H H' → Q (.bl (decide (rg R k = rg R o))) H'
def sp_names (K : PySem.W.Frag) : Sp := fun vs H Q _ => ∃ (Y : YA) (pos : Nat → Nat) (R : List Wd) (C : List (List Wd)) (G : List Nat), vs = [.ref Y.p] ∧ At K Y H pos R C G ∧ ∀ H' D, Ex H H' → H D = none → H' D = some (.lst (nsV (lives C G))) → Q (.ref D) H'
def sp_swept (K : PySem.W.Frag) : Sp := fun vs H Q _ => ∃ (Y : YA) (s : YS), vs = [.ref Y.p] ∧ YAt K Y H s ∧ ∀ H' D, Ex H H' → H D = none → H' D = some (.lst (nsV s.gone)) → Q (.ref D) H'
def sp_paper (K : PySem.W.Frag) : Sp := fun vs H Q _ => ∃ (Y : YA) (s : YS), vs = [.ref Y.p] ∧ YAt K Y H s ∧ (s.last = false → ∀ H', Ex H H' → Q .non H') ∧ (s.last = true → ∀ H' t xs, Ex H H' → H' t = some (.tup xs) → Q (.ref t) H')
def sp_counts (K : PySem.W.Frag) : Sp := fun vs H Q _ => ∃ (Y : YA) (pos : Nat → Nat) (R : List Wd) (C : List (List Wd)) (G : List Nat), vs = [.ref Y.p] ∧ At K Y H pos R C G ∧ ∀ H' D xs, Ex H H' → H D = none → H' D = some (.lst xs) → Paired (NmR H') xs (lives C G) → Q (.ref D) H'
def sp_done (K : PySem.W.Frag) : Sp := fun vs H Q E => ∃ (Y : YA) (pos : Nat → Nat) (R : List Wd) (C : List (List Wd)) (G : List Nat) (v : V) (d : Dd), vs = [.ref Y.p, v] ∧ At K Y H pos R C G ∧ DdAt H v d ∧ OkD d ∧ C.length < 100 ∧
  (∀ v' H', Aft K Y H H' R C G d → TdAt H H' v' (doT R C d) → Q v' H') ∧ (∀ c, doT R C d = .refd c → ∀ H', Aft K Y H H' R C G d → E (.ref (aF K c)) none H') ∧
  (isMake d = true → (∀ v' H', Gln K Y H H' G → TdAt H H' v' .none → Q v' H') ∧ (∀ H', Gln K Y H H' G → E (.ref (aF K "Full")) none H'))
def sp_told_by (K : PySem.W.Frag) : Sp := fun vs H Q _ => ∃ (Y : YA) (pos : Nat → Nat) (R : List Wd) (C : List (List Wd)) (G : List Nat) (v : V) (d : Dd), vs = [.ref Y.p, v] ∧ At K Y H pos R C G ∧ DdAt H v d ∧ OkD d ∧ C.length < 100 ∧
  (∀ v' H', Aft K Y H H' R C G d → TdAt H H' v' (doT R C d) → Q v' H') ∧ (isMake d = true → ∀ v' H' td, Gln K Y H H' G → (td = .none ∨ td = .refd "Full") → TdAt H H' v' td → Q v' H')
end Gy

set_option Elab.async false
set_option linter.all false
set_option maxRecDepth 100000
set_option maxHeartbeats 1000000
/-! Part 27: the law's own lists; the promises of its defs. -/
namespace Gy
open PySem PySem.Spec PyProof.Rows L2
open Evl (Ex)
/-- the law's roots, its list of cells, the cells' lists -/
structure LA where
  rl : Addr
  ca : Addr
  cs : List Addr
def LA.m (A : LA) (b : Addr) : Prop := b = A.rl ∨ b = A.ca ∨ b ∈ A.cs
def CR (H : Hp) (a : Addr) (ws : List Wd) : Prop := ∃ xs, H a = some (.lst xs) ∧ WRs H xs ws
structure LAt (H : Hp) (A : LA) (R : List Wd) (C : List (List Wd)) : Prop where
  r : CR H A.rl R
  c : H A.ca = some (.lst (A.cs.map V.ref))
  cc : Paired (CR H) A.cs C
  rc : A.rl ≠ A.ca
  rs : A.rl ∉ A.cs
  as : A.ca ∉ A.cs
  nd : A.cs.Nodup
def sp_law_cell_at (K : PySem.W.Frag) : Sp := fun vs H Q _ => ∃ (l : Addr) (ns : List Int) (k : Nat), vs = [.ref l, .int (k : Int)] ∧ SqL K H l (ns.map V.int) ∧ ∀ i H', Ex H H' → Q (.int i) H'
def sp_law_deed (_ : PySem.W.Frag) : Sp := fun vs H Q _ => ∃ c : Int, vs = [.int c] ∧ ∀ d v H', OkD d → Ex H H' → DdAt H' v d → Q v H'
def sp_law_do (_ : PySem.W.Frag) : Sp := fun vs H Q _ => ∃ (A : LA) (R : List Wd) (C : List (List Wd)) (G : List Nat) (v : V) (d : Dd), vs = [.ref A.rl, .ref A.ca, v] ∧ LAt H A R C ∧ DdAt H v d ∧ OkD d ∧ OkS R C G ∧ C.length < 100 ∧
  ∀ v' H' A', Keep A.m H H' → TK H H' → LAt H' A' (doR R C d) (doC R C d) → A'.rl = A.rl → A'.ca = A.ca → (∀ b ∈ A'.cs, b ∈ A.cs ∨ H b = none) → TdAt H H' v' (doT R C d) → Q v' H'
/-- what is told: of refusals these two -/
def tdOk : Td → Prop
  | .refd c => c = "NoCell" ∨ c = "NoSlot"
  | _ => True
def sp_law_told_like (_ : PySem.W.Frag) : Sp := fun vs H Q _ => ∃ (f g : Addr) (xs ys : List V) (td : Td), vs = [.ref f, .ref g] ∧ H f = some (.lst xs) ∧ H g = some (.lst ys) ∧ tdV H td xs ∧ tdV H td ys ∧ tdOk td ∧ ∀ H', Ex H H' → Q (.bl true) H'
def sp_law_done (K : PySem.W.Frag) : Sp := fun vs H Q _ => ∃ (Y : YA) (A : LA) (pos : Nat → Nat) (R : List Wd) (C : List (List Wd)) (G : List Nat) (v : V) (d : Dd), vs = [.ref Y.p, .ref A.rl, .ref A.ca, v] ∧ Y.al = A.m ∧ At K Y H pos R C G ∧ LAt H A R C ∧ DdAt H v d ∧ OkD d ∧ C.length < 99 ∧
  (∀ H' A' s' pos', Keep (fun b => Y.own b ∨ A.m b) H H' → TK H H' → A'.rl = A.rl → A'.ca = A.ca → (∀ b ∈ A'.cs, b ∈ A.cs ∨ H b = none) → YAt K { Y with al := A'.m } H' s' → s'.last = false → St pos' (doR R C d) (doC R C d) (goneD R C G d) s' → LAt H' A' (doR R C d) (doC R C d) → Q (.bl true) H') ∧
  (isMake d = true → ∀ H' A' s' X R' C', Keep (fun b => Y.own b ∨ A.m b) H H' → TK H H' → A'.rl = A.rl → A'.ca = A.ca → (∀ b ∈ A'.cs, b ∈ A.cs ∨ H b = none) → YAt K { Y with al := A'.m } H' s' → s'.last = true → s'.gone = G ++ X → LAt H' A' R' C' →
    ((R' = R ∧ C' = C) ∨ (R' = doR R C d ∧ C' = doC R C d)) → Q (.bl true) H')
def sp_law_count (K : PySem.W.Frag) : Sp := fun vs H Q _ => ∃ (A : LA) (R : List Wd) (C : List (List Wd)) (G : List Nat) (g : Addr) (n : Nat), vs = [.ref A.rl, .ref A.ca, .ref g, .int (n : Int)] ∧ LAt H A R C ∧ H g = some (.lst (nsV G)) ∧ C.length ≤ 100 ∧ ∀ H', Ex H H' → Q (.int ((cnt R C G n : Nat) : Int)) H'
def nameOf : Wd → Int
  | .ptr n => (n : Int)
  | _ => -1
def sp_law_name (_ : PySem.W.Frag) : Sp := fun vs H Q _ => ∃ (v : V) (w : Wd), vs = [v] ∧ WR H v w ∧ ∀ H', Ex H H' → Q (.int (nameOf w)) H'
def sp_law_going (K : PySem.W.Frag) : Sp := fun vs H Q _ => ∃ (A : LA) (R : List Wd) (C : List (List Wd)) (G : List Nat) (g : Addr) (v : V) (u : Wd), vs = [.ref A.rl, .ref A.ca, .ref g, v] ∧ LAt H A R C ∧ H g = some (.lst (nsV G)) ∧ WR H v u ∧ OkS R C G ∧ OkW C G u ∧ C.length ≤ 100 ∧
  ∀ H' D went, Ex H H' → H D = none → H' D = some (.lst (nsV went)) → swp C (sw0 R C G u) = G ++ went → Q (.ref D) H'
def sp_law_former (K : PySem.W.Frag) : Sp := fun vs H Q _ => ∃ (A : LA) (R : List Wd) (C : List (List Wd)) (G : List Nat) (v : V) (d : Dd), vs = [.ref A.rl, .ref A.ca, v] ∧ LAt H A R C ∧ DdAt H v d ∧ OkD d ∧ OkS R C G ∧
  ∀ v' w H', Ex H H' → WR H' v' w → (∀ u, lets R C d = some u → w = u) → Q v' H'
def sp_law (K : PySem.W.Frag) : Sp := fun vs H Q _ => ∃ (a : Addr) (ns : List Int), vs = [.ref a] ∧ SqL K H a (ns.map V.int) ∧ ns.length ≤ 63 ∧ ∀ H', Q (.bl true) H'
end Gy

set_option Elab.async false
set_option linter.all false
set_option maxRecDepth 100000
set_option maxHeartbeats 4000000
/-! printed by print.py: what each def of the text does, by the rules (its reading) -/
namespace Gy
open PySem PySem.Spec PyProof.Rows L2
open Evl (rLenS rListS rMax2)
open C8 (pe_gc)

abbrev n_is_value : List Str := ["value", "names"]
def t_is_value (K : PySem.W.Frag) : TS :=
  (tSeq (tIfS (tTest (tOp rIsN (tVar 0) (tC .non)))
    (tRet (tC (.bl true)))
    tNext)
    (tSeq (tIfS (tTest (tOp rEq (tOp (rIxT K) (tVar 0) (tC (.int 0))) (tC (.str "is"))))
    (tRet (tChain rLeI rLeI (tUn (rU fun i => .int (-i)) (tC (.int 1000000))) (tOp (rIxT K) (tVar 0) (tC (.int 1))) (tC (.int 1000000))))
    tNext)
    (tRet (tAndV (tOp rEq (tOp (rIxT K) (tVar 0) (tC (.int 0))) (tC (.str "at"))) (tOp (rIn K false) (tOp (rIxT K) (tVar 0) (tC (.int 1))) (tVar 1))))))
abbrev n_is_picture : List Str := ["roots", "cells", "names", "name", "slots", "cell", "value"]
def t_is_picture (K : PySem.W.Frag) (w : World) : TS :=
  (tSeq (tAsg (tLc (iList K (tVar 1)) (gName 5) tYes (tOp (rIxT K) (tVar 5) (tC (.int 0))) [5]) (gName 2))
    (tSeq (tIfS (tOr (tTest (tOp rNe (tCB (rLenS K) (tCons (tVar 0) tNil)) (tC (.int 8)))) (tTest (tOp (rNeD K) (tVar 2) (tCB (rSortedSet w) (tCons (tCB (rSetI K w) (tCons (tVar 2) tNil)) tNil)))))
    (tRet (tC (.bl false)))
    tNext)
    (tSeq (tIfS (tAnd (tTest (tOp rGtI (tCB (rLenS K) (tCons (tVar 2) tNil)) (tC (.int 0)))) (tTest (tOp rLtI (tOp (rIxL K) (tVar 2) (tC (.int 0))) (tC (.int 0)))))
    (tRet (tC (.bl false)))
    tNext)
    (tSeq (tFor (iList K (tVar 1)) (gTup K 2 (gCons (gName 3) (gCons (gName 4) gNil)))
    (tIfS (tOr (tTest (tOp rGtI (tCB (rLenS K) (tCons (tVar 4) tNil)) (tC (.int 4)))) (tNot (tB (tCB (rAll K) (tCons (tLc (iList K (tVar 4)) (gName 6) tYes (tCall (sp_is_value K) [] E0 (tCons (tVar 6) (tCons (tVar 2) tNil))) [6]) tNil)))))
    (tRet (tC (.bl false)))
    tNext))
    (tRet (tCB (rAll K) (tCons (tLc (iList K (tVar 0)) (gName 6) tYes (tCall (sp_is_value K) [] E0 (tCons (tVar 6) (tCons (tVar 2) tNil))) [6]) tNil)))))))
abbrev n_ask_picture : List Str := ["picture"]
def t_ask_picture (K : PySem.W.Frag) : TS :=
  (tIfS (tNot (tB (tCall (sp_is_picture K) [] E0 (tCons (tOp (rIxT K) (tVar 0) (tC (.int 0))) (tCons (tOp (rIxT K) (tVar 0) (tC (.int 1))) tNil)))))
    tNever
    tNext)
abbrev n_led_to : List Str := ["value"]
def t_led_to (K : PySem.W.Frag) : TS :=
  (tSeq (tIfS (tAnd (tTest (tOp rNotN (tVar 0) (tC .non))) (tTest (tOp rEq (tOp (rIxT K) (tVar 0) (tC (.int 0))) (tC (.str "at")))))
    (tRet (tOp (rIxT K) (tVar 0) (tC (.int 1))))
    tNext)
    (tRet (tC .non)))
abbrev n_reasons : List Str := ["picture", "slots_of", "found", "told", "k", "name", "at", "slots"]
def t_reasons (K : PySem.W.Frag) : TS :=
  (tSeq (tDrop (tCall (sp_ask_picture K) [] E0 (tCons (tVar 0) tNil)))
    (tSeq (tAsg (tCB (rDictP K) (tCons (tOp (rIxT K) (tVar 0) (tC (.int 1))) tNil)) (gName 1))
    (tSeq (tAsg (tLst tNil) (gName 2))
    (tSeq (tAsg tDNewK (gName 3))
    (tSeq (tFor (iRng1 (tCons (tC (.int 8)) tNil)) (gName 4)
    (tSeq (tAsg (tCall (sp_led_to K) [] E0 (tCons (tOp (rIxL K) (tOp (rIxT K) (tVar 0) (tC (.int 0))) (tVar 4)) tNil)) (gName 5))
    (tIfS (tAnd (tTest (tOp rNotN (tVar 5) (tC .non))) (tB (tDNotIn (tVar 5) (tVar 3))))
    (tSeq (sDPut (tVar 3) (tVar 5) (tC (.bl true)))
    (tDrop (tBM K "list" rAppend (tVar 2) (tCons (tTup (tCons (tVar 5) (tCons (tTup (tCons (tC (.str "root")) (tCons (tVar 4) tNil))) tNil))) tNil))))
    tNext)))
    (tSeq (tAsg (tC (.int 0)) (gName 6))
    (tSeq (tWhile (tTest (tOp rLtI (tVar 6) (tCB (rLenS K) (tCons (tVar 2) tNil))))
    (tSeq (tAsg (tDGet (tVar 1) (tOp (rIxT K) (tOp (rIxL K) (tVar 2) (tVar 6)) (tC (.int 0)))) (gName 7))
    (tSeq (tFor (iRng1 (tCons (tCB (rLenS K) (tCons (tVar 7) tNil)) tNil)) (gName 4)
    (tSeq (tAsg (tCall (sp_led_to K) [] E0 (tCons (tOp (rIxL K) (tVar 7) (tVar 4)) tNil)) (gName 5))
    (tIfS (tAnd (tTest (tOp rNotN (tVar 5) (tC .non))) (tB (tDNotIn (tVar 5) (tVar 3))))
    (tSeq (sDPut (tVar 3) (tVar 5) (tC (.bl true)))
    (tDrop (tBM K "list" rAppend (tVar 2) (tCons (tTup (tCons (tVar 5) (tCons (tTup (tCons (tC (.str "slot")) (tCons (tOp (rIxT K) (tOp (rIxL K) (tVar 2) (tVar 6)) (tC (.int 0))) (tCons (tVar 4) tNil)))) tNil))) tNil))))
    tNext)))
    (tAsg (tOp rAddI (tVar 6) (tC (.int 1))) (gName 6)))))
    (tRet (tVar 2)))))))))
abbrev n_paper_of : List Str := ["picture", "kept", "names", "name", "reason", "cell"]
def t_paper_of (K : PySem.W.Frag) : TS :=
  (tSeq (tAsg (tCall (sp_reasons K) [] E0 (tCons (tVar 0) tNil)) (gName 1))
    (tSeq (tAsg (tLc (iList K (tVar 1)) (gTup K 2 (gCons (gName 3) (gCons (gName 4) gNil))) tYes (tVar 3) [3, 4]) (gName 2))
    (tRet (tTup (tCons (tVar 1) (tCons (tLc (iList K (tOp (rIxT K) (tVar 0) (tC (.int 1)))) (gName 5) (tTest (tOp (rIn K true) (tOp (rIxT K) (tVar 5) (tC (.int 0))) (tVar 2))) (tOp (rIxT K) (tVar 5) (tC (.int 0))) [5]) tNil))))))
abbrev n_first_fit : List Str := ["free", "many", "stretch"]
def t_first_fit (K : PySem.W.Frag) : TS :=
  (tSeq (tFor (iList K (tVar 0)) (gName 2)
    (tIfS (tTest (tOp rGeI (tOp (rIxT K) (tVar 2) (tC (.int 1))) (tVar 1)))
    (tRet (tOp (rIxT K) (tVar 2) (tC (.int 0))))
    tNext))
    (tRet (tC .non)))
abbrev n_covering : List Str := ["free", "first", "many", "k"]
def t_covering (K : PySem.W.Frag) : TS :=
  (tSeq (tFor (iRng1 (tCons (tCB (rLenS K) (tCons (tVar 0) tNil)) tNil)) (gName 3)
    (tIfS (tAnd (tTest (tOp rLeI (tOp (rIxT K) (tOp (rIxL K) (tVar 0) (tVar 3)) (tC (.int 0))) (tVar 1))) (tTest (tOp rLeI (tOp rAddI (tVar 1) (tVar 2)) (tOp rAddI (tOp (rIxT K) (tOp (rIxL K) (tVar 0) (tVar 3)) (tC (.int 0))) (tOp (rIxT K) (tOp (rIxL K) (tVar 0) (tVar 3)) (tC (.int 1)))))))
    (tRet (tVar 3))
    tNext))
    (tRet (tC .non)))
abbrev n_without : List Str := ["free", "first", "many", "k", "start", "size", "parts", "part"]
def t_without (K : PySem.W.Frag) : TS :=
  (tSeq (tAsg (tCall (sp_covering K) [] E0 (tCons (tVar 0) (tCons (tVar 1) (tCons (tVar 2) tNil)))) (gName 3))
    (tSeq (tAsg (tOp (rIxL K) (tVar 0) (tVar 3)) (gTup K 2 (gCons (gName 4) (gCons (gName 5) gNil))))
    (tSeq (tAsg (tLst (tCons (tTup (tCons (tVar 4) (tCons (tOp rSubI (tVar 1) (tVar 4)) tNil))) (tCons (tTup (tCons (tOp rAddI (tVar 1) (tVar 2)) (tCons (tOp rSubI (tOp rSubI (tOp rAddI (tVar 4) (tVar 5)) (tVar 1)) (tVar 2)) tNil))) tNil))) (gName 6))
    (tRet (tOp rCat (tOp rCat (tSl (rSlL K) (tVar 0) tNoPart (tPart (tVar 3))) (tLc (iList K (tVar 6)) (gName 7) (tTest (tOp rGtI (tOp (rIxT K) (tVar 7) (tC (.int 1))) (tC (.int 0)))) (tVar 7) [7])) (tSl (rSlL K) (tVar 0) (tPart (tOp rAddI (tVar 3) (tC (.int 1)))) tNoPart))))))
abbrev n_joined : List Str := ["free", "first", "many", "ahead", "behind", "more", "stretch"]
def t_joined (K : PySem.W.Frag) : TS :=
  (tSeq (tAsg (tLc (iList K (tVar 0)) (gName 6) (tTest (tOp rLeI (tOp rAddI (tOp (rIxT K) (tVar 6) (tC (.int 0))) (tOp (rIxT K) (tVar 6) (tC (.int 1)))) (tVar 1))) (tVar 6) [6]) (gName 3))
    (tSeq (tAsg (tLc (iList K (tVar 0)) (gName 6) (tTest (tOp rGeI (tOp (rIxT K) (tVar 6) (tC (.int 0))) (tOp rAddI (tVar 1) (tVar 2)))) (tVar 6) [6]) (gName 4))
    (tSeq (tIfS (tAnd (tTest (tOp rGtI (tCB (rLenS K) (tCons (tVar 3) tNil)) (tC (.int 0)))) (tTest (tOp rEq (tOp rAddI (tOp (rIxT K) (tOp (rIxL K) (tVar 3) (tUn (rU fun i => .int (-i)) (tC (.int 1)))) (tC (.int 0))) (tOp (rIxT K) (tOp (rIxL K) (tVar 3) (tUn (rU fun i => .int (-i)) (tC (.int 1)))) (tC (.int 1)))) (tVar 1))))
    (tSeq (tAsg (tBM0 K "list" rPop (tVar 3)) (gTup K 2 (gCons (gName 1) (gCons (gName 5) gNil))))
    (tAsg (tOp rAddI (tVar 2) (tVar 5)) (gName 2)))
    tNext)
    (tSeq (tIfS (tAnd (tTest (tOp rGtI (tCB (rLenS K) (tCons (tVar 4) tNil)) (tC (.int 0)))) (tTest (tOp rEq (tOp (rIxT K) (tOp (rIxL K) (tVar 4) (tC (.int 0))) (tC (.int 0))) (tOp rAddI (tVar 1) (tVar 2)))))
    (tAsg (tOp rAddI (tVar 2) (tOp (rIxT K) (tBM K "list" rPopAt (tVar 4) (tCons (tC (.int 0)) tNil)) (tC (.int 1)))) (gName 2))
    tNext)
    (tRet (tOp rCat (tOp rCat (tVar 3) (tLst (tCons (tTup (tCons (tVar 1) (tCons (tVar 2) tNil))) tNil))) (tVar 4)))))))
abbrev n_yinit : List Str := ["self", "room"]
def t_yinit (K : PySem.W.Frag) : TS :=
  (tSeq (tIfS (tNot (tTest (tChain rLeI rLeI (tC (.int 8)) (tVar 1) (tC (.int 120)))))
    tNever
    tNext)
    (tSeq (sFld K (tVar 0) (tVar 1) "room")
    (tSeq (sFld K (tVar 0) (tOp rRep (tLst (tCons (tC .non) tNil)) (tVar 1)) "words")
    (tSeq (sFld K (tVar 0) (tOp rRep (tLst (tCons (tC .non) tNil)) (tC (.int 8))) "roots")
    (tSeq (sFld K (tVar 0) (tC (.int 0)) "born")
    (tSeq (sFld K (tVar 0) (tLst tNil) "gone")
    (sFld K (tVar 0) (tC .non) "last")))))))
abbrev n_write_root : List Str := ["self", "k", "value"]
def t_write_root (K : PySem.W.Frag) : TS :=
  (tAsg (tVar 2) (gSub (tFld K (tVar 0) "roots") (tVar 1) rSetL))
abbrev n_write_slot : List Str := ["self", "address", "slot", "value"]
def t_write_slot (K : PySem.W.Frag) : TS :=
  (tAsg (tVar 3) (gSub (tFld K (tVar 0) "words") (tOp rAddI (tOp rAddI (tVar 1) (tC (.int 1))) (tVar 2)) rSetL))
abbrev n_release : List Str := ["self", "address", "head", "place"]
def t_release (K : PySem.W.Frag) : TS :=
  (tSeq (tAsg (tOp (rIxL K) (tFld K (tVar 0) "words") (tVar 1)) (gName 2))
    (tSeq (tFor (iRng2 (tCons (tVar 1) (tCons (tOp rAddI (tOp rAddI (tVar 1) (tOp (rIxT K) (tVar 2) (tC (.int 2)))) (tC (.int 1))) tNil))) (gName 3)
    (tAsg (tC .non) (gSub (tFld K (tVar 0) "words") (tVar 3) rSetL)))
    (tDrop (tBM K "list" rAppend (tFld K (tVar 0) "gone") (tCons (tOp (rIxT K) (tVar 2) (tC (.int 1))) tNil)))))
abbrev n_ask_root : List Str := ["self", "k"]
def t_ask_root (K : PySem.W.Frag) : TS :=
  (tIfS (tNot (tTest (tChain rLeI rLtI (tC (.int 0)) (tVar 1) (tC (.int 8)))))
    tNever
    tNext)
abbrev n_cell_at : List Str := ["self", "k", "value"]
def t_cell_at (K : PySem.W.Frag) (E : XK) : TS :=
  (tSeq (tAsg (tOp (rIxL K) (tFld K (tVar 0) "roots") (tVar 1)) (gName 2))
    (tSeq (tIfS (tOr (tTest (tOp rIsN (tVar 2) (tC .non))) (tTest (tOp rNe (tOp (rIxT K) (tVar 2) (tC (.int 0))) (tC (.str "at")))))
    (tRaise E (.ref (aF K "NoCell")))
    tNext)
    (tRet (tOp (rIxT K) (tVar 2) (tC (.int 1))))))
abbrev n_slot_at : List Str := ["self", "address", "slot"]
def t_slot_at (K : PySem.W.Frag) (E : XK) : TS :=
  (tSeq (tIfS (tNot (tTest (tChain rLeI rLtI (tC (.int 0)) (tVar 2) (tOp (rIxT K) (tOp (rIxL K) (tFld K (tVar 0) "words") (tVar 1)) (tC (.int 2))))))
    (tRaise E (.ref (aF K "NoSlot")))
    tNext)
    (tRet (tOp rAddI (tOp rAddI (tVar 1) (tC (.int 1))) (tVar 2))))
abbrev n_told : List Str := ["self", "value"]
def t_told (K : PySem.W.Frag) : TS :=
  (tSeq (tIfS (tAnd (tTest (tOp rNotN (tVar 1) (tC .non))) (tTest (tOp rEq (tOp (rIxT K) (tVar 1) (tC (.int 0))) (tC (.str "at")))))
    (tRet (tTup (tCons (tC (.str "at")) (tCons (tOp (rIxT K) (tOp (rIxL K) (tFld K (tVar 0) "words") (tOp (rIxT K) (tVar 1) (tC (.int 1)))) (tC (.int 1))) tNil))))
    tNext)
    (tRet (tVar 1)))
abbrev n_room_for : List Str := ["self", "size"]
def t_room_for (K : PySem.W.Frag) : TS :=
  (tRet (tCall (sp_first_fit K) [] E0 (tCons (tFld K (tVar 0) "free") (tCons (tOp rAddI (tVar 1) (tC (.int 1))) tNil))))
abbrev n_where : List Str := ["self", "found", "address", "word"]
def t_where (K : PySem.W.Frag) : TS :=
  (tSeq (tAsg (tLst tNil) (gName 1))
    (tSeq (tFor (iRng1 (tCons (tCB (rLenS K) (tCons (tFld K (tVar 0) "words") tNil)) tNil)) (gName 2)
    (tSeq (tAsg (tOp (rIxL K) (tFld K (tVar 0) "words") (tVar 2)) (gName 3))
    (tIfS (tAnd (tTest (tOp rNotN (tVar 3) (tC .non))) (tTest (tOp rEq (tOp (rIxT K) (tVar 3) (tC (.int 0))) (tC (.str "head")))))
    (tDrop (tBM K "list" rAppend (tVar 1) (tCons (tTup (tCons (tOp (rIxT K) (tVar 3) (tC (.int 1))) (tCons (tVar 2) tNil))) tNil)))
    tNext)))
    (tRet (tCB (rSortedPO K) (tCons (tVar 1) tNil)))))
abbrev n_slots_at : List Str := ["self", "address", "size", "value"]
def t_slots_at (K : PySem.W.Frag) : TS :=
  (tSeq (tAsg (tOp (rIxT K) (tOp (rIxL K) (tFld K (tVar 0) "words") (tVar 1)) (tC (.int 2))) (gName 2))
    (tRet (tLc (iList K (tSl (rSlL K) (tFld K (tVar 0) "words") (tPart (tOp rAddI (tVar 1) (tC (.int 1)))) (tPart (tOp rAddI (tOp rAddI (tVar 1) (tC (.int 1))) (tVar 2))))) (gName 3) tYes (tMeth (aC K) "told" (sp_told K) [] E0 (tVar 0) (tCons (tVar 3) tNil)) [3])))
abbrev n_picture : List Str := ["self", "cells", "name", "address", "value"]
def t_picture (K : PySem.W.Frag) : TS :=
  (tSeq (tAsg (tLc (iList K (tMeth (aC K) "where" (sp_where K) [] E0 (tVar 0) tNil)) (gTup K 2 (gCons (gName 2) (gCons (gName 3) gNil))) tYes (tTup (tCons (tVar 2) (tCons (tMeth (aC K) "slots_at" (sp_slots_at K) [] E0 (tVar 0) (tCons (tVar 3) tNil)) tNil))) [2, 3]) (gName 1))
    (tRet (tTup (tCons (tLc (iList K (tFld K (tVar 0) "roots")) (gName 4) tYes (tMeth (aC K) "told" (sp_told K) [] E0 (tVar 0) (tCons (tVar 4) tNil)) [4]) (tCons (tVar 1) tNil)))))
abbrev n_inner : List Str := ["self", "address", "slots", "value"]
def t_inner (K : PySem.W.Frag) : TS :=
  (tSeq (tAsg (tSl (rSlL K) (tFld K (tVar 0) "words") (tPart (tOp rAddI (tVar 1) (tC (.int 1)))) (tPart (tOp rAddI (tOp rAddI (tVar 1) (tC (.int 1))) (tOp (rIxT K) (tOp (rIxL K) (tFld K (tVar 0) "words") (tVar 1)) (tC (.int 2)))))) (gName 2))
    (tRet (tLc (iList K (tVar 2)) (gName 3) (tAnd (tTest (tOp rNotN (tVar 3) (tC .non))) (tTest (tOp rEq (tOp (rIxT K) (tVar 3) (tC (.int 0))) (tC (.str "at"))))) (tOp (rIxT K) (tVar 3) (tC (.int 1))) [3])))
abbrev n_outer : List Str := ["self", "left", "address", "there"]
def t_outer (K : PySem.W.Frag) : TS :=
  (tSeq (tAsg (tCB rDictD (tCons (tFld K (tVar 0) "led_in") tNil)) (gName 1))
    (tSeq (tLock (tFor (iKeys (tFld K (tVar 0) "led_in")) (gName 2)
    (tFor (iList K (tMeth (aC K) "inner" (sp_inner K) [] E0 (tVar 0) (tCons (tVar 2) tNil))) (gName 3)
    (sDPut (tVar 1) (tVar 3) (tOp rSubI (tDGet (tVar 1) (tVar 3)) (tC (.int 1)))))))
    (tRet (tVar 1))))
abbrev n_saved : List Str := ["self", "left", "found", "at", "there", "address"]
def t_saved (K : PySem.W.Frag) : TS :=
  (tSeq (tAsg (tMeth (aC K) "outer" (sp_outer K) [] E0 (tVar 0) tNil) (gName 1))
    (tSeq (tAsg (tLc (iList K (tCB (rSortedI K) (tCons (tCB rListD (tCons (tVar 1) tNil)) tNil))) (gName 5) (tTest (tOp rGtI (tDGet (tVar 1) (tVar 5)) (tC (.int 0)))) (tVar 5) [5]) (gName 2))
    (tSeq (tAsg (tC (.int 0)) (gName 3))
    (tSeq (tWhile (tTest (tOp rLtI (tVar 3) (tCB (rLenS K) (tCons (tVar 2) tNil))))
    (tSeq (tFor (iList K (tMeth (aC K) "inner" (sp_inner K) [] E0 (tVar 0) (tCons (tOp (rIxL K) (tVar 2) (tVar 3)) tNil))) (gName 4)
    (tIfS (tTest (tOp (rIn K true) (tVar 4) (tVar 2)))
    (tDrop (tBM K "list" rAppend (tVar 2) (tCons (tVar 4) tNil)))
    tNext))
    (tAsg (tOp rAddI (tVar 3) (tC (.int 1))) (gName 3))))
    (tRet (tVar 2))))))
abbrev n_free_up : List Str := ["self", "address", "head"]
def t_free_up (K : PySem.W.Frag) : TS :=
  (tSeq (tAsg (tOp (rIxL K) (tFld K (tVar 0) "words") (tVar 1)) (gName 2))
    (tSeq (tDrop (tMeth (aC K) "release" (sp_release K) [] E0 (tVar 0) (tCons (tVar 1) tNil)))
    (tSeq (sFld K (tVar 0) (tCall (sp_joined K) [] E0 (tCons (tFld K (tVar 0) "free") (tCons (tVar 1) (tCons (tOp rAddI (tOp (rIxT K) (tVar 2) (tC (.int 2))) (tC (.int 1))) tNil)))) "free")
    (tDrop (tDPop1 (tFld K (tVar 0) "led_in") (tVar 1))))))
abbrev n_glean : List Str := ["self", "paper", "safe", "address", "lost", "there"]
def t_glean (K : PySem.W.Frag) : TS :=
  (tSeq (tAsg (tCall (sp_paper_of K) [] E0 (tCons (tMeth (aC K) "picture" (sp_picture K) [] E0 (tVar 0) tNil) tNil)) (gName 1))
    (tSeq (tAsg (tMeth (aC K) "saved" (sp_saved K) [] E0 (tVar 0) tNil) (gName 2))
    (tSeq (tAsg (tLc (iList K (tCB (rSortedI K) (tCons (tCB rListD (tCons (tFld K (tVar 0) "led_in") tNil)) tNil))) (gName 3) (tTest (tOp (rIn K true) (tVar 3) (tVar 2))) (tVar 3) [3]) (gName 4))
    (tSeq (tFor (iList K (tVar 4)) (gName 3)
    (tFor (iList K (tMeth (aC K) "inner" (sp_inner K) [] E0 (tVar 0) (tCons (tVar 3) tNil))) (gName 5)
    (sDPut (tFld K (tVar 0) "led_in") (tVar 5) (tOp rSubI (tDGet (tFld K (tVar 0) "led_in") (tVar 5)) (tC (.int 1))))))
    (tSeq (tFor (iList K (tVar 4)) (gName 3)
    (tDrop (tMeth (aC K) "free_up" (sp_free_up K) [] E0 (tVar 0) (tCons (tVar 3) tNil))))
    (tRet (tVar 1)))))))
abbrev n_collect : List Str := ["self", "ahead"]
def t_collect (K : PySem.W.Frag) : TS :=
  (tSeq (tAsg (tCB (rLenS K) (tCons (tFld K (tVar 0) "gone") tNil)) (gName 1))
    (tSeq (sFld K (tVar 0) (tMeth (aC K) "glean" (sp_glean K) [] E0 (tVar 0) tNil) "last")
    (tRet (tOp rSubI (tCB (rLenS K) (tCons (tFld K (tVar 0) "gone") tNil)) (tVar 1)))))
abbrev n_placed : List Str := ["self", "address"]
def t_placed (K : PySem.W.Frag) : TS :=
  (tSeq (sFld K (tVar 0) (tCall (sp_without K) [] E0 (tCons (tFld K (tVar 0) "free") (tCons (tVar 1) (tCons (tOp rAddI (tOp (rIxT K) (tOp (rIxL K) (tFld K (tVar 0) "words") (tVar 1)) (tC (.int 2))) (tC (.int 1))) tNil)))) "free")
    (sDPut (tFld K (tVar 0) "led_in") (tVar 1) (tC (.int 0))))
abbrev n_more : List Str := ["self", "value"]
def t_more (K : PySem.W.Frag) : TS :=
  (tIfS (tAnd (tTest (tOp rNotN (tVar 1) (tC .non))) (tTest (tOp rEq (tOp (rIxT K) (tVar 1) (tC (.int 0))) (tC (.str "at")))))
    (sDPut (tFld K (tVar 0) "led_in") (tOp (rIxT K) (tVar 1) (tC (.int 1))) (tOp rAddI (tDGet (tFld K (tVar 0) "led_in") (tOp (rIxT K) (tVar 1) (tC (.int 1)))) (tC (.int 1))))
    tNext)
abbrev n_less : List Str := ["self", "value", "waiting", "here"]
def t_less (K : PySem.W.Frag) : TS :=
  (tSeq (tAsg (tLst (tCons (tVar 1) tNil)) (gName 2))
    (tWhile (tTest (tOp rGtI (tCB (rLenS K) (tCons (tVar 2) tNil)) (tC (.int 0))))
    (tSeq (tAsg (tBM K "list" rPopAt (tVar 2) (tCons (tC (.int 0)) tNil)) (gName 3))
    (tIfS (tAnd (tTest (tOp rNotN (tVar 3) (tC .non))) (tTest (tOp rEq (tOp (rIxT K) (tVar 3) (tC (.int 0))) (tC (.str "at")))))
    (tSeq (sDPut (tFld K (tVar 0) "led_in") (tOp (rIxT K) (tVar 3) (tC (.int 1))) (tOp rSubI (tDGet (tFld K (tVar 0) "led_in") (tOp (rIxT K) (tVar 3) (tC (.int 1)))) (tC (.int 1))))
    (tIfS (tTest (tOp rEq (tDGet (tFld K (tVar 0) "led_in") (tOp (rIxT K) (tVar 3) (tC (.int 1)))) (tC (.int 0))))
    (tSeq (tDrop (tBM K "list" rExtend (tVar 2) (tCons (tSl (rSlL K) (tFld K (tVar 0) "words") (tPart (tOp rAddI (tOp (rIxT K) (tVar 3) (tC (.int 1))) (tC (.int 1)))) (tPart (tOp rAddI (tOp rAddI (tOp (rIxT K) (tVar 3) (tC (.int 1))) (tC (.int 1))) (tOp (rIxT K) (tOp (rIxL K) (tFld K (tVar 0) "words") (tOp (rIxT K) (tVar 3) (tC (.int 1)))) (tC (.int 2)))))) tNil)))
    (tDrop (tMeth (aC K) "free_up" (sp_free_up K) [] E0 (tVar 0) (tCons (tOp (rIxT K) (tVar 3) (tC (.int 1))) tNil))))
    tNext))
    tNext))))
abbrev n_set_root : List Str := ["self", "k", "value", "former"]
def t_set_root (K : PySem.W.Frag) : TS :=
  (tSeq (tAsg (tOp (rIxL K) (tFld K (tVar 0) "roots") (tVar 1)) (gName 3))
    (tSeq (tDrop (tMeth (aC K) "more" (sp_more K) [] E0 (tVar 0) (tCons (tVar 2) tNil)))
    (tSeq (tDrop (tMeth (aC K) "write_root" (sp_write_root K) [] E0 (tVar 0) (tCons (tVar 1) (tCons (tVar 2) tNil))))
    (tDrop (tMeth (aC K) "less" (sp_less K) [] E0 (tVar 0) (tCons (tVar 3) tNil))))))
abbrev n_make : List Str := ["self", "k", "size", "address", "name", "slot"]
def t_make (K : PySem.W.Frag) (E : XK) : TS :=
  (tSeq (tDrop (tMeth (aC K) "ask_root" (sp_ask_root K) [] E0 (tVar 0) (tCons (tVar 1) tNil)))
    (tSeq (tIfS (tNot (tTest (tChain rLeI rLeI (tC (.int 0)) (tVar 2) (tC (.int 4)))))
    tNever
    tNext)
    (tSeq (tAsg (tMeth (aC K) "room_for" (sp_room_for K) [] E0 (tVar 0) (tCons (tVar 2) tNil)) (gName 3))
    (tSeq (tIfS (tTest (tOp rIsN (tVar 3) (tC .non)))
    (tSeq (tDrop (tMeth (aC K) "collect" (sp_collect K) [] E0 (tVar 0) tNil))
    (tAsg (tMeth (aC K) "room_for" (sp_room_for K) [] E0 (tVar 0) (tCons (tVar 2) tNil)) (gName 3)))
    tNext)
    (tSeq (tIfS (tTest (tOp rIsN (tVar 3) (tC .non)))
    (tRaise E (.ref (aF K "Full")))
    tNext)
    (tSeq (tAsg (tFld K (tVar 0) "born") (gName 4))
    (tSeq (sFld K (tVar 0) (tOp rAddI (tVar 4) (tC (.int 1))) "born")
    (tSeq (tAsg (tTup (tCons (tC (.str "head")) (tCons (tVar 4) (tCons (tVar 2) tNil)))) (gSub (tFld K (tVar 0) "words") (tVar 3) rSetL))
    (tSeq (tFor (iRng1 (tCons (tVar 2) tNil)) (gName 5)
    (tAsg (tC .non) (gSub (tFld K (tVar 0) "words") (tOp rAddI (tOp rAddI (tVar 3) (tC (.int 1))) (tVar 5)) rSetL)))
    (tSeq (tDrop (tMeth (aC K) "placed" (sp_placed K) [] E0 (tVar 0) (tCons (tVar 3) tNil)))
    (tSeq (tDrop (tMeth (aC K) "set_root" (sp_set_root K) [] E0 (tVar 0) (tCons (tVar 1) (tCons (tTup (tCons (tC (.str "at")) (tCons (tVar 3) tNil))) tNil))))
    (tRet (tVar 4)))))))))))))
abbrev n_number : List Str := ["self", "k", "number"]
def t_number (K : PySem.W.Frag) : TS :=
  (tSeq (tDrop (tMeth (aC K) "ask_root" (sp_ask_root K) [] E0 (tVar 0) (tCons (tVar 1) tNil)))
    (tSeq (tIfS (tNot (tTest (tChain rLeI rLeI (tUn (rU fun i => .int (-i)) (tC (.int 1000000))) (tVar 2) (tC (.int 1000000)))))
    tNever
    tNext)
    (tDrop (tMeth (aC K) "set_root" (sp_set_root K) [] E0 (tVar 0) (tCons (tVar 1) (tCons (tTup (tCons (tC (.str "is")) (tCons (tVar 2) tNil))) tNil))))))
abbrev n_clear : List Str := ["self", "k"]
def t_clear (K : PySem.W.Frag) : TS :=
  (tSeq (tDrop (tMeth (aC K) "ask_root" (sp_ask_root K) [] E0 (tVar 0) (tCons (tVar 1) tNil)))
    (tDrop (tMeth (aC K) "set_root" (sp_set_root K) [] E0 (tVar 0) (tCons (tVar 1) (tCons (tC .non) tNil)))))
abbrev n_pass_on : List Str := ["self", "to", "source"]
def t_pass_on (K : PySem.W.Frag) : TS :=
  (tSeq (tDrop (tMeth (aC K) "ask_root" (sp_ask_root K) [] E0 (tVar 0) (tCons (tVar 1) tNil)))
    (tSeq (tDrop (tMeth (aC K) "ask_root" (sp_ask_root K) [] E0 (tVar 0) (tCons (tVar 2) tNil)))
    (tDrop (tMeth (aC K) "set_root" (sp_set_root K) [] E0 (tVar 0) (tCons (tVar 1) (tCons (tOp (rIxL K) (tFld K (tVar 0) "roots") (tVar 2)) tNil))))))
abbrev n_set_slot : List Str := ["self", "address", "slot", "value", "former"]
def t_set_slot (K : PySem.W.Frag) : TS :=
  (tSeq (tAsg (tOp (rIxL K) (tFld K (tVar 0) "words") (tOp rAddI (tOp rAddI (tVar 1) (tC (.int 1))) (tVar 2))) (gName 4))
    (tSeq (tDrop (tMeth (aC K) "more" (sp_more K) [] E0 (tVar 0) (tCons (tVar 3) tNil)))
    (tSeq (tDrop (tMeth (aC K) "write_slot" (sp_write_slot K) [] E0 (tVar 0) (tCons (tVar 1) (tCons (tVar 2) (tCons (tVar 3) tNil)))))
    (tDrop (tMeth (aC K) "less" (sp_less K) [] E0 (tVar 0) (tCons (tVar 4) tNil))))))
abbrev n_put : List Str := ["self", "k", "slot", "source", "address"]
def t_put (K : PySem.W.Frag) (E : XK) : TS :=
  (tSeq (tDrop (tMeth (aC K) "ask_root" (sp_ask_root K) [] E0 (tVar 0) (tCons (tVar 1) tNil)))
    (tSeq (tDrop (tMeth (aC K) "ask_root" (sp_ask_root K) [] E0 (tVar 0) (tCons (tVar 3) tNil)))
    (tSeq (tAsg (tMeth (aC K) "cell_at" (sp_cell_at K) [] E (tVar 0) (tCons (tVar 1) tNil)) (gName 4))
    (tSeq (tDrop (tMeth (aC K) "slot_at" (sp_slot_at K) [] E (tVar 0) (tCons (tVar 4) (tCons (tVar 2) tNil))))
    (tDrop (tMeth (aC K) "set_slot" (sp_set_slot K) [] E0 (tVar 0) (tCons (tVar 4) (tCons (tVar 2) (tCons (tOp (rIxL K) (tFld K (tVar 0) "roots") (tVar 3)) tNil)))))))))
abbrev n_take : List Str := ["self", "to", "k", "slot", "place"]
def t_take (K : PySem.W.Frag) (E : XK) : TS :=
  (tSeq (tDrop (tMeth (aC K) "ask_root" (sp_ask_root K) [] E0 (tVar 0) (tCons (tVar 1) tNil)))
    (tSeq (tDrop (tMeth (aC K) "ask_root" (sp_ask_root K) [] E0 (tVar 0) (tCons (tVar 2) tNil)))
    (tSeq (tAsg (tMeth (aC K) "slot_at" (sp_slot_at K) [] E (tVar 0) (tCons (tMeth (aC K) "cell_at" (sp_cell_at K) [] E (tVar 0) (tCons (tVar 2) tNil)) (tCons (tVar 3) tNil))) (gName 4))
    (tDrop (tMeth (aC K) "set_root" (sp_set_root K) [] E0 (tVar 0) (tCons (tVar 1) (tCons (tOp (rIxL K) (tFld K (tVar 0) "words") (tVar 4)) tNil)))))))
abbrev n_value : List Str := ["self", "k"]
def t_value (K : PySem.W.Frag) : TS :=
  (tSeq (tDrop (tMeth (aC K) "ask_root" (sp_ask_root K) [] E0 (tVar 0) (tCons (tVar 1) tNil)))
    (tRet (tMeth (aC K) "told" (sp_told K) [] E0 (tVar 0) (tCons (tOp (rIxL K) (tFld K (tVar 0) "roots") (tVar 1)) tNil))))
abbrev n_same : List Str := ["self", "one", "other"]
def t_same (K : PySem.W.Frag) : TS :=
  (tSeq (tDrop (tMeth (aC K) "ask_root" (sp_ask_root K) [] E0 (tVar 0) (tCons (tVar 1) tNil)))
    (tSeq (tDrop (tMeth (aC K) "ask_root" (sp_ask_root K) [] E0 (tVar 0) (tCons (tVar 2) tNil)))
    (tRet (tOp (rEqD K) (tOp (rIxL K) (tFld K (tVar 0) "roots") (tVar 1)) (tOp (rIxL K) (tFld K (tVar 0) "roots") (tVar 2))))))
abbrev n_names : List Str := ["self", "name", "address"]
def t_names (K : PySem.W.Frag) : TS :=
  (tRet (tLc (iList K (tMeth (aC K) "where" (sp_where K) [] E0 (tVar 0) tNil)) (gTup K 2 (gCons (gName 1) (gCons (gName 2) gNil))) tYes (tVar 1) [1, 2]))
abbrev n_swept : List Str := ["self"]
def t_swept (K : PySem.W.Frag) : TS :=
  (tRet (tCB (rListS K) (tCons (tFld K (tVar 0) "gone") tNil)))
abbrev n_paper : List Str := ["self"]
def t_paper (K : PySem.W.Frag) : TS :=
  (tSeq (tIfS (tTest (tOp rIsN (tFld K (tVar 0) "last") (tC .non)))
    (tRet (tC .non))
    tNext)
    (tRet (tTup (tCons (tCB (rListS K) (tCons (tOp (rIxT K) (tFld K (tVar 0) "last") (tC (.int 0))) tNil)) (tCons (tCB (rListS K) (tCons (tOp (rIxT K) (tFld K (tVar 0) "last") (tC (.int 1))) tNil)) tNil)))))
abbrev n_cinit : List Str := ["self", "room"]
def t_cinit (K : PySem.W.Frag) : TS :=
  (tSeq (tDrop (tCFun (aY K) (sp_yinit K) [] E0 (tC (.ref (aY K))) (tCons (tVar 0) (tCons (tVar 1) tNil))))
    (tSeq (sFld K (tVar 0) (tLst (tCons (tTup (tCons (tC (.int 0)) (tCons (tVar 1) tNil))) tNil)) "free")
    (sFld K (tVar 0) tDNewK "led_in")))
abbrev n_counts : List Str := ["self", "name", "address"]
def t_counts (K : PySem.W.Frag) : TS :=
  (tRet (tLc (iList K (tMeth (aC K) "where" (sp_where K) [] E0 (tVar 0) tNil)) (gTup K 2 (gCons (gName 1) (gCons (gName 2) gNil))) tYes (tTup (tCons (tVar 1) (tCons (tDGet (tFld K (tVar 0) "led_in") (tVar 2)) tNil))) [1, 2]))
abbrev n_done : List Str := ["yard", "deed"]
def t_done (K : PySem.W.Frag) (E : XK) : TS :=
  (tSeq (tIfS (tTest (tOp rEq (tOp (rIxT K) (tVar 1) (tC (.int 0))) (tC (.str "make"))))
    (tDrop (tMeth (aC K) "make" (sp_make K) [] E (tVar 0) (tCons (tOp (rIxT K) (tVar 1) (tC (.int 1))) (tCons (tOp (rIxT K) (tVar 1) (tC (.int 2))) tNil))))
    (tIfS (tTest (tOp rEq (tOp (rIxT K) (tVar 1) (tC (.int 0))) (tC (.str "number"))))
    (tDrop (tMeth (aC K) "number" (sp_number K) [] E0 (tVar 0) (tCons (tOp (rIxT K) (tVar 1) (tC (.int 1))) (tCons (tOp (rIxT K) (tVar 1) (tC (.int 2))) tNil))))
    (tIfS (tTest (tOp rEq (tOp (rIxT K) (tVar 1) (tC (.int 0))) (tC (.str "clear"))))
    (tDrop (tMeth (aC K) "clear" (sp_clear K) [] E0 (tVar 0) (tCons (tOp (rIxT K) (tVar 1) (tC (.int 1))) tNil)))
    (tIfS (tTest (tOp rEq (tOp (rIxT K) (tVar 1) (tC (.int 0))) (tC (.str "copy"))))
    (tDrop (tMeth (aC K) "pass_on" (sp_pass_on K) [] E0 (tVar 0) (tCons (tOp (rIxT K) (tVar 1) (tC (.int 1))) (tCons (tOp (rIxT K) (tVar 1) (tC (.int 2))) tNil))))
    (tIfS (tTest (tOp rEq (tOp (rIxT K) (tVar 1) (tC (.int 0))) (tC (.str "put"))))
    (tDrop (tMeth (aC K) "put" (sp_put K) [] E (tVar 0) (tCons (tOp (rIxT K) (tVar 1) (tC (.int 1))) (tCons (tOp (rIxT K) (tVar 1) (tC (.int 2))) (tCons (tOp (rIxT K) (tVar 1) (tC (.int 3))) tNil)))))
    (tIfS (tTest (tOp rEq (tOp (rIxT K) (tVar 1) (tC (.int 0))) (tC (.str "take"))))
    (tDrop (tMeth (aC K) "take" (sp_take K) [] E (tVar 0) (tCons (tOp (rIxT K) (tVar 1) (tC (.int 1))) (tCons (tOp (rIxT K) (tVar 1) (tC (.int 2))) (tCons (tOp (rIxT K) (tVar 1) (tC (.int 3))) tNil)))))
    (tIfS (tTest (tOp rEq (tOp (rIxT K) (tVar 1) (tC (.int 0))) (tC (.str "tell"))))
    (tRet (tLst (tCons (tMeth (aC K) "value" (sp_value K) [] E0 (tVar 0) (tCons (tOp (rIxT K) (tVar 1) (tC (.int 1))) tNil)) tNil)))
    (tRet (tLst (tCons (tMeth (aC K) "same" (sp_same K) [] E0 (tVar 0) (tCons (tOp (rIxT K) (tVar 1) (tC (.int 1))) (tCons (tOp (rIxT K) (tVar 1) (tC (.int 2))) tNil))) tNil))))))))))
    (tRet (tLst tNil)))
abbrev n_told_by : List Str := ["yard", "deed", "found"]
def t_told_by (K : PySem.W.Frag) : TS :=
  (tSeq (fun D σ H => (fun W => (tAsg (tCallS (sp_done K) (WE W) (tCons (tVar 0) (tCons (tVar 1) tNil))) (gName 2))) (wMany K (fun _ _ _ _ => False) D [(.ref (aF K "NoRoot"), fun _ _ _ => tNever),
      (.ref (aF K "NoSize"), fun _ _ _ => tNever),
      (.ref (aF K "NoNumber"), fun _ _ _ => tNever),
      (.ref (aF K "NoCell"), fun _ _ _ => (tAsg (tLst (tCons (tTup (tCons (tC (.str "refused")) (tCons (tC (.str "NoCell")) tNil))) tNil)) (gName 2))),
      (.ref (aF K "NoSlot"), fun _ _ _ => (tAsg (tLst (tCons (tTup (tCons (tC (.str "refused")) (tCons (tC (.str "NoSlot")) tNil))) tNil)) (gName 2))),
      (.ref (aF K "Full"), fun _ _ _ => (tAsg (tLst (tCons (tTup (tCons (tC (.str "refused")) (tCons (tC (.str "Full")) tNil))) tNil)) (gName 2)))]) D σ H)
    (tRet (tVar 2)))
abbrev n_law_cell_at : List Str := ["script", "k"]
def t_law_cell_at (K : PySem.W.Frag) : TS :=
  (tSeq (tIfS (tTest (tOp rLtI (tVar 1) (tCB (rLenS K) (tCons (tVar 0) tNil))))
    (tRet (tOp (rIxL K) (tVar 0) (tVar 1)))
    tNext)
    (tRet (tC (.int 0))))
abbrev n_law_deed : List Str := ["cell", "kinds", "kind", "one", "other", "slot"]
def t_law_deed (K : PySem.W.Frag) : TS :=
  (tSeq (tAsg (tLst (tCons (tC (.str "make")) (tCons (tC (.str "put")) (tCons (tC (.str "take")) (tCons (tC (.str "copy")) (tCons (tC (.str "put")) (tCons (tC (.str "make")) (tCons (tC (.str "clear")) (tCons (tC (.str "number")) (tCons (tC (.str "tell")) (tCons (tC (.str "same")) (tCons (tC (.str "put")) (tCons (tC (.str "take")) tNil))))))))))))) (gName 1))
    (tSeq (tAsg (tOp (rIxL K) (tVar 1) (tOp rModI (tVar 0) (tC (.int 12)))) (gName 2))
    (tSeq (tAsg (tOp rAddI (tOp rModI (tOp rDivI (tVar 0) (tC (.int 12))) (tC (.int 4))) (tOp rMulI (tC (.int 4)) (tOp rModI (tOp rDivI (tVar 0) (tC (.int 1152))) (tC (.int 2))))) (gName 3))
    (tSeq (tAsg (tOp rAddI (tOp rModI (tOp rDivI (tVar 0) (tC (.int 48))) (tC (.int 4))) (tOp rMulI (tC (.int 4)) (tOp rModI (tOp rDivI (tVar 0) (tC (.int 2304))) (tC (.int 2))))) (gName 4))
    (tSeq (tAsg (tOp rAddI (tOp rModI (tOp rDivI (tVar 0) (tC (.int 192))) (tC (.int 3))) (tOp rModI (tOp rDivI (tVar 0) (tC (.int 9216))) (tC (.int 2)))) (gName 5))
    (tSeq (tIfS (tTest (tOp rEq (tVar 2) (tC (.str "make"))))
    (tRet (tTup (tCons (tC (.str "make")) (tCons (tVar 3) (tCons (tOp rAddI (tVar 5) (tOp rModI (tOp rDivI (tVar 0) (tC (.int 576))) (tC (.int 2)))) tNil)))))
    tNext)
    (tSeq (tIfS (tTest (tOp rEq (tVar 2) (tC (.str "put"))))
    (tRet (tTup (tCons (tC (.str "put")) (tCons (tVar 3) (tCons (tVar 5) (tCons (tVar 4) tNil))))))
    tNext)
    (tSeq (tIfS (tTest (tOp rEq (tVar 2) (tC (.str "take"))))
    (tRet (tTup (tCons (tC (.str "take")) (tCons (tVar 3) (tCons (tVar 4) (tCons (tVar 5) tNil))))))
    tNext)
    (tSeq (tIfS (tTest (tOp rEq (tVar 2) (tC (.str "number"))))
    (tRet (tTup (tCons (tC (.str "number")) (tCons (tVar 3) (tCons (tOp (rIxL K) (tLst (tCons (tOp rSubI (tOp rModI (tOp rDivI (tVar 0) (tC (.int 48))) (tC (.int 9))) (tC (.int 4))) (tCons (tC (.int 1000000)) (tCons (tUn (rU fun i => .int (-i)) (tC (.int 1000000))) tNil)))) (tCB rMax2 (tCons (tC (.int 0)) (tCons (tOp rSubI (tOp rModI (tOp rDivI (tVar 0) (tC (.int 48))) (tC (.int 11))) (tC (.int 8))) tNil)))) tNil)))))
    tNext)
    (tSeq (tIfS (tOr (tTest (tOp rEq (tVar 2) (tC (.str "copy")))) (tTest (tOp rEq (tVar 2) (tC (.str "same")))))
    (tRet (tTup (tCons (tVar 2) (tCons (tVar 3) (tCons (tVar 4) tNil)))))
    tNext)
    (tRet (tTup (tCons (tVar 2) (tCons (tVar 3) tNil))))))))))))))
abbrev n_law_do : List Str := ["roots", "cells", "deed", "kind", "led", "slot"]
def t_law_do (K : PySem.W.Frag) : TS :=
  (tSeq (tAsg (tOp (rIxT K) (tVar 2) (tC (.int 0))) (gName 3))
    (tSeq (tIfS (tTest (tOp rEq (tVar 3) (tC (.str "make"))))
    (tSeq (tDrop (tBM K "list" rAppend (tVar 1) (tCons (tOp rRep (tLst (tCons (tC .non) tNil)) (tOp (rIxT K) (tVar 2) (tC (.int 2)))) tNil)))
    (tAsg (tTup (tCons (tC (.str "at")) (tCons (tOp rSubI (tCB (rLenS K) (tCons (tVar 1) tNil)) (tC (.int 1))) tNil))) (gSub (tVar 0) (tOp (rIxT K) (tVar 2) (tC (.int 1))) rSetL)))
    (tIfS (tTest (tOp rEq (tVar 3) (tC (.str "number"))))
    (tAsg (tTup (tCons (tC (.str "is")) (tCons (tOp (rIxT K) (tVar 2) (tC (.int 2))) tNil))) (gSub (tVar 0) (tOp (rIxT K) (tVar 2) (tC (.int 1))) rSetL))
    (tIfS (tTest (tOp rEq (tVar 3) (tC (.str "clear"))))
    (tAsg (tC .non) (gSub (tVar 0) (tOp (rIxT K) (tVar 2) (tC (.int 1))) rSetL))
    (tIfS (tTest (tOp rEq (tVar 3) (tC (.str "copy"))))
    (tAsg (tOp (rIxL K) (tVar 0) (tOp (rIxT K) (tVar 2) (tC (.int 2)))) (gSub (tVar 0) (tOp (rIxT K) (tVar 2) (tC (.int 1))) rSetL))
    (tIfS (tTest (tOp rEq (tVar 3) (tC (.str "tell"))))
    (tRet (tLst (tCons (tOp (rIxL K) (tVar 0) (tOp (rIxT K) (tVar 2) (tC (.int 1)))) tNil)))
    (tIfS (tTest (tOp rEq (tVar 3) (tC (.str "same"))))
    (tRet (tLst (tCons (tOp (rEqD K) (tOp (rIxL K) (tVar 0) (tOp (rIxT K) (tVar 2) (tC (.int 1)))) (tOp (rIxL K) (tVar 0) (tOp (rIxT K) (tVar 2) (tC (.int 2))))) tNil)))
    (tSeq (tAsg (tOp (rIxL K) (tVar 0) (tOp (rIxT K) (tVar 2) (tOp rAddI (tC (.int 1)) (tCB rInt1 (tCons (tOp rEq (tVar 3) (tC (.str "take"))) tNil))))) (gName 4))
    (tSeq (tIfS (tOr (tTest (tOp rIsN (tVar 4) (tC .non))) (tTest (tOp rNe (tOp (rIxT K) (tVar 4) (tC (.int 0))) (tC (.str "at")))))
    (tRet (tLst (tCons (tTup (tCons (tC (.str "refused")) (tCons (tC (.str "NoCell")) tNil))) tNil)))
    tNext)
    (tSeq (tAsg (tOp (rIxT K) (tVar 2) (tOp rAddI (tC (.int 2)) (tCB rInt1 (tCons (tOp rEq (tVar 3) (tC (.str "take"))) tNil)))) (gName 5))
    (tSeq (tIfS (tTest (tOp rGeI (tVar 5) (tCB (rLenS K) (tCons (tOp (rIxL K) (tVar 1) (tOp (rIxT K) (tVar 4) (tC (.int 1)))) tNil))))
    (tRet (tLst (tCons (tTup (tCons (tC (.str "refused")) (tCons (tC (.str "NoSlot")) tNil))) tNil)))
    tNext)
    (tIfS (tTest (tOp rEq (tVar 3) (tC (.str "put"))))
    (tAsg (tOp (rIxL K) (tVar 0) (tOp (rIxT K) (tVar 2) (tC (.int 3)))) (gSub (tOp (rIxL K) (tVar 1) (tOp (rIxT K) (tVar 4) (tC (.int 1)))) (tVar 5) rSetL))
    (tAsg (tOp (rIxL K) (tOp (rIxL K) (tVar 1) (tOp (rIxT K) (tVar 4) (tC (.int 1)))) (tVar 5)) (gSub (tVar 0) (tOp (rIxT K) (tVar 2) (tC (.int 1))) rSetL)))))))))))))
    (tRet (tLst tNil))))
abbrev n_law_told_like : List Str := ["found", "due", "one", "other"]
def t_law_told_like (K : PySem.W.Frag) : TS :=
  (tSeq (tIfS (tOr (tNot (tB (tCB (rIsi K) (tCons (tVar 0) (tCons (tC (.ty "list")) tNil))))) (tTest (tOp rNe (tCB (rLenS K) (tCons (tVar 0) tNil)) (tCB (rLenS K) (tCons (tVar 1) tNil)))))
    (tRet (tC (.bl false)))
    tNext)
    (tSeq (tFor (iZip K (tCons (tVar 0) (tCons (tVar 1) tNil))) (gTup K 2 (gCons (gName 2) (gCons (gName 3) gNil)))
    (tSeq (tIfS (tOr (tTest (tOp rNe (tCB (rIsi K) (tCons (tVar 2) (tCons (tC (.ty "bool")) tNil))) (tCB (rIsi K) (tCons (tVar 3) (tCons (tC (.ty "bool")) tNil))))) (tTest (tOp rNe (tCB (rIsi K) (tCons (tVar 2) (tCons (tC (.ty "tuple")) tNil))) (tCB (rIsi K) (tCons (tVar 3) (tCons (tC (.ty "tuple")) tNil))))))
    (tRet (tC (.bl false)))
    tNext)
    (tIfS (tAnd (tB (tCB (rIsi K) (tCons (tVar 2) (tCons (tC (.ty "tuple")) tNil)))) (tB (tCB (rIsi K) (tCons (tOp (rIxT K) (tVar 2) (tC (.int 1))) (tCons (tC (.ty "bool")) tNil)))))
    (tRet (tC (.bl false)))
    tNext)))
    (tRet (tOp (rEqD K) (tVar 0) (tVar 1)))))
abbrev n_law_done : List Str := ["yard", "roots", "cells", "deed", "found"]
def t_law_done (K : PySem.W.Frag) : TS :=
  (tSeq (tAsg (tCall (sp_told_by K) [] E0 (tCons (tVar 0) (tCons (tVar 3) tNil))) (gName 4))
    (tSeq (tIfS (tTest (tOp (rEqD K) (tVar 4) (tLst (tCons (tTup (tCons (tC (.str "refused")) (tCons (tC (.str "Full")) tNil))) tNil))))
    (tRet (tOp rEq (tOp (rIxT K) (tVar 3) (tC (.int 0))) (tC (.str "make"))))
    tNext)
    (tRet (tCall (sp_law_told_like K) [] E0 (tCons (tVar 4) (tCons (tCall (sp_law_do K) [] E0 (tCons (tVar 1) (tCons (tVar 2) (tCons (tVar 3) tNil)))) tNil))))))
abbrev n_law_count : List Str := ["roots", "cells", "gone", "name", "found", "other"]
def t_law_count (K : PySem.W.Frag) : TS :=
  (tSeq (tAsg (tBM K "list" (rCntD K) (tVar 0) (tCons (tTup (tCons (tC (.str "at")) (tCons (tVar 3) tNil))) tNil)) (gName 4))
    (tSeq (tFor (iRng1 (tCons (tCB (rLenS K) (tCons (tVar 1) tNil)) tNil)) (gName 5)
    (tIfS (tTest (tOp (rIn K true) (tVar 5) (tVar 2)))
    (tAsg (tOp rAddI (tVar 4) (tBM K "list" (rCntD K) (tOp (rIxL K) (tVar 1) (tVar 5)) (tCons (tTup (tCons (tC (.str "at")) (tCons (tVar 3) tNil))) tNil))) (gName 4))
    tNext))
    (tRet (tVar 4))))
abbrev n_law_name : List Str := ["value"]
def t_law_name (K : PySem.W.Frag) : TS :=
  (tSeq (tIfS (tAnd (tTest (tOp rNotN (tVar 0) (tC .non))) (tTest (tOp rEq (tOp (rIxT K) (tVar 0) (tC (.int 0))) (tC (.str "at")))))
    (tRet (tOp (rIxT K) (tVar 0) (tC (.int 1))))
    tNext)
    (tRet (tUn (rU fun i => .int (-i)) (tC (.int 1)))))
abbrev n_law_going : List Str := ["roots", "cells", "gone", "value", "less", "waiting", "went", "here", "name"]
def t_law_going (K : PySem.W.Frag) : TS :=
  (tSeq (tAsg tDNewK (gName 4))
    (tSeq (tAsg (tLst (tCons (tVar 3) tNil)) (gName 5))
    (tSeq (tAsg (tLst tNil) (gName 6))
    (tSeq (tWhile (tTest (tOp rGtI (tCB (rLenS K) (tCons (tVar 5) tNil)) (tC (.int 0))))
    (tSeq (tAsg (tBM K "list" rPopAt (tVar 5) (tCons (tC (.int 0)) tNil)) (gName 7))
    (tIfS (tAnd (tTest (tOp rNotN (tVar 7) (tC .non))) (tAnd (tTest (tOp rEq (tOp (rIxT K) (tVar 7) (tC (.int 0))) (tC (.str "at")))) (tTest (tOp (rIn K true) (tOp (rIxT K) (tVar 7) (tC (.int 1))) (tOp rCat (tVar 2) (tVar 6))))))
    (tSeq (tAsg (tOp (rIxT K) (tVar 7) (tC (.int 1))) (gName 8))
    (tSeq (tIfS (tB (tDNotIn (tVar 8) (tVar 4)))
    (sDPut (tVar 4) (tVar 8) (tOp rAddI (tCall (sp_law_count K) [] E0 (tCons (tVar 0) (tCons (tVar 1) (tCons (tVar 2) (tCons (tVar 8) tNil))))) (tCB rInt1 (tCons (tOp rEq (tVar 8) (tCall (sp_law_name K) [] E0 (tCons (tVar 3) tNil))) tNil))))
    tNext)
    (tSeq (sDPut (tVar 4) (tVar 8) (tOp rSubI (tDGet (tVar 4) (tVar 8)) (tC (.int 1))))
    (tIfS (tTest (tOp rEq (tDGet (tVar 4) (tVar 8)) (tC (.int 0))))
    (tSeq (tDrop (tBM K "list" rAppend (tVar 6) (tCons (tVar 8) tNil)))
    (tAsg (tOp rCat (tVar 5) (tOp (rIxL K) (tVar 1) (tVar 8))) (gName 5)))
    tNext))))
    tNext)))
    (tRet (tVar 6))))))
abbrev n_law_former : List Str := ["roots", "cells", "deed", "slots"]
def t_law_former (K : PySem.W.Frag) : TS :=
  (tSeq (tIfS (tAnd (tTest (tOp rEq (tOp (rIxT K) (tVar 2) (tC (.int 0))) (tC (.str "put")))) (tAnd (tTest (tOp rNotN (tOp (rIxL K) (tVar 0) (tOp (rIxT K) (tVar 2) (tC (.int 1)))) (tC .non))) (tTest (tOp rEq (tOp (rIxT K) (tOp (rIxL K) (tVar 0) (tOp (rIxT K) (tVar 2) (tC (.int 1)))) (tC (.int 0))) (tC (.str "at"))))))
    (tSeq (tAsg (tOp (rIxL K) (tVar 1) (tOp (rIxT K) (tOp (rIxL K) (tVar 0) (tOp (rIxT K) (tVar 2) (tC (.int 1)))) (tC (.int 1)))) (gName 3))
    (tSeq (tIfS (tTest (tOp rLtI (tOp (rIxT K) (tVar 2) (tC (.int 2))) (tCB (rLenS K) (tCons (tVar 3) tNil))))
    (tRet (tOp (rIxL K) (tVar 3) (tOp (rIxT K) (tVar 2) (tC (.int 2)))))
    tNext)
    (tRet (tC .non))))
    tNext)
    (tSeq (tIfS (tTest (tOp (rIn K false) (tOp (rIxT K) (tVar 2) (tC (.int 0))) (tLst (tCons (tC (.str "make")) (tCons (tC (.str "number")) (tCons (tC (.str "clear")) (tCons (tC (.str "copy")) (tCons (tC (.str "take")) tNil))))))))
    (tRet (tOp (rIxL K) (tVar 0) (tOp (rIxT K) (tVar 2) (tC (.int 1)))))
    tNext)
    (tRet (tC .non))))
abbrev n_law : List Str := ["script", "yard", "roots", "cells", "gone", "k", "deed", "former", "paper", "ahead", "kept", "went", "due", "name", "slots", "many"]
def t_law (K : PySem.W.Frag) : TS :=
  (tSeq (tAsg (tMake (aC K) (sp_cinit K) [] E0 (tCons (tC (.int 60)) tNil)) (gName 1))
    (tSeq (tAsg (tOp rRep (tLst (tCons (tC .non) tNil)) (tC (.int 8))) (gName 2))
    (tSeq (tAsg (tLst tNil) (gName 3))
    (tSeq (tAsg (tLst tNil) (gName 4))
    (tSeq (tFor (iRng1 (tCons (tOp rModI (tCall (sp_law_cell_at K) [] E0 (tCons (tVar 0) (tCons (tC (.int 0)) tNil))) (tC (.int 31))) tNil)) (gName 5)
    (tSeq (tAsg (tCall (sp_law_deed K) [] E0 (tCons (tCall (sp_law_cell_at K) [] E0 (tCons (tVar 0) (tCons (tOp rAddI (tC (.int 1)) (tVar 5)) tNil))) tNil)) (gName 6))
    (tSeq (tAsg (tCall (sp_law_former K) [] E0 (tCons (tVar 2) (tCons (tVar 3) (tCons (tVar 6) tNil)))) (gName 7))
    (tSeq (tAsg (tMeth (aC K) "paper" (sp_paper K) [] E0 (tVar 1) tNil) (gName 8))
    (tSeq (tAsg (tLc (iList K (tVar 3)) (gName 14) tYes (tCB (rListS K) (tCons (tVar 14) tNil)) [14]) (gName 9))
    (tSeq (tAsg (tCB (rListS K) (tCons (tVar 2) tNil)) (gName 10))
    (tSeq (tIfS (tNot (tB (tCall (sp_law_done K) [] E0 (tCons (tVar 1) (tCons (tVar 2) (tCons (tVar 3) (tCons (tVar 6) tNil)))))))
    (tRet (tC (.bl false)))
    tNext)
    (tSeq (tAsg (tLst tNil) (gName 11))
    (tSeq (tIfS (tOr (tTest (tOp (rNeD K) (tVar 10) (tVar 2))) (tTest (tOp (rNeD K) (tVar 9) (tSl (rSlL K) (tVar 3) tNoPart (tPart (tCB (rLenS K) (tCons (tVar 9) tNil)))))))
    (tAsg (tCall (sp_law_going K) [] E0 (tCons (tVar 2) (tCons (tVar 3) (tCons (tVar 4) (tCons (tVar 7) tNil))))) (gName 11))
    tNext)
    (tSeq (tIfS (tTest (tOp (rNePap K) (tMeth (aC K) "paper" (sp_paper K) [] E0 (tVar 1) tNil) (tVar 8)))
    (tRet (tOp (rEqD K) (tSl (rSlL K) (tMeth (aC K) "swept" (sp_swept K) [] E0 (tVar 1) tNil) tNoPart (tPart (tCB (rLenS K) (tCons (tVar 4) tNil)))) (tVar 4)))
    tNext)
    (tSeq (tAsg (tOp rCat (tVar 4) (tVar 11)) (gName 4))
    (tIfS (tTest (tOp (rNeD K) (tMeth (aC K) "swept" (sp_swept K) [] E0 (tVar 1) tNil) (tVar 4)))
    (tRet (tC (.bl false)))
    tNext))))))))))))
    (tSeq (tAsg (tLc (iRng1 (tCons (tCB (rLenS K) (tCons (tVar 3) tNil)) tNil)) (gName 13) (tTest (tOp (rIn K true) (tVar 13) (tVar 4))) (tVar 13) [13]) (gName 12))
    (tRet (tAndV (tOp (rEqD K) (tMeth (aC K) "names" (sp_names K) [] E0 (tVar 1) tNil) (tVar 12)) (tOp (rEqD K) (tLc (iList K (tMeth (aC K) "counts" (sp_counts K) [] E0 (tVar 1) tNil)) (gTup K 2 (gCons (gName 13) (gCons (gName 15) gNil))) tYes (tVar 13) [13, 15]) (tVar 12))))))))))
end Gy

set_option Elab.async false
set_option linter.all false
set_option maxRecDepth 100000
set_option maxHeartbeats 1000000
/-! Part 7: stretches. -/
namespace Gy
open PySem PySem.Spec PyProof.Rows L2
open Evl (Ex Ev EvL EvU EvT EvA EvO rLenS rListS rMax2)
theorem p_first_fit {K : PySem.W.Frag} (N : Tk K) (vs : List V) (H : Hp) (Q : VK) (E : XK) (h : sp_first_fit K vs H Q E) : t_first_fit K { nx := fun _ H' => Q .non H', rt := Q } (start n_first_fit vs) H := by
  obtain ⟨lf, fs, m, rfl, ⟨xs, hx, hr⟩, k⟩ := h
  refine Evl.q_forLn (Evl.ev_var rfl) (Evl.sq_of hx) (fun i σ' H' => ∃ v, σ' = [some (.ref lf), some (.int (m : Int)), v] ∧ Ex H H' ∧ firstFit fs m = firstFit (fs.drop i) m) (fun H1 e => ⟨none, rfl, e, rfl⟩) (fun i σ' H' _ ⟨_, _, e, _⟩ => Evl.ex_l e (Evl.sq_of hx)) ?_ ?_
  · rintro i x σ' H' hi ⟨v, rfl, e, hf⟩
    obtain ⟨s, hs, rs⟩ := pr_get hr hi
    have rs' := rs.mono (ex_tk e)
    rw [drop_get hs] at hf
    refine Evl.s_if (et_ge (ev_s1 rs' (Evl.ev_var rfl)) (Evl.ev_var rfl)) (fun hb H1 e1 => ?_) (fun hb H1 e1 => ?_)
    · refine Evl.s_ret (ev_s0 (rs'.mono (ex_tk e1)) (Evl.ev_var rfl)) fun H2 e2 => ?_
      have hb' : m ≤ s.2 := by have := of_decide_eq_true hb; omega
      have z := k H2 ((e.trans e1).trans e2)
      rw [hf] at z
      unfold firstFit at z
      rw [if_pos hb'] at z
      exact z
    · have hb' : ¬ m ≤ s.2 := by have := of_decide_eq_false hb; omega
      refine ⟨some x, rfl, e.trans e1, ?_⟩
      rw [hf]
      show (if m ≤ s.2 then some s.1 else firstFit (fs.drop (i + 1)) m) = _
      rw [if_neg hb']
  · rintro σ' H' ⟨v, rfl, e, hf⟩
    refine Evl.s_ret Evl.ev_c fun H1 e1 => ?_
    have z := k H1 (e.trans e1)
    rw [hf, List.drop_of_length_le (by rw [pr_len hr]; exact Nat.le_refl _)] at z
    exact z
theorem p_covering {K : PySem.W.Frag} (N : Tk K) (vs : List V) (H : Hp) (Q : VK) (E : XK) (h : sp_covering K vs H Q E) : t_covering K { nx := fun _ H' => Q .non H', rt := Q } (start n_covering vs) H := by
  obtain ⟨lf, fs, f, m, kk, s, rfl, ⟨xs, hx, hr⟩, hz, hk, hc, hno, k⟩ := h
  have hlen := pr_len hr
  have hkl := (List.getElem?_eq_some_iff.mp hk).1
  refine Evl.q_forR1 (n := (xs.length : Int)) (ea1 (Evl.ev_len (Evl.ev_var rfl) (Evl.sq_of hx))) ⟨by omega, by omega⟩ (fun i σ' H' => ∃ v, σ' = [some (.ref lf), some (.int (f : Int)), some (.int (m : Int)), v] ∧ Ex H H' ∧ i ≤ kk) (fun H1 e => ⟨none, rfl, e, Nat.zero_le _⟩) ?_ ?_
  · rintro i σ' H' hi ⟨v, rfl, e, hik⟩
    have hi' : i < fs.length := by omega
    obtain ⟨y, hy, ry⟩ := pr_getR hr (List.getElem?_eq_getElem hi')
    have ry' := ry.mono (ex_tk e)
    have hx' := e _ _ hx
    have tc : (decide (((fs[i]'hi').1 : Int) ≤ (f : Int)) && decide ((f : Int) + (m : Int) ≤ ((fs[i]'hi').1 : Int) + ((fs[i]'hi').2 : Int))) = covers f m (fs[i]'hi') := by
      unfold covers
      congr 1
      · by_cases q : (fs[i]'hi').1 ≤ f
        · rw [decide_eq_true q]; exact decide_eq_true (by omega)
        · rw [decide_eq_false q]; exact decide_eq_false (by omega)
      · by_cases q : f + m ≤ (fs[i]'hi').1 + (fs[i]'hi').2
        · rw [decide_eq_true q]; exact decide_eq_true (by omega)
        · rw [decide_eq_false q]; exact decide_eq_false (by omega)
    have item : ∀ {ta tb : TE} {σ : L2.St}, Ev ta σ H' (.ref lf) → Ev tb σ H' (.int (i : Int)) → Ev (tOp (rIxL K) ta tb) σ H' y := fun ha hb => ev_lix ha hb hx' hy
    refine Evl.s_if (Evl.et_is (Evl.et_and (et_le (ev_s0 ry' (item (Evl.ev_var rfl) (Evl.ev_var rfl))) (Evl.ev_var rfl)) fun _ => et_le (ev_add (Evl.ev_var rfl) (Evl.ev_var rfl)) (ev_add (ev_s0 ry' (item (Evl.ev_var rfl) (Evl.ev_var rfl))) (ev_s1 ry' (item (Evl.ev_var rfl) (Evl.ev_var rfl))))) tc) (fun hb H1 e1 => ?_) (fun hb H1 e1 => ?_)
    · have hik2 : i = kk := by
        rcases Nat.lt_or_eq_of_le hik with q | q
        · have := hno i _ q (List.getElem?_eq_getElem hi')
          rw [hb] at this; cases this
        · exact q
      subst hik2
      exact Evl.s_ret (Evl.ev_var rfl) fun H2 e2 => k H2 ((e.trans e1).trans e2)
    · refine ⟨_, rfl, e.trans e1, ?_⟩
      rcases Nat.lt_or_eq_of_le hik with q | q
      · exact q
      · subst q
        have : (fs[i]'hi') = s := by rw [List.getElem?_eq_getElem hi'] at hk; exact Option.some.inj hk
        rw [this, hc] at hb; cases hb
  · rintro σ' H' ⟨v, rfl, e, hik⟩
    exfalso
    simp only [Int.toNat_natCast] at hik
    omega
theorem fm_filter {α : Type} (p : α → Bool) : ∀ l : List α, l.filterMap (fun a => if p a = true then some a else none) = l.filter p
  | [] => rfl
  | a :: l => by
    rw [List.filterMap_cons, List.filter_cons, fm_filter p l]
    cases p a <;> rfl
theorem gd_some {α : Type} {p : Bool} {a : α} : (if p = true then some a else none).isSome = p := by cases p <;> rfl
/-- [s for s in xs if p(s)] of stretches -/
theorem e_lcS {K : PySem.W.Frag} {σ : L2.St} {H : Hp} {tl : TE} {t : TT} {j : Nat} {xs : List V} {fs : List (Nat × Nat)} (p : Nat × Nat → Bool) (hx : StRs H xs fs) (hl : EvP tl σ H (fun v H' => ∃ a, v = .ref a ∧ SqL K H' a xs)) (hz : xs.length ≤ 40000) (hj : j < σ.length)
    (ht : ∀ x s H1, Ex H H1 → StR H1 x s → EvT t ((wipe σ [j]).set j (some x)) H1 (p s)) : EvP (tLc (iList K tl) (gName j) t (tVar j) [j]) σ H (NewP H fun ys H' => StRs H' ys (fs.filter p)) := by
  refine (e_lcM (fun H => StR H) (fun _ H => StR H) (fun a => if p a = true then some a else none) (fun H1 e => hx.mono (ex_tk e)) hl hz (fun D acc H1 H2 x b e k q => q.mono (k.tk e)) (fun D i x a acc H1 hi ha e hD hacc ra => ?_)).imp ?_
  · refine ⟨_, g_nm, ?_, ?_, fun b hb => ?_⟩
    · show ((σ.set j none).set j (some x)).set j none = σ.set j none
      rw [List.set_set, List.set_set]
    · rw [gd_some]; exact ht x a H1 e ra
    · have eb : a = b := by cases q : p a <;> rw [q] at hb <;> simp at hb; exact hb
      subst eb
      refine evp_var ?_ fun H2 e2 => ra.mono (ex_tk e2)
      show ((σ.set j none).set j (some x))[j]? = some (some x)
      rw [List.getElem?_set, if_pos rfl, List.length_set, if_pos hj]
  · rintro v H1 e ⟨D, ys, rfl, hD, hys, r⟩
    rw [fm_filter] at r
    exact ⟨D, ys, rfl, hD, hys, r⟩
theorem evp_new {te : TE} {σ : L2.St} {H : Hp} {P : PL} (h : EvP te σ H (NewP H P)) : EvP te σ H (LstP P) := h.imp fun _ _ _ q => q.lst
theorem p_without {K : PySem.W.Frag} (N : Tk K) (vs : List V) (H : Hp) (Q : VK) (E : XK) (h : sp_without K vs H Q E) : t_without K { nx := fun _ H' => Q .non H', rt := Q } (start n_without vs) H := by
  obtain ⟨lf, fs, f, m, kk, s, rfl, hf, hz, hk, hc, hno, k⟩ := h
  have hfree := hf
  obtain ⟨xs, hx, hr⟩ := hf
  have hlen := pr_len hr
  have hkl := (List.getElem?_eq_some_iff.mp hk).1
  obtain ⟨y, hy, ry⟩ := pr_getR hr hk
  have hc' : s.1 ≤ f ∧ f + m ≤ s.1 + s.2 := by
    unfold covers at hc
    rw [Bool.and_eq_true, decide_eq_true_eq, decide_eq_true_eq] at hc
    exact hc
  refine q_asgP (P := fun v _ => v = .int (kk : Int)) (evp_call (ea3 (Evl.ev_var rfl) (Evl.ev_var rfl) (Evl.ev_var rfl)) fun H1 e Q' q => ⟨lf, fs, f, m, kk, s, rfl, ⟨xs, e _ _ hx, hr.mono (ex_tk e)⟩, hz, hk, hc, hno, fun H2 e2 => q _ H2 e2 rfl⟩) ?_
  rintro _ H1 e1 rfl
  have hx1 := e1 _ _ hx
  have ry1 := ry.mono (ex_tk e1)
  refine q_unp2 (x := .int (s.1 : Int)) (y := .int (s.2 : Int)) (evp_ev (ev_lix (Evl.ev_var rfl) (Evl.ev_var rfl) hx1 hy) fun H2 e2 => st_sq (ry1.mono (ex_tk e2))) fun H2 e2 => ?_
  refine q_asgP (P := NewP H2 fun zs H' => StRs H' zs [(s.1, f - s.1), (f + m, s.1 + s.2 - f - m)]) ((evp_lst (eap_cons (evp_st (s := (s.1, f - s.1)) (Evl.ev_var rfl) (ev_sub (Evl.ev_var rfl) (Evl.ev_var rfl)) rfl (by show (f : Int) - (s.1 : Int) = ((f - s.1 : Nat) : Int); omega)) (fun x A B e q => q.mono (ex_tk e)) (eap_cons (evp_st (s := (f + m, s.1 + s.2 - f - m)) (ev_add (Evl.ev_var rfl) (Evl.ev_var rfl)) (ev_sub (ev_sub (ev_add (Evl.ev_var rfl) (Evl.ev_var rfl)) (Evl.ev_var rfl)) (Evl.ev_var rfl)) (by show (f : Int) + (m : Int) = ((f + m : Nat) : Int); omega) (by show (s.1 : Int) + (s.2 : Int) - (f : Int) - (m : Int) = ((s.1 + s.2 - f - m : Nat) : Int); omega)) (fun x A B e q => q.mono (ex_tk e)) eap_nil)) (fun zs A B e ⟨x, r, h1, h2, x2, r2, h3, h4, h5⟩ => ⟨x, r, h1, h2.mono (ex_tk e), x2, r2, h3, h4.mono (ex_tk e), h5⟩) (fun zs A ⟨x, r, h1, h2, x2, r2, h3, h4, h5⟩ => by rw [h1, h3, h5]; show 2 ≤ sizeLine; decide)).imp ?_) ?_
  · rintro v A e ⟨p, zs, e1, hp, hl, x, r, h1, h2, x2, r2, h3, h4, h5⟩
    subst h5 h3 h1
    exact ⟨p, _, e1, hp, hl, .cons h2 (.cons h4 .nil)⟩
  rintro _ H3 e3 ⟨p, zs, rfl, hp, hl, hzs⟩
  have hx3 : H3 lf = some (.lst xs) := e3 _ _ (e2 _ _ hx1)
  have hr3 : StRs H3 xs fs := hr.mono (ex_tk ((e1.trans e2).trans e3))
  have c1 := Evl.el_sl (K := K) (te := tVar 0) (σ := [some (.ref lf), some (.int (f : Int)), some (.int (m : Int)), some (.int (kk : Int)), some (.int (s.1 : Int)), some (.int (s.2 : Int)), some (.ref p), none]) (H := H3) (Evl.ev_var rfl) Evl.eo_none (Evl.eo_some (te := tVar 3) (Evl.ev_var rfl)) (Evl.sq_of hx3)
  rw [cut_to] at c1
  have c2 := Evl.el_sl (K := K) (te := tVar 0) (σ := [some (.ref lf), some (.int (f : Int)), some (.int (m : Int)), some (.int (kk : Int)), some (.int (s.1 : Int)), some (.int (s.2 : Int)), some (.ref p), none]) (H := H3) (Evl.ev_var rfl) (Evl.eo_some (ev_int (ev_add (ta := tVar 3) (tb := tC (.int 1)) (Evl.ev_var rfl) Evl.ev_c) (show (kk : Int) + 1 = ((kk + 1 : Nat) : Int) by omega))) Evl.eo_none (Evl.sq_of hx3)
  rw [cut_from] at c2
  have lc := e_lcS (K := K) (tl := tVar 6) (j := 7) (t := tTest (tOp rGtI (tOp (rIxT K) (tVar 7) (tC (.int 1))) (tC (.int 0)))) (σ := [some (.ref lf), some (.int (f : Int)), some (.int (m : Int)), some (.int (kk : Int)), some (.int (s.1 : Int)), some (.int (s.2 : Int)), some (.ref p), none]) (fun q => decide (0 < q.2)) hzs (evp_ev (Evl.ev_var rfl) fun H4 e4 => ⟨p, rfl, Evl.sq_of (e4 _ _ hl)⟩) (by rw [pr_len hzs]; show 2 ≤ 40000; decide) (by show 7 < 8; decide) (fun x q H4 e4 rq => Evl.et_is (et_gt (ev_s1 rq (Evl.ev_var rfl)) Evl.ev_c) (decide_eq_decide.mpr (by omega)))
  have l1 : ∀ zs A, StRs A zs (fs.take kk) → zs.length ≤ 1000 := fun zs A q => by rw [pr_len q, List.length_take]; omega
  have l2 : ∀ zs A, StRs A zs (fs.drop (kk + 1)) → zs.length ≤ 1000 := fun zs A q => by rw [pr_len q, List.length_drop]; omega
  have l3 : ∀ zs A, StRs A zs (([(s.1, f - s.1), (f + m, s.1 + s.2 - f - m)] : List (Nat × Nat)).filter fun q => decide (0 < q.2)) → zs.length ≤ 2 := fun zs A q => by rw [pr_len q]; exact List.length_filter_le ..
  refine s_retP (evp_cat (Pb := fun zs H' => StRs H' zs (fs.drop (kk + 1))) (evp_new (evp_cat (evp_new (evp_el (P := fun zs H' => StRs H' zs (fs.take kk)) c1 fun H4 e4 => pr_take kk (hr3.mono (ex_tk e4)))) (evp_new lc) (mono_st _) (mono_st _) fun a b A q1 q2 => by have := l1 _ _ q1; have := l3 _ _ q2; rw [sizeLine_eq]; omega)) (evp_new (evp_el c2 fun H4 e4 => pr_drop (kk + 1) (hr3.mono (ex_tk e4)))) (fun zs A B e ⟨x, y, h1, h2, h3⟩ => ⟨x, y, h1, h2.mono (ex_tk e), h3.mono (ex_tk e)⟩) (mono_st _) fun a b A ⟨x, y, h1, h2, h3⟩ q2 => by
    have := l1 _ _ h2
    have := l3 _ _ h3
    have := l2 _ _ q2
    rw [h1, List.length_append, sizeLine_eq]; omega) ?_
  rintro _ H4 e4 ⟨n, zs4, rfl, hn, h4, a, b, rfl, ⟨c, d, rfl, r1, r2⟩, r3⟩
  have e14 := ((e1.trans e2).trans e3).trans e4
  refine k H4 n e14 (Evl.fresh_back ((e1.trans e2).trans e3) hn) ⟨_, h4, ?_⟩
  exact pr_app (pr_app r1 r2) r3
theorem p_joined {K : PySem.W.Frag} (N : Tk K) (vs : List V) (H : Hp) (Q : VK) (E : XK) (h : sp_joined K vs H Q E) : t_joined K { nx := fun _ H' => Q .non H', rt := Q } (start n_joined vs) H := by
  obtain ⟨lf, fs, f, m, rfl, ⟨xs, hx, hr⟩, hz, k⟩ := h
  have hlen := pr_len hr
  refine q_asgP (e_lcS (fun s => decide (s.1 + s.2 ≤ f)) hr (evp_ev (Evl.ev_var rfl) fun H4 e4 => ⟨lf, rfl, Evl.sq_of (e4 _ _ hx)⟩) (by omega) (by show 6 < 7; decide) (fun x q H4 e4 rq => Evl.et_is (et_le (ev_add (ev_s0 rq (Evl.ev_var rfl)) (ev_s1 rq (Evl.ev_var rfl))) (Evl.ev_var rfl)) (decide_eq_decide.mpr (by omega)))) ?_
  rintro _ H1 e1 ⟨pa, as, rfl, hpa, hla, ra⟩
  refine q_asgP (e_lcS (fun s => decide (f + m ≤ s.1)) (hr.mono (ex_tk e1)) (evp_ev (Evl.ev_var rfl) fun H4 e4 => ⟨lf, rfl, Evl.sq_of (e4 _ _ (e1 _ _ hx))⟩) (by omega) (by show 6 < 7; decide) (fun x q H4 e4 rq => Evl.et_is (et_ge (ev_s0 rq (Evl.ev_var rfl)) (ev_add (Evl.ev_var rfl) (Evl.ev_var rfl))) (decide_eq_decide.mpr (by omega)))) ?_
  rintro _ H2 e2 ⟨pb, bs, rfl, hpb, hlb, rb⟩
  have hla2 := e2 _ _ hla
  have ra2 := ra.mono (ex_tk e2)
  have nab : pb ≠ pa := fun z => by rw [z, hla] at hpb; cases hpb
  have e12 := e1.trans e2
  have la : (aheadL fs f).length ≤ 1000 := Nat.le_trans (List.length_filter_le ..) hz
  have lb : (behindL fs f m).length ≤ 1000 := Nat.le_trans (List.length_filter_le ..) hz
  -- the last row
  have fin : ∀ (A B : List (Nat × Nat)) (f' m' : Nat) (v5 : Option V) (H3 : Hp) (as bs : List V), joinedL fs f m = A ++ [(f', m')] ++ B → A.length ≤ 1000 → B.length ≤ 1000 → Ex H H3 → H3 pa = some (.lst as) → StRs H3 as A → H3 pb = some (.lst bs) → StRs H3 bs B →
      tRet (tOp rCat (tOp rCat (tVar 3) (tLst (tCons (tTup (tCons (tVar 1) (tCons (tVar 2) tNil))) tNil))) (tVar 4)) { nx := fun _ H' => Q .non H', rt := Q } [some (.ref lf), some (.int (f' : Int)), some (.int (m' : Int)), some (.ref pa), some (.ref pb), v5, none] H3 := by
    intro A B f' m' v5 H3 as bs ej lA lB e3 h1 r1 h2 r2
    refine s_retP (evp_cat (Pb := fun zs H' => StRs H' zs B) (evp_new (evp_cat (Pa := fun zs H' => StRs H' zs A) (Pb := fun zs H' => StRs H' zs [(f', m')]) (evp_var rfl fun H4 e4 => ⟨pa, as, rfl, e4 _ _ h1, r1.mono (ex_tk e4)⟩) (evp_new ((evp_lst (eap_cons (evp_st (s := (f', m')) (Evl.ev_var rfl) (Evl.ev_var rfl) rfl rfl) (fun x A B e q => q.mono (ex_tk e)) eap_nil) (fun zs A B e ⟨x, r, h1, h2, h3⟩ => ⟨x, r, h1, h2.mono (ex_tk e), h3⟩) (fun zs A ⟨x, r, h1, h2, h3⟩ => by rw [h1, h3]; show 1 ≤ sizeLine; decide)).imp ?_)) (mono_st _) (mono_st _) (fun a b Hz q1 q2 => by rw [pr_len q1, pr_len q2, sizeLine_eq]; show A.length + 1 ≤ _; omega))) (evp_var rfl fun H4 e4 => ⟨pb, bs, rfl, e4 _ _ h2, r2.mono (ex_tk e4)⟩) (fun zs A B e ⟨x, y, h1, h2, h3⟩ => ⟨x, y, h1, h2.mono (ex_tk e), h3.mono (ex_tk e)⟩) (mono_st _) fun a b A ⟨x, y, h1, h2, h3⟩ q2 => by
      rw [h1, List.length_append, pr_len h2, pr_len h3, pr_len q2, sizeLine_eq]; show _ + 1 + _ ≤ _; omega) ?_
    · rintro v H4 e4 ⟨p, zs, h1, h2, h3, x, r, h4, h5, h6⟩
      subst h6 h4
      exact ⟨p, _, h1, h2, h3, .cons h5 .nil⟩
    · rintro _ H4 e4 ⟨p, zs4, rfl, hn, h4, a, b, rfl, ⟨c, d, rfl, r1, r2⟩, r3⟩
      refine k H4 p (e3.trans e4) (Evl.fresh_back e3 hn) ⟨_, h4, ?_⟩
      rw [ej]
      exact pr_app (pr_app r1 r2) r3
  -- behind the first if
  have mid : ∀ (A : List (Nat × Nat)) (f' m' : Nat) (v5 : Option V) (H3 : Hp) (as bs : List V), join1 (aheadL fs f) f m = (A, f', m') → A.length ≤ 1000 → Ex H H3 → H3 pa = some (.lst as) → StRs H3 as A → H3 pb = some (.lst bs) → StRs H3 bs (behindL fs f m) →
      tSeq (tIfS (tAnd (tTest (tOp rGtI (tCB (rLenS K) (tCons (tVar 4) tNil)) (tC (.int 0)))) (tTest (tOp rEq (tOp (rIxT K) (tOp (rIxL K) (tVar 4) (tC (.int 0))) (tC (.int 0))) (tOp rAddI (tVar 1) (tVar 2)))))
        (tAsg (tOp rAddI (tVar 2) (tOp (rIxT K) (tBM K "list" rPopAt (tVar 4) (tCons (tC (.int 0)) tNil)) (tC (.int 1)))) (gName 2)) tNext)
        (tRet (tOp rCat (tOp rCat (tVar 3) (tLst (tCons (tTup (tCons (tVar 1) (tCons (tVar 2) tNil))) tNil))) (tVar 4))) { nx := fun _ H' => Q .non H', rt := Q } [some (.ref lf), some (.int (f' : Int)), some (.int (m' : Int)), some (.ref pa), some (.ref pb), v5, none] H3 := by
    intro A f' m' v5 H3 as bs ej lA e3 h1 r1 h2 r2
    have eJ : joinedL fs f m = join2 A f' m' (behindL fs f m) := by unfold joinedL; rw [ej]
    have tlen : EvT (tTest (tOp rGtI (tCB (rLenS K) (tCons (tVar 4) tNil)) (tC (.int 0)))) [some (.ref lf), some (.int (f' : Int)), some (.int (m' : Int)), some (.ref pa), some (.ref pb), v5, none] H3 (decide ((0 : Int) < (bs.length : Int))) := et_gt (Evl.ev_len (Evl.ev_var rfl) (Evl.sq_of h2)) Evl.ev_c
    cases hb : behindL fs f m with
    | nil =>
      rw [hb] at r2 eJ
      have := pr_nil r2
      subst this
      refine Evl.q_when (Evl.et_and (b := false) tlen fun z => by cases z) (fun z => by cases z) fun _ H4 e4 => ?_
      exact fin A [] f' m' v5 H4 as [] (by rw [eJ]; rw [List.append_nil]; rfl) lA (by decide) (e3.trans e4) (e4 _ _ h1) (r1.mono (ex_tk e4)) (e4 _ _ h2) .nil
    | cons b r =>
      rw [hb] at r2 eJ lb
      obtain ⟨y, ys, rfl, ry, rys⟩ := pr_consR r2
      have item : ∀ {ta : TE} {σ : L2.St}, Ev ta σ H3 (.ref pb) → Ev (tOp (rIxL K) ta (tC (.int 0))) σ H3 y := fun ha => Evl.ev_op ha Evl.ev_c (Evl.rv_ixL (Evl.sq_of h2) (show atI (y :: ys) ((0 : Nat) : Int) = some y from atI_nat rfl))
      refine Evl.q_when (Evl.et_is (Evl.et_and tlen fun _ => et_eqI (ev_s0 ry (item (Evl.ev_var rfl))) (ev_add (Evl.ev_var rfl) (Evl.ev_var rfl))) (show _ = decide (b.1 = f' + m') by
        rw [decide_eq_true (show (0 : Int) < ((y :: ys).length : Int) by rw [List.length_cons]; omega), Bool.true_and]
        exact decide_eq_decide.mpr (by omega))) (fun z H4 e4 => ?_) (fun z H4 e4 => ?_)
      · have z := of_decide_eq_true z
        refine ⟨_, rfl, e_popAt0 (Evl.ev_var rfl) (e4 _ _ h2) fun H5 e5 => ?_⟩
        have t5 : TK H5 (upd H5 pb (.lst ys)) := tk_upd fun q w => by rw [e5 _ _ (e4 _ _ h2)] at w; cases w
        have e45 := e4.trans e5
        obtain ⟨t, rfl, ht⟩ := (ry.mono (ex_tk e45)).mono t5
        refine ⟨t, _, 1, .int (b.2 : Int), rfl, rfl, SqT.of ht, rfl, m', b.2, rfl, rfl, ?_⟩
        have e6 : Ex H (upd H5 pb (.lst ys)) := (e3.trans e45).mut (Evl.fresh_back e1 hpb)
        have c6 : ((m' : Int) + (b.2 : Int)) = ((m' + b.2 : Nat) : Int) := by omega
        have g := fin A r f' (m' + b.2) v5 _ as ys (by
          rw [eJ]
          show (if b.1 = f' + m' then A ++ [(f', m' + b.2)] ++ r else _) = _
          rw [if_pos z]) lA (by rw [List.length_cons] at lb; omega) e6 (by rw [upd_ne nab.symm]; exact e45 _ _ h1) ((r1.mono (ex_tk e45)).mono t5) upd_same (StRs.mono t5 (StRs.mono (ex_tk e45) rys))
        rw [← c6] at g
        exact g
      · have z := of_decide_eq_false z
        refine fin A (b :: r) f' m' v5 H4 as _ ?_ lA lb (e3.trans e4) (e4 _ _ h1) (r1.mono (ex_tk e4)) (e4 _ _ h2) (r2.mono (ex_tk e4))
        rw [eJ]
        show (if b.1 = f' + m' then _ else A ++ [(f', m')] ++ b :: r) = _
        rw [if_neg z]
  have tlen : EvT (tTest (tOp rGtI (tCB (rLenS K) (tCons (tVar 3) tNil)) (tC (.int 0)))) [some (.ref lf), some (.int (f : Int)), some (.int (m : Int)), some (.ref pa), some (.ref pb), none, none] H2 (decide ((0 : Int) < (as.length : Int))) := et_gt (Evl.ev_len (Evl.ev_var rfl) (Evl.sq_of hla2)) Evl.ev_c
  have la' : (fs.filter fun s => decide (s.1 + s.2 ≤ f)) = aheadL fs f := rfl
  rw [la'] at ra2
  rcases List.eq_nil_or_concat (aheadL fs f) with hA | ⟨A0, l, hA⟩
  · rw [hA] at ra2
    have := pr_nil ra2
    subst this
    refine Evl.q_when (Evl.et_and (b := false) tlen fun z => by cases z) (fun z => by cases z) fun _ H4 e4 => ?_
    exact mid [] f m none H4 [] bs (by rw [hA]; rfl) (by decide) (e12.trans e4) (e4 _ _ hla2) .nil (e4 _ _ hlb) (rb.mono (ex_tk e4))
  · rw [List.concat_eq_append] at hA
    rw [hA] at ra2 la
    obtain ⟨x, xs0, rfl, rx, rxs⟩ := pr_snocR ra2
    have j1 : join1 (aheadL fs f) f m = if l.1 + l.2 = f then (A0, l.1, m + l.2) else (A0 ++ [l], f, m) := by
      unfold join1
      rw [hA, List.getLast?_concat]
      simp only [List.dropLast_concat]
    have item : ∀ {ta : TE} {σ : L2.St}, Ev ta σ H2 (.ref pa) → Ev (tOp (rIxL K) ta (tUn (rU fun i => .int (-i)) (tC (.int 1)))) σ H2 x := fun ha => Evl.ev_op ha (ev_neg Evl.ev_c) (Evl.rv_ixL (Evl.sq_of hla2) (atI_last _ _))
    refine Evl.q_when (Evl.et_is (Evl.et_and tlen fun _ => et_eqI (ev_add (ev_s0 rx (item (Evl.ev_var rfl))) (ev_s1 rx (item (Evl.ev_var rfl)))) (Evl.ev_var rfl)) (show _ = decide (l.1 + l.2 = f) by
      rw [decide_eq_true (show (0 : Int) < ((xs0 ++ [x]).length : Int) by rw [List.length_append, List.length_singleton]; omega), Bool.true_and]
      exact decide_eq_decide.mpr (by omega))) (fun z H4 e4 => ?_) (fun z H4 e4 => ?_)
    · have z := of_decide_eq_true z
      rw [if_pos z] at j1
      refine e_pop (Evl.ev_var rfl) (e4 _ _ hla2) fun H5 e5 => ?_
      have e45 := e4.trans e5
      have t5 : TK H5 (upd H5 pa (.lst xs0)) := tk_upd fun q w => by rw [e45 _ _ hla2] at w; cases w
      obtain ⟨t, rfl, ht⟩ := (rx.mono (ex_tk e45)).mono t5
      refine ⟨t, _, rfl, SqT.of ht, rfl, _, _, rfl, _, _, rfl, rfl, ?_⟩
      have e6 : Ex H (upd H5 pa (.lst xs0)) := (e12.trans e45).mut hpa
      refine ⟨_, rfl, _, rfl, m, l.2, rfl, rfl, ?_⟩
      have c6 : ((m : Int) + (l.2 : Int)) = ((m + l.2 : Nat) : Int) := by omega
      have g := mid A0 l.1 (m + l.2) (some (.int (l.2 : Int))) _ xs0 bs j1 (by rw [List.length_append] at la; omega) e6 upd_same (StRs.mono t5 (StRs.mono (ex_tk e45) rxs)) (by rw [upd_ne nab]; exact e45 _ _ hlb) ((rb.mono (ex_tk e45)).mono t5)
      rw [← c6] at g
      exact g
    · have z := of_decide_eq_false z
      rw [if_neg z] at j1
      exact mid (A0 ++ [l]) f m none H4 _ bs j1 la (e12.trans e4) (e4 _ _ hla2) (ra2.mono (ex_tk e4)) (e4 _ _ hlb) (rb.mono (ex_tk e4))
end Gy

set_option Elab.async false
set_option linter.all false
set_option maxRecDepth 100000
set_option maxHeartbeats 1000000
/-! Part 8: the yard's small defs. -/
namespace Gy
open PySem PySem.Spec PyProof.Rows L2
open Evl (Ex Ev EvL EvU EvT EvA EvO rLenS rListS rMax2)
section
variable {K : PySem.W.Frag} {σ : L2.St} {H H' : Hp} {Y : YA} {s : YS} {i : Nat} {te ta tb : TE} {P : V → Hp → Prop} {tz : TS} {D : Ends}
theorem toldW_non {words : List Wd} {w : Wd} (h : isPtr w = false) : toldW words w = w := by cases w <;> first | rfl | cases h
/-- a new pair (tag, n) -/
theorem evp_at {a : Nat} (ha : Ev ta σ H (.int (a : Int))) : EvP (tTup (tCons (tC (.str "at")) (tCons ta tNil))) σ H (fun v H' => WR H' v (.ptr a)) := fun H1 e Q q =>
  (Evl.eu_tup (ea2 Evl.ev_c ha) (by show 2 ≤ 100000; decide)) H1 e Q fun p H2 hp e2' h2 => q _ H2 e2' ⟨p, rfl, h2⟩
theorem evp_is {a : Int} (ha : Ev ta σ H (.int a)) : EvP (tTup (tCons (tC (.str "is")) (tCons ta tNil))) σ H (fun v H' => WR H' v (.num a)) := fun H1 e Q q =>
  (Evl.eu_tup (ea2 Evl.ev_c ha) (by show 2 ≤ 100000; decide)) H1 e Q fun p H2 hp e2' h2 => q _ H2 e2' ⟨p, rfl, h2⟩
theorem evp_hd {n z : Nat} (ha : Ev ta σ H (.int (n : Int))) (hb : Ev tb σ H (.int (z : Int))) : EvP (tTup (tCons (tC (.str "head")) (tCons ta (tCons tb tNil)))) σ H (fun v H' => WR H' v (.head n z)) := fun H1 e Q q =>
  (Evl.eu_tup (ea3 Evl.ev_c ha hb) (by show 3 ≤ 100000; decide)) H1 e Q fun p H2 hp e2' h2 => q _ H2 e2' ⟨p, rfl, h2⟩
end
theorem p_told {K : PySem.W.Frag} (N : Tk K) (vs : List V) (H : Hp) (Q : VK) (E : XK) (h : sp_told K vs H Q E) : t_told K { nx := fun _ H' => Q .non H', rt := Q } (start n_told vs) H := by
  obtain ⟨Y, s, v, w, rfl, hy, hw, hp, k⟩ := h
  refine Evl.q_when (et_at hw (Evl.ev_var rfl)) (fun hb H1 e1 => ?_) (fun hb H1 e1 => ?_)
  · cases w with
    | ptr a =>
      obtain ⟨n, z, ha⟩ := hp a rfl
      have hw1 := hw.mono (ex_tk e1)
      obtain ⟨x, hx, ex⟩ := (hy.ex e1).eword (i := 0) (ta := tOp (rIxT K) (tVar 1) (tC (.int 1))) (σ := start n_told [.ref Y.p, v]) N rfl (ev_ptr hw1 (Evl.ev_var rfl)) ha
      refine s_retP (evp_at (ev_name hx ex)) fun y H2 e2 hy2 => k y H2 (e1.trans e2) ?_
      show WR H2 y (match s.words[a]? with | some (.head n _) => .ptr n | _ => .ptr a)
      rw [ha]; exact hy2
    | _ => cases hb
  · exact Evl.s_ret (Evl.ev_var rfl) fun H2 e2 => k _ H2 (e1.trans e2) (by rw [toldW_non hb]; exact hw.mono (ex_tk (e1.trans e2)))
theorem p_write_root {K : PySem.W.Frag} (N : Tk K) (vs : List V) (H : Hp) (Q : VK) (E : XK) (h : sp_write_root K vs H Q E) : t_write_root K { nx := fun _ H' => Q .non H', rt := Q } (start n_write_root vs) H := by
  obtain ⟨Y, s, kk, v, w, rfl, hy, hk, hw, k⟩ := h
  obtain ⟨rs, hr, r⟩ := hy.rt
  refine Evl.s_setL hr (Evl.ev_var rfl) (hy.eroots N rfl) (Evl.ev_var rfl) (by rw [pr_len r]; exact hk) fun H1 e1 => ?_
  have hy1 := hy.ex e1
  exact k _ ⟨hy1.setR (pr_set (hw.mono (ex_tk e1)) kk (WRs.mono (ex_tk e1) r)), (Keep.ex e1).trans (Keep.upd own_lr), (ex_tk e1).trans (hy1.tk (Keep.upd own_lr))⟩
theorem p_write_slot {K : PySem.W.Frag} (N : Tk K) (vs : List V) (H : Hp) (Q : VK) (E : XK) (h : sp_write_slot K vs H Q E) : t_write_slot K { nx := fun _ H' => Q .non H', rt := Q } (start n_write_slot vs) H := by
  obtain ⟨Y, s, a, i, v, w, rfl, hy, hk, hw, k⟩ := h
  obtain ⟨rs, hr, r⟩ := hy.wd
  refine Evl.s_setL (j := a + 1 + i) hr (Evl.ev_var rfl) (hy.ewords N rfl) (ev_int (ev_add (ev_add (Evl.ev_var rfl) Evl.ev_c) (Evl.ev_var rfl)) (by omega)) (by rw [pr_len r]; exact hk) fun H1 e1 => ?_
  have hy1 := hy.ex e1
  exact k _ ⟨hy1.setW (pr_set (hw.mono (ex_tk e1)) (a + 1 + i) (WRs.mono (ex_tk e1) r)), (Keep.ex e1).trans (Keep.upd own_lw), (ex_tk e1).trans (hy1.tk (Keep.upd own_lw))⟩
theorem p_release {K : PySem.W.Frag} (N : Tk K) (vs : List V) (H : Hp) (Q : VK) (E : XK) (h : sp_release K vs H Q E) : t_release K { nx := fun _ H' => Q .non H', rt := Q } (start n_release vs) H := by
  obtain ⟨Y, s, a, n, z, rfl, hy, hw, hlt, hz, hg, k⟩ := h
  obtain ⟨x, hx, ex⟩ := hy.eword (i := 0) N rfl (Evl.ev_var (i := 1) (σ := start n_release [.ref Y.p, .int (a : Int)]) rfl) hw
  refine Evl.q_asg ex fun H1 e1 => ?_
  have hx1 := hx.mono (ex_tk e1)
  refine Evl.q_forR2 (lo := (a : Int)) (n := ((a + z + 1 : Nat) : Int)) (ea2 (Evl.ev_var rfl) (ev_int (ev_add (ev_add (Evl.ev_var rfl) (ev_size hx1 (Evl.ev_var rfl))) Evl.ev_c) (by omega))) ⟨by omega, by omega, by omega, by omega⟩
    (fun i σ' H' => ∃ v, σ' = [some (.ref Y.p), some (.int (a : Int)), some x, v] ∧ Yd K Y H H' { s with words := wipeW s.words a i }) (fun H2 e2 => ⟨none, rfl, (Yd.refl hy).ex (e1.trans e2)⟩) ?_ ?_
  · rintro i σ' H2 hi ⟨v, rfl, y2⟩
    obtain ⟨ws, hws, rw2⟩ := y2.at_.wd
    refine Evl.s_setL (j := a + i) (v := .non) hws Evl.ev_c (y2.at_.ewords N rfl) (ev_int (Evl.ev_var rfl) (by omega)) (by rw [pr_len rw2]; show a + i < (wipeW s.words a i).length; rw [wipeW_len]; omega) fun H3 e3 => ?_
    have y3 := y2.at_.ex e3
    exact ⟨_, rfl, y2.go ⟨y3.setW (w' := wipeW s.words a (i + 1)) (pr_set (show WR H3 .non .non from rfl) (a + i) (WRs.mono (ex_tk e3) rw2)), (Keep.ex e3).trans (Keep.upd own_lw), (ex_tk e3).trans (y3.tk (Keep.upd own_lw))⟩⟩
  · rintro σ' H2 ⟨v, rfl, y2⟩
    have en : (((a + z + 1 : Nat) : Int) - (a : Int)).toNat = z + 1 := by omega
    rw [en] at y2
    have hx2 := hx.mono y2.tk
    refine e_app (y2.at_.egone N rfl) y2.at_.gn (evp_of (ev_name hx2 (Evl.ev_var rfl))) (by rw [nsV_len]; show s.gone.length < 100000; omega) fun v3 H3 e3 hv => ?_
    subst hv
    have y3 := y2.at_.ex e3
    refine k _ (y2.go ⟨?_, (Keep.ex e3).trans (Keep.upd own_lg), (ex_tk e3).trans (y3.tk (Keep.upd own_lg))⟩)
    have := y3.setG (g' := s.gone ++ [n])
    rw [nsV_app] at this
    exact this
theorem p_ask_root {K : PySem.W.Frag} (N : Tk K) (vs : List V) (H : Hp) (Q : VK) (E : XK) (h : sp_ask_root K vs H Q E) : t_ask_root K { nx := fun _ H' => Q .non H', rt := Q } (start n_ask_root vs) H := by
  obtain ⟨v, kk, rfl, hk, k⟩ := h
  refine Evl.s_when (b := false) (Evl.et_is (Evl.et_not (Evl.et_test (ev_chain Evl.ev_c (Evl.ev_var rfl) Evl.ev_c))) ?_) (fun z => by cases z) (fun _ H1 e1 => k H1 e1)
  rw [decide_eq_true (show (0 : Int) ≤ (kk : Int) by omega), decide_eq_true (show (kk : Int) < 8 by omega)]; rfl
theorem et_notat {K : PySem.W.Frag} {σ : L2.St} {H : Hp} {ta : TE} {v : V} {w : Wd} (h : WR H v w) (ha : Ev ta σ H v) : EvT (tOr (tTest (tOp rIsN ta (tC .non))) (tTest (tOp rNe (tOp (rIxT K) ta (tC (.int 0))) (tC (.str "at"))))) σ H (!isPtr w) := by
  rw [← tag_at]
  refine Evl.et_is (Evl.et_or (a := decide (w = .non)) (b := !decide (tagS w = "at")) (Evl.et_test ?_) fun hb => Evl.et_test ?_) (by cases decide (w = .non) <;> simp)
  · refine Evl.ev_is (Evl.ev_op ha Evl.ev_c (z := .bl (decide (v = V.non))) fun H1 _ Q q => ⟨rfl, q H1 (Ex.refl H1)⟩) ?_
    rw [wr_non h]
  · have hn : w ≠ .non := fun z => by rw [z] at hb; simp at hb
    exact Evl.ev_is (Evl.ev_op (ev_tag h hn ha) Evl.ev_c (Evl.rv_ne rfl)) (by rw [dec_str])
theorem p_cell_at {K : PySem.W.Frag} (N : Tk K) (vs : List V) (H : Hp) (Q : VK) (E : XK) (h : sp_cell_at K vs H Q E) : t_cell_at K E { nx := fun _ H' => Q .non H', rt := Q } (start n_cell_at vs) H := by
  obtain ⟨Y, s, kk, w, rfl, hy, hw, k1, k2⟩ := h
  obtain ⟨x, hx, ex⟩ := hy.eroot (i := 0) N rfl (Evl.ev_var (i := 1) (σ := start n_cell_at [.ref Y.p, .int (kk : Int)]) rfl) hw
  refine Evl.q_asg ex fun H1 e1 => ?_
  have hx1 := hx.mono (ex_tk e1)
  refine Evl.q_when (et_notat hx1 (Evl.ev_var rfl)) (fun hb H2 e2 => ?_) (fun hb H2 e2 => ?_)
  · exact k2 (by simpa using hb) H2 (e1.trans e2)
  · cases w with
    | ptr a => exact Evl.s_ret (ev_ptr (hx1.mono (ex_tk e2)) (Evl.ev_var rfl)) fun H3 e3 => k1 a rfl H3 ((e1.trans e2).trans e3)
    | _ => cases hb
theorem p_slot_at {K : PySem.W.Frag} (N : Tk K) (vs : List V) (H : Hp) (Q : VK) (E : XK) (h : sp_slot_at K vs H Q E) : t_slot_at K E { nx := fun _ H' => Q .non H', rt := Q } (start n_slot_at vs) H := by
  obtain ⟨Y, s, a, i, n, z, rfl, hy, hw, k1, k2⟩ := h
  obtain ⟨x, hx, ex⟩ := hy.eword (i := 0) N rfl (Evl.ev_var (i := 1) (σ := start n_slot_at [.ref Y.p, .int (a : Int), .int (i : Int)]) rfl) hw
  refine Evl.q_when (Evl.et_is (Evl.et_not (Evl.et_test (ev_chain Evl.ev_c (Evl.ev_var rfl) (ev_size hx ex)))) (b := !decide (i < z)) ?_) (fun hb H2 e2 => ?_) (fun hb H2 e2 => ?_)
  · rw [decide_eq_true (show (0 : Int) ≤ (i : Int) by omega), Bool.true_and]
    congr 1
    exact decide_eq_decide.mpr (by omega)
  · exact k2 (by have : ¬ i < z := by simpa using hb
                 omega) H2 e2
  · exact Evl.s_ret (ev_int (ev_add (ev_add (Evl.ev_var rfl) Evl.ev_c) (Evl.ev_var rfl)) (by omega)) fun H3 e3 => k1 (by simpa using hb) H3 (e2.trans e3)
/-- self.free -/
theorem YAt.efree {K : PySem.W.Frag} {σ : L2.St} {H : Hp} {Y : YA} {s : YS} {i : Nat} (h : YAt K Y H s) (N : Tk K) (hs : σ[i]? = some (some (.ref Y.p))) : ∃ lf, Ev (tFld K (tVar i) "free") σ H (.ref lf) ∧ FreeAt H lf s.free ∧ Y.far lf := by
  obtain ⟨lf, lv, hi, hf, hn, _⟩ := h.ins
  exact ⟨lf, ev_fld (Evl.ev_var hs) hi N.cl N.free fl_free, hf, hn⟩
theorem p_room_for {K : PySem.W.Frag} (N : Tk K) (vs : List V) (H : Hp) (Q : VK) (E : XK) (h : sp_room_for K vs H Q E) : t_room_for K { nx := fun _ H' => Q .non H', rt := Q } (start n_room_for vs) H := by
  obtain ⟨Y, s, z, rfl, hy, k⟩ := h
  obtain ⟨lf, ef, hf, hn⟩ := hy.efree (i := 0) (σ := start n_room_for [.ref Y.p, .int (z : Int)]) N rfl
  refine s_retP (P := fun v H' => v = oInt (firstFit s.free (z + 1))) (evp_call (ea2 ef (ev_int (ev_add (Evl.ev_var (i := 1) rfl) Evl.ev_c) (show (z : Int) + 1 = ((z + 1 : Nat) : Int) by omega))) fun H1 e1 Q1 q1 => ?_) fun v H1 e1 hv => by rw [hv]; exact k H1 e1
  exact ⟨lf, s.free, z + 1, rfl, hf.keep (M := fun _ => False) (Keep.ex e1) (ex_tk e1) (fun z => z), fun H2 e2 => q1 _ H2 e2 rfl⟩
theorem slots_get {words : List Wd} {a z : Nat} (h : a + z < words.length) : (slotsW words a z).length = z := by
  unfold slotsW
  rw [List.length_take, List.length_drop]; omega
theorem slotsW_at {words : List Wd} {a z i : Nat} (hi : i < z) : (slotsW words a z)[i]? = words[a + 1 + i]? := by
  unfold slotsW
  rw [List.getElem?_take_of_lt hi, List.getElem?_drop]
end Gy

set_option Elab.async false
set_option linter.all false
set_option maxRecDepth 100000
set_option maxHeartbeats 1000000
/-! Part 9: where, slots_at, picture, inner. -/
namespace Gy
open PySem PySem.Spec PyProof.Rows L2
open Evl (Ex Ev EvL EvU EvT EvA EvO rLenS rListS rMax2)
/-! ### Paired and orders -/
theorem pr_perm {α β : Type} {R : α → β → Prop} {xs ys : List α} (p : ys.Perm xs) : ∀ {zs : List β}, Paired R xs zs → ∃ zs', Paired R ys zs' ∧ zs'.Perm zs := by
  induction p with
  | nil => intro zs h; exact ⟨zs, h, List.Perm.refl _⟩
  | @cons x l1 l2 _ ih =>
    intro zs h
    cases h with
    | cons r t =>
      obtain ⟨zs', h1, h2⟩ := ih t
      exact ⟨_ :: zs', .cons r h1, h2.cons _⟩
  | swap x y l =>
    intro zs h
    cases h with
    | cons r t => cases t with
      | cons r2 t2 => exact ⟨_, .cons r2 (.cons r t2), List.Perm.swap _ _ _⟩
  | trans _ _ ih1 ih2 =>
    intro zs h
    obtain ⟨z1, h1, h2⟩ := ih2 h
    obtain ⟨z2, h3, h4⟩ := ih1 h1
    exact ⟨z2, h3, h4.trans h2⟩
theorem pr_pairwise {α β : Type} {R : α → β → Prop} {P : α → α → Prop} {P' : β → β → Prop} (h : ∀ x y u v, R x u → R y v → P x y → P' u v) : ∀ {xs : List α} {us : List β}, Paired R xs us → xs.Pairwise P → us.Pairwise P'
  | _, _, .nil, _ => .nil
  | _, _, .cons r t, p => by
    obtain ⟨h1, h2⟩ := List.pairwise_cons.mp p
    refine List.pairwise_cons.mpr ⟨fun u hu => ?_, pr_pairwise h t h2⟩
    obtain ⟨i, hi⟩ := List.getElem?_of_mem hu
    obtain ⟨x, hx, rx⟩ := pr_getR t hi
    exact h _ _ _ _ r rx (h1 x (List.mem_of_getElem? hx))
theorem pr_map {α β γ : Type} {R : α → β → Prop} {f : γ → β} : ∀ {xs : List α} {zs : List γ}, Paired (fun x z => R x (f z)) xs zs → Paired R xs (zs.map f)
  | _, _, .nil => .nil
  | _, _, .cons r t => .cons r (pr_map t)
theorem fm_some {α β : Type} (f : α → β) (l : List α) : l.filterMap (fun a => some (f a)) = l.map f := by
  induction l with
  | nil => rfl
  | cons a l ih => rw [List.filterMap_cons, List.map_cons, ih]
theorem fm_congr {α β : Type} {f g : α → Option β} : ∀ {l : List α}, (∀ a ∈ l, f a = g a) → l.filterMap f = l.filterMap g
  | [], _ => rfl
  | a :: l, h => by
    rw [List.filterMap_cons, List.filterMap_cons, h a List.mem_cons_self, fm_congr fun b hb => h b (List.mem_cons_of_mem _ hb)]
theorem pr_ints : ∀ {ys : List V} {ns : List Nat}, Paired (fun (y : V) (n : Nat) => y = .int (n : Int)) ys ns → ys = nsV ns
  | _, _, .nil => rfl
  | _, _, .cons r t => by rw [r, pr_ints t]; rfl
/-- the keys of pairs of ints -/
def kOf (H : Hp) : V → Int × Int
  | .ref t => match H t with
    | some (.tup [.int a, .int b]) => (a, b)
    | _ => (0, 0)
  | _ => (0, 0)
theorem kOf_st {H : Hp} {v : V} {s : Nat × Nat} (h : StR H v s) : kOf H v = ((s.1 : Int), (s.2 : Int)) := by
  obtain ⟨t, rfl, q⟩ := h
  unfold kOf
  simp only [q]
theorem heads_step {words : List Wd} {i : Nat} {w : Wd} (h : words[i]? = some w) : headsW (words.take (i + 1)) = headsW (words.take i) ++ (headOf (w, i)).toList := by
  unfold headsW
  have hl : (words.take i).length = i := by
    rw [List.length_take]
    have := (List.getElem?_eq_some_iff.mp h).1
    omega
  rw [take_get h, List.zipIdx_append, List.filterMap_append, hl]
  congr 1
  show List.filterMap headOf [(w, 0 + i)] = _
  rw [Nat.zero_add]
  cases e : headOf (w, i) <;> simp [e]
theorem p_where {K : PySem.W.Frag} (N : Tk K) (vs : List V) (H : Hp) (Q : VK) (E : XK) (h : sp_where K vs H Q E) : t_where K { nx := fun _ H' => Q .non H', rt := Q } (start n_where vs) H := by
  obtain ⟨Y, s, rfl, hy, hz, k⟩ := h
  refine Evl.q_asgL (Evl.el_lst Evl.ea_nil (by show 0 ≤ 100000; decide)) fun D H1 hD e1 hl1 => ?_
  obtain ⟨ws, hws, rws⟩ := hy.wd
  have hlen := pr_len rws
  refine Evl.q_forR1 (n := (ws.length : Int)) (ea1 (Evl.ev_len ((hy.ex e1).ewords N rfl) (Evl.sq_of (e1 _ _ hws)))) ⟨by omega, by omega⟩
    (fun i σ' H' => ∃ v2 v3 xs, σ' = [some (.ref Y.p), some (.ref D), v2, v3] ∧ Ex H H' ∧ H' D = some (.lst xs) ∧ StRs H' xs (headsW (s.words.take i)) ∧ xs.length ≤ i) (fun H2 e2 => ⟨none, none, [], rfl, e1.trans e2, e2 _ _ hl1, .nil, Nat.le_refl _⟩) ?_ ?_
  · rintro i σ' H2 hi ⟨v2, v3, xs, rfl, e2, hx2, rx2, hxl⟩
    have hi' : i < s.words.length := by omega
    obtain ⟨w, hw⟩ : ∃ w, s.words[i]? = some w := ⟨_, List.getElem?_eq_getElem hi'⟩
    obtain ⟨x, hx, ex⟩ := (hy.ex e2).eword (i := 0) (ta := tVar 2) (σ := [some (.ref Y.p), some (.ref D), some (.int (i : Int)), v3]) N rfl (Evl.ev_var rfl) hw
    refine Evl.q_asg ex fun H3 e3 => ?_
    have hx3 := hx.mono (ex_tk e3)
    rw [heads_step hw]
    refine Evl.s_when (et_head hx3 (Evl.ev_var rfl)) (fun hb H4 e4 => ?_) (fun hb H4 e4 => ?_)
    · cases w with
      | head n z =>
        have hx4 := hx3.mono (ex_tk e4)
        refine e_app (Evl.ev_var rfl) (e4 _ _ (e3 _ _ hx2)) (evp_st (s := (n, i)) (ev_name hx4 (Evl.ev_var rfl)) (Evl.ev_var rfl) rfl rfl) (by omega) fun v H5 e5 hv => ?_
        have e25 := (e3.trans e4).trans e5
        have t5 : TK H5 (upd H5 D (.lst (xs ++ [v]))) := tk_upd fun q w => by rw [e25 _ _ hx2] at w; cases w
        exact ⟨_, _, _, rfl, (e2.trans e25).mut hD, upd_same, pr_snoc (StRs.mono t5 (StRs.mono (ex_tk e25) rx2)) (hv.mono t5), by rw [List.length_append, List.length_singleton]; omega⟩
      | _ => cases hb
    · have en : headOf (w, i) = none := by cases w <;> first | rfl | cases hb
      rw [en]
      refine ⟨_, _, xs, rfl, (e2.trans e3).trans e4, e4 _ _ (e3 _ _ hx2), ?_, by omega⟩
      rw [Option.toList_none, List.append_nil]
      exact StRs.mono (ex_tk (e3.trans e4)) rx2
  · rintro σ' H2 ⟨v2, v3, xs, rfl, e2, hx2, rx2, hxl⟩
    rw [Int.toNat_natCast, hlen, List.take_length] at rx2
    refine s_retP (P := fun v H' => ∃ ys D2, v = .ref D2 ∧ H2 D2 = none ∧ H' D2 = some (.lst ys) ∧ Ex H2 H' ∧ ∃ zs', StRs H' ys zs' ∧ zs'.Perm (headsW s.words) ∧ zs'.Pairwise (fun x y => x.1 ≤ y.1)) (fun H3 e3 Q3 q3 => ⟨_, rfl, D, xs, kOf H3, rfl, Evl.sq_of (e3 _ _ hx2), fun x hx => ?_, fun ys p hs hp hn => ?_⟩) ?_
    · obtain ⟨u, hu, ru⟩ := pr_mem (StRs.mono (ex_tk e3) rx2) hx
      rw [kOf_st ru]
      exact ru
    · have r3 := StRs.mono (ex_tk e3) rx2
      obtain ⟨zs', h1, h2⟩ := pr_perm hp.perm r3
      refine q3 _ _ (ex_new hn) ⟨ys, p, rfl, Evl.fresh_back e3 hn, upd_same, e3.trans (ex_new hn), zs', StRs.mono (ex_tk (ex_new hn)) h1, h2, ?_⟩
      refine pr_pairwise (P := fun x y => ltP (kOf H3) y x = false) (fun x y u v ru rv hp => ?_) h1 hs
      have := SrtO.lexB_no.mp hp
      rw [kOf_st ru, kOf_st rv] at this
      omega
    · rintro _ H3 e3 ⟨ys, D2, rfl, hn, hd2, e23, zs', h1, h2, h3⟩
      exact k zs' ys D2 H3 (e2.trans e3) h2 h3 (Evl.fresh_back e2 hn) hd2 h1
/-- [told(w) for w in ..] -/
theorem e_told {K : PySem.W.Frag} {σ : L2.St} {H : Hp} {Y : YA} {s : YS} {tl : TE} {j : Nat} {xs : List V} {ws : List Wd} (hy : YAt K Y H s) (h0 : 0 < j) (hj : j < σ.length) (hs : σ[0]? = some (some (.ref Y.p))) (hx : WRs H xs ws) (hz : xs.length ≤ 40000)
    (hp : ∀ w ∈ ws, PtrAt s.words w) (hl : EvP tl σ H (fun v H' => ∃ a, v = .ref a ∧ SqL K H' a xs)) :
    EvP (tLc (iList K tl) (gName j) tYes (tMeth (aC K) "told" (sp_told K) [] E0 (tVar 0) (tCons (tVar j) tNil)) [j]) σ H (NewP H fun ys H' => WRs H' ys (ws.map (toldW s.words))) := by
  refine (e_lcM (fun H => WR H) (fun _ H => WR H) (fun w => some (toldW s.words w)) (fun H1 e => WRs.mono (ex_tk e) hx) hl hz (fun D acc H1 H2 x b e k q => q.mono (k.tk e)) (fun D i x w acc H1 hi hw e hD hacc rw1 => ?_)).imp ?_
  · refine ⟨_, g_nm, ?_, et_yes, fun b hb => ?_⟩
    · show ((σ.set j none).set j (some x)).set j none = σ.set j none
      rw [List.set_set, List.set_set]
    · injection hb with hb
      subst hb
      refine m_ev (hy.ex e) (Evl.ev_var ?_) (ea1 (Evl.ev_var (v := x) ?_)) (by decide +kernel) fun H2 e2 Q q => ?_
      · show ((σ.set j none).set j (some x))[0]? = _
        rw [List.getElem?_set_ne (by omega), List.getElem?_set_ne (by omega)]; exact hs
      · show ((σ.set j none).set j (some x))[j]? = _
        rw [List.getElem?_set_self (by rw [List.length_set]; exact hj)]
      · exact ⟨Y, s, x, w, rfl, (hy.ex e).ex e2, rw1.mono (ex_tk e2), hp w (List.mem_of_getElem? hw), fun v' H3 e3 hv => q v' H3 e3 hv⟩
  · rintro v H1 e ⟨D, ys, rfl, hD, hys, r⟩
    rw [fm_some] at r
    exact ⟨D, ys, rfl, hD, hys, r⟩
/-- self.words[a + 1:a + 1 + z] -/
theorem YAt.eslots {K : PySem.W.Frag} {σ : L2.St} {H : Hp} {p dx lw : Addr} {fs : List (Str × V)} {ws : List V} {words : List Wd} {i a z : Nat} {ta tb : TE} (N : Tk K) (hi : H p = some (.ins (aC K) dx fs)) (hl : fs.lookup ("words" : Str) = some (V.ref lw)) (hw : H lw = some (.lst ws)) (r : WRs H ws words)
    (hs : σ[i]? = some (some (.ref p))) (ha : Ev ta σ H (.int ((a + 1 : Nat) : Int))) (hb : Ev tb σ H (.int ((a + 1 + z : Nat) : Int))) (hz : a + z < words.length) : ∃ xs, WRs H xs (slotsW words a z) ∧ EvL (tSl (rSlL K) (tFld K (tVar i) "words") (tPart ta) (tPart tb)) σ H xs := by
  refine ⟨(ws.drop (a + 1)).take z, pr_take z (pr_drop (a + 1) r), ?_⟩
  rw [← cut_mid ws (a + 1) z (by rw [pr_len r]; omega)]
  exact Evl.el_sl (ev_fld (Evl.ev_var hs) hi N.cl N.words hl) (Evl.eo_some ha) (Evl.eo_some hb) (Evl.sq_of hw)
theorem evp_l {te : TE} {σ : L2.St} {H : Hp} {xs : List V} {K : PySem.W.Frag} (h : EvL te σ H xs) : EvP te σ H (fun v H' => ∃ a, v = .ref a ∧ SqL K H' a xs) := fun H1 e Q q => h H1 e Q fun p H2 hp e2 h2 => q _ H2 e2 ⟨p, rfl, Evl.sq_of h2⟩
theorem p_slots_at {K : PySem.W.Frag} (N : Tk K) (vs : List V) (H : Hp) (Q : VK) (E : XK) (h : sp_slots_at K vs H Q E) : t_slots_at K { nx := fun _ H' => Q .non H', rt := Q } (start n_slots_at vs) H := by
  obtain ⟨Y, s, a, n, z, rfl, hy, hw, hz, hl, hp, k⟩ := h
  obtain ⟨x, hx, ex⟩ := hy.eword (i := 0) N rfl (Evl.ev_var (i := 1) (σ := start n_slots_at [.ref Y.p, .int (a : Int)]) rfl) hw
  refine Evl.q_asg (ev_size hx ex) fun H1 e1 => ?_
  have hy1 := hy.ex e1
  obtain ⟨lf, lv, hi, _⟩ := hy1.ins
  obtain ⟨ws, hws, rws⟩ := hy1.wd
  obtain ⟨xs, rxs, exs⟩ := YAt.eslots (i := 0) (a := a) (z := z) (ta := tOp rAddI (tVar 1) (tC (.int 1))) (tb := tOp rAddI (tOp rAddI (tVar 1) (tC (.int 1))) (tVar 2)) (σ := [some (.ref Y.p), some (.int (a : Int)), some (.int (z : Int)), none]) N hi fl_words hws rws rfl (ev_int (ev_add (Evl.ev_var rfl) Evl.ev_c) (by omega)) (ev_int (ev_add (ev_add (Evl.ev_var rfl) Evl.ev_c) (Evl.ev_var rfl)) (by omega)) hz
  have hxl := pr_len rxs
  rw [slots_get hz] at hxl
  refine s_retP (e_told hy1 (by decide) (by show 3 < 4; decide) rfl rxs (by omega) hp (evp_l exs)) ?_
  rintro _ H2 e2 ⟨D, ys, rfl, hD, hys, r⟩
  exact k H2 D ys (e1.trans e2) (Evl.fresh_back e1 hD) hys r
/-- the list is made first -/
theorem evp_lcU {K : PySem.W.Frag} {σ : L2.St} {H : Hp} {tl te : TE} {g : TG} {t : TT} {vs : List Nat} {P P' : V → Hp → Prop} (h : EvP tl σ H P) (k : ∀ v H1, Ex H H1 → P v H1 → EvP (tLc (iList K (tC v)) g t te vs) σ H1 P') : EvP (tLc (iList K tl) g t te vs) σ H P' := fun H0 e0 Q q =>
  h H0 e0 _ fun v H1 e1 pv => k v H1 (e0.trans e1) pv H1 (Ex.refl H1) Q fun v2 H2 e2 p2 => q v2 H2 (e1.trans e2) p2
theorem p_inner {K : PySem.W.Frag} (N : Tk K) (vs : List V) (H : Hp) (Q : VK) (E : XK) (h : sp_inner K vs H Q E) : t_inner K { nx := fun _ H' => Q .non H', rt := Q } (start n_inner vs) H := by
  obtain ⟨p, dx, lw, fs, ws, words, a, n, z, rfl, hi, hl, hws, rws, hw, hz, hl2, k⟩ := h
  obtain ⟨v, hv, rv⟩ := pr_getR rws hw
  obtain ⟨xs, rxs, exs⟩ := YAt.eslots (i := 0) (a := a) (z := z) (ta := tOp rAddI (tVar 1) (tC (.int 1))) (tb := tOp rAddI (tOp rAddI (tVar 1) (tC (.int 1))) (tOp (rIxT K) (tOp (rIxL K) (tFld K (tVar 0) "words") (tVar 1)) (tC (.int 2)))) (σ := start n_inner [.ref p, .int (a : Int)]) N hi hl hws rws rfl (ev_int (ev_add (Evl.ev_var rfl) Evl.ev_c) (by omega)) (ev_int (ev_add (ev_add (Evl.ev_var rfl) Evl.ev_c) (ev_size rv (Evl.ev_op (ev_fld (Evl.ev_var rfl) hi N.cl N.words hl) (Evl.ev_var rfl) (Evl.rv_ixL (Evl.sq_of hws) (atI_nat hv))))) (by omega)) hz
  have hxl := pr_len rxs
  rw [slots_get hz] at hxl
  refine Evl.q_asgL exs fun L H1 hL e1 hL1 => ?_
  refine s_retP (e_lcM (fun H => WR H) (fun _ _ (y : V) (n : Nat) => y = .int (n : Int)) ptrOf (fun H2 e => WRs.mono (ex_tk (e1.trans e)) rxs) (evp_ev (v := .ref L) (Evl.ev_var rfl) fun H2 e2 => ⟨L, rfl, Evl.sq_of (e2 _ _ hL1)⟩) (by omega) (fun D acc H1 H2 x b _ _ q => q) (fun D i x w acc H2 hi2 hw2 e2 hD hacc rw2 => ?_)) ?_
  · refine ⟨_, g_nm, rfl, Evl.et_is (et_at rw2 (Evl.ev_var rfl)) (by cases w <;> rfl), fun b hb => ?_⟩
    cases w with
    | ptr c =>
      injection hb with hb
      subst hb
      exact evp_of (ev_ptr rw2 (Evl.ev_var rfl))
    | _ => cases hb
  · rintro _ H2 e2 ⟨D, ys, rfl, hD, hys, r⟩
    rw [pr_ints r] at hys
    exact k H2 D (e1.trans e2) (Evl.fresh_back e1 hD) hys
theorem szAt_of {words : List Wd} {a n z : Nat} (h : words[a]? = some (.head n z)) : szAt words a = z := by unfold szAt; rw [h]
theorem headsW_mem {words : List Wd} {e : Nat × Nat} (h : e ∈ headsW words) : ∃ z, words[e.2]? = some (.head e.1 z) := by
  unfold headsW at h
  obtain ⟨⟨w, i⟩, h1, h2⟩ := List.mem_filterMap.mp h
  have := List.mk_mem_zipIdx_iff_getElem?.mp h1
  cases w with
  | head n z => injection h2 with h2; subst h2; exact ⟨z, this⟩
  | _ => cases h2
/-- a cell of a picture, its list not the one at D -/
def CellD (D : Addr) (H : Hp) (v : V) (c : Nat × List Wd) : Prop := ∃ t l xs, v = .ref t ∧ H t = some (.tup [.int (c.1 : Int), .ref l]) ∧ H l = some (.lst xs) ∧ WRs H xs c.2 ∧ l ≠ D
theorem p_picture {K : PySem.W.Frag} (N : Tk K) (vs : List V) (H : Hp) (Q : VK) (E : XK) (h : sp_picture K vs H Q E) : t_picture K { nx := fun _ H' => Q .non H', rt := Q } (start n_picture vs) H := by
  obtain ⟨Y, s, rfl, hy, hz, hzr, hpr, hpc, k⟩ := h
  let P1 : V → Hp → Prop := fun v H' => ∃ zs : List (Nat × Nat), zs.Perm (headsW s.words) ∧ zs.Pairwise (fun x y => x.1 ≤ y.1) ∧ ∃ c cs, v = .ref c ∧ H c = none ∧ H' c = some (.lst cs) ∧ Paired (CellR H') cs (zs.map fun e => (e.1, (slotsW s.words e.2 (szAt s.words e.2)).map (toldW s.words)))
  have hP : EvP (tLc (iList K (tMeth (aC K) "where" (sp_where K) [] E0 (tVar 0) tNil)) (gTup K 2 (gCons (gName 2) (gCons (gName 3) gNil))) tYes (tTup (tCons (tVar 2) (tCons (tMeth (aC K) "slots_at" (sp_slots_at K) [] E0 (tVar 0) (tCons (tVar 3) tNil)) tNil))) [2, 3]) (start n_picture [.ref Y.p]) H P1 := by
    refine evp_lcU (P := fun v H' => ∃ zs xs D, v = .ref D ∧ H' D = some (.lst xs) ∧ StRs H' xs zs ∧ zs.Perm (headsW s.words) ∧ zs.Pairwise (fun x y => x.1 ≤ y.1)) (m_ev hy (Evl.ev_var rfl) Evl.ea_nil (by decide +kernel) fun H1 e1 Q1 q1 => ⟨Y, s, rfl, hy.ex e1, hz, fun zs xs D H2 e2 h1 h2 hD hd2 r => q1 _ H2 e2 ⟨zs, xs, D, rfl, hd2, r, h1, h2⟩⟩) ?_
    rintro _ H1 e1 ⟨zs, xs, D0, rfl, hd0, r0, h1, h2⟩
    have hlen : zs.length ≤ 1000 := by
      rw [h1.length_eq]
      refine Nat.le_trans (List.length_filterMap_le _ _) ?_
      rw [List.length_zipIdx]; exact hz
    have hlx := pr_len r0
    refine (e_lcM (H := H1) (xs := xs) (as := zs) (fun H => StR H) (fun D H => CellD D H) (fun e : Nat × Nat => if e ∈ zs then some (e.1, (slotsW s.words e.2 (szAt s.words e.2)).map (toldW s.words)) else none) (fun H2 e => StRs.mono (ex_tk e) r0) (evp_ev (v := .ref D0) Evl.ev_c fun H2 e2 => ⟨D0, rfl, Evl.sq_of (e2 _ _ hd0)⟩) (by omega) ?_ ?_).imp ?_
    · rintro D acc H2 H3 x b hacc kb ⟨t, l, ys, rfl, q1, q2, q3, q4⟩
      exact ⟨t, l, ys, rfl, (kb.tk hacc) _ _ q1, kb _ _ q4 q2, WRs.mono (kb.tk hacc) q3, q4⟩
    · intro D i x a acc H2 hi ha e2 hD hacc ra
      have ham := List.mem_of_getElem? ha
      obtain ⟨t, rfl, ht⟩ := ra
      refine ⟨_, g_pr (Evl.st_of ht), rfl, by rw [if_pos ham]; exact et_yes, fun b hb => ?_⟩
      rw [if_pos ham] at hb
      injection hb with hb
      subst hb
      obtain ⟨z, hza⟩ := headsW_mem (h1.mem_iff.mp ham)
      obtain ⟨c1, c2⟩ := hpc _ _ _ hza
      rw [szAt_of hza]
      have e12 := e1.trans e2
      refine fun H3 e3 Q3 q3 => ⟨_, rfl, ?_⟩
      refine m_ev (P := NewP H3 fun ys H' => WRs H' ys ((slotsW s.words a.2 z).map (toldW s.words))) (hy.ex (e12.trans e3)) (Evl.ev_var rfl) (ea1 (Evl.ev_var rfl)) (by decide +kernel) (fun H4 e4 Q4 q4 => ⟨Y, s, a.2, a.1, z, rfl, (hy.ex (e12.trans e3)).ex e4, hza, c1, hz, c2, fun H5 D5 xs5 e5 hD5 h5 r5 => q4 _ H5 e5 ⟨D5, xs5, rfl, Evl.fresh_back e4 hD5, h5, r5⟩⟩) H3 (Ex.refl H3) _ ?_
      rintro _ H4 e4 ⟨l, ys, rfl, hl, hl4, r4⟩
      refine ⟨by show 2 ≤ sizeLine; decide, fun p hp => q3 _ _ (e4.trans (ex_new hp)) ⟨p, l, ys, rfl, upd_same, ?_, WRs.mono (ex_tk (ex_new hp)) r4, ?_⟩⟩
      · exact ex_new hp _ _ hl4
      · intro z; rw [z, e3 _ _ hacc] at hl; cases hl
    · rintro _ H2 e2 ⟨D, ys, rfl, hD, hys, r⟩
      refine ⟨zs, h1, h2, D, ys, rfl, Evl.fresh_back e1 hD, hys, ?_⟩
      have e : zs.filterMap (fun e : Nat × Nat => if e ∈ zs then some (e.1, (slotsW s.words e.2 (szAt s.words e.2)).map (toldW s.words)) else none) = zs.map fun e => (e.1, (slotsW s.words e.2 (szAt s.words e.2)).map (toldW s.words)) := by
        rw [← fm_some]
        exact fm_congr fun a ha => by rw [if_pos ha]
      rw [e] at r
      exact pr_imp (fun v c ⟨t, l, xs, q1, q2, q3, q4, _⟩ => ⟨t, l, xs, q1, q2, q3, q4⟩) r
  refine q_asgP hP ?_
  rintro _ H1 e1 ⟨zs, h1, h2, c, cs, rfl, hc, hc1, rc⟩
  have hy1 := hy.ex e1
  obtain ⟨rs, hrs, rrs⟩ := hy1.rt
  have hlr := pr_len rrs
  refine s_retP (P := fun v H' => PicAt H' v (s.roots.map (toldW s.words)) (zs.map fun e => (e.1, (slotsW s.words e.2 (szAt s.words e.2)).map (toldW s.words)))) (fun H2 e2 Q2 q2 => ?_) fun v H2 e2 hv => k v H2 zs (e1.trans e2) h1 h2 hv
  have hy2 := hy1.ex e2
  unfold tTup
  rw [tCons]
  refine e_told (j := 4) (σ := [some (.ref Y.p), some (.ref c), none, none, none]) hy2 (by decide) (by show 4 < 5; decide) rfl (WRs.mono (ex_tk e2) rrs) (by omega) hpr (evp_ev (v := .ref Y.lr) (hy2.eroots (i := 0) N rfl) fun H3 e3 => ⟨Y.lr, rfl, Evl.sq_of (e3 _ _ (e2 _ _ hrs))⟩) H2 (Ex.refl H2) _ ?_
  rintro _ H3 e3 ⟨r, rs', rfl, hr, hr3, rr3⟩
  refine ⟨_, rfl, by show 2 ≤ sizeLine; decide, fun p hp => q2 _ _ (e3.trans (ex_new hp)) ⟨p, r, c, rs', cs, rfl, upd_same, ex_new hp _ _ hr3, WRs.mono (ex_tk (ex_new hp)) rr3, ex_new hp _ _ (e3 _ _ (e2 _ _ hc1)), ?_⟩⟩
  refine pr_imp (fun v cc ⟨t, l, xs, q1, q2, q3, q4⟩ => ?_) rc
  have ee := (e2.trans e3).trans (ex_new (o := .tup [.ref r, .ref c]) hp)
  exact ⟨t, l, xs, q1, ee _ _ q2, ee _ _ q3, WRs.mono (ex_tk ee) q4⟩
end Gy

set_option Elab.async false
set_option linter.all false
set_option maxRecDepth 100000
set_option maxHeartbeats 1000000
/-! Part 14: free_up, placed, more, less. -/
namespace Gy
open PySem PySem.Spec PyProof.Rows L2
open Evl (Ex Ev EvL EvU EvT EvA EvO rLenS rListS rMax2)
section
variable {K : PySem.W.Frag} {σ : L2.St} {H H' : Hp} {Y : YA} {s : YS} {i : Nat} {tv td ty : TE} {P : V → Hp → Prop} {tz : TS} {D : Ends} {f : Str}
theorem YAt.s_fld (hy : YAt K Y H s) (N : Tk K) (ha : NoAttr K (aC K) f) (hs : σ[i]? = some (some (.ref Y.p))) (hv : EvP tv σ H P)
    (k : ∀ v H1 lf lv, Ex H H1 → P v H1 → H1 Y.p = some (.ins (aC K) Y.dx (fls Y s.born lf lv)) → FreeAt H1 lf s.free → Y.far lf → LastAt Y H1 lv s.last → D.nx σ (upd H1 Y.p (.ins (aC K) Y.dx (putF f v (fls Y s.born lf lv))))) : sFld K (tVar i) tv f D σ H :=
  hv H (Ex.refl H) _ fun v H1 e1 p => by
    obtain ⟨lf, lv, hi, hf, hn, hl⟩ := (hy.ex e1).ins
    exact ⟨_, hs, Y.p, aC K, Y.dx, _, rfl, hi, N.cl, ha, fl_len, k v H1 lf lv e1 p hi hf hn hl⟩
theorem s_dput {d : Addr} {l : List (Nat × Int)} {a : Nat} {c : Int} (hv : Ev tv σ H (.int c)) (hd : Ev td σ H (.ref d)) (hk : Ev ty σ H (.int (a : Int))) (hl : H d = some (.dK (kvs l))) (hz : l.length ≤ 1000) (k : ∀ H1, Ex H H1 → D.nx σ (upd H1 d (.dK (kvs (putL l a c))))) : sDPut td ty tv D σ H :=
  hv H (Ex.refl H) _ fun H1 e1 => hd H1 e1 _ fun H2 e2 => hk H2 (e1.trans e2) _ fun H3 e3 => by
    have e := (e1.trans e2).trans e3
    refine ⟨d, _, rfl, .inl ⟨kvs l, Sum.inl (a : Int), e _ _ hl, rfl, by rw [kvs_len, sizeLine_eq]; omega, rfl⟩, ?_⟩
    rw [kvs_put]
    exact k H3 e
theorem ev_led (hy : YAt K Y H s) (N : Tk K) (hs : σ[i]? = some (some (.ref Y.p))) {a : Nat} {c : Int} (ha : Ev ty σ H (.int (a : Int))) (hc : lookL s.led a = some c) : Ev (tDGet (tFld K (tVar i) "led_in") ty) σ H (.int c) :=
  ev_dget (hy.eled N hs) ha hy.ld (by rw [kvs_look, hc]; rfl)
theorem YAt.putLed (hy : YAt K Y H s) (N : Tk K) (hs : σ[i]? = some (some (.ref Y.p))) {a : Nat} {c : Int} (hv : Ev tv σ H (.int c)) (hk : Ev ty σ H (.int (a : Int))) (hz : s.led.length ≤ 1000) (k : ∀ H1, Yd K Y H H1 { s with led := putL s.led a c } → D.nx σ H1) : sDPut (tFld K (tVar i) "led_in") ty tv D σ H :=
  s_dput hv (hy.eled N hs) hk hy.ld hz fun H1 e1 => k _ ⟨(hy.ex e1).setL, (Keep.ex e1).trans (Keep.upd own_ld), (ex_tk e1).trans ((hy.ex e1).tk (Keep.upd own_ld))⟩
theorem s_dpop {d : Addr} {l : List (Nat × Int)} {a : Nat} {c : Int} {Q : VK} (hd : Ev td σ H (.ref d)) (hk : Ev ty σ H (.int (a : Int))) (hl : H d = some (.dK (kvs l))) (hc : lookL l a = some c) (k : ∀ H1, Ex H H1 → Q (.int c) (upd H1 d (.dK (kvs (dropL l a))))) : tDPop1 td ty σ H Q :=
  hd H (Ex.refl H) _ fun H1 e1 => ⟨d, rfl, .inl ⟨_, .inl (e1 _ _ hl)⟩, hk H1 e1 _ fun H2 e2 => by
    refine ⟨kvs l, Sum.inl (a : Int), .int c, (e1.trans e2) _ _ hl, rfl, by rw [kvs_look, hc]; rfl, ?_⟩
    rw [kvs_drop]
    exact k H2 (e1.trans e2)⟩
/-- a list outside that was not there is written -/
theorem Yd.mut {H0 : Hp} {d : Addr} {xs : List V} {o : HO} (h : Yd K Y H0 H s) (ha : Y.al d) (h0 : H0 d = none) (hd : H d = some (.lst xs)) : Yd K Y H0 (upd H d o) s := by
  refine ⟨?_, fun b u e n => ?_, fun b u e => ?_⟩
  · exact h.at_.out (al' := Y.al) (Keep.upd ha) (tk_upd fun q w => by rw [hd] at w; cases w) fun b q => ⟨.inl q, fun z => by
      by_cases e : b = d
      · rw [e, upd_same] at z; cases z
      · rw [upd_ne e] at z; exact (h.at_.als b q).1 z⟩
  · have hb : b ≠ d := fun z => by rw [z, h0] at e; cases e
    rw [upd_ne hb]; exact h.kp b u e n
  · have hb : b ≠ d := fun z => by rw [z, h0] at e; cases e
    rw [upd_ne hb]; exact h.tk b u e
/-- fewer lists outside -/
theorem YAt.wk {al1 al2 : Addr → Prop} (h : YAt K { Y with al := al2 } H s) (w : ∀ b, al1 b → al2 b) : YAt K { Y with al := al1 } H s := by
  obtain ⟨lf, lv, hi, hf, hn, hl⟩ := h.ins
  have far : ∀ b, YA.far { Y with al := al2 } b → YA.far { Y with al := al1 } b := fun b f => ⟨f.1, fun q => f.2 (w b q)⟩
  refine ⟨⟨lf, lv, hi, hf, far _ hn, ?_⟩, h.wd, h.rt, h.gn, h.ld, h.wr, h.wg, h.rg, fun b q => h.als b (w b q)⟩
  cases e : s.last with
  | false => rw [e] at hl; exact hl
  | true =>
    rw [e] at hl
    obtain ⟨a, c, d, kx, sx, e, h1, h2, h3, n1, n2⟩ := hl
    exact ⟨a, c, d, kx, sx, e, h1, h2, h3, far _ n1, far _ n2⟩
/-- a list outside is written -/
theorem YAt.alu {d : Addr} {xs : List V} {o : HO} (h : YAt K Y H s) (ha : Y.al d) (hd : H d = some (.lst xs)) : YAt K Y (upd H d o) s :=
  h.out (al' := Y.al) (Keep.upd ha) (tk_upd fun q w => by rw [hd] at w; cases w) fun b q => ⟨.inl q, fun z => by
    by_cases e : b = d
    · rw [e, upd_same] at z; cases z
    · rw [upd_ne e] at z; exact (h.als b q).1 z⟩
/-- a new list is outside -/
theorem YAt.grow {d : Addr} (h : YAt K Y H s) (e : Ex H H') (hd : H d = none) (hd' : H' d ≠ none) : YAt K { Y with al := fun b => Y.al b ∨ b = d } H' s :=
  h.out (Keep.ex e) (ex_tk e) fun b q => by
    rcases q with q | q
    · refine ⟨.inl q, fun z => ?_⟩
      cases w : H b with
      | none => exact (h.als b q).1 w
      | some u => rw [e _ _ w] at z; cases z
    · subst q; exact ⟨.inr hd, hd'⟩
theorem Yd.grow {H0 H1 : Hp} {d : Addr} (h : Yd K Y H0 H s) (e : Ex H H1) (hd : H d = none) (hd' : H1 d ≠ none) : Yd K { Y with al := fun b => Y.al b ∨ b = d } H0 H1 s := ⟨h.at_.grow e hd hd', h.kp.trans (Keep.ex e), h.tk.trans (ex_tk e)⟩
theorem Yd.wk {H0 : Hp} {al1 al2 : Addr → Prop} (h : Yd K { Y with al := al2 } H0 H s) (w : ∀ b, al1 b → al2 b) : Yd K { Y with al := al1 } H0 H s := ⟨h.at_.wk w, h.kp, h.tk⟩
end
theorem p_free_up {K : PySem.W.Frag} (N : Tk K) (vs : List V) (H : Hp) (Q : VK) (E : XK) (h : sp_free_up K vs H Q E) : t_free_up K { nx := fun _ H' => Q .non H', rt := Q } (start n_free_up vs) H := by
  obtain ⟨Y, s, a, n, z, rfl, hy, hw, hz, hl, hg, hf, ⟨c, hc⟩, k⟩ := h
  obtain ⟨x, hx, ex⟩ := hy.eword (i := 0) N rfl (Evl.ev_var (i := 1) (σ := start n_free_up [.ref Y.p, .int (a : Int)]) rfl) hw
  refine Evl.q_asg ex fun H1 e1 => ?_
  have hx1 := hx.mono (ex_tk e1)
  have hy1 := hy.ex e1
  refine m_go hy1 (Evl.ev_var rfl) (ea1 (Evl.ev_var rfl)) (by decide +kernel) fun H2 e2 => ⟨Y, s, a, n, z, rfl, hy1.ex e2, hw, hz, hl, hg, fun H3 y3 => ?_⟩
  have y13 : Yd K Y H H3 _ := ((Yd.refl hy).ex (e1.trans e2)).go y3
  have hx3 := hx.mono y13.tk
  obtain ⟨lf, ef, hfr, hfar⟩ := y3.at_.efree (i := 0) (σ := [some (.ref Y.p), some (.int (a : Int)), some x]) N rfl
  refine y3.at_.s_fld (i := 0) N N.free rfl (P := fun v H' => ∃ p, v = .ref p ∧ H3 p = none ∧ FreeAt H' p (joinedL s.free a (z + 1))) (evp_call (ea3 ef (Evl.ev_var rfl) (ev_int (ev_add (ev_size hx3 (Evl.ev_var rfl)) Evl.ev_c) (show (z : Int) + 1 = ((z + 1 : Nat) : Int) by omega))) fun H4 e4 Q4 q4 => ?_) ?_
  · exact ⟨lf, s.free, a, z + 1, rfl, hfr.keep (M := fun _ => False) (Keep.ex e4) (ex_tk e4) (fun z => z), hf, fun H5 p e5 hp hfp => q4 _ H5 e5 ⟨p, rfl, Evl.fresh_back e4 hp, hfp⟩⟩
  · rintro _ H4 lf2 lv2 e4 ⟨p, rfl, hp, hfp⟩ hi2 hf2 hn2 hl2
    rw [put_free]
    have y4 : Yd K Y H H4 _ := y13.ex e4
    have y5 := y4.at_.setI (born' := s.born) hfp (y3.at_.new hp) hl2
    have y5' := y4.by y5 (Keep.upd own_p)
    refine s_dpop (y5.eled (i := 0) N rfl) (Evl.ev_var rfl) y5.ld hc fun H7 e7 => ?_
    have y7 := y5'.ex e7
    exact k _ (y7.by y7.at_.setL (Keep.upd own_ld))
theorem p_placed {K : PySem.W.Frag} (N : Tk K) (vs : List V) (H : Hp) (Q : VK) (E : XK) (h : sp_placed K vs H Q E) : t_placed K { nx := fun _ H' => Q .non H', rt := Q } (start n_placed vs) H := by
  obtain ⟨Y, s, a, n, z, kk, t, rfl, hy, hw, hf, hl, hk, hc, hno, k⟩ := h
  obtain ⟨x, hx, ex⟩ := hy.eword (i := 0) N rfl (Evl.ev_var (i := 1) (σ := start n_placed [.ref Y.p, .int (a : Int)]) rfl) hw
  obtain ⟨lf, ef, hfr, hfar⟩ := hy.efree (i := 0) (σ := start n_placed [.ref Y.p, .int (a : Int)]) N rfl
  refine hy.s_fld (i := 0) N N.free rfl (P := fun v H' => ∃ p, v = .ref p ∧ H p = none ∧ FreeAt H' p (withoutL s.free a (z + 1) kk t)) (evp_call (ea3 ef (Evl.ev_var rfl) (ev_int (ev_add (ev_size hx ex) Evl.ev_c) (show (z : Int) + 1 = ((z + 1 : Nat) : Int) by omega))) fun H4 e4 Q4 q4 => ?_) ?_
  · exact ⟨lf, s.free, a, z + 1, kk, t, rfl, hfr.keep (M := fun _ => False) (Keep.ex e4) (ex_tk e4) (fun z => z), hf, hk, hc, hno, fun H5 p e5 hp hfp => q4 _ H5 e5 ⟨p, rfl, Evl.fresh_back e4 hp, hfp⟩⟩
  · rintro _ H4 lf2 lv2 e4 ⟨p, rfl, hp, hfp⟩ hi2 hf2 hn2 hl2
    rw [put_free]
    have y4 : Yd K Y H H4 _ := (Yd.refl hy).ex e4
    have y5 := y4.at_.setI (born' := s.born) hfp (hy.new hp) hl2
    have y5' := y4.by y5 (Keep.upd own_p)
    refine y5.putLed (i := 0) N rfl Evl.ev_c (Evl.ev_var rfl) hl fun H6 y6 => k H6 (y5'.go y6)
theorem p_more {K : PySem.W.Frag} (N : Tk K) (vs : List V) (H : Hp) (Q : VK) (E : XK) (h : sp_more K vs H Q E) : t_more K { nx := fun _ H' => Q .non H', rt := Q } (start n_more vs) H := by
  obtain ⟨Y, s, v, w, rfl, hy, hw, hl, hc, k⟩ := h
  refine Evl.s_when (et_at hw (Evl.ev_var rfl)) (fun hb H1 e1 => ?_) (fun hb H1 e1 => ?_)
  · cases w with
    | ptr a =>
      obtain ⟨c, hc⟩ := hc a rfl
      have hw1 := hw.mono (ex_tk e1)
      have hy1 := hy.ex e1
      refine hy1.putLed (i := 0) N rfl (ev_add (ev_led (i := 0) hy1 N rfl (ev_ptr hw1 (Evl.ev_var rfl)) hc) Evl.ev_c) (ev_ptr hw1 (Evl.ev_var rfl)) hl fun H2 y2 => k H2 ?_
      have e : moreL s.led (.ptr a) = putL s.led a (c + 1) := by
        show putL s.led a ((lookL s.led a).getD 0 + 1) = _
        rw [hc]; rfl
      rw [e]
      exact ((Yd.refl hy).ex e1).go y2
    | _ => cases hb
  · have e : moreL s.led w = s.led := by cases w <;> first | rfl | cases hb
    refine k H1 ?_
    rw [e]
    exact (Yd.refl hy).ex e1
end Gy

set_option Elab.async false
set_option linter.all false
set_option maxRecDepth 100000
set_option maxHeartbeats 1000000
/-! Part 15: less, set_root, set_slot. -/
namespace Gy
open PySem PySem.Spec PyProof.Rows L2
open Evl (Ex Ev EvL EvU EvT EvA EvO rLenS rListS rMax2)
theorem isPtr_ad {pos : Nat → Nat} {w : Wd} : isPtr (ad pos w) = isPtr w := by cases w <;> rfl
theorem ad_ptr {pos : Nat → Nat} {w : Wd} {a : Nat} (h : ad pos w = .ptr a) : ∃ n, w = .ptr n ∧ pos n = a := by
  cases w with
  | ptr n => injection h with h; exact ⟨n, rfl, h⟩
  | _ => cases h
/-- a step: from a first that leads nowhere, to a count that stays above, to a cell that goes -/
theorem step_other {C : List (List Wd)} {t : SW} {w : Wd} {r : List Wd} (h : t.wait = w :: r) (hw : isPtr w = false) : stepS C t = ⟨t.L, t.gone, r⟩ := by
  unfold stepS
  rw [h]
  cases w <;> first | rfl | cases hw
theorem step_ptr {C : List (List Wd)} {t : SW} {n : Nat} {r : List Wd} (h : t.wait = .ptr n :: r) : stepS C t = if t.L n - 1 = 0 then ⟨ovr t.L n (t.L n - 1), t.gone ++ [n], r ++ cl C n⟩ else ⟨ovr t.L n (t.L n - 1), t.gone, r⟩ := by
  unfold stepS
  rw [h]
theorem wrs_len4 {R : List Wd} {C : List (List Wd)} {t : SW} (h : SI R C t) (hC : C.length ≤ 100) : t.wait.length ≤ mu C t := by unfold mu; omega
theorem csum_le {f : Nat → Nat} {b : Nat} (h : ∀ m, f m ≤ b) : ∀ n, csum f n ≤ n * b
  | 0 => by simp [csum]
  | n + 1 => by
    have := csum_le h n
    have := h n
    show csum f n + f n ≤ _
    rw [Nat.succ_mul]; omega
theorem it_wait {R : List Wd} {C : List (List Wd)} {t : SW} (h : SI R C t) {i : Nat} : (itS C i t).wait.length ≤ mu C t := by
  rcases it_mu h i with q | q
  · rw [q]; exact Nat.zero_le _
  · have : (itS C i t).wait.length ≤ mu C (itS C i t) := by unfold mu; omega
    omega
theorem mu_le {R : List Wd} {C : List (List Wd)} {t : SW} (h : SI R C t) : mu C t ≤ t.wait.length + C.length * 4 := by
  unfold mu
  have := csum_le (f := fun m => if m ∈ t.gone then 0 else (cl C m).length) (b := 4) (fun m => by
    show (if m ∈ t.gone then 0 else (cl C m).length) ≤ 4
    by_cases q : m ∈ t.gone
    · rw [if_pos q]; omega
    · rw [if_neg q]; exact h.ok.z4 m) C.length
  omega
theorem p_less {K : PySem.W.Frag} (N : Tk K) (vs : List V) (H : Hp) (Q : VK) (E : XK) (h : sp_less K vs H Q E) : t_less K { nx := fun _ H' => Q .non H', rt := Q } (start n_less vs) H := by
  obtain ⟨Y, s, v, pos, R, C, t, u, rfl, hy, hw1, hw, rp, si, hC, k⟩ := h
  refine Evl.q_asgL (Evl.el_lst (ea1 (Evl.ev_var rfl)) (by show 1 ≤ 100000; decide)) fun D H1 hD e1 hl1 => ?_
  have ml := mu_le si
  rw [hw1] at ml
  have ml : mu C t ≤ 401 := by
    have : [u].length = 1 := rfl
    omega
  let Y' : YA := { Y with al := fun b => Y.al b ∨ b = D }
  have hyD : Yd K Y' H H1 s := (Yd.refl hy).grow e1 hD (by rw [hl1]; exact fun z => by cases z)
  refine Evl.s_while (fun m σ' H' => ∃ i v3 xs sc, σ' = [some (.ref Y.p), some v, some (.ref D), v3] ∧ m = mu C (itS C i t) ∧ Yd K Y' H H' sc ∧ sc.last = s.last ∧ Rep pos R C (itS C i t).gone (itS C i t).L sc ∧ H' D = some (.lst xs) ∧ WRs H' xs ((itS C i t).wait.map (ad pos))) (mu C t) ⟨0, none, _, s, rfl, rfl, hyD, rfl, rp, hl1, by
    show WRs H1 _ (t.wait.map (ad pos))
    rw [hw1]
    exact .cons (hw.mono (ex_tk e1)) .nil⟩ ?_
  rintro m σ' H2 ⟨i, v3, xs, sc, rfl, rfl, y2, hla, rp2, hx2, rx2⟩
  have si2 := si.it i
  have hxl : xs.length ≤ 401 := by
    have := pr_len rx2
    rw [List.length_map] at this
    have := it_wait si (i := i)
    omega
  refine ⟨decide ((0 : Int) < (xs.length : Int)), et_gt (Evl.ev_len (Evl.ev_var rfl) (Evl.sq_of hx2)) Evl.ev_c, fun hb H3 e3 => ?_, fun hb H3 e3 => ?_⟩
  · -- a turn
    have hne : xs ≠ [] := fun z => by rw [z] at hb; simp at hb
    cases hwt : (itS C i t).wait with
    | nil => rw [hwt] at rx2; exact absurd (pr_nil rx2) hne
    | cons w r =>
      rw [hwt] at rx2
      obtain ⟨x, xr, rfl, rx, rxr⟩ := pr_consR (us := r.map (ad pos)) rx2
      have mstep := mu_step si2 (by rw [hwt]; exact fun z => by cases z)
      have si3 : SI R C (stepS C (itS C i t)) := si2.step
      have okw : OkW C (itS C i t).gone w := si2.wt w (by rw [hwt]; exact List.mem_cons_self)
      refine ⟨fun σ' H' => ∃ v3 xs sc, σ' = [some (.ref Y.p), some v, some (.ref D), v3] ∧ Yd K Y' H H' sc ∧ sc.last = s.last ∧ Rep pos R C (stepS C (itS C i t)).gone (stepS C (itS C i t)).L sc ∧ H' D = some (.lst xs) ∧ WRs H' xs ((stepS C (itS C i t)).wait.map (ad pos)), ?_, ?_⟩
      · rintro σ3 H4 ⟨v3, xs, sc, rfl, h1, h2, h3, h4, h5⟩
        exact ⟨mu C (itS C (i + 1) t), by show mu C (stepS C (itS C i t)) < _; omega, i + 1, v3, xs, sc, rfl, rfl, h1, h2, h3, h4, h5⟩
      refine e_popAt0 (Evl.ev_var rfl) (e3 _ _ hx2) fun H4 e4 => ?_
      have e24 := e3.trans e4
      have t5 : TK H4 (upd H4 D (.lst xr)) := tk_upd fun q w => by rw [e24 _ _ hx2] at w; cases w
      have y5 := (y2.ex e24).mut (d := D) (o := .lst xr) (.inr rfl) hD (e24 _ _ hx2)
      have rx5 := (rx.mono (ex_tk e24)).mono t5
      have rxr5 := WRs.mono t5 (WRs.mono (ex_tk e24) rxr)
      have hD5 : upd H4 D (.lst xr) D = some (.lst xr) := upd_same
      revert y5 rx5 rxr5 hD5
      generalize upd H4 D (.lst xr) = H5
      intro y5 rx5 rxr5 hD5
      refine Evl.s_when (et_at rx5 (Evl.ev_var rfl)) (fun hb H6 e6 => ?_) (fun hb H6 e6 => ?_)
      · rw [isPtr_ad] at hb
        cases w with
        | ptr n =>
          have hl : Live C (itS C i t).gone n := okw
          have rx6 : WR H6 x (.ptr (pos n)) := rx5.mono (ex_tk e6)
          have y6 := y5.ex e6
          refine y6.at_.putLed (i := 0) N rfl (ev_sub (ev_led (i := 0) y6.at_ N rfl (ev_ptr rx6 (Evl.ev_var rfl)) (rp2.ll n hl)) Evl.ev_c) (ev_ptr rx6 (Evl.ev_var rfl)) (by have := rp2.ledlen; omega) fun H7 y7 => ?_
          have y67 := y6.go y7
          have rp7 := rp2.led hl ((itS C i t).L n - 1)
          have hDo : ¬ Y.own D := (y6.at_.als D (.inr rfl)).2
          have hD7 : H7 D = some (.lst xr) := y7.kp _ _ (e6 _ _ hD5) hDo
          have rx7 : WR H7 x (.ptr (pos n)) := rx6.mono y7.tk
          have rxr7 := WRs.mono y7.tk (WRs.mono (ex_tk e6) rxr5)
          have hs := step_ptr (C := C) hwt
          refine Evl.s_when (et_eqI (ev_led (i := 0) (c := (itS C i t).L n - 1) y67.at_ N rfl (ev_ptr rx7 (Evl.ev_var rfl)) (by rw [lookL_put, if_pos rfl])) Evl.ev_c) (fun hz H8 e8 => ?_) (fun hz H8 e8 => ?_)
          · -- it goes
            have hz := of_decide_eq_true hz
            rw [if_pos hz] at hs
            rw [hs]
            have y8 := y67.ex e8
            have rx8 := rx7.mono (ex_tk e8)
            have hd8 := rp7.hd n hl
            obtain ⟨vh, rvh, evh⟩ := y8.at_.eword (i := 0) (σ := [some (.ref Y.p), some v, some (.ref D), some x]) (ta := tOp (rIxT K) (tVar 3) (tC (.int 1))) N rfl (ev_ptr rx8 (Evl.ev_var rfl)) hd8
            obtain ⟨lf, lv, hi, _⟩ := y8.at_.ins
            obtain ⟨ws, hws, rws⟩ := y8.at_.wd
            obtain ⟨ys, rys, eys⟩ := YAt.eslots (i := 0) (σ := [some (.ref Y.p), some v, some (.ref D), some x]) (a := pos n) (z := (cl C n).length) (ta := tOp rAddI (tOp (rIxT K) (tVar 3) (tC (.int 1))) (tC (.int 1)))
              (tb := tOp rAddI (tOp rAddI (tOp (rIxT K) (tVar 3) (tC (.int 1))) (tC (.int 1))) (tOp (rIxT K) (tOp (rIxL K) (tFld K (tVar 0) "words") (tOp (rIxT K) (tVar 3) (tC (.int 1)))) (tC (.int 2)))) N hi fl_words hws rws rfl
              (ev_int (ev_add (ev_ptr rx8 (Evl.ev_var rfl)) Evl.ev_c) (by omega)) (ev_int (ev_add (ev_add (ev_ptr rx8 (Evl.ev_var rfl)) Evl.ev_c) (ev_size rvh evh)) (by omega)) (rp7.bdw hl)
            have rys := rys
            rw [rp7.slots hl] at rys
            have hyl := pr_len rys
            rw [List.length_map] at hyl
            have z4 := si.ok.z4 n
            refine e_ext (Evl.ev_var rfl) (e8 _ _ hD7) (evp_new (evp_el (P := fun zs H' => WRs H' zs ((cl C n).map (ad pos))) eys fun H9 e9 => WRs.mono (ex_tk e9) rys)) (fun zs A p => by
              have := pr_len p
              rw [List.length_map] at this
              rw [List.length_cons] at hxl
              rw [sizeLine_eq]; omega) fun zs H9 e9 rzs => ?_
            have e79 := e8.trans e9
            have t10 : TK H9 (upd H9 D (.lst (xr ++ zs))) := tk_upd fun q w => by rw [e79 _ _ hD7] at w; cases w
            have y10 := (y8.ex e9).mut (d := D) (o := .lst (xr ++ zs)) (.inr rfl) hD (e79 _ _ hD7)
            have hD10 : upd H9 D (.lst (xr ++ zs)) D = some (.lst (xr ++ zs)) := upd_same
            have rx10 := (rx8.mono (ex_tk e9)).mono t10
            have rall : WRs (upd H9 D (.lst (xr ++ zs))) (xr ++ zs) ((r ++ cl C n).map (ad pos)) := by
              rw [List.map_append]
              exact pr_app (WRs.mono t10 (WRs.mono (ex_tk e79) rxr7)) (WRs.mono t10 rzs)
            revert y10 hD10 rx10 rall
            generalize upd H9 D (.lst (xr ++ zs)) = H10
            intro y10 hD10 rx10 rall
            refine m_go y10.at_ (Evl.ev_var rfl) (ea1 (ev_ptr rx10 (Evl.ev_var rfl))) (by decide +kernel) fun H11 e11 => ?_
            have y11 := y10.ex e11
            have gl := (si2.ok).glen
            refine ⟨Y', _, pos n, n, (cl C n).length, rfl, y11.at_, hd8, rp7.bdw hl, by rw [rp7.wl]; omega, by rw [rp7.gn]; omega, by have := rp7.fr.len; omega, ⟨_, rp7.ll n hl⟩, fun H12 y12 => ?_⟩
            refine ⟨_, xr ++ zs, _, rfl, y11.go y12, hla, rp7.free hl, y12.kp _ _ (e11 _ _ hD10) hDo, WRs.mono y12.tk (WRs.mono (ex_tk e11) rall)⟩
          · have hz := of_decide_eq_false hz
            rw [if_neg hz] at hs
            rw [hs]
            exact ⟨_, xr, _, rfl, y67.ex e8, hla, rp7, e8 _ _ hD7, WRs.mono (ex_tk e8) rxr7⟩
        | _ => cases hb
      · rw [isPtr_ad] at hb
        rw [step_other hwt hb]
        exact ⟨_, xr, sc, rfl, y5.ex e6, hla, rp2, e6 _ _ hD5, WRs.mono (ex_tk e6) rxr5⟩
  · -- the end
    have hx0 : xs.length = 0 := by
      have := of_decide_eq_false hb
      omega
    have hwt : (itS C i t).wait = [] := by
      have := pr_len rx2
      rw [List.length_map] at this
      exact List.eq_nil_of_length_eq_zero (by omega)
    have eq := swp_eq si hwt
    rw [eq] at rp2
    exact k H3 sc ((y2.ex e3).wk (al1 := Y.al) fun b q => .inl q) hla rp2
theorem Rep.more {pos : Nat → Nat} {R : List Wd} {C : List (List Wd)} {G : List Nat} {L : Nat → Int} {s : YS} (h : Rep pos R C G L s) {w : Wd} (hw : OkW C G w) : Rep pos R C G (fun n => L n + ([w].count (.ptr n) : Nat)) { s with led := moreL s.led (ad pos w) } := by
  have plain : (∀ n, w ≠ .ptr n) → Rep pos R C G (fun n => L n + ([w].count (.ptr n) : Nat)) s := fun q => h.congrL fun n _ => by
    rw [List.count_eq_zero.mpr (by simpa using fun z => q n z.symm)]; simp
  cases w with
  | ptr m =>
    have e := h.led hw (L m + 1)
    have e2 : moreL s.led (ad pos (.ptr m)) = putL s.led (pos m) (L m + 1) := by
      show putL s.led (pos m) ((lookL s.led (pos m)).getD 0 + 1) = _
      rw [h.ll m hw]; rfl
    rw [e2]
    refine e.congrL fun n _ => ?_
    unfold ovr
    by_cases q : n = m
    · subst q; rw [if_pos rfl, List.count_singleton_self]; rfl
    · rw [if_neg q, List.count_eq_zero.mpr (by simpa using fun z => q z)]; simp
  | non => exact plain fun n z => by cases z
  | num i => exact plain fun n z => by cases z
  | head i j => exact plain fun n z => by cases z
theorem Rep.fin {pos : Nat → Nat} {R : List Wd} {C : List (List Wd)} {t : SW} {s : YS} (si : SI R C t) (h : Rep pos R C (swp C t) (itS C (mu C t) t).L s) : St pos R C (swp C t) s := by
  have f := si.it (mu C t)
  have hw := sweep_done si
  refine ⟨h.congrL fun n hn => ?_, f.ok⟩
  have := f.eq n hn
  rw [hw] at this
  exact this
theorem rg_get {R : List Wd} {k : Nat} (h : k < R.length) : R[k]? = some (rg R k) := by
  unfold rg
  rw [List.getD_eq_getElem?_getD, List.getElem?_eq_getElem h]; rfl
theorem sg_get {C : List (List Wd)} {n i : Nat} (h : i < (cl C n).length) : (cl C n)[i]? = some (sg C n i) := rg_get h
theorem Rep.rget {pos : Nat → Nat} {R : List Wd} {C : List (List Wd)} {G : List Nat} {L : Nat → Int} {s : YS} (h : Rep pos R C G L s) {k : Nat} (hk : k < R.length) : s.roots[k]? = some (ad pos (rg R k)) := by
  rw [h.rt, List.getElem?_map, rg_get hk]; rfl
theorem p_set_root {K : PySem.W.Frag} (N : Tk K) (vs : List V) (H : Hp) (Q : VK) (E : XK) (h : sp_set_root K vs H Q E) : t_set_root K { nx := fun _ H' => Q .non H', rt := Q } (start n_set_root vs) H := by
  obtain ⟨Y, s, pos, R, C, G, kk, v, w, rfl, hy, st, hk, hw, ow, hC, k⟩ := h
  have hk' : kk < R.length := by rw [st.ok.r8]; exact hk
  obtain ⟨x, hx, ex⟩ := hy.eroot (i := 0) N rfl (Evl.ev_var (i := 1) (σ := start n_set_root [.ref Y.p, .int (kk : Int), v]) rfl) (st.rp.rget hk')
  refine Evl.q_asg ex fun H1 e1 => ?_
  have y1 := (Yd.refl hy).ex e1
  refine m_go y1.at_ (Evl.ev_var rfl) (ea1 (Evl.ev_var rfl)) (by decide +kernel) fun H2 e2 => ?_
  have y2 := y1.ex e2
  refine ⟨Y, s, v, _, rfl, y2.at_, hw.mono y2.tk, by have := st.rp.ledlen; omega, fun a ha => ?_, fun H3 y3 => ?_⟩
  · obtain ⟨n, rfl, hn⟩ := ad_ptr ha
    exact ⟨_, by rw [← hn]; exact st.rp.ll n ow⟩
  have y23 := y2.go y3
  have rp3 := st.rp.more ow
  refine m_go y3.at_ (Evl.ev_var rfl) (ea2 (Evl.ev_var rfl) (Evl.ev_var rfl)) (by decide +kernel) fun H4 e4 => ?_
  have y4 := y23.ex e4
  refine ⟨Y, _, kk, v, _, rfl, y4.at_, by show kk < s.roots.length; rw [st.rp.rt, List.length_map]; exact hk', hw.mono y4.tk, fun H5 y5 => ?_⟩
  have y45 := y4.go y5
  have rp5 := rp3.root (k := kk) (w := w)
  have ok' : OkS (R.set kk w) C G := st.ok.root ow
  have ou : OkW C G (rg R kk) := st.ok.rt _ (List.mem_of_getElem? (rg_get hk'))
  have si := SI.sw0 ok' ou
  refine m_go y5.at_ (Evl.ev_var rfl) (ea1 (Evl.ev_var rfl)) (by decide +kernel) fun H6 e6 => ?_
  have y6 := y45.ex e6
  refine ⟨Y, _, x, pos, R.set kk w, C, sw0 (R.set kk w) C G (rg R kk), rg R kk, rfl, y6.at_, rfl, hx.mono y6.tk, rp5.congrL fun n hn => ?_, si, hC, fun H7 s7 y7 l7 r7 => k H7 s7 (y6.go y7) l7 (Rep.fin si r7)⟩
  show ((cnt R C G n : Int) + ([w].count (.ptr n) : Nat)) = ((cnt (R.set kk w) C G n + [rg R kk].count (.ptr n) : Nat) : Int)
  have := cnt_root (w := w) (C := C) (G := G) (n := n) (rg_get hk')
  omega
theorem p_set_slot {K : PySem.W.Frag} (N : Tk K) (vs : List V) (H : Hp) (Q : VK) (E : XK) (h : sp_set_slot K vs H Q E) : t_set_slot K { nx := fun _ H' => Q .non H', rt := Q } (start n_set_slot vs) H := by
  obtain ⟨Y, s, pos, R, C, G, n, i, v, w, rfl, hy, st, hn, hi, hw, ow, hC, k⟩ := h
  have hb := st.rp.bd n hn
  obtain ⟨x, hx, ex⟩ := hy.eword (i := 0) (ta := tOp rAddI (tOp rAddI (tVar 1) (tC (.int 1))) (tVar 2)) (σ := start n_set_slot [.ref Y.p, .int (pos n : Int), .int (i : Int), v]) N rfl (ev_int (ev_add (ev_add (Evl.ev_var rfl) Evl.ev_c) (Evl.ev_var rfl)) (show (pos n : Int) + 1 + (i : Int) = ((pos n + 1 + i : Nat) : Int) by omega)) (st.rp.sl n hn i _ (sg_get hi))
  refine Evl.q_asg ex fun H1 e1 => ?_
  have y1 := (Yd.refl hy).ex e1
  refine m_go y1.at_ (Evl.ev_var rfl) (ea1 (Evl.ev_var rfl)) (by decide +kernel) fun H2 e2 => ?_
  have y2 := y1.ex e2
  refine ⟨Y, s, v, _, rfl, y2.at_, hw.mono y2.tk, by have := st.rp.ledlen; omega, fun a ha => ?_, fun H3 y3 => ?_⟩
  · obtain ⟨m, rfl, hm⟩ := ad_ptr ha
    exact ⟨_, by rw [← hm]; exact st.rp.ll m ow⟩
  have y23 := y2.go y3
  have rp3 := st.rp.more ow
  refine m_go y3.at_ (Evl.ev_var rfl) (ea3 (Evl.ev_var rfl) (Evl.ev_var rfl) (Evl.ev_var rfl)) (by decide +kernel) fun H4 e4 => ?_
  have y4 := y23.ex e4
  refine ⟨Y, _, pos n, i, v, _, rfl, y4.at_, by show pos n + 1 + i < s.words.length; rw [st.rp.wl]; omega, hw.mono y4.tk, fun H5 y5 => ?_⟩
  have y45 := y4.go y5
  have rp5 := rp3.slot (n := n) (i := i) (w := w) hn hi fun a b z => by rw [z] at ow; exact ow
  have ok' : OkS R (C.set n ((cl C n).set i w)) G := st.ok.slot hn ow
  have ou : OkW (C.set n ((cl C n).set i w)) G (sg C n i) := (st.ok.cc n hn _ (List.mem_of_getElem? (sg_get hi))).set
  have si := SI.sw0 ok' ou
  refine m_go y5.at_ (Evl.ev_var rfl) (ea1 (Evl.ev_var rfl)) (by decide +kernel) fun H6 e6 => ?_
  have y6 := y45.ex e6
  refine ⟨Y, _, x, pos, R, C.set n ((cl C n).set i w), sw0 R (C.set n ((cl C n).set i w)) G (sg C n i), sg C n i, rfl, y6.at_, rfl, hx.mono y6.tk, rp5.congrL fun m hm => ?_, si, by rw [List.length_set]; exact hC, fun H7 s7 y7 l7 r7 => k H7 s7 (y6.go y7) l7 (Rep.fin si r7)⟩
  show ((cnt R C G m : Int) + ([w].count (.ptr m) : Nat)) = ((cnt R (C.set n ((cl C n).set i w)) G m + [sg C n i].count (.ptr m) : Nat) : Int)
  have := cnt_slot (w := w) (R := R) (n := m) hn (sg_get hi)
  omega
end Gy

set_option Elab.async false
set_option linter.all false
set_option maxRecDepth 100000
set_option maxHeartbeats 1000000
/-! Part 16: pictures and papers. -/
namespace Gy
open PySem PySem.Spec PyProof.Rows L2
open Evl (Ex Ev EvL EvU EvT EvA EvO rLenS rListS rMax2)
theorem inV_ns (n : Nat) : ∀ ns : List Nat, inV (.int (n : Int)) (nsV ns) = decide (n ∈ ns)
  | [] => rfl
  | m :: ns => by
    have ih := inV_ns n ns
    unfold inV nsV at *
    rw [List.map_cons, List.any_cons, ih]
    show ((m : Int) == (n : Int) || _) = _
    by_cases h : m = n
    · subst h; simp
    · have h1 : ((m : Int) == (n : Int)) = false := by simpa using (fun z => h (by omega))
      have h2 : ¬ n = m := fun z => h z.symm
      rw [h1, Bool.false_or]
      simp [h2]
theorem ns_flat : ∀ ns : List Nat, (nsV ns).all flatV = true
  | [] => rfl
  | _ :: ns => by
    have := ns_flat ns
    unfold nsV at *
    rw [List.map_cons, List.all_cons, this]; rfl
theorem p_is_value {K : PySem.W.Frag} (N : Tk K) (vs : List V) (H : Hp) (Q : VK) (E : XK) (h : sp_is_value K vs H Q E) : t_is_value K { nx := fun _ H' => Q .non H', rt := Q } (start n_is_value vs) H := by
  obtain ⟨v, w, l, ns, rfl, hw, hh, hl, k⟩ := h
  refine Evl.q_when (b := decide (w = .non)) (Evl.et_test (Evl.ev_is (Evl.ev_op (Evl.ev_var (v := v) rfl) Evl.ev_c (z := .bl (decide (v = V.non))) fun H1 _ Q q => ⟨rfl, q H1 (Ex.refl H1)⟩) (by rw [wr_non hw]))) (fun hb H1 e1 => ?_) (fun hb H1 e1 => ?_)
  · have : w = .non := of_decide_eq_true hb
    subst this
    exact Evl.s_ret Evl.ev_c fun H2 e2 => k H2 (e1.trans e2)
  · have hn : w ≠ .non := of_decide_eq_false hb
    have hw1 := hw.mono (ex_tk e1)
    refine Evl.q_when (b := decide (tagS w = "is")) (Evl.et_test (Evl.ev_is (Evl.ev_op (ev_tag hw1 hn (Evl.ev_var rfl)) Evl.ev_c (Evl.rv_eq rfl)) (by rw [dec_str]))) (fun hb H2 e2 => ?_) (fun hb H2 e2 => ?_)
    · cases w with
      | num i =>
        have hw2 := hw1.mono (ex_tk e2)
        have ei : Ev (tOp (rIxT K) (tVar 0) (tC (.int 1))) (start n_is_value [v, .ref l]) H2 (.int i) := by
          obtain ⟨t, rfl, q⟩ := hw2
          exact Evl.ev_op (Evl.ev_var rfl) Evl.ev_c (Evl.rv_ixT (Evl.st_of q) rfl)
        exact Evl.s_ret (ev_chainLL (ev_neg Evl.ev_c) ei Evl.ev_c) fun H3 e3 => k H3 ((e1.trans e2).trans e3)
      | non => exact absurd rfl hn
      | ptr n => exact absurd (of_decide_eq_true hb) (fun z => s_is_at z.symm)
      | head i j => cases hh
    · cases w with
      | num i => exact absurd rfl (of_decide_eq_false hb)
      | non => exact absurd rfl hn
      | head i j => cases hh
      | ptr n =>
        have hw2 := hw1.mono (ex_tk e2)
        refine Evl.s_ret (Evl.ev_andV (a := true) (b := decide (n ∈ ns)) (Evl.ev_is (Evl.ev_op (ev_tag hw2 hn (Evl.ev_var rfl)) Evl.ev_c (Evl.rv_eq rfl)) (by rw [dec_str]; simp [tagS])) fun _ => Evl.ev_is (Evl.ev_op (ev_ptr hw2 (Evl.ev_var rfl)) (Evl.ev_var rfl) (Evl.rv_isL (Evl.sq_of (e2 _ _ (e1 _ _ hl))) rfl (ns_flat ns))) (by rw [inV_ns])) fun H3 e3 => ?_
        exact k H3 ((e1.trans e2).trans e3)
theorem p_led_to {K : PySem.W.Frag} (N : Tk K) (vs : List V) (H : Hp) (Q : VK) (E : XK) (h : sp_led_to K vs H Q E) : t_led_to K { nx := fun _ H' => Q .non H', rt := Q } (start n_led_to vs) H := by
  obtain ⟨v, w, rfl, hw, k⟩ := h
  refine Evl.q_when (et_at hw (Evl.ev_var rfl)) (fun hb H1 e1 => ?_) (fun hb H1 e1 => ?_)
  · cases w with
    | ptr n => exact Evl.s_ret (ev_ptr (hw.mono (ex_tk e1)) (Evl.ev_var rfl)) fun H2 e2 => k H2 (e1.trans e2)
    | _ => cases hb
  · refine Evl.s_ret Evl.ev_c fun H2 e2 => ?_
    have := k H2 (e1.trans e2)
    cases w with
    | ptr n => cases hb
    | _ => exact this
/-- sorted lists with the same members -/
theorem srt_eq : ∀ {a b : List Int}, a.Pairwise (· < ·) → b.Pairwise (· < ·) → (∀ k, k ∈ a ↔ k ∈ b) → a = b
  | [], [], _, _, _ => rfl
  | [], y :: _, _, _, h => by have := (h y).mpr List.mem_cons_self; cases this
  | x :: _, [], _, _, h => by have := (h x).mp List.mem_cons_self; cases this
  | x :: a, y :: b, ha, hb, h => by
    obtain ⟨a1, a2⟩ := List.pairwise_cons.mp ha
    obtain ⟨b1, b2⟩ := List.pairwise_cons.mp hb
    have e : x = y := by
      rcases List.mem_cons.mp ((h x).mp List.mem_cons_self) with q | q
      · exact q
      · rcases List.mem_cons.mp ((h y).mpr List.mem_cons_self) with r | r
        · exact r.symm
        · have := a1 y r; have := b1 x q; omega
    subst e
    rw [srt_eq a2 b2 fun k => ?_]
    constructor
    · intro q
      rcases List.mem_cons.mp ((h k).mp (List.mem_cons_of_mem _ q)) with r | r
      · have := a1 k q; omega
      · exact r
    · intro q
      rcases List.mem_cons.mp ((h k).mpr (List.mem_cons_of_mem _ q)) with r | r
      · have := b1 k q; omega
      · exact r
theorem evp_cb1 {r : List V → Hp → VK → Prop} {te : TE} {σ : L2.St} {H : Hp} {P P' : V → Hp → Prop} (h : EvP te σ H P) (hr : ∀ v H1, Ex H H1 → P v H1 → ∀ Q : VK, (∀ v' H2, Ex H1 H2 → P' v' H2 → Q v' H2) → r [v] H1 Q) : EvP (tCB r (tCons te tNil)) σ H P' := fun H1 e Q q =>
  h H1 e _ fun v H2 e2 p => hr v H2 (e.trans e2) p Q fun v' H3 e3 p' => q v' H3 (e2.trans e3) p'
/-- all([is_value(w, names) for w in xs]) -/
theorem e_all {K : PySem.W.Frag} {σ : L2.St} {H : Hp} {src : Nat} {a l : Addr} {xs : List V} {ws : List Wd} {ns : List Nat} (hx : WRs H xs ws) (hz : xs.length ≤ 1000) (hs : σ[src]? = some (some (.ref a))) (ha : H a = some (.lst xs)) (h2 : σ[2]? = some (some (.ref l))) (hl : H l = some (.lst (nsV ns))) (hj : 6 < σ.length)
    (hok : ∀ w ∈ ws, okV ns w = true) : Ev (tCB (rAll K) (tCons (tLc (iList K (tVar src)) (gName 6) tYes (tCall (sp_is_value K) [] E0 (tCons (tVar 6) (tCons (tVar 2) tNil))) [6]) tNil)) σ H (.bl true) := by
  have hc : EvP (tLc (iList K (tVar src)) (gName 6) tYes (tCall (sp_is_value K) [] E0 (tCons (tVar 6) (tCons (tVar 2) tNil))) [6]) σ H (fun v H' => ∃ (D : Addr) (bs : List Bool), v = .ref D ∧ H' D = some (.lst (bs.map V.bl)) ∧ bs.all id = true) := by
    refine (e_lcM (fun H => WR H) (fun _ _ (y : V) (_ : Wd) => y = .bl true) (fun w => some w) (fun H1 e => WRs.mono (ex_tk e) hx) (evp_ev (v := .ref a) (Evl.ev_var hs) fun H2 e2 => ⟨a, rfl, Evl.sq_of (e2 _ _ ha)⟩) (by omega) (fun D acc H1 H2 x b _ _ q => q) (fun D i x w acc H1 hi hw e hD hacc rw1 => ?_)).imp ?_
    · have okw := hok w (List.mem_of_getElem? hw)
      refine ⟨_, g_nm, ?_, et_yes, fun b hb => ?_⟩
      · show ((σ.set 6 none).set 6 (some x)).set 6 none = σ.set 6 none
        rw [List.set_set, List.set_set]
      · refine evp_call (ea2 (Evl.ev_var (v := x) ?_) (Evl.ev_var (v := .ref l) ?_)) fun H2 e2 Q q => ⟨x, w, l, ns, rfl, rw1.mono (ex_tk e2), ?_, e2 _ _ (e _ _ hl), fun H3 e3 => ?_⟩
        · show ((σ.set 6 none).set 6 (some x))[6]? = _
          rw [List.getElem?_set_self (by rw [List.length_set]; exact hj)]
        · show ((σ.set 6 none).set 6 (some x))[2]? = _
          rw [List.getElem?_set_ne (by omega), List.getElem?_set_ne (by omega)]; exact h2
        · cases w <;> first | rfl | cases okw
        · rw [okw]; exact q _ H3 e3 rfl
    · rintro v H1 e ⟨D, ys, rfl, hD, hys, r⟩
      rw [fm_some] at r
      refine ⟨D, (ws.map fun w => w).map fun _ => true, rfl, ?_, ?_⟩
      · rw [hys]
        congr 2
        have : ∀ {ys : List V} {ws : List Wd}, Paired (fun (y : V) (_ : Wd) => y = .bl true) ys ws → ys = (ws.map fun _ => true).map V.bl := by
          intro ys ws r
          induction r with
          | nil => rfl
          | cons r _ ih => rw [r, ih]; rfl
        exact this r
      · rw [List.all_eq_true]
        intro b hb
        obtain ⟨_, _, rfl⟩ := List.mem_map.mp hb
        rfl
  refine ev_of (evp_cb1 hc ?_)
  rintro v H1 e1 ⟨D, bs, rfl, hD, hall⟩ Q q
  refine ⟨D, bs, rfl, Evl.sq_of hD, ?_⟩
  rw [hall]; exact q _ H1 (Ex.refl H1) rfl
theorem cells_names {K : PySem.W.Frag} {σ : L2.St} {H : Hp} {c : Addr} {cs : List V} {C : List (Nat × List Wd)} (hc : H c = some (.lst cs)) (rc : Paired (CellR H) cs C) (hz : cs.length ≤ 1000) (hs : σ[1]? = some (some (.ref c))) (hj : 5 < σ.length) :
    EvP (tLc (iList K (tVar 1)) (gName 5) tYes (tOp (rIxT K) (tVar 5) (tC (.int 0))) [5]) σ H (fun v H' => ∃ D, v = .ref D ∧ H D = none ∧ H' D = some (.lst (nsV (C.map (·.1))))) := by
  refine (e_lcM (fun H => CellR H) (fun _ _ (y : V) (n : Nat) => y = .int (n : Int)) (fun e : Nat × List Wd => some e.1) (fun H1 e => pr_imp (fun v b ⟨t, l, xs, q1, q2, q3, q4⟩ => ⟨t, l, xs, q1, e _ _ q2, e _ _ q3, WRs.mono (ex_tk e) q4⟩) rc) (evp_ev (v := .ref c) (Evl.ev_var hs) fun H2 e2 => ⟨c, rfl, Evl.sq_of (e2 _ _ hc)⟩) (by omega) (fun D acc H1 H2 x b _ _ q => q) (fun D i x w acc H1 hi hw e hD hacc rw1 => ?_)).imp ?_
  · refine ⟨_, g_nm, ?_, et_yes, fun b hb => ?_⟩
    · show ((σ.set 5 none).set 5 (some x)).set 5 none = σ.set 5 none
      rw [List.set_set, List.set_set]
    · injection hb with hb
      subst hb
      obtain ⟨t, l, xs, rfl, q2, _⟩ := rw1
      refine evp_of (ev_tix (Evl.ev_var ?_) Evl.ev_c q2 rfl)
      show ((σ.set 5 none).set 5 (some (V.ref t)))[5]? = _
      rw [List.getElem?_set_self (by rw [List.length_set]; exact hj)]
  · rintro v H1 e ⟨D, ys, rfl, hD, hys, r⟩
    rw [fm_some] at r
    exact ⟨D, rfl, hD, by rw [hys, pr_ints r]⟩
theorem p_is_picture {K : PySem.W.Frag} {w : World} (N : Tk K) (vs : List V) (H : Hp) (Q : VK) (E : XK) (h : sp_is_picture K vs H Q E) : t_is_picture K w { nx := fun _ H' => Q .non H', rt := Q } (start n_is_picture vs) H := by
  obtain ⟨r, c, rs, cs, R, C, rfl, hr, rr, hc, rc, ok, k⟩ := h
  have hlc := pr_len rc
  have hlr := pr_len rr
  have c60 := ok.c60
  have r8 := ok.r8
  refine q_asgP (cells_names hc rc (by omega) rfl (by show 5 < 7; decide)) ?_
  rintro _ H1 e1 ⟨L, rfl, hL, hL1⟩
  have eints : nsV (C.map (·.1)) = ((C.map (·.1)).map fun n : Nat => (n : Int)).map V.int := nsV_ints _
  refine Evl.q_when (b := false) (Evl.et_or (a := false) (b := false) (Evl.et_is (et_neI (Evl.ev_len (Evl.ev_var rfl) (Evl.sq_of (e1 _ _ hr))) Evl.ev_c) (by rw [decide_eq_true (show (rs.length : Int) = 8 by omega)]; rfl)) fun _ => Evl.et_test ?_) (fun z => by cases z) fun _ H2 e2 => ?_
  · -- names != sorted(set(names))
    intro H2 e2 Q2 q2
    refine ⟨_, rfl, ?_⟩
    refine ⟨_, rfl, L, (C.map (·.1)).map fun n : Nat => (n : Int), rfl, by rw [← eints]; exact Evl.sq_of (e2 _ _ hL1), by rw [List.length_map, List.length_map]; omega, fun p n hp hn => ?_⟩
    rw [List.length_map, List.length_map] at hn
    refine ⟨p, _, n, rfl, upd_same, by omega, fun ns q hs hm _ hq => ?_⟩
    have e3 : ns = (C.map (·.1)).map fun n : Nat => (n : Int) := srt_eq hs (by
      rw [List.pairwise_map]
      exact ok.srt.imp fun h => by omega) fun x => by rw [hm x]; simp
    rw [e3, ← eints]
    have e23 : Ex H2 (upd (upd H2 p (SetO w p (fun j => decide (j ∈ (C.map (·.1)).map fun n : Nat => (n : Int))) n)) q (.lst (nsV (C.map (·.1))))) := (ex_new hp).trans (ex_new hq)
    refine ⟨.list ((C.map (·.1)).map pdN), .list ((C.map (·.1)).map pdN), .lst (Evl.sq_of (e23 _ _ (e2 _ _ hL1))) (nsV_dp _), .lst (Evl.sq_of upd_same) (nsV_dp _), pdNs_shaped _, pdNs_shaped _, ?_⟩
    have := pdNs_eqv (C.map (·.1)) (C.map (·.1))
    unfold pdNs at this
    rw [this, decide_eq_true rfl]
    exact q2 _ e23
  · refine Evl.q_when (b := false) ?_ (fun z => by cases z) fun _ H3 e3 => ?_
    · cases hC : C.map (·.1) with
      | nil =>
        rw [hC] at hL1
        exact Evl.et_and (b := false) (Evl.et_is (et_gt (Evl.ev_len (Evl.ev_var rfl) (Evl.sq_of (e2 _ _ hL1))) Evl.ev_c) rfl) fun z => by cases z
      | cons n ns =>
        rw [hC] at hL1
        refine Evl.et_is (Evl.et_and (et_gt (Evl.ev_len (Evl.ev_var rfl) (Evl.sq_of (e2 _ _ hL1))) Evl.ev_c) fun _ => et_lt (a := (n : Int)) (Evl.ev_op (Evl.ev_var rfl) Evl.ev_c (Evl.rv_ixL (Evl.sq_of (e2 _ _ hL1)) (show atI (nsV (n :: ns)) ((0 : Nat) : Int) = some (.int (n : Int)) from atI_nat rfl))) Evl.ev_c) ?_
        rw [decide_eq_false (show ¬ ((n : Int) < 0) by omega), Bool.and_false]
    · have e13 := e2.trans e3
      have e03 := e1.trans e13
      refine Evl.q_forL (Evl.ev_var (v := .ref c) rfl) (Evl.sq_of (e03 _ _ hc)) (fun i σ' H' => ∃ v3 v4 v5 v6, σ' = [some (.ref r), some (.ref c), some (.ref L), v3, v4, v5, v6] ∧ Ex H3 H') (fun H4 e4 => ⟨_, _, _, _, rfl, e4⟩) (fun i σ' H' _ ⟨_, _, _, _, _, e4⟩ => Evl.ex_l e4 (Evl.sq_of (e03 _ _ hc))) ?_ ?_
      · rintro i x σ' H4 hi ⟨v3, v4, v5, v6, rfl, e4⟩
        obtain ⟨cell, hcell, t, l, xs, rfl, q2, q3, q4⟩ := pr_get rc hi
        have e04 := e03.trans e4
        have hcm := List.mem_of_getElem? hcell
        have hlx := pr_len q4
        have z4 := ok.z4 cell hcm
        refine g_pr (Evl.st_of (e04 _ _ q2)) _ ?_
        refine Evl.s_when (b := false) (Evl.et_or (a := false) (b := false) (Evl.et_is (et_gt (Evl.ev_len (Evl.ev_var rfl) (Evl.sq_of (e04 _ _ q3))) Evl.ev_c) (decide_eq_false (by omega))) fun _ => Evl.et_is (Evl.et_not (Evl.et_B (e_all (l := L) (ns := C.map (·.1)) (WRs.mono (ex_tk e04) q4) (by omega) rfl (e04 _ _ q3) rfl ((e13.trans e4) _ _ hL1) (by show 6 < 7; decide) (ok.cc cell hcm)))) rfl) (fun z => by cases z) fun _ H5 e5 => ⟨_, _, _, _, rfl, e4.trans e5⟩
      · rintro σ' H4 ⟨v3, v4, v5, v6, rfl, e4⟩
        have e04 := e03.trans e4
        exact Evl.s_ret (e_all (l := L) (ns := C.map (·.1)) (WRs.mono (ex_tk e04) rr) (by omega) rfl (e04 _ _ hr) rfl ((e13.trans e4) _ _ hL1) (by show 6 < 7; decide) ok.rt) fun H5 e5 => k H5 (e04.trans e5)
theorem p_ask_picture {K : PySem.W.Frag} (N : Tk K) (vs : List V) (H : Hp) (Q : VK) (E : XK) (h : sp_ask_picture K vs H Q E) : t_ask_picture K { nx := fun _ H' => Q .non H', rt := Q } (start n_ask_picture vs) H := by
  obtain ⟨v, R, C, rfl, ⟨t, r, c, rs, cs, rfl, ht, hr, rr, hc, rc⟩, ok, k⟩ := h
  refine Evl.s_when (b := false) (Evl.et_is (Evl.et_not (Evl.et_B (b := true) (ev_of (evp_call (ea2 (ev_tix (v := .ref r) (Evl.ev_var rfl) Evl.ev_c ht rfl) (ev_tix (v := .ref c) (Evl.ev_var rfl) Evl.ev_c ht rfl)) fun H1 e1 Q1 q1 => ?_)))) rfl) (fun z => by cases z) fun _ H1 e1 => k H1 e1
  exact ⟨r, c, rs, cs, R, C, rfl, e1 _ _ hr, WRs.mono (ex_tk e1) rr, e1 _ _ hc, pr_imp (fun v b ⟨t, l, xs, q1, q2, q3, q4⟩ => ⟨t, l, xs, q1, e1 _ _ q2, e1 _ _ q3, WRs.mono (ex_tk e1) q4⟩) rc, ok, fun H2 e2 => q1 _ H2 e2 rfl⟩
end Gy

set_option Elab.async false
set_option linter.all false
set_option maxRecDepth 100000
set_option maxHeartbeats 1000000
/-! Part 17: reasons, paper_of. -/
namespace Gy
open PySem PySem.Spec PyProof.Rows L2
open Evl (Ex Ev EvL EvU EvT EvA EvO rLenS rListS rMax2)
theorem nodup_sub : ∀ {l m : List Nat}, l.Nodup → (∀ x ∈ l, x ∈ m) → l.length ≤ m.length
  | [], _, _, _ => Nat.zero_le _
  | x :: l, m, hd, h => by
    obtain ⟨h1, h2⟩ := List.nodup_cons.mp hd
    have hx := h x List.mem_cons_self
    have e := List.length_erase_of_mem hx
    have p := List.length_pos_of_mem hx
    have := nodup_sub (l := l) (m := m.erase x) h2 fun y hy => (List.mem_erase_of_ne (fun z => by rw [z] at hy; exact h1 hy)).mpr (h y (List.mem_cons_of_mem _ hy))
    rw [List.length_cons]; omega
theorem evp_T {te : TE} {σ : L2.St} {H : Hp} {xs : List V} (h : EvU te σ H xs) : EvP te σ H (fun _ _ => True) := fun H1 e Q q => h H1 e Q fun p H2 _ e2 _ => q _ H2 e2 trivial
theorem NmR.mono {H H' : Hp} {v : V} {n : Nat} (t : TK H H') (h : NmR H v n) : NmR H' v n := let ⟨a, x, e, q⟩ := h; ⟨a, x, e, t _ _ q⟩
theorem CellR.ex {H H' : Hp} {v : V} {c : Nat × List Wd} (e : Ex H H') (h : CellR H v c) : CellR H' v c := let ⟨t, l, xs, q1, q2, q3, q4⟩ := h; ⟨t, l, xs, q1, e _ _ q2, e _ _ q3, WRs.mono (ex_tk e) q4⟩
/-- what is found and told -/
structure Rsn (H0 H : Hp) (F T : Addr) (nm ns : List Nat) : Prop where
  ex : Ex H0 H
  f0 : H0 F = none
  t0 : H0 T = none
  ft : F ≠ T
  fs : ∃ xs, H F = some (.lst xs) ∧ Paired (NmR H) xs ns
  ts : ∃ kv : List (Key × V), H T = some (.dK kv) ∧ kv.length ≤ ns.length ∧ ∀ n : Nat, (valV kv (Sum.inl (n : Int))).isSome = decide (n ∈ ns)
  nd : ns.Nodup
  nm : ∀ n ∈ ns, n ∈ nm
theorem Rsn.go {H0 H H' : Hp} {F T : Addr} {nm ns : List Nat} (h : Rsn H0 H F T nm ns) (e : Ex H H') : Rsn H0 H' F T nm ns := by
  obtain ⟨xs, h1, h2⟩ := h.fs
  obtain ⟨kv, h3, h4, h5⟩ := h.ts
  exact ⟨h.ex.trans e, h.f0, h.t0, h.ft, ⟨xs, e _ _ h1, pr_imp (fun _ _ q => q.mono (ex_tk e)) h2⟩, ⟨kv, e _ _ h3, h4, h5⟩, h.nd, h.nm⟩
theorem Rsn.len {H0 H : Hp} {F T : Addr} {nm ns : List Nat} (h : Rsn H0 H F T nm ns) : ns.length ≤ nm.length := nodup_sub h.nd h.nm
theorem s_mark {K : PySem.W.Frag} {σ : L2.St} {H0 H : Hp} {F T : Addr} {nm ns : List Nat} {o : Option Nat} {tr : TE} {D : Ends} (h : Rsn H0 H F T nm ns) (hz : nm.length ≤ 1000) (h2 : σ[2]? = some (some (.ref F))) (h3 : σ[3]? = some (some (.ref T))) (h5 : σ[5]? = some (some (oInt o))) (ho : ∀ n, o = some n → n ∈ nm)
    (hr : ∀ H1 xs, H1 F = some (.lst xs) → Paired (NmR H1) xs ns → EvP tr σ H1 (fun _ _ => True)) (k : ∀ H1 ns', Rsn H0 H1 F T nm ns' → (∃ r, ns' = ns ++ r) → D.nx σ H1) :
    tIfS (tAnd (tTest (tOp rNotN (tVar 5) (tC .non))) (tB (tDNotIn (tVar 5) (tVar 3)))) (tSeq (sDPut (tVar 3) (tVar 5) (tC (.bl true))) (tDrop (tBM K "list" rAppend (tVar 2) (tCons (tTup (tCons (tVar 5) (tCons tr tNil))) tNil)))) tNext D σ H := by
  have t1 : EvT (tTest (tOp rNotN (tVar 5) (tC .non))) σ H (!decide (oInt o = V.non)) := Evl.et_test (Evl.ev_op (Evl.ev_var h5) Evl.ev_c (z := .bl (!decide (oInt o = V.non))) fun H1 _ Q q => ⟨rfl, q H1 (Ex.refl H1)⟩)
  cases o with
  | none =>
    refine Evl.s_when (Evl.et_and (a := false) (b := false) t1 fun z => by cases z) (fun z => by cases z) fun _ H1 e1 => k H1 ns (h.go e1) ⟨[], by simp⟩
  | some n =>
    have t2 : EvT (tB (tDNotIn (tVar 5) (tVar 3))) σ H (!decide (n ∈ ns)) := fun H1 e1 Q q => by
      obtain ⟨kv, h6, h7, h8⟩ := (h.go e1).ts
      refine ⟨_, h5, _, h3, T, _, rfl, DGet.k (k := (Sum.inl (n : Int) : Key)) h6, _, rfl, ?_⟩
      rw [h8 n]
      exact q H1 (Ex.refl H1)
    refine Evl.s_when (Evl.et_and (a := true) t1 fun _ => t2) (fun hb H1 e1 => ?_) fun hb H1 e1 => k H1 ns (h.go e1) ⟨[], by simp⟩
    have hb : n ∉ ns := by simpa using hb
    have h1 := h.go e1
    obtain ⟨kv, h6, h7, h8⟩ := h1.ts
    obtain ⟨xs, h9, h10⟩ := h1.fs
    have hlen := h1.len
    refine ⟨_, h3, _, h5, T, _, rfl, .inl ⟨kv, Sum.inl (n : Int), h6, rfl, by rw [sizeLine_eq]; omega, rfl⟩, ?_⟩
    have tT : TK H1 (upd H1 T (.dK (putK kv (Sum.inl (n : Int)) (.bl true)))) := tk_upd fun q w => by rw [h6] at w; cases w
    have hF : upd H1 T (.dK (putK kv (Sum.inl (n : Int)) (.bl true))) F = some (.lst xs) := by rw [upd_ne h1.ft]; exact h9
    have hT : upd H1 T (.dK (putK kv (Sum.inl (n : Int)) (.bl true))) T = some (.dK (putK kv (Sum.inl (n : Int)) (.bl true))) := upd_same
    have pF := pr_imp (fun _ _ q => NmR.mono tT q) h10
    have eX : Ex H0 (upd H1 T (.dK (putK kv (Sum.inl (n : Int)) (.bl true)))) := h1.ex.mut h1.t0
    revert tT hF hT pF eX
    generalize upd H1 T (.dK (putK kv (Sum.inl (n : Int)) (.bl true))) = H2
    intro tT hF hT pF eX
    have hxl := pr_len pF
    refine e_app (P := fun v H' => NmR H' v n) (Evl.ev_var h2) hF ((evp_tup (P := fun xs _ => ∃ y, xs = [.int (n : Int), y]) ((fun H3 e3 Q3 q3 => ?_)) (fun xs A B _ q => q) (fun zs A ⟨y, e⟩ => by rw [e]; show 2 ≤ sizeLine; decide)).imp ?_) (by omega) fun v H3 e3 hv => ?_
    · refine ⟨_, h5, ?_⟩
      obtain ⟨xs3, hx3⟩ : ∃ xs3, xs3 = xs := ⟨_, rfl⟩
      exact hr H3 xs (e3 _ _ hF) (pr_imp (fun _ _ q => NmR.mono (ex_tk e3) q) pF) H3 (Ex.refl H3) _ fun v4 H4 e4 _ => q3 _ H4 e4 ⟨v4, rfl⟩
    · rintro v H3 e3 ⟨p, zs, rfl, hp, y, rfl⟩
      exact ⟨p, y, rfl, hp⟩
    · have t3 : TK H3 (upd H3 F (.lst (xs ++ [v]))) := tk_upd fun q w => by rw [e3 _ _ hF] at w; cases w
      refine k _ (ns ++ [n]) ⟨(eX.trans e3).mut h1.f0, h1.f0, h1.t0, h1.ft, ⟨_, upd_same, pr_snoc (pr_imp (fun _ _ q => NmR.mono t3 (NmR.mono (ex_tk e3) q)) pF) (hv.mono t3)⟩, ⟨_, by rw [upd_ne h1.ft.symm]; exact e3 _ _ hT, ?_, fun m => ?_⟩, ?_, fun m hm => ?_⟩ ⟨[n], rfl⟩
      · have := length_putK kv (Sum.inl (n : Int) : Key) (.bl true)
        rw [List.length_append, List.length_singleton]; omega
      · rw [valV_put]
        by_cases q : m = n
        · rw [if_pos (by rw [q])]; simp [q]
        · rw [if_neg (fun z => q (by injection z with z; omega)), h8 m]; simp [q]
      · exact List.nodup_append.mpr ⟨h1.nd, by simp, fun x hx y hy e => hb (by rw [List.mem_singleton.mp hy] at e; rw [← e]; exact hx)⟩
      · rcases List.mem_append.mp hm with q | q
        · exact h1.nm m q
        · rw [List.mem_singleton.mp q]; exact ho n rfl
theorem merge_some {k : Key} {P : V → Prop} : ∀ (more acc : List (Key × V)), (∀ e ∈ more, e.1 = k → P e.2) → ((∃ e ∈ more, e.1 = k) ∨ ∃ v, valV acc k = some v ∧ P v) → ∃ v, valV (mergeK acc more) k = some v ∧ P v
  | [], acc, _, h => by
    rcases h with ⟨e, he, _⟩ | h
    · cases he
    · exact h
  | e :: more, acc, hp, h => by
    show ∃ v, valV (mergeK (putK acc e.1 e.2) more) k = some v ∧ P v
    refine merge_some more _ (fun f hf => hp f (List.mem_cons_of_mem _ hf)) ?_
    by_cases q : k = e.1
    · right
      exact ⟨e.2, by rw [valV_put, if_pos q], hp e List.mem_cons_self q.symm⟩
    · rcases h with ⟨f, hf, hk⟩ | ⟨v, hv, hpv⟩
      · rcases List.mem_cons.mp hf with z | z
        · subst z; exact absurd hk.symm q
        · exact .inl ⟨f, z, hk⟩
      · right
        exact ⟨v, by rw [valV_put, if_neg q]; exact hv, hpv⟩
theorem ptr_in {ns : List Nat} {w : Wd} {n : Nat} (h : okV ns w = true) (e : ptrOf w = some n) : n ∈ ns := by
  cases w with
  | ptr m => injection e with e; subst e; exact of_decide_eq_true h
  | _ => cases e
theorem evp_led {K : PySem.W.Frag} {σ : L2.St} {H : Hp} {v : V} {w : Wd} {te : TE} (hw : WR H v w) (he : Ev te σ H v) : EvP (tCall (sp_led_to K) [] E0 (tCons te tNil)) σ H (fun x _ => x = oInt (ptrOf w)) :=
  evp_call (ea1 he) fun H1 e1 Q q => ⟨v, w, rfl, hw.mono (ex_tk e1), fun H2 e2 => q _ H2 e2 rfl⟩
theorem p_reasons {K : PySem.W.Frag} (N : Tk K) (vs : List V) (H : Hp) (Q : VK) (E : XK) (h : sp_reasons K vs H Q E) : t_reasons K { nx := fun _ H' => Q .non H', rt := Q } (start n_reasons vs) H := by
  obtain ⟨v, R, C, rfl, ⟨t, r, c, rs, cs, rfl, ht, hr, rr, hc, rc⟩, ok, k⟩ := h
  have hlc := pr_len rc
  have hlr := pr_len rr
  have c60 := ok.c60
  have r8 := ok.r8
  refine q_dropP (P := fun _ _ => True) (evp_call (ea1 (Evl.ev_var rfl)) fun H1 e1 Q1 q1 => ⟨.ref t, R, C, rfl, ⟨t, r, c, rs, cs, rfl, e1 _ _ ht, e1 _ _ hr, WRs.mono (ex_tk e1) rr, e1 _ _ hc, pr_imp (fun _ _ q => q.ex e1) rc⟩, ok, fun H2 e2 => q1 _ H2 e2 trivial⟩) fun _ H1 e1 _ => ?_
  -- slots_of
  have hd : EvP (tCB (rDictP K) (tCons (tOp (rIxT K) (tVar 0) (tC (.int 1))) tNil)) (start n_reasons [.ref t]) H1 (fun v H' => ∃ d kv, v = .ref d ∧ H1 d = none ∧ H' d = some (.dK kv) ∧ ∀ n : Nat, n ∈ C.map (·.1) → ∃ x, valV kv (Sum.inl (n : Int)) = some x ∧ ∃ cc ∈ C, ∃ l xs, x = .ref l ∧ H' l = some (.lst xs) ∧ WRs H' xs cc.2) := by
    refine evp_cb1 (evp_of (ev_tix (v := .ref c) (Evl.ev_var rfl) Evl.ev_c (e1 _ _ ht) rfl)) fun v H2 e2 hv Q2 q2 => ?_
    subst hv
    have e02 := e1.trans e2
    obtain ⟨ps, kv, hps, hpk, hkv⟩ : ∃ (ps : List Addr) (kv : List (Key × V)), cs = ps.map V.ref ∧ Paired (fun p kv => SqT K H2 p [kV kv.1, kv.2]) ps kv ∧ Paired (fun (e : Key × V) (cc : Nat × List Wd) => e.1 = Sum.inl (cc.1 : Int) ∧ ∃ l xs, e.2 = .ref l ∧ H2 l = some (.lst xs) ∧ WRs H2 xs cc.2) kv C := by
      have rc2 := pr_imp (fun _ _ (q : CellR H _ _) => q.ex e02) rc
      revert rc2
      generalize cs = cs'
      generalize C = C'
      intro rc2
      induction rc2 with
      | nil => exact ⟨[], [], rfl, .nil, .nil⟩
      | @cons a b as bs q _ ih =>
        obtain ⟨ps, kv, h1, h2, h3⟩ := ih
        obtain ⟨t, l, xs, rfl, q2, q3, q4⟩ := q
        exact ⟨t :: ps, (Sum.inl (b.1 : Int), .ref l) :: kv, by rw [h1]; rfl, .cons (Evl.st_of q2) h2, .cons ⟨rfl, l, xs, rfl, q3, q4⟩ h3⟩
    refine ⟨c, ps, kv, rfl, by rw [← hps]; exact Evl.sq_of (e02 _ _ hc), hpk, fun p hp => q2 _ _ (ex_new hp) ⟨p, _, rfl, Evl.fresh_back e2 hp, upd_same, fun n hn => ?_⟩⟩
    have kvs := pr_imp (S := fun (e : Key × V) (cc : Nat × List Wd) => e.1 = Sum.inl (cc.1 : Int) ∧ ∃ l xs, e.2 = .ref l ∧ upd H2 p (.dK (mergeK [] kv)) l = some (.lst xs) ∧ WRs (upd H2 p (.dK (mergeK [] kv))) xs cc.2) (fun _ _ ⟨h1, l, xs, h2, h3, h4⟩ => ⟨h1, l, xs, h2, ex_new hp _ _ h3, WRs.mono (ex_tk (ex_new hp)) h4⟩) hkv
    refine merge_some (P := fun x => ∃ cc ∈ C, ∃ l xs, x = .ref l ∧ upd H2 p (.dK (mergeK [] kv)) l = some (.lst xs) ∧ WRs (upd H2 p (.dK (mergeK [] kv))) xs cc.2) kv [] (fun e he _ => ?_) (.inl ?_)
    · obtain ⟨cc, h1, h2, l, xs, h3, h4, h5⟩ := pr_mem kvs he
      exact ⟨cc, h1, l, xs, h3, h4, h5⟩
    · obtain ⟨cc, h1, h2⟩ := List.mem_map.mp hn
      obtain ⟨i, hi⟩ := List.getElem?_of_mem h1
      obtain ⟨e, he, h3, _⟩ := pr_getR kvs hi
      exact ⟨e, List.mem_of_getElem? he, by rw [h3, h2]⟩
  refine q_asgP hd ?_
  rintro _ H2 e2 ⟨d, kv, rfl, hd0, hd2, hdv⟩
  refine Evl.q_asgL (Evl.el_lst Evl.ea_nil (by show 0 ≤ 100000; decide)) fun F H3 hF e3 hF3 => ?_
  have e03 := (e1.trans e2).trans e3
  -- told
  show tSeq (tAsg tDNewK (gName 3)) _ _ _ _
  intro T hT
  have e34 : Ex H3 (upd H3 T (.dK [])) := ex_new hT
  have ft : F ≠ T := fun z => by rw [z, hT] at hF3; cases hF3
  have J0 : Rsn H2 (upd H3 T (.dK [])) F T (C.map (·.1)) [] := ⟨e3.trans e34, hF, Evl.fresh_back e3 hT, ft, ⟨[], e34 _ _ hF3, .nil⟩, ⟨[], upd_same, Nat.le_refl _, fun n => rfl⟩, .nil, fun n q => by cases q⟩
  have hnm : (C.map (·.1)).length ≤ 1000 := by rw [List.length_map]; omega
  revert J0
  generalize upd H3 T (.dK []) = H4
  intro J0
  have e02 := e1.trans e2
  refine Evl.q_forR1 (n := 8) (ea1 Evl.ev_c) ⟨by decide, by decide⟩ (fun i σ' H' => ∃ v4 v5 ns, σ' = [some (.ref t), some (.ref d), some (.ref F), some (.ref T), v4, v5, none, none] ∧ Rsn H2 H' F T (C.map (·.1)) ns) (fun H5 e5 => ⟨_, _, [], rfl, J0.go e5⟩) ?_ ?_
  · rintro i σ' H5 hi ⟨v4, v5, ns, rfl, J5⟩
    have hi' : i < R.length := by omega
    obtain ⟨x, hx, rx⟩ := pr_getR rr (List.getElem?_eq_getElem hi')
    have e05 := e02.trans J5.ex
    refine q_asgP (evp_led (rx.mono (ex_tk e05)) (ev_lix (l := r) (ev_tix (v := .ref r) (Evl.ev_var rfl) Evl.ev_c (e05 _ _ ht) rfl) (Evl.ev_var rfl) (e05 _ _ hr) hx)) fun y H6 e6 hy => ?_
    subst hy
    exact s_mark (J5.go e6) hnm rfl rfl rfl (fun n hn => ptr_in (ok.rt _ (List.getElem_mem hi')) hn) (fun H7 xs7 _ _ => evp_T (Evl.eu_tup (ea2 Evl.ev_c (Evl.ev_var rfl)) (by show 2 ≤ 100000; decide))) fun H7 ns' J7 _ => ⟨_, _, ns', rfl, J7⟩
  · rintro σ' H5 ⟨v4, v5, ns, rfl, J5⟩
    refine Evl.q_asg Evl.ev_c fun H6 e6 => ?_
    refine Evl.q_while (fun m σ' H' => ∃ (v4 v5 v7 : Option V) (ns : List Nat) (a : Nat), σ' = [some (.ref t), some (.ref d), some (.ref F), some (.ref T), v4, v5, some (.int (a : Int)), v7] ∧ Rsn H2 H' F T (C.map (·.1)) ns ∧ a ≤ (C.map (·.1)).length ∧ m = (C.map (·.1)).length - a) _ ⟨v4, v5, none, ns, 0, rfl, J5.go e6, Nat.zero_le _, rfl⟩ ?_
    rintro m σ' H7 ⟨v4, v5, v7, ns, a, rfl, J7, ha, rfl⟩
    obtain ⟨xs, hx, px⟩ := J7.fs
    have hxl := pr_len px
    have hnl := J7.len
    refine ⟨decide ((a : Int) < (xs.length : Int)), et_lt (Evl.ev_var rfl) (Evl.ev_len (Evl.ev_var rfl) (Evl.sq_of hx)), fun hb H8 e8 => ?_, fun hb H8 e8 => ?_⟩
    · have hal : a < ns.length := by have := of_decide_eq_true hb; omega
      obtain ⟨n0, hn0⟩ : ∃ n0, ns[a]? = some n0 := ⟨_, List.getElem?_eq_getElem hal⟩
      have J8 := J7.go e8
      refine ⟨fun σ' H' => ∃ (v4 v5 v7 : Option V) (ns : List Nat), σ' = [some (.ref t), some (.ref d), some (.ref F), some (.ref T), v4, v5, some (.int ((a + 1 : Nat) : Int)), v7] ∧ Rsn H2 H' F T (C.map (·.1)) ns, ?_, ?_⟩
      · rintro σ3 H9 ⟨v4, v5, v7, ns, rfl, J9⟩
        exact ⟨_, by omega, v4, v5, v7, ns, a + 1, rfl, J9, by omega, rfl⟩
      -- found[at][0]
      have ef : ∀ {v4 v5 v7 : Option V} {H9 : Hp} {ys : List V}, H9 F = some (.lst ys) → (∃ y, ys[a]? = some y ∧ NmR H9 y n0) → Ev (tOp (rIxT K) (tOp (rIxL K) (tVar 2) (tVar 6)) (tC (.int 0))) [some (.ref t), some (.ref d), some (.ref F), some (.ref T), v4, v5, some (.int (a : Int)), v7] H9 (.int (n0 : Int)) := fun hf hy => by
        obtain ⟨y, hy1, tt, xx, rfl, hy2⟩ := hy
        exact ev_tix (ev_lix (Evl.ev_var rfl) (Evl.ev_var rfl) hf hy1) Evl.ev_c hy2 rfl
      have hn0m : n0 ∈ C.map (·.1) := J7.nm n0 (List.mem_of_getElem? hn0)
      obtain ⟨x0, hx0, cc, hcc, l, ys, rfl, hl, rl⟩ := hdv n0 hn0m
      have e28 := J8.ex
      obtain ⟨xs8, hx8, px8⟩ := J8.fs
      refine Evl.q_asg (v := .ref l) (fun H9 e9 Q9 q9 => ?_) fun H9 e9 => ?_
      · refine ⟨_, rfl, ?_⟩
        refine ef (e9 _ _ hx8) (by obtain ⟨y, h1, h2⟩ := pr_getR px8 hn0; exact ⟨y, h1, h2.mono (ex_tk e9)⟩) H9 (Ex.refl H9) _ fun H10 e10 => ?_
        refine ⟨d, _, rfl, ?_, q9 H10 e10⟩
        have z := DGet.k (k := (Sum.inl (n0 : Int) : Key)) (kvs := kv) (((e28.trans e9).trans e10) _ _ hd2)
        rw [hx0] at z
        exact z
      · have J9 := J8.go e9
        have hll := pr_len rl
        have z4 := ok.z4 cc hcc
        refine Evl.q_forR1 (n := (ys.length : Int)) (ea1 (Evl.ev_len (Evl.ev_var rfl) (Evl.sq_of (J9.ex _ _ hl)))) ⟨by omega, by omega⟩ (fun i σ' H' => ∃ (v4 v5 : Option V) (ns' : List Nat), σ' = [some (.ref t), some (.ref d), some (.ref F), some (.ref T), v4, v5, some (.int (a : Int)), some (.ref l)] ∧ Rsn H2 H' F T (C.map (·.1)) ns' ∧ ns'[a]? = some n0) (fun H10 e10 => ⟨_, _, ns, rfl, J9.go e10, hn0⟩) ?_ ?_
        · rintro i σ' H10 hi ⟨v4, v5, ns', rfl, J10, hn⟩
          have hi' : i < cc.2.length := by omega
          obtain ⟨x, hx, rx⟩ := pr_getR rl (List.getElem?_eq_getElem hi')
          refine q_asgP (evp_led (rx.mono (ex_tk J10.ex)) (ev_lix (l := l) (Evl.ev_var rfl) (Evl.ev_var rfl) (J10.ex _ _ hl) hx)) fun y H11 e11 hy => ?_
          subst hy
          refine s_mark (J10.go e11) hnm rfl rfl rfl (fun n hn => ptr_in (ok.cc cc hcc _ (List.getElem_mem hi')) hn) (fun H12 ys12 hf12 pf12 => ?_) fun H12 ns12 J12 ⟨r12, er⟩ => ⟨_, _, ns12, rfl, J12, ?_⟩
          · have en := ef (v4 := some (.int (i : Int))) (v5 := some (oInt (ptrOf (cc.2[i]'hi')))) (v7 := some (.ref l)) hf12 (pr_getR pf12 hn)
            exact evp_T (Evl.eu_tup (ea3 Evl.ev_c en (Evl.ev_var rfl)) (by show 3 ≤ 100000; decide))
          · rw [er, List.getElem?_append_left (List.getElem?_eq_some_iff.mp hn).1]; exact hn
        · rintro σ' H10 ⟨v4, v5, ns', rfl, J10, hn⟩
          refine Evl.s_asg (ev_int (ev_add (Evl.ev_var rfl) Evl.ev_c) (by omega)) fun H11 e11 => ⟨_, _, _, ns', rfl, J10.go e11⟩
    · refine Evl.s_ret (Evl.ev_var rfl) fun H9 e9 => ?_
      have J9 := (J7.go e8).go e9
      obtain ⟨xs9, hx9, px9⟩ := J9.fs
      have := pr_len px9
      have := J9.len
      exact k H9 F xs9 ns (e02.trans J9.ex) (Evl.fresh_back e02 hF) hx9 px9 (by omega)
end Gy

set_option Elab.async false
set_option linter.all false
set_option maxRecDepth 100000
set_option maxHeartbeats 1000000
/-! Part 18: paper_of, outer, saved. -/
namespace Gy
open PySem PySem.Spec PyProof.Rows L2
open Evl (Ex Ev EvL EvU EvT EvA EvO rLenS rListS rMax2)
/-- [x for x, y in l], the first an int -/
theorem e_firsts {K : PySem.W.Frag} {σ : L2.St} {H : Hp} {tl : TE} {i j : Nat} {xs : List V} {ns : List Nat} (hx : Paired (NmR H) xs ns) (hl : EvP tl σ H (fun v H' => ∃ a, v = .ref a ∧ SqL K H' a xs)) (hz : xs.length ≤ 40000) (hi : i < σ.length) (hj : j < σ.length) (hij : i < j) :
    EvP (tLc (iList K tl) (gTup K 2 (gCons (gName i) (gCons (gName j) gNil))) tYes (tVar i) [i, j]) σ H (fun v H' => ∃ D, v = .ref D ∧ H D = none ∧ H' D = some (.lst (nsV ns))) := by
  refine (e_lcM (fun H => NmR H) (fun _ _ (y : V) (n : Nat) => y = .int (n : Int)) (fun n : Nat => some n) (fun H1 e => pr_imp (fun _ _ q => q.mono (ex_tk e)) hx) hl hz (fun D acc H1 H2 x b _ _ q => q) (fun D k x n acc H1 hi1 hn e hD hacc rw1 => ?_)).imp ?_
  · obtain ⟨t, y, rfl, q⟩ := rw1
    refine ⟨_, g_pr (Evl.st_of q), ?_, et_yes, fun b hb => ?_⟩
    · apply List.ext_getElem?
      intro m
      simp only [wipe, List.foldl, List.foldr, List.getElem?_set, List.length_set]
      by_cases e1 : j = m
      · simp [e1]
      · by_cases e2 : i = m
        · simp [e1, e2]
        · simp [e1, e2]
    · injection hb with hb
      subst hb
      refine evp_of (Evl.ev_var ?_)
      rw [List.getElem?_set_ne (by omega), List.getElem?_set_self (by simp only [wipe, List.foldl, List.foldr, List.length_set]; exact hi)]
  · rintro v H1 e ⟨D, ys, rfl, hD, hys, r⟩
    rw [fm_some] at r
    exact ⟨D, rfl, hD, by rw [hys, pr_ints r, List.map_id']⟩
theorem p_paper_of {K : PySem.W.Frag} (N : Tk K) (vs : List V) (H : Hp) (Q : VK) (E : XK) (h : sp_paper_of K vs H Q E) : t_paper_of K { nx := fun _ H' => Q .non H', rt := Q } (start n_paper_of vs) H := by
  obtain ⟨v, R, C, rfl, pic, ok, k⟩ := h
  have picx : ∀ {H1}, Ex H H1 → PicAt H1 v R C := fun e1 => by
    obtain ⟨t, r, c, rs, cs, rfl, ht, hr, rr, hc, rc⟩ := pic
    exact ⟨t, r, c, rs, cs, rfl, e1 _ _ ht, e1 _ _ hr, WRs.mono (ex_tk e1) rr, e1 _ _ hc, pr_imp (fun _ _ q => q.ex e1) rc⟩
  refine q_asgP (P := fun v H' => ∃ D xs ns, v = .ref D ∧ H D = none ∧ H' D = some (.lst xs) ∧ Paired (NmR H') xs ns ∧ xs.length ≤ 1000) (evp_call (ea1 (Evl.ev_var rfl)) fun H1 e1 Q1 q1 => ⟨v, R, C, rfl, picx e1, ok, fun H2 D xs ns e2 hD hx px hz => q1 _ H2 e2 ⟨D, xs, ns, rfl, Evl.fresh_back e1 hD, hx, px, hz⟩⟩) ?_
  rintro _ H1 e1 ⟨F, xs, ns, rfl, hF, hx, px, hz⟩
  refine q_asgP (e_firsts px (evp_ev (v := .ref F) (Evl.ev_var rfl) fun H2 e2 => ⟨F, rfl, Evl.sq_of (e2 _ _ hx)⟩) (by omega) (by show 3 < 6; decide) (by show 4 < 6; decide) (by decide)) ?_
  rintro _ H2 e2 ⟨L, rfl, hL, hL2⟩
  have e02 := e1.trans e2
  obtain ⟨t, r, c, rs, cs, rfl, ht, hr, rr, hc, rc⟩ := picx e02
  have hlc := pr_len rc
  have c60 := ok.c60
  refine s_retP (P := fun v' H' => PapAt H H' v') ?_ fun v' H3 e3 hv => k v' H3 (e02.trans e3) hv
  have hsw : EvP (tLc (iList K (tOp (rIxT K) (tVar 0) (tC (.int 1)))) (gName 5) (tTest (tOp (rIn K true) (tOp (rIxT K) (tVar 5) (tC (.int 0))) (tVar 2))) (tOp (rIxT K) (tVar 5) (tC (.int 0))) [5]) [some (.ref t), some (.ref F), some (.ref L), none, none, none] H2 (fun v H' => ∃ D ys, v = .ref D ∧ H2 D = none ∧ H' D = some (.lst ys)) := by
    refine (e_lcM (fun H => CellR H) (fun _ _ (y : V) (n : Nat) => y = .int (n : Int)) (fun cc : Nat × List Wd => if decide (cc.1 ∉ ns) = true then some cc.1 else none) (fun H1 e => pr_imp (fun _ _ q => q.ex e) rc) (evp_ev (v := .ref c) (ev_tix (Evl.ev_var rfl) Evl.ev_c ht rfl) fun H3 e3 => ⟨c, rfl, Evl.sq_of (e3 _ _ hc)⟩) (by omega) (fun D acc H1 H2 x b _ _ q => q) (fun D i x cc acc H3 hi hw e hD hacc rw1 => ?_)).imp ?_
    · obtain ⟨t2, l, ys, rfl, q2, _⟩ := rw1
      refine ⟨_, g_nm, rfl, ?_, fun b hb => ?_⟩
      · rw [gd_some]
        refine Evl.et_test (Evl.ev_is (Evl.ev_op (ev_tix (v := .int (cc.1 : Int)) (Evl.ev_var rfl) Evl.ev_c q2 rfl) (Evl.ev_var rfl) (Evl.rv_niL (Evl.sq_of (e _ _ hL2)) rfl (ns_flat ns))) ?_)
        rw [inV_ns, decide_not]
      · have : cc.1 = b := by
          by_cases q : decide (cc.1 ∉ ns) = true
          · rw [if_pos q] at hb; injection hb
          · rw [if_neg q] at hb; cases hb
        subst this
        exact evp_of (ev_tix (Evl.ev_var rfl) Evl.ev_c q2 rfl)
    · rintro v H3 e ⟨D, ys, rfl, hD, hys, _⟩
      exact ⟨D, ys, rfl, hD, hys⟩
  have hev : EvAP (tCons (tVar 1) (tCons (tLc (iList K (tOp (rIxT K) (tVar 0) (tC (.int 1)))) (gName 5) (tTest (tOp (rIn K true) (tOp (rIxT K) (tVar 5) (tC (.int 0))) (tVar 2))) (tOp (rIxT K) (tVar 5) (tC (.int 0))) [5]) tNil)) [some (.ref t), some (.ref F), some (.ref L), none, none, none] H2 (fun zs H' => ∃ k s kx sx, zs = [.ref k, .ref s] ∧ H' k = some (.lst kx) ∧ H' s = some (.lst sx) ∧ H k = none ∧ H s = none) := by
    intro H3 e3 Q3 q3
    refine ⟨_, rfl, hsw H3 e3 _ ?_⟩
    rintro _ H4 e4 ⟨D, ys, rfl, hD, hys⟩
    exact q3 _ H4 e4 ⟨F, D, xs, ys, rfl, (e2.trans (e3.trans e4)) _ _ hx, hys, hF, Evl.fresh_back e02 hD⟩
  refine (evp_tup hev ?_ ?_).imp ?_
  · rintro zs A B e ⟨a, b, ax, bx, rfl, h1, h2, h3, h4⟩
    exact ⟨a, b, ax, bx, rfl, e _ _ h1, e _ _ h2, h3, h4⟩
  · rintro zs A ⟨a, b, ax, bx, rfl, _⟩
    show 2 ≤ sizeLine; decide
  · rintro v' H3 e3 ⟨p, zs, rfl, hp, a, b, ax, bx, rfl, h1, h2, h3, h4⟩
    exact ⟨p, a, b, ax, bx, rfl, hp, h1, h2, h3, h4⟩
/-! ### decs -/
theorem decs_keys {ts : List Nat} : ∀ {l : List (Nat × Int)}, (∀ t ∈ ts, t ∈ l.map (·.1)) → (decs l ts).map (·.1) = l.map (·.1) := by
  induction ts with
  | nil => intro l _; rfl
  | cons t ts ih =>
    intro l h
    show (decs (putL l t ((lookL l t).getD 0 - 1)) ts).map (·.1) = _
    obtain ⟨c, hc⟩ := lookL_key (h t List.mem_cons_self)
    have e := putL_keys (l := l) (a := t) (c := (lookL l t).getD 0 - 1) (by rw [hc]; exact fun z => by cases z)
    rw [ih fun u hu => by rw [e]; exact h u (List.mem_cons_of_mem _ hu), e]
theorem decs_look {ts : List Nat} : ∀ {l : List (Nat × Int)}, (∀ t ∈ ts, t ∈ l.map (·.1)) → ∀ a, lookL (decs l ts) a = (lookL l a).map fun c : Int => c - ((ts.count a : Nat) : Int) := by
  induction ts with
  | nil => intro l _ a; show lookL l a = _; cases lookL l a <;> simp
  | cons t ts ih =>
    intro l h a
    show lookL (decs (putL l t ((lookL l t).getD 0 - 1)) ts) a = _
    obtain ⟨c, hc⟩ := lookL_key (h t List.mem_cons_self)
    have e := putL_keys (l := l) (a := t) (c := (lookL l t).getD 0 - 1) (by rw [hc]; exact fun z => by cases z)
    rw [ih (fun u hu => by rw [e]; exact h u (List.mem_cons_of_mem _ hu)), lookL_put]
    by_cases q : a = t
    · subst q
      rw [if_pos rfl, hc, List.count_cons_self]
      show some (c - 1 - _) = some (c - _)
      congr 1; omega
    · rw [if_neg q, List.count_cons_of_ne (fun z => q z.symm)]
theorem decs_app (l : List (Nat × Int)) (a b : List Nat) : decs l (a ++ b) = decs (decs l a) b := by unfold decs; rw [List.foldl_append]
theorem decs_len {l : List (Nat × Int)} {ts : List Nat} (h : ∀ t ∈ ts, t ∈ l.map (·.1)) : (decs l ts).length = l.length := by
  have := congrArg List.length (decs_keys h)
  rw [List.length_map, List.length_map] at this
  exact this
theorem inAll_app (words : List Wd) (a b : List Nat) : inAll words (a ++ b) = inAll words a ++ inAll words b := by unfold inAll; rw [List.flatMap_append]
theorem inAll_one (words : List Wd) (a : Nat) : inAll words [a] = innerW words a (szAt words a) := by unfold inAll; simp
theorem inner_len (words : List Wd) (a z : Nat) : (innerW words a z).length ≤ z := by
  unfold innerW slotsW
  refine Nat.le_trans (List.length_filterMap_le _ _) ?_
  rw [List.length_take]; omega
theorem Keys.all {s : YS} (h : Keys s) {ks : List Nat} (hk : ∀ a ∈ ks, a ∈ s.led.map (·.1)) : ∀ t ∈ inAll s.words ks, t ∈ s.led.map (·.1) := fun t ht => by
  obtain ⟨a, h1, h2⟩ := List.mem_flatMap.mp ht
  obtain ⟨n, z, h3, _, h5⟩ := h a (hk a h1)
  rw [szAt_of h3] at h2
  exact h5 t h2
end Gy

set_option Elab.async false
set_option linter.all false
set_option maxRecDepth 100000
set_option maxHeartbeats 1000000
/-! Part 19: outer, saved. -/
namespace Gy
open PySem PySem.Spec PyProof.Rows L2
open Evl (Ex Ev EvL EvU EvT EvA EvO rLenS rListS rMax2)
section
variable {K : PySem.W.Frag} {σ : L2.St} {H : Hp} {tl to ta td : TE} {g : TG} {tu : TS} {D : Ends} {P : V → Hp → Prop}
/-- the list is made first -/
theorem s_forU (h : EvP tl σ H P) (k : ∀ v H1, Ex H H1 → P v H1 → tFor (iList K (tC v)) g tu D σ H1) : tFor (iList K tl) g tu D σ H := h H (Ex.refl H) _ fun v H1 e p => k v H1 e p
theorem s_forKeys {d : Addr} {o : Obj} {kv : List (Key × V)} (h : Ev td σ H (.ref d)) (hf : H d = some (.frz o (.dK kv))) (Pv : Nat → L2.St → Hp → Prop) (h0 : ∀ H1, Ex H H1 → Pv 0 σ H1) (hG : ∀ i σ H, i ≤ kv.length → Pv i σ H → H d = some (.frz o (.dK kv)))
    (hs : ∀ i x σ' H H', i < kv.length → Pv i σ' H → (H' = H ∧ ∃ k v, kv[i]? = some (k, v) ∧ x = kV k) → g x σ' H' fun σ2 H2 => tu { D with nx := Pv (i + 1), ct := Pv (i + 1), bk := D.nx } σ2 H2) (hd : ∀ σ' H, Pv kv.length σ' H → D.nx σ' H) : tFor (iKeys td) g tu D σ H :=
  h H (Ex.refl H) _ fun H1 e => ⟨d, o, rfl, .inl ⟨kv, e _ _ hf, for_it walk_keys Pv (h0 H1 e) hG hs hd⟩⟩
theorem e_inner {p dx lw : Addr} {fs : List (Str × V)} {ws : List V} {words : List Wd} {a n z : Nat} (hi : H p = some (.ins (aC K) dx fs)) (hn : fs.lookup ("inner" : Str) = none) (hl : fs.lookup ("words" : Str) = some (V.ref lw)) (hw : H lw = some (.lst ws)) (r : WRs H ws words)
    (hh : words[a]? = some (.head n z)) (hz : a + z < words.length) (hlen : words.length ≤ 1000) (ho : Ev to σ H (.ref p)) (ha : Ev ta σ H (.int (a : Int))) :
    EvP (tMeth (aC K) "inner" (sp_inner K) [] E0 to (tCons ta tNil)) σ H (fun v H' => ∃ D, v = .ref D ∧ H D = none ∧ H' D = some (.lst (nsV (innerW words a z)))) := fun H0 e0 Q q =>
  ho H0 e0 _ fun H1 e1 => by
    have e01 := e0.trans e1
    refine ⟨p, dx, fs, rfl, e01 _ _ hi, hn, ea1 ha H1 e01 _ fun H2 e2 => ?_⟩
    have e02 := e01.trans e2
    exact ⟨p, dx, lw, fs, ws, words, a, n, z, rfl, e02 _ _ hi, hl, e02 _ _ hw, WRs.mono (ex_tk e02) r, hh, hz, hlen, fun H3 D e3 hD h3 => q _ H3 ((e1.trans e2).trans e3) ⟨D, rfl, Evl.fresh_back e02 hD, h3⟩⟩
theorem inner_no : ("inner" : Str) ∉ flNames := by decide +kernel
/-- sorted(list(d)) -/
theorem e_sorted {d : Addr} {l : List (Nat × Int)} (hd : Ev td σ H (.ref d)) (hl : H d = some (.dK (kvs l))) :
    EvP (tCB (rSortedI K) (tCons (tCB rListD (tCons td tNil)) tNil)) σ H (fun v H' => ∃ a ks, v = .ref a ∧ H a = none ∧ H' a = some (.lst (nsV ks)) ∧ ks.Perm (l.map (·.1))) := by
  have ek : (kvs l).map (fun kv => kV kv.1) = nsV (l.map (·.1)) := by
    unfold kvs nsV
    rw [List.map_map, List.map_map]; rfl
  refine evp_cb1 (P := fun v H' => ∃ a, v = .ref a ∧ H a = none ∧ H' a = some (.lst (nsV (l.map (·.1))))) (evp_cb1 (evp_of hd) fun v H1 e1 hv Q q => ?_) ?_
  · subst hv
    refine ⟨d, kvs l, rfl, e1 _ _ hl, fun p hp => ?_⟩
    rw [ek]
    exact q _ _ (ex_new hp) ⟨p, rfl, Evl.fresh_back e1 hp, upd_same⟩
  · rintro _ H1 e1 ⟨a, rfl, ha, hl1⟩ Q q
    rw [nsV_ints] at hl1
    refine ⟨a, _, rfl, Evl.sq_of hl1, fun ns' p hp _ hn => ?_⟩
    have pr : ∀ ks : List Nat, Paired (fun (i : Int) (n : Nat) => i = (n : Int)) (ks.map fun n : Nat => (n : Int)) ks := fun ks => by
      induction ks with
      | nil => exact .nil
      | cons a ks ih => exact .cons rfl ih
    obtain ⟨ks, h1, h2⟩ := pr_perm hp (pr (l.map (·.1)))
    have e3 : ns'.map V.int = nsV ks := by
      have : ∀ {is : List Int} {ks : List Nat}, Paired (fun (i : Int) (n : Nat) => i = (n : Int)) is ks → is.map V.int = nsV ks := by
        intro is ks r
        induction r with
        | nil => rfl
        | cons r _ ih => rw [List.map_cons, ih, r]; rfl
      exact this h1
    rw [e3]
    exact q _ _ (ex_new hn) ⟨p, ks, rfl, Evl.fresh_back e1 hn, upd_same, h2⟩
end
theorem kvs_get {l : List (Nat × Int)} {i : Nat} {k : Key} {v : V} (h : (kvs l)[i]? = some (k, v)) : ∃ e, l[i]? = some e ∧ k = Sum.inl (e.1 : Int) := by
  unfold kvs at h
  rw [List.getElem?_map] at h
  cases q : l[i]? with
  | none => rw [q] at h; cases h
  | some e =>
    rw [q] at h
    injection h with h
    injection h with h1 h2
    exact ⟨e, rfl, h1.symm⟩
theorem p_outer {K : PySem.W.Frag} (N : Tk K) (vs : List V) (H : Hp) (Q : VK) (E : XK) (h : sp_outer K vs H Q E) : t_outer K { nx := fun _ H' => Q .non H', rt := Q } (start n_outer vs) H := by
  obtain ⟨Y, s, rfl, hy, hwl, hll, hk, k⟩ := h
  refine q_asgP (P := fun v H' => ∃ D, v = .ref D ∧ H D = none ∧ H' D = some (.dK (kvs s.led))) (evp_cb1 (evp_of (hy.eled (i := 0) (σ := start n_outer [.ref Y.p]) N rfl)) fun v H1 e1 hv Q1 q1 => ?_) ?_
  · subst hv
    exact ⟨Y.ld, kvs s.led, rfl, .inl ((hy.ex e1).ld), fun p hp => q1 _ _ (ex_new hp) ⟨p, rfl, Evl.fresh_back e1 hp, upd_same⟩⟩
  rintro _ H1 e1 ⟨D, rfl, hD, hD1⟩
  have hy1 := hy.ex e1
  have nDl : D ≠ Y.ld := fun z => by rw [z, hy.ld] at hD; cases hD
  refine ⟨Y.ld, .dK (kvs s.led), hy1.ld, trivial, fun od => ?_⟩
  -- the frozen heaps
  obtain ⟨Hb, hHb⟩ : ∃ Hb, Hb = upd H Y.ld (.frz od (.dK (kvs s.led))) := ⟨_, rfl⟩
  have hbD : Hb D = none := by rw [hHb, upd_ne nDl]; exact hD
  obtain ⟨n1, n2, n3, n4, n5, n6, n7⟩ := hy.ne
  have tkb : TK H Hb := by rw [hHb]; exact tk_upd fun q w => by rw [hy.ld] at w; cases w
  obtain ⟨lf, lv, hi, _⟩ := hy.ins
  obtain ⟨ws, hws, rws⟩ := hy.wd
  have hib : Hb Y.p = some (.ins (aC K) Y.dx (fls Y s.born lf lv)) := by rw [hHb, upd_ne n4.symm]; exact hi
  have hwb : Hb Y.lw = some (.lst ws) := by rw [hHb, upd_ne n5]; exact hws
  have rwb : WRs Hb ws s.words := WRs.mono tkb rws
  have hlb : Hb Y.ld = some (.frz od (.dK (kvs s.led))) := by rw [hHb]; exact upd_same
  have eb1 : Ex Hb (upd H1 Y.ld (.frz od (.dK (kvs s.led)))) := fun b o e => by
    rw [hHb] at e
    by_cases q : b = Y.ld
    · rw [q] at e ⊢; rw [upd_same] at e ⊢; exact e
    · rw [upd_ne q] at e ⊢; exact e1 _ _ e
  have hD2 : upd H1 Y.ld (.frz od (.dK (kvs s.led))) D = some (.dK (kvs s.led)) := by rw [upd_ne nDl]; exact hD1
  have eback : ∀ {H'}, Ex Hb H' → Ex H (upd H' Y.ld (.dK (kvs s.led))) := fun e b o q => by
    by_cases z : b = Y.ld
    · rw [z] at q ⊢; rw [upd_same]; rw [hy.ld] at q; exact q
    · rw [upd_ne z]
      exact e _ _ (by rw [hHb, upd_ne z]; exact q)
  revert eb1 hD2
  generalize upd H1 Y.ld (.frz od (.dK (kvs s.led))) = H2
  intro eb1 hD2
  have keylen : ∀ {ts : List Nat}, (∀ t ∈ ts, t ∈ s.led.map (·.1)) → (decs s.led ts).length ≤ 1000 := fun h => by rw [decs_len h]; omega
  have ef : Ev (tFld K (tVar 0) "led_in") [some (.ref Y.p), some (.ref D), none, none] H2 (.ref Y.ld) := ev_fld (Evl.ev_var rfl) (eb1 _ _ hib) N.cl N.led_in fl_led
  refine s_forKeys ef (eb1 _ _ hlb) (fun i σ' H' => ∃ v2 v3, σ' = [some (.ref Y.p), some (.ref D), v2, v3] ∧ Ex Hb H' ∧ H' D = some (.dK (kvs (decs s.led (inAll s.words ((s.led.map (·.1)).take i)))))) (fun H3 e3 => ⟨_, _, rfl, eb1.trans e3, e3 _ _ hD2⟩) (fun i σ' H' _ ⟨_, _, _, e, _⟩ => e _ _ hlb) ?_ ?_
  · rintro i x σ' H4 H4' hi4 ⟨v2, v3, rfl, e4, hd4⟩ ⟨rfl, kk, vv, hkv, rfl⟩
    obtain ⟨e, he, rfl⟩ := kvs_get hkv
    have hmem : e.1 ∈ s.led.map (·.1) := List.mem_map.mpr ⟨e, List.mem_of_getElem? he, rfl⟩
    obtain ⟨n, z, hh, hz, hin⟩ := hk e.1 hmem
    have hsz := szAt_of hh
    have ek : (s.led.map (·.1)).take (i + 1) = (s.led.map (·.1)).take i ++ [e.1] := take_get (by rw [List.getElem?_map, he]; rfl)
    have hpre : ∀ a ∈ (s.led.map (·.1)).take i, a ∈ s.led.map (·.1) := fun a ha => List.mem_of_mem_take ha
    have hin0 := hk.all hpre
    show tFor _ _ _ _ _ _
    refine s_forU (e_inner (to := tVar 0) (ta := tVar 2) (σ := [some (.ref Y.p), some (.ref D), some (.int (e.1 : Int)), v3]) (e4 _ _ hib) (fl_no inner_no) fl_words (e4 _ _ hwb) (WRs.mono (ex_tk e4) rwb) hh hz hwl (Evl.ev_var rfl) (Evl.ev_var rfl)) ?_
    rintro _ H5 e5 ⟨L, rfl, hL, hL5⟩
    have nLD : L ≠ D := fun q => by rw [q, hd4] at hL; cases hL
    refine Evl.s_forLn (Evl.ev_c (v := .ref L)) (Evl.sq_of hL5) (fun j σ' H' => ∃ v3, σ' = [some (.ref Y.p), some (.ref D), some (.int (e.1 : Int)), v3] ∧ Ex Hb H' ∧ H' L = some (.lst (nsV (innerW s.words e.1 z))) ∧ H' D = some (.dK (kvs (decs s.led (inAll s.words ((s.led.map (·.1)).take i) ++ (innerW s.words e.1 z).take j))))) (fun H6 e6 => ⟨_, rfl, (e4.trans e5).trans e6, e6 _ _ hL5, ?_⟩) (fun j σ' H' _ ⟨_, _, _, h, _⟩ => Evl.sq_of h) ?_ ?_
    · rw [List.take_zero, List.append_nil]; exact e6 _ _ (e5 _ _ hd4)
    · rintro j x σ' H6 hj ⟨v3, rfl, e6, hl6, hd6⟩
      obtain ⟨t, ht, rfl⟩ := nsV_ofget hj
      have htk : t ∈ s.led.map (·.1) := hin t (List.mem_of_getElem? ht)
      have hts : ∀ u ∈ inAll s.words ((s.led.map (·.1)).take i) ++ (innerW s.words e.1 z).take j, u ∈ s.led.map (·.1) := fun u hu => by
        rcases List.mem_append.mp hu with q | q
        · exact hin0 u q
        · exact hin u (List.mem_of_mem_take q)
      obtain ⟨c, hc⟩ := lookL_key (l := decs s.led (inAll s.words ((s.led.map (·.1)).take i) ++ (innerW s.words e.1 z).take j)) (a := t) (by rw [decs_keys hts]; exact htk)
      refine s_dput (d := D) (ev_sub (ev_dget (v := .int c) (Evl.ev_var rfl) (Evl.ev_var rfl) hd6 (by rw [kvs_look, hc]; rfl)) Evl.ev_c) (Evl.ev_var rfl) (Evl.ev_var rfl) hd6 (keylen hts) fun H7 e7 => ⟨_, rfl, (e6.trans e7).mut hbD, by rw [upd_ne nLD]; exact e7 _ _ hl6, ?_⟩
      rw [upd_same, take_get ht, ← List.append_assoc, decs_app _ _ [t]]
      show _ = some (HO.dK (kvs (putL _ t ((lookL _ t).getD 0 - 1))))
      rw [hc]; rfl
    · rintro σ' H6 ⟨v3, rfl, e6, hl6, hd6⟩
      refine ⟨_, _, rfl, e6, ?_⟩
      rw [hd6, ek, inAll_app, inAll_one, hsz, nsV_len, List.take_length]
  · rintro σ' H4 ⟨v2, v3, rfl, e4, hd4⟩
    refine ⟨e4 _ _ hlb, ?_⟩
    have e5 := eback e4
    refine Evl.s_ret (Evl.ev_var rfl) fun H6 e6 => k H6 D (e5.trans e6) hD (e6 _ _ ?_)
    rw [upd_ne nDl, hd4, kvs_len, List.take_of_length_le (by rw [List.length_map]; exact Nat.le_refl _)]
theorem p_saved {K : PySem.W.Frag} (N : Tk K) (vs : List V) (H : Hp) (Q : VK) (E : XK) (h : sp_saved K vs H Q E) : t_saved K { nx := fun _ H' => Q .non H', rt := Q } (start n_saved vs) H := by
  obtain ⟨Y, s, rfl, hy, hwl, hll, hnd, hk, k⟩ := h
  have hall : ∀ t ∈ inAll s.words (s.led.map (·.1)), t ∈ s.led.map (·.1) := hk.all fun a h => h
  have ekey : (decs s.led (inAll s.words (s.led.map (·.1)))).map (·.1) = s.led.map (·.1) := decs_keys hall
  refine q_asgP (P := fun v H' => ∃ D, v = .ref D ∧ H D = none ∧ H' D = some (.dK (kvs (decs s.led (inAll s.words (s.led.map (·.1))))))) (m_ev hy (Evl.ev_var rfl) Evl.ea_nil (by decide +kernel) fun H1 e1 Q1 q1 => ⟨Y, s, rfl, hy.ex e1, hwl, hll, hk, fun H2 D e2 hD hd => q1 _ H2 e2 ⟨D, rfl, Evl.fresh_back e1 hD, hd⟩⟩) ?_
  rintro _ H1 e1 ⟨D, rfl, hD, hD1⟩
  generalize hLL : decs s.led (inAll s.words (s.led.map (·.1))) = LL at *
  have hlk : (s.led.map (·.1)).length = s.led.length := List.length_map ..
  -- found, to begin with
  refine q_asgP (P := fun v H' => ∃ F fs, v = .ref F ∧ H1 F = none ∧ H' F = some (.lst (nsV fs)) ∧ fs.Nodup ∧ (∀ a ∈ fs, a ∈ s.led.map (·.1)) ∧ ∀ a c, lookL LL a = some c → 0 < c → a ∈ fs) (evp_lcU (e_sorted (l := LL) (Evl.ev_var rfl) hD1) ?_) ?_
  · rintro _ H2 e2 ⟨S, ks, rfl, hS, hS2, hp⟩
    rw [ekey] at hp
    have hkl := hp.length_eq
    rw [hlk] at hkl
    have hD2 := e2 _ _ hD1
    refine (e_lcM (xs := nsV ks) (as := ks) (fun _ (y : V) (n : Nat) => y = .int (n : Int)) (fun _ _ (y : V) (n : Nat) => y = .int (n : Int)) (fun n : Nat => if decide (0 < (lookL LL n).getD 0) = true then some n else none) (fun H3 _ => ?_) (evp_ev (v := .ref S) Evl.ev_c fun H3 e3 => ⟨S, rfl, Evl.sq_of (e3 _ _ hS2)⟩) (by rw [nsV_len]; omega) (fun _ acc H1 H2 x b _ _ q => q) (fun D' i x n acc H3 hi hn e3 hD' hacc rw1 => ?_)).imp ?_
    · clear hp hkl hS2
      induction ks with
      | nil => exact .nil
      | cons a ks ih => exact .cons rfl ih
    · subst rw1
      have hnk : n ∈ s.led.map (·.1) := hp.mem_iff.mp (List.mem_of_getElem? hn)
      obtain ⟨c, hc⟩ := lookL_key (l := LL) (a := n) (by rw [ekey]; exact hnk)
      refine ⟨_, g_nm, rfl, ?_, fun b hb => ?_⟩
      · rw [gd_some, hc]
        exact Evl.et_is (et_gt (ev_dget (v := .int c) (Evl.ev_var (v := .ref D) rfl) (Evl.ev_var (v := .int (n : Int)) rfl) (e3 _ _ hD2) (by rw [kvs_look, hc]; rfl)) Evl.ev_c) rfl
      · by_cases q : decide (0 < (lookL LL n).getD 0) = true
        · rw [if_pos q] at hb; injection hb with hb; subst hb; exact evp_of (Evl.ev_var rfl)
        · rw [if_neg q] at hb; cases hb
    · rintro v H3 e3 ⟨F, ys, rfl, hF, hys, r⟩
      rw [fm_filter] at r
      refine ⟨F, _, rfl, Evl.fresh_back e2 hF, by rw [hys, pr_ints r], (hp.nodup_iff.mpr hnd).filter _, fun a ha => hp.mem_iff.mp (List.mem_filter.mp ha).1, fun a c hc hpos => List.mem_filter.mpr ⟨hp.mem_iff.mpr ?_, ?_⟩⟩
      · rw [← ekey]; exact key_of_look hc
      · rw [hc]; simpa using hpos
  rintro _ H2 e2 ⟨F, fs0, rfl, hF, hF2, hnd0, hsub0, hpos0⟩
  have e02 := e1.trans e2
  have hF0 := Evl.fresh_back e1 hF
  refine Evl.q_asg Evl.ev_c fun H3 e3 => ?_
  refine Evl.q_while (fun m σ' H' => ∃ (a : Nat) (fs : List Nat) (v4 v5 : Option V), σ' = [some (.ref Y.p), some (.ref D), some (.ref F), some (.int (a : Int)), v4, v5] ∧ Ex H H' ∧ H' F = some (.lst (nsV fs)) ∧ fs.Nodup ∧ (∀ x ∈ fs, x ∈ s.led.map (·.1)) ∧ (∀ x ∈ fs0, x ∈ fs) ∧ (∀ j x, j < a → fs[j]? = some x → ∀ t ∈ innerW s.words x (szAt s.words x), t ∈ fs) ∧ a ≤ s.led.length ∧ a ≤ fs.length ∧ m = s.led.length - a) _
    ⟨0, fs0, none, none, rfl, e02.trans e3, e3 _ _ hF2, hnd0, hsub0, fun x h => h, fun j x hj => by omega, Nat.zero_le _, Nat.zero_le _, rfl⟩ ?_
  rintro m σ' H4 ⟨a, fs, v4, v5, rfl, e4, hf4, hn4, hs4, hi4, hc4, ha4, haf, rfl⟩
  have hfl : fs.length ≤ s.led.length := by rw [← hlk]; exact nodup_sub hn4 hs4
  refine ⟨decide ((a : Int) < ((nsV fs).length : Int)), et_lt (Evl.ev_var rfl) (Evl.ev_len (Evl.ev_var rfl) (Evl.sq_of hf4)), fun hb H5 e5 => ?_, fun hb H5 e5 => ?_⟩
  · have hal : a < fs.length := by have := of_decide_eq_true hb; rw [nsV_len] at this; omega
    obtain ⟨x, hx⟩ : ∃ x, fs[a]? = some x := ⟨_, List.getElem?_eq_getElem hal⟩
    obtain ⟨n, z, hh, hz, hin⟩ := hk x (hs4 x (List.mem_of_getElem? hx))
    have hsz := szAt_of hh
    refine ⟨fun σ' H' => ∃ (fs : List Nat) (v4 v5 : Option V), σ' = [some (.ref Y.p), some (.ref D), some (.ref F), some (.int ((a + 1 : Nat) : Int)), v4, v5] ∧ Ex H H' ∧ H' F = some (.lst (nsV fs)) ∧ fs.Nodup ∧ (∀ x ∈ fs, x ∈ s.led.map (·.1)) ∧ (∀ x ∈ fs0, x ∈ fs) ∧ (∀ j x, j < a + 1 → fs[j]? = some x → ∀ t ∈ innerW s.words x (szAt s.words x), t ∈ fs) ∧ a + 1 ≤ fs.length, ?_, ?_⟩
    · rintro σ3 H6 ⟨fs, v4, v5, rfl, h1, h2, h3, h4, h5, h6, h7⟩
      have : fs.length ≤ s.led.length := by rw [← hlk]; exact nodup_sub h3 h4
      exact ⟨_, by omega, a + 1, fs, v4, v5, rfl, h1, h2, h3, h4, h5, h6, by omega, h7, rfl⟩
    have e05 := e4.trans e5
    have hy5 := hy.ex e05
    obtain ⟨lf, lv, hi5, _⟩ := hy5.ins
    obtain ⟨ws, hws, rws⟩ := hy5.wd
    have hf5 := e5 _ _ hf4
    show tFor _ _ _ _ _ _
    refine s_forU (e_inner (to := tVar 0) (ta := tOp (rIxL K) (tVar 2) (tVar 3)) (σ := [some (.ref Y.p), some (.ref D), some (.ref F), some (.int (a : Int)), v4, v5]) hi5 (fl_no inner_no) fl_words hws rws hh hz hwl (Evl.ev_var rfl) (ev_lix (v := .int (x : Int)) (Evl.ev_var rfl) (Evl.ev_var rfl) hf5 (nsV_get hx))) ?_
    rintro _ H6 e6 ⟨L, rfl, hL, hL6⟩
    have nLF : L ≠ F := fun q => by rw [q, hf5] at hL; cases hL
    refine Evl.s_forLn (Evl.ev_c (v := .ref L)) (Evl.sq_of hL6) (fun j σ' H' => ∃ (v4 : Option V) (r : List Nat), σ' = [some (.ref Y.p), some (.ref D), some (.ref F), some (.int (a : Int)), v4, v5] ∧ Ex H H' ∧ H' L = some (.lst (nsV (innerW s.words x z))) ∧ H' F = some (.lst (nsV (fs ++ r))) ∧ (fs ++ r).Nodup ∧ (∀ x ∈ fs ++ r, x ∈ s.led.map (·.1)) ∧ ∀ (i : Nat) t, i < j → (innerW s.words x z)[i]? = some t → t ∈ fs ++ r)
      (fun H7 e7 => ⟨_, [], rfl, (e05.trans e6).trans e7, e7 _ _ hL6, by rw [List.append_nil]; exact e7 _ _ (e6 _ _ hf5), by rw [List.append_nil]; exact hn4, by rw [List.append_nil]; exact hs4, fun i t hi => by omega⟩) (fun j σ' H' _ ⟨_, _, _, _, h, _⟩ => Evl.sq_of h) ?_ ?_
    · rintro j y σ' H7 hj ⟨v4, r, rfl, e7, hl7, hf7, hn7, hs7, hc7⟩
      obtain ⟨t, ht, rfl⟩ := nsV_ofget hj
      have htk : t ∈ s.led.map (·.1) := hin t (List.mem_of_getElem? ht)
      refine Evl.s_when (b := !decide (t ∈ fs ++ r)) (Evl.et_test (Evl.ev_is (Evl.ev_op (Evl.ev_var rfl) (Evl.ev_var rfl) (Evl.rv_niL (Evl.sq_of hf7) (show flatV (.int (t : Int)) = true from rfl) (ns_flat _))) (by rw [inV_ns]))) (fun hb H8 e8 => ?_) (fun hb H8 e8 => ?_)
      · have hb : t ∉ fs ++ r := by simpa using hb
        have hlen : (fs ++ r).length ≤ 60 := Nat.le_trans (nodup_sub hn7 hs7) (by rw [hlk]; exact hll)
        refine e_app (Evl.ev_var rfl) (e8 _ _ hf7) (evp_of (Evl.ev_var rfl)) (by rw [nsV_len]; omega) fun v H9 e9 hv => ?_
        subst hv
        have e79 := e8.trans e9
        refine ⟨_, r ++ [t], rfl, (e7.trans e79).mut hF0, by rw [upd_ne nLF]; exact e79 _ _ hl7, by rw [upd_same, ← List.append_assoc, nsV_app _ [t]]; rfl, ?_, fun w hw => ?_, fun i u hi hu => ?_⟩
        · rw [← List.append_assoc]
          exact List.nodup_append.mpr ⟨hn7, by simp, fun p hp q hq e => hb (by rw [List.mem_singleton.mp hq] at e; rw [← e]; exact hp)⟩
        · rw [← List.append_assoc] at hw
          rcases List.mem_append.mp hw with q | q
          · exact hs7 w q
          · rw [List.mem_singleton.mp q]; exact htk
        · rw [← List.append_assoc]
          by_cases q : i = j
          · subst q
            rw [ht] at hu
            injection hu with hu
            rw [← hu]
            exact List.mem_append_right _ List.mem_cons_self
          · exact List.mem_append_left _ (hc7 i u (by omega) hu)
      · have hb : t ∈ fs ++ r := by
          cases q : decide (t ∈ fs ++ r) with
          | true => exact of_decide_eq_true q
          | false => rw [q] at hb; cases hb
        refine ⟨_, r, rfl, e7.trans e8, e8 _ _ hl7, e8 _ _ hf7, hn7, hs7, fun i u hi hu => ?_⟩
        by_cases q : i = j
        · subst q
          rw [ht] at hu
          injection hu with hu
          rw [← hu]; exact hb
        · exact hc7 i u (by omega) hu
    · rintro σ' H7 ⟨v4, r, rfl, e7, hl7, hf7, hn7, hs7, hc7⟩
      refine Evl.s_asg (ev_int (ev_add (Evl.ev_var rfl) Evl.ev_c) (by omega)) fun H8 e8 => ⟨fs ++ r, _, _, rfl, e7.trans e8, e8 _ _ hf7, hn7, hs7, fun w hw => List.mem_append_left _ (hi4 w hw), fun j w hj hw t ht => ?_, by rw [List.length_append]; omega⟩
      rw [nsV_len] at hc7
      by_cases q : j = a
      · subst q
        rw [List.getElem?_append_left hal, hx] at hw
        injection hw with hw
        subst hw
        rw [hsz] at ht
        obtain ⟨i, hi⟩ := List.getElem?_of_mem ht
        exact hc7 i t (List.getElem?_eq_some_iff.mp hi).1 hi
      · rw [List.getElem?_append_left (by omega)] at hw
        exact List.mem_append_left _ (hc4 j w (by omega) hw t ht)
  · refine Evl.s_ret (Evl.ev_var rfl) fun H6 e6 => k H6 F fs (e4.trans (e5.trans e6)) hF0 (e6 _ _ (e5 _ _ hf4)) hs4 (fun b c h1 h2 => hi4 b (hpos0 b c h1 h2)) fun b hb' t ht => ?_
    have hge : fs.length ≤ a := by have := of_decide_eq_false hb; rw [nsV_len] at this; omega
    obtain ⟨i, hi⟩ := List.getElem?_of_mem hb'
    exact hc4 i b (by have := (List.getElem?_eq_some_iff.mp hi).1; omega) hi t ht
end Gy

set_option Elab.async false
set_option linter.all false
set_option maxRecDepth 100000
set_option maxHeartbeats 1000000
/-! Part 20: gleaning. -/
namespace Gy
open PySem PySem.Spec PyProof.Rows L2
open Evl (Ex Ev EvL EvU EvT EvA EvO rLenS rListS rMax2)
/-! ### where the cells are -/
theorem headsW_pw (words : List Wd) : (headsW words).Pairwise (fun x y => x.2 < y.2) := by
  unfold headsW
  have h : ∀ (l : List Wd) (k : Nat), ((l.zipIdx k).filterMap headOf).Pairwise (fun x y => x.2 < y.2) ∧ ∀ e ∈ (l.zipIdx k).filterMap headOf, k ≤ e.2 := by
    intro l
    induction l with
    | nil => intro k; exact ⟨.nil, fun e h => by cases h⟩
    | cons w l ih =>
      intro k
      obtain ⟨h1, h2⟩ := ih (k + 1)
      rw [List.zipIdx_cons, List.filterMap_cons]
      cases hh : headOf (w, k) with
      | none => exact ⟨h1, fun e he => Nat.le_of_succ_le (h2 e he)⟩
      | some e0 =>
        have e0k : e0.2 = k := by
          cases w with
          | head n z => injection hh with hh; rw [← hh]
          | _ => cases hh
        refine ⟨List.pairwise_cons.mpr ⟨fun y hy => ?_, h1⟩, fun e he => ?_⟩
        · have := h2 y hy; omega
        · rcases List.mem_cons.mp he with q | q
          · rw [q, e0k]; exact Nat.le_refl _
          · exact Nat.le_of_succ_le (h2 e q)
  exact (h words 0).1
theorem headsW_of {words : List Wd} {a n z : Nat} (h : words[a]? = some (.head n z)) : (n, a) ∈ headsW words := by
  unfold headsW
  exact List.mem_filterMap.mpr ⟨(.head n z, a), List.mk_mem_zipIdx_iff_getElem?.mpr h, rfl⟩
theorem srtN_eq {a b : List Nat} (ha : a.Pairwise (· < ·)) (hb : b.Pairwise (· < ·)) (h : ∀ k, k ∈ a ↔ k ∈ b) : a = b := by
  have e := srt_eq (a := a.map fun n : Nat => (n : Int)) (b := b.map fun n : Nat => (n : Int)) (by rw [List.pairwise_map]; exact ha.imp fun h => by omega) (by rw [List.pairwise_map]; exact hb.imp fun h => by omega) fun k => by
    rw [List.mem_map, List.mem_map]
    constructor
    · rintro ⟨n, h1, h2⟩; exact ⟨n, (h n).mp h1, h2⟩
    · rintro ⟨n, h1, h2⟩; exact ⟨n, (h n).mpr h1, h2⟩
  have := congrArg (List.map Int.toNat) e
  rw [List.map_map, List.map_map] at this
  have hid : (Int.toNat ∘ fun n : Nat => (n : Int)) = id := by funext n; simp
  rw [hid, List.map_id, List.map_id] at this
  exact this
theorem lives_srt (C : List (List Wd)) (G : List Nat) : (lives C G).Pairwise (· < ·) := by
  unfold lives
  exact List.Pairwise.filter _ List.pairwise_lt_range
theorem lives_mem {C : List (List Wd)} {G : List Nat} {n : Nat} : n ∈ lives C G ↔ Live C G n := by
  unfold lives Live
  rw [List.mem_filter, List.mem_range]
  simp
section
variable {pos : Nat → Nat} {R : List Wd} {C : List (List Wd)} {G : List Nat} {L L' : Nat → Int} {s : YS}
theorem Rep.where_ (h : Rep pos R C G L s) {zs : List (Nat × Nat)} (hp : zs.Perm (headsW s.words)) (hs : zs.Pairwise (fun x y => x.1 ≤ y.1)) : zs.map (·.1) = lives C G ∧ ∀ e ∈ zs, Live C G e.1 ∧ pos e.1 = e.2 := by
  have hm : ∀ e ∈ zs, Live C G e.1 ∧ pos e.1 = e.2 := fun e he => by
    obtain ⟨z, hz⟩ := headsW_mem (hp.mem_iff.mp he)
    exact h.oh _ _ _ hz
  refine ⟨?_, hm⟩
  have hne : zs.Pairwise (fun x y => x.2 ≠ y.2) := by
    have h1 : (headsW s.words).Pairwise (fun x y => x.2 ≠ y.2) := (headsW_pw s.words).imp fun h => Nat.ne_of_lt h
    exact (hp.pairwise_iff fun h => h.symm).mpr h1
  have hlt : (zs.map (·.1)).Pairwise (· < ·) := by
    rw [List.pairwise_map]
    have h2 := hs.and hne
    refine List.Pairwise.imp_of_mem (fun {a b} ha hb hab => ?_) h2
    have e1 := (hm a ha).2
    have e2 := (hm b hb).2
    rcases Nat.lt_or_eq_of_le hab.1 with q | q
    · exact q
    · exfalso; apply hab.2; rw [← e1, ← e2, q]
  refine srtN_eq hlt (lives_srt C G) fun k => ?_
  rw [lives_mem, List.mem_map]
  constructor
  · rintro ⟨e, he, rfl⟩; exact (hm e he).1
  · intro hk
    exact ⟨(k, pos k), hp.mem_iff.mpr (headsW_of (h.hd k hk)), rfl⟩
theorem lives_len (h : Rep pos R C G L s) {zs : List (Nat × Nat)} (hp : zs.Perm (headsW s.words)) : zs.length ≤ 60 := by
  rw [hp.length_eq]
  refine Nat.le_trans (List.length_filterMap_le _ _) ?_
  rw [List.length_zipIdx, h.wl]; exact Nat.le_refl _
theorem OkW.okV {w : Wd} (h : OkW C G w) : okV (lives C G) w = true := by
  cases w with
  | ptr n => exact decide_eq_true (lives_mem.mpr h)
  | num i => show (decide _ && decide _) = true; rw [decide_eq_true h.1, decide_eq_true h.2]; rfl
  | non => rfl
  | head i j => exact h.elim
theorem Rep.toldR (h : Rep pos R C G L s) (ok : OkS R C G) : s.roots.map (toldW s.words) = R := by
  rw [h.rt, List.map_map]
  refine (List.map_congr_left fun w hw => ?_).trans (List.map_id _)
  exact h.told (ok.rt w hw)
theorem Rep.toldC (h : Rep pos R C G L s) (ok : OkS R C G) {n : Nat} (hn : Live C G n) : (slotsW s.words (pos n) (cl C n).length).map (toldW s.words) = cl C n := by
  rw [h.slots hn, List.map_map]
  refine (List.map_congr_left fun w hw => ?_).trans (List.map_id _)
  exact h.told (ok.cc n hn w hw)
theorem Rep.pic (h : Rep pos R C G L s) (ok : OkS R C G) {zs : List (Nat × Nat)} (hp : zs.Perm (headsW s.words)) (hs : zs.Pairwise (fun x y => x.1 ≤ y.1)) :
    PicOk (s.roots.map (toldW s.words)) (zs.map fun e => (e.1, (slotsW s.words e.2 (Gy.szAt s.words e.2)).map (toldW s.words))) := by
  obtain ⟨w1, w2⟩ := h.where_ hp hs
  have en : (zs.map fun e => (e.1, (slotsW s.words e.2 (Gy.szAt s.words e.2)).map (toldW s.words))).map (·.1) = lives C G := by
    rw [List.map_map, ← w1]; rfl
  have ec : ∀ e ∈ zs, (slotsW s.words e.2 (Gy.szAt s.words e.2)).map (toldW s.words) = cl C e.1 := fun e he => by
    obtain ⟨h1, h2⟩ := w2 e he
    rw [← h2, h.szAt h1, h.toldC ok h1]
  rw [h.toldR ok]
  refine ⟨ok.r8, by rw [en]; exact lives_srt C G, by rw [List.length_map]; exact lives_len h hp, fun c hc => ?_, fun w hw => by rw [en]; exact (ok.rt w hw).okV, fun c hc w hw => ?_⟩
  · obtain ⟨e, he, rfl⟩ := List.mem_map.mp hc
    show (List.map _ _).length ≤ 4
    rw [ec e he]; exact ok.z4 e.1
  · rw [en]
    obtain ⟨e, he, rfl⟩ := List.mem_map.mp hc
    have hw : w ∈ (slotsW s.words e.2 (Gy.szAt s.words e.2)).map (toldW s.words) := hw
    rw [ec e he] at hw
    exact (ok.cc e.1 (w2 e he).1 w hw).okV
theorem Rep.keys (h : Rep pos R C G L s) (ok : OkS R C G) : Keys s := fun a ha => by
  obtain ⟨n, hn, rfl⟩ := h.lk a ha
  refine ⟨n, _, h.hd n hn, h.bdw hn, fun t ht => ?_⟩
  rw [h.inner hn] at ht
  obtain ⟨m, hm, rfl⟩ := List.mem_map.mp ht
  exact h.key (ok.cc n hn _ (ptrs_mem.mp hm))
/-! ### counting -/
theorem count_map_inj {f : Nat → Nat} {n : Nat} : ∀ {l : List Nat}, (∀ m ∈ l, f m = f n → m = n) → (l.map f).count (f n) = l.count n
  | [], _ => rfl
  | m :: l, h => by
    have ih := count_map_inj (f := f) (n := n) (l := l) fun k hk => h k (List.mem_cons_of_mem _ hk)
    rw [List.map_cons, List.count_cons, List.count_cons, ih]
    congr 1
    by_cases q : m = n
    · subst q; simp
    · have : ¬ f m = f n := fun z => q (h m List.mem_cons_self z)
      simp [q, this]
theorem Rep.innerN (h : Rep pos R C G L s) (ok : OkS R C G) {m n : Nat} (hm : Live C G m) (hn : Live C G n) : (innerW s.words (pos m) (Gy.szAt s.words (pos m))).count (pos n) = (cl C m).count (.ptr n) := by
  rw [h.szAt hm, h.inner hm, count_map_inj fun k hk e => h.inj (ok.cc m hm _ (ptrs_mem.mp hk)) hn e, ptrs_count]
theorem Rep.sumIn (h : Rep pos R C G L s) (ok : OkS R C G) {n : Nat} (hn : Live C G n) : ∀ (ns pre : List Nat), (pre ++ ns).Nodup → (∀ m ∈ ns, Live C G m) → cntC C (G ++ (pre ++ ns)) n + (inAll s.words (ns.map pos)).count (pos n) = cntC C (G ++ pre) n
  | [], pre, _, _ => by rw [List.append_nil]; rfl
  | m :: ns, pre, hd, hl => by
    have ih := h.sumIn ok hn ns (pre ++ [m]) (by rw [List.append_assoc]; exact hd) fun k hk => hl k (List.mem_cons_of_mem _ hk)
    have hm := hl m List.mem_cons_self
    have hmp : m ∉ pre := fun q => (List.nodup_append.mp hd).2.2 m q m List.mem_cons_self rfl
    have hlv : Live C (G ++ pre) m := ⟨hm.1, fun q => (List.mem_append.mp q).elim hm.2 hmp⟩
    have e1 := cntC_drop (m := n) hlv
    have e2 := h.innerN ok hm hn
    have e3 : inAll s.words ((m :: ns).map pos) = innerW s.words (pos m) (Gy.szAt s.words (pos m)) ++ inAll s.words (ns.map pos) := by unfold inAll; rw [List.map_cons, List.flatMap_cons]
    have e4 : pre ++ [m] ++ ns = pre ++ m :: ns := by rw [List.append_assoc]; rfl
    have e5 : G ++ (pre ++ [m]) = G ++ pre ++ [m] := by rw [List.append_assoc]
    rw [e4, e5] at ih
    rw [e3, List.count_append]
    omega
theorem map_back {P : Nat → Prop} : ∀ {l : List Nat}, (∀ a ∈ l, ∃ n, P n ∧ pos n = a) → ∃ X : List Nat, l = X.map pos ∧ ∀ n ∈ X, P n
  | [], _ => ⟨[], rfl, fun n h => by cases h⟩
  | a :: l, h => by
    obtain ⟨X, h1, h2⟩ := map_back (l := l) fun b hb => h b (List.mem_cons_of_mem _ hb)
    obtain ⟨n, h3, h4⟩ := h a List.mem_cons_self
    refine ⟨n :: X, by rw [List.map_cons, ← h1, h4], fun m hm => ?_⟩
    rcases List.mem_cons.mp hm with q | q
    · rw [q]; exact h3
    · exact h2 m q
theorem nodup_of_map {f : Nat → Nat} {l : List Nat} (h : (l.map f).Nodup) : l.Nodup := by
  unfold List.Nodup at *
  rw [List.pairwise_map] at h
  exact h.imp fun h e => h (by rw [e])
/-- what is lost is closed: what stays leads to what stays, its counts are right -/
theorem Rep.lost (h : Rep pos R C G (fun n => (cnt R C G n : Int)) s) (ok : OkS R C G) {found X : List Nat} (hf : ∀ a ∈ found, a ∈ s.led.map (·.1)) (hpos : ∀ a c, lookL (decs s.led (inAll s.words (s.led.map (·.1)))) a = some c → 0 < c → a ∈ found)
    (hcl : ∀ a ∈ found, ∀ t ∈ innerW s.words a (Gy.szAt s.words a), t ∈ found) (hXl : ∀ n ∈ X, Live C G n) (hXd : X.Nodup) (hX : ∀ n, Live C G n → (n ∈ X ↔ pos n ∉ found)) :
    OkS R C (G ++ X) ∧ ∀ n, Live C (G ++ X) n → lookL (decs s.led (inAll s.words (X.map pos))) (pos n) = some ((cnt R C (G ++ X) n : Nat) : Int) := by
  have hk := h.keys ok
  have keep : ∀ w, OkW C G w → (∀ n, w = .ptr n → n ∉ X) → OkW C (G ++ X) w := fun w hw hn => by
    cases w with
    | ptr n => exact ⟨hw.1, fun q => (List.mem_append.mp q).elim hw.2 (hn n rfl)⟩
    | num i => exact hw
    | non => trivial
    | head i j => exact hw
  -- all the live ones
  obtain ⟨A, hA, hAl⟩ := map_back (P := Live C G) (l := s.led.map (·.1)) h.lk
  have hAd : A.Nodup := nodup_of_map (by rw [← hA]; exact h.nd)
  have hAm : ∀ n, Live C G n → n ∈ A := fun n hn => by
    have := h.key hn
    rw [hA] at this
    obtain ⟨m, hm, e⟩ := List.mem_map.mp this
    rw [← h.inj (hAl m hm) hn e]; exact hm
  have rootsF : ∀ n, Wd.ptr n ∈ R → n ∉ X := fun n hn => by
    have hl : Live C G n := ok.rt _ hn
    have e1 := h.sumIn ok hl A [] (by rw [List.nil_append]; exact hAd) hAl
    rw [List.nil_append, List.append_nil, ← hA] at e1
    have e2 : cntC C (G ++ A) n = 0 := csum_all0 fun m hm => by
      unfold cellN
      by_cases q : m ∈ G
      · rw [if_pos (List.mem_append_left _ q)]
      · rw [if_pos (List.mem_append_right _ (hAm m ⟨hm, q⟩))]
    have e3 := decs_look (l := s.led) (ts := inAll s.words (s.led.map (·.1))) (hk.all fun a h => h) (pos n)
    rw [h.ll n hl] at e3
    have e3 : lookL (decs s.led (inAll s.words (s.led.map (·.1)))) (pos n) = some ((cnt R C G n : Int) - ((inAll s.words (s.led.map (·.1))).count (pos n) : Nat)) := e3
    have hc : 0 < R.count (.ptr n) := List.count_pos_iff.mpr hn
    have := hpos (pos n) _ e3 (by unfold cnt; omega)
    exact fun q => ((hX n hl).mp q) this
  have cellsF : ∀ m, Live C (G ++ X) m → ∀ n, Wd.ptr n ∈ cl C m → n ∉ X := fun m hm n hn => by
    have hml := hm.apps
    have hl : Live C G n := ok.cc m hml _ hn
    have hmf : pos m ∈ found := by
      by_cases q : pos m ∈ found
      · exact q
      · exact absurd (List.mem_append_right _ ((hX m hml).mpr q)) hm.2
    have := hcl (pos m) hmf (pos n) (by
      rw [h.szAt hml, h.inner hml]
      exact List.mem_map.mpr ⟨n, ptrs_mem.mpr hn, rfl⟩)
    exact fun q => ((hX n hl).mp q) this
  have okX : OkS R C (G ++ X) := by
    refine ⟨ok.r8, fun w hw => keep w (ok.rt w hw) fun n e => rootsF n (e ▸ hw), fun m hm w hw => keep w (ok.cc m hm.apps w hw) fun n e => cellsF m hm n (e ▸ hw), ok.z4, fun g hg => ?_, List.nodup_append.mpr ⟨ok.gd, hXd, fun a ha b hb e => ?_⟩⟩
    · rcases List.mem_append.mp hg with q | q
      · exact ok.gl g q
      · exact (hXl g q).1
    · subst e; exact (hXl a hb).2 ha
  refine ⟨okX, fun n hn => ?_⟩
  have hl := hn.apps
  have e1 := h.sumIn ok hl X [] (by rw [List.nil_append]; exact hXd) hXl
  rw [List.nil_append, List.append_nil] at e1
  rw [decs_look (hk.all fun a ha => by obtain ⟨m, hm, rfl⟩ := List.mem_map.mp ha; exact h.key (hXl m hm)), h.ll n hl]
  show some ((cnt R C G n : Int) - _) = _
  congr 1
  unfold cnt
  omega
end
end Gy

set_option Elab.async false
set_option linter.all false
set_option maxRecDepth 100000
set_option maxHeartbeats 1000000
/-! Part 21: glean, collect. -/
namespace Gy
open PySem PySem.Spec PyProof.Rows L2
open Evl (Ex Ev EvL EvU EvT EvA EvO rLenS rListS rMax2)
theorem evp_call1 {sp : Sp} {E : XK} {te : TE} {σ : L2.St} {H : Hp} {P1 P : V → Hp → Prop} (ha : EvP te σ H P1) (hs : ∀ v H1, Ex H H1 → P1 v H1 → ∀ Q : VK, (∀ v' H2, Ex H1 H2 → P v' H2 → Q v' H2) → sp [v] H1 Q E) : EvP (tCall sp [] E (tCons te tNil)) σ H P := fun H1 e Q q =>
  ha H1 e _ fun v H2 e2 p => hs v H2 (e.trans e2) p Q fun v' H3 e3 p' => q v' H3 (e2.trans e3) p'
theorem Rep.decs {pos : Nat → Nat} {R : List Wd} {C : List (List Wd)} {G : List Nat} {L : Nat → Int} {s : YS} (h : Rep pos R C G L s) {ts : List Nat} (ht : ∀ t ∈ ts, t ∈ s.led.map (·.1)) : Rep pos R C G (fun n => L n - ((ts.count (pos n) : Nat) : Int)) { s with led := Gy.decs s.led ts } := by
  have hk := decs_keys ht
  refine ⟨h.wl, h.rt, h.bn, h.gn, h.hd, h.sl, h.bd, h.dj, h.oh, h.fr, h.fd, fun n hn => ?_, fun a ha => h.lk a (by rw [← hk]; exact ha), by show ((Gy.decs s.led ts).map (·.1)).Nodup; rw [hk]; exact h.nd⟩
  show lookL (Gy.decs s.led ts) (pos n) = _
  rw [decs_look ht, h.ll n hn]; rfl
theorem p_glean {K : PySem.W.Frag} (N : Tk K) (vs : List V) (H : Hp) (Q : VK) (E : XK) (h : sp_glean K vs H Q E) : t_glean K { nx := fun _ H' => Q .non H', rt := Q } (start n_glean vs) H := by
  obtain ⟨Y, s, pos, R, C, G, rfl, hy, st, hC, k⟩ := h
  have rp := st.rp
  have ok := st.ok
  have hkeys := rp.keys ok
  have hwl : s.words.length ≤ 1000 := by rw [rp.wl]; omega
  have hll := rp.ledlen
  have hpt : ∀ w ∈ s.roots, PtrAt s.words w := fun w hw => by
    rw [rp.rt] at hw
    obtain ⟨w0, h1, rfl⟩ := List.mem_map.mp hw
    exact rp.ptrAt (ok.rt w0 h1)
  have hpc : ∀ a n z, s.words[a]? = some (.head n z) → a + z < s.words.length ∧ ∀ w ∈ slotsW s.words a z, PtrAt s.words w := fun a n z ha => by
    obtain ⟨hn, rfl⟩ := rp.oh a n z ha
    have e := rp.hd n hn
    rw [ha] at e
    injection e with e
    injection e with _ e
    subst e
    refine ⟨rp.bdw hn, fun w hw => ?_⟩
    rw [rp.slots hn] at hw
    obtain ⟨w0, h1, rfl⟩ := List.mem_map.mp hw
    exact rp.ptrAt (ok.cc n hn w0 h1)
  -- the paper
  refine q_asgP (P := fun v H' => PapAt H H' v) (evp_call1 (P1 := fun v H' => ∃ zs : List (Nat × Nat), zs.Perm (headsW s.words) ∧ zs.Pairwise (fun x y => x.1 ≤ y.1) ∧ PicAt H' v (s.roots.map (toldW s.words)) (zs.map fun e => (e.1, (slotsW s.words e.2 (szAt s.words e.2)).map (toldW s.words))))
    (m_ev hy (Evl.ev_var rfl) Evl.ea_nil (by decide +kernel) fun H1 e1 Q1 q1 => ⟨Y, s, rfl, hy.ex e1, hwl, by rw [rp.rt, List.length_map, ok.r8]; omega, hpt, hpc, fun v H2 zs e2 h1 h2 h3 => q1 v H2 e2 ⟨zs, h1, h2, h3⟩⟩) ?_) ?_
  · rintro v H1 e1 ⟨zs, h1, h2, h3⟩ Q1 q1
    exact ⟨v, _, _, rfl, h3, rp.pic ok h1 h2, fun v' H2 e2 ⟨t, a, b, ax, bx, p1, p2, p3, p4, p5, p6⟩ => q1 v' H2 e2 ⟨t, a, b, ax, bx, p1, p2, p3, p4, Evl.fresh_back e1 p5, Evl.fresh_back e1 p6⟩⟩
  rintro v H1 e1 ⟨t, ka, sa, kx, sx, rfl, ht1, hk1, hs1, hk0, hs0⟩
  have hy1 := hy.ex e1
  have fk := hy.new hk0
  have fs := hy.new hs0
  -- safe
  refine q_asgP (P := fun v H' => ∃ F found, v = .ref F ∧ H1 F = none ∧ H' F = some (.lst (nsV found)) ∧ (∀ a ∈ found, a ∈ s.led.map (·.1)) ∧ (∀ a c, lookL (Gy.decs s.led (inAll s.words (s.led.map (·.1)))) a = some c → 0 < c → a ∈ found) ∧ (∀ a ∈ found, ∀ t ∈ innerW s.words a (szAt s.words a), t ∈ found))
    (m_ev hy1 (Evl.ev_var rfl) Evl.ea_nil (by decide +kernel) fun H2 e2 Q2 q2 => ⟨Y, s, rfl, hy1.ex e2, hwl, hll, rp.nd, hkeys, fun H3 F found e3 h1 h2 h3 h4 h5 => q2 _ H3 e3 ⟨F, found, rfl, Evl.fresh_back e2 h1, h2, h3, h4, h5⟩⟩) ?_
  rintro _ H2 e2 ⟨F, found, rfl, hF, hF2, hf1, hf2, hf3⟩
  have hy2 := hy1.ex e2
  -- lost
  refine q_asgP (P := fun v H' => ∃ Lo lost, v = .ref Lo ∧ H2 Lo = none ∧ H' Lo = some (.lst (nsV lost)) ∧ lost.Nodup ∧ ∀ a, a ∈ lost ↔ a ∈ s.led.map (·.1) ∧ a ∉ found) (evp_lcU (e_sorted (l := s.led) (hy2.eled (i := 0) N rfl) hy2.ld) ?_) ?_
  · rintro _ H3 e3 ⟨S, ks, rfl, hS, hS3, hp⟩
    have hkl := hp.length_eq
    rw [List.length_map] at hkl
    have hF3 := e3 _ _ hF2
    have nsp : ∀ ks : List Nat, Paired (fun (y : V) (n : Nat) => y = .int (n : Int)) (nsV ks) ks := fun ks => by
      induction ks with
      | nil => exact .nil
      | cons a ks ih => exact .cons rfl ih
    refine (e_lcM (xs := nsV ks) (as := ks) (fun _ (y : V) (n : Nat) => y = .int (n : Int)) (fun _ _ (y : V) (n : Nat) => y = .int (n : Int)) (fun n : Nat => if decide (n ∉ found) = true then some n else none) (fun H4 _ => nsp ks) (evp_ev (v := .ref S) Evl.ev_c fun H4 e4 => ⟨S, rfl, Evl.sq_of (e4 _ _ hS3)⟩) (by rw [nsV_len]; omega) (fun _ acc H1 H2 x b _ _ q => q) (fun D' i x n acc H4 hi hn e4 hD' hacc rw1 => ?_)).imp ?_
    · subst rw1
      refine ⟨_, g_nm, rfl, ?_, fun b hb => ?_⟩
      · rw [gd_some]
        refine Evl.et_test (Evl.ev_is (Evl.ev_op (Evl.ev_var (v := .int (n : Int)) rfl) (Evl.ev_var (v := .ref F) rfl) (Evl.rv_niL (Evl.sq_of (e4 _ _ hF3)) rfl (ns_flat found))) ?_)
        rw [inV_ns, decide_not]
      · by_cases q : decide (n ∉ found) = true
        · rw [if_pos q] at hb; injection hb with hb; subst hb; exact evp_of (Evl.ev_var rfl)
        · rw [if_neg q] at hb; cases hb
    · rintro v H4 e4 ⟨Lo, ys, rfl, hLo, hys, r⟩
      rw [fm_filter] at r
      refine ⟨Lo, _, rfl, Evl.fresh_back e3 hLo, by rw [hys, pr_ints r], (hp.nodup_iff.mpr rp.nd).filter _, fun a => ?_⟩
      rw [List.mem_filter, hp.mem_iff]; simp
  rintro _ H3 e3 ⟨Lo, lost, rfl, hLo, hLo3, hld, hlm⟩
  have hy3 := hy2.ex e3
  have fL := hy2.new hLo
  have e03 := (e1.trans e2).trans e3
  obtain ⟨X, rfl, hXl⟩ := map_back (P := Live C G) (l := lost) fun a ha => rp.lk a ((hlm a).mp ha).1
  have hXd := nodup_of_map hld
  have hX : ∀ n, Live C G n → (n ∈ X ↔ pos n ∉ found) := fun n hn => by
    constructor
    · intro q; exact ((hlm (pos n)).mp (List.mem_map.mpr ⟨n, q, rfl⟩)).2
    · intro q
      obtain ⟨m, h1, h2⟩ := List.mem_map.mp ((hlm (pos n)).mpr ⟨rp.key hn, q⟩)
      rw [← rp.inj (hXl m h1) hn h2]; exact h1
  obtain ⟨okX, hfin⟩ := rp.lost ok hf1 hf2 hf3 hXl hXd hX
  have hsubX : ∀ a ∈ X.map pos, a ∈ s.led.map (·.1) := fun a ha => ((hlm a).mp ha).1
  have y3 : Yd K Y H H3 s := (Yd.refl hy).ex e03
  have hXlen : (G ++ X).length ≤ 100 := Nat.le_trans okX.glen hC
  have kk : ∀ {H'}, Keep Y.own H3 H' → TK H3 H' → H' Lo = some (.lst (nsV (X.map pos))) ∧ H' ka = some (.lst kx) ∧ H' sa = some (.lst sx) ∧ H' t = some (.tup [.ref ka, .ref sa]) := fun kp tk => ⟨kp _ _ hLo3 fL.1, kp _ _ ((e2.trans e3) _ _ hk1) fk.1, kp _ _ ((e2.trans e3) _ _ hs1) fs.1, tk _ _ ((e2.trans e3) _ _ ht1)⟩
  have hinl : ∀ i, ∀ u ∈ inAll s.words ((X.map pos).take i), u ∈ s.led.map (·.1) := fun i => hkeys.all fun a ha => hsubX a (List.mem_of_mem_take ha)
  -- the counts
  refine Evl.q_forLn (Evl.ev_var (v := .ref Lo) rfl) (Evl.sq_of hLo3) (fun i σ' H' => ∃ v3 v5, σ' = [some (.ref Y.p), some (.ref t), some (.ref F), v3, some (.ref Lo), v5] ∧ Yd K Y H3 H' { s with led := Gy.decs s.led (inAll s.words ((X.map pos).take i)) }) (fun H4 e4 => ⟨_, _, rfl, (Yd.refl hy3).ex e4⟩) (fun i σ' H' _ ⟨_, _, _, y⟩ => Evl.sq_of (kk y.kp y.tk).1) ?_ ?_
  · rintro i x σ' H4 hi ⟨v3, v5, rfl, y4⟩
    obtain ⟨a, ha, rfl⟩ := nsV_ofget hi
    have ham := List.mem_of_getElem? ha
    obtain ⟨n, hnX, rfl⟩ := List.mem_map.mp ham
    have hn := hXl n hnX
    obtain ⟨lf, lv, hi4, _⟩ := y4.at_.ins
    obtain ⟨ws, hws, rws⟩ := y4.at_.wd
    show tFor _ _ _ _ _ _
    refine s_forU (e_inner (to := tVar 0) (ta := tVar 3) (σ := [some (.ref Y.p), some (.ref t), some (.ref F), some (.int (pos n : Int)), some (.ref Lo), v5]) hi4 (fl_no inner_no) fl_words hws rws (rp.hd n hn) (rp.bdw hn) hwl (Evl.ev_var rfl) (Evl.ev_var rfl)) ?_
    rintro _ H5 e5 ⟨L, rfl, hL, hL5⟩
    have fLL := y4.at_.new hL
    obtain ⟨nn, zz, hh, _, hin⟩ := hkeys (pos n) (rp.key hn)
    have := rp.hd n hn
    rw [hh] at this
    injection this with this
    injection this with e1' e2'
    subst e1' e2'
    have ek : (X.map pos).take (i + 1) = (X.map pos).take i ++ [pos nn] := take_get ha
    have hts : ∀ j, ∀ u ∈ inAll s.words ((X.map pos).take i) ++ (innerW s.words (pos nn) (cl C nn).length).take j, u ∈ s.led.map (·.1) := fun j u hu => by
      rcases List.mem_append.mp hu with q | q
      · exact hinl i u q
      · exact hin u (List.mem_of_mem_take q)
    have y5 := y4.ex e5
    refine Evl.s_forLn (Evl.ev_c (v := .ref L)) (Evl.sq_of hL5) (fun j σ' H' => ∃ v5, σ' = [some (.ref Y.p), some (.ref t), some (.ref F), some (.int (pos nn : Int)), some (.ref Lo), v5] ∧ Yd K Y H5 H' { s with led := Gy.decs s.led (inAll s.words ((X.map pos).take i) ++ (innerW s.words (pos nn) (cl C nn).length).take j) }) (fun H6 e6 => ⟨_, rfl, ?_⟩) (fun j σ' H' _ ⟨_, _, y⟩ => Evl.sq_of (y.kp _ _ hL5 fLL.1)) ?_ ?_
    · rw [List.take_zero, List.append_nil]; exact (Yd.refl y5.at_).ex e6
    · rintro j x σ' H6 hj ⟨v5, rfl, y6⟩
      obtain ⟨u, hu, rfl⟩ := nsV_ofget hj
      obtain ⟨c, hc⟩ := lookL_key (l := Gy.decs s.led (inAll s.words ((X.map pos).take i) ++ (innerW s.words (pos nn) (cl C nn).length).take j)) (a := u) (by rw [decs_keys (hts j)]; exact hin u (List.mem_of_getElem? hu))
      refine y6.at_.putLed (i := 0) N rfl (ev_sub (ev_led (i := 0) y6.at_ N rfl (Evl.ev_var rfl) hc) Evl.ev_c) (Evl.ev_var rfl) (by show (Gy.decs _ _).length ≤ 1000; rw [decs_len (hts j)]; omega) fun H7 y7 => ⟨_, rfl, ?_⟩
      have e : Gy.decs s.led (inAll s.words ((X.map pos).take i) ++ (innerW s.words (pos nn) (cl C nn).length).take (j + 1)) = putL (Gy.decs s.led (inAll s.words ((X.map pos).take i) ++ (innerW s.words (pos nn) (cl C nn).length).take j)) u (c - 1) := by
        rw [take_get hu, ← List.append_assoc, decs_app _ _ [u]]
        show putL _ u ((lookL _ u).getD 0 - 1) = _
        rw [hc]; rfl
      rw [e]
      exact y6.go y7
    · rintro σ' H6 ⟨v5, rfl, y6⟩
      refine ⟨_, _, rfl, ?_⟩
      rw [nsV_len, List.take_length] at y6
      rw [ek, inAll_app, inAll_one, rp.szAt hn]
      exact y5.go y6
  rintro σ' H4 ⟨v3, v5, rfl, y4⟩
  rw [nsV_len, List.take_length] at y4
  have rp4 := rp.decs (ts := inAll s.words (X.map pos)) (hkeys.all hsubX)
  obtain ⟨k4, k5, k6, k7⟩ := kk y4.kp y4.tk
  have yH4 : Yd K Y H H4 _ := y3.go y4
  -- the freeing
  refine Evl.q_forLn (Evl.ev_var (v := .ref Lo) rfl) (Evl.sq_of k4) (fun i σ' H' => ∃ v3 s', σ' = [some (.ref Y.p), some (.ref t), some (.ref F), v3, some (.ref Lo), v5] ∧ Yd K Y H4 H' s' ∧ s'.last = s.last ∧ Rep pos R C (G ++ X.take i) (fun n => (cnt R C G n : Int) - (((inAll s.words (X.map pos)).count (pos n) : Nat) : Int)) s') (fun H5 e5 => ⟨_, _, rfl, (Yd.refl y4.at_).ex e5, rfl, by rw [List.take_zero, List.append_nil]; exact rp4⟩) (fun i σ' H' _ ⟨_, _, _, y, _⟩ => Evl.sq_of (y.kp _ _ k4 fL.1)) ?_ ?_
  · rintro i x σ' H5 hi ⟨v3, s5, rfl, y5, l5, r5⟩
    obtain ⟨a, ha, rfl⟩ := nsV_ofget hi
    rw [List.getElem?_map] at ha
    cases hXi : X[i]? with
    | none => rw [hXi] at ha; cases ha
    | some n =>
      rw [hXi] at ha
      injection ha with ha
      subst ha
      have hnX := List.mem_of_getElem? hXi
      have ek : X.take (i + 1) = X.take i ++ [n] := take_get hXi
      have hn : Live C (G ++ X.take i) n := by
        refine ⟨(hXl n hnX).1, fun q => (List.mem_append.mp q).elim (hXl n hnX).2 fun z => ?_⟩
        have hd' : (X.take (i + 1)).Nodup := hXd.sublist (List.take_sublist _ _)
        rw [ek] at hd'
        exact (List.nodup_append.mp hd').2.2 n z n List.mem_cons_self rfl
      have hgl : (G ++ X.take i).length ≤ 100 := by
        rw [List.length_append] at hXlen ⊢
        have := List.length_take_le' i X
        omega
      refine m_go y5.at_ (Evl.ev_var rfl) (ea1 (Evl.ev_var rfl)) (by decide +kernel) fun H6 e6 => ?_
      have y6 := y5.ex e6
      refine ⟨Y, s5, pos n, n, (cl C n).length, rfl, y6.at_, r5.hd n hn, r5.bdw hn, by rw [r5.wl]; omega, by rw [r5.gn]; omega, by have := r5.fr.len; omega, ⟨_, r5.ll n hn⟩, fun H7 y7 => ⟨_, _, rfl, y6.go y7, l5, ?_⟩⟩
      have := r5.free hn
      rw [ek, ← List.append_assoc]
      exact this
  · rintro σ' H5 ⟨v3, s5, rfl, y5, l5, r5⟩
    rw [nsV_len, List.length_map, List.take_length] at r5
    have yH5 := yH4.go y5
    refine Evl.s_ret (Evl.ev_var rfl) fun H6 e6 => ?_
    refine k H6 s5 X (.ref t) (yH5.ex e6) l5 ⟨r5.congrL fun n hn => ?_, okX⟩ ⟨t, ka, sa, kx, sx, rfl, e6 _ _ (y5.tk _ _ k7), e6 _ _ (y5.kp _ _ k5 fk.1), e6 _ _ (y5.kp _ _ k6 fs.1), fk, fs⟩
    have e1 := hfin n hn
    rw [rp4.ll n hn.apps] at e1
    injection e1
theorem p_collect {K : PySem.W.Frag} (N : Tk K) (vs : List V) (H : Hp) (Q : VK) (E : XK) (h : sp_collect K vs H Q E) : t_collect K { nx := fun _ H' => Q .non H', rt := Q } (start n_collect vs) H := by
  obtain ⟨Y, s, pos, R, C, G, rfl, hy, st, hC, k⟩ := h
  refine Evl.q_asg (Evl.ev_len (hy.egone (i := 0) N rfl) (Evl.sq_of hy.gn)) fun H1 e1 => ?_
  have y1 := (Yd.refl hy).ex e1
  refine m_go y1.at_ (Evl.ev_var rfl) Evl.ea_nil (by decide +kernel) fun H2 e2 => ?_
  have y2 := y1.ex e2
  refine ⟨Y, s, pos, R, C, G, rfl, y2.at_, st, hC, fun H3 s3 X v y3 l3 st3 la3 => ?_⟩
  obtain ⟨lf, lv, hi, hf, hn, hl⟩ := y3.at_.ins
  refine ⟨_, rfl, Y.p, aC K, Y.dx, _, rfl, hi, N.cl, N.last, fl_len, ?_⟩
  rw [put_last]
  have y4 := y3.at_.setI (born' := s3.born) (free' := s3.free) (last' := true) hf hn la3
  have y4' := (y2.go y3).by y4 (Keep.upd own_p)
  refine Evl.s_ret (ev_sub (Evl.ev_len (y4.egone (i := 0) N rfl) (Evl.sq_of y4.gn)) (Evl.ev_var rfl)) fun H5 e5 => ?_
  exact k H5 _ X _ (y4'.ex e5) rfl ⟨st3.rp.last true, st3.ok⟩
end Gy

set_option Elab.async false
set_option linter.all false
set_option maxRecDepth 100000
set_option maxHeartbeats 1000000
/-! Part 22: deeds on the yard. -/
namespace Gy
open PySem PySem.Spec PyProof.Rows L2
open Evl (Ex Ev EvL EvU EvT EvA EvO rLenS rListS rMax2)
section
variable {K : PySem.W.Frag} {σ : L2.St} {H H' : Hp} {Y : YA} {s : YS} {i j : Nat} {te ti to : TE} {ta : TA} {P : V → Hp → Prop} {D : Ends} {w : Wd} {m : Str} {sp : Sp} {Q : VK} {E : XK}
theorem YAt.s_word (hy : YAt K Y H s) (N : Tk K) (hs : σ[i]? = some (some (.ref Y.p))) (h : EvP te σ H (fun v H' => WR H' v w)) (hi : ∀ H1, Ex H H1 → Ev ti σ H1 (.int (j : Int))) (hj : j < s.words.length) (k : ∀ H1, Yd K Y H H1 { s with words := s.words.set j w } → D.nx σ H1) : tAsg te (gSub (tFld K (tVar i) "words") ti rSetL) D σ H :=
  h H (Ex.refl H) _ fun v H1 e1 hv => (hy.ex e1).ewords N hs H1 (Ex.refl H1) _ fun H2 e2 => hi H2 (e1.trans e2) H2 (Ex.refl H2) _ fun H3 e3 => by
    have e23 := e2.trans e3
    have y3 := (Yd.refl hy).ex (e1.trans e23)
    obtain ⟨ws, hws, rws⟩ := y3.at_.wd
    refine ⟨Y.lw, ws, _, j, rfl, rfl, hws, Evl.ixN_nat (by rw [pr_len rws]; exact hj), k _ ?_⟩
    exact y3.by (y3.at_.setW (pr_set (hv.mono (ex_tk e23)) j rws)) (Keep.upd own_lw)
theorem m_goP {PA : PL} (h : YAt K Y H s) (ho : Ev to σ H (.ref Y.p)) (ha : EvAP ta σ H PA) (hm : m ∉ flNames) (k : ∀ vs H1, Ex H H1 → PA vs H1 → sp (.ref Y.p :: vs) H1 Q E) : tMeth (aC K) m sp [] E to ta σ H Q := by
  refine ho H (Ex.refl H) _ fun H1 e1 => ?_
  obtain ⟨lf, lv, hi, _⟩ := (h.ex e1).ins
  refine ⟨Y.p, Y.dx, _, rfl, hi, fl_no hm, ha H1 e1 _ fun vs H2 e2 p => ?_⟩
  show sp (.ref Y.p :: (vs ++ [])) H2 Q E
  rw [List.append_nil]
  exact k vs H2 (e1.trans e2) p
theorem m_raw (h : YAt K Y H s) (ho : Ev to σ H (.ref Y.p)) (hm : m ∉ flNames) (k : ∀ H1, Ex H H1 → ta σ H1 fun vs H2 => sp (.ref Y.p :: (vs ++ [])) H2 Q E) : tMeth (aC K) m sp [] E to ta σ H Q := by
  refine ho H (Ex.refl H) _ fun H1 e1 => ?_
  obtain ⟨lf, lv, hi, _⟩ := (h.ex e1).ins
  exact ⟨Y.p, Y.dx, _, rfl, hi, fl_no hm, k H1 e1⟩
theorem tcons_of {tr : TA} {Q : List V → Hp → Prop} (h : te σ H fun x H1 => tr σ H1 fun xs H2 => Q (x :: xs) H2) : tCons te tr σ H Q := h
theorem et_isN {v : V} {b : Bool} (h : Ev te σ H v) (e : decide (v = .non) = b) : EvT (tTest (tOp rIsN te (tC .non))) σ H b := Evl.et_test (Evl.ev_is (Evl.ev_op h Evl.ev_c (z := .bl (decide (v = V.non))) fun H1 _ Q q => ⟨rfl, q H1 (Ex.refl H1)⟩) (by rw [e]))
end
theorem p_number {K : PySem.W.Frag} (N : Tk K) (vs : List V) (H : Hp) (Q : VK) (E : XK) (h : sp_number K vs H Q E) : t_number K { nx := fun _ H' => Q .non H', rt := Q } (start n_number vs) H := by
  obtain ⟨Y, pos, R, C, G, kk, i, rfl, ⟨s, hy, st, hl⟩, ⟨o1, o2, o3⟩, hC, k⟩ := h
  refine m_go hy (Evl.ev_var rfl) (ea1 (Evl.ev_var rfl)) (by decide +kernel) fun H1 e1 => ⟨_, kk, rfl, o1, fun H2 e2 => ?_⟩
  refine Evl.q_when (b := false) (Evl.et_is (Evl.et_not (Evl.et_test (ev_chainLL (ev_neg Evl.ev_c) (Evl.ev_var rfl) Evl.ev_c))) ?_) (fun z => by cases z) fun _ H3 e3 => ?_
  · rw [decide_eq_true (show (-1000000 : Int) ≤ i from o2), decide_eq_true (show i ≤ 1000000 from o3)]; rfl
  have y3 := (Yd.refl hy).ex ((e1.trans e2).trans e3)
  refine m_goP (PA := fun vs H' => ∃ x r, vs = x :: r ∧ (x = .int (kk : Int)) ∧ ∃ y r2, r = y :: r2 ∧ WR H' y (.num i) ∧ r2 = []) y3.at_ (Evl.ev_var rfl) (eap_cons (evp_of (Evl.ev_var rfl)) (fun _ _ _ _ h => h) (eap_cons (evp_is (Evl.ev_var rfl)) (fun _ _ _ e h => h.mono (ex_tk e)) eap_nil)) (by decide +kernel) ?_
  rintro _ H4 e4 ⟨_, _, rfl, rfl, v, _, rfl, hv, rfl⟩
  have y4 := y3.ex e4
  exact ⟨Y, s, pos, R, C, G, kk, v, .num i, rfl, y4.at_, st, o1, hv, ⟨o2, o3⟩, Nat.le_of_lt hC, fun H5 s5 y5 l5 st5 => k H5 ⟨s5, pos, y4.go y5, by rw [l5, hl], st5⟩⟩
theorem p_clear {K : PySem.W.Frag} (N : Tk K) (vs : List V) (H : Hp) (Q : VK) (E : XK) (h : sp_clear K vs H Q E) : t_clear K { nx := fun _ H' => Q .non H', rt := Q } (start n_clear vs) H := by
  obtain ⟨Y, pos, R, C, G, kk, rfl, ⟨s, hy, st, hl⟩, o1, hC, k⟩ := h
  refine m_go hy (Evl.ev_var rfl) (ea1 (Evl.ev_var rfl)) (by decide +kernel) fun H1 e1 => ⟨_, kk, rfl, o1, fun H2 e2 => ?_⟩
  have y3 := (Yd.refl hy).ex (e1.trans e2)
  refine m_go y3.at_ (Evl.ev_var rfl) (ea2 (Evl.ev_var rfl) Evl.ev_c) (by decide +kernel) fun H4 e4 => ?_
  have y4 := y3.ex e4
  exact ⟨Y, s, pos, R, C, G, kk, .non, .non, rfl, y4.at_, st, o1, rfl, trivial, Nat.le_of_lt hC, fun H5 s5 y5 l5 st5 => k H5 ⟨s5, pos, y4.go y5, by rw [l5, hl], st5⟩⟩
theorem p_pass_on {K : PySem.W.Frag} (N : Tk K) (vs : List V) (H : Hp) (Q : VK) (E : XK) (h : sp_pass_on K vs H Q E) : t_pass_on K { nx := fun _ H' => Q .non H', rt := Q } (start n_pass_on vs) H := by
  obtain ⟨Y, pos, R, C, G, t, o, rfl, ⟨s, hy, st, hl⟩, ⟨o1, o2⟩, hC, k⟩ := h
  refine m_go hy (Evl.ev_var rfl) (ea1 (Evl.ev_var rfl)) (by decide +kernel) fun H1 e1 => ⟨_, t, rfl, o1, fun H2 e2 => ?_⟩
  have y2 := (Yd.refl hy).ex (e1.trans e2)
  refine m_go y2.at_ (Evl.ev_var rfl) (ea1 (Evl.ev_var rfl)) (by decide +kernel) fun H3 e3 => ⟨_, o, rfl, o2, fun H4 e4 => ?_⟩
  have y4 := y2.ex (e3.trans e4)
  have ho : o < R.length := by rw [st.ok.r8]; exact o2
  obtain ⟨x, hx, ex⟩ := y4.at_.eroot (i := 0) (σ := start n_pass_on [.ref Y.p, .int (t : Int), .int (o : Int)]) (ta := tVar 2) N rfl (Evl.ev_var rfl) (st.rp.rget ho)
  refine m_go y4.at_ (Evl.ev_var rfl) (ea2 (Evl.ev_var rfl) ex) (by decide +kernel) fun H5 e5 => ?_
  have y5 := y4.ex e5
  exact ⟨Y, s, pos, R, C, G, t, x, rg R o, rfl, y5.at_, st, o1, hx.mono (ex_tk e5), st.ok.rt _ (List.mem_of_getElem? (rg_get ho)), Nat.le_of_lt hC, fun H6 s6 y6 l6 st6 => k H6 ⟨s6, pos, y5.go y6, by rw [l6, hl], st6⟩⟩
/-- nothing was done -/
theorem aft_same {K : PySem.W.Frag} {Y : YA} {H H' : Hp} {pos : Nat → Nat} {R : List Wd} {C : List (List Wd)} {G : List Nat} {d : Dd} {s : YS} (y : Yd K Y H H' s) (st : St pos R C G s) (hl : s.last = false) (h1 : doR R C d = R) (h2 : doC R C d = C) (h3 : lets R C d = none) : Aft K Y H H' R C G d :=
  ⟨s, pos, y, hl, by rw [h1, h2]; unfold goneD; rw [h3]; exact st⟩
theorem led_ptr {R : List Wd} {k n : Nat} (h : rg R k = .ptr n) (C : List (List Wd)) (i : Nat) : ledTo R C k i = if i < (cl C n).length then some n else none := by unfold ledTo; rw [h]
theorem led_no {R : List Wd} {k : Nat} (h : isPtr (rg R k) = false) (C : List (List Wd)) (i : Nat) : ledTo R C k i = none := by
  unfold ledTo
  cases e : rg R k <;> first | rfl | (rw [e] at h; cases h)
theorem refusal_ptr {R : List Wd} {k n : Nat} (h : rg R k = .ptr n) : refusal R k = .refd "NoSlot" := by unfold refusal; rw [h]
theorem refusal_no {R : List Wd} {k : Nat} (h : isPtr (rg R k) = false) : refusal R k = .refd "NoCell" := by
  unfold refusal
  cases e : rg R k <;> first | rfl | (rw [e] at h; cases h)
section
variable {R : List Wd} {C : List (List Wd)} {t k i o n : Nat}
theorem put_yes (h : ledTo R C k i = some n) : doT R C (.put k i o) = .none ∧ doC R C (.put k i o) = C.set n ((cl C n).set i (rg R o)) ∧ lets R C (.put k i o) = some (sg C n i) := by
  refine ⟨?_, ?_, ?_⟩
  · show (match ledTo R C k i with | some _ => Td.none | none => refusal R k) = _; rw [h]
  · show (match ledTo R C k i with | some n => C.set n ((cl C n).set i (rg R o)) | none => C) = _; rw [h]
  · show (match ledTo R C k i with | some n => some (sg C n i) | none => none) = _; rw [h]
theorem put_no (h : ledTo R C k i = none) : doT R C (.put k i o) = refusal R k ∧ doC R C (.put k i o) = C ∧ lets R C (.put k i o) = none := by
  refine ⟨?_, ?_, ?_⟩
  · show (match ledTo R C k i with | some _ => Td.none | none => refusal R k) = _; rw [h]
  · show (match ledTo R C k i with | some n => C.set n ((cl C n).set i (rg R o)) | none => C) = _; rw [h]
  · show (match ledTo R C k i with | some n => some (sg C n i) | none => none) = _; rw [h]
theorem take_yes (h : ledTo R C k i = some n) : doT R C (.take t k i) = .none ∧ doR R C (.take t k i) = R.set t (sg C n i) ∧ lets R C (.take t k i) = some (rg R t) := by
  refine ⟨?_, ?_, ?_⟩
  · show (match ledTo R C k i with | some _ => Td.none | none => refusal R k) = _; rw [h]
  · show (match ledTo R C k i with | some n => R.set t (sg C n i) | none => R) = _; rw [h]
  · show (match ledTo R C k i with | some _ => some (rg R t) | none => none) = _; rw [h]
theorem take_no (h : ledTo R C k i = none) : doT R C (.take t k i) = refusal R k ∧ doR R C (.take t k i) = R ∧ lets R C (.take t k i) = none := by
  refine ⟨?_, ?_, ?_⟩
  · show (match ledTo R C k i with | some _ => Td.none | none => refusal R k) = _; rw [h]
  · show (match ledTo R C k i with | some n => R.set t (sg C n i) | none => R) = _; rw [h]
  · show (match ledTo R C k i with | some _ => some (rg R t) | none => none) = _; rw [h]
end
theorem isPtr_of {w : Wd} (h : isPtr w = true) : ∃ n, w = .ptr n := by cases w <;> first | exact ⟨_, rfl⟩ | cases h
theorem p_put {K : PySem.W.Frag} (N : Tk K) (vs : List V) (H : Hp) (Q : VK) (E : XK) (h : sp_put K vs H Q E) : t_put K E { nx := fun _ H' => Q .non H', rt := Q } (start n_put vs) H := by
  obtain ⟨Y, pos, R, C, G, kk, i, o, rfl, ⟨s, hy, st, hl⟩, ⟨o1, o2⟩, hC, k1, k2⟩ := h
  refine m_go hy (Evl.ev_var rfl) (ea1 (Evl.ev_var rfl)) (by decide +kernel) fun H1 e1 => ⟨_, kk, rfl, o1, fun H2 e2 => ?_⟩
  have y2 := (Yd.refl hy).ex (e1.trans e2)
  refine m_go y2.at_ (Evl.ev_var rfl) (ea1 (Evl.ev_var rfl)) (by decide +kernel) fun H3 e3 => ⟨_, o, rfl, o2, fun H4 e4 => ?_⟩
  have y4 := y2.ex (e3.trans e4)
  have hk : kk < R.length := by rw [st.ok.r8]; exact o1
  have ho : o < R.length := by rw [st.ok.r8]; exact o2
  refine m_go y4.at_ (Evl.ev_var rfl) (ea1 (Evl.ev_var rfl)) (by decide +kernel) fun H5 e5 => ?_
  have y5 := y4.ex e5
  refine ⟨Y, s, kk, _, rfl, y5.at_, st.rp.rget hk, fun a ha H6 e6 => ?_, fun ha H6 e6 => ?_⟩
  · obtain ⟨n, hn, rfl⟩ := ad_ptr ha
    have hlive : Live C G n := by have := st.ok.rt _ (List.mem_of_getElem? (rg_get hk)); rw [hn] at this; exact this
    have hlp := led_ptr hn C i
    have y6 := y5.ex e6
    refine m_go y6.at_ (Evl.ev_var rfl) (ea2 (Evl.ev_var rfl) (Evl.ev_var rfl)) (by decide +kernel) fun H7 e7 => ?_
    have y7 := y6.ex e7
    refine ⟨Y, s, pos n, i, n, (cl C n).length, rfl, y7.at_, st.rp.hd n hlive, fun hi H8 e8 => ?_, fun hi H8 e8 => ?_⟩
    · rw [if_pos hi] at hlp
      have y8 := y7.ex e8
      obtain ⟨x, hx, ex⟩ := y8.at_.eroot (i := 0) (σ := [some (.ref Y.p), some (.int (kk : Int)), some (.int (i : Int)), some (.int (o : Int)), some (.int (pos n : Int))]) (ta := tVar 3) N rfl (Evl.ev_var rfl) (st.rp.rget ho)
      refine m_go y8.at_ (Evl.ev_var rfl) (ea3 (Evl.ev_var rfl) (Evl.ev_var rfl) ex) (by decide +kernel) fun H9 e9 => ?_
      have y9 := y8.ex e9
      refine ⟨Y, s, pos, R, C, G, n, i, x, rg R o, rfl, y9.at_, st, hlive, hi, hx.mono (ex_tk e9), st.ok.rt _ (List.mem_of_getElem? (rg_get ho)), Nat.le_of_lt hC, fun H10 s10 y10 l10 st10 => k1 (put_yes hlp).1 H10 ⟨s10, pos, y9.go y10, by rw [l10, hl], ?_⟩⟩
      have q1 : doR R C (.put kk i o) = R := rfl
      have q2 : doC R C (.put kk i o) = C.set n ((cl C n).set i (rg R o)) := (put_yes hlp).2.1
      have q3 : lets R C (.put kk i o) = some (sg C n i) := (put_yes hlp).2.2
      unfold goneD
      rw [q1, q2, q3]
      exact st10
    · rw [if_neg (by omega)] at hlp
      exact k2 "NoSlot" ((put_no hlp).1.trans (refusal_ptr hn)) H8 (aft_same (y7.ex e8) st hl rfl (put_no hlp).2.1 (put_no hlp).2.2)
  · rw [isPtr_ad] at ha
    have hlp := led_no ha C i
    exact k2 "NoCell" ((put_no hlp).1.trans (refusal_no ha)) H6 (aft_same (y5.ex e6) st hl rfl (put_no hlp).2.1 (put_no hlp).2.2)
theorem p_take {K : PySem.W.Frag} (N : Tk K) (vs : List V) (H : Hp) (Q : VK) (E : XK) (h : sp_take K vs H Q E) : t_take K E { nx := fun _ H' => Q .non H', rt := Q } (start n_take vs) H := by
  obtain ⟨Y, pos, R, C, G, t, kk, i, rfl, ⟨s, hy, st, hl⟩, ⟨o1, o2⟩, hC, k1, k2⟩ := h
  refine m_go hy (Evl.ev_var rfl) (ea1 (Evl.ev_var rfl)) (by decide +kernel) fun H1 e1 => ⟨_, t, rfl, o1, fun H2 e2 => ?_⟩
  have y2 := (Yd.refl hy).ex (e1.trans e2)
  refine m_go y2.at_ (Evl.ev_var rfl) (ea1 (Evl.ev_var rfl)) (by decide +kernel) fun H3 e3 => ⟨_, kk, rfl, o2, fun H4 e4 => ?_⟩
  have y4 := y2.ex (e3.trans e4)
  have hk : kk < R.length := by rw [st.ok.r8]; exact o2
  have ht : t < R.length := by rw [st.ok.r8]; exact o1
  refine m_raw y4.at_ (Evl.ev_var rfl) (by decide +kernel) fun H5 e5 => tcons_of ?_
  have y5 := y4.ex e5
  refine m_go y5.at_ (Evl.ev_var rfl) (ea1 (Evl.ev_var rfl)) (by decide +kernel) fun H6 e6 => ?_
  have y6 := y5.ex e6
  refine ⟨Y, s, kk, _, rfl, y6.at_, st.rp.rget hk, fun a ha H7 e7 => ?_, fun ha H7 e7 => ?_⟩
  · obtain ⟨n, hn, rfl⟩ := ad_ptr ha
    have hlive : Live C G n := by have := st.ok.rt _ (List.mem_of_getElem? (rg_get hk)); rw [hn] at this; exact this
    have hlp := led_ptr hn C i
    have y7 := y6.ex e7
    refine ⟨_, rfl, ?_⟩
    refine ⟨Y, s, pos n, i, n, (cl C n).length, rfl, y7.at_, st.rp.hd n hlive, fun hi H8 e8 => ?_, fun hi H8 e8 => ?_⟩
    · rw [if_pos hi] at hlp
      have y8 := y7.ex e8
      obtain ⟨x, hx, ex⟩ := y8.at_.eword (i := 0) (a := pos n + 1 + i) (σ := [some (.ref Y.p), some (.int (t : Int)), some (.int (kk : Int)), some (.int (i : Int)), some (.int ((pos n + 1 + i : Nat) : Int))]) (ta := tVar 4) N rfl (Evl.ev_var rfl) (st.rp.sl n hlive i _ (sg_get hi))
      refine m_go y8.at_ (Evl.ev_var rfl) (ea2 (Evl.ev_var rfl) ex) (by decide +kernel) fun H9 e9 => ?_
      have y9 := y8.ex e9
      refine ⟨Y, s, pos, R, C, G, t, x, sg C n i, rfl, y9.at_, st, o1, hx.mono (ex_tk e9), st.ok.cc n hlive _ (List.mem_of_getElem? (sg_get hi)), Nat.le_of_lt hC, fun H10 s10 y10 l10 st10 => k1 (take_yes hlp).1 H10 ⟨s10, pos, y9.go y10, by rw [l10, hl], ?_⟩⟩
      have q1 : doR R C (.take t kk i) = R.set t (sg C n i) := (take_yes hlp).2.1
      have q2 : doC R C (.take t kk i) = C := rfl
      have q3 : lets R C (.take t kk i) = some (rg R t) := (take_yes hlp).2.2
      unfold goneD
      rw [q1, q2, q3]
      exact st10
    · rw [if_neg (by omega)] at hlp
      exact k2 "NoSlot" ((take_no hlp).1.trans (refusal_ptr hn)) H8 (aft_same (y7.ex e8) st hl (take_no hlp).2.1 rfl (take_no hlp).2.2)
  · rw [isPtr_ad] at ha
    have hlp := led_no ha C i
    exact k2 "NoCell" ((take_no hlp).1.trans (refusal_no ha)) H7 (aft_same (y6.ex e7) st hl (take_no hlp).2.1 rfl (take_no hlp).2.2)
end Gy

set_option Elab.async false
set_option linter.all false
set_option maxRecDepth 100000
set_option maxHeartbeats 1000000
/-! Part 23: make. -/
namespace Gy
open PySem PySem.Spec PyProof.Rows L2
open Evl (Ex Ev EvL EvU EvT EvA EvO rLenS rListS rMax2)
theorem ff_cover {fs : List (Nat × Nat)} {m a : Nat} (h : firstFit fs m = some a) : ∃ s ∈ fs, covers a m s = true := by
  obtain ⟨s, h1, h2, h3⟩ := firstFit_mem h
  refine ⟨s, h1, ?_⟩
  unfold covers
  rw [decide_eq_true (show s.1 ≤ a by omega), decide_eq_true (show a + m ≤ s.1 + s.2 by omega)]; rfl
/-- what stands behind the room that was found -/
def t_mk2 (K : PySem.W.Frag) : TS :=
  (tSeq (tAsg (tFld K (tVar 0) "born") (gName 4))
    (tSeq (sFld K (tVar 0) (tOp rAddI (tVar 4) (tC (.int 1))) "born")
    (tSeq (tAsg (tTup (tCons (tC (.str "head")) (tCons (tVar 4) (tCons (tVar 2) tNil)))) (gSub (tFld K (tVar 0) "words") (tVar 3) rSetL))
    (tSeq (tFor (iRng1 (tCons (tVar 2) tNil)) (gName 5)
    (tAsg (tC .non) (gSub (tFld K (tVar 0) "words") (tOp rAddI (tOp rAddI (tVar 3) (tC (.int 1))) (tVar 5)) rSetL)))
    (tSeq (tDrop (tMeth (aC K) "placed" (sp_placed K) [] E0 (tVar 0) (tCons (tVar 3) tNil)))
    (tSeq (tDrop (tMeth (aC K) "set_root" (sp_set_root K) [] E0 (tVar 0) (tCons (tVar 1) (tCons (tTup (tCons (tC (.str "at")) (tCons (tVar 3) tNil))) tNil))))
    (tRet (tVar 4))))))))
theorem mk2 {K : PySem.W.Frag} (N : Tk K) {Y : YA} {H : Hp} {s : YS} {pos : Nat → Nat} {R : List Wd} {C : List (List Wd)} {G : List Nat} {k z a : Nat} {D : Ends} (hy : YAt K Y H s) (st : St pos R C G s) (hk : k < 8) (hz : z ≤ 4) (hC : C.length < 100) (ha : firstFit s.free (z + 1) = some a)
    (kk : ∀ H' s' pos', Yd K Y H H' s' → s'.last = s.last → St pos' (R.set k (.ptr C.length)) (C ++ [List.replicate z .non]) (swp (C ++ [List.replicate z .non]) (sw0 (R.set k (.ptr C.length)) (C ++ [List.replicate z .non]) G (rg R k))) s' → D.rt (.int (C.length : Int)) H') :
    t_mk2 K D [some (.ref Y.p), some (.int (k : Int)), some (.int (z : Int)), some (.int (a : Int)), none, none] H := by
  have rp := st.rp
  have ok := st.ok
  obtain ⟨j, t, hj, hcov, hfirst⟩ := cover_first (ff_cover ha)
  obtain ⟨c1, c2⟩ := cut_spec hcov
  have ht := rp.fr.1 t (List.mem_of_getElem? hj)
  refine Evl.q_asg (hy.eborn (i := 0) N rfl) fun H1 e1 => ?_
  rw [rp.bn]
  have y1 := (Yd.refl hy).ex e1
  refine y1.at_.s_fld (i := 0) N N.born rfl (evp_of (ev_add (Evl.ev_var rfl) Evl.ev_c)) ?_
  rintro _ H2 lf lv e2 rfl hi hf hn hl
  have c6 : ((C.length : Int) + 1) = ((C.length + 1 : Nat) : Int) := by omega
  rw [c6, put_born]
  have y2 := y1.ex e2
  have y3 := y2.by (y2.at_.setI (born' := C.length + 1) (free' := s.free) (last' := s.last) hf hn hl) (Keep.upd own_p)
  revert y3
  generalize upd H2 Y.p (.ins (aC K) Y.dx (fls Y (C.length + 1) lf lv)) = H3
  intro y3
  refine y3.at_.s_word (i := 0) N rfl (evp_hd (Evl.ev_var rfl) (Evl.ev_var rfl)) (fun H4 e4 => Evl.ev_var rfl) (by show a < s.words.length; rw [rp.wl]; omega) fun H4 y4 => ?_
  have y34 := y3.go y4
  refine Evl.q_forR1 (n := (z : Int)) (ea1 (Evl.ev_var rfl)) ⟨by omega, by omega⟩ (fun i σ' H' => ∃ v5, σ' = [some (.ref Y.p), some (.int (k : Int)), some (.int (z : Int)), some (.int (a : Int)), some (.int (C.length : Int)), v5] ∧ Yd K Y H H' { s with born := C.length + 1, words := wipeW (s.words.set a (.head C.length z)) (a + 1) i }) (fun H5 e5 => ⟨_, rfl, y34.ex e5⟩) ?_ ?_
  · rintro i σ' H5 hi ⟨v5, rfl, y5⟩
    refine y5.at_.s_word (i := 0) (w := .non) (j := a + 1 + i) N rfl (evp_ev Evl.ev_c fun _ _ => rfl) (fun H6 e6 => ev_int (ev_add (ev_add (Evl.ev_var rfl) Evl.ev_c) (Evl.ev_var rfl)) (by omega)) ?_ fun H6 y6 => ⟨_, rfl, y5.go y6⟩
    show a + 1 + i < (wipeW _ _ _).length
    rw [wipeW_len, List.length_set, rp.wl]; omega
  · rintro σ' H5 ⟨v5, rfl, y5⟩
    rw [Int.toNat_natCast] at y5
    have w0 : (wipeW (s.words.set a (.head C.length z)) (a + 1) z)[a]? = some (.head C.length z) := by
      rw [wipeW_get, if_neg (by omega), List.getElem?_set, if_pos rfl, if_pos (by rw [rp.wl]; omega)]
    refine m_go y5.at_ (Evl.ev_var rfl) (ea1 (Evl.ev_var rfl)) (by decide +kernel) fun H6 e6 => ?_
    have y6 := y5.ex e6
    refine ⟨Y, _, a, C.length, z, j, t, rfl, y6.at_, w0, by have := rp.fr.len; show s.free.length ≤ 1000; omega, by have := rp.ledlen; show s.led.length ≤ 1000; omega, hj, hcov, hfirst, fun H7 y7 => ?_⟩
    have y67 := y6.go y7
    have rpm : Rep (fun n => if n = C.length then a else pos n) R (C ++ [List.replicate z .non]) G (ovr (fun n => (cnt R C G n : Int)) C.length 0) (made s a C.length z j t) := rp.make ok hj hcov
    have okm := ok.make (z := z) hz
    have stm : St (fun n => if n = C.length then a else pos n) R (C ++ [List.replicate z .non]) G (made s a C.length z j t) := ⟨rpm.congrL fun n _ => by
      show (if n = C.length then (0 : Int) else (cnt R C G n : Int)) = (cnt R (C ++ [List.replicate z .non]) G n : Int)
      rw [cnt_make]
      by_cases q : n = C.length
      · subst q
        rw [if_pos rfl, cnt_dead ok (fun h => Nat.lt_irrefl _ h.1)]; rfl
      · rw [if_neg q], okm⟩
    refine m_goP (PA := fun vs H' => ∃ x r, vs = x :: r ∧ (x = .int (k : Int)) ∧ ∃ y r2, r = y :: r2 ∧ WR H' y (.ptr a) ∧ r2 = []) y7.at_ (Evl.ev_var rfl) (eap_cons (evp_of (Evl.ev_var rfl)) (fun _ _ _ _ h => h) (eap_cons (evp_at (Evl.ev_var rfl)) (fun _ _ _ e h => h.mono (ex_tk e)) eap_nil)) (by decide +kernel) ?_
    rintro _ H8 e8 ⟨_, _, rfl, rfl, v, _, rfl, hv, rfl⟩
    have y8 := y67.ex e8
    refine ⟨Y, made s a C.length z j t, _, R, C ++ [List.replicate z .non], G, k, v, .ptr C.length, rfl, y8.at_, stm, hk, ?_, ?_, by rw [List.length_append, List.length_singleton]; omega, fun H9 s9 y9 l9 st9 => ?_⟩
    · show WR H8 v (.ptr (if C.length = C.length then a else pos C.length))
      rw [if_pos rfl]; exact hv
    · exact ⟨by rw [List.length_append, List.length_singleton]; omega, fun q => absurd (ok.gl _ q) (Nat.lt_irrefl _)⟩
    · refine Evl.s_ret (Evl.ev_var rfl) fun H10 e10 => kk H10 s9 _ ((y8.go y9).ex e10) (by rw [l9]; rfl) st9
theorem p_make {K : PySem.W.Frag} (N : Tk K) (vs : List V) (H : Hp) (Q : VK) (E : XK) (h : sp_make K vs H Q E) : t_make K E { nx := fun _ H' => Q .non H', rt := Q } (start n_make vs) H := by
  obtain ⟨Y, pos, R, C, G, kk, z, rfl, ⟨s, hy, st, hl⟩, ⟨o1, o2⟩, hC, k1, k2, k3⟩ := h
  refine m_go hy (Evl.ev_var rfl) (ea1 (Evl.ev_var rfl)) (by decide +kernel) fun H1 e1 => ⟨_, kk, rfl, o1, fun H2 e2 => ?_⟩
  refine Evl.q_when (b := false) (Evl.et_is (Evl.et_not (Evl.et_test (ev_chainLL Evl.ev_c (Evl.ev_var rfl) Evl.ev_c))) ?_) (fun z => by cases z) fun _ H3 e3 => ?_
  · rw [decide_eq_true (show (0 : Int) ≤ (z : Int) by omega), decide_eq_true (show (z : Int) ≤ 4 by omega)]; rfl
  have y3 := (Yd.refl hy).ex ((e1.trans e2).trans e3)
  refine m_go y3.at_ (Evl.ev_var rfl) (ea1 (Evl.ev_var rfl)) (by decide +kernel) fun H4 e4 => ⟨Y, s, z, rfl, y3.at_.ex e4, fun H5 e5 => ?_⟩
  have y5 := y3.ex (e4.trans e5)
  cases hff : firstFit s.free (z + 1) with
  | some a =>
    refine Evl.q_when (b := false) (et_isN (v := .int (a : Int)) (Evl.ev_var rfl) rfl) (fun z => by cases z) fun _ H6 e6 => ?_
    refine Evl.q_when (b := false) (et_isN (v := .int (a : Int)) (Evl.ev_var rfl) rfl) (fun z => by cases z) fun _ H7 e7 => ?_
    have y7 := y5.ex (e6.trans e7)
    refine mk2 N y7.at_ st o1 o2 hC hff fun H8 s8 pos' y8 l8 st8 => k1 _ H8 ⟨s8, pos', y7.go y8, by rw [l8, hl], st8⟩
  | none =>
    refine Evl.q_when (b := true) (et_isN (v := .non) (Evl.ev_var rfl) rfl) (fun _ H6 e6 => ?_) (fun z => by cases z)
    have y6 := y5.ex e6
    refine m_go y6.at_ (Evl.ev_var rfl) Evl.ea_nil (by decide +kernel) fun H7 e7 => ?_
    have y7 := y6.ex e7
    refine ⟨Y, s, pos, R, C, G, rfl, y7.at_, st, Nat.le_of_lt hC, fun H8 s8 X v8 y8 l8 st8 => ?_⟩
    have y78 := y7.go y8
    refine m_go y8.at_ (Evl.ev_var rfl) (ea1 (Evl.ev_var rfl)) (by decide +kernel) fun H9 e9 => ⟨Y, s8, z, rfl, y8.at_.ex e9, fun H10 e10 => ?_⟩
    have y10 := y78.ex (e9.trans e10)
    cases hf2 : firstFit s8.free (z + 1) with
    | some a =>
      refine Evl.q_when (b := false) (et_isN (v := .int (a : Int)) (Evl.ev_var rfl) rfl) (fun z => by cases z) fun _ H11 e11 => ?_
      have y11 := y10.ex e11
      refine mk2 N y11.at_ st8 o1 o2 hC hf2 fun H12 s12 pos' y12 l12 st12 => k2 _ H12 ?_
      obtain ⟨g, hg⟩ := it_pre (C := C ++ [List.replicate z .non]) (sw0 (R.set kk (.ptr C.length)) (C ++ [List.replicate z .non]) (G ++ X) (rg R kk)) (mu (C ++ [List.replicate z .non]) (sw0 (R.set kk (.ptr C.length)) (C ++ [List.replicate z .non]) (G ++ X) (rg R kk)))
      exact ⟨s12, X ++ g, y11.go y12, by rw [l12, l8], by rw [st12.rp.gn, ← List.append_assoc]; exact hg⟩
    | none =>
      refine Evl.q_when (b := true) (et_isN (v := .non) (Evl.ev_var rfl) rfl) (fun _ H11 e11 => ?_) (fun z => by cases z)
      exact k3 H11 ⟨s8, X, y10.ex e11, l8, st8.rp.gn⟩
end Gy

set_option Elab.async false
set_option linter.all false
set_option maxRecDepth 100000
set_option maxHeartbeats 1000000
/-! Part 24: value, same, names, swept, paper, counts; the yard's making. -/
namespace Gy
open PySem PySem.Spec PyProof.Rows L2
open Evl (Ex Ev EvL EvU EvT EvA EvO rLenS rListS rMax2)
theorem p_value {K : PySem.W.Frag} (N : Tk K) (vs : List V) (H : Hp) (Q : VK) (E : XK) (h : sp_value K vs H Q E) : t_value K { nx := fun _ H' => Q .non H', rt := Q } (start n_value vs) H := by
  obtain ⟨Y, pos, R, C, G, kk, rfl, ⟨s, hy, st, hl⟩, o1, k⟩ := h
  refine m_go hy (Evl.ev_var rfl) (ea1 (Evl.ev_var rfl)) (by decide +kernel) fun H1 e1 => ⟨_, kk, rfl, o1, fun H2 e2 => ?_⟩
  have e12 := e1.trans e2
  have y2 := hy.ex e12
  have hk : kk < R.length := by rw [st.ok.r8]; exact o1
  have ow := st.ok.rt _ (List.mem_of_getElem? (rg_get hk))
  obtain ⟨x, hx, ex⟩ := y2.eroot (i := 0) (σ := start n_value [.ref Y.p, .int (kk : Int)]) (ta := tVar 1) N rfl (Evl.ev_var rfl) (st.rp.rget hk)
  refine s_retP (P := fun v H' => WR H' v (rg R kk)) (m_ev y2 (Evl.ev_var rfl) (ea1 ex) (by decide +kernel) fun H3 e3 Q3 q3 => ⟨Y, s, x, _, rfl, y2.ex e3, hx.mono (ex_tk e3), st.rp.ptrAt ow, fun v' H4 e4 hv => q3 v' H4 e4 ?_⟩) fun v H3 e3 hv => k v H3 (e12.trans e3) hv
  rw [st.rp.told ow] at hv
  exact hv
theorem ad_inj {pos : Nat → Nat} {R : List Wd} {C : List (List Wd)} {G : List Nat} {L : Nat → Int} {s : YS} (h : Rep pos R C G L s) {u w : Wd} (hu : OkW C G u) (hw : OkW C G w) : ad pos u = ad pos w ↔ u = w := by
  constructor
  · intro e
    cases u with
    | ptr m =>
      obtain ⟨n, rfl, hn⟩ := ad_ptr e.symm
      rw [h.inj hw hu hn]
    | num i => cases w <;> first | exact e | cases e
    | non => cases w <;> first | exact e | cases e
    | head i j => exact hu.elim
  · intro e; rw [e]
theorem p_same {K : PySem.W.Frag} (N : Tk K) (vs : List V) (H : Hp) (Q : VK) (E : XK) (h : sp_same K vs H Q E) : t_same K { nx := fun _ H' => Q .non H', rt := Q } (start n_same vs) H := by
  obtain ⟨Y, pos, R, C, G, a, b, rfl, ⟨s, hy, st, hl⟩, o1, o2, k⟩ := h
  refine m_go hy (Evl.ev_var rfl) (ea1 (Evl.ev_var rfl)) (by decide +kernel) fun H1 e1 => ⟨_, a, rfl, o1, fun H2 e2 => ?_⟩
  have e12 := e1.trans e2
  refine m_go (hy.ex e12) (Evl.ev_var rfl) (ea1 (Evl.ev_var rfl)) (by decide +kernel) fun H3 e3 => ⟨_, b, rfl, o2, fun H4 e4 => ?_⟩
  have e14 := e12.trans (e3.trans e4)
  have y4 := hy.ex e14
  have ha : a < R.length := by rw [st.ok.r8]; exact o1
  have hb : b < R.length := by rw [st.ok.r8]; exact o2
  have oa := st.ok.rt _ (List.mem_of_getElem? (rg_get ha))
  have ob := st.ok.rt _ (List.mem_of_getElem? (rg_get hb))
  obtain ⟨x, hx, ex⟩ := y4.eroot (i := 0) (σ := start n_same [.ref Y.p, .int (a : Int), .int (b : Int)]) (ta := tVar 1) N rfl (Evl.ev_var rfl) (st.rp.rget ha)
  obtain ⟨y, hy', ey⟩ := y4.eroot (i := 0) (σ := start n_same [.ref Y.p, .int (a : Int), .int (b : Int)]) (ta := tVar 2) N rfl (Evl.ev_var rfl) (st.rp.rget hb)
  refine Evl.s_ret (v := .bl (decide (rg R a = rg R b))) (Evl.ev_op ex ey fun H5 e5 Q5 q5 => ⟨_, _, wr_dp (hx.mono (ex_tk e5)), wr_dp (hy'.mono (ex_tk e5)), pd_shaped _, pd_shaped _, ?_⟩) fun H5 e5 => k H5 (e14.trans e5)
  rw [pd_eqv, decide_eq_decide.mpr (ad_inj st.rp oa ob)]
  exact q5 H5 (Ex.refl H5)
theorem nm_of_st {H : Hp} {xs : List V} {zs : List (Nat × Nat)} (h : StRs H xs zs) : Paired (NmR H) xs (zs.map (·.1)) := pr_map (pr_imp (fun v e ⟨t, h1, h2⟩ => ⟨t, _, h1, h2⟩) h)
theorem evp_where {K : PySem.W.Frag} {σ : L2.St} {H : Hp} {Y : YA} {s : YS} {i : Nat} (hy : YAt K Y H s) (hs : σ[i]? = some (some (.ref Y.p))) (hz : s.words.length ≤ 1000) : EvP (tMeth (aC K) "where" (sp_where K) [] E0 (tVar i) tNil) σ H (fun v H' => ∃ zs xs D, v = .ref D ∧ H' D = some (.lst xs) ∧ StRs H' xs zs ∧ zs.Perm (headsW s.words) ∧ zs.Pairwise (fun x y => x.1 ≤ y.1)) :=
  m_ev hy (Evl.ev_var hs) Evl.ea_nil (by decide +kernel) fun H1 e1 Q1 q1 => ⟨Y, s, rfl, hy.ex e1, hz, fun zs xs D H2 e2 h1 h2 hD hd2 r => q1 _ H2 e2 ⟨zs, xs, D, rfl, hd2, r, h1, h2⟩⟩
theorem p_names {K : PySem.W.Frag} (N : Tk K) (vs : List V) (H : Hp) (Q : VK) (E : XK) (h : sp_names K vs H Q E) : t_names K { nx := fun _ H' => Q .non H', rt := Q } (start n_names vs) H := by
  obtain ⟨Y, pos, R, C, G, rfl, ⟨s, hy, st, hl⟩, k⟩ := h
  refine s_retP (P := fun v H' => ∃ D, v = .ref D ∧ H D = none ∧ H' D = some (.lst (nsV (lives C G)))) (evp_lcU (evp_where hy rfl (by rw [st.rp.wl]; omega)) ?_) ?_
  · rintro _ H1 e1 ⟨zs, xs, D, rfl, hD, r, h1, h2⟩
    have hz := lives_len st.rp h1
    have hl := pr_len r
    obtain ⟨w1, _⟩ := st.rp.where_ h1 h2
    refine (e_firsts (nm_of_st r) (evp_ev (v := .ref D) Evl.ev_c fun H2 e2 => ⟨D, rfl, Evl.sq_of (e2 _ _ hD)⟩) (by omega) (by show 1 < 3; decide) (by show 2 < 3; decide) (by decide)).imp ?_
    rintro v H2 e2 ⟨D2, rfl, h3, h4⟩
    exact ⟨D2, rfl, Evl.fresh_back e1 h3, by rw [h4, w1]⟩
  · rintro _ H1 e1 ⟨D, rfl, hD, h1⟩
    exact k H1 D e1 hD h1
theorem p_counts {K : PySem.W.Frag} (N : Tk K) (vs : List V) (H : Hp) (Q : VK) (E : XK) (h : sp_counts K vs H Q E) : t_counts K { nx := fun _ H' => Q .non H', rt := Q } (start n_counts vs) H := by
  obtain ⟨Y, pos, R, C, G, rfl, ⟨s, hy, st, hl⟩, k⟩ := h
  refine s_retP (P := fun v H' => ∃ D xs, v = .ref D ∧ H D = none ∧ H' D = some (.lst xs) ∧ Paired (NmR H') xs (lives C G)) (evp_lcU (evp_where hy rfl (by rw [st.rp.wl]; omega)) ?_) ?_
  · rintro _ H1 e1 ⟨zs, xs, D, rfl, hD, r, h1, h2⟩
    have hz := lives_len st.rp h1
    have hl := pr_len r
    obtain ⟨w1, w2⟩ := st.rp.where_ h1 h2
    refine (e_lcM (fun H => StR H) (fun _ H => NmR H) (fun e : Nat × Nat => some e.1) (fun H2 e => StRs.mono (ex_tk e) r) (evp_ev (v := .ref D) Evl.ev_c fun H2 e2 => ⟨D, rfl, Evl.sq_of (e2 _ _ hD)⟩) (by omega) (fun D acc H1 H2 x b e k q => q.mono (k.tk e)) (fun D' i x e acc H2 hi he e2 hD' hacc rw1 => ?_)).imp ?_
    · obtain ⟨t, rfl, ht⟩ := rw1
      refine ⟨_, g_pr (Evl.st_of ht), rfl, et_yes, fun b hb => ?_⟩
      injection hb with hb
      subst hb
      obtain ⟨w3, w4⟩ := w2 e (List.mem_of_getElem? he)
      have y2 := hy.ex (e1.trans e2)
      have hc := st.rp.ll e.1 w3
      rw [w4] at hc
      exact fun H3 e3 Q3 q3 => (Evl.eu_tup (ea2 (Evl.ev_var (v := .int (e.1 : Int)) rfl) (ev_led (i := 0) (y2.ex e3) N rfl (Evl.ev_var (v := .int (e.2 : Int)) rfl) hc)) (by show 2 ≤ 100000; decide)) H3 (Ex.refl H3) _ fun p H4 _ e4 h4 => q3 _ H4 e4 ⟨p, _, rfl, h4⟩
    · rintro v H2 e ⟨D2, ys, rfl, hD2, hys, r2⟩
      rw [fm_some, w1] at r2
      exact ⟨D2, ys, rfl, Evl.fresh_back e1 hD2, hys, r2⟩
  · rintro _ H1 e1 ⟨D, xs, rfl, hD, h1, h2⟩
    exact k H1 D xs e1 hD h1 h2
theorem p_swept {K : PySem.W.Frag} (N : Tk K) (vs : List V) (H : Hp) (Q : VK) (E : XK) (h : sp_swept K vs H Q E) : t_swept K { nx := fun _ H' => Q .non H', rt := Q } (start n_swept vs) H := by
  obtain ⟨Y, s, rfl, hy, k⟩ := h
  exact Evl.s_retL (Evl.el_list (hy.egone (i := 0) N rfl) (Evl.sq_of hy.gn)) fun p H1 hp e1 h1 => k H1 p e1 hp h1
theorem p_paper {K : PySem.W.Frag} (N : Tk K) (vs : List V) (H : Hp) (Q : VK) (E : XK) (h : sp_paper K vs H Q E) : t_paper K { nx := fun _ H' => Q .non H', rt := Q } (start n_paper vs) H := by
  obtain ⟨Y, s, rfl, hy, k1, k2⟩ := h
  obtain ⟨lf, lv, hi, hf, hn, hl⟩ := hy.ins
  have el : ∀ {H1}, Ex H H1 → Ev (tFld K (tVar 0) "last") (start n_paper [.ref Y.p]) H1 lv := fun e => ev_fld (Evl.ev_var rfl) (e _ _ hi) N.cl N.last fl_last
  cases e : s.last with
  | false =>
    rw [e] at hl
    obtain rfl : lv = .non := hl
    exact Evl.q_when (b := true) (et_isN (el (Ex.refl H)) rfl) (fun _ H1 e1 => Evl.s_ret Evl.ev_c fun H2 e2 => k1 e H2 (e1.trans e2)) (fun z => by cases z)
  | true =>
    rw [e] at hl
    obtain ⟨t, a, b, ax, bx, rfl, h1, h2, h3, n1, n2⟩ := hl
    refine Evl.q_when (b := false) (et_isN (el (Ex.refl H)) rfl) (fun z => by cases z) fun _ H1 e1 => ?_
    have hev : EvAP (tCons (tCB (rListS K) (tCons (tOp (rIxT K) (tFld K (tVar 0) "last") (tC (.int 0))) tNil)) (tCons (tCB (rListS K) (tCons (tOp (rIxT K) (tFld K (tVar 0) "last") (tC (.int 1))) tNil)) tNil)) (start n_paper [.ref Y.p]) H1 (fun vs _ => vs.length = 2) := by
      intro H2 e2 Q2 q2
      refine tcons_of ((Evl.el_list (ev_tix (v := .ref a) (el (e1.trans e2)) Evl.ev_c ((e1.trans e2) _ _ h1) rfl) (Evl.sq_of ((e1.trans e2) _ _ h2))) H2 (Ex.refl H2) _ fun p H3 _ e3 _ => ?_)
      have e03 := (e1.trans e2).trans e3
      refine tcons_of ((Evl.el_list (ev_tix (v := .ref b) (el e03) Evl.ev_c (e03 _ _ h1) rfl) (Evl.sq_of (e03 _ _ h3))) H3 (Ex.refl H3) _ fun p2 H4 _ e4 _ => ?_)
      exact q2 _ H4 (e3.trans e4) rfl
    refine s_retP (evp_tup (P := fun vs _ => vs.length = 2) hev (fun _ _ _ _ h => h) (fun zs A h => by rw [h]; decide)) ?_
    rintro v H2 e2 ⟨p, xs, rfl, hp, _⟩
    exact k2 e H2 p xs (e1.trans e2) hp
/-! ### making -/
theorem s_fldR {K : PySem.W.Frag} {σ : L2.St} {H : Hp} {i : Nat} {tv : TE} {P : V → Hp → Prop} {D : Ends} {f : Str} {p dx : Addr} {fs : List (Str × V)} (N : Tk K) (hi : H p = some (.ins (aC K) dx fs)) (ha : NoAttr K (aC K) f) (hs : σ[i]? = some (some (.ref p))) (hz : fs.length < 1000) (hv : EvP tv σ H P)
    (k : ∀ v H1, Ex H H1 → P v H1 → D.nx σ (upd H1 p (.ins (aC K) dx (putF f v fs)))) : sFld K (tVar i) tv f D σ H :=
  hv H (Ex.refl H) _ fun v H1 e1 pv => ⟨_, hs, p, aC K, dx, fs, rfl, e1 _ _ hi, N.cl, ha, hz, k v H1 e1 pv⟩
theorem q_fldR {K : PySem.W.Frag} {σ : L2.St} {H : Hp} {i : Nat} {tv : TE} {P : V → Hp → Prop} {D : Ends} {tz : TS} {f : Str} {p dx : Addr} {fs : List (Str × V)} (N : Tk K) (hi : H p = some (.ins (aC K) dx fs)) (ha : NoAttr K (aC K) f) (hs : σ[i]? = some (some (.ref p))) (hz : fs.length < 1000) (hv : EvP tv σ H P)
    (k : ∀ v H1, Ex H H1 → P v H1 → tz D σ (upd H1 p (.ins (aC K) dx (putF f v fs)))) : tSeq (sFld K (tVar i) tv f) tz D σ H := s_fldR (D := { D with nx := tz D }) N hi ha hs hz hv k
theorem evp_rep {σ : L2.St} {H : Hp} {tk : TE} {n : Nat} (hk : Ev tk σ H (.int (n : Int))) (hn : n ≤ 1000) : EvP (tOp rRep (tLst (tCons (tC .non) tNil)) tk) σ H (NewP H fun xs _ => xs = List.replicate n .non) :=
  evp_op (Pa := LstP fun xs _ => xs = [.non]) (evp_new (evp_el (Evl.el_lst (ea1 Evl.ev_c) (by show 1 ≤ 100000; decide)) fun _ _ => rfl)) (evp_of hk) fun x y H1 H2 e1 px e2 py Q q => by
    obtain ⟨p, xs, rfl, h1, rfl⟩ := px
    subst py
    refine ⟨p, _, [.non], rfl, rfl, e2 _ _ h1, by omega, by omega, by rw [sizeLine_eq]; simp; omega, fun a ha => q _ _ (ex_new ha) ⟨a, _, rfl, Evl.fresh_back (e1.trans e2) ha, upd_same, ?_⟩⟩
    rw [Int.toNat_natCast, List.flatten_replicate_singleton]
theorem p_yinit {K : PySem.W.Frag} (N : Tk K) (vs : List V) (H : Hp) (Q : VK) (E : XK) (h : sp_yinit K vs H Q E) : t_yinit K { nx := fun _ H' => Q .non H', rt := Q } (start n_yinit vs) H := by
  obtain ⟨x, dx, rfl, hx, k⟩ := h
  have kx : ∀ {A B : Hp} {o : HO}, Keep (fun b => b = x) A B → Keep (fun b => b = x) A (upd B x o) := fun h => h.trans (Keep.upd rfl)
  refine Evl.q_when (b := false) (Evl.et_is (Evl.et_not (Evl.et_test (ev_chainLL Evl.ev_c (Evl.ev_var rfl) Evl.ev_c))) (by decide)) (fun z => by cases z) fun _ H1 e1 => ?_
  have ne : ∀ {A : Hp} {p : Addr}, (∀ b o, H b = some o → A b ≠ none) → A p = none → p ≠ x := fun h hp z => h x _ hx (by rw [← z]; exact hp)
  have up : ∀ {A : Hp} {o : HO}, (∀ b o, H b = some o → A b ≠ none) → ∀ b o', H b = some o' → upd A x o b ≠ none := fun {A o} h b o' e z => by
    by_cases q : b = x
    · rw [q, upd_same] at z; cases z
    · rw [upd_ne q] at z; exact h b o' e z
  have ux : ∀ {A B : Hp}, Ex A B → (∀ b o, H b = some o → A b ≠ none) → ∀ b o, H b = some o → B b ≠ none := fun {A B} e h b o hb z => by
    cases q : A b with
    | none => exact h b o hb q
    | some u => rw [e _ _ q] at z; cases z
  have fr : ∀ {A : Hp} {p : Addr}, (∀ b o, H b = some o → A b ≠ none) → A p = none → H p = none := fun {A p} h hp => by
    cases q : H p with
    | none => rfl
    | some o => exact absurd hp (h p o q)
  have x1 := ux e1 (fun b o e z => by rw [e] at z; cases z)
  have K1 := Keep.ex (M := fun b => b = x) e1
  refine q_fldR N (e1 _ _ hx) N.room rfl (by decide) (evp_of (Evl.ev_var rfl)) fun v H2 e2 hv => ?_
  subst hv
  have x2 := up (o := .ins (aC K) dx (putF "room" (.int 60) [])) (ux e2 x1)
  have K2 := kx (o := .ins (aC K) dx (putF "room" (.int 60) [])) (K1.trans (Keep.ex e2))
  have h2 : upd H2 x (.ins (aC K) dx (putF "room" (.int 60) [])) x = some (.ins (aC K) dx (putF "room" (.int 60) [])) := upd_same
  revert x2 K2 h2
  generalize upd H2 x (.ins (aC K) dx (putF "room" (.int 60) [])) = H3
  intro x3 K3 h3
  refine q_fldR N h3 N.words rfl (by decide) (evp_rep (n := 60) (Evl.ev_var rfl) (by decide)) ?_
  rintro _ H4 e4 ⟨lw, _, rfl, hlw, hlw4, rfl⟩
  have nw := ne x3 hlw
  have x4 := up (o := .ins (aC K) dx (putF "words" (.ref lw) (putF "room" (.int 60) []))) (ux e4 x3)
  have K4 := kx (o := .ins (aC K) dx (putF "words" (.ref lw) (putF "room" (.int 60) []))) (K3.trans (Keep.ex e4))
  have h4 : upd H4 x (.ins (aC K) dx (putF "words" (.ref lw) (putF "room" (.int 60) []))) x = some (.ins (aC K) dx (putF "words" (.ref lw) (putF "room" (.int 60) []))) := upd_same
  have w4 : upd H4 x (.ins (aC K) dx (putF "words" (.ref lw) (putF "room" (.int 60) []))) lw = some (.lst (List.replicate 60 .non)) := by rw [upd_ne nw]; exact hlw4
  revert x4 K4 h4 w4
  generalize upd H4 x (.ins (aC K) dx (putF "words" (.ref lw) (putF "room" (.int 60) []))) = H5
  intro x5 K5 h5 w5
  refine q_fldR N h5 N.roots rfl (by show 2 < 1000; decide) (evp_rep (n := 8) Evl.ev_c (by decide)) ?_
  rintro _ H6 e6 ⟨lr, _, rfl, hlr, hlr6, rfl⟩
  have nr := ne x5 hlr
  have nwr : lw ≠ lr := fun z => by rw [← z, w5] at hlr; cases hlr
  have x6 := up (o := .ins (aC K) dx (putF "roots" (.ref lr) (putF "words" (.ref lw) (putF "room" (.int 60) [])))) (ux e6 x5)
  have K6 := kx (o := .ins (aC K) dx (putF "roots" (.ref lr) (putF "words" (.ref lw) (putF "room" (.int 60) [])))) (K5.trans (Keep.ex e6))
  have h6 : upd H6 x (.ins (aC K) dx (putF "roots" (.ref lr) (putF "words" (.ref lw) (putF "room" (.int 60) [])))) x = some (.ins (aC K) dx (putF "roots" (.ref lr) (putF "words" (.ref lw) (putF "room" (.int 60) [])))) := upd_same
  have w6 : upd H6 x (.ins (aC K) dx (putF "roots" (.ref lr) (putF "words" (.ref lw) (putF "room" (.int 60) [])))) lw = some (.lst (List.replicate 60 .non)) := by rw [upd_ne nw]; exact e6 _ _ w5
  have r6 : upd H6 x (.ins (aC K) dx (putF "roots" (.ref lr) (putF "words" (.ref lw) (putF "room" (.int 60) [])))) lr = some (.lst (List.replicate 8 .non)) := by rw [upd_ne nr]; exact hlr6
  revert x6 K6 h6 w6 r6
  generalize upd H6 x (.ins (aC K) dx (putF "roots" (.ref lr) (putF "words" (.ref lw) (putF "room" (.int 60) [])))) = H7
  intro x7 K7 h7 w7 r7
  refine q_fldR N h7 N.born rfl (by show 3 < 1000; decide) (evp_of Evl.ev_c) fun v H8 e8 hv => ?_
  subst hv
  have x8 := up (o := .ins (aC K) dx (putF "born" (.int 0) (putF "roots" (.ref lr) (putF "words" (.ref lw) (putF "room" (.int 60) []))))) (ux e8 x7)
  have K8 := kx (o := .ins (aC K) dx (putF "born" (.int 0) (putF "roots" (.ref lr) (putF "words" (.ref lw) (putF "room" (.int 60) []))))) (K7.trans (Keep.ex e8))
  have h8 : upd H8 x (.ins (aC K) dx (putF "born" (.int 0) (putF "roots" (.ref lr) (putF "words" (.ref lw) (putF "room" (.int 60) []))))) x = some (.ins (aC K) dx (putF "born" (.int 0) (putF "roots" (.ref lr) (putF "words" (.ref lw) (putF "room" (.int 60) []))))) := upd_same
  have w8 : upd H8 x (.ins (aC K) dx (putF "born" (.int 0) (putF "roots" (.ref lr) (putF "words" (.ref lw) (putF "room" (.int 60) []))))) lw = some (.lst (List.replicate 60 .non)) := by rw [upd_ne nw]; exact e8 _ _ w7
  have r8 : upd H8 x (.ins (aC K) dx (putF "born" (.int 0) (putF "roots" (.ref lr) (putF "words" (.ref lw) (putF "room" (.int 60) []))))) lr = some (.lst (List.replicate 8 .non)) := by rw [upd_ne nr]; exact e8 _ _ r7
  revert x8 K8 h8 w8 r8
  generalize upd H8 x (.ins (aC K) dx (putF "born" (.int 0) (putF "roots" (.ref lr) (putF "words" (.ref lw) (putF "room" (.int 60) []))))) = H9
  intro x9 K9 h9 w9 r9
  refine q_fldR N h9 N.gone rfl (by show 4 < 1000; decide) (evp_el (P := fun xs _ => xs = []) (Evl.el_lst Evl.ea_nil (by show 0 ≤ 100000; decide)) fun _ _ => rfl) ?_
  rintro _ H10 e10 ⟨lg, _, rfl, hlg, hlg10, rfl⟩
  have ng := ne x9 hlg
  have nwg : lw ≠ lg := fun z => by rw [← z, w9] at hlg; cases hlg
  have nrg : lr ≠ lg := fun z => by rw [← z, r9] at hlg; cases hlg
  have K10 := kx (o := .ins (aC K) dx (putF "gone" (.ref lg) (putF "born" (.int 0) (putF "roots" (.ref lr) (putF "words" (.ref lw) (putF "room" (.int 60) [])))))) (K9.trans (Keep.ex e10))
  have h10 : upd H10 x (.ins (aC K) dx (putF "gone" (.ref lg) (putF "born" (.int 0) (putF "roots" (.ref lr) (putF "words" (.ref lw) (putF "room" (.int 60) [])))))) x = some (.ins (aC K) dx (putF "gone" (.ref lg) (putF "born" (.int 0) (putF "roots" (.ref lr) (putF "words" (.ref lw) (putF "room" (.int 60) [])))))) := upd_same
  have w10 : upd H10 x (.ins (aC K) dx (putF "gone" (.ref lg) (putF "born" (.int 0) (putF "roots" (.ref lr) (putF "words" (.ref lw) (putF "room" (.int 60) [])))))) lw = some (.lst (List.replicate 60 .non)) := by rw [upd_ne nw]; exact e10 _ _ w9
  have r10 : upd H10 x (.ins (aC K) dx (putF "gone" (.ref lg) (putF "born" (.int 0) (putF "roots" (.ref lr) (putF "words" (.ref lw) (putF "room" (.int 60) [])))))) lr = some (.lst (List.replicate 8 .non)) := by rw [upd_ne nr]; exact e10 _ _ r9
  have g10 : upd H10 x (.ins (aC K) dx (putF "gone" (.ref lg) (putF "born" (.int 0) (putF "roots" (.ref lr) (putF "words" (.ref lw) (putF "room" (.int 60) [])))))) lg = some (.lst []) := by rw [upd_ne ng]; exact hlg10
  revert K10 h10 w10 r10 g10
  generalize upd H10 x (.ins (aC K) dx (putF "gone" (.ref lg) (putF "born" (.int 0) (putF "roots" (.ref lr) (putF "words" (.ref lw) (putF "room" (.int 60) [])))))) = H11
  intro K11 h11 w11 r11 g11
  refine s_fldR N h11 N.last rfl (by show 5 < 1000; decide) (evp_of Evl.ev_c) fun v H12 e12 hv => ?_
  subst hv
  refine k _ lw lr lg (kx (K11.trans (Keep.ex e12))) (fr x3 hlw) (fr x5 hlr) (fr x9 hlg) ?_ (by rw [upd_ne nw]; exact e12 _ _ w11) (by rw [upd_ne nr]; exact e12 _ _ r11) (by rw [upd_ne ng]; exact e12 _ _ g11) nwr nwg nrg
  rw [upd_same]
  rfl
end Gy

set_option Elab.async false
set_option linter.all false
set_option maxRecDepth 100000
set_option maxHeartbeats 1000000
/-! Part 25: Counts.__init__, done, told_by. -/
namespace Gy
open PySem PySem.Spec PyProof.Rows L2
open Evl (Ex Ev EvL EvU EvT EvA EvO rLenS rListS rMax2)
theorem p_cinit {K : PySem.W.Frag} (N : Tk K) (vs : List V) (H : Hp) (Q : VK) (E : XK) (h : sp_cinit K vs H Q E) : t_cinit K { nx := fun _ H' => Q .non H', rt := Q } (start n_cinit vs) H := by
  obtain ⟨x, dx, rfl, hx, k⟩ := h
  refine ⟨rfl, ?_⟩
  refine (ea2 (Evl.ev_var (v := .ref x) rfl) (Evl.ev_var (v := .int 60) rfl)) H (Ex.refl H) _ fun H1 e1 => ?_
  refine ⟨x, dx, rfl, e1 _ _ hx, fun H2 lw lr lg K2 z1 z2 z3 h2 w2 r2 g2 n1 n2 n3 => ?_⟩
  have K02 := (Keep.ex (M := fun b => b = x) e1).trans K2
  have kx : ∀ {A B : Hp} {o : HO}, Keep (fun b => b = x) A B → Keep (fun b => b = x) A (upd B x o) := fun h => h.trans (Keep.upd rfl)
  have nw : lw ≠ x := fun z => by rw [z, h2] at w2; cases w2
  have nr : lr ≠ x := fun z => by rw [z, h2] at r2; cases r2
  have ng : lg ≠ x := fun z => by rw [z, h2] at g2; cases g2
  show tSeq (sFld K (tVar 0) (tLst (tCons (tTup (tCons (tC (.int 0)) (tCons (tVar 1) tNil))) tNil)) "free") (sFld K (tVar 0) tDNewK "led_in") { nx := fun _ H' => Q .non H', rt := Q } (start n_cinit [.ref x, .int 60]) H2
  refine q_fldR (i := 0) (σ := start n_cinit [.ref x, .int 60]) N h2 N.free rfl (by show 6 < 1000; decide) (evp_lst (P := fun xs H' => StRs H' xs [(0, 60)]) (fun H3 e3 Q3 q3 => ?_) (fun xs A B e h => h.mono (ex_tk e)) (fun zs A h => by rw [pr_len h]; show 1 ≤ sizeLine; decide)) ?_
  · exact (eap_cons (evp_st (s := (0, 60)) Evl.ev_c (Evl.ev_var rfl) rfl rfl) (fun _ _ _ e h => h.mono (ex_tk e)) eap_nil) H3 e3 _ fun vs H4 e4 ⟨y, r, h1, h2, h3⟩ => q3 vs H4 e4 (by rw [h1, h3]; exact .cons h2 .nil)
  rintro _ H3 e3 ⟨lf, fx, rfl, hlf, hlf3, rlf⟩
  have nf : lf ≠ x := fun z => by rw [z, h2] at hlf; cases hlf
  have t3 : TK H3 (upd H3 x (.ins (aC K) dx (putF "free" (.ref lf) (fl6 lw lr lg)))) := tk_upd fun q w => by rw [e3 _ _ h2] at w; cases w
  have K3 := kx (o := .ins (aC K) dx (putF "free" (.ref lf) (fl6 lw lr lg))) (K02.trans (Keep.ex e3))
  have h3 : upd H3 x (.ins (aC K) dx (putF "free" (.ref lf) (fl6 lw lr lg))) x = some (.ins (aC K) dx (putF "free" (.ref lf) (fl6 lw lr lg))) := upd_same
  have w3 : upd H3 x (.ins (aC K) dx (putF "free" (.ref lf) (fl6 lw lr lg))) lw = some (.lst (List.replicate 60 .non)) := by rw [upd_ne nw]; exact e3 _ _ w2
  have r3 : upd H3 x (.ins (aC K) dx (putF "free" (.ref lf) (fl6 lw lr lg))) lr = some (.lst (List.replicate 8 .non)) := by rw [upd_ne nr]; exact e3 _ _ r2
  have g3 : upd H3 x (.ins (aC K) dx (putF "free" (.ref lf) (fl6 lw lr lg))) lg = some (.lst []) := by rw [upd_ne ng]; exact e3 _ _ g2
  have f3 : upd H3 x (.ins (aC K) dx (putF "free" (.ref lf) (fl6 lw lr lg))) lf = some (.lst fx) := by rw [upd_ne nf]; exact hlf3
  have rlf3 := StRs.mono t3 rlf
  have n4 : lw ≠ lf := fun z => by rw [← z, w2] at hlf; cases hlf
  have n5 : lr ≠ lf := fun z => by rw [← z, r2] at hlf; cases hlf
  have n6 : lg ≠ lf := fun z => by rw [← z, g2] at hlf; cases hlf
  revert K3 h3 w3 r3 g3 f3 rlf3
  generalize upd H3 x (.ins (aC K) dx (putF "free" (.ref lf) (fl6 lw lr lg))) = H4
  intro K4 h4 w4 r4 g4 f4 rlf4
  refine s_fldR (i := 0) (σ := start n_cinit [.ref x, .int 60]) (P := fun v H' => ∃ d, v = .ref d ∧ H4 d = none ∧ H' d = some (.dK [])) N h4 N.led_in rfl (by show 7 < 1000; decide) (fun H5 e5 Q5 q5 p hp => q5 _ _ (ex_new hp) ⟨p, rfl, Evl.fresh_back e5 hp, upd_same⟩) ?_
  rintro _ H5 e5 ⟨ld, rfl, hld, hld5⟩
  have nd : ld ≠ x := fun z => by rw [z, h4] at hld; cases hld
  have d1 : lw ≠ ld := fun z => by rw [← z, w4] at hld; cases hld
  have d2 : lr ≠ ld := fun z => by rw [← z, r4] at hld; cases hld
  have d3 : lg ≠ ld := fun z => by rw [← z, g4] at hld; cases hld
  have d4 : lf ≠ ld := fun z => by rw [← z, f4] at hld; cases hld
  have t5 : TK H5 (upd H5 x (.ins (aC K) dx (putF "led_in" (.ref ld) (putF "free" (.ref lf) (fl6 lw lr lg))))) := tk_upd fun q w => by rw [e5 _ _ h4] at w; cases w
  have hld0 : H ld = none := by
    cases q : H ld with
    | none => rfl
    | some o => rw [K4 _ _ q nd] at hld; cases hld
  refine k _ ⟨x, dx, lw, lr, lg, ld, fun _ => False⟩ rfl (fun _ h => h) (fun b hb => by
    rcases hb with q | q | q | q | q
    · exact .inl q
    · exact .inr (by rw [q]; exact Evl.fresh_back e1 z1)
    · exact .inr (by rw [q]; exact Evl.fresh_back e1 z2)
    · exact .inr (by rw [q]; exact Evl.fresh_back e1 z3)
    · exact .inr (by rw [q]; exact hld0)) ?_ (kx (K4.trans (Keep.ex e5)))
  have prep : ∀ (A : Hp) (n : Nat), WRs A (List.replicate n .non) (List.replicate n .non) := fun A n => pr_rep (show WR A .non .non from rfl) n
  refine ⟨⟨lf, .non, ?_, ⟨fx, by rw [upd_ne nf]; exact e5 _ _ f4, StRs.mono t5 (StRs.mono (ex_tk e5) rlf4)⟩, ⟨?_, fun z => z⟩, rfl⟩, ⟨_, by rw [upd_ne nw]; exact e5 _ _ w4, prep _ 60⟩, ⟨_, by rw [upd_ne nr]; exact e5 _ _ r4, prep _ 8⟩, by rw [upd_ne ng]; exact e5 _ _ g4, by rw [upd_ne nd]; exact hld5, n1, n2, n3, fun _ h => h.elim⟩
  · rw [upd_same]; rfl
  · rintro (z | z | z | z | z)
    · exact nf z
    · exact n4 z.symm
    · exact n5 z.symm
    · exact n6 z.symm
    · exact d4 z
/-! ### done -/
def dkind : Dd → Str
  | .make _ _ => "make"
  | .number _ _ => "number"
  | .clear _ => "clear"
  | .copy _ _ => "copy"
  | .put _ _ _ => "put"
  | .take _ _ _ => "take"
  | .tell _ => "tell"
  | .same _ _ => "same"
section
variable {K : PySem.W.Frag} {σ : L2.St} {H H1 H' : Hp} {Y : YA} {pos : Nat → Nat} {R : List Wd} {C : List (List Wd)} {G : List Nat} {d : Dd} {ta : TE} {v : V}
theorem ev_kind (h : DdAt H v d) (ha : Ev ta σ H v) : Ev (tOp (rIxT K) ta (tC (.int 0))) σ H (.str (dkind d)) := by
  obtain ⟨t, rfl, q⟩ := h
  exact ev_tix ha Evl.ev_c q (by cases d <;> rfl)
theorem et_kind {c : Str} (h : DdAt H v d) (ha : Ev ta σ H v) : EvT (tTest (tOp rEq (tOp (rIxT K) ta (tC (.int 0))) (tC (.str c)))) σ H (decide (dkind d = c)) :=
  Evl.et_test (Evl.ev_is (Evl.ev_op (ev_kind h ha) Evl.ev_c (Evl.rv_eq rfl)) (by rw [dec_str]))
theorem DdAt.mono (t : TK H H') (h : DdAt H v d) : DdAt H' v d := let ⟨a, e, q⟩ := h; ⟨a, e, t _ _ q⟩
theorem ev_darg {i : Nat} {x : V} (h : DdAt H v d) (ha : Ev ta σ H v) (hx : (ddV d)[i]? = some x) : Ev (tOp (rIxT K) ta (tC (.int (i : Int)))) σ H x := by
  obtain ⟨t, rfl, q⟩ := h
  exact ev_tix ha Evl.ev_c q (atI_nat hx)
theorem At.ex (h : At K Y H pos R C G) (e : Ex H H1) : At K Y H1 pos R C G := let ⟨s, a, b, c⟩ := h; ⟨s, a.ex e, b, c⟩
theorem Aft.pre (h : At K Y H pos R C G) (e : Ex H H1) (a : Aft K Y H1 H' R C G d) : Aft K Y H H' R C G d := let ⟨s, b, _⟩ := h; let ⟨s', p', y, c⟩ := a; ⟨s', p', ((Yd.refl b).ex e).go y, c⟩
theorem Aft.post {H2 : Hp} (a : Aft K Y H H' R C G d) (e : Ex H' H2) : Aft K Y H H2 R C G d := let ⟨s', p', y, c⟩ := a; ⟨s', p', y.ex e, c⟩
theorem Gln.pre (h : At K Y H pos R C G) (e : Ex H H1) (a : Gln K Y H1 H' G) : Gln K Y H H' G := let ⟨s, b, _⟩ := h; let ⟨s', p', y, c⟩ := a; ⟨s', p', ((Yd.refl b).ex e).go y, c⟩
theorem Gln.post {H2 : Hp} (a : Gln K Y H H' G) (e : Ex H' H2) : Gln K Y H H2 G := let ⟨s', p', y, c⟩ := a; ⟨s', p', y.ex e, c⟩
theorem Aft.back (a : Aft K Y H H' R C G d) {b : Addr} (h : H' b = none) : H b = none := let ⟨_, _, y, _⟩ := a; y.back h
theorem Gln.back (a : Gln K Y H H' G) {b : Addr} (h : H' b = none) : H b = none := let ⟨_, _, y, _⟩ := a; y.back h
/-- the deed is none that writes -/
theorem Aft.look (h : At K Y H pos R C G) (e : Ex H H') (h1 : doR R C d = R) (h2 : doC R C d = C) (h3 : lets R C d = none) : Aft K Y H H' R C G d := let ⟨s, a, b, c⟩ := h; aft_same ((Yd.refl a).ex e) b c h1 h2 h3
end
theorem p_done {K : PySem.W.Frag} (N : Tk K) (vs : List V) (H : Hp) (Q : VK) (E : XK) (h : sp_done K vs H Q E) : t_done K E { nx := fun _ H' => Q .non H', rt := Q } (start n_done vs) H := by
  obtain ⟨Y, pos, R, C, G, v, d, rfl, at0, hd, od, hC, k1, k2, k3⟩ := h
  -- return [], behind a deed
  have fin : ∀ {H'}, Aft K Y H H' R C G d → doT R C d = .none → tRet (tLst tNil) { nx := fun _ H' => Q .non H', rt := Q } (start n_done [.ref Y.p, v]) H' := fun {H'} a e =>
    Evl.s_retL (Evl.el_lst Evl.ea_nil (by show 0 ≤ 100000; decide)) fun p H2 hp e2 h2 => k1 _ H2 (a.post e2) (by rw [e]; exact ⟨p, [], rfl, a.back hp, h2, rfl⟩)
  have finG : isMake d = true → ∀ {H'}, Gln K Y H H' G → tRet (tLst tNil) { nx := fun _ H' => Q .non H', rt := Q } (start n_done [.ref Y.p, v]) H' := fun m {H'} g =>
    Evl.s_retL (Evl.el_lst Evl.ea_nil (by show 0 ≤ 100000; decide)) fun p H2 hp e2 h2 => (k3 m).1 _ H2 (g.post e2) ⟨p, [], rfl, g.back hp, h2, rfl⟩
  have tst : ∀ {H1 : Hp} {c : Str}, Ex H H1 → EvT (tTest (tOp rEq (tOp (rIxT K) (tVar 1) (tC (.int 0))) (tC (.str c)))) (start n_done [.ref Y.p, v]) H1 (decide (dkind d = c)) := fun e => et_kind (hd.mono (ex_tk e)) (Evl.ev_var rfl)
  have arg : ∀ {H1 : Hp} {i : Nat} {x : V}, Ex H H1 → (ddV d)[i]? = some x → Ev (tOp (rIxT K) (tVar 1) (tC (.int (i : Int)))) (start n_done [.ref Y.p, v]) H1 x := fun e h => ev_darg (hd.mono (ex_tk e)) (Evl.ev_var rfl) h
  have yat : ∀ {H1}, Ex H H1 → ∃ s, YAt K Y H1 s := fun e => let ⟨s, a, _⟩ := at0; ⟨s, a.ex e⟩
  refine Evl.q_if (tst (Ex.refl H)) (fun hb H1 e1 => ?_) fun hb1 H1 e1 => ?_
  · cases d with
    | make kk z =>
      obtain ⟨s, hy⟩ := yat e1
      refine m_go hy (Evl.ev_var rfl) (ea2 (arg (i := 1) e1 rfl) (arg (i := 2) e1 rfl)) (by decide +kernel) fun H2 e2 => ?_
      have e02 := e1.trans e2
      exact ⟨Y, pos, R, C, G, kk, z, rfl, at0.ex e02, od, hC, fun v' H3 a => fin (a.pre at0 e02) rfl, fun v' H3 g => finG rfl (g.pre at0 e02), fun H3 g => (k3 rfl).2 H3 (g.pre at0 e02)⟩
    | _ => have hb := of_decide_eq_true hb; simp only [dkind] at hb; exact absurd hb (by decide +kernel)
  refine Evl.s_if (tst e1) (fun hb H2 e2 => ?_) fun hb2 H2 e2 => ?_
  · have e02 := e1.trans e2
    cases d with
    | number kk i =>
      obtain ⟨s, hy⟩ := yat e02
      refine m_go hy (Evl.ev_var rfl) (ea2 (arg (i := 1) e02 rfl) (arg (i := 2) e02 rfl)) (by decide +kernel) fun H3 e3 => ?_
      have e03 := e02.trans e3
      exact ⟨Y, pos, R, C, G, kk, i, rfl, at0.ex e03, od, hC, fun H4 a => fin (a.pre at0 e03) rfl⟩
    | _ => have hb := of_decide_eq_true hb; simp only [dkind] at hb; exact absurd hb (by decide +kernel)
  have e02 := e1.trans e2
  refine Evl.s_if (tst e02) (fun hb H3 e3 => ?_) fun hb3 H3 e3 => ?_
  · have e03 := e02.trans e3
    cases d with
    | clear kk =>
      obtain ⟨s, hy⟩ := yat e03
      refine m_go hy (Evl.ev_var rfl) (ea1 (arg (i := 1) e03 rfl)) (by decide +kernel) fun H4 e4 => ?_
      have e04 := e03.trans e4
      exact ⟨Y, pos, R, C, G, kk, rfl, at0.ex e04, od, hC, fun H5 a => fin (a.pre at0 e04) rfl⟩
    | _ => have hb := of_decide_eq_true hb; simp only [dkind] at hb; exact absurd hb (by decide +kernel)
  have e03 := e02.trans e3
  refine Evl.s_if (tst e03) (fun hb H4 e4 => ?_) fun hb4 H4 e4 => ?_
  · have e04 := e03.trans e4
    cases d with
    | copy t o =>
      obtain ⟨s, hy⟩ := yat e04
      refine m_go hy (Evl.ev_var rfl) (ea2 (arg (i := 1) e04 rfl) (arg (i := 2) e04 rfl)) (by decide +kernel) fun H5 e5 => ?_
      have e05 := e04.trans e5
      exact ⟨Y, pos, R, C, G, t, o, rfl, at0.ex e05, od, hC, fun H6 a => fin (a.pre at0 e05) rfl⟩
    | _ => have hb := of_decide_eq_true hb; simp only [dkind] at hb; exact absurd hb (by decide +kernel)
  have e04 := e03.trans e4
  refine Evl.s_if (tst e04) (fun hb H5 e5 => ?_) fun hb5 H5 e5 => ?_
  · have e05 := e04.trans e5
    cases d with
    | put kk i o =>
      obtain ⟨s, hy⟩ := yat e05
      refine m_go hy (Evl.ev_var rfl) (ea3 (arg (i := 1) e05 rfl) (arg (i := 2) e05 rfl) (arg (i := 3) e05 rfl)) (by decide +kernel) fun H6 e6 => ?_
      have e06 := e05.trans e6
      exact ⟨Y, pos, R, C, G, kk, i, o, rfl, at0.ex e06, od, hC, fun e H7 a => fin (a.pre at0 e06) e, fun c e H7 a => k2 c e H7 (a.pre at0 e06)⟩
    | _ => have hb := of_decide_eq_true hb; simp only [dkind] at hb; exact absurd hb (by decide +kernel)
  have e05 := e04.trans e5
  refine Evl.s_if (tst e05) (fun hb H6 e6 => ?_) fun hb6 H6 e6 => ?_
  · have e06 := e05.trans e6
    cases d with
    | take t kk i =>
      obtain ⟨s, hy⟩ := yat e06
      refine m_go hy (Evl.ev_var rfl) (ea3 (arg (i := 1) e06 rfl) (arg (i := 2) e06 rfl) (arg (i := 3) e06 rfl)) (by decide +kernel) fun H7 e7 => ?_
      have e07 := e06.trans e7
      exact ⟨Y, pos, R, C, G, t, kk, i, rfl, at0.ex e07, od, hC, fun e H8 a => fin (a.pre at0 e07) e, fun c e H8 a => k2 c e H8 (a.pre at0 e07)⟩
    | _ => have hb := of_decide_eq_true hb; simp only [dkind] at hb; exact absurd hb (by decide +kernel)
  have e06 := e05.trans e6
  refine Evl.s_if (tst e06) (fun hb H7 e7 => ?_) fun hb7 H7 e7 => ?_
  · have e07 := e06.trans e7
    cases d with
    | tell kk =>
      obtain ⟨s, hy⟩ := yat e07
      refine s_retP (evp_lst (P := fun xs H' => ∃ x, xs = [x] ∧ WR H' x (rg R kk)) (fun H8 e8 Q8 q8 => tcons_of (m_go (hy.ex e8) (Evl.ev_var rfl) (ea1 (arg (i := 1) (e07.trans e8) rfl)) (by decide +kernel) fun H9 e9 => ⟨Y, pos, R, C, G, kk, rfl, at0.ex ((e07.trans e8).trans e9), od, fun w H10 e10 hw => q8 _ H10 (e9.trans e10) ⟨w, rfl, hw⟩⟩)) (fun xs A B e ⟨x, h1, h2⟩ => ⟨x, h1, h2.mono (ex_tk e)⟩) fun xs A ⟨x, h1, _⟩ => by rw [h1]; show 1 ≤ sizeLine; decide) ?_
      rintro _ H8 e8 ⟨p, xs, rfl, hp, hx, x, rfl, hw⟩
      exact k1 _ H8 (Aft.look at0 (e07.trans e8) rfl rfl rfl) ⟨p, _, rfl, Evl.fresh_back e07 hp, hx, x, rfl, hw⟩
    | _ => have hb := of_decide_eq_true hb; simp only [dkind] at hb; exact absurd hb (by decide +kernel)
  have nk : ∀ {c : Str}, decide (dkind d = c) = false → dkind d ≠ c := fun h => of_decide_eq_false h
  have e07 := e06.trans e7
  cases d with
  | same kk o =>
    obtain ⟨s, hy⟩ := yat e07
    refine s_retP (evp_lst (P := fun xs H' => xs = [.bl (decide (rg R kk = rg R o))]) (fun H8 e8 Q8 q8 => tcons_of (m_go (hy.ex e8) (Evl.ev_var rfl) (ea2 (arg (i := 1) (e07.trans e8) rfl) (arg (i := 2) (e07.trans e8) rfl)) (by decide +kernel) fun H9 e9 => ⟨Y, pos, R, C, G, kk, o, rfl, at0.ex ((e07.trans e8).trans e9), od.1, od.2, fun H10 e10 => q8 _ H10 (e9.trans e10) rfl⟩)) (fun xs A B e h => h) fun xs A h => by rw [h]; show 1 ≤ sizeLine; decide) ?_
    rintro _ H8 e8 ⟨p, xs, rfl, hp, hx, rfl⟩
    exact k1 _ H8 (Aft.look at0 (e07.trans e8) rfl rfl rfl) ⟨p, _, rfl, Evl.fresh_back e07 hp, hx, rfl⟩
  | make _ _ => exact absurd rfl (nk hb1)
  | number _ _ => exact absurd rfl (nk hb2)
  | clear _ => exact absurd rfl (nk hb3)
  | copy _ _ => exact absurd rfl (nk hb4)
  | put _ _ _ => exact absurd rfl (nk hb5)
  | take _ _ _ => exact absurd rfl (nk hb6)
  | tell _ => exact absurd rfl (nk hb7)
end Gy

set_option Elab.async false
set_option linter.all false
set_option maxRecDepth 100000
set_option maxHeartbeats 1000000
/-! Part 26: told_by. -/
namespace Gy
open PySem PySem.Spec PyProof.Rows L2
open Evl (Ex Ev EvL EvU EvT EvA EvO rLenS rListS rMax2)
theorem tdV_mono {H H' : Hp} {td : Td} {xs : List V} (t : TK H H') (h : tdV H td xs) : tdV H' td xs := by
  cases td with
  | none => exact h
  | word w => obtain ⟨x, h1, h2⟩ := h; exact ⟨x, h1, h2.mono t⟩
  | bool b => exact h
  | refd c => obtain ⟨a, h1, h2⟩ := h; exact ⟨a, h1, t _ _ h2⟩
theorem TdAt.go {H0 H1 H H' : Hp} {v : V} {td : Td} (e0 : Ex H0 H1) (e : Ex H H') (h : TdAt H1 H v td) : TdAt H0 H' v td := let ⟨l, xs, a, b, c, d⟩ := h; ⟨l, xs, a, Evl.fresh_back e0 b, e _ _ c, tdV_mono (ex_tk e) d⟩
theorem refd_or {R : List Wd} {C : List (List Wd)} {d : Dd} {c : Str} (h : doT R C d = .refd c) : c = "NoCell" ∨ c = "NoSlot" := by
  have r : ∀ k, refusal R k = .refd c → c = "NoCell" ∨ c = "NoSlot" := fun k h => by
    unfold refusal at h
    cases e : rg R k with
    | ptr n => rw [e] at h; injection h with h; exact .inr h.symm
    | non => rw [e] at h; injection h with h; exact .inl h.symm
    | num i => rw [e] at h; injection h with h; exact .inl h.symm
    | head i j => rw [e] at h; injection h with h; exact .inl h.symm
  cases d with
  | put k i o =>
    cases e : ledTo R C k i with
    | none => rw [(put_no e).1] at h; exact r k h
    | some n => rw [(put_yes e).1] at h; cases h
  | take t k i =>
    cases e : ledTo R C k i with
    | none => rw [(take_no e).1] at h; exact r k h
    | some n => rw [(take_yes e).1] at h; cases h
  | tell k => cases h
  | same k o => cases h
  | make k z => cases h
  | number k i => cases h
  | clear k => cases h
  | copy t o => cases h
theorem evp_refd {σ : L2.St} {H : Hp} {c : Str} : EvP (tLst (tCons (tTup (tCons (tC (.str "refused")) (tCons (tC (.str c)) tNil))) tNil)) σ H (fun v H' => TdAt H H' v (.refd c)) := by
  have h1 : EvP (tTup (tCons (tC (.str "refused")) (tCons (tC (.str c)) tNil))) σ H (fun v H' => ∃ t, v = .ref t ∧ H' t = some (.tup [.str "refused", .str c])) := fun H1 e Q q => (Evl.eu_tup (ea2 Evl.ev_c Evl.ev_c) (by show 2 ≤ 100000; decide)) H1 e Q fun p H2 hp e2' h2 => q _ H2 e2' ⟨p, rfl, h2⟩
  refine (evp_lst (eap_cons h1 (fun x A B e ⟨t, a, b⟩ => ⟨t, a, e _ _ b⟩) eap_nil) (fun xs A B e ⟨x, r, h1, ⟨t, a, b⟩, h3⟩ => ⟨x, r, h1, ⟨t, a, e _ _ b⟩, h3⟩) fun xs A ⟨x, r, h1, _, h3⟩ => by rw [h1, h3]; show 1 ≤ sizeLine; decide).imp ?_
  rintro v H1 e ⟨p, xs, rfl, hp, hx, x, r, rfl, ⟨t, rfl, ht⟩, rfl⟩
  exact ⟨p, _, rfl, hp, hx, t, rfl, ht⟩
theorem s_callS {sp : Sp} {E : L2.St → XK} {ta tb : TE} {σ : L2.St} {H : Hp} {v w : V} {i : Nat} {D : Ends} (ha : Ev ta σ H v) (hb : Ev tb σ H w) (k : ∀ H1, Ex H H1 → sp [v, w] H1 (fun x H2 => D.nx (σ.set i (some x)) H2) (E σ)) : tAsg (tCallS sp E (tCons ta (tCons tb tNil))) (gName i) D σ H :=
  ha H (Ex.refl H) _ fun H1 e1 => hb H1 e1 _ fun H2 e2 => k H2 (e1.trans e2)
theorem p_told_by {K : PySem.W.Frag} (N : Tk K) (vs : List V) (H : Hp) (Q : VK) (E : XK) (h : sp_told_by K vs H Q E) : t_told_by K { nx := fun _ H' => Q .non H', rt := Q } (start n_told_by vs) H := by
  obtain ⟨Y, pos, R, C, G, v, d, rfl, at0, hd, od, hC, k1, k2⟩ := h
  unfold t_told_by
  show tAsg (tCallS (sp_done K) _ _) (gName 2) _ _ _
  refine s_callS (Evl.ev_var (v := .ref Y.p) rfl) (Evl.ev_var (v := v) rfl) fun H1 e1 => ?_
  -- a refusal, told
  have hdl : ∀ {c : Str} {σ : L2.St} {H2 : Hp} {D : Ends}, (∀ v H3, Ex H2 H3 → TdAt H2 H3 v (.refd c) → D.nx (σ.set 2 (some v)) H3) → tAsg (tLst (tCons (tTup (tCons (tC (.str "refused")) (tCons (tC (.str c)) tNil))) tNil)) (gName 2) D σ H2 := fun k => s_asgP evp_refd k
  have aT : ∀ {H2 H3 : Hp} {v : V} {td : Td}, (∀ b, H2 b = none → H b = none) → TdAt H2 H3 v td → TdAt H H3 v td := fun b ⟨l, xs, a1, a2, a3, a4⟩ => ⟨l, xs, a1, b _ a2, a3, a4⟩
  refine ⟨Y, pos, R, C, G, v, d, rfl, at0.ex e1, hd.mono (ex_tk e1), od, hC, fun v' H2 a td => ?_, fun c ec H2 a => ?_, fun m => ⟨fun v' H2 g td => ?_, fun H2 g => ?_⟩⟩
  · exact Evl.s_ret (Evl.ev_var rfl) fun H3 e3 => k1 v' H3 ((a.pre at0 e1).post e3) (td.go e1 e3)
  · have a' := a.pre at0 e1
    rcases refd_or ec with q | q
    · subst q
      refine ⟨_, N.e_NoCell_NoRoot, nofun, fun _ => ⟨_, N.e_NoCell_NoSize, nofun, fun _ => ⟨_, N.e_NoCell_NoNumber, nofun, fun _ => ⟨_, N.e_NoCell_NoCell, fun _ _ _ => ?_, nofun⟩⟩⟩⟩
      exact hdl fun v3 H3 e3 td => Evl.s_ret (Evl.ev_var rfl) fun H4 e4 => k1 v3 H4 (a'.post (e3.trans e4)) (by rw [ec]; exact aT (fun b hb => a'.back hb) (td.go (Ex.refl H2) e4))
    · subst q
      refine ⟨_, N.e_NoSlot_NoRoot, nofun, fun _ => ⟨_, N.e_NoSlot_NoSize, nofun, fun _ => ⟨_, N.e_NoSlot_NoNumber, nofun, fun _ => ⟨_, N.e_NoSlot_NoCell, nofun, fun _ => ⟨_, N.e_NoSlot_NoSlot, fun _ _ _ => ?_, nofun⟩⟩⟩⟩⟩
      exact hdl fun v3 H3 e3 td => Evl.s_ret (Evl.ev_var rfl) fun H4 e4 => k1 v3 H4 (a'.post (e3.trans e4)) (by rw [ec]; exact aT (fun b hb => a'.back hb) (td.go (Ex.refl H2) e4))
  · have g' := g.pre at0 e1
    exact Evl.s_ret (Evl.ev_var rfl) fun H3 e3 => k2 m v' H3 .none (g'.post e3) (.inl rfl) (td.go e1 e3)
  · have g' := g.pre at0 e1
    refine ⟨_, N.e_Full_NoRoot, nofun, fun _ => ⟨_, N.e_Full_NoSize, nofun, fun _ => ⟨_, N.e_Full_NoNumber, nofun, fun _ => ⟨_, N.e_Full_NoCell, nofun, fun _ => ⟨_, N.e_Full_NoSlot, nofun, fun _ => ⟨_, N.e_Full_Full, fun _ _ _ => ?_, nofun⟩⟩⟩⟩⟩⟩
    exact hdl fun v3 H3 e3 td => Evl.s_ret (Evl.ev_var rfl) fun H4 e4 => k2 m v3 H4 _ (g'.post (e3.trans e4)) (.inr rfl) (aT (fun b hb => g'.back hb) (td.go (Ex.refl H2) e4))
end Gy

set_option Elab.async false
set_option linter.all false
set_option maxRecDepth 100000
set_option maxHeartbeats 1000000
/-! Part 28: the law's cells and deeds. -/
namespace Gy
open PySem PySem.Spec PyProof.Rows L2
open Evl (Ex Ev EvL EvU EvT EvA EvO rLenS rListS rMax2)
theorem p_law_cell_at {K : PySem.W.Frag} (N : Tk K) (vs : List V) (H : Hp) (Q : VK) (E : XK) (h : sp_law_cell_at K vs H Q E) : t_law_cell_at K { nx := fun _ H' => Q .non H', rt := Q } (start n_law_cell_at vs) H := by
  obtain ⟨l, ns, kk, rfl, hs, k⟩ := h
  refine Evl.q_when (et_lt (Evl.ev_var rfl) (Evl.ev_len (Evl.ev_var rfl) hs)) (fun hb H1 e1 => ?_) (fun _ H1 e1 => Evl.s_ret Evl.ev_c fun H2 e2 => k 0 H2 (e1.trans e2))
  have hk : kk < ns.length := by have := of_decide_eq_true hb; rw [List.length_map] at this; omega
  exact Evl.s_ret (v := .int ns[kk]) (Evl.ev_op (Evl.ev_var rfl) (Evl.ev_var rfl) (Evl.rv_ixL (Evl.ex_l e1 hs) (atI_nat (by rw [List.getElem?_map, List.getElem?_eq_getElem hk]; rfl)))) fun H2 e2 => k _ H2 (e1.trans e2)
section
variable {σ : L2.St} {H : Hp} {ta tb : TE}
theorem ev_mod {a b : Int} (ha : Ev ta σ H (.int a)) (hb : Ev tb σ H (.int b)) (h : 0 < b) : Ev (tOp rModI ta tb) σ H (.int (a % b)) := Evl.ev_op ha hb (Evl.rv_I h)
theorem ev_div {a b : Int} (ha : Ev ta σ H (.int a)) (hb : Ev tb σ H (.int b)) (h : CDiv a b) : Ev (tOp rDivI ta tb) σ H (.int (a / b)) := Evl.ev_op ha hb (Evl.rv_I h)
theorem ev_mul {a b : Int} (ha : Ev ta σ H (.int a)) (hb : Ev tb σ H (.int b)) (h : CMul a b) : Ev (tOp rMulI ta tb) σ H (.int (a * b)) := Evl.ev_op ha hb (Evl.rv_I h)
theorem et_eqS {k c : Str} (ha : Ev ta σ H (.str k)) : EvT (tTest (tOp rEq ta (tC (.str c)))) σ H (decide (k = c)) := Evl.et_test (Evl.ev_is (Evl.ev_op ha Evl.ev_c (Evl.rv_eq rfl)) (by rw [dec_str]))
end
def kindsL : List Str := ["make", "put", "take", "copy", "put", "make", "clear", "number", "tell", "same", "put", "take"]
theorem kinds_ok : ∀ k ∈ kindsL, k = "make" ∨ k = "put" ∨ k = "take" ∨ k = "number" ∨ k = "copy" ∨ k = "same" ∨ k = "clear" ∨ k = "tell" := by decide +kernel
/-- a new deed -/
theorem evp_dd {σ : L2.St} {H : Hp} {ta : TA} {d : Dd} (h : EvA ta σ H (ddV d)) : EvP (tTup ta) σ H (fun v H' => DdAt H' v d) := fun H1 e Q q =>
  (Evl.eu_tup h (by cases d <;> (show _ ≤ 100000; simp [ddV]))) H1 e Q fun p H2 hp e2' h2 => q _ H2 e2' ⟨p, rfl, h2⟩
theorem p_law_deed {K : PySem.W.Frag} (N : Tk K) (vs : List V) (H : Hp) (Q : VK) (E : XK) (h : sp_law_deed K vs H Q E) : t_law_deed K { nx := fun _ H' => Q .non H', rt := Q } (start n_law_deed vs) H := by
  obtain ⟨c, rfl, k⟩ := h
  refine Evl.q_asgL (xs := kindsL.map V.str) (Evl.el_lst (by unfold kindsL; simp only [List.map_cons, List.map_nil]; repeat (first | exact Evl.ea_nil | refine Evl.ea_cons Evl.ev_c ?_)) (by show 12 ≤ 100000; decide)) fun L H1 hL e1 hL1 => ?_
  obtain ⟨m, hm, hm12⟩ : ∃ m : Nat, c % 12 = (m : Int) ∧ m < kindsL.length := ⟨(c % 12).toNat, by omega, by show _ < 12; omega⟩
  obtain ⟨kd, hkd⟩ : ∃ kd, kindsL[m]? = some kd := ⟨_, List.getElem?_eq_getElem hm12⟩
  have hko := kinds_ok kd (List.mem_of_getElem? hkd)
  refine Evl.q_asg (v := .str kd) (ev_lix (Evl.ev_var rfl) (ev_int (ev_mod (Evl.ev_var rfl) Evl.ev_c (by decide)) hm) hL1 (by rw [List.getElem?_map, hkd]; rfl)) fun H2 e2 => ?_
  obtain ⟨o1, ho1, lo1⟩ : ∃ o : Nat, c / 12 % 4 + 4 * (c / 1152 % 2) = (o : Int) ∧ o < 8 := ⟨(c / 12 % 4 + 4 * (c / 1152 % 2)).toNat, by omega, by omega⟩
  obtain ⟨o2, ho2, lo2⟩ : ∃ o : Nat, c / 48 % 4 + 4 * (c / 2304 % 2) = (o : Int) ∧ o < 8 := ⟨(c / 48 % 4 + 4 * (c / 2304 % 2)).toNat, by omega, by omega⟩
  obtain ⟨o3, ho3, lo3⟩ : ∃ o : Nat, c / 192 % 3 + c / 9216 % 2 = (o : Int) ∧ o ≤ 3 := ⟨(c / 192 % 3 + c / 9216 % 2).toNat, by omega, by omega⟩
  obtain ⟨o4, ho4, lo4⟩ : ∃ o : Nat, (o3 : Int) + c / 576 % 2 = (o : Int) ∧ o ≤ 4 := ⟨((o3 : Int) + c / 576 % 2).toNat, by omega, by omega⟩
  have dv : ∀ {σ : L2.St} {H : Hp} {j : Int}, σ[0]? = some (some (.int c)) → CDiv c j → Ev (tOp rDivI (tVar 0) (tC (.int j))) σ H (.int (c / j)) := fun h hc => ev_div (Evl.ev_var h) Evl.ev_c hc
  refine Evl.q_asg (ev_int (ev_add (ev_mod (dv rfl (by unfold CDiv; decide)) Evl.ev_c (by decide)) (ev_mul Evl.ev_c (ev_mod (dv rfl (by unfold CDiv; decide)) Evl.ev_c (by decide)) (.inl (by decide)))) ho1) fun H3 e3 => ?_
  refine Evl.q_asg (ev_int (ev_add (ev_mod (dv rfl (by unfold CDiv; decide)) Evl.ev_c (by decide)) (ev_mul Evl.ev_c (ev_mod (dv rfl (by unfold CDiv; decide)) Evl.ev_c (by decide)) (.inl (by decide)))) ho2) fun H4 e4 => ?_
  refine Evl.q_asg (ev_int (ev_add (ev_mod (dv rfl (by unfold CDiv; decide)) Evl.ev_c (by decide)) (ev_mod (dv rfl (by unfold CDiv; decide)) Evl.ev_c (by decide))) ho3) fun H5 e5 => ?_
  have e05 := e1.trans (e2.trans (e3.trans (e4.trans e5)))
  have fin : ∀ {H6 : Hp} {ta : TA} {d : Dd}, Ex H H6 → OkD d → EvA ta [some (.int c), some (.ref L), some (.str kd), some (.int (o1 : Int)), some (.int (o2 : Int)), some (.int (o3 : Int))] H6 (ddV d) → tRet (tTup ta) { nx := fun _ H' => Q .non H', rt := Q } [some (.int c), some (.ref L), some (.str kd), some (.int (o1 : Int)), some (.int (o2 : Int)), some (.int (o3 : Int))] H6 := fun e od h => s_retP (evp_dd h) fun v H7 e7 hv => k _ v H7 od (e.trans e7) hv
  refine Evl.q_when (et_eqS (Evl.ev_var rfl)) (fun hb H6 e6 => ?_) (fun hb1 H6 e6 => ?_)
  · exact fin (d := .make o1 o4) (e05.trans e6) ⟨lo1, lo4⟩ (ea3 Evl.ev_c (Evl.ev_var rfl) (ev_int (ev_add (Evl.ev_var rfl) (ev_mod (dv rfl (by unfold CDiv; decide)) Evl.ev_c (by decide))) ho4))
  have e06 := e05.trans e6
  refine Evl.q_when (et_eqS (Evl.ev_var rfl)) (fun hb H7 e7 => ?_) (fun hb2 H7 e7 => ?_)
  · exact fin (d := .put o1 o3 o2) (e06.trans e7) ⟨lo1, lo2⟩ (Evl.ea_cons Evl.ev_c (ea3 (Evl.ev_var rfl) (Evl.ev_var rfl) (Evl.ev_var rfl)))
  have e07 := e06.trans e7
  refine Evl.q_when (et_eqS (Evl.ev_var rfl)) (fun hb H8 e8 => ?_) (fun hb3 H8 e8 => ?_)
  · exact fin (d := .take o1 o2 o3) (e07.trans e8) ⟨lo1, lo2⟩ (Evl.ea_cons Evl.ev_c (ea3 (Evl.ev_var rfl) (Evl.ev_var rfl) (Evl.ev_var rfl)))
  have e08 := e07.trans e8
  refine Evl.q_when (et_eqS (Evl.ev_var rfl)) (fun hb H9 e9 => ?_) (fun hb4 H9 e9 => ?_)
  · -- a number
    have enum : ∃ i : Int, -1000000 ≤ i ∧ i ≤ 1000000 ∧ Ev (tOp (rIxL K) (tLst (tCons (tOp rSubI (tOp rModI (tOp rDivI (tVar 0) (tC (.int 48))) (tC (.int 9))) (tC (.int 4))) (tCons (tC (.int 1000000)) (tCons (tUn (rU fun i => .int (-i)) (tC (.int 1000000))) tNil)))) (tCB rMax2 (tCons (tC (.int 0)) (tCons (tOp rSubI (tOp rModI (tOp rDivI (tVar 0) (tC (.int 48))) (tC (.int 11))) (tC (.int 8))) tNil))))
        [some (.int c), some (.ref L), some (.str kd), some (.int (o1 : Int)), some (.int (o2 : Int)), some (.int (o3 : Int))] H9 (.int i) := by
      obtain ⟨j, hj, hj3⟩ : ∃ j : Nat, (if c / 48 % 11 - 8 > 0 then c / 48 % 11 - 8 else 0) = (j : Int) ∧ j < 3 := ⟨(if c / 48 % 11 - 8 > 0 then c / 48 % 11 - 8 else 0).toNat, by split <;> omega, by split <;> omega⟩
      have em : Ev (tCB rMax2 (tCons (tC (.int 0)) (tCons (tOp rSubI (tOp rModI (tOp rDivI (tVar 0) (tC (.int 48))) (tC (.int 11))) (tC (.int 8))) tNil))) [some (.int c), some (.ref L), some (.str kd), some (.int (o1 : Int)), some (.int (o2 : Int)), some (.int (o3 : Int))] H9 (.int (j : Int)) :=
        ev_int (Evl.ev_max2 Evl.ev_c (ev_sub (ev_mod (dv rfl (by unfold CDiv; decide)) Evl.ev_c (by decide)) Evl.ev_c)) hj
      have el : EvL (tLst (tCons (tOp rSubI (tOp rModI (tOp rDivI (tVar 0) (tC (.int 48))) (tC (.int 9))) (tC (.int 4))) (tCons (tC (.int 1000000)) (tCons (tUn (rU fun i => .int (-i)) (tC (.int 1000000))) tNil)))) [some (.int c), some (.ref L), some (.str kd), some (.int (o1 : Int)), some (.int (o2 : Int)), some (.int (o3 : Int))] H9 [.int (c / 48 % 9 - 4), .int 1000000, .int (-1000000)] :=
        Evl.el_lst (ea3 (ev_sub (ev_mod (dv rfl (by unfold CDiv; decide)) Evl.ev_c (by decide)) Evl.ev_c) Evl.ev_c (ev_neg Evl.ev_c)) (by show 3 ≤ 100000; decide)
      have ix : ∀ i : Int, [V.int (c / 48 % 9 - 4), V.int 1000000, V.int (-1000000)][j]? = some (.int i) → Ev (tOp (rIxL K) (tLst (tCons (tOp rSubI (tOp rModI (tOp rDivI (tVar 0) (tC (.int 48))) (tC (.int 9))) (tC (.int 4))) (tCons (tC (.int 1000000)) (tCons (tUn (rU fun i => .int (-i)) (tC (.int 1000000))) tNil)))) (tCB rMax2 (tCons (tC (.int 0)) (tCons (tOp rSubI (tOp rModI (tOp rDivI (tVar 0) (tC (.int 48))) (tC (.int 11))) (tC (.int 8))) tNil))))
          [some (.int c), some (.ref L), some (.str kd), some (.int (o1 : Int)), some (.int (o2 : Int)), some (.int (o3 : Int))] H9 (.int i) := fun i hi => Evl.ev_opL1 el (fun H1 e => em.mono e) fun p H1 hp e => Evl.rv_ixL (Evl.sq_of hp) (atI_nat hi)
      match j, hj3, ix with
      | 0, _, ix => exact ⟨c / 48 % 9 - 4, by omega, by omega, ix _ rfl⟩
      | 1, _, ix => exact ⟨1000000, by omega, by omega, ix _ rfl⟩
      | 2, _, ix => exact ⟨-1000000, by omega, by omega, ix _ rfl⟩
    obtain ⟨i, hi1, hi2, ei⟩ := enum
    exact fin (d := .number o1 i) (e08.trans e9) ⟨lo1, hi1, hi2⟩ (ea3 Evl.ev_c (Evl.ev_var rfl) ei)
  have e09 := e08.trans e9
  refine Evl.q_when (Evl.et_or (et_eqS (Evl.ev_var rfl)) fun _ => et_eqS (Evl.ev_var rfl)) (fun hb H10 e10 => ?_) (fun hb5 H10 e10 => ?_)
  · by_cases q : kd = "copy"
    · subst q
      exact fin (d := .copy o1 o2) (e09.trans e10) ⟨lo1, lo2⟩ (ea3 (Evl.ev_var rfl) (Evl.ev_var rfl) (Evl.ev_var rfl))
    · have q2 : kd = "same" := by simpa [q] using hb
      subst q2
      exact fin (d := .same o1 o2) (e09.trans e10) ⟨lo1, lo2⟩ (ea3 (Evl.ev_var rfl) (Evl.ev_var rfl) (Evl.ev_var rfl))
  · have e010 := e09.trans e10
    have b1 := of_decide_eq_false hb1
    have b2 := of_decide_eq_false hb2
    have b3 := of_decide_eq_false hb3
    have b4 := of_decide_eq_false hb4
    have b5 : kd ≠ "copy" ∧ kd ≠ "same" := by simpa using hb5
    rcases hko with q | q | q | q | q | q | q | q
    · exact absurd q b1
    · exact absurd q b2
    · exact absurd q b3
    · exact absurd q b4
    · exact absurd q b5.1
    · exact absurd q b5.2
    · subst q; exact fin (d := .clear o1) e010 lo1 (ea2 (Evl.ev_var rfl) (Evl.ev_var rfl))
    · subst q; exact fin (d := .tell o1) e010 lo1 (ea2 (Evl.ev_var rfl) (Evl.ev_var rfl))
end Gy

set_option Elab.async false
set_option linter.all false
set_option maxRecDepth 100000
set_option maxHeartbeats 1000000
/-! Part 29: the law's lists: counting, former, do. -/
namespace Gy
open PySem PySem.Spec PyProof.Rows L2
open Evl (Ex Ev EvL EvU EvT EvA EvO rLenS rListS rMax2)
section
variable {H H' : Hp} {A : LA} {R : List Wd} {C : List (List Wd)}
theorem CR.ex {a : Addr} {ws : List Wd} (e : Ex H H') (h : CR H a ws) : CR H' a ws := let ⟨xs, q, r⟩ := h; ⟨xs, e _ _ q, WRs.mono (ex_tk e) r⟩
theorem LAt.keep {M : Addr → Prop} (h : LAt H A R C) (k : Keep M H H') (t : TK H H') (d : ∀ b, A.m b → ¬ M b) : LAt H' A R C := by
  obtain ⟨xs, h1, h2⟩ := h.r
  refine ⟨⟨xs, k _ _ h1 (d _ (.inl rfl)), WRs.mono t h2⟩, k _ _ h.c (d _ (.inr (.inl rfl))), ?_, h.rc, h.rs, h.as, h.nd⟩
  have : ∀ {cs : List Addr} {C : List (List Wd)}, (∀ b ∈ cs, A.m b) → Paired (CR H) cs C → Paired (CR H') cs C := by
    intro cs C hm r
    induction r with
    | nil => exact .nil
    | @cons a ws _ _ r _ ih =>
      obtain ⟨xs, q1, q2⟩ := r
      exact .cons ⟨xs, k _ _ q1 (d _ (hm a List.mem_cons_self)), WRs.mono t q2⟩ (ih fun b hb => hm b (List.mem_cons_of_mem _ hb))
  exact this (fun b hb => .inr (.inr hb)) h.cc
theorem LAt.ex (h : LAt H A R C) (e : Ex H H') : LAt H' A R C := h.keep (M := fun _ => False) (Keep.ex e) (ex_tk e) fun _ _ z => z
theorem LAt.len (h : LAt H A R C) : A.cs.length = C.length := pr_len h.cc
theorem LAt.cell (h : LAt H A R C) {n : Nat} (hn : n < C.length) : ∃ a, A.cs[n]? = some a ∧ CR H a (cl C n) := pr_getR h.cc (cl_some hn)
theorem LAt.got (h : LAt H A R C) {b : Addr} (hb : A.m b) : ∃ xs, H b = some (.lst xs) := by
  rcases hb with q | q | q
  · obtain ⟨xs, h1, _⟩ := h.r
    exact ⟨xs, by rw [q]; exact h1⟩
  · exact ⟨_, by rw [q]; exact h.c⟩
  · obtain ⟨i, hi⟩ := List.getElem?_of_mem q
    obtain ⟨ws, _, xs, h1, _⟩ := pr_get h.cc hi
    exact ⟨xs, h1⟩
theorem LAt.setR (h : LAt H A R C) {xs : List V} {R' : List Wd} (r : WRs H xs R') : LAt (upd H A.rl (.lst xs)) A R' C := by
  obtain ⟨ys, h1, _⟩ := h.r
  have t : TK H (upd H A.rl (.lst xs)) := tk_upd fun q w => by rw [h1] at w; cases w
  refine ⟨⟨xs, upd_same, WRs.mono t r⟩, by rw [upd_ne h.rc.symm]; exact h.c, ?_, h.rc, h.rs, h.as, h.nd⟩
  have : ∀ {cs : List Addr} {C : List (List Wd)}, A.rl ∉ cs → Paired (CR H) cs C → Paired (CR (upd H A.rl (.lst xs))) cs C := by
    intro cs C hm r
    induction r with
    | nil => exact .nil
    | @cons a ws _ _ r _ ih =>
      obtain ⟨zs, q1, q2⟩ := r
      exact .cons ⟨zs, by rw [upd_ne (fun z => hm (by rw [z]; exact List.mem_cons_self))]; exact q1, WRs.mono t q2⟩ (ih fun hb => hm (List.mem_cons_of_mem _ hb))
  exact this h.rs h.cc
theorem LAt.setC (h : LAt H A R C) {n : Nat} {a : Addr} {xs : List V} {ws : List Wd} (ha : A.cs[n]? = Option.some a) (r : WRs H xs ws) : LAt (upd H a (.lst xs)) A R (C.set n ws) := by
  obtain ⟨zs, h1, h2⟩ := h.r
  have ham := List.mem_of_getElem? ha
  obtain ⟨ys, hy⟩ := h.got (.inr (.inr ham))
  have t : TK H (upd H a (.lst xs)) := tk_upd fun q w => by rw [hy] at w; cases w
  have n1 : A.rl ≠ a := fun z => h.rs (z ▸ ham)
  have n2 : A.ca ≠ a := fun z => h.as (z ▸ ham)
  refine ⟨⟨zs, by rw [upd_ne n1]; exact h1, WRs.mono t h2⟩, by rw [upd_ne n2]; exact h.c, ?_, h.rc, h.rs, h.as, h.nd⟩
  have : ∀ {cs : List Addr} {C : List (List Wd)} {n : Nat}, cs.Nodup → cs[n]? = Option.some a → Paired (CR H) cs C → Paired (CR (upd H a (.lst xs))) cs (C.set n ws) := by
    intro cs C n hd hn r
    induction r generalizing n with
    | nil => exact .nil
    | @cons b ws' cs' C' r rr ih =>
      obtain ⟨d1, d2⟩ := List.nodup_cons.mp hd
      cases n with
      | zero =>
        simp at hn
        subst hn
        refine .cons ⟨xs, upd_same, WRs.mono t (by assumption)⟩ ?_
        clear ih hd
        induction rr with
        | nil => exact .nil
        | @cons c ws2 _ _ r2 _ ih2 =>
          obtain ⟨ys2, q1, q2⟩ := r2
          have hne : c ≠ b := fun z => d1 (by rw [z]; exact List.mem_cons_self)
          exact .cons ⟨ys2, by rw [upd_ne hne]; exact q1, WRs.mono t q2⟩ (ih2 (fun hb => d1 (List.mem_cons_of_mem _ hb)) (List.nodup_cons.mp d2).2)
      | succ n =>
        have hn' : cs'[n]? = Option.some a := by simpa using hn
        have hne : b ≠ a := fun z => d1 (by rw [z]; exact List.mem_of_getElem? hn')
        obtain ⟨ys2, q1, q2⟩ := r
        exact .cons ⟨ys2, by rw [upd_ne hne]; exact q1, WRs.mono t q2⟩ (ih d2 hn')
  exact this h.nd ha h.cc
theorem LAt.add (h : LAt H A R C) {c : Addr} {xs : List V} {ws : List Wd} (hc : H c = some (.lst xs)) (hm : ¬ A.m c) (r : WRs H xs ws) : LAt (upd H A.ca (.lst (A.cs.map V.ref ++ [.ref c]))) ⟨A.rl, A.ca, A.cs ++ [c]⟩ R (C ++ [ws]) := by
  obtain ⟨zs, h1, h2⟩ := h.r
  have t : TK H (upd H A.ca (.lst (A.cs.map V.ref ++ [.ref c]))) := tk_upd fun q w => by rw [h.c] at w; cases w
  have nc : c ≠ A.ca := fun z => hm (.inr (.inl z))
  refine ⟨⟨zs, by rw [upd_ne h.rc]; exact h1, WRs.mono t h2⟩, by rw [upd_same, List.map_append]; rfl, pr_snoc ?_ ⟨xs, by rw [upd_ne nc]; exact hc, WRs.mono t r⟩, h.rc, fun q => ?_, fun q => ?_, List.nodup_append.mpr ⟨h.nd, by simp, fun x hx y hy e => hm (.inr (.inr (by rw [List.mem_singleton.mp hy] at e; rw [← e]; exact hx)))⟩⟩
  · have : ∀ {cs : List Addr} {C : List (List Wd)}, A.ca ∉ cs → Paired (CR H) cs C → Paired (CR (upd H A.ca (.lst (A.cs.map V.ref ++ [.ref c])))) cs C := by
      intro cs C hm r
      induction r with
      | nil => exact .nil
      | @cons a ws _ _ r _ ih =>
        obtain ⟨zs, q1, q2⟩ := r
        exact .cons ⟨zs, by rw [upd_ne (fun z => hm (by rw [z]; exact List.mem_cons_self))]; exact q1, WRs.mono t q2⟩ (ih fun hb => hm (List.mem_cons_of_mem _ hb))
    exact this h.as h.cc
  · rcases List.mem_append.mp q with q | q
    · exact h.rs q
    · exact hm (.inl (List.mem_singleton.mp q).symm)
  · rcases List.mem_append.mp q with q | q
    · exact h.as q
    · exact nc (List.mem_singleton.mp q).symm
end
section
variable {K : PySem.W.Frag} {σ : L2.St} {H : Hp} {A : LA} {R : List Wd} {C : List (List Wd)} {tl tn ta tb : TE}
theorem count_pd (n : Nat) (ws : List Wd) : (ws.map pd).countP (fun z => PyData.eqv z (pd (.ptr n))) = ws.count (.ptr n) := by
  rw [List.countP_map, List.count_eq_countP]
  congr 1
  funext w
  show PyData.eqv (pd w) (pd (.ptr n)) = _
  rw [pd_eqv]
  by_cases h : w = .ptr n
  · subst h; simp
  · simp [h]
theorem ev_cnt {l : Addr} {ws : List Wd} {n : Nat} (hl : Ev tl σ H (.ref l)) (hc : CR H l ws) (hn : Ev tn σ H (.int (n : Int))) : Ev (tBM K "list" (rCntD K) tl (tCons (tTup (tCons (tC (.str "at")) (tCons tn tNil))) tNil)) σ H (.int ((ws.count (.ptr n) : Nat) : Int)) := fun H0 e0 Q q =>
  hl H0 e0 _ fun H1 e1 => by
    have e01 := e0.trans e1
    obtain ⟨xs, h1, h2⟩ := hc.ex e01
    refine ⟨Or.inl ⟨rfl, _, SqL.of h1⟩, (evp_at (hn.mono e01)) H1 (Ex.refl H1) _ fun v H2 e2 hv => ?_⟩
    refine ⟨l, v, pd (.ptr n), ws.map pd, rfl, rfl, .lst (Evl.sq_of (e2 _ _ h1)) (wrs_dp (WRs.mono (ex_tk e2) h2)), wr_dp hv, pdL_shaped ws, pd_shaped _, ?_⟩
    rw [count_pd]
    exact q H2 (e1.trans e2)
theorem LAt.eroot (h : LAt H A R C) {k : Nat} (hk : k < R.length) (ha : Ev ta σ H (.ref A.rl)) (hb : Ev tb σ H (.int (k : Int))) : ∃ v, WR H v (rg R k) ∧ Ev (tOp (rIxL K) ta tb) σ H v := by
  obtain ⟨xs, h1, h2⟩ := h.r
  obtain ⟨v, hv, rv⟩ := pr_getR h2 (rg_get hk)
  exact ⟨v, rv, ev_lix ha hb h1 hv⟩
theorem LAt.ecell (h : LAt H A R C) {n : Nat} (hn : n < C.length) (ha : Ev ta σ H (.ref A.ca)) (hb : Ev tb σ H (.int (n : Int))) : ∃ a, A.cs[n]? = some a ∧ CR H a (cl C n) ∧ Ev (tOp (rIxL K) ta tb) σ H (.ref a) := by
  obtain ⟨a, h1, h2⟩ := h.cell hn
  exact ⟨a, h1, h2, ev_lix ha hb h.c (by rw [List.getElem?_map, h1]; rfl)⟩
end
theorem p_law_name {K : PySem.W.Frag} (N : Tk K) (vs : List V) (H : Hp) (Q : VK) (E : XK) (h : sp_law_name K vs H Q E) : t_law_name K { nx := fun _ H' => Q .non H', rt := Q } (start n_law_name vs) H := by
  obtain ⟨v, w, rfl, hw, k⟩ := h
  refine Evl.q_when (et_at hw (Evl.ev_var rfl)) (fun hb H1 e1 => ?_) (fun hb H1 e1 => ?_)
  · cases w with
    | ptr n => exact Evl.s_ret (ev_ptr (hw.mono (ex_tk e1)) (Evl.ev_var rfl)) fun H2 e2 => k H2 (e1.trans e2)
    | _ => cases hb
  · refine Evl.s_ret (ev_neg Evl.ev_c) fun H2 e2 => ?_
    have := k H2 (e1.trans e2)
    cases w with
    | ptr n => cases hb
    | _ => exact this
theorem p_law_count {K : PySem.W.Frag} (N : Tk K) (vs : List V) (H : Hp) (Q : VK) (E : XK) (h : sp_law_count K vs H Q E) : t_law_count K { nx := fun _ H' => Q .non H', rt := Q } (start n_law_count vs) H := by
  obtain ⟨A, R, C, G, g, n, rfl, hA, hg, hC, k⟩ := h
  refine Evl.q_asg (ev_cnt (Evl.ev_var rfl) hA.r (Evl.ev_var rfl)) fun H1 e1 => ?_
  have hA1 := hA.ex e1
  have hl := hA.len
  refine Evl.q_forR1 (n := ((A.cs.map V.ref).length : Int)) (ea1 (Evl.ev_len (Evl.ev_var rfl) (Evl.sq_of hA1.c))) ⟨by omega, by rw [List.length_map]; omega⟩ (fun i σ' H' => ∃ v5, σ' = [some (.ref A.rl), some (.ref A.ca), some (.ref g), some (.int (n : Int)), some (.int ((R.count (.ptr n) + csum (cellN C G n) i : Nat) : Int)), v5] ∧ Ex H H') (fun H2 e2 => ⟨_, rfl, e1.trans e2⟩) ?_ ?_
  · rintro i σ' H2 hi ⟨v5, rfl, e2⟩
    have hi' : i < C.length := by rw [List.length_map] at hi; omega
    have es : csum (cellN C G n) (i + 1) = csum (cellN C G n) i + cellN C G n i := rfl
    refine Evl.s_when (b := !decide (i ∈ G)) (Evl.et_test (Evl.ev_is (Evl.ev_op (Evl.ev_var rfl) (Evl.ev_var rfl) (Evl.rv_niL (Evl.sq_of (e2 _ _ hg)) (show flatV (.int (i : Int)) = true from rfl) (ns_flat G))) (by rw [inV_ns]))) (fun hb H3 e3 => ?_) (fun hb H3 e3 => ?_)
    · have hb : i ∉ G := by simpa using hb
      have hA3 := hA.ex (e2.trans e3)
      obtain ⟨a, ha, hca, ea⟩ := hA3.ecell (K := K) (ta := tVar 1) (tb := tVar 5) (σ := [some (.ref A.rl), some (.ref A.ca), some (.ref g), some (.int (n : Int)), some (.int ((R.count (.ptr n) + csum (cellN C G n) i : Nat) : Int)), some (.int (i : Int))]) hi' (Evl.ev_var rfl) (Evl.ev_var rfl)
      have e6 : cellN C G n i = (cl C i).count (.ptr n) := by unfold cellN; rw [if_neg hb]
      refine Evl.s_asg (ev_int (ev_add (Evl.ev_var rfl) (ev_cnt ea hca (Evl.ev_var rfl))) (show _ = ((R.count (.ptr n) + csum (cellN C G n) (i + 1) : Nat) : Int) by rw [es, e6]; omega)) fun H4 e4 => ⟨_, rfl, (e2.trans e3).trans e4⟩
    · have hb : i ∈ G := by
        cases q : decide (i ∈ G) with
        | true => exact of_decide_eq_true q
        | false => rw [q] at hb; cases hb
      have e6 : cellN C G n i = 0 := by unfold cellN; rw [if_pos hb]
      refine ⟨some (.int (i : Int)), ?_, e2.trans e3⟩
      rw [es, e6]; rfl
  · rintro σ' H2 ⟨v5, rfl, e2⟩
    refine Evl.s_ret (Evl.ev_var rfl) fun H3 e3 => ?_
    have := k H3 (e2.trans e3)
    rw [Int.toNat_natCast, List.length_map, hl]
    exact this
theorem rg_ok {R : List Wd} {C : List (List Wd)} {G : List Nat} (ok : OkS R C G) {k : Nat} (hk : k < 8) : OkW C G (rg R k) := ok.rt _ (List.mem_of_getElem? (rg_get (by rw [ok.r8]; exact hk)))
theorem p_law_former {K : PySem.W.Frag} (N : Tk K) (vs : List V) (H : Hp) (Q : VK) (E : XK) (h : sp_law_former K vs H Q E) : t_law_former K { nx := fun _ H' => Q .non H', rt := Q } (start n_law_former vs) H := by
  obtain ⟨A, R, C, G, v, d, rfl, hA, hd, od, ok, k⟩ := h
  have dd : ∀ {H1 : Hp}, Ex H H1 → DdAt H1 v d := fun e => hd.mono (ex_tk e)
  have r8 : ∀ {k : Nat}, k < 8 → k < R.length := fun h => by rw [ok.r8]; exact h
  -- behind the first if
  have rest : ∀ {H1 : Hp}, Ex H H1 → (∀ k i o, d ≠ .put k i o) → tSeq (tIfS (tTest (tOp (rIn K false) (tOp (rIxT K) (tVar 2) (tC (.int 0))) (tLst (tCons (tC (.str "make")) (tCons (tC (.str "number")) (tCons (tC (.str "clear")) (tCons (tC (.str "copy")) (tCons (tC (.str "take")) tNil)))))))) (tRet (tOp (rIxL K) (tVar 0) (tOp (rIxT K) (tVar 2) (tC (.int 1))))) tNext) (tRet (tC .non)) { nx := fun _ H' => Q .non H', rt := Q } [some (.ref A.rl), some (.ref A.ca), some v, none] H1 := fun {H1} e1 np => by
    have t1 : EvT (tTest (tOp (rIn K false) (tOp (rIxT K) (tVar 2) (tC (.int 0))) (tLst (tCons (tC (.str "make")) (tCons (tC (.str "number")) (tCons (tC (.str "clear")) (tCons (tC (.str "copy")) (tCons (tC (.str "take")) tNil)))))))) [some (.ref A.rl), some (.ref A.ca), some v, none] H1 (inV (.str (dkind d)) [.str "make", .str "number", .str "clear", .str "copy", .str "take"]) :=
      Evl.et_test (Evl.ev_opL (ev_kind (dd e1) (Evl.ev_var rfl)) (Evl.el_lst (Evl.ea_cons Evl.ev_c (Evl.ea_cons Evl.ev_c (ea3 Evl.ev_c Evl.ev_c Evl.ev_c))) (by show 5 ≤ 100000; decide)) fun p H2 hp e => Evl.rv_isL (Evl.sq_of hp) rfl rfl)
    have yes : ∀ {kk : Nat} {u : Wd}, kk < 8 → (ddV d)[1]? = some (.int (kk : Int)) → rg R kk = u → (∀ u', lets R C d = some u' → u = u') → ∀ H2, Ex H1 H2 → tRet (tOp (rIxL K) (tVar 0) (tOp (rIxT K) (tVar 2) (tC (.int 1)))) { nx := tRet (tC .non) { nx := fun _ H' => Q .non H', rt := Q }, rt := Q } [some (.ref A.rl), some (.ref A.ca), some v, none] H2 := fun hk hx hu hl H2 e2 => by
      obtain ⟨x, hx2, ex⟩ := (hA.ex (e1.trans e2)).eroot (K := K) (ta := tVar 0) (tb := tOp (rIxT K) (tVar 2) (tC (.int ((1 : Nat) : Int)))) (σ := [some (.ref A.rl), some (.ref A.ca), some v, none]) (r8 hk) (Evl.ev_var rfl) (ev_darg (dd (e1.trans e2)) (Evl.ev_var rfl) hx)
      exact Evl.s_ret ex fun H3 e3 => k x _ H3 ((e1.trans e2).trans e3) (hx2.mono (ex_tk e3)) (by rw [hu]; exact hl)
    cases d with
    | put a b c => exact absurd rfl (np a b c)
    | make a b => exact Evl.q_when (b := true) t1 (fun _ => yes od.1 rfl rfl (fun u h => by injection h)) nofun
    | number a b => exact Evl.q_when (b := true) t1 (fun _ => yes od.1 rfl rfl (fun u h => by injection h)) nofun
    | clear a => exact Evl.q_when (b := true) t1 (fun _ => yes od rfl rfl (fun u h => by injection h)) nofun
    | copy a b => exact Evl.q_when (b := true) t1 (fun _ => yes od.1 rfl rfl (fun u h => by injection h)) nofun
    | take a b c =>
      refine Evl.q_when (b := true) t1 (fun _ => yes od.1 rfl rfl (fun u h => ?_)) nofun
      cases e : ledTo R C b c with
      | none => rw [(take_no e).2.2] at h; cases h
      | some n => rw [(take_yes e).2.2] at h; injection h
    | tell a => exact Evl.q_when (b := false) t1 nofun fun _ H2 e2 => Evl.s_ret Evl.ev_c fun H3 e3 => k .non .non H3 ((e1.trans e2).trans e3) rfl (fun u h => by cases h)
    | same a b => exact Evl.q_when (b := false) t1 nofun fun _ H2 e2 => Evl.s_ret Evl.ev_c fun H3 e3 => k .non .non H3 ((e1.trans e2).trans e3) rfl (fun u h => by cases h)
  have tk : ∀ {H1 : Hp}, Ex H H1 → EvT (tTest (tOp rEq (tOp (rIxT K) (tVar 2) (tC (.int 0))) (tC (.str "put")))) [some (.ref A.rl), some (.ref A.ca), some v, none] H1 (decide (dkind d = "put")) := fun e => et_kind (dd e) (Evl.ev_var rfl)
  by_cases hp : ∃ a b c, d = .put a b c
  · obtain ⟨kk, i, o, rfl⟩ := hp
    obtain ⟨x, hx, ex⟩ := hA.eroot (K := K) (ta := tVar 0) (tb := tOp (rIxT K) (tVar 2) (tC (.int ((1 : Nat) : Int)))) (σ := start n_law_former [.ref A.rl, .ref A.ca, v]) (r8 od.1) (Evl.ev_var rfl) (ev_darg hd (Evl.ev_var rfl) rfl)
    have hlu : ∀ (w : Wd) u, lets R C (.put kk i o) = some u → (∃ n, ledTo R C kk i = some n ∧ w = sg C n i) ∨ ledTo R C kk i = none → w = u := fun w u h q => by
      rcases q with ⟨n, q1, q2⟩ | q
      · rw [(put_yes q1).2.2] at h; injection h with h; rw [q2, h]
      · rw [(put_no q).2.2] at h; cases h
    refine Evl.q_when (Evl.et_and (tk (Ex.refl H)) fun _ => et_at hx ex) (fun hb H1 e1 => ?_) (fun hb H1 e1 => ?_)
    · have hb2 : isPtr (rg R kk) = true := by
        have : decide (dkind (.put kk i o) = "put") = true := rfl
        rw [this, Bool.true_and] at hb; exact hb
      obtain ⟨n, hn⟩ := isPtr_of hb2
      have hl : Live C G n := by have := rg_ok ok od.1; rw [hn] at this; exact this
      have hA1 := hA.ex e1
      obtain ⟨a, ha, hca, ea⟩ := hA1.ecell (K := K) (n := n) (ta := tVar 1) (tb := tOp (rIxT K) (tOp (rIxL K) (tVar 0) (tOp (rIxT K) (tVar 2) (tC (.int ((1 : Nat) : Int))))) (tC (.int 1))) (σ := start n_law_former [.ref A.rl, .ref A.ca, v]) hl.1 (Evl.ev_var rfl) (ev_ptr (by rw [← hn]; exact hx.mono (ex_tk e1)) (ex.mono e1))
      have hlp := led_ptr hn C i
      refine Evl.q_asg ea fun H2 e2 => ?_
      obtain ⟨xs, hxs, rxs⟩ := hca.ex e2
      have e12 := e1.trans e2
      have hxl := pr_len rxs
      refine Evl.q_when (et_lt (ev_darg (i := 2) (dd e12) (Evl.ev_var rfl) rfl) (Evl.ev_len (Evl.ev_var rfl) (Evl.sq_of hxs))) (fun hb H3 e3 => ?_) (fun hb H3 e3 => ?_)
      · have hi : i < (cl C n).length := by have := of_decide_eq_true hb; omega
        rw [if_pos hi] at hlp
        obtain ⟨y, hy, ry⟩ := pr_getR rxs (sg_get hi)
        exact Evl.s_ret (ev_lix (Evl.ev_var rfl) (ev_darg (i := 2) (dd (e12.trans e3)) (Evl.ev_var rfl) rfl) (e3 _ _ hxs) hy) fun H4 e4 => k y (sg C n i) H4 ((e12.trans e3).trans e4) (ry.mono (ex_tk (e3.trans e4))) fun u h => hlu _ u h (.inl ⟨n, hlp, rfl⟩)
      · have hi : ¬ i < (cl C n).length := by have := of_decide_eq_false hb; omega
        rw [if_neg hi] at hlp
        exact Evl.s_ret Evl.ev_c fun H4 e4 => k .non .non H4 ((e12.trans e3).trans e4) rfl fun u h => hlu _ u h (.inr hlp)
    · have hb2 : isPtr (rg R kk) = false := by
        have : decide (dkind (.put kk i o) = "put") = true := rfl
        rw [this, Bool.true_and] at hb; exact hb
      have hlp := led_no hb2 C i
      have t1 : EvT (tTest (tOp (rIn K false) (tOp (rIxT K) (tVar 2) (tC (.int 0))) (tLst (tCons (tC (.str "make")) (tCons (tC (.str "number")) (tCons (tC (.str "clear")) (tCons (tC (.str "copy")) (tCons (tC (.str "take")) tNil)))))))) (start n_law_former [.ref A.rl, .ref A.ca, v]) H1 (inV (.str "put") [.str "make", .str "number", .str "clear", .str "copy", .str "take"]) :=
        Evl.et_test (Evl.ev_opL (ev_kind (dd e1) (Evl.ev_var rfl)) (Evl.el_lst (Evl.ea_cons Evl.ev_c (Evl.ea_cons Evl.ev_c (ea3 Evl.ev_c Evl.ev_c Evl.ev_c))) (by show 5 ≤ 100000; decide)) fun p H2 hp e => Evl.rv_isL (Evl.sq_of hp) rfl rfl)
      exact Evl.q_when (b := false) t1 nofun fun _ H2 e2 => Evl.s_ret Evl.ev_c fun H3 e3 => k .non .non H3 ((e1.trans e2).trans e3) rfl fun u h => hlu _ u h (.inr hlp)
  · have hk : decide (dkind d = "put") = false := by
      cases d with
      | put a b c => exact absurd ⟨a, b, c, rfl⟩ hp
      | _ => rfl
    refine Evl.q_when (b := false) (Evl.et_and (a := false) (b := false) (Evl.et_is (tk (Ex.refl H)) hk) nofun) nofun fun _ H1 e1 => rest e1 fun a b c e => hp ⟨a, b, c, e⟩
end Gy

set_option Elab.async false
set_option linter.all false
set_option maxRecDepth 100000
set_option maxHeartbeats 1000000
/-! Part 30: the law's do. -/
namespace Gy
open PySem PySem.Spec PyProof.Rows L2
open Evl (Ex Ev EvL EvU EvT EvA EvO rLenS rListS rMax2)
/-- the law's lists, that were in H0, now in H -/
structure Ld (A0 : LA) (H0 H : Hp) (A : LA) (R : List Wd) (C : List (List Wd)) : Prop where
  at_ : LAt H A R C
  kp : Keep A0.m H0 H
  tk : TK H0 H
  rl : A.rl = A0.rl
  ca : A.ca = A0.ca
  nw : ∀ b ∈ A.cs, b ∈ A0.cs ∨ H0 b = none
  od : ∀ b ∈ A0.cs, b ∈ A.cs
section
variable {A0 A : LA} {H0 H H1 : Hp} {R : List Wd} {C : List (List Wd)}
theorem Ld.refl (h : LAt H A R C) : Ld A H H A R C := ⟨h, Keep.refl _, TK.refl _, rfl, rfl, fun _ h => .inl h, fun _ h => h⟩
theorem Ld.ex (h : Ld A0 H0 H A R C) (e : Ex H H1) : Ld A0 H0 H1 A R C := ⟨h.at_.ex e, h.kp.trans (Keep.ex e), h.tk.trans (ex_tk e), h.rl, h.ca, h.nw, h.od⟩
theorem Ld.back (h : Ld A0 H0 H A R C) {b : Addr} (e : H b = none) : H0 b = none := by
  cases q : H0 b with
  | none => rfl
  | some o =>
    have n : ¬ A0.m b := fun z => by
      have : A.m b := by
        rcases z with z | z | z
        · exact .inl (by rw [h.rl]; exact z)
        · exact .inr (.inl (by rw [h.ca]; exact z))
        · exact .inr (.inr (h.od b z))
      obtain ⟨xs, hx⟩ := h.at_.got this
      rw [hx] at e; cases e
    rw [h.kp b o q n] at e; cases e
theorem Ld.setR (h : Ld A0 H0 H A R C) {xs : List V} {R' : List Wd} (r : WRs H xs R') : Ld A0 H0 (upd H A.rl (.lst xs)) A R' C := by
  obtain ⟨ys, h1, _⟩ := h.at_.r
  exact ⟨h.at_.setR r, h.kp.trans (Keep.upd (.inl h.rl)), h.tk.trans (tk_upd fun q w => by rw [h1] at w; cases w), h.rl, h.ca, h.nw, h.od⟩
theorem Ld.keepC (h : Ld A0 H0 H A R C) {a : Addr} {xs : List V} (ha : a ∈ A.cs) : Keep A0.m H0 (upd H a (.lst xs)) := fun b o e n => by
  have hn : b ≠ a := fun z => by
    subst z
    rcases h.nw b ha with q | q
    · exact n (.inr (.inr q))
    · rw [q] at e; cases e
  rw [upd_ne hn]; exact h.kp b o e n
theorem Ld.setC (h : Ld A0 H0 H A R C) {n : Nat} {a : Addr} {xs : List V} {ws : List Wd} (ha : A.cs[n]? = some a) (r : WRs H xs ws) : Ld A0 H0 (upd H a (.lst xs)) A R (C.set n ws) := by
  have ham := List.mem_of_getElem? ha
  obtain ⟨ys, h1⟩ := h.at_.got (.inr (.inr ham))
  exact ⟨h.at_.setC ha r, h.keepC ham, h.tk.trans (tk_upd fun q w => by rw [h1] at w; cases w), h.rl, h.ca, h.nw, h.od⟩
theorem Ld.add (h : Ld A0 H0 H A R C) {c : Addr} {xs : List V} {ws : List Wd} (hc : H c = some (.lst xs)) (hm : ¬ A.m c) (h0 : H0 c = none) (r : WRs H xs ws) : Ld A0 H0 (upd H A.ca (.lst (A.cs.map V.ref ++ [.ref c]))) ⟨A.rl, A.ca, A.cs ++ [c]⟩ R (C ++ [ws]) :=
  ⟨h.at_.add hc hm r, h.kp.trans (Keep.upd (.inr (.inl h.ca))), h.tk.trans (tk_upd fun q w => by rw [h.at_.c] at w; cases w), h.rl, h.ca, fun b hb => (List.mem_append.mp hb).elim (h.nw b) fun q => .inr (by rw [List.mem_singleton.mp q]; exact h0), fun b hb => List.mem_append_left _ (h.od b hb)⟩
end
section
variable {K : PySem.W.Frag} {σ : L2.St} {A0 A : LA} {H0 H : Hp} {R : List Wd} {C : List (List Wd)} {te to ti : TE} {D : Ends} {P : V → Hp → Prop} {w : Wd} {k n i : Nat}
/-- l[j] = e, e with a property -/
theorem s_setLP {l : Addr} {xs : List V} {j : Nat} (hl : H l = some (.lst xs)) (h : EvP te σ H P) (hm : ∀ v A B, Ex A B → P v A → P v B) (ho : Ev to σ H (.ref l)) (hi : Ev ti σ H (.int (j : Int))) (hj : j < xs.length) (kk : ∀ v H1, Ex H H1 → P v H1 → D.nx σ (upd H1 l (.lst (xs.set j v)))) :
    tAsg te (gSub to ti rSetL) D σ H := h H (Ex.refl H) _ fun v H1 e1 pv => ho H1 e1 _ fun H2 e2 => hi H2 (e1.trans e2) _ fun H3 e3 => by
  have e := (e1.trans e2).trans e3
  exact ⟨l, xs, _, j, rfl, rfl, e _ _ hl, Evl.ixN_nat hj, kk v H3 e (hm v _ _ (e2.trans e3) pv)⟩
theorem Ld.s_root (h : Ld A0 H0 H A R C) (hv : EvP te σ H (fun v H' => WR H' v w)) (ho : Ev to σ H (.ref A.rl)) (hi : Ev ti σ H (.int (k : Int))) (hk : k < R.length) (kk : ∀ H1, Ld A0 H0 H1 A (R.set k w) C → D.nx σ H1) : tAsg te (gSub to ti rSetL) D σ H := by
  obtain ⟨xs, h1, h2⟩ := h.at_.r
  refine s_setLP h1 hv (fun v A B e q => q.mono (ex_tk e)) ho hi (by rw [pr_len h2]; exact hk) fun v H1 e1 hw => kk _ ?_
  exact (h.ex e1).setR (pr_set hw k (WRs.mono (ex_tk e1) h2))
theorem Ld.s_cell (h : Ld A0 H0 H A R C) {a : Addr} (ha : A.cs[n]? = some a) (hn : n < C.length) (hv : EvP te σ H (fun v H' => WR H' v w)) (ho : Ev to σ H (.ref a)) (hi : Ev ti σ H (.int (i : Int))) (hk : i < (cl C n).length) (kk : ∀ H1, Ld A0 H0 H1 A R (C.set n ((cl C n).set i w)) → D.nx σ H1) : tAsg te (gSub to ti rSetL) D σ H := by
  obtain ⟨b, hb, xs, h1, h2⟩ := h.at_.cell hn
  rw [ha] at hb
  injection hb with hb
  subst hb
  refine s_setLP h1 hv (fun v A B e q => q.mono (ex_tk e)) ho hi (by rw [pr_len h2]; exact hk) fun v H1 e1 hw => kk _ ?_
  exact (h.ex e1).setC ha (pr_set hw i (WRs.mono (ex_tk e1) h2))
theorem ev_int1 {b : Bool} (h : Ev te σ H (.bl b)) : Ev (tCB rInt1 (tCons te tNil)) σ H (.int (if b then 1 else 0)) := ev_of (evp_cb1 (evp_of h) fun v H1 e1 hv Q q => by subst hv; exact .inr ⟨b, rfl, q _ H1 (Ex.refl H1) rfl⟩)
theorem ev_eqS {k c : Str} (ha : Ev te σ H (.str k)) : Ev (tOp rEq te (tC (.str c))) σ H (.bl (decide (k = c))) := Evl.ev_is (Evl.ev_op ha Evl.ev_c (Evl.rv_eq rfl)) (by rw [dec_str])
end
theorem p_law_do {K : PySem.W.Frag} (N : Tk K) (vs : List V) (H : Hp) (Q : VK) (E : XK) (h : sp_law_do K vs H Q E) : t_law_do K { nx := fun _ H' => Q .non H', rt := Q } (start n_law_do vs) H := by
  obtain ⟨A, R, C, G, v, d, rfl, hA, hd, od, ok, hC, k⟩ := h
  have dd : ∀ {H1 : Hp}, TK H H1 → DdAt H1 v d := fun e => hd.mono e
  have r8 : ∀ {k : Nat}, k < 8 → k < R.length := fun h => by rw [ok.r8]; exact h
  -- return [], behind it all
  have fin : ∀ {H2 : Hp} {A' : LA}, Ld A H H2 A' (doR R C d) (doC R C d) → doT R C d = .none → tRet (tLst tNil) { nx := fun _ H' => Q .non H', rt := Q } [] H2 := fun {H2 A'} l e =>
    Evl.s_retL (Evl.el_lst Evl.ea_nil (by show 0 ≤ 100000; decide)) fun p H3 hp e3 h3 => by
      have l3 := l.ex e3
      exact k _ H3 A' l3.kp l3.tk l3.at_ l3.rl l3.ca l3.nw (by rw [e]; exact ⟨p, [], rfl, l.back hp, h3, rfl⟩)
  refine Evl.q_asg (ev_kind hd (Evl.ev_var rfl)) fun H1 e1 => ?_
  have l1 := (Ld.refl hA).ex e1
  have kd : ∀ {H2 : Hp} {v4 v5 : Option V}, Ev (tVar 3) [some (.ref A.rl), some (.ref A.ca), some v, some (.str (dkind d)), v4, v5] H2 (.str (dkind d)) := Evl.ev_var rfl
  have kv : ∀ {H2 : Hp} {v4 v5 : Option V} {i : Nat} {x : V}, TK H H2 → (ddV d)[i]? = some x → Ev (tOp (rIxT K) (tVar 2) (tC (.int (i : Int)))) [some (.ref A.rl), some (.ref A.ca), some v, some (.str (dkind d)), v4, v5] H2 x := fun t h => ev_darg (dd t) (Evl.ev_var rfl) h
  refine Evl.q_if (et_eqS kd) (fun hb H2 e2 => ?_) fun hb1 H2 e2 => ?_
  · have l2 := l1.ex e2
    cases d with
    | make kk z =>
      refine e_app (Evl.ev_var rfl) l2.at_.c (evp_rep (n := z) (kv (i := 2) l2.tk rfl) (by have := od.2; omega)) (by rw [List.length_map, l2.at_.len]; omega) ?_
      rintro _ H3 e3 ⟨c, _, rfl, hc, hc3, rfl⟩
      have l3 := l2.ex e3
      have nm : ¬ A.m c := fun q => by
        obtain ⟨xs, hx⟩ := l2.at_.got q
        rw [hc] at hx; cases hx
      have l4 := l3.add (xs := List.replicate z .non) (ws := List.replicate z .non) hc3 nm (l2.back hc) (pr_rep (show WR H3 .non .non from rfl) z)
      have hlc := l2.at_.len
      refine l4.s_root (k := kk) (w := .ptr C.length) (evp_at (ev_int (ev_sub (Evl.ev_len (Evl.ev_var rfl) (Evl.sq_of l4.at_.c)) Evl.ev_c) (by rw [List.length_map, List.length_append, List.length_singleton, hlc]; omega))) (Evl.ev_var rfl) (kv (i := 1) l4.tk rfl) (r8 od.1) fun H5 l5 => ?_
      exact fin l5 rfl
    | _ => have hb := of_decide_eq_true hb; simp only [dkind] at hb; exact absurd hb (by decide +kernel)
  have l2 := l1.ex e2
  refine Evl.s_if (et_eqS kd) (fun hb H3 e3 => ?_) fun hb2 H3 e3 => ?_
  · have l3 := l2.ex e3
    cases d with
    | number kk i => exact l3.s_root (k := kk) (w := .num i) (evp_is (kv (i := 2) l3.tk rfl)) (Evl.ev_var rfl) (kv (i := 1) l3.tk rfl) (r8 od.1) fun H5 l5 => fin l5 rfl
    | _ => have hb := of_decide_eq_true hb; simp only [dkind] at hb; exact absurd hb (by decide +kernel)
  have l3 := l2.ex e3
  refine Evl.s_if (et_eqS kd) (fun hb H4 e4 => ?_) fun hb3 H4 e4 => ?_
  · have l4 := l3.ex e4
    cases d with
    | clear kk => exact l4.s_root (k := kk) (w := .non) (evp_ev Evl.ev_c fun _ _ => rfl) (Evl.ev_var rfl) (kv (i := 1) l4.tk rfl) (r8 od) fun H5 l5 => fin l5 rfl
    | _ => have hb := of_decide_eq_true hb; simp only [dkind] at hb; exact absurd hb (by decide +kernel)
  have l4 := l3.ex e4
  refine Evl.s_if (et_eqS kd) (fun hb H5 e5 => ?_) fun hb4 H5 e5 => ?_
  · have l5 := l4.ex e5
    cases d with
    | copy t o =>
      obtain ⟨x, hx, ex⟩ := l5.at_.eroot (K := K) (ta := tVar 0) (tb := tOp (rIxT K) (tVar 2) (tC (.int ((2 : Nat) : Int)))) (σ := [some (.ref A.rl), some (.ref A.ca), some v, some (.str (dkind (.copy t o))), none, none]) (r8 od.2) (Evl.ev_var rfl) (kv (i := 2) l5.tk rfl)
      exact l5.s_root (k := t) (w := rg R o) (evp_ev ex fun H6 e6 => hx.mono (ex_tk e6)) (Evl.ev_var rfl) (kv (i := 1) l5.tk rfl) (r8 od.1) fun H6 l6 => fin l6 rfl
    | _ => have hb := of_decide_eq_true hb; simp only [dkind] at hb; exact absurd hb (by decide +kernel)
  have l5 := l4.ex e5
  refine Evl.s_if (et_eqS kd) (fun hb H6 e6 => ?_) fun hb5 H6 e6 => ?_
  · have l6 := l5.ex e6
    cases d with
    | tell kk =>
      obtain ⟨x, hx, ex⟩ := l6.at_.eroot (K := K) (ta := tVar 0) (tb := tOp (rIxT K) (tVar 2) (tC (.int ((1 : Nat) : Int)))) (σ := [some (.ref A.rl), some (.ref A.ca), some v, some (.str (dkind (.tell kk))), none, none]) (r8 od) (Evl.ev_var rfl) (kv (i := 1) l6.tk rfl)
      refine Evl.s_retL (Evl.el_lst (ea1 ex) (by show 1 ≤ 100000; decide)) fun p H7 hp e7 h7 => ?_
      have l7 := l6.ex e7
      exact k _ H7 A l7.kp l7.tk l7.at_ rfl rfl (fun b hb => .inl hb) ⟨p, _, rfl, l6.back hp, h7, x, rfl, hx.mono (ex_tk e7)⟩
    | _ => have hb := of_decide_eq_true hb; simp only [dkind] at hb; exact absurd hb (by decide +kernel)
  have l6 := l5.ex e6
  refine Evl.s_if (et_eqS kd) (fun hb H7 e7 => ?_) fun hb6 H7 e7 => ?_
  · have l7 := l6.ex e7
    cases d with
    | same kk o =>
      obtain ⟨x, hx, ex⟩ := l7.at_.eroot (K := K) (ta := tVar 0) (tb := tOp (rIxT K) (tVar 2) (tC (.int ((1 : Nat) : Int)))) (σ := [some (.ref A.rl), some (.ref A.ca), some v, some (.str (dkind (.same kk o))), none, none]) (r8 od.1) (Evl.ev_var rfl) (kv (i := 1) l7.tk rfl)
      obtain ⟨y, hy, ey⟩ := l7.at_.eroot (K := K) (ta := tVar 0) (tb := tOp (rIxT K) (tVar 2) (tC (.int ((2 : Nat) : Int)))) (σ := [some (.ref A.rl), some (.ref A.ca), some v, some (.str (dkind (.same kk o))), none, none]) (r8 od.2) (Evl.ev_var rfl) (kv (i := 2) l7.tk rfl)
      have ee : Ev (tOp (rEqD K) (tOp (rIxL K) (tVar 0) (tOp (rIxT K) (tVar 2) (tC (.int ((1 : Nat) : Int))))) (tOp (rIxL K) (tVar 0) (tOp (rIxT K) (tVar 2) (tC (.int ((2 : Nat) : Int)))))) [some (.ref A.rl), some (.ref A.ca), some v, some (.str (dkind (.same kk o))), none, none] H7 (.bl (decide (rg R kk = rg R o))) :=
        Evl.ev_op ex ey fun H8 e8 Q8 q8 => ⟨_, _, wr_dp (hx.mono (ex_tk e8)), wr_dp (hy.mono (ex_tk e8)), pd_shaped _, pd_shaped _, by rw [pd_eqv]; exact q8 H8 (Ex.refl H8)⟩
      refine Evl.s_retL (Evl.el_lst (ea1 ee) (by show 1 ≤ 100000; decide)) fun p H8 hp e8 h8 => ?_
      have l8 := l7.ex e8
      exact k _ H8 A l8.kp l8.tk l8.at_ rfl rfl (fun b hb => .inl hb) ⟨p, _, rfl, l7.back hp, h8, rfl⟩
    | _ => have hb := of_decide_eq_true hb; simp only [dkind] at hb; exact absurd hb (by decide +kernel)
  have l7 := l6.ex e7
  -- put, take
  have nk : ∀ {c : Str}, decide (dkind d = c) = false → dkind d ≠ c := fun h => of_decide_eq_false h
  have refuse : ∀ {c : Str} {σ : L2.St} {H8 : Hp} {D : Ends}, Ex H7 H8 → doR R C d = R → doC R C d = C → doT R C d = .refd c → D.rt = Q → tRet (tLst (tCons (tTup (tCons (tC (.str "refused")) (tCons (tC (.str c)) tNil))) tNil)) D σ H8 := fun {c σ H8 D} e8 h1 h2 h3 hD => s_retP evp_refd fun x H9 e9 td => by
    have l8 := l7.ex e8
    have l9 := l8.ex e9
    rw [hD]
    obtain ⟨l, xs, q1, q2, q3, q4⟩ := td
    exact k _ H9 A l9.kp l9.tk (by rw [h1, h2]; exact l9.at_) rfl rfl (fun b hb => .inl hb) (by rw [h3]; exact ⟨l, xs, q1, l8.back q2, q3, q4⟩)
  cases d with
  | make _ _ => exact absurd rfl (nk hb1)
  | number _ _ => exact absurd rfl (nk hb2)
  | clear _ => exact absurd rfl (nk hb3)
  | copy _ _ => exact absurd rfl (nk hb4)
  | tell _ => exact absurd rfl (nk hb5)
  | same _ _ => exact absurd rfl (nk hb6)
  | put kk i o =>
    have i1 : ∀ {H8 : Hp} {v4 v5 : Option V} {j : Nat}, Ev (tOp rAddI (tC (.int (j : Int))) (tCB rInt1 (tCons (tOp rEq (tVar 3) (tC (.str "take"))) tNil))) [some (.ref A.rl), some (.ref A.ca), some v, some (.str (dkind (.put kk i o))), v4, v5] H8 (.int (j : Int)) := fun {H8 v4 v5 j} => ev_int (ev_add Evl.ev_c (ev_int1 (ev_eqS kd))) (by
      have : decide (dkind (.put kk i o) = "take") = false := rfl
      rw [this]; simp)
    have ai : ∀ {H8 : Hp} {v4 v5 : Option V} {j : Nat} {x : V}, TK H H8 → (ddV (.put kk i o))[j]? = some x → Ev (tOp (rIxT K) (tVar 2) (tOp rAddI (tC (.int (j : Int))) (tCB rInt1 (tCons (tOp rEq (tVar 3) (tC (.str "take"))) tNil)))) [some (.ref A.rl), some (.ref A.ca), some v, some (.str (dkind (.put kk i o))), v4, v5] H8 x := fun t hx => by
      obtain ⟨tt, rfl, q⟩ := dd t
      exact ev_tix (Evl.ev_var rfl) i1 q (atI_nat hx)
    obtain ⟨x, hx, ex⟩ := l7.at_.eroot (K := K) (ta := tVar 0) (σ := [some (.ref A.rl), some (.ref A.ca), some v, some (.str (dkind (.put kk i o))), none, none]) (r8 od.1) (Evl.ev_var rfl) (ai (j := 1) l7.tk rfl)
    refine Evl.q_asg ex fun H8 e8 => ?_
    have l8 := l7.ex e8
    have hx8 := hx.mono (ex_tk e8)
    refine Evl.q_when (et_notat hx8 (Evl.ev_var rfl)) (fun hb H9 e9 => ?_) fun hb H9 e9 => ?_
    · have hb2 : isPtr (rg R kk) = false := by simpa using hb
      have hlp := led_no hb2 C i
      exact refuse (e8.trans e9) rfl (put_no hlp).2.1 ((put_no hlp).1.trans (refusal_no hb2)) rfl
    · obtain ⟨n, hn⟩ := isPtr_of (w := rg R kk) (by simpa using hb)
      have hl : Live C G n := by have := rg_ok ok od.1; rw [hn] at this; exact this
      have hlp := led_ptr hn C i
      have l9 := l8.ex e9
      refine Evl.q_asg (ai (j := 2) l9.tk rfl) fun H10 e10 => ?_
      have l10 := l9.ex e10
      have hx10 : WR H10 x (.ptr n) := by rw [← hn]; exact hx8.mono (ex_tk (e9.trans e10))
      obtain ⟨a, ha, hca, ea⟩ := l10.at_.ecell (K := K) (ta := tVar 1) (tb := tOp (rIxT K) (tVar 4) (tC (.int 1))) (σ := [some (.ref A.rl), some (.ref A.ca), some v, some (.str (dkind (.put kk i o))), some x, some (.int (i : Int))]) hl.1 (Evl.ev_var rfl) (ev_ptr hx10 (Evl.ev_var rfl))
      obtain ⟨ys, hys, rys⟩ := hca
      have hyl := pr_len rys
      refine Evl.q_when (et_ge (Evl.ev_var rfl) (Evl.ev_len ea (Evl.sq_of hys))) (fun hb H11 e11 => ?_) fun hb H11 e11 => ?_
      · have hi : ¬ i < (cl C n).length := by have := of_decide_eq_true hb; omega
        rw [if_neg hi] at hlp
        exact refuse ((e8.trans e9).trans (e10.trans e11)) rfl (put_no hlp).2.1 ((put_no hlp).1.trans (refusal_ptr hn)) rfl
      · have hi : i < (cl C n).length := by have := of_decide_eq_false hb; omega
        rw [if_pos hi] at hlp
        have l11 := l10.ex e11
        refine Evl.s_if (b := true) (Evl.et_is (et_eqS (k := dkind (.put kk i o)) (Evl.ev_var rfl)) rfl) (fun _ H12 e12 => ?_) nofun
        have l12 := l11.ex e12
        obtain ⟨y, hy, ey⟩ := l12.at_.eroot (K := K) (ta := tVar 0) (tb := tOp (rIxT K) (tVar 2) (tC (.int ((3 : Nat) : Int)))) (σ := [some (.ref A.rl), some (.ref A.ca), some v, some (.str (dkind (.put kk i o))), some x, some (.int (i : Int))]) (r8 od.2) (Evl.ev_var rfl) (kv (i := 3) l12.tk rfl)
        refine l12.s_cell ha hl.1 (w := rg R o) (i := i) (evp_ev ey fun H13 e13 => hy.mono (ex_tk e13)) (ea.mono (e11.trans e12)) (Evl.ev_var rfl) hi fun H13 l13 => fin (A' := A) ?_ (put_yes hlp).1
        rw [(put_yes hlp).2.1]; exact l13
  | take t kk i =>
    have i1 : ∀ {H8 : Hp} {v4 v5 : Option V} {j : Nat}, Ev (tOp rAddI (tC (.int (j : Int))) (tCB rInt1 (tCons (tOp rEq (tVar 3) (tC (.str "take"))) tNil))) [some (.ref A.rl), some (.ref A.ca), some v, some (.str (dkind (.take t kk i))), v4, v5] H8 (.int ((j + 1 : Nat) : Int)) := fun {H8 v4 v5 j} => ev_int (ev_add Evl.ev_c (ev_int1 (ev_eqS kd))) (by
      have : decide (dkind (.take t kk i) = "take") = true := rfl
      rw [this]; simp)
    have ai : ∀ {H8 : Hp} {v4 v5 : Option V} {j : Nat} {x : V}, TK H H8 → (ddV (.take t kk i))[j + 1]? = some x → Ev (tOp (rIxT K) (tVar 2) (tOp rAddI (tC (.int (j : Int))) (tCB rInt1 (tCons (tOp rEq (tVar 3) (tC (.str "take"))) tNil)))) [some (.ref A.rl), some (.ref A.ca), some v, some (.str (dkind (.take t kk i))), v4, v5] H8 x := fun t hx => by
      obtain ⟨tt, rfl, q⟩ := dd t
      exact ev_tix (Evl.ev_var rfl) i1 q (atI_nat hx)
    obtain ⟨x, hx, ex⟩ := l7.at_.eroot (K := K) (ta := tVar 0) (σ := [some (.ref A.rl), some (.ref A.ca), some v, some (.str (dkind (.take t kk i))), none, none]) (r8 od.2) (Evl.ev_var rfl) (ai (j := 1) l7.tk rfl)
    refine Evl.q_asg ex fun H8 e8 => ?_
    have l8 := l7.ex e8
    have hx8 := hx.mono (ex_tk e8)
    refine Evl.q_when (et_notat hx8 (Evl.ev_var rfl)) (fun hb H9 e9 => ?_) fun hb H9 e9 => ?_
    · have hb2 : isPtr (rg R kk) = false := by simpa using hb
      have hlp := led_no hb2 C i
      exact refuse (e8.trans e9) (take_no hlp).2.1 rfl ((take_no hlp).1.trans (refusal_no hb2)) rfl
    · obtain ⟨n, hn⟩ := isPtr_of (w := rg R kk) (by simpa using hb)
      have hl : Live C G n := by have := rg_ok ok od.2; rw [hn] at this; exact this
      have hlp := led_ptr hn C i
      have l9 := l8.ex e9
      refine Evl.q_asg (ai (j := 2) l9.tk rfl) fun H10 e10 => ?_
      have l10 := l9.ex e10
      have hx10 : WR H10 x (.ptr n) := by rw [← hn]; exact hx8.mono (ex_tk (e9.trans e10))
      obtain ⟨a, ha, hca, ea⟩ := l10.at_.ecell (K := K) (ta := tVar 1) (tb := tOp (rIxT K) (tVar 4) (tC (.int 1))) (σ := [some (.ref A.rl), some (.ref A.ca), some v, some (.str (dkind (.take t kk i))), some x, some (.int (i : Int))]) hl.1 (Evl.ev_var rfl) (ev_ptr hx10 (Evl.ev_var rfl))
      obtain ⟨ys, hys, rys⟩ := hca
      have hyl := pr_len rys
      refine Evl.q_when (et_ge (Evl.ev_var rfl) (Evl.ev_len ea (Evl.sq_of hys))) (fun hb H11 e11 => ?_) fun hb H11 e11 => ?_
      · have hi : ¬ i < (cl C n).length := by have := of_decide_eq_true hb; omega
        rw [if_neg hi] at hlp
        exact refuse ((e8.trans e9).trans (e10.trans e11)) (take_no hlp).2.1 rfl ((take_no hlp).1.trans (refusal_ptr hn)) rfl
      · have hi : i < (cl C n).length := by have := of_decide_eq_false hb; omega
        rw [if_pos hi] at hlp
        have l11 := l10.ex e11
        refine Evl.s_if (b := false) (Evl.et_is (et_eqS (k := dkind (.take t kk i)) (Evl.ev_var rfl)) rfl) nofun (fun _ H12 e12 => ?_)
        have l12 := l11.ex e12
        have e1012 := e11.trans e12
        obtain ⟨y, hy, ry⟩ := pr_getR rys (sg_get hi)
        have ey : Ev (tOp (rIxL K) (tOp (rIxL K) (tVar 1) (tOp (rIxT K) (tVar 4) (tC (.int 1)))) (tVar 5)) [some (.ref A.rl), some (.ref A.ca), some v, some (.str (dkind (.take t kk i))), some x, some (.int (i : Int))] H12 y := ev_lix (ea.mono e1012) (Evl.ev_var rfl) (e1012 _ _ hys) hy
        refine l12.s_root (k := t) (w := sg C n i) (evp_ev ey fun H13 e13 => ry.mono (ex_tk (e1012.trans e13))) (Evl.ev_var rfl) (kv (i := 1) l12.tk rfl) (r8 od.1) fun H13 l13 => fin (A' := A) ?_ (take_yes hlp).1
        rw [(take_yes hlp).2.1]; exact l13
end Gy

set_option Elab.async false
set_option linter.all false
set_option maxRecDepth 100000
set_option maxHeartbeats 1000000
/-! Part 31: told_like, going. -/
namespace Gy
open PySem PySem.Spec PyProof.Rows L2
open Evl (Ex Ev EvL EvU EvT EvA EvO rLenS rListS rMax2)
/-! ### what is told, as data -/
def pdT : Td → List PyData
  | .none => []
  | .word w => [pd w]
  | .bool b => [.bool b]
  | .refd c => [.tuple [.str "refused", .str c]]
theorem td_dp {K : PySem.W.Frag} {H : Hp} {td : Td} {xs : List V} (h : tdV H td xs) : DpAll K H xs (pdT td) := by
  cases td with
  | none => cases h; exact .nil
  | word w => obtain ⟨x, rfl, r⟩ := h; exact .cons (wr_dp r) .nil
  | bool b => cases h; exact .cons (.bl b) .nil
  | refd c => obtain ⟨t, rfl, r⟩ := h; exact .cons (.tup (SqT.of r) (.cons (.str _) (.cons (.str _) .nil))) .nil
theorem ok_refused : PyData.strOk "refused" = true := by decide +kernel
theorem ok_full : PyData.strOk "Full" = true := by decide +kernel
theorem ok_nocell : PyData.strOk "NoCell" = true := by decide +kernel
theorem ok_noslot : PyData.strOk "NoSlot" = true := by decide +kernel
theorem ref_shaped {c : Str} (h : PyData.strOk c = true) : SeqAt.shaped (.list [.tuple [.str "refused", .str c]]) = true :=
  shaped_of (by simp [PyData.canLay0, PyData.canLayAll0, h, ok_refused]) (by simp [PyData.depth, PyData.depthAll])
theorem pdT_shaped {td : Td} (h : tdOk td) : SeqAt.shaped (.list (pdT td)) = true := by
  cases td with
  | none => exact pdL_shaped []
  | word w => exact pdL_shaped [w]
  | bool b => exact shaped_of (by simp [pdT, PyData.canLay0, PyData.canLayAll0]) (by simp [pdT, PyData.depth, PyData.depthAll])
  | refd c =>
    rcases h with h | h
    · subst h; exact ref_shaped ok_nocell
    · subst h; exact ref_shaped ok_noslot
theorem pdT_refl (td : Td) : PyData.eqv (.list (pdT td)) (.list (pdT td)) = true := by
  cases td with
  | none => simp [pdT, PyData.eqv, PyData.eqvAll]
  | word w => simp [pdT, PyData.eqv, PyData.eqvAll, pd_eqv]
  | bool b => simp [pdT, PyData.eqv, PyData.eqvAll]
  | refd c => simp [pdT, PyData.eqv, PyData.eqvAll]
theorem f_is : ¬ (("is" : Str) = "refused") := by decide +kernel
theorem f_at : ¬ (("at" : Str) = "refused") := by decide +kernel
theorem f_hd : ¬ (("head" : Str) = "refused") := by decide +kernel
theorem f_nc : ¬ (("NoCell" : Str) = "Full") := by decide +kernel
theorem f_ns : ¬ (("NoSlot" : Str) = "Full") := by decide +kernel
theorem pdT_full {td : Td} (h : tdOk td) : PyData.eqv (.list (pdT td)) (.list (pdT (.refd "Full"))) = false := by
  cases td with
  | none => simp [pdT, PyData.eqv, PyData.eqvAll]
  | word w => cases w <;> simp [pdT, pd, PyData.eqv, PyData.eqvAll, f_is, f_at, f_hd]
  | bool b => simp [pdT, PyData.eqv, PyData.eqvAll]
  | refd c =>
    rcases h with h | h
    · subst h; simp [pdT, PyData.eqv, PyData.eqvAll, f_nc]
    · subst h; simp [pdT, PyData.eqv, PyData.eqvAll, f_ns]
theorem doT_ok (R : List Wd) (C : List (List Wd)) (d : Dd) : tdOk (doT R C d) := by
  cases h : doT R C d with
  | refd c => exact refd_or h
  | _ => trivial
/-- the class of what is told -/
def tyT : Td → String
  | .word .non => "NoneType"
  | .bool _ => "bool"
  | _ => "tuple"
theorem td_item {K : PySem.W.Frag} {H : Hp} {td : Td} {xs : List V} {i : Nat} {x : V} (h : tdV H td xs) (hx : xs[i]? = some x) : i = 0 ∧ (∀ H1, Ex H H1 → TyX K H1 x (.type (tyT td))) ∧ (tyT td = "tuple" → ∃ a y z r, x = .ref a ∧ H a = some (.tup (y :: z :: r)) ∧ ((∃ i, z = .int i) ∨ ∃ s, z = .str s)) := by
  have one : ∀ {y : V}, [y][i]? = some x → i = 0 ∧ y = x := fun {y} h => by
    cases i with
    | zero => exact ⟨rfl, by simpa using h⟩
    | succ i => simp at h
  cases td with
  | none => cases h; simp at hx
  | word w =>
    obtain ⟨y, rfl, r⟩ := h
    obtain ⟨e, rfl⟩ := one hx
    refine ⟨e, ?_, ?_⟩
    · cases w with
      | non => cases r; exact fun H1 _ => .base .non
      | num i => obtain ⟨t, rfl, q⟩ := r; exact fun H1 e => .base (.tup (e _ _ q))
      | ptr i => obtain ⟨t, rfl, q⟩ := r; exact fun H1 e => .base (.tup (e _ _ q))
      | head i j => obtain ⟨t, rfl, q⟩ := r; exact fun H1 e => .base (.tup (e _ _ q))
    · cases w with
      | non => intro h; exact absurd h (by decide)
      | num i => obtain ⟨t, rfl, q⟩ := r; exact fun _ => ⟨t, _, _, _, rfl, q, .inl ⟨_, rfl⟩⟩
      | ptr i => obtain ⟨t, rfl, q⟩ := r; exact fun _ => ⟨t, _, _, _, rfl, q, .inl ⟨_, rfl⟩⟩
      | head i j => obtain ⟨t, rfl, q⟩ := r; exact fun _ => ⟨t, _, _, _, rfl, q, .inl ⟨_, rfl⟩⟩
  | bool b =>
    cases h
    obtain ⟨e, rfl⟩ := one hx
    exact ⟨e, fun H1 _ => .base (.bl b), fun h => absurd (show ("bool" : String) = "tuple" from h) (by decide)⟩
  | refd c =>
    obtain ⟨t, rfl, q⟩ := h
    obtain ⟨e, rfl⟩ := one hx
    exact ⟨e, fun H1 e => .base (.tup (e _ _ q)), fun _ => ⟨t, _, _, _, rfl, q, .inr ⟨_, rfl⟩⟩⟩
section
variable {K : PySem.W.Frag} {σ : L2.St} {H : Hp} {te ta tb : TE} {x : V} {b : Bool} {g : TG} {tu : TS} {D : Ends}
theorem ev_isi {t : Value} {c : String} (h : Ev te σ H x) (ty : ∀ H1, Ex H H1 → TyX K H1 x t) (k : PySem.W.kitOne K t (.type c) = some b) : Ev (tCB (rIsi K) (tCons te (tCons (tC (.ty c)) tNil))) σ H (.bl b) := fun H1 e Q q =>
  h H1 e _ fun H2 e2 => ⟨x, .ty c, t, .type c, b, rfl, .ty c, ty H2 (e.trans e2), k, q H2 e2⟩
theorem s_forZip {a c : Addr} {xs ys : List V} (ha : Ev ta σ H (.ref a)) (hb : Ev tb σ H (.ref c)) (hx : H a = some (.lst xs)) (hy : H c = some (.lst ys)) (Pv : Nat → L2.St → Hp → Prop) (h0 : ∀ H1, Ex H H1 → Pv 0 σ H1) (hG : ∀ i σ' H', Pv i σ' H' → H' a = some (.lst xs) ∧ H' c = some (.lst ys))
    (hs : ∀ i x y σ' H' T, xs[i]? = some x → ys[i]? = some y → Pv i σ' H' → H' T = none → g (.ref T) σ' (upd H' T (.tup [x, y])) fun σ2 H2 => tu { D with nx := Pv (i + 1), ct := Pv (i + 1), bk := D.nx } σ2 H2) (hd : ∀ σ' H', Pv (min xs.length ys.length) σ' H' → D.nx σ' H') :
    tFor (iZip K (tCons ta (tCons tb tNil))) g tu D σ H :=
  ha H (Ex.refl H) _ fun H1 e1 => hb H1 e1 _ fun H2 e2 => by
    have e := e1.trans e2
    exact ⟨a, c, xs, ys, rfl, Evl.sq_of (e _ _ hx), Evl.sq_of (e _ _ hy), for_it (walk_zip rfl) Pv (h0 H2 e) (fun i σ' H' _ p => ⟨Evl.sq_of (hG i σ' H' p).1, Evl.sq_of (hG i σ' H' p).2⟩) (fun i v σ' H' H'' _ p ⟨T, x, y, ev, hT, eH, q1, q2⟩ => by
      subst ev eH
      exact hs i x y σ' H' T q1 q2 p hT) hd⟩
end
theorem kit_bool {K : PySem.W.Frag} (td : Td) : ∃ b, PySem.W.kitOne K (.type (tyT td)) (.type "bool") = some b ∧ (b = true → tyT td = "bool") := by
  cases td with
  | word w => cases w <;> exact ⟨false, rfl, nofun⟩
  | bool b => exact ⟨true, rfl, fun _ => rfl⟩
  | _ => exact ⟨false, rfl, nofun⟩
theorem kit_tup {K : PySem.W.Frag} (td : Td) : ∃ b, PySem.W.kitOne K (.type (tyT td)) (.type "tuple") = some b ∧ (b = true → tyT td = "tuple") := by
  cases td with
  | word w => cases w <;> first | exact ⟨false, rfl, nofun⟩ | exact ⟨true, rfl, fun _ => rfl⟩
  | bool b => exact ⟨false, rfl, nofun⟩
  | _ => exact ⟨true, rfl, fun _ => rfl⟩
theorem p_law_told_like {K : PySem.W.Frag} (N : Tk K) (vs : List V) (H : Hp) (Q : VK) (E : XK) (h : sp_law_told_like K vs H Q E) : t_law_told_like K { nx := fun _ H' => Q .non H', rt := Q } (start n_law_told_like vs) H := by
  obtain ⟨f, g, xs, ys, td, rfl, hf, hg, dx, dy, ok, k⟩ := h
  have hl : xs.length = ys.length := by
    have l1 : ∀ {zs : List V}, tdV H td zs → zs.length = (pdT td).length := fun {zs} h => by
      cases td with
      | none => cases h; rfl
      | word w => obtain ⟨_, rfl, _⟩ := h; rfl
      | bool b => cases h; rfl
      | refd c => obtain ⟨_, rfl, _⟩ := h; rfl
    rw [l1 dx, l1 dy]
  refine Evl.q_when (b := false) (Evl.et_or (a := false) (b := false) (Evl.et_is (Evl.et_not (Evl.et_B (ev_isi (b := true) (t := .type "list") (Evl.ev_var (v := .ref f) rfl) (fun H1 e => .base (.lst (e _ _ hf))) rfl))) rfl) fun _ => Evl.et_is (et_neI (Evl.ev_len (Evl.ev_var rfl) (Evl.sq_of hf)) (Evl.ev_len (Evl.ev_var rfl) (Evl.sq_of hg))) (by rw [hl]; simp)) nofun fun _ H1 e1 => ?_
  refine s_forZip (D := { nx := _, rt := Q }) (Evl.ev_var (v := .ref f) rfl) (Evl.ev_var (v := .ref g) rfl) (e1 _ _ hf) (e1 _ _ hg) (fun i σ' H' => ∃ v2 v3, σ' = [some (.ref f), some (.ref g), v2, v3] ∧ Ex H H') (fun H2 e2 => ⟨_, _, rfl, e1.trans e2⟩) (fun i σ' H' ⟨_, _, _, e⟩ => ⟨e _ _ hf, e _ _ hg⟩) ?_ ?_
  · rintro i x y σ' H2 T hx hy ⟨v2, v3, rfl, e2⟩ hT
    obtain ⟨_, tx, px⟩ := td_item (K := K) dx hx
    obtain ⟨_, ty, _⟩ := td_item (K := K) dy hy
    refine g_pr (Evl.st_of upd_same) _ ?_
    have e3 : Ex H (upd H2 T (.tup [x, y])) := e2.trans (ex_new hT)
    obtain ⟨b1, hb1, _⟩ := kit_bool (K := K) td
    obtain ⟨b2, hb2, p2⟩ := kit_tup (K := K) td
    have nb : ∀ {a b : Bool} {ta tb : TE} {σ : L2.St} {H : Hp}, a = b → Ev ta σ H (.bl a) → Ev tb σ H (.bl b) → EvT (tTest (tOp rNe ta tb)) σ H false := fun e h1 h2 => Evl.et_test (Evl.ev_is (Evl.ev_op h1 h2 (Evl.rv_ne rfl)) (by rw [e]; simp))
    refine Evl.q_when (b := false) (Evl.et_or (a := false) (b := false) (nb rfl (ev_isi (x := x) (Evl.ev_var rfl) (fun H3 e => tx H3 (e3.trans e)) hb1) (ev_isi (x := y) (Evl.ev_var rfl) (fun H3 e => ty H3 (e3.trans e)) hb1)) fun _ => nb rfl (ev_isi (x := x) (Evl.ev_var rfl) (fun H3 e => tx H3 (e3.trans e)) hb2) (ev_isi (x := y) (Evl.ev_var rfl) (fun H3 e => ty H3 (e3.trans e)) hb2)) nofun fun _ H4 e4 => ?_
    refine Evl.s_when (b := false) (Evl.et_is (Evl.et_and (b := false) (Evl.et_B (ev_isi (x := x) (Evl.ev_var rfl) (fun H3 e => tx H3 ((e3.trans e4).trans e)) hb2)) fun hb => ?_) (by simp)) nofun fun _ H5 e5 => ⟨_, _, rfl, (e3.trans e4).trans e5⟩
    obtain ⟨a, z0, z, r, rfl, ha, hz⟩ := px (p2 hb)
    have ez : Ev (tOp (rIxT K) (tVar 2) (tC (.int ((1 : Nat) : Int)))) (([some (.ref f), some (.ref g), some (.ref a), some y] : L2.St)) H4 z := ev_tix (Evl.ev_var rfl) Evl.ev_c ((e3.trans e4) _ _ ha) (atI_nat rfl)
    rcases hz with ⟨j, rfl⟩ | ⟨c, rfl⟩
    · exact Evl.et_B (ev_isi (t := .type "int") ez (fun H3 _ => .base (.int j)) rfl)
    · exact Evl.et_B (ev_isi (t := .type "str") ez (fun H3 _ => .base (.str c)) rfl)
  · rintro σ' H2 ⟨v2, v3, rfl, e2⟩
    refine Evl.s_ret (v := .bl true) (Evl.ev_op (Evl.ev_var (v := .ref f) rfl) (Evl.ev_var (v := .ref g) rfl) fun H3 e3 Q3 q3 => ?_) fun H3 e3 => k H3 (e2.trans e3)
    have e := e2.trans e3
    refine ⟨_, _, .lst (Evl.sq_of (e _ _ hf)) (td_dp (tdV_mono (ex_tk e) dx)), .lst (Evl.sq_of (e _ _ hg)) (td_dp (tdV_mono (ex_tk e) dy)), pdT_shaped ok, pdT_shaped ok, ?_⟩
    rw [pdT_refl]; exact q3 H3 (Ex.refl H3)
end Gy

set_option Elab.async false
set_option linter.all false
set_option maxRecDepth 100000
set_option maxHeartbeats 1000000
/-! Part 32: going. -/
namespace Gy
open PySem PySem.Spec PyProof.Rows L2
open Evl (Ex Ev EvL EvU EvT EvA EvO rLenS rListS rMax2)
section
variable {K : PySem.W.Frag} {σ : L2.St} {H : Hp} {ta tb te : TE} {t : TT} {v : V} {w : Wd}
/-- x is not None and x[0] == "at" and .. -/
theorem et_at3 {b : Bool} (h : WR H v w) (ha : Ev ta σ H v) (ht : isPtr w = true → EvT t σ H b) : EvT (tAnd (tTest (tOp rNotN ta (tC .non))) (tAnd (tTest (tOp rEq (tOp (rIxT K) ta (tC (.int 0))) (tC (.str "at")))) t)) σ H (isPtr w && b) := by
  have e : (!decide (w = .non) && (decide (tagS w = "at") && b)) = (isPtr w && b) := by rw [← tag_at, Bool.and_assoc]
  refine Evl.et_is (Evl.et_and (Evl.et_test ?_) fun hb => Evl.et_and (Evl.et_test ?_) fun hb2 => ht ?_) e
  · refine Evl.ev_is (Evl.ev_op ha Evl.ev_c (z := .bl (!decide (v = V.non))) fun H1 _ Q q => ⟨rfl, q H1 (Ex.refl H1)⟩) ?_
    rw [wr_non h]
  · have hn : w ≠ .non := fun z => by rw [z] at hb; simp at hb
    exact Evl.ev_is (Evl.ev_op (ev_tag h hn ha) Evl.ev_c (Evl.rv_eq rfl)) (by rw [dec_str])
  · rw [← tag_at, hb, hb2]; rfl
theorem el_cat {a b : Addr} {xs ys : List V} (ha : Ev ta σ H (.ref a)) (hb : Ev tb σ H (.ref b)) (hx : H a = some (.lst xs)) (hy : H b = some (.lst ys)) (hz : xs.length + ys.length ≤ 100000) : EvL (tOp rCat ta tb) σ H (xs ++ ys) := fun H1 e Q q =>
  ha H1 e _ fun H2 e2 => hb H2 (e.trans e2) _ fun H3 e3 => by
    have e03 := (e.trans e2).trans e3
    exact ⟨a, b, xs, ys, rfl, rfl, e03 _ _ hx, e03 _ _ hy, Evl.sz_of hz, fun p hp => q p _ (Evl.fresh_back (e2.trans e3) hp) ((e2.trans e3).trans (ex_new hp)) upd_same⟩
end
theorem putL_new {l : List (Nat × Int)} {a : Nat} {c : Int} (h : lookL l a = none) : (putL l a c).map (·.1) = l.map (·.1) ++ [a] := by
  have nk : a ∉ l.map (·.1) := fun q => by
    obtain ⟨c, hc⟩ := lookL_key q
    rw [h] at hc; cases hc
  unfold putL
  rw [if_neg (fun q => by
    obtain ⟨e, h1, h2⟩ := List.any_eq_true.mp q
    exact nk (List.mem_map.mpr ⟨e, h1, by simpa using h2⟩)), List.map_append]
  rfl
theorem count_one {u : Wd} {n : Nat} : ([u].count (.ptr n) : Int) = if (decide ((n : Int) = nameOf u)) = true then 1 else 0 := by
  cases u with
  | ptr m =>
    show ([Wd.ptr m].count (.ptr n) : Int) = if decide ((n : Int) = (m : Int)) = true then 1 else 0
    by_cases q : n = m
    · subst q; simp
    · rw [List.count_eq_zero.mpr (by simpa using q)]
      have : decide ((n : Int) = (m : Int)) = false := decide_eq_false (by omega)
      rw [this]; rfl
  | _ =>
    have : decide ((n : Int) = -1) = false := decide_eq_false (by omega)
    show ([_].count (Wd.ptr n) : Int) = if decide ((n : Int) = -1) = true then 1 else 0
    rw [this, List.count_eq_zero.mpr (by simp)]; rfl
theorem q_dput {σ : L2.St} {H : Hp} {tv td ty : TE} {tz : TS} {D : Ends} {d : Addr} {l : List (Nat × Int)} {a : Nat} {c : Int} (hv : Ev tv σ H (.int c)) (hd : Ev td σ H (.ref d)) (hk : Ev ty σ H (.int (a : Int))) (hl : H d = some (.dK (kvs l))) (hz : l.length ≤ 1000) (k : ∀ H1, Ex H H1 → tz D σ (upd H1 d (.dK (kvs (putL l a c))))) : tSeq (sDPut td ty tv) tz D σ H :=
  s_dput (D := { D with nx := tz D }) hv hd hk hl hz k
/-- the counts that were looked up so far -/
structure Lz (C : List (List Wd)) (R : List Wd) (G : List Nat) (u : Wd) (t : SW) (l : List (Nat × Int)) : Prop where
  no : ∀ n, lookL l n = none → t.L n = L0 R C G u n
  ys : ∀ n c, lookL l n = some c → t.L n = c
  nd : (l.map (·.1)).Nodup
  lt : ∀ a ∈ l.map (·.1), a < C.length
theorem Lz.len {C : List (List Wd)} {R : List Wd} {G : List Nat} {u : Wd} {t : SW} {l : List (Nat × Int)} (h : Lz C R G u t l) : l.length ≤ C.length := by
  have := nodup_below h.nd h.lt
  rw [List.length_map] at this; exact this
theorem Lz.put {C : List (List Wd)} {R : List Wd} {G : List Nat} {u : Wd} {t : SW} {l : List (Nat × Int)} (h : Lz C R G u t l) {n : Nat} (hn : n < C.length) {c : Int} {L' : Nat → Int} (hL : L' = ovr t.L n c) {t' : SW} (ht : t'.L = L') : Lz C R G u t' (putL l n c) := by
  refine ⟨fun m hm => ?_, fun m c' hm => ?_, ?_, fun a ha => ?_⟩
  · rw [lookL_put] at hm
    by_cases q : m = n
    · rw [if_pos q] at hm; cases hm
    · rw [if_neg q] at hm
      rw [ht, hL]; show (if m = n then c else t.L m) = _
      rw [if_neg q]; exact h.no m hm
  · rw [lookL_put] at hm
    rw [ht, hL]; show (if m = n then c else t.L m) = _
    by_cases q : m = n
    · rw [if_pos q] at hm ⊢; injection hm
    · rw [if_neg q] at hm ⊢; exact h.ys m c' hm
  · cases e : lookL l n with
    | none =>
      rw [putL_new e]
      exact List.nodup_append.mpr ⟨h.nd, by simp, fun x hx y hy z => by
        rw [List.mem_singleton.mp hy] at z
        subst z
        obtain ⟨c, hc⟩ := lookL_key hx
        rw [e] at hc; cases hc⟩
    | some c0 => rw [putL_keys (by rw [e]; exact fun z => by cases z)]; exact h.nd
  · cases e : lookL l n with
    | none =>
      rw [putL_new e] at ha
      rcases List.mem_append.mp ha with q | q
      · exact h.lt a q
      · rw [List.mem_singleton.mp q]; exact hn
    | some c0 => rw [putL_keys (by rw [e]; exact fun z => by cases z)] at ha; exact h.lt a ha
theorem p_law_going {K : PySem.W.Frag} (N : Tk K) (vs : List V) (H : Hp) (Q : VK) (E : XK) (h : sp_law_going K vs H Q E) : t_law_going K { nx := fun _ H' => Q .non H', rt := Q } (start n_law_going vs) H := by
  obtain ⟨A, R, C, G, g, v, u, rfl, hA, hg, hu, ok, ou, hC, k⟩ := h
  have si : SI R C (sw0 R C G u) := SI.sw0 ok ou
  have ml : mu C (sw0 R C G u) ≤ 401 := by
    have := mu_le si
    have e : (sw0 R C G u).wait.length = 1 := rfl
    omega
  show tSeq (tAsg tDNewK (gName 4)) _ _ _ _
  intro Ld hLd
  have e0 : Ex H (upd H Ld (.dK [])) := ex_new hLd
  have hLd1 : upd H Ld (.dK []) Ld = some (.dK []) := upd_same
  revert e0 hLd1
  generalize upd H Ld (.dK []) = H1
  intro e1 hLd1
  refine Evl.q_asgL (Evl.el_lst (ea1 (Evl.ev_var (v := v) rfl)) (by show 1 ≤ 100000; decide)) fun Lw H2 hLw e2 hLw2 => ?_
  refine Evl.q_asgL (Evl.el_lst Evl.ea_nil (by show 0 ≤ 100000; decide)) fun Lg H3 hLg e3 hLg3 => ?_
  have e13 := e2.trans e3
  have e03 := e1.trans e13
  have hLw0 := Evl.fresh_back e1 hLw
  have hLg0 := Evl.fresh_back (e1.trans e2) hLg
  have nwg : Lw ≠ Lg := fun z => by rw [z] at hLw2; rw [hLw2] at hLg; cases hLg
  refine Evl.q_while (fun m σ' H' => ∃ (i : Nat) (Lw : Addr) (v7 v8 : Option V) (xs : List V) (l : List (Nat × Int)) (went : List Nat), σ' = [some (.ref A.rl), some (.ref A.ca), some (.ref g), some v, some (.ref Ld), some (.ref Lw), some (.ref Lg), v7, v8] ∧ m = mu C (itS C i (sw0 R C G u)) ∧ Ex H H' ∧ H Lw = none ∧ Lw ≠ Lg ∧
      H' Ld = some (.dK (kvs l)) ∧ H' Lw = some (.lst xs) ∧ H' Lg = some (.lst (nsV went)) ∧ Lz C R G u (itS C i (sw0 R C G u)) l ∧ WRs H' xs (itS C i (sw0 R C G u)).wait ∧ (itS C i (sw0 R C G u)).gone = G ++ went) (mu C (sw0 R C G u))
    ⟨0, Lw, none, none, [v], [], [], rfl, rfl, e03, hLw0, nwg, e13 _ _ hLd1, e3 _ _ hLw2, hLg3, ⟨fun _ _ => rfl, nofun, .nil, nofun⟩, .cons (hu.mono (ex_tk e03)) .nil, by show G = G ++ []; simp⟩ ?_
  clear hLw2 hLw hLw0 nwg
  rintro m σ' H4 ⟨i, Lw, v7, v8, xs, l, went, rfl, rfl, e4, hw0, nwg, hd4, hx4, hg4, lz, rx4, eg⟩
  have si4 := si.it i
  have hxl : xs.length ≤ 401 := by
    rw [pr_len rx4]
    exact Nat.le_trans (it_wait si) ml
  have nld : Ld ≠ Lw := fun z => by rw [z, hx4] at hd4; cases hd4
  have ngd : Ld ≠ Lg := fun z => by rw [z, hg4] at hd4; cases hd4
  have hgl : (G ++ went).length ≤ 100 := by rw [← eg]; exact Nat.le_trans si4.ok.glen hC
  refine ⟨decide ((0 : Int) < (xs.length : Int)), et_gt (Evl.ev_len (Evl.ev_var rfl) (Evl.sq_of hx4)) Evl.ev_c, fun hb H5 e5 => ?_, fun hb H5 e5 => ?_⟩
  · have hne : xs ≠ [] := fun z => by rw [z] at hb; simp at hb
    cases hwt : (itS C i (sw0 R C G u)).wait with
    | nil => rw [hwt] at rx4; exact absurd (pr_nil rx4) hne
    | cons w r =>
      rw [hwt] at rx4
      obtain ⟨x, xr, rfl, rx, rxr⟩ := pr_consR rx4
      have mstep := mu_step si4 (by rw [hwt]; exact fun z => by cases z)
      have okw : OkW C (itS C i (sw0 R C G u)).gone w := si4.wt w (by rw [hwt]; exact List.mem_cons_self)
      refine ⟨fun σ' H' => ∃ (Lw : Addr) (v7 v8 : Option V) (xs : List V) (l : List (Nat × Int)) (went : List Nat), σ' = [some (.ref A.rl), some (.ref A.ca), some (.ref g), some v, some (.ref Ld), some (.ref Lw), some (.ref Lg), v7, v8] ∧ Ex H H' ∧ H Lw = none ∧ Lw ≠ Lg ∧
        H' Ld = some (.dK (kvs l)) ∧ H' Lw = some (.lst xs) ∧ H' Lg = some (.lst (nsV went)) ∧ Lz C R G u (stepS C (itS C i (sw0 R C G u))) l ∧ WRs H' xs (stepS C (itS C i (sw0 R C G u))).wait ∧ (stepS C (itS C i (sw0 R C G u))).gone = G ++ went, ?_, ?_⟩
      · rintro σ3 H6 ⟨Lw, v7, v8, xs, l, went, rfl, h1⟩
        exact ⟨mu C (itS C (i + 1) (sw0 R C G u)), by show mu C (stepS C (itS C i (sw0 R C G u))) < _; omega, i + 1, Lw, v7, v8, xs, l, went, rfl, rfl, h1⟩
      refine e_popAt0 (Evl.ev_var rfl) (e5 _ _ hx4) fun H6 e6 => ?_
      have e46 := e5.trans e6
      have t7 : TK H6 (upd H6 Lw (.lst xr)) := tk_upd fun q w => by rw [e46 _ _ hx4] at w; cases w
      have e7 : Ex H (upd H6 Lw (.lst xr)) := (e4.trans e46).mut hw0
      have hd7 : upd H6 Lw (.lst xr) Ld = some (.dK (kvs l)) := by rw [upd_ne nld]; exact e46 _ _ hd4
      have hx7 : upd H6 Lw (.lst xr) Lw = some (.lst xr) := upd_same
      have hg7 : upd H6 Lw (.lst xr) Lg = some (.lst (nsV went)) := by rw [upd_ne nwg.symm]; exact e46 _ _ hg4
      have rx7 := (rx.mono (ex_tk e46)).mono t7
      have rxr7 := WRs.mono t7 (WRs.mono (ex_tk e46) rxr)
      revert e7 hd7 hx7 hg7 rx7 rxr7
      generalize upd H6 Lw (.lst xr) = H7
      intro e7 hd7 hx7 hg7 rx7 rxr7
      have hg7' := e7 _ _ hg
      refine Evl.s_when (et_at3 (b := true) rx7 (Evl.ev_var rfl) fun hp => ?_) (fun hb H8 e8 => ?_) (fun hb H8 e8 => ?_)
      · obtain ⟨n, rfl⟩ := isPtr_of hp
        have hl : Live C (itS C i (sw0 R C G u)).gone n := okw
        refine Evl.et_test (Evl.ev_opL (xs := nsV G ++ nsV went) (ev_ptr rx7 (Evl.ev_var rfl)) (el_cat (Evl.ev_var rfl) (Evl.ev_var rfl) hg7' hg7 (by rw [nsV_len, nsV_len, ← List.length_append]; omega)) fun p H8 hp8 e8 => ?_)
        have hin : inV (.int (n : Int)) (nsV G ++ nsV went) = false := by
          rw [← nsV_app, inV_ns]
          exact decide_eq_false (by rw [← eg]; exact hl.2)
        have := Evl.rv_niL (K := K) (x := .int (n : Int)) (Evl.sq_of hp8) rfl (by rw [← nsV_app]; exact ns_flat _)
        rw [hin] at this
        exact this
      · have hp : isPtr w = true := by rw [Bool.and_true] at hb; exact hb
        obtain ⟨n, rfl⟩ := isPtr_of hp
        have hl : Live C (itS C i (sw0 R C G u)).gone n := okw
        have hlG : Live C G n := by rw [eg] at hl; exact hl.apps
        have rx8 := rx7.mono (ex_tk e8)
        refine Evl.q_asg (ev_ptr rx8 (Evl.ev_var rfl)) fun H9 e9 => ?_
        have e79 := e8.trans e9
        have hd9 := e79 _ _ hd7
        have hx9 := e79 _ _ hx7
        have hg9 := e79 _ _ hg7
        have e9' := e7.trans e79
        have t79 := ex_tk e79
        have hs := step_ptr (C := C) hwt
        have hsg := hl.1
        have ggl := (si4.ok).glen
        -- the count is there
        have tail : ∀ {D : Ends} {H10 : Hp} {l1 : List (Nat × Int)}, (∀ (σ' : L2.St) (H' : Hp), (∃ (Lw : Addr) (v7 v8 : Option V) (xs : List V) (l : List (Nat × Int)) (went : List Nat), σ' = [some (.ref A.rl), some (.ref A.ca), some (.ref g), some v, some (.ref Ld), some (.ref Lw), some (.ref Lg), v7, v8] ∧ Ex H H' ∧ H Lw = none ∧ Lw ≠ Lg ∧
                H' Ld = some (.dK (kvs l)) ∧ H' Lw = some (.lst xs) ∧ H' Lg = some (.lst (nsV went)) ∧ Lz C R G u (stepS C (itS C i (sw0 R C G u))) l ∧ WRs H' xs (stepS C (itS C i (sw0 R C G u))).wait ∧ (stepS C (itS C i (sw0 R C G u))).gone = G ++ went) → D.nx σ' H') →
            Ex H H10 → H10 Ld = some (.dK (kvs l1)) → H10 Lw = some (.lst xr) → H10 Lg = some (.lst (nsV went)) → TK H7 H10 → Lz C R G u (itS C i (sw0 R C G u)) l1 → lookL l1 n = some ((itS C i (sw0 R C G u)).L n) →
            tSeq (sDPut (tVar 4) (tVar 8) (tOp rSubI (tDGet (tVar 4) (tVar 8)) (tC (.int 1)))) (tIfS (tTest (tOp rEq (tDGet (tVar 4) (tVar 8)) (tC (.int 0)))) (tSeq (tDrop (tBM K "list" rAppend (tVar 6) (tCons (tVar 8) tNil))) (tAsg (tOp rCat (tVar 5) (tOp (rIxL K) (tVar 1) (tVar 8))) (gName 5))) tNext) D
            [some (.ref A.rl), some (.ref A.ca), some (.ref g), some v, some (.ref Ld), some (.ref Lw), some (.ref Lg), some x, some (.int (n : Int))] H10 := by
          intro D H10 l1 hD e10 hd10 hx10 hg10 t10 lz1 hc
          refine q_dput (ev_sub (ev_dget (v := .int ((itS C i (sw0 R C G u)).L n)) (Evl.ev_var rfl) (Evl.ev_var rfl) hd10 (by rw [kvs_look, hc]; rfl)) Evl.ev_c) (Evl.ev_var rfl) (Evl.ev_var rfl) hd10 (by have := lz1.len; omega) fun H11 e11 => ?_
          have t12 : TK H11 (upd H11 Ld (.dK (kvs (putL l1 n ((itS C i (sw0 R C G u)).L n - 1))))) := tk_upd fun q w => by rw [e11 _ _ hd10] at w; cases w
          have e12 : Ex H (upd H11 Ld (.dK (kvs (putL l1 n ((itS C i (sw0 R C G u)).L n - 1))))) := (e10.trans e11).mut hLd
          have hd12 : upd H11 Ld (.dK (kvs (putL l1 n ((itS C i (sw0 R C G u)).L n - 1)))) Ld = some (.dK (kvs (putL l1 n ((itS C i (sw0 R C G u)).L n - 1)))) := upd_same
          have hx12 : upd H11 Ld (.dK (kvs (putL l1 n ((itS C i (sw0 R C G u)).L n - 1)))) Lw = some (.lst xr) := by rw [upd_ne nld.symm]; exact e11 _ _ hx10
          have hg12 : upd H11 Ld (.dK (kvs (putL l1 n ((itS C i (sw0 R C G u)).L n - 1)))) Lg = some (.lst (nsV went)) := by rw [upd_ne ngd.symm]; exact e11 _ _ hg10
          have rx12 := WRs.mono t12 (WRs.mono (ex_tk e11) (WRs.mono t10 rxr7))
          revert e12 hd12 hx12 hg12 rx12
          generalize upd H11 Ld (.dK (kvs (putL l1 n ((itS C i (sw0 R C G u)).L n - 1)))) = H12
          intro e12 hd12 hx12 hg12 rx12
          have hl2 : lookL (putL l1 n ((itS C i (sw0 R C G u)).L n - 1)) n = some ((itS C i (sw0 R C G u)).L n - 1) := by rw [lookL_put, if_pos rfl]
          refine Evl.s_when (et_eqI (ev_dget (v := .int ((itS C i (sw0 R C G u)).L n - 1)) (Evl.ev_var rfl) (Evl.ev_var rfl) hd12 (by rw [kvs_look, hl2]; rfl)) Evl.ev_c) (fun hz H13 e13 => ?_) (fun hz H13 e13 => ?_)
          · have hz := of_decide_eq_true hz
            rw [if_pos hz] at hs
            have wl : went.length ≤ 100 := by rw [List.length_append] at hgl; omega
            refine e_app (Evl.ev_var rfl) (e13 _ _ hg12) (evp_of (Evl.ev_var rfl)) (by rw [nsV_len]; omega) fun y H14 e14 hy => ?_
            subst hy
            have e24 := e13.trans e14
            have t15 : TK H14 (upd H14 Lg (.lst (nsV went ++ [.int (n : Int)]))) := tk_upd fun q w => by rw [e24 _ _ hg12] at w; cases w
            have e15 : Ex H (upd H14 Lg (.lst (nsV went ++ [.int (n : Int)]))) := (e12.trans e24).mut hLg0
            have hd15 : upd H14 Lg (.lst (nsV went ++ [.int (n : Int)])) Ld = some (.dK (kvs (putL l1 n ((itS C i (sw0 R C G u)).L n - 1)))) := by rw [upd_ne ngd]; exact e24 _ _ hd12
            have hx15 : upd H14 Lg (.lst (nsV went ++ [.int (n : Int)])) Lw = some (.lst xr) := by rw [upd_ne nwg]; exact e24 _ _ hx12
            have hg15 : upd H14 Lg (.lst (nsV went ++ [.int (n : Int)])) Lg = some (.lst (nsV (went ++ [n]))) := by rw [upd_same, nsV_app]; rfl
            have rx15 := WRs.mono t15 (WRs.mono (ex_tk e24) rx12)
            revert e15 hd15 hx15 hg15 rx15
            generalize upd H14 Lg (.lst (nsV went ++ [.int (n : Int)])) = H15
            intro e15 hd15 hx15 hg15 rx15
            obtain ⟨a, ha, ⟨ys, hys, rys⟩, ea⟩ := (hA.ex e15).ecell (K := K) (ta := tVar 1) (tb := tVar 8) (σ := [some (.ref A.rl), some (.ref A.ca), some (.ref g), some v, some (.ref Ld), some (.ref Lw), some (.ref Lg), some x, some (.int (n : Int))]) hsg (Evl.ev_var rfl) (Evl.ev_var rfl)
            have hyl := pr_len rys
            have z4 := ok.z4 n
            rw [List.length_cons] at hxl
            refine Evl.s_asgL (el_cat (Evl.ev_var (v := .ref Lw) rfl) ea hx15 hys (by omega)) fun p H16 hp e16 hp16 => hD _ _ ?_
            have np : p ≠ Lg := fun z => by rw [z, hg15] at hp; cases hp
            rw [hs]
            exact ⟨p, _, _, _, _, went ++ [n], rfl, e15.trans e16, Evl.fresh_back e15 hp, np, e16 _ _ hd15, hp16, e16 _ _ hg15, lz1.put hsg rfl rfl, WRs.mono (ex_tk e16) (pr_app rx15 rys), by show _ ++ [n] = _; rw [eg, List.append_assoc]⟩
          · have hz := of_decide_eq_false hz
            rw [if_neg hz] at hs
            refine hD _ _ ?_
            rw [hs]
            exact ⟨Lw, _, _, xr, _, went, rfl, e12.trans e13, hw0, nwg, e13 _ _ hd12, e13 _ _ hx12, e13 _ _ hg12, lz1.put hsg rfl rfl, WRs.mono (ex_tk e13) rx12, eg⟩
        have tn : EvT (tB (tDNotIn (tVar 8) (tVar 4))) [some (.ref A.rl), some (.ref A.ca), some (.ref g), some v, some (.ref Ld), some (.ref Lw), some (.ref Lg), some x, some (.int (n : Int))] H9 (!(lookL l n).isSome) := fun H10 e10 Q q => by
          refine ⟨_, rfl, _, rfl, Ld, _, rfl, DGet.k (k := (Sum.inl (n : Int) : Key)) (e10 _ _ hd9), _, rfl, ?_⟩
          rw [kvs_look]
          have : ((lookL l n).map V.int).isSome = (lookL l n).isSome := by cases lookL l n <;> rfl
          rw [this]
          exact q H10 (Ex.refl H10)
        refine Evl.q_when tn (fun hb H10 e10 => ?_) (fun hb H10 e10 => ?_)
        · have hno : lookL l n = none := by
            cases q : lookL l n with
            | none => rfl
            | some c => rw [q] at hb; cases hb
          have e10' := e9'.trans e10
          have ev1 : Ev (tCall (sp_law_count K) [] E0 (tCons (tVar 0) (tCons (tVar 1) (tCons (tVar 2) (tCons (tVar 8) tNil))))) [some (.ref A.rl), some (.ref A.ca), some (.ref g), some v, some (.ref Ld), some (.ref Lw), some (.ref Lg), some x, some (.int (n : Int))] H10 (.int ((cnt R C G n : Nat) : Int)) :=
            ev_of (evp_call (Evl.ea_cons (Evl.ev_var rfl) (ea3 (Evl.ev_var rfl) (Evl.ev_var rfl) (Evl.ev_var rfl))) fun H11 e11 Q q => ⟨A, R, C, G, g, n, rfl, hA.ex (e10'.trans e11), (e10'.trans e11) _ _ hg, hC, fun H12 e12 => q _ H12 e12 rfl⟩)
          have ev2 : Ev (tCall (sp_law_name K) [] E0 (tCons (tVar 3) tNil)) [some (.ref A.rl), some (.ref A.ca), some (.ref g), some v, some (.ref Ld), some (.ref Lw), some (.ref Lg), some x, some (.int (n : Int))] H10 (.int (nameOf u)) :=
            ev_of (evp_call (ea1 (Evl.ev_var rfl)) fun H11 e11 Q q => ⟨v, u, rfl, hu.mono (ex_tk (e10'.trans e11)), fun H12 e12 => q _ H12 e12 rfl⟩)
          have ev3 : Ev (tOp rEq (tVar 8) (tCall (sp_law_name K) [] E0 (tCons (tVar 3) tNil))) [some (.ref A.rl), some (.ref A.ca), some (.ref g), some v, some (.ref Ld), some (.ref Lw), some (.ref Lg), some x, some (.int (n : Int))] H10 (.bl (decide ((n : Int) = nameOf u))) :=
            Evl.ev_is (Evl.ev_op (Evl.ev_var rfl) ev2 (Evl.rv_eq rfl)) (by rw [dec_int])
          have eL : (cnt R C G n : Int) + (if decide ((n : Int) = nameOf u) = true then 1 else 0) = (itS C i (sw0 R C G u)).L n := by
            rw [lz.no n hno, ← count_one]
            unfold L0; omega
          refine s_dput (ev_int (ev_add ev1 (ev_int1 ev3)) eL) (Evl.ev_var rfl) (Evl.ev_var rfl) (e10 _ _ hd9) (by have := lz.len; omega) fun H11 e11 => ?_
          have t12 : TK H11 (upd H11 Ld (.dK (kvs (putL l n ((itS C i (sw0 R C G u)).L n))))) := tk_upd fun q w => by rw [(e10.trans e11) _ _ hd9] at w; cases w
          refine tail (fun _ _ z => z) ((e10'.trans e11).mut hLd) upd_same (by rw [upd_ne nld.symm]; exact (e10.trans e11) _ _ hx9) (by rw [upd_ne ngd.symm]; exact (e10.trans e11) _ _ hg9) ((t79.trans (ex_tk (e10.trans e11))).trans t12) (lz.put hsg (funext fun m => ?_) rfl) (by rw [lookL_put, if_pos rfl])
          show _ = if m = n then _ else _
          by_cases q : m = n
          · subst q; rw [if_pos rfl]
          · rw [if_neg q]
        · have hsome : lookL l n = some ((itS C i (sw0 R C G u)).L n) := by
            cases q : lookL l n with
            | none => rw [q] at hb; cases hb
            | some c => rw [lz.ys n c q]
          exact tail (fun _ _ z => z) (e9'.trans e10) (e10 _ _ hd9) (e10 _ _ hx9) (e10 _ _ hg9) (t79.trans (ex_tk e10)) lz hsome
      · have hp : isPtr w = false := by rw [Bool.and_true] at hb; exact hb
        rw [step_other hwt hp]
        exact ⟨Lw, _, _, xr, l, went, rfl, e7.trans e8, hw0, nwg, e8 _ _ hd7, e8 _ _ hx7, e8 _ _ hg7, ⟨lz.no, lz.ys, lz.nd, lz.lt⟩, WRs.mono (ex_tk e8) rxr7, eg⟩
  · have hx0 : xs.length = 0 := by
      have := of_decide_eq_false hb
      omega
    have hwt : (itS C i (sw0 R C G u)).wait = [] := by
      have := pr_len rx4
      exact List.eq_nil_of_length_eq_zero (by omega)
    refine Evl.s_ret (Evl.ev_var rfl) fun H6 e6 => k H6 Lg went ((e4.trans e5).trans e6) hLg0 (e6 _ _ (e5 _ _ hg4)) ?_
    unfold swp
    rw [← swp_eq si hwt]; exact eg
end Gy

set_option Elab.async false
set_option linter.all false
set_option maxRecDepth 100000
set_option maxHeartbeats 1000000
/-! Part 33: the law's done. -/
namespace Gy
open PySem PySem.Spec PyProof.Rows L2
open Evl (Ex Ev EvL EvU EvT EvA EvO rLenS rListS rMax2)
theorem q_call2 {sp : Sp} {E : XK} {ta tb : TE} {σ : L2.St} {H : Hp} {v w : V} {i : Nat} {tz : TS} {D : Ends} (ha : Ev ta σ H v) (hb : Ev tb σ H w) (k : ∀ H1, Ex H H1 → sp [v, w] H1 (fun x H2 => tz D (σ.set i (some x)) H2) E) : tSeq (tAsg (tCall sp [] E (tCons ta (tCons tb tNil))) (gName i)) tz D σ H :=
  ha H (Ex.refl H) _ fun H1 e1 => hb H1 e1 _ fun H2 e2 => k H2 (e1.trans e2)
theorem r_call {sp : Sp} {E : XK} {ta tb : TE} {σ : L2.St} {H : Hp} {v : V} {D : Ends} (ha : Ev ta σ H v) (k : ∀ H1, Ex H H1 → tb σ H1 fun w H2 => sp [v, w] H2 D.rt E) : tRet (tCall sp [] E (tCons ta (tCons tb tNil))) D σ H :=
  ha H (Ex.refl H) _ fun H1 e1 => k H1 e1
theorem c_call3 {sp : Sp} {E : XK} {ta tb tc : TE} {σ : L2.St} {H : Hp} {v w x : V} {Q : VK} (ha : Ev ta σ H v) (hb : Ev tb σ H w) (hc : Ev tc σ H x) (k : ∀ H1, Ex H H1 → sp [v, w, x] H1 Q E) : tCall sp [] E (tCons ta (tCons tb (tCons tc tNil))) σ H Q :=
  ha H (Ex.refl H) _ fun H1 e1 => hb H1 e1 _ fun H2 e2 => hc H2 (e1.trans e2) _ fun H3 e3 => k H3 ((e1.trans e2).trans e3)
/-- the yard's own lists are none of the law's -/
theorem al_far {K : PySem.W.Frag} {Y : YA} {A : LA} {H : Hp} {s : YS} (h : YAt K Y H s) (e : Y.al = A.m) : ∀ b, A.m b → ¬ Y.own b := fun b hb => (h.als b (by rw [e]; exact hb)).2
/-- behind the law's do the yard stands -/
theorem yard_out {K : PySem.W.Frag} {Y : YA} {A A' : LA} {H H' : Hp} {s : YS} {R : List Wd} {C : List (List Wd)} (h : YAt K Y H s) (e : Y.al = A.m) (k : Keep A.m H H') (t : TK H H') (r1 : A'.rl = A.rl) (r2 : A'.ca = A.ca) (r3 : ∀ b ∈ A'.cs, b ∈ A.cs ∨ H b = none) (l : LAt H' A' R C) : YAt K { Y with al := A'.m } H' s := by
  refine h.out (by rw [e]; exact k) t fun b hb => ⟨?_, ?_⟩
  · rw [e]
    rcases hb with q | q | q
    · exact .inl (.inl (by rw [q, r1]))
    · exact .inl (.inr (.inl (by rw [q, r2])))
    · rcases r3 b q with z | z
      · exact .inl (.inr (.inr z))
      · exact .inr z
  · obtain ⟨xs, hx⟩ := l.got hb
    rw [hx]; exact fun z => by cases z
theorem p_law_done {K : PySem.W.Frag} (N : Tk K) (vs : List V) (H : Hp) (Q : VK) (E : XK) (h : sp_law_done K vs H Q E) : t_law_done K { nx := fun _ H' => Q .non H', rt := Q } (start n_law_done vs) H := by
  obtain ⟨Y, A, pos, R, C, G, v, d, rfl, hal, at0, hA, hd, od, hC, k1, k2⟩ := h
  obtain ⟨sy, hy0, st0, _⟩ := at0
  have at0 : At K Y H pos R C G := ⟨sy, hy0, st0, by assumption⟩
  have ok := st0.ok
  refine q_call2 (Evl.ev_var (v := .ref Y.p) rfl) (Evl.ev_var (v := v) rfl) fun H1 e1 => ?_
  have at1 := at0.ex e1
  have hm : ∀ b, A.m b → ¬ Y.own b := al_far hy0 hal
  -- the law's own deed, told alike
  have rest : ∀ {H2 H3 : Hp} {s : YS} {td : Td} {f : Addr} {xs : List V}, Yd K Y H H2 s → Ex H2 H3 → H f = none → H2 f = some (.lst xs) → tdV H2 td xs → doT R C d = td →
      (∀ H' A', Keep (fun b => Y.own b ∨ A.m b) H H' → TK H H' → A'.rl = A.rl → A'.ca = A.ca → (∀ b ∈ A'.cs, b ∈ A.cs ∨ H b = none) → YAt K { Y with al := A'.m } H' s → LAt H' A' (doR R C d) (doC R C d) → Q (.bl true) H') →
      tRet (tCall (sp_law_told_like K) [] E0 (tCons (tVar 4) (tCons (tCall (sp_law_do K) [] E0 (tCons (tVar 1) (tCons (tVar 2) (tCons (tVar 3) tNil)))) tNil))) { nx := fun _ H' => Q .non H', rt := Q } [some (.ref Y.p), some (.ref A.rl), some (.ref A.ca), some v, some (.ref f)] H3 := by
    intro H2 H3 s td f xs y2 e3 hf0 hf2 dx ed fin
    have y3 := y2.ex e3
    have hA3 : LAt H3 A R C := hA.keep y3.kp y3.tk hm
    refine r_call (Evl.ev_var rfl) fun H4 e4 => ?_
    have y4 := y3.ex e4
    refine c_call3 (Evl.ev_var (v := .ref A.rl) rfl) (Evl.ev_var (v := .ref A.ca) rfl) (Evl.ev_var (v := v) rfl) fun H5 e5 => ?_
    have y5 := y4.ex e5
    have e25 := e3.trans (e4.trans e5)
    have hA5 : LAt H5 A R C := hA.keep y5.kp y5.tk hm
    refine ⟨A, R, C, G, v, d, rfl, hA5, hd.mono y5.tk, od, ok, by omega, fun v' H6 A' kp tk l6 r1 r2 r3 td6 => ?_⟩
    obtain ⟨g, ys, rfl, hg0, hg6, dy⟩ := td6
    have nf : ¬ A.m f := fun z => by
      obtain ⟨zs, hz⟩ := hA.got z
      rw [hz] at hf0; cases hf0
    have hf6 : H6 f = some (.lst xs) := kp _ _ (e25 _ _ hf2) nf
    have t26 : TK H2 H6 := (ex_tk e25).trans tk
    have nfo : ¬ Y.own f := (hy0.new hf0).1
    rw [ed] at dy
    refine ⟨f, g, xs, ys, td, rfl, hf6, hg6, tdV_mono t26 dx, dy, by rw [← ed]; exact doT_ok R C d, fun H7 e7 => ?_⟩
    have y6 := yard_out y5.at_ hal kp tk r1 r2 r3 l6
    refine fin H7 A' (((y5.kp.mono fun a h => .inl h).trans (kp.mono fun a h => .inr h)).trans (Keep.ex e7)) ((y5.tk.trans tk).trans (ex_tk e7)) r1 r2 (fun b hb => (r3 b hb).imp id fun z => y5.back z) (y6.ex e7) (l6.ex e7)
  -- not Full
  have tno : ∀ {H2 : Hp} {td : Td} {f : Addr} {xs : List V}, H2 f = some (.lst xs) → tdV H2 td xs → tdOk td → EvT (tTest (tOp (rEqD K) (tVar 4) (tLst (tCons (tTup (tCons (tC (.str "refused")) (tCons (tC (.str "Full")) tNil))) tNil)))) [some (.ref Y.p), some (.ref A.rl), some (.ref A.ca), some v, some (.ref f)] H2 false := by
    intro H2 td f xs hf dx ok
    refine Evl.et_test (ev_of (evp_op (evp_of (Evl.ev_var (v := .ref f) rfl)) (evp_refd (c := "Full")) fun x y H3 H4 e3 hx e4 hy Q4 q4 => ?_))
    subst hx
    obtain ⟨l, ys, rfl, _, hl, dy⟩ := hy
    refine ⟨_, _, .lst (Evl.sq_of (e4 _ _ (e3 _ _ hf))) (td_dp (tdV_mono (ex_tk (e3.trans e4)) dx)), .lst (Evl.sq_of hl) (td_dp dy), pdT_shaped ok, ref_shaped ok_full, ?_⟩
    rw [pdT_full ok]
    exact q4 _ H4 (Ex.refl H4) rfl
  refine ⟨Y, pos, R, C, G, v, d, rfl, at1, hd.mono (ex_tk e1), od, by omega, fun v' H2 a td => ?_, fun m v' H2 td' g ht td => ?_⟩
  · obtain ⟨s, pos', y, hl, st⟩ := a.pre at0 e1
    obtain ⟨f, xs, rfl, hf0, hf2, dx⟩ := td
    have hf0' := Evl.fresh_back e1 hf0
    refine Evl.q_when (b := false) (tno hf2 dx (doT_ok R C d)) nofun fun _ H3 e3 => ?_
    exact rest y e3 hf0' hf2 dx rfl fun H' A' p1 p2 p3 p4 p5 p6 p7 => k1 H' A' s pos' p1 p2 p3 p4 p5 p6 hl st p7
  · obtain ⟨s, X, y, hl, hg⟩ := g.pre at0 e1
    obtain ⟨f, xs, rfl, hf0, hf2, dx⟩ := td
    have hf0' := Evl.fresh_back e1 hf0
    rcases ht with q | q
    · subst q
      refine Evl.q_when (b := false) (tno hf2 dx trivial) nofun fun _ H3 e3 => ?_
      have ed : doT R C d = .none := by cases d <;> first | rfl | cases m
      exact rest y e3 hf0' hf2 dx ed fun H' A' p1 p2 p3 p4 p5 p6 p7 => k2 m H' A' s X _ _ p1 p2 p3 p4 p5 p6 hl hg p7 (.inr ⟨rfl, rfl⟩)
    · subst q
      refine Evl.q_when (b := true) (Evl.et_test (ev_of (evp_op (P := fun x _ => x = .bl true) (evp_of (Evl.ev_var (v := .ref f) rfl)) (evp_refd (c := "Full")) fun x y H3 H4 e3 hx e4 hy Q4 q4 => ?_))) (fun _ H3 e3 => ?_) nofun
      · subst hx
        obtain ⟨l, ys, rfl, _, hl, dy⟩ := hy
        refine ⟨_, _, .lst (Evl.sq_of (e4 _ _ (e3 _ _ hf2))) (td_dp (tdV_mono (ex_tk (e3.trans e4)) dx)), .lst (Evl.sq_of hl) (td_dp dy), ref_shaped ok_full, ref_shaped ok_full, ?_⟩
        rw [pdT_refl]
        exact q4 _ H4 (Ex.refl H4) rfl
      · have y3 := y.ex e3
        have ek : decide (dkind d = "make") = true := by cases d <;> first | rfl | cases m
        refine Evl.s_ret (ev_eqS (ev_kind (hd.mono y3.tk) (Evl.ev_var (v := v) rfl))) fun H4 e4 => ?_
        rw [ek]
        have y4 := y3.ex e4
        have hA4 : LAt H4 A R C := hA.keep y4.kp y4.tk hm
        exact k2 m H4 A s X R C (y4.kp.mono fun a h => .inl h) y4.tk rfl rfl (fun b hb => .inl hb) (by rw [← hal]; exact y4.at_) hl hg hA4 (.inl ⟨rfl, rfl⟩)
end Gy

set_option Elab.async false
set_option linter.all false
set_option maxRecDepth 100000
set_option maxHeartbeats 1000000
/-! Part 34: a deed by names, its own laws. -/
namespace Gy
open PySem PySem.Spec PyProof.Rows L2
open Evl (Ex Ev EvL EvU EvT EvA EvO rLenS rListS rMax2)
theorem lets_none {R : List Wd} {C : List (List Wd)} {d : Dd} (h : lets R C d = none) : doR R C d = R ∧ doC R C d = C := by
  cases d with
  | put k i o =>
    cases e : ledTo R C k i with
    | none => exact ⟨rfl, (put_no e).2.1⟩
    | some n => rw [(put_yes e).2.2] at h; cases h
  | take t k i =>
    cases e : ledTo R C k i with
    | none => exact ⟨(take_no e).2.1, rfl⟩
    | some n => rw [(take_yes e).2.2] at h; cases h
  | tell k => exact ⟨rfl, rfl⟩
  | same k o => exact ⟨rfl, rfl⟩
  | make k z => cases h
  | number k i => cases h
  | clear k => cases h
  | copy t o => cases h
theorem led_some {R : List Wd} {C : List (List Wd)} {k i n : Nat} (h : ledTo R C k i = some n) : rg R k = .ptr n ∧ i < (cl C n).length := by
  unfold ledTo at h
  cases e : rg R k with
  | ptr m =>
    rw [e] at h
    by_cases q : i < (cl C m).length
    · simp only [q, if_true] at h
      injection h with h
      subst h
      exact ⟨rfl, q⟩
    · simp only [q, if_false] at h
      cases h
  | _ => rw [e] at h; cases h
theorem step_ok {R : List Wd} {C : List (List Wd)} {G : List Nat} {d : Dd} {u : Wd} (ok : OkS R C G) (od : OkD d) (h : lets R C d = some u) : OkS (doR R C d) (doC R C d) G ∧ OkW (doC R C d) G u := by
  cases d with
  | make k z =>
    injection h with h
    subst h
    have o1 := ok.make (z := z) od.2
    exact ⟨o1.root (k := k) (w := .ptr C.length) ⟨by rw [List.length_append, List.length_singleton]; omega, fun q => absurd (ok.gl _ q) (Nat.lt_irrefl _)⟩, (rg_ok ok od.1).make⟩
  | number k i => injection h with h; subst h; exact ⟨ok.root (w := .num i) od.2, rg_ok ok od.1⟩
  | clear k => injection h with h; subst h; exact ⟨ok.root (w := .non) trivial, rg_ok ok od⟩
  | copy t o => injection h with h; subst h; exact ⟨ok.root (rg_ok ok od.2), rg_ok ok od.1⟩
  | put k i o =>
    cases e : ledTo R C k i with
    | none => rw [(put_no e).2.2] at h; cases h
    | some n =>
      rw [(put_yes e).2.2] at h
      injection h with h
      subst h
      obtain ⟨h1, h2⟩ := led_some e
      have hl : Live C G n := by have := rg_ok ok od.1; rw [h1] at this; exact this
      rw [(put_yes e).2.1]
      exact ⟨ok.slot hl (rg_ok ok od.2), (ok.cc n hl _ (List.mem_of_getElem? (sg_get h2))).set⟩
  | take t k i =>
    cases e : ledTo R C k i with
    | none => rw [(take_no e).2.2] at h; cases h
    | some n =>
      rw [(take_yes e).2.2] at h
      injection h with h
      subst h
      obtain ⟨h1, h2⟩ := led_some e
      have hl : Live C G n := by have := rg_ok ok od.2; rw [h1] at this; exact this
      rw [(take_yes e).2.1]
      exact ⟨ok.root (ok.cc n hl _ (List.mem_of_getElem? (sg_get h2))), rg_ok ok od.1⟩
  | tell k => cases h
  | same k o => cases h
/-- nothing changed: nothing goes -/
theorem same_gone {R : List Wd} {C : List (List Wd)} {G : List Nat} {d : Dd} (ok : OkS R C G) (od : OkD d) (h1 : doR R C d = R) (h2 : (doC R C d).take C.length = C) : goneD R C G d = G := by
  unfold goneD
  cases hu : lets R C d with
  | none => rfl
  | some u =>
    obtain ⟨o1, o2⟩ := step_ok ok od hu
    refine swp_same o1 o2 fun n hn => ?_
    have inR : ∀ {k : Nat}, k < 8 → u = rg R k → 0 < cnt (doR R C d) (doC R C d) G n := fun {k} hk e => by
      have hm : Wd.ptr n ∈ R := by rw [← hn, e]; exact List.mem_of_getElem? (rg_get (by rw [ok.r8]; exact hk))
      rw [h1]
      have := List.count_pos_iff.mpr hm
      unfold cnt; omega
    cases d with
    | make k z => injection hu with hu; exact inR od.1 hu.symm
    | number k i => injection hu with hu; exact inR od.1 hu.symm
    | clear k => injection hu with hu; exact inR od hu.symm
    | copy t o => injection hu with hu; exact inR od.1 hu.symm
    | take t k i =>
      cases e : ledTo R C k i with
      | none => rw [(take_no e).2.2] at hu; cases hu
      | some m => rw [(take_yes e).2.2] at hu; injection hu with hu; exact inR od.1 hu.symm
    | put k i o =>
      cases e : ledTo R C k i with
      | none => rw [(put_no e).2.2] at hu; cases hu
      | some m =>
        rw [(put_yes e).2.2] at hu
        injection hu with hu
        obtain ⟨q1, q2⟩ := led_some e
        have hl : Live C G m := by have := rg_ok ok od.1; rw [q1] at this; exact this
        have hlen : (doC R C (.put k i o)).length = C.length := by rw [(put_yes e).2.1, List.length_set]
        have eC : doC R C (.put k i o) = C := by rw [List.take_of_length_le (by omega)] at h2; exact h2
        have hm : Wd.ptr n ∈ cl C m := by rw [← hn, ← hu]; exact List.mem_of_getElem? (sg_get q2)
        rw [eC]
        have : 0 < cntC C G n := csum_pos hl.1 (by unfold cellN; rw [if_neg hl.2]; exact List.count_pos_iff.mpr hm)
        unfold cnt; omega
    | tell k => cases hu
    | same k o => cases hu
theorem doC_len {R : List Wd} {C : List (List Wd)} (d : Dd) : (doC R C d).length ≤ C.length + 1 := by
  cases d with
  | make k z => show (C ++ [_]).length ≤ _; rw [List.length_append]; exact Nat.le_refl _
  | put k i o =>
    cases e : ledTo R C k i with
    | none => rw [(put_no e).2.1]; omega
    | some m => rw [(put_yes e).2.1, List.length_set]; omega
  | _ => exact Nat.le_succ _
/-- the walk of the law and the yard's agree -/
theorem gone_eq {R : List Wd} {C : List (List Wd)} {G : List Nat} {d : Dd} {u : Wd} (h : lets R C d = some u) : goneD R C G d = swp (doC R C d) (sw0 (doR R C d) (doC R C d) G u) := by unfold goneD; rw [h]
end Gy

set_option Elab.async false
set_option linter.all false
set_option maxRecDepth 100000
set_option maxHeartbeats 1000000
/-! Part 35: the law. -/
namespace Gy
open PySem PySem.Spec PyProof.Rows L2
open Evl (Ex Ev EvL EvU EvT EvA EvO rLenS rListS rMax2)
/-- the script, told by its object or by the module's text -/
def Scr (K : PySem.W.Frag) (Y : YA) (H : Hp) (l : Addr) (xs : List V) : Prop := (∀ H', SqL K H' l xs) ∨ ∃ o, H l = some o ∧ (∀ H' : Hp, H' l = some o → SqL K H' l xs) ∧ Y.far l
theorem scr_of {K : PySem.W.Frag} {H : Hp} {l : Addr} {xs : List V} (h : SqL K H l xs) : (∀ H', SqL K H' l xs) ∨ ∃ o, H l = some o ∧ ∀ H' : Hp, H' l = some o → SqL K H' l xs := by
  rcases h with h | h
  · rcases h with h | ⟨o, h⟩
    · exact .inr ⟨_, h, fun H' h' => .inl (.inl h')⟩
    · exact .inr ⟨_, h, fun H' h' => .inl (.inr ⟨o, h'⟩)⟩
  · exact .inl fun H' => .inr h
section
variable {K : PySem.W.Frag} {Y : YA} {A A' : LA} {H H' : Hp} {l : Addr} {xs : List V}
theorem Scr.sq (h : Scr K Y H l xs) : SqL K H l xs := by
  rcases h with h | ⟨o, h1, h2, _⟩
  · exact h H
  · exact h2 H h1
/-- what stands far stays, and stays far -/
theorem far_go {b : Addr} {o : HO} (hb : H b = some o) (f : Y.far b) (hal : Y.al = A.m) (k : Keep (fun b => Y.own b ∨ A.m b) H H') (r1 : A'.rl = A.rl) (r2 : A'.ca = A.ca) (r3 : ∀ b ∈ A'.cs, b ∈ A.cs ∨ H b = none) : H' b = some o ∧ YA.far { Y with al := A'.m } b := by
  have f2 : ¬ A.m b := by rw [← hal]; exact f.2
  refine ⟨k b o hb fun z => z.elim f.1 f2, f.1, fun z => ?_⟩
  rcases z with q | q | q
  · exact f2 (.inl (by rw [q, r1]))
  · exact f2 (.inr (.inl (by rw [q, r2])))
  · rcases r3 b q with w | w
    · exact f2 (.inr (.inr w))
    · rw [hb] at w; cases w
theorem Scr.go (h : Scr K Y H l xs) (hal : Y.al = A.m) (k : Keep (fun b => Y.own b ∨ A.m b) H H') (r1 : A'.rl = A.rl) (r2 : A'.ca = A.ca) (r3 : ∀ b ∈ A'.cs, b ∈ A.cs ∨ H b = none) : Scr K { Y with al := A'.m } H' l xs := by
  rcases h with h | ⟨o, h1, h2, h3⟩
  · exact .inl h
  · obtain ⟨q1, q2⟩ := far_go h1 h3 hal k r1 r2 r3
    exact .inr ⟨o, q1, h2, q2⟩
theorem Scr.ex (h : Scr K Y H l xs) (e : Ex H H') : Scr K Y H' l xs := by
  rcases h with h | ⟨o, h1, h2, h3⟩
  · exact .inl h
  · exact .inr ⟨o, e _ _ h1, h2, h3⟩
/-- a copy of a cell -/
def CpR (Y : YA) (H : Hp) (v : V) (ws : List Wd) : Prop := ∃ a xs, v = .ref a ∧ H a = some (.lst xs) ∧ WRs H xs ws ∧ Y.far a
theorem cps_dp : ∀ {xs : List V} {C : List (List Wd)}, Paired (CpR Y H) xs C → DpAll K H xs (C.map pdL)
  | _, _, .nil => .nil
  | _, _, .cons ⟨a, ys, e, h, r, _⟩ t => by rw [e]; exact .cons (.lst (Evl.sq_of h) (wrs_dp r)) (cps_dp t)
theorem crs_dp : ∀ {cs : List Addr} {C : List (List Wd)}, Paired (CR H) cs C → DpAll K H (cs.map V.ref) (C.map pdL)
  | _, _, .nil => .nil
  | _, _, .cons ⟨ys, h, r⟩ t => .cons (.lst (Evl.sq_of h) (wrs_dp r)) (crs_dp t)
end
/-- the state ahead of each deed -/
structure Lst (K : PySem.W.Frag) (l : Addr) (xs : List V) (H : Hp) (Y : YA) (A : LA) (R : List Wd) (C : List (List Wd)) (G : List Nat) (ga : Addr) : Prop where
  al : Y.al = A.m
  yd : ∃ pos, At K Y H pos R C G
  la : LAt H A R C
  gv : H ga = some (.lst (nsV G))
  gf : Y.far ga
  sc : Scr K Y H l xs
theorem Lst.ex {K : PySem.W.Frag} {l : Addr} {xs : List V} {H H' : Hp} {Y : YA} {A : LA} {R : List Wd} {C : List (List Wd)} {G : List Nat} {ga : Addr} (h : Lst K l xs H Y A R C G ga) (e : Ex H H') : Lst K l xs H' Y A R C G ga :=
  ⟨h.al, let ⟨p, q⟩ := h.yd; ⟨p, q.ex e⟩, h.la.ex e, e _ _ h.gv, h.gf, h.sc.ex e⟩
theorem Lst.yat {K : PySem.W.Frag} {l : Addr} {xs : List V} {H : Hp} {Y : YA} {A : LA} {R : List Wd} {C : List (List Wd)} {G : List Nat} {ga : Addr} (h : Lst K l xs H Y A R C G ga) : ∃ s pos, YAt K Y H s ∧ St pos R C G s ∧ s.last = false := let ⟨p, s, a, b, c⟩ := h.yd; ⟨s, p, a, b, c⟩
/-- [list(slots) for slots in cells] -/
theorem e_copies {K : PySem.W.Frag} {σ : L2.St} {H : Hp} {Y : YA} {s : YS} {A : LA} {R : List Wd} {C : List (List Wd)} {tl : TE} {j : Nat} (hy : YAt K Y H s) (hA : LAt H A R C) (hC : C.length ≤ 100) (hl : Ev tl σ H (.ref A.ca)) (hj : j < σ.length) :
    EvP (tLc (iList K tl) (gName j) tYes (tCB (rListS K) (tCons (tVar j) tNil)) [j]) σ H (fun v H' => ∃ D xs, v = .ref D ∧ H D = none ∧ H' D = some (.lst xs) ∧ Paired (CpR Y H') xs C) := by
  have hlen := hA.len
  have px : ∀ {H1}, Ex H H1 → Paired (fun v ws => ∃ a, v = V.ref a ∧ CR H1 a ws) (A.cs.map V.ref) C := fun {H1} e => by
    have : ∀ {cs : List Addr} {C : List (List Wd)}, Paired (CR H) cs C → Paired (fun v ws => ∃ a, v = V.ref a ∧ CR H1 a ws) (cs.map V.ref) C := by
      intro cs C r
      induction r with
      | nil => exact .nil
      | cons r _ ih => exact .cons ⟨_, rfl, r.ex e⟩ ih
    exact this hA.cc
  refine (e_lcM (fun H v ws => ∃ a, v = V.ref a ∧ CR H a ws) (fun D H1 v ws => ∃ a xs, v = V.ref a ∧ H1 a = some (.lst xs) ∧ WRs H1 xs ws ∧ H a = none ∧ a ≠ D) (fun ws : List Wd => some ws) (fun H1 e => px e) (evp_ev hl fun H2 e2 => ⟨A.ca, rfl, Evl.sq_of (e2 _ _ hA.c)⟩) (by rw [List.length_map]; omega) ?_ ?_).imp ?_
  · rintro D acc H1 H2 x ws hacc kb ⟨a, xs, rfl, q1, q2, q3, q4⟩
    exact ⟨a, xs, rfl, kb _ _ q4 q1, WRs.mono (kb.tk hacc) q2, q3, q4⟩
  · rintro D i x ws acc H1 hi hw e hD hacc ⟨a, rfl, ys, h1, h2⟩
    refine ⟨_, g_nm, ?_, et_yes, fun b hb => ?_⟩
    · show ((σ.set j none).set j (some (V.ref a))).set j none = σ.set j none
      rw [List.set_set, List.set_set]
    · injection hb with hb
      subst hb
      refine fun H2 e2 Q q => (Evl.el_list (Evl.ev_var (v := .ref a) ?_) (Evl.sq_of (e2 _ _ h1))) H2 (Ex.refl H2) _ fun p H3 hp e3 h3 => q _ H3 e3 ⟨p, ys, rfl, h3, WRs.mono (ex_tk (e2.trans e3)) h2, Evl.fresh_back (e.trans e2) hp, fun z => by rw [z, e2 _ _ hacc] at hp; cases hp⟩
      show ((σ.set j none).set j (some (V.ref a)))[j]? = _
      rw [List.getElem?_set_self (by rw [List.length_set]; exact hj)]
  · rintro v H1 e ⟨D, xs, rfl, hD, hx, r⟩
    rw [fm_some, List.map_id'] at r
    exact ⟨D, xs, rfl, hD, hx, pr_imp (fun v ws ⟨a, ys, q1, q2, q3, q4, _⟩ => ⟨a, ys, q1, q2, q3, hy.new q4⟩) r⟩
/-- a call that answers True, then the rest -/
theorem q_notdone {sp : Sp} {ta tb tc td : TE} {σ : L2.St} {H : Hp} {a b c d : V} {tu tz : TS} {D : Ends} (ha : Ev ta σ H a) (hb : Ev tb σ H b) (hc : Ev tc σ H c) (hd : Ev td σ H d) (k : ∀ H1, Ex H H1 → sp [a, b, c, d] H1 (fun x H2 => ∃ c, x = .bl c ∧ if (!c) = true then tu { D with nx := tz D } σ H2 else tz D σ H2) E0) :
    tSeq (tIfS (tNot (tB (tCall sp [] E0 (tCons ta (tCons tb (tCons tc (tCons td tNil))))))) tu tNext) tz D σ H := by
  refine ha H (Ex.refl H) _ fun H1 e1 => hb H1 e1 _ fun H2 e2 => hc H2 (e1.trans e2) _ fun H3 e3 => hd H3 ((e1.trans e2).trans e3) _ fun H4 e4 => ?_
  exact k H4 (((e1.trans e2).trans e3).trans e4)
end Gy

set_option Elab.async false
set_option linter.all false
set_option maxRecDepth 100000
set_option maxHeartbeats 1000000
/-! Part 36: the law: behind a deed. -/
namespace Gy
open PySem PySem.Spec PyProof.Rows L2
open Evl (Ex Ev EvL EvU EvT EvA EvO rLenS rListS rMax2)
theorem evp_sl {K : PySem.W.Frag} {σ : L2.St} {H : Hp} {te : TE} {tl th : TO} {ys : List V} {lo hi : Option Int} (h : EvP te σ H (fun v H' => ∃ D, v = .ref D ∧ H' D = some (.lst ys))) (h1 : EvO tl σ H lo) (h2 : EvO th σ H hi) : EvP (tSl (rSlL K) te tl th) σ H (fun v H' => ∃ D, v = .ref D ∧ H' D = some (.lst (cutV ys lo hi))) := fun H0 e0 Q q =>
  h H0 e0 _ fun x H1 e1 ⟨D, ex, hD⟩ => h1 H1 (e0.trans e1) _ fun H2 e2 => h2 H2 ((e0.trans e1).trans e2) _ fun H3 e3 => by
    subst ex
    exact ⟨D, ys, rfl, Evl.sq_of (e3 _ _ (e2 _ _ hD)), fun p hp => q _ _ (((e1.trans e2).trans e3).trans (ex_new hp)) ⟨p, rfl, upd_same⟩⟩
def t_tail (K : PySem.W.Frag) : TS :=
  (tSeq (tAsg (tLst tNil) (gName 11))
    (tSeq (tIfS (tOr (tTest (tOp (rNeD K) (tVar 10) (tVar 2))) (tTest (tOp (rNeD K) (tVar 9) (tSl (rSlL K) (tVar 3) tNoPart (tPart (tCB (rLenS K) (tCons (tVar 9) tNil)))))))
    (tAsg (tCall (sp_law_going K) [] E0 (tCons (tVar 2) (tCons (tVar 3) (tCons (tVar 4) (tCons (tVar 7) tNil))))) (gName 11))
    tNext)
    (tSeq (tIfS (tTest (tOp (rNePap K) (tMeth (aC K) "paper" (sp_paper K) [] E0 (tVar 1) tNil) (tVar 8)))
    (tRet (tOp (rEqD K) (tSl (rSlL K) (tMeth (aC K) "swept" (sp_swept K) [] E0 (tVar 1) tNil) tNoPart (tPart (tCB (rLenS K) (tCons (tVar 4) tNil)))) (tVar 4)))
    tNext)
    (tSeq (tAsg (tOp rCat (tVar 4) (tVar 11)) (gName 4))
    (tIfS (tTest (tOp (rNeD K) (tMeth (aC K) "swept" (sp_swept K) [] E0 (tVar 1) tNil) (tVar 4)))
    (tRet (tC (.bl false)))
    tNext)))))
theorem law_tail {K : PySem.W.Frag} (N : Tk K) {Y : YA} {A : LA} {H : Hp} {s : YS} {R R' : List Wd} {C C' : List (List Wd)} {G : List Nat} {d : Dd} {l ga ap kp : Addr} {ax : List V} {kv : V} {dv fv : V} {w : Wd} {v11 v12 v13 v14 v15 : Option V} {D : Ends}
    (hy : YAt K Y H s) (la : LAt H A R' C') (gv : H ga = some (.lst (nsV G))) (hk : CR H kp R) (ha : H ap = some (.lst ax)) (pa : Paired (CpR Y H) ax C) (hf : WR H fv w) (hw : ∀ u, lets R C d = some u → w = u) (ok : OkS R C G) (od : OkD d) (hC : C.length < 99)
    (hRC : (R' = R ∧ C' = C) ∨ (R' = doR R C d ∧ C' = doC R C d)) (hs : (s.last = false ∧ s.gone = goneD R C G d ∧ R' = doR R C d ∧ C' = doC R C d) ∨ (s.last = true ∧ ∃ X, s.gone = G ++ X)) (hQ : ∀ H', D.rt (.bl true) H')
    (k : s.last = false → ∀ H1 W Wn, Ex H H1 → H W = none → H1 W = some (.lst (nsV (goneD R C G d))) → D.nx [some (.ref l), some (.ref Y.p), some (.ref A.rl), some (.ref A.ca), some (.ref W), some kv, some dv, some fv, some .non, some (.ref ap), some (.ref kp), some (.ref Wn), v12, v13, v14, v15] H1) :
    t_tail K D [some (.ref l), some (.ref Y.p), some (.ref A.rl), some (.ref A.ca), some (.ref ga), some kv, some dv, some fv, some .non, some (.ref ap), some (.ref kp), v11, v12, v13, v14, v15] H := by
  have hC' : C'.length ≤ 100 := by
    rcases hRC with ⟨_, q⟩ | ⟨_, q⟩
    · rw [q]; omega
    · rw [q]; have := doC_len (R := R) (C := C) d; omega
  have hG : G.length ≤ 100 := Nat.le_trans ok.glen (by omega)
  have hax := pr_len pa
  refine Evl.q_asgL (Evl.el_lst Evl.ea_nil (by show 0 ≤ 100000; decide)) fun W0 H1 hW0 e1 hW01 => ?_
  -- behind the walk
  have fin : ∀ {H2 : Hp} {W : Addr} {went : List Nat}, Ex H H2 → H2 W = some (.lst (nsV went)) → went.length ≤ 200 → (s.last = false → goneD R C G d = G ++ went) →
      tSeq (tIfS (tTest (tOp (rNePap K) (tMeth (aC K) "paper" (sp_paper K) [] E0 (tVar 1) tNil) (tVar 8)))
        (tRet (tOp (rEqD K) (tSl (rSlL K) (tMeth (aC K) "swept" (sp_swept K) [] E0 (tVar 1) tNil) tNoPart (tPart (tCB (rLenS K) (tCons (tVar 4) tNil)))) (tVar 4)))
        tNext)
        (tSeq (tAsg (tOp rCat (tVar 4) (tVar 11)) (gName 4))
        (tIfS (tTest (tOp (rNeD K) (tMeth (aC K) "swept" (sp_swept K) [] E0 (tVar 1) tNil) (tVar 4)))
        (tRet (tC (.bl false)))
        tNext)) D [some (.ref l), some (.ref Y.p), some (.ref A.rl), some (.ref A.ca), some (.ref ga), some kv, some dv, some fv, some .non, some (.ref ap), some (.ref kp), some (.ref W), v12, v13, v14, v15] H2 := by
    intro H2 W went e2 hW hwl hgo
    have hy2 := hy.ex e2
    have swp_ : ∀ {σ : L2.St} {H3 : Hp}, Ex H2 H3 → σ[1]? = some (some (.ref Y.p)) → EvP (tMeth (aC K) "swept" (sp_swept K) [] E0 (tVar 1) tNil) σ H3 (fun v H' => ∃ D, v = .ref D ∧ H' D = some (.lst (nsV s.gone))) := fun e3 hσ =>
      m_ev (hy2.ex e3) (Evl.ev_var hσ) Evl.ea_nil (by decide +kernel) fun H4 e4 Q q => ⟨Y, s, rfl, (hy2.ex e3).ex e4, fun H5 D e5 hD h5 => q _ H5 e5 ⟨D, rfl, h5⟩⟩
    rcases hs with ⟨hl, hg, hR, hCe⟩ | ⟨hl, X, hg⟩
    · have hgo := hgo hl
      refine Evl.q_when (b := false) (Evl.et_test (ev_of (evp_op (P := fun x _ => x = .bl false) (m_ev (P := fun v _ => v = .non) hy2 (Evl.ev_var rfl) Evl.ea_nil (by decide +kernel) fun H3 e3 Q q => ⟨Y, s, rfl, hy2.ex e3, fun _ H4 e4 => q _ H4 e4 rfl, fun z => by rw [hl] at z; cases z⟩) (evp_of (Evl.ev_var (v := .non) rfl)) fun x y H3 H4 e3 hx e4 hy' Q4 q4 => ?_))) nofun fun _ H3 e3 => ?_
      · subst hx hy'
        exact ⟨rfl, .inl ⟨rfl, q4 _ H4 (Ex.refl H4) rfl⟩⟩
      · have e23 := e2.trans e3
        refine Evl.q_asgL (el_cat (Evl.ev_var (v := .ref ga) rfl) (Evl.ev_var (v := .ref W) rfl) (e23 _ _ gv) (e3 _ _ hW) (by rw [nsV_len, nsV_len]; omega)) fun W2 H4 hW2 e4 hW4 => ?_
        rw [← nsV_app, ← hgo] at hW4
        refine Evl.s_when (b := false) (Evl.et_test (ev_of (evp_op (P := fun x _ => x = .bl false) (swp_ (e3.trans e4) rfl) (evp_of (Evl.ev_var (v := .ref W2) rfl)) fun x y H5 H6 e5 hx e6 hy' Q6 q6 => ?_))) nofun fun _ H5 e5 => k hl H5 W2 W ((e23.trans e4).trans e5) (Evl.fresh_back e23 hW2) (e5 _ _ hW4)
        obtain ⟨D2, rfl, hD2⟩ := hx
        subst hy'
        refine ⟨.list (s.gone.map pdN), .list ((goneD R C G d).map pdN), .lst (Evl.sq_of (e6 _ _ hD2)) (nsV_dp _), .lst (Evl.sq_of (e6 _ _ (e5 _ _ hW4))) (nsV_dp _), pdNs_shaped _, pdNs_shaped _, ?_⟩
        have := pdNs_eqv s.gone (goneD R C G d)
        unfold pdNs at this
        rw [this, decide_eq_true hg]
        exact q6 _ H6 (Ex.refl H6) rfl
    · refine Evl.q_when (b := true) (Evl.et_test (ev_of (evp_op (P := fun x _ => x = .bl true) (m_ev (P := fun v H' => ∃ t xs, v = .ref t ∧ H' t = some (.tup xs)) hy2 (Evl.ev_var rfl) Evl.ea_nil (by decide +kernel) fun H3 e3 Q q => ⟨Y, s, rfl, hy2.ex e3, fun z => (by rw [hl] at z; cases z), fun _ H4 t xs e4 ht => q _ H4 e4 ⟨t, xs, rfl, ht⟩⟩) (evp_of (Evl.ev_var (v := .non) rfl)) fun x y H3 H4 e3 hx e4 hy' Q4 q4 => ?_))) (fun _ H3 e3 => ?_) nofun
      · subst hy'
        obtain ⟨t, xs, rfl, ht⟩ := hx
        exact ⟨rfl, .inr ⟨t, xs, rfl, Evl.st_of (e4 _ _ ht), q4 _ H4 (Ex.refl H4) rfl⟩⟩
      · have e23 := e2.trans e3
        refine Evl.s_ret (v := .bl true) (ev_of (evp_op (evp_sl (swp_ e3 rfl) Evl.eo_none (Evl.eo_some (Evl.ev_len (Evl.ev_var (v := .ref ga) rfl) (Evl.sq_of (e23 _ _ gv))))) (evp_of (Evl.ev_var (v := .ref ga) rfl)) fun x y H4 H5 e4 hx e5 hy' Q5 q5 => ?_)) fun H4 _ => hQ H4
        obtain ⟨D2, rfl, hD2⟩ := hx
        subst hy'
        rw [nsV_len, cut_to, hg, nsV_app, List.take_left' (nsV_len G)] at hD2
        refine ⟨.list (G.map pdN), .list (G.map pdN), .lst (Evl.sq_of (e5 _ _ hD2)) (nsV_dp _), .lst (Evl.sq_of ((e23.trans (e4.trans e5)) _ _ gv)) (nsV_dp _), pdNs_shaped _, pdNs_shaped _, ?_⟩
        have := pdNs_eqv G G
        unfold pdNs at this
        rw [this, decide_eq_true rfl]
        exact q5 _ H5 (Ex.refl H5) rfl
  -- whether something changed
  have tch : EvT (tOr (tTest (tOp (rNeD K) (tVar 10) (tVar 2))) (tTest (tOp (rNeD K) (tVar 9) (tSl (rSlL K) (tVar 3) tNoPart (tPart (tCB (rLenS K) (tCons (tVar 9) tNil))))))) [some (.ref l), some (.ref Y.p), some (.ref A.rl), some (.ref A.ca), some (.ref ga), some kv, some dv, some fv, some .non, some (.ref ap), some (.ref kp), some (.ref W0), v12, v13, v14, v15] H1 (!decide (R = R') || !decide (C = C'.take C.length)) := by
    refine Evl.et_or (Evl.et_test (Evl.ev_op (Evl.ev_var (v := .ref kp) rfl) (Evl.ev_var (v := .ref A.rl) rfl) fun H2 e2 Q q => ?_)) fun _ => Evl.et_test (Evl.ev_opL (Evl.ev_var (v := .ref ap) rfl) (Evl.el_sl (Evl.ev_var (v := .ref A.ca) rfl) Evl.eo_none (Evl.eo_some (Evl.ev_len (Evl.ev_var (v := .ref ap) rfl) (Evl.sq_of (e1 _ _ ha)))) (Evl.sq_of (e1 _ _ la.c))) fun p H2 hp e2 H3 e3 Q q => ?_)
    · have e := e1.trans e2
      obtain ⟨xs, h1, h2⟩ := hk.ex e
      obtain ⟨ys, h3, h4⟩ := (la.ex e).r
      refine ⟨pdL R, pdL R', .lst (Evl.sq_of h1) (wrs_dp h2), .lst (Evl.sq_of h3) (wrs_dp h4), pdL_shaped _, pdL_shaped _, ?_⟩
      rw [pdL_eqv]
      exact q H2 (Ex.refl H2)
    · have e := (e1.trans e2).trans e3
      rw [cut_to, hax, ← List.map_take] at hp
      refine ⟨pdLL C, pdLL (C'.take C.length), .lst (Evl.sq_of (e _ _ ha)) (cps_dp (Y := Y) (pr_imp (fun v ws ⟨a, ys, q1, q2, q3, q4⟩ => ⟨a, ys, q1, e _ _ q2, WRs.mono (ex_tk e) q3, q4⟩) pa)), .lst (Evl.sq_of (e3 _ _ hp)) (crs_dp (pr_take C.length (la.ex e).cc)), pdLL_shaped _, pdLL_shaped _, ?_⟩
      rw [pdLL_eqv]
      exact q H3 (Ex.refl H3)
  refine Evl.q_when tch (fun hb H2 e2 => ?_) (fun hb H2 e2 => ?_)
  · -- changed
    have e12 := e1.trans e2
    have hch : ¬ (R = R' ∧ C = C'.take C.length) := fun ⟨q1, q2⟩ => by
      rw [decide_eq_true q1, decide_eq_true q2] at hb; cases hb
    have hd : R' = doR R C d ∧ C' = doC R C d := by
      rcases hRC with ⟨q1, q2⟩ | q
      · exact absurd ⟨q1.symm, by rw [q2, List.take_length]⟩ hch
      · exact q
    obtain ⟨u, hu⟩ : ∃ u, lets R C d = some u := by
      cases e : lets R C d with
      | some u => exact ⟨u, rfl⟩
      | none =>
        obtain ⟨q1, q2⟩ := lets_none e
        exact absurd ⟨by rw [hd.1, q1], by rw [hd.2, q2, List.take_length]⟩ hch
    have ew := hw u hu
    subst ew
    obtain ⟨o1, o2⟩ := step_ok ok od hu
    rw [← hd.1, ← hd.2] at o1
    rw [← hd.2] at o2
    refine s_asgP (P := fun v H' => ∃ W went, v = .ref W ∧ H' W = some (.lst (nsV went)) ∧ swp C' (sw0 R' C' G w) = G ++ went) (evp_call (Evl.ea_cons (Evl.ev_var rfl) (ea3 (Evl.ev_var rfl) (Evl.ev_var rfl) (Evl.ev_var rfl))) fun H3 e3 Q q => ⟨A, R', C', G, ga, fv, w, rfl, (la.ex e12).ex e3, e3 _ _ (e12 _ _ gv), hf.mono (ex_tk (e12.trans e3)), o1, o2, hC', fun H4 D4 went e4 _ h4 hsw => q _ H4 e4 ⟨D4, went, rfl, h4, hsw⟩⟩) ?_
    rintro _ H3 e3 ⟨W, went, rfl, hW, hsw⟩
    have hgl : went.length ≤ 200 := by
      have si := (SI.sw0 o1 o2).it (mu C' (sw0 R' C' G w))
      have := si.ok.glen
      have e : (itS C' (mu C' (sw0 R' C' G w)) (sw0 R' C' G w)).gone = G ++ went := hsw
      rw [e, List.length_append] at this
      omega
    exact fin (e12.trans e3) hW hgl fun _ => by rw [gone_eq hu, ← hd.1, ← hd.2]; exact hsw
  · have hch : R = R' ∧ C = C'.take C.length := by
      cases q1 : decide (R = R') with
      | false => rw [q1] at hb; cases hb
      | true =>
        cases q2 : decide (C = C'.take C.length) with
        | false => rw [q1, q2] at hb; cases hb
        | true => exact ⟨of_decide_eq_true q1, of_decide_eq_true q2⟩
    refine fin (W := W0) (went := []) (e1.trans e2) (e2 _ _ hW01) (by decide) fun hl => ?_
    rcases hs with ⟨_, _, hR, hCe⟩ | ⟨hl2, _⟩
    · rw [List.append_nil]
      exact same_gone ok od (by rw [← hR]; exact hch.1.symm) (by rw [← hCe]; exact hch.2.symm)
    · rw [hl] at hl2; cases hl2
end Gy

set_option Elab.async false
set_option linter.all false
set_option maxRecDepth 100000
set_option maxHeartbeats 1000000
/-! Part 37: the law. -/
namespace Gy
open PySem PySem.Spec PyProof.Rows L2
open Evl (Ex Ev EvL EvU EvT EvA EvO rLenS rListS rMax2)
/-- a number of the script -/
theorem evp_cell {K : PySem.W.Frag} {σ : L2.St} {H : Hp} {l : Addr} {ns : List Int} {ta : TE} {k : Nat} (hs : ∀ H1, Ex H H1 → SqL K H1 l (ns.map V.int)) (hl : σ[0]? = some (some (.ref l))) (ha : Ev ta σ H (.int (k : Int))) : EvP (tCall (sp_law_cell_at K) [] E0 (tCons (tVar 0) (tCons ta tNil))) σ H (fun v _ => ∃ c, v = .int c) :=
  evp_call (ea2 (Evl.ev_var hl) ha) fun H1 e1 Q q => ⟨l, ns, k, rfl, hs H1 e1, fun i H2 e2 => q _ H2 e2 ⟨i, rfl⟩⟩
theorem law_body {K : PySem.W.Frag} (N : Tk K) {Y : YA} {A : LA} {H : Hp} {R : List Wd} {C : List (List Wd)} {G : List Nat} {l ga : Addr} {ns : List Int} {k : Nat} {v6 v7 v8 v9 v10 v11 v12 v13 v14 v15 : Option V} {D : Ends}
    (h : Lst K l (ns.map V.int) H Y A R C G ga) (hC : C.length < 99) (hQ : ∀ H', D.rt (.bl true) H')
    (kk : ∀ (A' : LA) (R' : List Wd) (C' : List (List Wd)) (G' : List Nat) (W : Addr) (H' : Hp) (v6 v7 v8 v9 v10 v11 v12 v13 v14 v15 : Option V), Lst K l (ns.map V.int) H' { Y with al := A'.m } A' R' C' G' W → C'.length ≤ C.length + 1 →
      D.nx [some (.ref l), some (.ref Y.p), some (.ref A'.rl), some (.ref A'.ca), some (.ref W), some (.int (k : Int)), v6, v7, v8, v9, v10, v11, v12, v13, v14, v15] H') :
    (tSeq (tAsg (tCall (sp_law_deed K) [] E0 (tCons (tCall (sp_law_cell_at K) [] E0 (tCons (tVar 0) (tCons (tOp rAddI (tC (.int 1)) (tVar 5)) tNil))) tNil)) (gName 6))
    (tSeq (tAsg (tCall (sp_law_former K) [] E0 (tCons (tVar 2) (tCons (tVar 3) (tCons (tVar 6) tNil)))) (gName 7))
    (tSeq (tAsg (tMeth (aC K) "paper" (sp_paper K) [] E0 (tVar 1) tNil) (gName 8))
    (tSeq (tAsg (tLc (iList K (tVar 3)) (gName 14) tYes (tCB (rListS K) (tCons (tVar 14) tNil)) [14]) (gName 9))
    (tSeq (tAsg (tCB (rListS K) (tCons (tVar 2) tNil)) (gName 10))
    (tSeq (tIfS (tNot (tB (tCall (sp_law_done K) [] E0 (tCons (tVar 1) (tCons (tVar 2) (tCons (tVar 3) (tCons (tVar 6) tNil)))))))
    (tRet (tC (.bl false)))
    tNext)
    (t_tail K))))))) D [some (.ref l), some (.ref Y.p), some (.ref A.rl), some (.ref A.ca), some (.ref ga), some (.int (k : Int)), v6, v7, v8, v9, v10, v11, v12, v13, v14, v15] H := by
  obtain ⟨s, pos, hy, st, hl⟩ := h.yat
  have ok := st.ok
  refine q_asgP (P := fun v H' => ∃ d, OkD d ∧ DdAt H' v d) (evp_call1 (evp_cell (k := 1 + k) (fun H1 e1 => (h.sc.ex e1).sq) rfl (ev_int (ev_add Evl.ev_c (Evl.ev_var rfl)) (by omega))) ?_) ?_
  · rintro _ H1 e1 ⟨c, rfl⟩ Q q
    exact ⟨c, rfl, fun d v H2 od e2 hd => q v H2 e2 ⟨d, od, hd⟩⟩
  rintro dv H1 e1 ⟨d, od, hd⟩
  have h1 := h.ex e1
  refine q_asgP (P := fun v' H' => ∃ w, WR H' v' w ∧ ∀ u, lets R C d = some u → w = u) (evp_call (ea3 (Evl.ev_var rfl) (Evl.ev_var rfl) (Evl.ev_var rfl)) fun H2 e2 Q q => ⟨A, R, C, G, dv, d, rfl, h1.la.ex e2, hd.mono (ex_tk e2), od, ok, fun v' w H3 e3 hw hl => q v' H3 e3 ⟨w, hw, hl⟩⟩) ?_
  rintro fv H2 e2 ⟨w, hw, hwl⟩
  have e12 := e1.trans e2
  refine q_asgP (P := fun v _ => v = .non) (m_ev (hy.ex e12) (Evl.ev_var rfl) Evl.ea_nil (by decide +kernel) fun H3 e3 Q q => ⟨Y, s, rfl, (hy.ex e12).ex e3, fun _ H4 e4 => q _ H4 e4 rfl, fun z => by rw [hl] at z; cases z⟩) ?_
  rintro _ H3 e3 rfl
  have e13 := e12.trans e3
  have h3 := h.ex e13
  refine q_asgP (e_copies (hy.ex e13) h3.la (by omega) (Evl.ev_var rfl) (by show 14 < 16; decide)) ?_
  rintro _ H4 e4 ⟨ap, ax, rfl, hap0, hap, pa⟩
  have e14 := e13.trans e4
  have h4 := h.ex e14
  obtain ⟨rs, hrs, rrs⟩ := h4.la.r
  refine Evl.q_asgL (Evl.el_list (Evl.ev_var (v := .ref A.rl) rfl) (Evl.sq_of hrs)) fun kp H5 hkp e5 hkp5 => ?_
  have e15 := e14.trans e5
  have hy4 := hy.ex e14
  have fap : Y.far ap := (hy.ex e13).new hap0
  have fkp : Y.far kp := hy4.new hkp
  refine q_notdone (Evl.ev_var (v := .ref Y.p) rfl) (Evl.ev_var (v := .ref A.rl) rfl) (Evl.ev_var (v := .ref A.ca) rfl) (Evl.ev_var (v := dv) rfl) fun H6 e6 => ?_
  have e16 := e15.trans e6
  have h6 := h.ex e16
  have hap6 := e6 _ _ (e5 _ _ hap)
  have hkp6 := e6 _ _ hkp5
  have rrs6 := WRs.mono (ex_tk (e5.trans e6)) rrs
  have pa6 := pr_imp (S := CpR Y H6) (fun v ws ⟨a, ys, q1, q2, q3, q4⟩ => ⟨a, ys, q1, (e5.trans e6) _ _ q2, WRs.mono (ex_tk (e5.trans e6)) q3, q4⟩) pa
  have hw6 := hw.mono (ex_tk ((e3.trans e4).trans (e5.trans e6)))
  have hd6 := hd.mono (ex_tk ((e2.trans (e3.trans e4)).trans (e5.trans e6)))
  obtain ⟨pos6, at6⟩ := h6.yd
  -- behind the deed
  have after : ∀ {H' : Hp} {A' : LA} {s' : YS} {R' : List Wd} {C' : List (List Wd)}, Keep (fun b => Y.own b ∨ A.m b) H6 H' → TK H6 H' → A'.rl = A.rl → A'.ca = A.ca → (∀ b ∈ A'.cs, b ∈ A.cs ∨ H6 b = none) → YAt K { Y with al := A'.m } H' s' → LAt H' A' R' C' →
      ((R' = R ∧ C' = C) ∨ (R' = doR R C d ∧ C' = doC R C d)) → ((s'.last = false ∧ s'.gone = goneD R C G d ∧ R' = doR R C d ∧ C' = doC R C d) ∨ (s'.last = true ∧ ∃ X, s'.gone = G ++ X)) → (s'.last = false → ∃ pos', St pos' (doR R C d) (doC R C d) (goneD R C G d) s') →
      t_tail K D [some (.ref l), some (.ref Y.p), some (.ref A.rl), some (.ref A.ca), some (.ref ga), some (.int (k : Int)), some dv, some fv, some .non, some (.ref ap), some (.ref kp), v11, v12, v13, v14, v15] H' := by
    intro H' A' s' R' C' kp' tk r1 r2 r3 hy' la' hRC hs hst
    obtain ⟨g1, g2⟩ := far_go h6.gv h6.gf h.al kp' r1 r2 r3
    obtain ⟨p1, _⟩ := far_go hap6 fap h.al kp' r1 r2 r3
    obtain ⟨q1, _⟩ := far_go hkp6 fkp h.al kp' r1 r2 r3
    have sc' := h6.sc.go h.al kp' r1 r2 r3
    have pa' : Paired (CpR { Y with al := A'.m } H') ax C := pr_imp (fun v ws ⟨a, ys, x1, x2, x3, x4⟩ => by
      obtain ⟨z1, z2⟩ := far_go x2 x4 h.al kp' r1 r2 r3
      exact ⟨a, ys, x1, z1, WRs.mono tk x3, z2⟩) pa6
    rw [← r1, ← r2]
    refine law_tail (Y := { Y with al := A'.m }) N hy' la' g1 ⟨rs, q1, WRs.mono tk rrs6⟩ p1 pa' (hw6.mono tk) hwl ok od hC hRC hs hQ fun hl' H7 W Wn e7 hW hW7 => ?_
    rcases hs with ⟨_, _, hR, hCe⟩ | ⟨hl2, _⟩
    · obtain ⟨pos', st'⟩ := hst hl'
      rw [hR, hCe] at la'
      exact kk A' _ _ _ W H7 _ _ _ _ _ _ _ _ _ _ ⟨rfl, ⟨pos', s', hy'.ex e7, st', hl'⟩, la'.ex e7, hW7, hy'.new hW, sc'.ex e7⟩ (doC_len d)
    · rw [hl'] at hl2; cases hl2
  refine ⟨Y, A, pos6, R, C, G, dv, d, rfl, h.al, at6, h6.la, hd6, od, hC, fun H' A' s' pos' kp' tk r1 r2 r3 hy' hl' st' la' => ?_, fun m H' A' s' X R' C' kp' tk r1 r2 r3 hy' hl' hg' la' hRC => ?_⟩
  · exact ⟨true, rfl, after kp' tk r1 r2 r3 hy' la' (.inr ⟨rfl, rfl⟩) (.inl ⟨hl', st'.rp.gn, rfl, rfl⟩) fun _ => ⟨pos', st'⟩⟩
  · exact ⟨true, rfl, after kp' tk r1 r2 r3 hy' la' hRC (.inr ⟨hl', X, hg'⟩) fun z => by rw [hl'] at z; cases z⟩
end Gy

set_option Elab.async false
set_option linter.all false
set_option maxRecDepth 100000
set_option maxHeartbeats 1000000
/-! Part 38: the law, whole. -/
namespace Gy
open PySem PySem.Spec PyProof.Rows L2
open Evl (Ex Ev EvL EvU EvT EvA EvO rLenS rListS rMax2)
theorem st0 : St (fun _ => 0) (List.replicate 8 .non) [] [] s0 := by
  have nl : ∀ n, ¬ Live [] [] n := fun n h => absurd h.1 (Nat.not_lt_zero n)
  refine ⟨⟨by decide, rfl, rfl, rfl, fun n h => absurd h (nl n), fun n h => absurd h (nl n), fun n h => absurd h (nl n), fun m n h => absurd h (nl m), fun a n z h => ?_, ⟨fun f hf => ?_, List.pairwise_singleton _ _⟩, fun f _ n h => absurd h (nl n), fun n h => absurd h (nl n), nofun, .nil⟩, ⟨by decide, fun w hw => ?_, fun n h => absurd h (nl n), fun n => ?_, nofun, .nil⟩⟩
  · have h : (List.replicate 60 Wd.non)[a]? = some (.head n z) := h
    rw [List.getElem?_replicate] at h
    by_cases q : a < 60
    · rw [if_pos q] at h; cases h
    · rw [if_neg q] at h; cases h
  · rw [List.mem_singleton.mp hf]; decide
  · rw [List.eq_of_mem_replicate hw]; trivial
  · rw [cl_out (Nat.zero_le n)]; exact Nat.zero_le 4
/-- two lists of numbers, one of them new -/
theorem evp_eqN {K : PySem.W.Frag} {σ : L2.St} {H : Hp} {ta tb : TE} {as : List Nat} (ha : EvP ta σ H (fun v H' => ∃ D, v = .ref D ∧ H' D = some (.lst (nsV as)))) (hb : ∀ H1, Ex H H1 → EvP tb σ H1 (fun v H' => ∃ D, v = .ref D ∧ H' D = some (.lst (nsV as)))) : Ev (tOp (rEqD K) ta tb) σ H (.bl true) := by
  refine ev_of (evp_op ha (hb H (Ex.refl H)) fun x y H3 H4 e3 hx e4 hy Q4 q4 => ?_)
  obtain ⟨D, rfl, h1⟩ := hx
  obtain ⟨D2, rfl, h2⟩ := hy
  refine ⟨.list (as.map pdN), .list (as.map pdN), .lst (Evl.sq_of (e4 _ _ h1)) (nsV_dp _), .lst (Evl.sq_of h2) (nsV_dp _), pdNs_shaped _, pdNs_shaped _, ?_⟩
  have := pdNs_eqv as as
  unfold pdNs at this
  rw [this, decide_eq_true rfl]
  exact q4 _ H4 (Ex.refl H4) rfl
theorem given_lives (C : List (List Wd)) (G : List Nat) : Evl.given C.length (fun n => decide (n ∉ G)) (fun n => V.int (n : Int)) = nsV (lives C G) := rfl
theorem q_make1 {C : Addr} {sp : Sp} {E : XK} {ta : TE} {σ : L2.St} {H : Hp} {v : V} {i : Nat} {tz : TS} {D : Ends} (ha : Ev ta σ H v) (k : ∀ H1 x dx, Ex H H1 → H1 x = none → H1 dx = none → dx ≠ x → sp [.ref x, v] (upd (upd H1 dx (.own x)) x (.ins C dx [])) (fun r H2 => r = .non ∧ tz D (σ.set i (some (.ref x))) H2) E) :
    tSeq (tAsg (tMake C sp [] E (tCons ta tNil)) (gName i)) tz D σ H := ha H (Ex.refl H) _ fun H1 e1 x dx hx hdx hne => k H1 x dx e1 hx hdx hne
theorem q_forRP {te : TE} {σ : L2.St} {H : Hp} {j : Nat} {tu tz : TS} {D : Ends} {b : Int} (h : EvP te σ H (fun v _ => ∃ c : Int, v = .int c ∧ 0 ≤ c ∧ c < b)) (hb : b ≤ 1000) (Pv : Nat → L2.St → Hp → Prop) (h0 : ∀ H1, Ex H H1 → Pv 0 σ H1)
    (hs : ∀ (i : Nat) σ' H', (i : Int) < b → Pv i σ' H' → tu { D with nx := Pv (i + 1), ct := Pv (i + 1), bk := tz D } (σ'.set j (some (.int (i : Int)))) H') (hd : ∀ i σ' H', Pv i σ' H' → tz D σ' H') : tSeq (tFor (iRng1 (tCons te tNil)) (gName j) tu) tz D σ H :=
  h H (Ex.refl H) _ fun v H1 e1 ⟨c, ev, hc0, hcb⟩ => by
    subst ev
    refine ⟨c, rfl, by omega, by omega, for_range (lo := 0) (n := c.toNat) Pv (h0 H1 e1) (fun i σ' H' hi p => ?_) fun σ' H' p => hd _ σ' H' p⟩
    have e0 : (0 : Int) + (i : Int) = (i : Int) := Int.zero_add _
    rw [e0]
    exact hs i σ' H' (by omega) p
theorem p_law {K : PySem.W.Frag} (N : Tk K) (vs : List V) (H : Hp) (Q : VK) (E : XK) (h : sp_law K vs H Q E) : t_law K { nx := fun _ H' => Q .non H', rt := Q } (start n_law vs) H := by
  obtain ⟨l, ns, rfl, hs, hlen, hQ⟩ := h
  refine q_make1 (Evl.ev_c (v := .int 60)) fun H1 x dx e1 hx hdx hne => ?_
  refine ⟨x, dx, rfl, upd_same, fun H2 Y hYp hYa hYo hy2 k2 => ⟨rfl, ?_⟩⟩
  subst hYp
  -- the script stays
  have scr1 : (∀ H', SqL K H' l (ns.map V.int)) ∨ ∃ o, H2 l = some o ∧ (∀ H' : Hp, H' l = some o → SqL K H' l (ns.map V.int)) ∧ ¬ Y.own l := by
    rcases scr_of hs with q | ⟨o, q1, q2⟩
    · exact .inl q
    · right
      have lx : l ≠ Y.p := fun z => by rw [z] at q1; rw [e1 _ _ q1] at hx; cases hx
      have ld : l ≠ dx := fun z => by rw [z] at q1; rw [e1 _ _ q1] at hdx; cases hdx
      have hc : upd (upd H1 dx (.own Y.p)) Y.p (.ins (aC K) dx []) l = some o := by rw [upd_ne lx, upd_ne ld]; exact e1 _ _ q1
      refine ⟨o, k2 _ _ hc lx, q2, fun z => ?_⟩
      rcases hYo l z with w | w
      · exact lx w
      · rw [hc] at w; cases w
  refine q_asgP (evp_rep (n := 8) Evl.ev_c (by decide)) ?_
  rintro _ H3 e3 ⟨rl, _, rfl, hrl, hrl3, rfl⟩
  refine Evl.q_asgL (Evl.el_lst Evl.ea_nil (by show 0 ≤ 100000; decide)) fun ca H4 hca e4 hca4 => ?_
  refine Evl.q_asgL (Evl.el_lst Evl.ea_nil (by show 0 ≤ 100000; decide)) fun ga H5 hga e5 hga5 => ?_
  have e34 := e3.trans e4
  have e35 := e34.trans e5
  have rc : rl ≠ ca := fun z => by rw [z] at hrl3; rw [hrl3] at hca; cases hca
  have rg_ : ga ≠ rl := fun z => by rw [z, e4 _ _ hrl3] at hga; cases hga
  have cg_ : ga ≠ ca := fun z => by rw [z, hca4] at hga; cases hga
  have hca0 := Evl.fresh_back e3 hca
  have hga0 := Evl.fresh_back e34 hga
  have la5 : LAt H5 ⟨rl, ca, []⟩ (List.replicate 8 .non) [] := ⟨⟨_, (e4.trans e5) _ _ hrl3, pr_rep (show WR H5 .non .non from rfl) 8⟩, e5 _ _ hca4, .nil, rc, nofun, nofun, .nil⟩
  have lm : ∀ b, (LA.mk rl ca []).m b → b = rl ∨ b = ca := fun b hb => by
    rcases hb with q | q | q
    · exact .inl q
    · exact .inr q
    · cases q
  have hy5 : YAt K { Y with al := (LA.mk rl ca []).m } H5 s0 := hy2.out (Keep.ex e35) (ex_tk e35) fun b hb => by
    refine ⟨.inr ?_, ?_⟩
    · rcases lm b hb with q | q
      · rw [q]; exact hrl
      · rw [q]; exact hca0
    · obtain ⟨xs, hx⟩ := la5.got hb
      rw [hx]; exact fun z => by cases z
  have st : Lst K l (ns.map V.int) H5 { Y with al := (LA.mk rl ca []).m } ⟨rl, ca, []⟩ (List.replicate 8 .non) [] [] ga := by
    refine ⟨rfl, ⟨_, s0, hy5, st0, rfl⟩, la5, hga5, ⟨(hy2.new hga0).1, fun z => ?_⟩, ?_⟩
    · rcases lm ga z with q | q
      · exact rg_ q
      · exact cg_ q
    · rcases scr1 with q | ⟨o, q1, q2, q3⟩
      · exact .inl q
      · refine .inr ⟨o, e35 _ _ q1, q2, q3, fun z => ?_⟩
        rcases lm l z with q | q
        · rw [q, hrl] at q1; cases q1
        · rw [q, hca0] at q1; cases q1
  -- the deeds
  have ecount : EvP (tOp rModI (tCall (sp_law_cell_at K) [] E0 (tCons (tVar 0) (tCons (tC (.int 0)) tNil))) (tC (.int 31))) [some (.ref l), some (.ref Y.p), some (.ref rl), some (.ref ca), some (.ref ga), none, none, none, none, none, none, none, none, none, none, none] H5 (fun v _ => ∃ c : Int, v = .int c ∧ 0 ≤ c ∧ c < 31) :=
    evp_op (evp_cell (k := 0) (fun H6 e6 => (st.ex e6).sc.sq) rfl (ev_int Evl.ev_c rfl)) (evp_of Evl.ev_c) fun x y H6 H7 e6 hx e7 hy' Q7 q7 => by
      obtain ⟨c, rfl⟩ := hx
      subst hy'
      exact ⟨c, 31, rfl, rfl, show (0 : Int) < 31 by decide, q7 _ H7 (Ex.refl H7) ⟨c % 31, rfl, by omega, by omega⟩⟩
  refine q_forRP ecount (by decide) (fun i σ' H' => ∃ (A : LA) (R : List Wd) (C : List (List Wd)) (G : List Nat) (ga : Addr) (v5 v6 v7 v8 v9 v10 v11 v12 v13 v14 v15 : Option V), σ' = [some (.ref l), some (.ref Y.p), some (.ref A.rl), some (.ref A.ca), some (.ref ga), v5, v6, v7, v8, v9, v10, v11, v12, v13, v14, v15] ∧ Lst K l (ns.map V.int) H' { Y with al := A.m } A R C G ga ∧ C.length ≤ i ∧ C.length ≤ 31)
    (fun H6 e6 => ⟨_, _, _, _, ga, _, _, _, _, _, _, _, _, _, _, _, rfl, st.ex e6, Nat.le_refl _, Nat.zero_le _⟩) ?_ ?_
  · rintro i σ' H7 hi ⟨A, R, C, G, ga, v5, v6, v7, v8, v9, v10, v11, v12, v13, v14, v15, rfl, st7, hCi, _⟩
    exact law_body (Y := { Y with al := A.m }) (k := i) N st7 (by omega) (fun H' => hQ H') fun A' R' C' G' W H' v6 v7 v8 v9 v10 v11 v12 v13 v14 v15 st' hC' => ⟨A', R', C', G', W, _, _, _, _, _, _, _, _, _, _, _, rfl, st', by omega, by omega⟩
  · rintro i σ' H7 ⟨A, R, C, G, ga, v5, v6, v7, v8, v9, v10, v11, v12, v13, v14, v15, rfl, st7, _, hCi⟩
    have hl7 := st7.la.len
    refine Evl.q_asgL (xs := nsV (lives C G)) ?_ fun due H8 hdue e8 hdue8 => ?_
    · rw [← given_lives]
      have en : C.length = (((A.cs.map V.ref).length : Nat) : Int).toNat := by rw [Int.toNat_natCast, List.length_map, hl7]
      rw [en]
      refine Evl.el_lcR1 (fun n => decide (n ∉ G)) (fun n => V.int (n : Int)) (ea1 (Evl.ev_len (Evl.ev_var (v := .ref A.ca) rfl) (Evl.sq_of st7.la.c))) ⟨by omega, by rw [List.length_map]; omega⟩ (fun x => rfl) (fun i H9 e9 hi => ?_) fun i H9 e9 hi _ => Evl.ev_var rfl
      refine Evl.et_test (Evl.ev_is (Evl.ev_op (Evl.ev_var (v := .int (i : Int)) rfl) (Evl.ev_var (v := .ref ga) rfl) (Evl.rv_niL (Evl.sq_of (e9 _ _ st7.gv)) rfl (ns_flat G))) ?_)
      rw [inV_ns, decide_not]
    · have st8 := st7.ex e8
      obtain ⟨pos8, at8⟩ := st8.yd
      obtain ⟨s8, _, hy8, _⟩ := st8.yat
      have edue : ∀ {σ : L2.St} {H9 : Hp}, Ex H8 H9 → σ[12]? = some (some (.ref due)) → EvP (tVar 12) σ H9 (fun v H' => ∃ D, v = .ref D ∧ H' D = some (.lst (nsV (lives C G)))) := fun e9 hσ => evp_ev (Evl.ev_var hσ) fun H10 e10 => ⟨due, rfl, e10 _ _ (e9 _ _ hdue8)⟩
      refine Evl.s_ret (v := .bl (true && true)) (Evl.ev_andV (evp_eqN (as := lives C G) (m_ev hy8 (Evl.ev_var (v := .ref Y.p) rfl) Evl.ea_nil (by decide +kernel) fun H9 e9 Q9 q9 => ⟨{ Y with al := A.m }, pos8, R, C, G, rfl, at8.ex e9, fun H10 D e10 hD hD10 => q9 _ H10 e10 ⟨D, rfl, hD10⟩⟩) fun H9 e9 => edue e9 rfl) fun _ => evp_eqN (as := lives C G) ?_ fun H9 e9 => edue e9 rfl) fun H9 _ => hQ H9
      refine evp_lcU (P := fun v H' => ∃ D xs, v = .ref D ∧ H' D = some (.lst xs) ∧ Paired (NmR H') xs (lives C G)) (m_ev hy8 (Evl.ev_var (v := .ref Y.p) rfl) Evl.ea_nil (by decide +kernel) fun H9 e9 Q9 q9 => ⟨{ Y with al := A.m }, pos8, R, C, G, rfl, at8.ex e9, fun H10 D xs e10 hD hD10 px => q9 _ H10 e10 ⟨D, xs, rfl, hD10, px⟩⟩) ?_
      rintro _ H9 e9 ⟨D, xs, rfl, hD, px⟩
      have hpl := pr_len px
      have hll : (lives C G).length ≤ C.length := by
        unfold lives
        refine Nat.le_trans (List.length_filter_le _ _) ?_
        rw [List.length_range]; exact Nat.le_refl _
      exact (e_firsts px (evp_ev (v := .ref D) Evl.ev_c fun H10 e10 => ⟨D, rfl, Evl.sq_of (e10 _ _ hD)⟩) (by omega) (by show 13 < 16; decide) (by show 15 < 16; decide) (by decide)).imp fun v H10 e10 ⟨D2, q1, _, q3⟩ => ⟨D2, q1, q3⟩
end Gy

set_option Elab.async false
set_option linter.all false
set_option maxRecDepth 100000
set_option maxHeartbeats 4000000
/-! printed by print.py: the text by places, the facts that the walk leans on -/
namespace Gy
open PySem PySem.Spec PyProof.Rows L2
open Evl (rLenS rListS rMax2)
open C8 (pe_gc)

def top (i : Nat) : Stmt := PySem.Challenge.pw_gleanyard_k59_whole_swept_at_once.main.body.getD i (.Pass ⟨0, 0, 0, 0⟩)
abbrev s_is_value : Stmt := top 15
abbrev s_is_picture : Stmt := top 16
abbrev s_ask_picture : Stmt := top 17
abbrev s_led_to : Stmt := top 18
abbrev s_reasons : Stmt := top 20
abbrev s_paper_of : Stmt := top 21
abbrev s_first_fit : Stmt := top 23
abbrev s_covering : Stmt := top 24
abbrev s_without : Stmt := top 25
abbrev s_joined : Stmt := top 26
abbrev s_yinit : Stmt := inClass (top 30) 0
abbrev s_write_root : Stmt := inClass (top 30) 2
abbrev s_write_slot : Stmt := inClass (top 30) 3
abbrev s_release : Stmt := inClass (top 30) 6
abbrev s_ask_root : Stmt := inClass (top 30) 9
abbrev s_cell_at : Stmt := inClass (top 30) 10
abbrev s_slot_at : Stmt := inClass (top 30) 11
abbrev s_told : Stmt := inClass (top 30) 12
abbrev s_room_for : Stmt := inClass (top 32) 1
abbrev s_where : Stmt := inClass (top 30) 21
abbrev s_slots_at : Stmt := inClass (top 30) 23
abbrev s_picture : Stmt := inClass (top 30) 24
abbrev s_inner : Stmt := inClass (top 32) 8
abbrev s_outer : Stmt := inClass (top 32) 9
abbrev s_saved : Stmt := inClass (top 32) 10
abbrev s_free_up : Stmt := inClass (top 32) 5
abbrev s_glean : Stmt := inClass (top 32) 11
abbrev s_collect : Stmt := inClass (top 30) 28
abbrev s_placed : Stmt := inClass (top 32) 2
abbrev s_more : Stmt := inClass (top 32) 3
abbrev s_less : Stmt := inClass (top 32) 4
abbrev s_set_root : Stmt := inClass (top 32) 6
abbrev s_make : Stmt := inClass (top 30) 13
abbrev s_number : Stmt := inClass (top 30) 14
abbrev s_clear : Stmt := inClass (top 30) 15
abbrev s_pass_on : Stmt := inClass (top 30) 16
abbrev s_set_slot : Stmt := inClass (top 32) 7
abbrev s_put : Stmt := inClass (top 30) 17
abbrev s_take : Stmt := inClass (top 30) 18
abbrev s_value : Stmt := inClass (top 30) 19
abbrev s_same : Stmt := inClass (top 30) 20
abbrev s_names : Stmt := inClass (top 30) 22
abbrev s_swept : Stmt := inClass (top 30) 26
abbrev s_paper : Stmt := inClass (top 30) 27
abbrev s_cinit : Stmt := inClass (top 32) 0
abbrev s_counts : Stmt := inClass (top 32) 12
abbrev s_done : Stmt := top 34
abbrev s_told_by : Stmt := top 35
abbrev s_law_cell_at : Stmt := top 37
abbrev s_law_deed : Stmt := top 39
abbrev s_law_do : Stmt := top 40
abbrev s_law_told_like : Stmt := top 41
abbrev s_law_done : Stmt := top 42
abbrev s_law_count : Stmt := top 43
abbrev s_law_name : Stmt := top 45
abbrev s_law_going : Stmt := top 44
abbrev s_law_former : Stmt := top 46
abbrev s_law : Stmt := top 47
structure Txt (K : PySem.W.Frag) (mg : Str → Option Value) : Prop where
  cl : Cls K (aC K)
  mkC : Mk K (aC K) (aM K "__init__")
  a_room : NoAttr K (aC K) "room"
  a_words : NoAttr K (aC K) "words"
  a_roots : NoAttr K (aC K) "roots"
  a_born : NoAttr K (aC K) "born"
  a_gone : NoAttr K (aC K) "gone"
  a_last : NoAttr K (aC K) "last"
  a_free : NoAttr K (aC K) "free"
  a_led_in : NoAttr K (aC K) "led_in"
  n_all : mg "all" = none
  n_bool : mg "bool" = none
  n_dict : mg "dict" = none
  n_int : mg "int" = none
  n_isinstance : mg "isinstance" = none
  n_len : mg "len" = none
  n_list : mg "list" = none
  n_max : mg "max" = none
  n_range : mg "range" = none
  n_set : mg "set" = none
  n_sorted : mg "sorted" = none
  n_tuple : mg "tuple" = none
  n_zip : mg "zip" = none
  i_ROOTS : ∃ u, mg "ROOTS" = some u ∧ RelV (.int 8) u
  i_MOST_SIZE : ∃ u, mg "MOST_SIZE" = some u ∧ RelV (.int 4) u
  i_GREATEST : ∃ u, mg "GREATEST" = some u ∧ RelV (.int 1000000) u
  i_LEAST_ROOM : ∃ u, mg "LEAST_ROOM" = some u ∧ RelV (.int 8) u
  i_MOST_ROOM : ∃ u, mg "MOST_ROOM" = some u ∧ RelV (.int 120) u
  g_is_value : mg "is_value" = some (.ref (aF K "is_value"))
  k_is_value : PySem.W.keepIn K (.ref (aF K "is_value")) = true
  g_is_picture : mg "is_picture" = some (.ref (aF K "is_picture"))
  k_is_picture : PySem.W.keepIn K (.ref (aF K "is_picture")) = true
  g_ask_picture : mg "ask_picture" = some (.ref (aF K "ask_picture"))
  k_ask_picture : PySem.W.keepIn K (.ref (aF K "ask_picture")) = true
  g_led_to : mg "led_to" = some (.ref (aF K "led_to"))
  k_led_to : PySem.W.keepIn K (.ref (aF K "led_to")) = true
  g_reasons : mg "reasons" = some (.ref (aF K "reasons"))
  k_reasons : PySem.W.keepIn K (.ref (aF K "reasons")) = true
  g_paper_of : mg "paper_of" = some (.ref (aF K "paper_of"))
  k_paper_of : PySem.W.keepIn K (.ref (aF K "paper_of")) = true
  g_first_fit : mg "first_fit" = some (.ref (aF K "first_fit"))
  k_first_fit : PySem.W.keepIn K (.ref (aF K "first_fit")) = true
  g_covering : mg "covering" = some (.ref (aF K "covering"))
  k_covering : PySem.W.keepIn K (.ref (aF K "covering")) = true
  g_without : mg "without" = some (.ref (aF K "without"))
  k_without : PySem.W.keepIn K (.ref (aF K "without")) = true
  g_joined : mg "joined" = some (.ref (aF K "joined"))
  k_joined : PySem.W.keepIn K (.ref (aF K "joined")) = true
  g_done : mg "done" = some (.ref (aF K "done"))
  k_done : PySem.W.keepIn K (.ref (aF K "done")) = true
  g_told_by : mg "told_by" = some (.ref (aF K "told_by"))
  k_told_by : PySem.W.keepIn K (.ref (aF K "told_by")) = true
  g_law_cell_at : mg "_law_cell_at" = some (.ref (aF K "_law_cell_at"))
  k_law_cell_at : PySem.W.keepIn K (.ref (aF K "_law_cell_at")) = true
  g_law_deed : mg "_law_deed" = some (.ref (aF K "_law_deed"))
  k_law_deed : PySem.W.keepIn K (.ref (aF K "_law_deed")) = true
  g_law_do : mg "_law_do" = some (.ref (aF K "_law_do"))
  k_law_do : PySem.W.keepIn K (.ref (aF K "_law_do")) = true
  g_law_told_like : mg "_law_told_like" = some (.ref (aF K "_law_told_like"))
  k_law_told_like : PySem.W.keepIn K (.ref (aF K "_law_told_like")) = true
  g_law_done : mg "_law_done" = some (.ref (aF K "_law_done"))
  k_law_done : PySem.W.keepIn K (.ref (aF K "_law_done")) = true
  g_law_count : mg "_law_count" = some (.ref (aF K "_law_count"))
  k_law_count : PySem.W.keepIn K (.ref (aF K "_law_count")) = true
  g_law_name : mg "_law_name" = some (.ref (aF K "_law_name"))
  k_law_name : PySem.W.keepIn K (.ref (aF K "_law_name")) = true
  g_law_going : mg "_law_going" = some (.ref (aF K "_law_going"))
  k_law_going : PySem.W.keepIn K (.ref (aF K "_law_going")) = true
  g_law_former : mg "_law_former" = some (.ref (aF K "_law_former"))
  k_law_former : PySem.W.keepIn K (.ref (aF K "_law_former")) = true
  g_Counts : mg "Counts" = some (.ref (aF K "Counts"))
  g_Yard : mg "Yard" = some (.ref (aF K "Yard"))
  g_NoCell : mg "NoCell" = some (.ref (aF K "NoCell"))
  g_NoSlot : mg "NoSlot" = some (.ref (aF K "NoSlot"))
  g_Full : mg "Full" = some (.ref (aF K "Full"))
  g_NoRoot : mg "NoRoot" = some (.ref (aF K "NoRoot"))
  g_NoSize : mg "NoSize" = some (.ref (aF K "NoSize"))
  g_NoNumber : mg "NoNumber" = some (.ref (aF K "NoNumber"))
  m_write_root : Meth K (aC K) "write_root" (aM K "write_root")
  m_write_slot : Meth K (aC K) "write_slot" (aM K "write_slot")
  m_release : Meth K (aC K) "release" (aM K "release")
  m_ask_root : Meth K (aC K) "ask_root" (aM K "ask_root")
  m_cell_at : Meth K (aC K) "cell_at" (aM K "cell_at")
  m_slot_at : Meth K (aC K) "slot_at" (aM K "slot_at")
  m_told : Meth K (aC K) "told" (aM K "told")
  m_room_for : Meth K (aC K) "room_for" (aM K "room_for")
  m_where : Meth K (aC K) "where" (aM K "where")
  m_slots_at : Meth K (aC K) "slots_at" (aM K "slots_at")
  m_picture : Meth K (aC K) "picture" (aM K "picture")
  m_inner : Meth K (aC K) "inner" (aM K "inner")
  m_outer : Meth K (aC K) "outer" (aM K "outer")
  m_saved : Meth K (aC K) "saved" (aM K "saved")
  m_free_up : Meth K (aC K) "free_up" (aM K "free_up")
  m_glean : Meth K (aC K) "glean" (aM K "glean")
  m_collect : Meth K (aC K) "collect" (aM K "collect")
  m_placed : Meth K (aC K) "placed" (aM K "placed")
  m_more : Meth K (aC K) "more" (aM K "more")
  m_less : Meth K (aC K) "less" (aM K "less")
  m_set_root : Meth K (aC K) "set_root" (aM K "set_root")
  m_make : Meth K (aC K) "make" (aM K "make")
  m_number : Meth K (aC K) "number" (aM K "number")
  m_clear : Meth K (aC K) "clear" (aM K "clear")
  m_pass_on : Meth K (aC K) "pass_on" (aM K "pass_on")
  m_set_slot : Meth K (aC K) "set_slot" (aM K "set_slot")
  m_put : Meth K (aC K) "put" (aM K "put")
  m_take : Meth K (aC K) "take" (aM K "take")
  m_value : Meth K (aC K) "value" (aM K "value")
  m_same : Meth K (aC K) "same" (aM K "same")
  m_names : Meth K (aC K) "names" (aM K "names")
  m_swept : Meth K (aC K) "swept" (aM K "swept")
  m_paper : Meth K (aC K) "paper" (aM K "paper")
  m_counts : Meth K (aC K) "counts" (aM K "counts")
  x_NoCell : PySem.W.excIn K (aF K "NoCell") He.veBase "ValueError.__new__" = true ∧ PySem.W.keepIn K (.ref (aF K "NoCell")) = true ∧ PySem.W.subIn K (.ref (aF K "NoCell")) (.type "BaseException") = some true ∧ PySem.W.typeIn K (.ref (aF K "NoCell")) = some (.type "type")
  x_NoSlot : PySem.W.excIn K (aF K "NoSlot") He.veBase "ValueError.__new__" = true ∧ PySem.W.keepIn K (.ref (aF K "NoSlot")) = true ∧ PySem.W.subIn K (.ref (aF K "NoSlot")) (.type "BaseException") = some true ∧ PySem.W.typeIn K (.ref (aF K "NoSlot")) = some (.type "type")
  x_Full : PySem.W.excIn K (aF K "Full") He.veBase "ValueError.__new__" = true ∧ PySem.W.keepIn K (.ref (aF K "Full")) = true ∧ PySem.W.subIn K (.ref (aF K "Full")) (.type "BaseException") = some true ∧ PySem.W.typeIn K (.ref (aF K "Full")) = some (.type "type")
  e_NoCell_NoRoot : PySem.W.exmOne K (.ref (aF K "NoCell")) (.ref (aF K "NoRoot")) = some false
  e_NoCell_NoSize : PySem.W.exmOne K (.ref (aF K "NoCell")) (.ref (aF K "NoSize")) = some false
  e_NoCell_NoNumber : PySem.W.exmOne K (.ref (aF K "NoCell")) (.ref (aF K "NoNumber")) = some false
  e_NoCell_NoCell : PySem.W.exmOne K (.ref (aF K "NoCell")) (.ref (aF K "NoCell")) = some true
  e_NoSlot_NoRoot : PySem.W.exmOne K (.ref (aF K "NoSlot")) (.ref (aF K "NoRoot")) = some false
  e_NoSlot_NoSize : PySem.W.exmOne K (.ref (aF K "NoSlot")) (.ref (aF K "NoSize")) = some false
  e_NoSlot_NoNumber : PySem.W.exmOne K (.ref (aF K "NoSlot")) (.ref (aF K "NoNumber")) = some false
  e_NoSlot_NoCell : PySem.W.exmOne K (.ref (aF K "NoSlot")) (.ref (aF K "NoCell")) = some false
  e_NoSlot_NoSlot : PySem.W.exmOne K (.ref (aF K "NoSlot")) (.ref (aF K "NoSlot")) = some true
  e_Full_NoRoot : PySem.W.exmOne K (.ref (aF K "Full")) (.ref (aF K "NoRoot")) = some false
  e_Full_NoSize : PySem.W.exmOne K (.ref (aF K "Full")) (.ref (aF K "NoSize")) = some false
  e_Full_NoNumber : PySem.W.exmOne K (.ref (aF K "Full")) (.ref (aF K "NoNumber")) = some false
  e_Full_NoCell : PySem.W.exmOne K (.ref (aF K "Full")) (.ref (aF K "NoCell")) = some false
  e_Full_NoSlot : PySem.W.exmOne K (.ref (aF K "Full")) (.ref (aF K "NoSlot")) = some false
  e_Full_Full : PySem.W.exmOne K (.ref (aF K "Full")) (.ref (aF K "Full")) = some true
  yr : ClX.CRead K (aY K) (.type "type")
  yv : ClX.CVal K (aY K) (.type "type") "__init__" (.ref (He.ma K (aY K) "__init__")) (.ref (He.ma K (aY K) "__init__")) ∧ PySem.W.keepIn K (.ref (He.ma K (aY K) "__init__")) = true
theorem Txt.k {K : PySem.W.Frag} {mg : Str → Option Value} (T : Txt K mg) : Tk K := ⟨T.cl, T.a_words, T.a_roots, T.a_born, T.a_gone, T.a_last, T.a_free, T.a_led_in, T.a_room, T.e_NoCell_NoRoot, T.e_NoCell_NoSize, T.e_NoCell_NoNumber, T.e_NoCell_NoCell, T.e_NoSlot_NoRoot, T.e_NoSlot_NoSize, T.e_NoSlot_NoNumber, T.e_NoSlot_NoCell, T.e_NoSlot_NoSlot, T.e_Full_NoRoot, T.e_Full_NoSize, T.e_Full_NoNumber, T.e_Full_NoCell, T.e_Full_NoSlot, T.e_Full_Full⟩
end Gy

set_option Elab.async false
set_option linter.all false
set_option maxRecDepth 100000
set_option maxHeartbeats 4000000

namespace Gy
open PySem PySem.Spec PyProof.Rows L2
open Evl (rLenS rListS rMax2)
open C8 (pe_gc)

theorem sc_is_value : FnScope n_is_value ["value", "names"] (defScope s_is_value) := ⟨rfl, rfl, rfl, by decide +kernel, rfl, by decide +kernel, by decide +kernel⟩
theorem d_is_value {P : Program} {w : World} {K : PySem.W.Frag} {mg : Str → Option Value} {base : Heap} (T : Txt K mg)  {f : Addr} {cdv : Value} {A : Around} {outer : List Env} {s : Shared} {H : Hp} {E : XK}
    (hr : Room 0 (A.deeper (envOfC "is_value" (defScope s_is_value) s.heap.objs.size f cdv))) :
    PSs (cxOf CX0 P w K mg base n_is_value "is_value" (defScope s_is_value) f cdv A outer s H E).nox (defBody s_is_value) (t_is_value K) := by
  have nd := sc_is_value.nd
  exact (pss_cons (ps_if (pt_cmpR op_isN1 (pv 0) pe_non (nomark _))
    (pss_one (ps_ret pe_bl))
    pss_nil)
    (pss_cons (ps_if (pt_cmpR op_eq (pe_ix ix_tup (pv 0) pe_int (fun _ _ => rfl)) pe_str (nomark _))
    (pss_one (ps_ret (pe_chain op_le op_le (pe_un un_neg (pe_gc rfl T.i_GREATEST)) (pe_ix ix_tup (pv 0) pe_int (fun _ _ => rfl)) (pe_gc rfl T.i_GREATEST))))
    pss_nil)
    (pss_one (ps_ret (pe_and (pe_cmpR op_eq (pe_ix ix_tup (pv 0) pe_int (fun _ _ => rfl)) pe_str (nomark _)) (pe_one (pe_cmpR op_in_seq (pe_ix ix_tup (pv 0) pe_int (fun _ _ => rfl)) (pv 1) (by rfl))))))))
theorem sc_first_fit : FnScope n_first_fit ["free", "many"] (defScope s_first_fit) := ⟨rfl, rfl, rfl, by decide +kernel, rfl, by decide +kernel, by decide +kernel⟩
theorem d_first_fit {P : Program} {w : World} {K : PySem.W.Frag} {mg : Str → Option Value} {base : Heap} (T : Txt K mg)  {f : Addr} {cdv : Value} {A : Around} {outer : List Env} {s : Shared} {H : Hp} {E : XK}
    (hr : Room 0 (A.deeper (envOfC "first_fit" (defScope s_first_fit) s.heap.objs.size f cdv))) :
    PSs (cxOf CX0 P w K mg base n_first_fit "first_fit" (defScope s_first_fit) f cdv A outer s H E).nox (defBody s_first_fit) (t_first_fit K) := by
  have nd := sc_first_fit.nd
  exact (pss_cons (ps_for PassesOwn.never rfl (pi_list (pv 0)) (pg_name (i := 2) nd rfl (Or.inl rfl))
    (pss_one (ps_if (pt_cmpR op_ge (pe_ix ix_tup (pv 2) pe_int (fun _ _ => rfl)) (pv 1) (nomark _))
    (pss_one (ps_ret (pe_ix ix_tup (pv 2) pe_int (fun _ _ => rfl))))
    pss_nil)))
    (pss_one (ps_ret pe_non)))
theorem sc_write_slot : FnScope n_write_slot ["self", "address", "slot", "value"] (defScope s_write_slot) := ⟨rfl, rfl, rfl, by decide +kernel, rfl, by decide +kernel, by decide +kernel⟩
theorem d_write_slot {P : Program} {w : World} {K : PySem.W.Frag} {mg : Str → Option Value} {base : Heap} (T : Txt K mg)  {f : Addr} {cdv : Value} {A : Around} {outer : List Env} {s : Shared} {H : Hp} {E : XK}
    (hr : Room 0 (A.deeper (envOfC "Yard.write_slot" (defScope s_write_slot) s.heap.objs.size f cdv))) :
    PSs (cxOf CX0 P w K mg base n_write_slot "Yard.write_slot" (defScope s_write_slot) f cdv A outer s H E).nox (defBody s_write_slot) (t_write_slot K) := by
  have nd := sc_write_slot.nd
  exact (pss_one (ps_asg (pv 3) (pg_sub (pe_fld (pv 0) rfl) (pe_op op_add (pe_op op_add (pv 1) pe_int) (pv 2)) set_list)))
theorem sc_room_for : FnScope n_room_for ["self", "size"] (defScope s_room_for) := ⟨rfl, rfl, rfl, by decide +kernel, rfl, by decide +kernel, by decide +kernel⟩
theorem d_room_for {P : Program} {w : World} {K : PySem.W.Frag} {mg : Str → Option Value} {base : Heap} (T : Txt K mg) (c_first_fit : OkA CX0 P w K mg base 1 (aF K "first_fit") (sp_first_fit K)) {f : Addr} {cdv : Value} {A : Around} {outer : List Env} {s : Shared} {H : Hp} {E : XK}
    (hr : Room 1 (A.deeper (envOfC "Counts.room_for" (defScope s_room_for) s.heap.objs.size f cdv))) :
    PSs (cxOf CX0 P w K mg base n_room_for "Counts.room_for" (defScope s_room_for) f cdv A outer s H E).nox (defBody s_room_for) (t_room_for K) := by
  have nd := sc_room_for.nd
  exact (pss_one (ps_ret (pc c_first_fit hr T.g_first_fit T.k_first_fit (pa_cons (pe_fld (pv 0) rfl) (pa_cons (pe_op op_add (pv 1) pe_int) pa_nil)))))
theorem sc_saved : FnScope n_saved ["self"] (defScope s_saved) := ⟨rfl, rfl, rfl, by decide +kernel, rfl, by decide +kernel, by decide +kernel⟩
theorem d_saved {P : Program} {w : World} {K : PySem.W.Frag} {mg : Str → Option Value} {base : Heap} (T : Txt K mg) (c_outer : OkA CX0 P w K mg base 2 (aM K "outer") (sp_outer K)) (c_inner : OkA CX0 P w K mg base 1 (aM K "inner") (sp_inner K)) {f : Addr} {cdv : Value} {A : Around} {outer : List Env} {s : Shared} {H : Hp} {E : XK}
    (hr : Room 2 (A.deeper (envOfC "Counts.saved" (defScope s_saved) s.heap.objs.size f cdv))) :
    PSs (cxOf CX0 P w K mg base n_saved "Counts.saved" (defScope s_saved) f cdv A outer s H E).nox (defBody s_saved) (t_saved K) := by
  have nd := sc_saved.nd
  exact (pss_cons (ps_set (i := 1) nd rfl (Or.inr rfl) (pm0 c_outer T.cl T.m_outer hr (pv 0)))
    (pss_cons (ps_setLc (i := 2) (own := [("address", 5)]) (g := (gName 5)) (tt := (tTest (tOp rGtI (tDGet (tVar 1) (tVar 5)) (tC (.int 0))))) rfl nd rfl rfl (sw_true rfl rfl rfl (by decide +kernel)) (pi_list (pe_callB cr_sortedI (by rfl) T.n_sorted (by decide +kernel) (pa_cons (pe_callTy (call_list_dK rfl) (by rfl) T.n_list (by decide +kernel) (pa_cons (pv 1) pa_nil)) pa_nil))) (blkOk_by (N := n_saved) (sc := defScope s_saved) (by decide +kernel)) (fun _ _ _ _ _ => (pg_name (i := 5) nd rfl (Or.inl rfl))) (fun _ _ _ _ _ => pts_one (pt_cmpR op_gt (pe_dget (hu_of hr) (pv 1) (pv 5) (fun _ _ => rfl)) pe_int (nomark _))) (fun _ _ _ _ _ => (pv 5)))
    (pss_cons (ps_set (i := 3) nd rfl (Or.inl rfl) pe_int)
    (pss_cons (ps_while PassesOwn.never (pt_cmpR op_lt (pv 3) (pe_callB call_len_seq (by rfl) T.n_len (by decide +kernel) (pa_cons (pv 2) pa_nil)) (nomark _))
    (pss_cons (ps_for PassesOwn.never rfl (pi_list (pm c_inner T.cl T.m_inner hr  (pv 0) (pa_cons (pe_ix ix_list (pv 2) (pv 3) (fun _ _ => rfl)) pa_nil))) (pg_name (i := 4) nd rfl (Or.inl rfl))
    (pss_one (ps_if (pt_cmpR op_notIn_seq (pv 4) (pv 2) (by rfl))
    (pss_one (ps_expr (pe_bm PySem.F.plainAttrs_list PySem.F.slot_list_append PySem.F.type_list_append mt_append (pv 2) (pa_cons (pv 4) pa_nil))))
    pss_nil)))
    (pss_one (ps_set (i := 3) nd rfl (Or.inl rfl) (pe_op op_add (pv 3) pe_int)))))
    (pss_one (ps_ret (pv 2)))))))
theorem sc_less : FnScope n_less ["self", "value"] (defScope s_less) := ⟨rfl, rfl, rfl, by decide +kernel, rfl, by decide +kernel, by decide +kernel⟩
theorem d_less {P : Program} {w : World} {K : PySem.W.Frag} {mg : Str → Option Value} {base : Heap} (T : Txt K mg) (c_free_up : OkA CX0 P w K mg base 2 (aM K "free_up") (sp_free_up K)) {f : Addr} {cdv : Value} {A : Around} {outer : List Env} {s : Shared} {H : Hp} {E : XK}
    (hr : Room 2 (A.deeper (envOfC "Counts.less" (defScope s_less) s.heap.objs.size f cdv))) :
    PSs (cxOf CX0 P w K mg base n_less "Counts.less" (defScope s_less) f cdv A outer s H E).nox (defBody s_less) (t_less K) := by
  have nd := sc_less.nd
  exact (pss_cons (ps_set (i := 2) nd rfl (Or.inl rfl) (pe_lst (pa_cons (pv 1) pa_nil)))
    (pss_one (ps_while PassesOwn.never (pt_cmpR op_gt (pe_callB call_len_seq (by rfl) T.n_len (by decide +kernel) (pa_cons (pv 2) pa_nil)) pe_int (nomark _))
    (pss_cons (ps_set (i := 3) nd rfl (Or.inl rfl) (pe_bm PySem.F.plainAttrs_list PySem.F.slot_list_pop PySem.F.type_list_pop mt_popAt (pv 2) (pa_cons pe_int pa_nil)))
    (pss_one (ps_if (PW.pt (pw_and (pt_cmpR op_notN1 (pv 3) pe_non (nomark _)) (pw_and1 (pt_cmpR op_eq (pe_ix ix_tup (pv 3) pe_int (fun _ _ => rfl)) pe_str (nomark _)))))
    (pss_cons (ps_dput (hu_of hr) (pe_fld (pv 0) rfl) (pe_ix ix_tup (pv 3) pe_int (fun _ _ => rfl)) (pe_op op_sub (pe_dget (hu_of hr) (pe_fld (pv 0) rfl) (pe_ix ix_tup (pv 3) pe_int (fun _ _ => rfl)) (fun _ _ => rfl)) pe_int) rfl)
    (pss_one (ps_if (pt_cmpR op_eq (pe_dget (hu_of hr) (pe_fld (pv 0) rfl) (pe_ix ix_tup (pv 3) pe_int (fun _ _ => rfl)) (fun _ _ => rfl)) pe_int (nomark _))
    (pss_cons (ps_expr (pe_bm PySem.F.plainAttrs_list PySem.F.slot_list_extend PySem.F.type_list_extend mt_extend (pv 2) (pa_cons (pe_slice sl_list (pe_fld (pv 0) rfl) (po_some (pe_op op_add (pe_ix ix_tup (pv 3) pe_int (fun _ _ => rfl)) pe_int)) (po_some (pe_op op_add (pe_op op_add (pe_ix ix_tup (pv 3) pe_int (fun _ _ => rfl)) pe_int) (pe_ix ix_tup (pe_ix ix_list (pe_fld (pv 0) rfl) (pe_ix ix_tup (pv 3) pe_int (fun _ _ => rfl)) (fun _ _ => rfl)) pe_int (fun _ _ => rfl))))) pa_nil)))
    (pss_one (ps_expr (pm c_free_up T.cl T.m_free_up hr  (pv 0) (pa_cons (pe_ix ix_tup (pv 3) pe_int (fun _ _ => rfl)) pa_nil)))))
    pss_nil)))
    pss_nil))))))
theorem sc_set_slot : FnScope n_set_slot ["self", "address", "slot", "value"] (defScope s_set_slot) := ⟨rfl, rfl, rfl, by decide +kernel, rfl, by decide +kernel, by decide +kernel⟩
theorem d_set_slot {P : Program} {w : World} {K : PySem.W.Frag} {mg : Str → Option Value} {base : Heap} (T : Txt K mg) (c_more : OkA CX0 P w K mg base 1 (aM K "more") (sp_more K)) (c_write_slot : OkA CX0 P w K mg base 1 (aM K "write_slot") (sp_write_slot K)) (c_less : OkA CX0 P w K mg base 3 (aM K "less") (sp_less K)) {f : Addr} {cdv : Value} {A : Around} {outer : List Env} {s : Shared} {H : Hp} {E : XK}
    (hr : Room 3 (A.deeper (envOfC "Counts.set_slot" (defScope s_set_slot) s.heap.objs.size f cdv))) :
    PSs (cxOf CX0 P w K mg base n_set_slot "Counts.set_slot" (defScope s_set_slot) f cdv A outer s H E).nox (defBody s_set_slot) (t_set_slot K) := by
  have nd := sc_set_slot.nd
  exact (pss_cons (ps_set (i := 4) nd rfl (Or.inl rfl) (pe_ix ix_list (pe_fld (pv 0) rfl) (pe_op op_add (pe_op op_add (pv 1) pe_int) (pv 2)) (fun _ _ => rfl)))
    (pss_cons (ps_expr (pm c_more T.cl T.m_more hr  (pv 0) (pa_cons (pv 3) pa_nil)))
    (pss_cons (ps_expr (pm c_write_slot T.cl T.m_write_slot hr  (pv 0) (pa_cons (pv 1) (pa_cons (pv 2) (pa_cons (pv 3) pa_nil)))))
    (pss_one (ps_expr (pm c_less T.cl T.m_less hr  (pv 0) (pa_cons (pv 4) pa_nil)))))))
theorem sc_swept : FnScope n_swept ["self"] (defScope s_swept) := ⟨rfl, rfl, rfl, by decide +kernel, rfl, by decide +kernel, by decide +kernel⟩
theorem d_swept {P : Program} {w : World} {K : PySem.W.Frag} {mg : Str → Option Value} {base : Heap} (T : Txt K mg)  {f : Addr} {cdv : Value} {A : Around} {outer : List Env} {s : Shared} {H : Hp} {E : XK}
    (hr : Room 0 (A.deeper (envOfC "Yard.swept" (defScope s_swept) s.heap.objs.size f cdv))) :
    PSs (cxOf CX0 P w K mg base n_swept "Yard.swept" (defScope s_swept) f cdv A outer s H E).nox (defBody s_swept) (t_swept K) := by
  have nd := sc_swept.nd
  exact (pss_one (ps_ret (pe_callTy call_list_of (by rfl) T.n_list (by decide +kernel) (pa_cons (pe_fld (pv 0) rfl) pa_nil))))
theorem sc_law_cell_at : FnScope n_law_cell_at ["script", "k"] (defScope s_law_cell_at) := ⟨rfl, rfl, rfl, by decide +kernel, rfl, by decide +kernel, by decide +kernel⟩
theorem d_law_cell_at {P : Program} {w : World} {K : PySem.W.Frag} {mg : Str → Option Value} {base : Heap} (T : Txt K mg)  {f : Addr} {cdv : Value} {A : Around} {outer : List Env} {s : Shared} {H : Hp} {E : XK}
    (hr : Room 0 (A.deeper (envOfC "_law_cell_at" (defScope s_law_cell_at) s.heap.objs.size f cdv))) :
    PSs (cxOf CX0 P w K mg base n_law_cell_at "_law_cell_at" (defScope s_law_cell_at) f cdv A outer s H E).nox (defBody s_law_cell_at) (t_law_cell_at K) := by
  have nd := sc_law_cell_at.nd
  exact (pss_cons (ps_if (pt_cmpR op_lt (pv 1) (pe_callB call_len_seq (by rfl) T.n_len (by decide +kernel) (pa_cons (pv 0) pa_nil)) (nomark _))
    (pss_one (ps_ret (pe_ix ix_list (pv 0) (pv 1) (fun _ _ => rfl))))
    pss_nil)
    (pss_one (ps_ret pe_int)))
theorem sc_law_name : FnScope n_law_name ["value"] (defScope s_law_name) := ⟨rfl, rfl, rfl, by decide +kernel, rfl, by decide +kernel, by decide +kernel⟩
theorem d_law_name {P : Program} {w : World} {K : PySem.W.Frag} {mg : Str → Option Value} {base : Heap} (T : Txt K mg)  {f : Addr} {cdv : Value} {A : Around} {outer : List Env} {s : Shared} {H : Hp} {E : XK}
    (hr : Room 0 (A.deeper (envOfC "_law_name" (defScope s_law_name) s.heap.objs.size f cdv))) :
    PSs (cxOf CX0 P w K mg base n_law_name "_law_name" (defScope s_law_name) f cdv A outer s H E).nox (defBody s_law_name) (t_law_name K) := by
  have nd := sc_law_name.nd
  exact (pss_cons (ps_if (PW.pt (pw_and (pt_cmpR op_notN1 (pv 0) pe_non (nomark _)) (pw_and1 (pt_cmpR op_eq (pe_ix ix_tup (pv 0) pe_int (fun _ _ => rfl)) pe_str (nomark _)))))
    (pss_one (ps_ret (pe_ix ix_tup (pv 0) pe_int (fun _ _ => rfl))))
    pss_nil)
    (pss_one (ps_ret (pe_un un_neg pe_int))))
end Gy

set_option Elab.async false
set_option linter.all false
set_option maxRecDepth 100000
set_option maxHeartbeats 4000000

namespace Gy
open PySem PySem.Spec PyProof.Rows L2
open Evl (rLenS rListS rMax2)
open C8 (pe_gc)

theorem sc_is_picture : FnScope n_is_picture ["roots", "cells"] (defScope s_is_picture) := ⟨rfl, rfl, rfl, by decide +kernel, rfl, by decide +kernel, by decide +kernel⟩
theorem d_is_picture {P : Program} {w : World} {K : PySem.W.Frag} {mg : Str → Option Value} {base : Heap} (T : Txt K mg) (c_is_value : OkA CX0 P w K mg base 1 (aF K "is_value") (sp_is_value K)) {f : Addr} {cdv : Value} {A : Around} {outer : List Env} {s : Shared} {H : Hp} {E : XK}
    (hr : Room 1 (A.deeper (envOfC "is_picture" (defScope s_is_picture) s.heap.objs.size f cdv))) :
    PSs (cxOf CX0 P w K mg base n_is_picture "is_picture" (defScope s_is_picture) f cdv A outer s H E).nox (defBody s_is_picture) (t_is_picture K w) := by
  have nd := sc_is_picture.nd
  exact (pss_cons (ps_set (i := 2) nd rfl (Or.inr rfl) (pe_lc (own := [("cell", 5)]) (g := (gName 5)) (tt := tYes) rfl nd (pi_list (pv 1)) (blkOk_by (N := n_is_picture) (sc := defScope s_is_picture) (by decide +kernel)) (fun _ _ _ _ _ => (pg_name (i := 5) nd rfl (Or.inl rfl))) (fun _ _ _ _ _ => pts_nil) (fun _ _ _ _ _ => (pe_ix ix_tup (pv 5) pe_int (fun _ _ => rfl)))))
    (pss_cons (ps_if (PW.pt (pw_or (pt_cmpR op_ne (pe_callB call_len_seq (by rfl) T.n_len (by decide +kernel) (pa_cons (pv 0) pa_nil)) (pe_gc rfl T.i_ROOTS) (nomark _)) (pw_or1 (pt_cmpR (op_neD hr.units) (pv 2) (pe_callB (cr_sortedSet rfl) (by rfl) T.n_sorted (by decide +kernel) (pa_cons (pe_callTy (cr_setI rfl) (by rfl) T.n_set (by decide +kernel) (pa_cons (pv 2) pa_nil)) pa_nil)) (nomark _)))))
    (pss_one (ps_ret pe_bl))
    pss_nil)
    (pss_cons (ps_if (PW.pt (pw_and (pt_cmpR op_gt (pe_callB call_len_seq (by rfl) T.n_len (by decide +kernel) (pa_cons (pv 2) pa_nil)) pe_int (nomark _)) (pw_and1 (pt_cmpR op_lt (pe_ix ix_list (pv 2) pe_int (fun _ _ => rfl)) pe_int (nomark _)))))
    (pss_one (ps_ret pe_bl))
    pss_nil)
    (pss_cons (ps_for PassesOwn.never rfl (pi_list (pv 1)) (pg_tup rfl (pgs_cons (pg_name (i := 3) nd rfl (Or.inl rfl)) (pgs_cons (pg_name (i := 4) nd rfl (Or.inl rfl)) pgs_nil)))
    (pss_one (ps_if (PW.pt (pw_or (pt_cmpR op_gt (pe_callB call_len_seq (by rfl) T.n_len (by decide +kernel) (pa_cons (pv 4) pa_nil)) (pe_gc rfl T.i_MOST_SIZE) (nomark _)) (pw_or1 (pt_not (pt_val (pe_callB (cr_all rfl) (by rfl) T.n_all (by decide +kernel) (pa_cons (pe_lc (own := [("value", 6)]) (g := (gName 6)) (tt := tYes) rfl nd (pi_list (pv 4)) (blkOk_by (N := n_is_picture) (sc := defScope s_is_picture) (by decide +kernel)) (fun _ _ _ _ _ => (pg_name (i := 6) nd rfl (Or.inl rfl))) (fun _ _ _ _ _ => pts_nil) (fun _ _ _ _ _ => (pc c_is_value hr T.g_is_value T.k_is_value (pa_cons (pv 6) (pa_cons (pv 2) pa_nil))))) pa_nil)))))))
    (pss_one (ps_ret pe_bl))
    pss_nil)))
    (pss_one (ps_ret (pe_callB (cr_all rfl) (by rfl) T.n_all (by decide +kernel) (pa_cons (pe_lc (own := [("value", 6)]) (g := (gName 6)) (tt := tYes) rfl nd (pi_list (pv 0)) (blkOk_by (N := n_is_picture) (sc := defScope s_is_picture) (by decide +kernel)) (fun _ _ _ _ _ => (pg_name (i := 6) nd rfl (Or.inl rfl))) (fun _ _ _ _ _ => pts_nil) (fun _ _ _ _ _ => (pc c_is_value hr T.g_is_value T.k_is_value (pa_cons (pv 6) (pa_cons (pv 2) pa_nil))))) pa_nil))))))))
theorem sc_covering : FnScope n_covering ["free", "first", "many"] (defScope s_covering) := ⟨rfl, rfl, rfl, by decide +kernel, rfl, by decide +kernel, by decide +kernel⟩
theorem d_covering {P : Program} {w : World} {K : PySem.W.Frag} {mg : Str → Option Value} {base : Heap} (T : Txt K mg)  {f : Addr} {cdv : Value} {A : Around} {outer : List Env} {s : Shared} {H : Hp} {E : XK}
    (hr : Room 0 (A.deeper (envOfC "covering" (defScope s_covering) s.heap.objs.size f cdv))) :
    PSs (cxOf CX0 P w K mg base n_covering "covering" (defScope s_covering) f cdv A outer s H E).nox (defBody s_covering) (t_covering K) := by
  have nd := sc_covering.nd
  exact (pss_cons (ps_for PassesOwn.never rfl (pi_range1 rfl T.n_range (pa_cons (pe_callB call_len_seq (by rfl) T.n_len (by decide +kernel) (pa_cons (pv 0) pa_nil)) pa_nil)) (pg_name (i := 3) nd rfl (Or.inl rfl))
    (pss_one (ps_if (PW.pt (pw_and (pt_cmpR op_le (pe_ix ix_tup (pe_ix ix_list (pv 0) (pv 3) (fun _ _ => rfl)) pe_int (fun _ _ => rfl)) (pv 1) (nomark _)) (pw_and1 (pt_cmpR op_le (pe_op op_add (pv 1) (pv 2)) (pe_op op_add (pe_ix ix_tup (pe_ix ix_list (pv 0) (pv 3) (fun _ _ => rfl)) pe_int (fun _ _ => rfl)) (pe_ix ix_tup (pe_ix ix_list (pv 0) (pv 3) (fun _ _ => rfl)) pe_int (fun _ _ => rfl))) (nomark _)))))
    (pss_one (ps_ret (pv 3)))
    pss_nil)))
    (pss_one (ps_ret pe_non)))
theorem sc_release : FnScope n_release ["self", "address"] (defScope s_release) := ⟨rfl, rfl, rfl, by decide +kernel, rfl, by decide +kernel, by decide +kernel⟩
theorem d_release {P : Program} {w : World} {K : PySem.W.Frag} {mg : Str → Option Value} {base : Heap} (T : Txt K mg)  {f : Addr} {cdv : Value} {A : Around} {outer : List Env} {s : Shared} {H : Hp} {E : XK}
    (hr : Room 0 (A.deeper (envOfC "Yard.release" (defScope s_release) s.heap.objs.size f cdv))) :
    PSs (cxOf CX0 P w K mg base n_release "Yard.release" (defScope s_release) f cdv A outer s H E).nox (defBody s_release) (t_release K) := by
  have nd := sc_release.nd
  exact (pss_cons (ps_set (i := 2) nd rfl (Or.inl rfl) (pe_ix ix_list (pe_fld (pv 0) rfl) (pv 1) (fun _ _ => rfl)))
    (pss_cons (ps_for PassesOwn.never rfl (pi_range2 rfl T.n_range (pa_cons (pv 1) (pa_cons (pe_op op_add (pe_op op_add (pv 1) (pe_ix ix_tup (pv 2) pe_int (fun _ _ => rfl))) pe_int) pa_nil))) (pg_name (i := 3) nd rfl (Or.inl rfl))
    (pss_one (ps_asg pe_non (pg_sub (pe_fld (pv 0) rfl) (pv 3) set_list))))
    (pss_one (ps_expr (pe_bm PySem.F.plainAttrs_list PySem.F.slot_list_append PySem.F.type_list_append mt_append (pe_fld (pv 0) rfl) (pa_cons (pe_ix ix_tup (pv 2) pe_int (fun _ _ => rfl)) pa_nil))))))
theorem sc_where : FnScope n_where ["self"] (defScope s_where) := ⟨rfl, rfl, rfl, by decide +kernel, rfl, by decide +kernel, by decide +kernel⟩
theorem d_where {P : Program} {w : World} {K : PySem.W.Frag} {mg : Str → Option Value} {base : Heap} (T : Txt K mg)  {f : Addr} {cdv : Value} {A : Around} {outer : List Env} {s : Shared} {H : Hp} {E : XK}
    (hr : Room 0 (A.deeper (envOfC "Yard.where" (defScope s_where) s.heap.objs.size f cdv))) :
    PSs (cxOf CX0 P w K mg base n_where "Yard.where" (defScope s_where) f cdv A outer s H E).nox (defBody s_where) (t_where K) := by
  have nd := sc_where.nd
  exact (pss_cons (ps_set (i := 1) nd rfl (Or.inl rfl) (pe_lst pa_nil))
    (pss_cons (ps_for PassesOwn.never rfl (pi_range1 rfl T.n_range (pa_cons (pe_callB call_len_seq (by rfl) T.n_len (by decide +kernel) (pa_cons (pe_fld (pv 0) rfl) pa_nil)) pa_nil)) (pg_name (i := 2) nd rfl (Or.inl rfl))
    (pss_cons (ps_set (i := 3) nd rfl (Or.inl rfl) (pe_ix ix_list (pe_fld (pv 0) rfl) (pv 2) (fun _ _ => rfl)))
    (pss_one (ps_if (PW.pt (pw_and (pt_cmpR op_notN1 (pv 3) pe_non (nomark _)) (pw_and1 (pt_cmpR op_eq (pe_ix ix_tup (pv 3) pe_int (fun _ _ => rfl)) pe_str (nomark _)))))
    (pss_one (ps_expr (pe_bm PySem.F.plainAttrs_list PySem.F.slot_list_append PySem.F.type_list_append mt_append (pv 1) (pa_cons (pe_tup (pa_cons (pe_ix ix_tup (pv 3) pe_int (fun _ _ => rfl)) (pa_cons (pv 2) pa_nil))) pa_nil))))
    pss_nil))))
    (pss_one (ps_ret (pe_callB cr_sortedPO (by rfl) T.n_sorted (by decide +kernel) (pa_cons (pv 1) pa_nil))))))
theorem sc_free_up : FnScope n_free_up ["self", "address"] (defScope s_free_up) := ⟨rfl, rfl, rfl, by decide +kernel, rfl, by decide +kernel, by decide +kernel⟩
theorem d_free_up {P : Program} {w : World} {K : PySem.W.Frag} {mg : Str → Option Value} {base : Heap} (T : Txt K mg) (c_release : OkA CX0 P w K mg base 1 (aM K "release") (sp_release K)) (c_joined : OkA CX0 P w K mg base 1 (aF K "joined") (sp_joined K)) {f : Addr} {cdv : Value} {A : Around} {outer : List Env} {s : Shared} {H : Hp} {E : XK}
    (hr : Room 1 (A.deeper (envOfC "Counts.free_up" (defScope s_free_up) s.heap.objs.size f cdv))) :
    PSs (cxOf CX0 P w K mg base n_free_up "Counts.free_up" (defScope s_free_up) f cdv A outer s H E).nox (defBody s_free_up) (t_free_up K) := by
  have nd := sc_free_up.nd
  exact (pss_cons (ps_set (i := 2) nd rfl (Or.inl rfl) (pe_ix ix_list (pe_fld (pv 0) rfl) (pv 1) (fun _ _ => rfl)))
    (pss_cons (ps_expr (pm c_release T.cl T.m_release hr  (pv 0) (pa_cons (pv 1) pa_nil)))
    (pss_cons (ps_fld (pv 0) (pc c_joined hr T.g_joined T.k_joined (pa_cons (pe_fld (pv 0) rfl) (pa_cons (pv 1) (pa_cons (pe_op op_add (pe_ix ix_tup (pv 2) pe_int (fun _ _ => rfl)) pe_int) pa_nil)))) rfl)
    (pss_one (ps_expr (pe_dpop1 (pe_fld (pv 0) rfl) (pv 1) ⟨by rfl, by rfl, by rfl, by rfl⟩))))))
theorem sc_set_root : FnScope n_set_root ["self", "k", "value"] (defScope s_set_root) := ⟨rfl, rfl, rfl, by decide +kernel, rfl, by decide +kernel, by decide +kernel⟩
theorem d_set_root {P : Program} {w : World} {K : PySem.W.Frag} {mg : Str → Option Value} {base : Heap} (T : Txt K mg) (c_more : OkA CX0 P w K mg base 1 (aM K "more") (sp_more K)) (c_write_root : OkA CX0 P w K mg base 1 (aM K "write_root") (sp_write_root K)) (c_less : OkA CX0 P w K mg base 3 (aM K "less") (sp_less K)) {f : Addr} {cdv : Value} {A : Around} {outer : List Env} {s : Shared} {H : Hp} {E : XK}
    (hr : Room 3 (A.deeper (envOfC "Counts.set_root" (defScope s_set_root) s.heap.objs.size f cdv))) :
    PSs (cxOf CX0 P w K mg base n_set_root "Counts.set_root" (defScope s_set_root) f cdv A outer s H E).nox (defBody s_set_root) (t_set_root K) := by
  have nd := sc_set_root.nd
  exact (pss_cons (ps_set (i := 3) nd rfl (Or.inl rfl) (pe_ix ix_list (pe_fld (pv 0) rfl) (pv 1) (fun _ _ => rfl)))
    (pss_cons (ps_expr (pm c_more T.cl T.m_more hr  (pv 0) (pa_cons (pv 2) pa_nil)))
    (pss_cons (ps_expr (pm c_write_root T.cl T.m_write_root hr  (pv 0) (pa_cons (pv 1) (pa_cons (pv 2) pa_nil))))
    (pss_one (ps_expr (pm c_less T.cl T.m_less hr  (pv 0) (pa_cons (pv 3) pa_nil)))))))
theorem sc_put : FnScope n_put ["self", "k", "slot", "source"] (defScope s_put) := ⟨rfl, rfl, rfl, by decide +kernel, rfl, by decide +kernel, by decide +kernel⟩
theorem d_put {P : Program} {w : World} {K : PySem.W.Frag} {mg : Str → Option Value} {base : Heap} (T : Txt K mg) (c_ask_root : OkA CX0 P w K mg base 1 (aM K "ask_root") (sp_ask_root K)) (c_cell_at : OkA (L2.CX P w) P w K mg base 1 (aM K "cell_at") (sp_cell_at K)) (c_slot_at : OkA (L2.CX P w) P w K mg base 1 (aM K "slot_at") (sp_slot_at K)) (c_set_slot : OkA CX0 P w K mg base 4 (aM K "set_slot") (sp_set_slot K)) {f : Addr} {cdv : Value} {A : Around} {outer : List Env} {s : Shared} {H : Hp} {E : XK}
    (hr : Room 4 (A.deeper (envOfC "Yard.put" (defScope s_put) s.heap.objs.size f cdv))) :
    PSs (cxOf (L2.CX P w) P w K mg base n_put "Yard.put" (defScope s_put) f cdv A outer s H E) (defBody s_put) (t_put K E) := by
  have nd := sc_put.nd
  have tk : Takes (cxOf (L2.CX P w) P w K mg base n_put "Yard.put" (defScope s_put) f cdv A outer s H E) (fun cls d _ H => E cls d H) := takes_of rfl rfl rfl rfl
  exact (pss_cons (ps_expr (pm c_ask_root T.cl T.m_ask_root hr  (pv 0) (pa_cons (pv 1) pa_nil)))
    (pss_cons (ps_expr (pm c_ask_root T.cl T.m_ask_root hr  (pv 0) (pa_cons (pv 3) pa_nil)))
    (pss_cons (ps_set (i := 4) nd rfl (Or.inl rfl) (pmX c_cell_at T.cl T.m_cell_at hr tk  (pv 0) (pa_cons (pv 1) pa_nil)))
    (pss_cons (ps_expr (pmX c_slot_at T.cl T.m_slot_at hr tk  (pv 0) (pa_cons (pv 4) (pa_cons (pv 2) pa_nil))))
    (pss_one (ps_expr (pm c_set_slot T.cl T.m_set_slot hr  (pv 0) (pa_cons (pv 4) (pa_cons (pv 2) (pa_cons (pe_ix ix_list (pe_fld (pv 0) rfl) (pv 3) (fun _ _ => rfl)) pa_nil))))))))))
theorem sc_paper : FnScope n_paper ["self"] (defScope s_paper) := ⟨rfl, rfl, rfl, by decide +kernel, rfl, by decide +kernel, by decide +kernel⟩
theorem d_paper {P : Program} {w : World} {K : PySem.W.Frag} {mg : Str → Option Value} {base : Heap} (T : Txt K mg)  {f : Addr} {cdv : Value} {A : Around} {outer : List Env} {s : Shared} {H : Hp} {E : XK}
    (hr : Room 0 (A.deeper (envOfC "Yard.paper" (defScope s_paper) s.heap.objs.size f cdv))) :
    PSs (cxOf CX0 P w K mg base n_paper "Yard.paper" (defScope s_paper) f cdv A outer s H E).nox (defBody s_paper) (t_paper K) := by
  have nd := sc_paper.nd
  exact (pss_cons (ps_if (pt_cmpR op_isN1 (pe_fld (pv 0) rfl) pe_non (nomark _))
    (pss_one (ps_ret pe_non))
    pss_nil)
    (pss_one (ps_ret (pe_tup (pa_cons (pe_callTy call_list_of (by rfl) T.n_list (by decide +kernel) (pa_cons (pe_ix ix_tup (pe_fld (pv 0) rfl) pe_int (fun _ _ => rfl)) pa_nil)) (pa_cons (pe_callTy call_list_of (by rfl) T.n_list (by decide +kernel) (pa_cons (pe_ix ix_tup (pe_fld (pv 0) rfl) pe_int (fun _ _ => rfl)) pa_nil)) pa_nil))))))
theorem sc_law_deed : FnScope n_law_deed ["cell"] (defScope s_law_deed) := ⟨rfl, rfl, rfl, by decide +kernel, rfl, by decide +kernel, by decide +kernel⟩
theorem d_law_deed {P : Program} {w : World} {K : PySem.W.Frag} {mg : Str → Option Value} {base : Heap} (T : Txt K mg)  {f : Addr} {cdv : Value} {A : Around} {outer : List Env} {s : Shared} {H : Hp} {E : XK}
    (hr : Room 0 (A.deeper (envOfC "_law_deed" (defScope s_law_deed) s.heap.objs.size f cdv))) :
    PSs (cxOf CX0 P w K mg base n_law_deed "_law_deed" (defScope s_law_deed) f cdv A outer s H E).nox (defBody s_law_deed) (t_law_deed K) := by
  have nd := sc_law_deed.nd
  exact (pss_cons (ps_set (i := 1) nd rfl (Or.inl rfl) (pe_lst (pa_cons pe_str (pa_cons pe_str (pa_cons pe_str (pa_cons pe_str (pa_cons pe_str (pa_cons pe_str (pa_cons pe_str (pa_cons pe_str (pa_cons pe_str (pa_cons pe_str (pa_cons pe_str (pa_cons pe_str pa_nil))))))))))))))
    (pss_cons (ps_set (i := 2) nd rfl (Or.inl rfl) (pe_ix ix_list (pv 1) (pe_op op_mod (pv 0) pe_int) (fun _ _ => rfl)))
    (pss_cons (ps_set (i := 3) nd rfl (Or.inl rfl) (pe_op op_add (pe_op op_mod (pe_op op_fdiv (pv 0) pe_int) pe_int) (pe_op op_mul pe_int (pe_op op_mod (pe_op op_fdiv (pv 0) pe_int) pe_int))))
    (pss_cons (ps_set (i := 4) nd rfl (Or.inl rfl) (pe_op op_add (pe_op op_mod (pe_op op_fdiv (pv 0) pe_int) pe_int) (pe_op op_mul pe_int (pe_op op_mod (pe_op op_fdiv (pv 0) pe_int) pe_int))))
    (pss_cons (ps_set (i := 5) nd rfl (Or.inl rfl) (pe_op op_add (pe_op op_mod (pe_op op_fdiv (pv 0) pe_int) pe_int) (pe_op op_mod (pe_op op_fdiv (pv 0) pe_int) pe_int)))
    (pss_cons (ps_if (pt_cmpR op_eq (pv 2) pe_str (nomark _))
    (pss_one (ps_ret (pe_tup (pa_cons pe_str (pa_cons (pv 3) (pa_cons (pe_op op_add (pv 5) (pe_op op_mod (pe_op op_fdiv (pv 0) pe_int) pe_int)) pa_nil))))))
    pss_nil)
    (pss_cons (ps_if (pt_cmpR op_eq (pv 2) pe_str (nomark _))
    (pss_one (ps_ret (pe_tup (pa_cons pe_str (pa_cons (pv 3) (pa_cons (pv 5) (pa_cons (pv 4) pa_nil)))))))
    pss_nil)
    (pss_cons (ps_if (pt_cmpR op_eq (pv 2) pe_str (nomark _))
    (pss_one (ps_ret (pe_tup (pa_cons pe_str (pa_cons (pv 3) (pa_cons (pv 4) (pa_cons (pv 5) pa_nil)))))))
    pss_nil)
    (pss_cons (ps_if (pt_cmpR op_eq (pv 2) pe_str (nomark _))
    (pss_one (ps_ret (pe_tup (pa_cons pe_str (pa_cons (pv 3) (pa_cons (pe_ix ix_list (pe_lst (pa_cons (pe_op op_sub (pe_op op_mod (pe_op op_fdiv (pv 0) pe_int) pe_int) pe_int) (pa_cons pe_int (pa_cons (pe_un un_neg pe_int) pa_nil)))) (pe_callB (call_max2 rfl) (by rfl) T.n_max (by decide +kernel) (pa_cons pe_int (pa_cons (pe_op op_sub (pe_op op_mod (pe_op op_fdiv (pv 0) pe_int) pe_int) pe_int) pa_nil))) (fun _ _ => rfl)) pa_nil))))))
    pss_nil)
    (pss_cons (ps_if (PW.pt (pw_or (pt_cmpR op_eq (pv 2) pe_str (nomark _)) (pw_or1 (pt_cmpR op_eq (pv 2) pe_str (nomark _)))))
    (pss_one (ps_ret (pe_tup (pa_cons (pv 2) (pa_cons (pv 3) (pa_cons (pv 4) pa_nil))))))
    pss_nil)
    (pss_one (ps_ret (pe_tup (pa_cons (pv 2) (pa_cons (pv 3) pa_nil)))))))))))))))
theorem sc_law_going : FnScope n_law_going ["roots", "cells", "gone", "value"] (defScope s_law_going) := ⟨rfl, rfl, rfl, by decide +kernel, rfl, by decide +kernel, by decide +kernel⟩
theorem d_law_going {P : Program} {w : World} {K : PySem.W.Frag} {mg : Str → Option Value} {base : Heap} (T : Txt K mg) (c_law_count : OkA CX0 P w K mg base 1 (aF K "_law_count") (sp_law_count K)) (c_law_name : OkA CX0 P w K mg base 1 (aF K "_law_name") (sp_law_name K)) {f : Addr} {cdv : Value} {A : Around} {outer : List Env} {s : Shared} {H : Hp} {E : XK}
    (hr : Room 1 (A.deeper (envOfC "_law_going" (defScope s_law_going) s.heap.objs.size f cdv))) :
    PSs (cxOf CX0 P w K mg base n_law_going "_law_going" (defScope s_law_going) f cdv A outer s H E).nox (defBody s_law_going) (t_law_going K) := by
  have nd := sc_law_going.nd
  exact (pss_cons (ps_set (i := 4) nd rfl (Or.inl rfl) pe_dnewK)
    (pss_cons (ps_set (i := 5) nd rfl (Or.inl rfl) (pe_lst (pa_cons (pv 3) pa_nil)))
    (pss_cons (ps_set (i := 6) nd rfl (Or.inl rfl) (pe_lst pa_nil))
    (pss_cons (ps_while PassesOwn.never (pt_cmpR op_gt (pe_callB call_len_seq (by rfl) T.n_len (by decide +kernel) (pa_cons (pv 5) pa_nil)) pe_int (nomark _))
    (pss_cons (ps_set (i := 7) nd rfl (Or.inl rfl) (pe_bm PySem.F.plainAttrs_list PySem.F.slot_list_pop PySem.F.type_list_pop mt_popAt (pv 5) (pa_cons pe_int pa_nil)))
    (pss_one (ps_if (PW.pt (pw_and (pt_cmpR op_notN1 (pv 7) pe_non (nomark _)) (pw_and (pt_cmpR op_eq (pe_ix ix_tup (pv 7) pe_int (fun _ _ => rfl)) pe_str (nomark _)) (pw_and1 (pt_cmpR op_notIn_seq (pe_ix ix_tup (pv 7) pe_int (fun _ _ => rfl)) (pe_op op_cat (pv 2) (pv 6)) (by rfl))))))
    (pss_cons (ps_set (i := 8) nd rfl (Or.inl rfl) (pe_ix ix_tup (pv 7) pe_int (fun _ _ => rfl)))
    (pss_cons (ps_if (pt_cmp (pc_dnotin (hu_of hr) (pv 8) (pv 4)) rfl)
    (pss_one (ps_dput (hu_of hr) (pv 4) (pv 8) (pe_op op_add (pc c_law_count hr T.g_law_count T.k_law_count (pa_cons (pv 0) (pa_cons (pv 1) (pa_cons (pv 2) (pa_cons (pv 8) pa_nil))))) (pe_callTy call_int1 (by rfl) T.n_int (by decide +kernel) (pa_cons (pe_cmpR op_eq (pv 8) (pc c_law_name hr T.g_law_name T.k_law_name (pa_cons (pv 3) pa_nil)) (nomark _)) pa_nil))) rfl))
    pss_nil)
    (pss_cons (ps_dput (hu_of hr) (pv 4) (pv 8) (pe_op op_sub (pe_dget (hu_of hr) (pv 4) (pv 8) (fun _ _ => rfl)) pe_int) rfl)
    (pss_one (ps_if (pt_cmpR op_eq (pe_dget (hu_of hr) (pv 4) (pv 8) (fun _ _ => rfl)) pe_int (nomark _))
    (pss_cons (ps_expr (pe_bm PySem.F.plainAttrs_list PySem.F.slot_list_append PySem.F.type_list_append mt_append (pv 6) (pa_cons (pv 8) pa_nil)))
    (pss_one (ps_set (i := 5) nd rfl (Or.inl rfl) (pe_op op_cat (pv 5) (pe_ix ix_list (pv 1) (pv 8) (fun _ _ => rfl))))))
    pss_nil)))))
    pss_nil))))
    (pss_one (ps_ret (pv 6)))))))
end Gy

set_option Elab.async false
set_option linter.all false
set_option maxRecDepth 100000
set_option maxHeartbeats 4000000

namespace Gy
open PySem PySem.Spec PyProof.Rows L2
open Evl (rLenS rListS rMax2)
open C8 (pe_gc)

theorem sc_ask_picture : FnScope n_ask_picture ["picture"] (defScope s_ask_picture) := ⟨rfl, rfl, rfl, by decide +kernel, rfl, by decide +kernel, by decide +kernel⟩
theorem d_ask_picture {P : Program} {w : World} {K : PySem.W.Frag} {mg : Str → Option Value} {base : Heap} (T : Txt K mg) (c_is_picture : OkA CX0 P w K mg base 2 (aF K "is_picture") (sp_is_picture K)) {f : Addr} {cdv : Value} {A : Around} {outer : List Env} {s : Shared} {H : Hp} {E : XK}
    (hr : Room 2 (A.deeper (envOfC "ask_picture" (defScope s_ask_picture) s.heap.objs.size f cdv))) :
    PSs (cxOf CX0 P w K mg base n_ask_picture "ask_picture" (defScope s_ask_picture) f cdv A outer s H E).nox (defBody s_ask_picture) (t_ask_picture K) := by
  have nd := sc_ask_picture.nd
  exact (pss_one (ps_if (pt_not (pt_val (pc c_is_picture hr T.g_is_picture T.k_is_picture (pa_cons (pe_ix ix_tup (pv 0) pe_int (fun _ _ => rfl)) (pa_cons (pe_ix ix_tup (pv 0) pe_int (fun _ _ => rfl)) pa_nil)))))
    (pss_one ps_never)
    pss_nil))
theorem sc_without : FnScope n_without ["free", "first", "many"] (defScope s_without) := ⟨rfl, rfl, rfl, by decide +kernel, rfl, by decide +kernel, by decide +kernel⟩
theorem d_without {P : Program} {w : World} {K : PySem.W.Frag} {mg : Str → Option Value} {base : Heap} (T : Txt K mg) (c_covering : OkA CX0 P w K mg base 1 (aF K "covering") (sp_covering K)) {f : Addr} {cdv : Value} {A : Around} {outer : List Env} {s : Shared} {H : Hp} {E : XK}
    (hr : Room 1 (A.deeper (envOfC "without" (defScope s_without) s.heap.objs.size f cdv))) :
    PSs (cxOf CX0 P w K mg base n_without "without" (defScope s_without) f cdv A outer s H E).nox (defBody s_without) (t_without K) := by
  have nd := sc_without.nd
  exact (pss_cons (ps_set (i := 3) nd rfl (Or.inl rfl) (pc c_covering hr T.g_covering T.k_covering (pa_cons (pv 0) (pa_cons (pv 1) (pa_cons (pv 2) pa_nil)))))
    (pss_cons (ps_asg (pe_ix ix_list (pv 0) (pv 3) (fun _ _ => rfl)) (pg_tup rfl (pgs_cons (pg_name (i := 4) nd rfl (Or.inl rfl)) (pgs_cons (pg_name (i := 5) nd rfl (Or.inl rfl)) pgs_nil))))
    (pss_cons (ps_set (i := 6) nd rfl (Or.inl rfl) (pe_lst (pa_cons (pe_tup (pa_cons (pv 4) (pa_cons (pe_op op_sub (pv 1) (pv 4)) pa_nil))) (pa_cons (pe_tup (pa_cons (pe_op op_add (pv 1) (pv 2)) (pa_cons (pe_op op_sub (pe_op op_sub (pe_op op_add (pv 4) (pv 5)) (pv 1)) (pv 2)) pa_nil))) pa_nil))))
    (pss_one (ps_ret (pe_op op_cat (pe_op op_cat (pe_slice sl_list (pv 0) po_none (po_some (pv 3))) (pe_lc (own := [("part", 7)]) (g := (gName 7)) (tt := (tTest (tOp rGtI (tOp (rIxT K) (tVar 7) (tC (.int 1))) (tC (.int 0))))) rfl nd (pi_list (pv 6)) (blkOk_by (N := n_without) (sc := defScope s_without) (by decide +kernel)) (fun _ _ _ _ _ => (pg_name (i := 7) nd rfl (Or.inl rfl))) (fun _ _ _ _ _ => pts_one (pt_cmpR op_gt (pe_ix ix_tup (pv 7) pe_int (fun _ _ => rfl)) pe_int (nomark _))) (fun _ _ _ _ _ => (pv 7)))) (pe_slice sl_list (pv 0) (po_some (pe_op op_add (pv 3) pe_int)) po_none)))))))
theorem sc_ask_root : FnScope n_ask_root ["self", "k"] (defScope s_ask_root) := ⟨rfl, rfl, rfl, by decide +kernel, rfl, by decide +kernel, by decide +kernel⟩
theorem d_ask_root {P : Program} {w : World} {K : PySem.W.Frag} {mg : Str → Option Value} {base : Heap} (T : Txt K mg)  {f : Addr} {cdv : Value} {A : Around} {outer : List Env} {s : Shared} {H : Hp} {E : XK}
    (hr : Room 0 (A.deeper (envOfC "Yard.ask_root" (defScope s_ask_root) s.heap.objs.size f cdv))) :
    PSs (cxOf CX0 P w K mg base n_ask_root "Yard.ask_root" (defScope s_ask_root) f cdv A outer s H E).nox (defBody s_ask_root) (t_ask_root K) := by
  have nd := sc_ask_root.nd
  exact (pss_one (ps_if (pt_not (pt_chain op_le op_lt pe_int (pv 1) (pe_gc rfl T.i_ROOTS)))
    (pss_one ps_never)
    pss_nil))
theorem sc_slots_at : FnScope n_slots_at ["self", "address"] (defScope s_slots_at) := ⟨rfl, rfl, rfl, by decide +kernel, rfl, by decide +kernel, by decide +kernel⟩
theorem d_slots_at {P : Program} {w : World} {K : PySem.W.Frag} {mg : Str → Option Value} {base : Heap} (T : Txt K mg) (c_told : OkA CX0 P w K mg base 1 (aM K "told") (sp_told K)) {f : Addr} {cdv : Value} {A : Around} {outer : List Env} {s : Shared} {H : Hp} {E : XK}
    (hr : Room 1 (A.deeper (envOfC "Yard.slots_at" (defScope s_slots_at) s.heap.objs.size f cdv))) :
    PSs (cxOf CX0 P w K mg base n_slots_at "Yard.slots_at" (defScope s_slots_at) f cdv A outer s H E).nox (defBody s_slots_at) (t_slots_at K) := by
  have nd := sc_slots_at.nd
  exact (pss_cons (ps_set (i := 2) nd rfl (Or.inl rfl) (pe_ix ix_tup (pe_ix ix_list (pe_fld (pv 0) rfl) (pv 1) (fun _ _ => rfl)) pe_int (fun _ _ => rfl)))
    (pss_one (ps_ret (pe_lc (own := [("value", 3)]) (g := (gName 3)) (tt := tYes) rfl nd (pi_list (pe_slice sl_list (pe_fld (pv 0) rfl) (po_some (pe_op op_add (pv 1) pe_int)) (po_some (pe_op op_add (pe_op op_add (pv 1) pe_int) (pv 2))))) (blkOk_by (N := n_slots_at) (sc := defScope s_slots_at) (by decide +kernel)) (fun _ _ _ _ _ => (pg_name (i := 3) nd rfl (Or.inl rfl))) (fun _ _ _ _ _ => pts_nil) (fun _ _ _ _ _ => (pm c_told T.cl T.m_told hr  (pv 0) (pa_cons (pv 3) pa_nil)))))))
theorem sc_glean : FnScope n_glean ["self"] (defScope s_glean) := ⟨rfl, rfl, rfl, by decide +kernel, rfl, by decide +kernel, by decide +kernel⟩
theorem d_glean {P : Program} {w : World} {K : PySem.W.Frag} {mg : Str → Option Value} {base : Heap} (T : Txt K mg) (c_picture : OkA CX0 P w K mg base 3 (aM K "picture") (sp_picture K)) (c_paper_of : OkA CX0 P w K mg base 5 (aF K "paper_of") (sp_paper_of K)) (c_saved : OkA CX0 P w K mg base 3 (aM K "saved") (sp_saved K)) (c_inner : OkA CX0 P w K mg base 1 (aM K "inner") (sp_inner K)) (c_free_up : OkA CX0 P w K mg base 2 (aM K "free_up") (sp_free_up K)) {f : Addr} {cdv : Value} {A : Around} {outer : List Env} {s : Shared} {H : Hp} {E : XK}
    (hr : Room 5 (A.deeper (envOfC "Counts.glean" (defScope s_glean) s.heap.objs.size f cdv))) :
    PSs (cxOf CX0 P w K mg base n_glean "Counts.glean" (defScope s_glean) f cdv A outer s H E).nox (defBody s_glean) (t_glean K) := by
  have nd := sc_glean.nd
  exact (pss_cons (ps_set (i := 1) nd rfl (Or.inl rfl) (pc c_paper_of hr T.g_paper_of T.k_paper_of (pa_cons (pm0 c_picture T.cl T.m_picture hr (pv 0)) pa_nil)))
    (pss_cons (ps_set (i := 2) nd rfl (Or.inr rfl) (pm0 c_saved T.cl T.m_saved hr (pv 0)))
    (pss_cons (ps_setLc (i := 4) (own := [("address", 3)]) (g := (gName 3)) (tt := (tTest (tOp (rIn K true) (tVar 3) (tVar 2)))) rfl nd rfl rfl (sw_true rfl rfl rfl (by decide +kernel)) (pi_list (pe_callB cr_sortedI (by rfl) T.n_sorted (by decide +kernel) (pa_cons (pe_callTy (call_list_dK rfl) (by rfl) T.n_list (by decide +kernel) (pa_cons (pe_fld (pv 0) rfl) pa_nil)) pa_nil))) (blkOk_by (N := n_glean) (sc := defScope s_glean) (by decide +kernel)) (fun _ _ _ _ _ => (pg_name (i := 3) nd rfl (Or.inl rfl))) (fun _ _ _ _ _ => pts_one (pt_cmpR op_notIn_seq (pv 3) (pv 2) (by rfl))) (fun _ _ _ _ _ => (pv 3)))
    (pss_cons (ps_for PassesOwn.never rfl (pi_list (pv 4)) (pg_name (i := 3) nd rfl (Or.inl rfl))
    (pss_one (ps_for PassesOwn.never rfl (pi_list (pm c_inner T.cl T.m_inner hr  (pv 0) (pa_cons (pv 3) pa_nil))) (pg_name (i := 5) nd rfl (Or.inl rfl))
    (pss_one (ps_dput (hu_of hr) (pe_fld (pv 0) rfl) (pv 5) (pe_op op_sub (pe_dget (hu_of hr) (pe_fld (pv 0) rfl) (pv 5) (fun _ _ => rfl)) pe_int) rfl)))))
    (pss_cons (ps_for PassesOwn.never rfl (pi_list (pv 4)) (pg_name (i := 3) nd rfl (Or.inl rfl))
    (pss_one (ps_expr (pm c_free_up T.cl T.m_free_up hr  (pv 0) (pa_cons (pv 3) pa_nil)))))
    (pss_one (ps_ret (pv 1))))))))
theorem sc_make : FnScope n_make ["self", "k", "size"] (defScope s_make) := ⟨rfl, rfl, rfl, by decide +kernel, rfl, by decide +kernel, by decide +kernel⟩
theorem d_make {P : Program} {w : World} {K : PySem.W.Frag} {mg : Str → Option Value} {base : Heap} (T : Txt K mg) (c_ask_root : OkA CX0 P w K mg base 1 (aM K "ask_root") (sp_ask_root K)) (c_room_for : OkA CX0 P w K mg base 2 (aM K "room_for") (sp_room_for K)) (c_collect : OkA CX0 P w K mg base 7 (aM K "collect") (sp_collect K)) (c_placed : OkA CX0 P w K mg base 3 (aM K "placed") (sp_placed K)) (c_set_root : OkA CX0 P w K mg base 4 (aM K "set_root") (sp_set_root K)) {f : Addr} {cdv : Value} {A : Around} {outer : List Env} {s : Shared} {H : Hp} {E : XK}
    (hr : Room 7 (A.deeper (envOfC "Yard.make" (defScope s_make) s.heap.objs.size f cdv))) :
    PSs (cxOf (L2.CX P w) P w K mg base n_make "Yard.make" (defScope s_make) f cdv A outer s H E) (defBody s_make) (t_make K E) := by
  have nd := sc_make.nd
  have tk : Takes (cxOf (L2.CX P w) P w K mg base n_make "Yard.make" (defScope s_make) f cdv A outer s H E) (fun cls d _ H => E cls d H) := takes_of rfl rfl rfl rfl
  exact (pss_cons (ps_expr (pm c_ask_root T.cl T.m_ask_root hr  (pv 0) (pa_cons (pv 1) pa_nil)))
    (pss_cons (ps_if (pt_not (pt_chain op_le op_le pe_int (pv 2) (pe_gc rfl T.i_MOST_SIZE)))
    (pss_one ps_never)
    pss_nil)
    (pss_cons (ps_set (i := 3) nd rfl (Or.inl rfl) (pm c_room_for T.cl T.m_room_for hr  (pv 0) (pa_cons (pv 2) pa_nil)))
    (pss_cons (ps_if (pt_cmpR op_isN1 (pv 3) pe_non (nomark _))
    (pss_cons (ps_expr (pm0 c_collect T.cl T.m_collect hr (pv 0)))
    (pss_one (ps_set (i := 3) nd rfl (Or.inl rfl) (pm c_room_for T.cl T.m_room_for hr  (pv 0) (pa_cons (pv 2) pa_nil)))))
    pss_nil)
    (pss_cons (ps_if (pt_cmpR op_isN1 (pv 3) pe_non (nomark _))
    (pss_one (ps_raise rfl tk (pmk_own PySem.F.excBase_ValueError T.x_Full.1 T.g_Full T.x_Full.2.1 (raises_own T.x_Full.2.2.1 T.x_Full.2.2.2) rfl)))
    pss_nil)
    (pss_cons (ps_set (i := 4) nd rfl (Or.inl rfl) (pe_fld (pv 0) rfl))
    (pss_cons (ps_fld (pv 0) (pe_op op_add (pv 4) pe_int) rfl)
    (pss_cons (ps_asg (pe_tup (pa_cons pe_str (pa_cons (pv 4) (pa_cons (pv 2) pa_nil)))) (pg_sub (pe_fld (pv 0) rfl) (pv 3) set_list))
    (pss_cons (ps_for (passes_of rfl) rfl (pi_range1 rfl T.n_range (pa_cons (pv 2) pa_nil)) (pg_name (i := 5) nd rfl (Or.inl rfl))
    (pss_one (ps_asg pe_non (pg_sub (pe_fld (pv 0) rfl) (pe_op op_add (pe_op op_add (pv 3) pe_int) (pv 5)) set_list))))
    (pss_cons (ps_expr (pm c_placed T.cl T.m_placed hr  (pv 0) (pa_cons (pv 3) pa_nil)))
    (pss_cons (ps_expr (pm c_set_root T.cl T.m_set_root hr  (pv 0) (pa_cons (pv 1) (pa_cons (pe_tup (pa_cons pe_str (pa_cons (pv 3) pa_nil))) pa_nil))))
    (pss_one (ps_ret (pv 4))))))))))))))
theorem sc_take : FnScope n_take ["self", "to", "k", "slot"] (defScope s_take) := ⟨rfl, rfl, rfl, by decide +kernel, rfl, by decide +kernel, by decide +kernel⟩
theorem d_take {P : Program} {w : World} {K : PySem.W.Frag} {mg : Str → Option Value} {base : Heap} (T : Txt K mg) (c_ask_root : OkA CX0 P w K mg base 1 (aM K "ask_root") (sp_ask_root K)) (c_slot_at : OkA (L2.CX P w) P w K mg base 1 (aM K "slot_at") (sp_slot_at K)) (c_cell_at : OkA (L2.CX P w) P w K mg base 1 (aM K "cell_at") (sp_cell_at K)) (c_set_root : OkA CX0 P w K mg base 4 (aM K "set_root") (sp_set_root K)) {f : Addr} {cdv : Value} {A : Around} {outer : List Env} {s : Shared} {H : Hp} {E : XK}
    (hr : Room 4 (A.deeper (envOfC "Yard.take" (defScope s_take) s.heap.objs.size f cdv))) :
    PSs (cxOf (L2.CX P w) P w K mg base n_take "Yard.take" (defScope s_take) f cdv A outer s H E) (defBody s_take) (t_take K E) := by
  have nd := sc_take.nd
  have tk : Takes (cxOf (L2.CX P w) P w K mg base n_take "Yard.take" (defScope s_take) f cdv A outer s H E) (fun cls d _ H => E cls d H) := takes_of rfl rfl rfl rfl
  exact (pss_cons (ps_expr (pm c_ask_root T.cl T.m_ask_root hr  (pv 0) (pa_cons (pv 1) pa_nil)))
    (pss_cons (ps_expr (pm c_ask_root T.cl T.m_ask_root hr  (pv 0) (pa_cons (pv 2) pa_nil)))
    (pss_cons (ps_set (i := 4) nd rfl (Or.inl rfl) (pmX c_slot_at T.cl T.m_slot_at hr tk  (pv 0) (pa_cons (pmX c_cell_at T.cl T.m_cell_at hr tk  (pv 0) (pa_cons (pv 2) pa_nil)) (pa_cons (pv 3) pa_nil))))
    (pss_one (ps_expr (pm c_set_root T.cl T.m_set_root hr  (pv 0) (pa_cons (pv 1) (pa_cons (pe_ix ix_list (pe_fld (pv 0) rfl) (pv 4) (fun _ _ => rfl)) pa_nil))))))))
theorem sc_cinit : FnScope n_cinit ["self", "room"] (defScope s_cinit) := ⟨rfl, rfl, rfl, by decide +kernel, rfl, by decide +kernel, by decide +kernel⟩
theorem d_cinit {P : Program} {w : World} {K : PySem.W.Frag} {mg : Str → Option Value} {base : Heap} (T : Txt K mg) (c_yinit : OkA CX0 P w K mg base 1 (He.ma K (aY K) "__init__") (sp_yinit K)) {f : Addr} {cdv : Value} {A : Around} {outer : List Env} {s : Shared} {H : Hp} {E : XK}
    (hr : Room 1 (A.deeper (envOfC "Counts.__init__" (defScope s_cinit) s.heap.objs.size f cdv))) :
    PSs (cxOf CX0 P w K mg base n_cinit "Counts.__init__" (defScope s_cinit) f cdv A outer s H E).nox (defBody s_cinit) (t_cinit K) := by
  have nd := sc_cinit.nd
  exact (pss_cons (ps_expr (pcf c_yinit T.yr T.yv hr (pe_glob rfl T.g_Yard rfl) (pa_cons (pv 0) (pa_cons (pv 1) pa_nil))))
    (pss_cons (ps_fld (pv 0) (pe_lst (pa_cons (pe_tup (pa_cons pe_int (pa_cons (pv 1) pa_nil))) pa_nil)) rfl)
    (pss_one (ps_fld (pv 0) pe_dnewK rfl))))
theorem sc_law_do : FnScope n_law_do ["roots", "cells", "deed"] (defScope s_law_do) := ⟨rfl, rfl, rfl, by decide +kernel, rfl, by decide +kernel, by decide +kernel⟩
theorem d_law_do {P : Program} {w : World} {K : PySem.W.Frag} {mg : Str → Option Value} {base : Heap} (T : Txt K mg)  {f : Addr} {cdv : Value} {A : Around} {outer : List Env} {s : Shared} {H : Hp} {E : XK}
    (hr : Room 0 (A.deeper (envOfC "_law_do" (defScope s_law_do) s.heap.objs.size f cdv))) :
    PSs (cxOf CX0 P w K mg base n_law_do "_law_do" (defScope s_law_do) f cdv A outer s H E).nox (defBody s_law_do) (t_law_do K) := by
  have nd := sc_law_do.nd
  exact (pss_cons (ps_set (i := 3) nd rfl (Or.inl rfl) (pe_ix ix_tup (pv 2) pe_int (fun _ _ => rfl)))
    (pss_cons (ps_if (pt_cmpR op_eq (pv 3) pe_str (nomark _))
    (pss_cons (ps_expr (pe_bm PySem.F.plainAttrs_list PySem.F.slot_list_append PySem.F.type_list_append mt_append (pv 1) (pa_cons (pe_op op_rep (pe_lst (pa_cons pe_non pa_nil)) (pe_ix ix_tup (pv 2) pe_int (fun _ _ => rfl))) pa_nil)))
    (pss_one (ps_asg (pe_tup (pa_cons pe_str (pa_cons (pe_op op_sub (pe_callB call_len_seq (by rfl) T.n_len (by decide +kernel) (pa_cons (pv 1) pa_nil)) pe_int) pa_nil))) (pg_sub (pv 0) (pe_ix ix_tup (pv 2) pe_int (fun _ _ => rfl)) set_list))))
    (pss_one (ps_if (pt_cmpR op_eq (pv 3) pe_str (nomark _))
    (pss_one (ps_asg (pe_tup (pa_cons pe_str (pa_cons (pe_ix ix_tup (pv 2) pe_int (fun _ _ => rfl)) pa_nil))) (pg_sub (pv 0) (pe_ix ix_tup (pv 2) pe_int (fun _ _ => rfl)) set_list)))
    (pss_one (ps_if (pt_cmpR op_eq (pv 3) pe_str (nomark _))
    (pss_one (ps_asg pe_non (pg_sub (pv 0) (pe_ix ix_tup (pv 2) pe_int (fun _ _ => rfl)) set_list)))
    (pss_one (ps_if (pt_cmpR op_eq (pv 3) pe_str (nomark _))
    (pss_one (ps_asg (pe_ix ix_list (pv 0) (pe_ix ix_tup (pv 2) pe_int (fun _ _ => rfl)) (fun _ _ => rfl)) (pg_sub (pv 0) (pe_ix ix_tup (pv 2) pe_int (fun _ _ => rfl)) set_list)))
    (pss_one (ps_if (pt_cmpR op_eq (pv 3) pe_str (nomark _))
    (pss_one (ps_ret (pe_lst (pa_cons (pe_ix ix_list (pv 0) (pe_ix ix_tup (pv 2) pe_int (fun _ _ => rfl)) (fun _ _ => rfl)) pa_nil))))
    (pss_one (ps_if (pt_cmpR op_eq (pv 3) pe_str (nomark _))
    (pss_one (ps_ret (pe_lst (pa_cons (pe_cmpR (op_eqD hr.units) (pe_ix ix_list (pv 0) (pe_ix ix_tup (pv 2) pe_int (fun _ _ => rfl)) (fun _ _ => rfl)) (pe_ix ix_list (pv 0) (pe_ix ix_tup (pv 2) pe_int (fun _ _ => rfl)) (fun _ _ => rfl)) (nomark _)) pa_nil))))
    (pss_cons (ps_set (i := 4) nd rfl (Or.inl rfl) (pe_ix ix_list (pv 0) (pe_ix ix_tup (pv 2) (pe_op op_add pe_int (pe_callTy call_int1 (by rfl) T.n_int (by decide +kernel) (pa_cons (pe_cmpR op_eq (pv 3) pe_str (nomark _)) pa_nil))) (fun _ _ => rfl)) (fun _ _ => rfl)))
    (pss_cons (ps_if (PW.pt (pw_or (pt_cmpR op_isN1 (pv 4) pe_non (nomark _)) (pw_or1 (pt_cmpR op_ne (pe_ix ix_tup (pv 4) pe_int (fun _ _ => rfl)) pe_str (nomark _)))))
    (pss_one (ps_ret (pe_lst (pa_cons (pe_tup (pa_cons pe_str (pa_cons pe_str pa_nil))) pa_nil))))
    pss_nil)
    (pss_cons (ps_set (i := 5) nd rfl (Or.inl rfl) (pe_ix ix_tup (pv 2) (pe_op op_add pe_int (pe_callTy call_int1 (by rfl) T.n_int (by decide +kernel) (pa_cons (pe_cmpR op_eq (pv 3) pe_str (nomark _)) pa_nil))) (fun _ _ => rfl)))
    (pss_cons (ps_if (pt_cmpR op_ge (pv 5) (pe_callB call_len_seq (by rfl) T.n_len (by decide +kernel) (pa_cons (pe_ix ix_list (pv 1) (pe_ix ix_tup (pv 4) pe_int (fun _ _ => rfl)) (fun _ _ => rfl)) pa_nil)) (nomark _))
    (pss_one (ps_ret (pe_lst (pa_cons (pe_tup (pa_cons pe_str (pa_cons pe_str pa_nil))) pa_nil))))
    pss_nil)
    (pss_one (ps_if (pt_cmpR op_eq (pv 3) pe_str (nomark _))
    (pss_one (ps_asg (pe_ix ix_list (pv 0) (pe_ix ix_tup (pv 2) pe_int (fun _ _ => rfl)) (fun _ _ => rfl)) (pg_sub (pe_ix ix_list (pv 1) (pe_ix ix_tup (pv 4) pe_int (fun _ _ => rfl)) (fun _ _ => rfl)) (pv 5) set_list)))
    (pss_one (ps_asg (pe_ix ix_list (pe_ix ix_list (pv 1) (pe_ix ix_tup (pv 4) pe_int (fun _ _ => rfl)) (fun _ _ => rfl)) (pv 5) (fun _ _ => rfl)) (pg_sub (pv 0) (pe_ix ix_tup (pv 2) pe_int (fun _ _ => rfl)) set_list))))))))))))))))))))
    (pss_one (ps_ret (pe_lst pa_nil)))))
theorem sc_law_former : FnScope n_law_former ["roots", "cells", "deed"] (defScope s_law_former) := ⟨rfl, rfl, rfl, by decide +kernel, rfl, by decide +kernel, by decide +kernel⟩
theorem d_law_former {P : Program} {w : World} {K : PySem.W.Frag} {mg : Str → Option Value} {base : Heap} (T : Txt K mg)  {f : Addr} {cdv : Value} {A : Around} {outer : List Env} {s : Shared} {H : Hp} {E : XK}
    (hr : Room 0 (A.deeper (envOfC "_law_former" (defScope s_law_former) s.heap.objs.size f cdv))) :
    PSs (cxOf CX0 P w K mg base n_law_former "_law_former" (defScope s_law_former) f cdv A outer s H E).nox (defBody s_law_former) (t_law_former K) := by
  have nd := sc_law_former.nd
  exact (pss_cons (ps_if (PW.pt (pw_and (pt_cmpR op_eq (pe_ix ix_tup (pv 2) pe_int (fun _ _ => rfl)) pe_str (nomark _)) (pw_and (pt_cmpR op_notN1 (pe_ix ix_list (pv 0) (pe_ix ix_tup (pv 2) pe_int (fun _ _ => rfl)) (fun _ _ => rfl)) pe_non (nomark _)) (pw_and1 (pt_cmpR op_eq (pe_ix ix_tup (pe_ix ix_list (pv 0) (pe_ix ix_tup (pv 2) pe_int (fun _ _ => rfl)) (fun _ _ => rfl)) pe_int (fun _ _ => rfl)) pe_str (nomark _))))))
    (pss_cons (ps_set (i := 3) nd rfl (Or.inl rfl) (pe_ix ix_list (pv 1) (pe_ix ix_tup (pe_ix ix_list (pv 0) (pe_ix ix_tup (pv 2) pe_int (fun _ _ => rfl)) (fun _ _ => rfl)) pe_int (fun _ _ => rfl)) (fun _ _ => rfl)))
    (pss_cons (ps_if (pt_cmpR op_lt (pe_ix ix_tup (pv 2) pe_int (fun _ _ => rfl)) (pe_callB call_len_seq (by rfl) T.n_len (by decide +kernel) (pa_cons (pv 3) pa_nil)) (nomark _))
    (pss_one (ps_ret (pe_ix ix_list (pv 3) (pe_ix ix_tup (pv 2) pe_int (fun _ _ => rfl)) (fun _ _ => rfl))))
    pss_nil)
    (pss_one (ps_ret pe_non))))
    pss_nil)
    (pss_cons (ps_if (pt_cmpR op_in_seq (pe_ix ix_tup (pv 2) pe_int (fun _ _ => rfl)) (pe_lst (pa_cons pe_str (pa_cons pe_str (pa_cons pe_str (pa_cons pe_str (pa_cons pe_str pa_nil)))))) (by rfl))
    (pss_one (ps_ret (pe_ix ix_list (pv 0) (pe_ix ix_tup (pv 2) pe_int (fun _ _ => rfl)) (fun _ _ => rfl))))
    pss_nil)
    (pss_one (ps_ret pe_non))))
end Gy

set_option Elab.async false
set_option linter.all false
set_option maxRecDepth 100000
set_option maxHeartbeats 4000000

namespace Gy
open PySem PySem.Spec PyProof.Rows L2
open Evl (rLenS rListS rMax2)
open C8 (pe_gc)

theorem sc_led_to : FnScope n_led_to ["value"] (defScope s_led_to) := ⟨rfl, rfl, rfl, by decide +kernel, rfl, by decide +kernel, by decide +kernel⟩
theorem d_led_to {P : Program} {w : World} {K : PySem.W.Frag} {mg : Str → Option Value} {base : Heap} (T : Txt K mg)  {f : Addr} {cdv : Value} {A : Around} {outer : List Env} {s : Shared} {H : Hp} {E : XK}
    (hr : Room 0 (A.deeper (envOfC "led_to" (defScope s_led_to) s.heap.objs.size f cdv))) :
    PSs (cxOf CX0 P w K mg base n_led_to "led_to" (defScope s_led_to) f cdv A outer s H E).nox (defBody s_led_to) (t_led_to K) := by
  have nd := sc_led_to.nd
  exact (pss_cons (ps_if (PW.pt (pw_and (pt_cmpR op_notN1 (pv 0) pe_non (nomark _)) (pw_and1 (pt_cmpR op_eq (pe_ix ix_tup (pv 0) pe_int (fun _ _ => rfl)) pe_str (nomark _)))))
    (pss_one (ps_ret (pe_ix ix_tup (pv 0) pe_int (fun _ _ => rfl))))
    pss_nil)
    (pss_one (ps_ret pe_non)))
theorem sc_joined : FnScope n_joined ["free", "first", "many"] (defScope s_joined) := ⟨rfl, rfl, rfl, by decide +kernel, rfl, by decide +kernel, by decide +kernel⟩
theorem d_joined {P : Program} {w : World} {K : PySem.W.Frag} {mg : Str → Option Value} {base : Heap} (T : Txt K mg)  {f : Addr} {cdv : Value} {A : Around} {outer : List Env} {s : Shared} {H : Hp} {E : XK}
    (hr : Room 0 (A.deeper (envOfC "joined" (defScope s_joined) s.heap.objs.size f cdv))) :
    PSs (cxOf CX0 P w K mg base n_joined "joined" (defScope s_joined) f cdv A outer s H E).nox (defBody s_joined) (t_joined K) := by
  have nd := sc_joined.nd
  exact (pss_cons (ps_setLc (i := 3) (own := [("stretch", 6)]) (g := (gName 6)) (tt := (tTest (tOp rLeI (tOp rAddI (tOp (rIxT K) (tVar 6) (tC (.int 0))) (tOp (rIxT K) (tVar 6) (tC (.int 1)))) (tVar 1)))) rfl nd rfl rfl (sw_true rfl rfl rfl (by decide +kernel)) (pi_list (pv 0)) (blkOk_by (N := n_joined) (sc := defScope s_joined) (by decide +kernel)) (fun _ _ _ _ _ => (pg_name (i := 6) nd rfl (Or.inl rfl))) (fun _ _ _ _ _ => pts_one (pt_cmpR op_le (pe_op op_add (pe_ix ix_tup (pv 6) pe_int (fun _ _ => rfl)) (pe_ix ix_tup (pv 6) pe_int (fun _ _ => rfl))) (pv 1) (nomark _))) (fun _ _ _ _ _ => (pv 6)))
    (pss_cons (ps_setLc (i := 4) (own := [("stretch", 6)]) (g := (gName 6)) (tt := (tTest (tOp rGeI (tOp (rIxT K) (tVar 6) (tC (.int 0))) (tOp rAddI (tVar 1) (tVar 2))))) rfl nd rfl rfl (sw_true rfl rfl rfl (by decide +kernel)) (pi_list (pv 0)) (blkOk_by (N := n_joined) (sc := defScope s_joined) (by decide +kernel)) (fun _ _ _ _ _ => (pg_name (i := 6) nd rfl (Or.inl rfl))) (fun _ _ _ _ _ => pts_one (pt_cmpR op_ge (pe_ix ix_tup (pv 6) pe_int (fun _ _ => rfl)) (pe_op op_add (pv 1) (pv 2)) (nomark _))) (fun _ _ _ _ _ => (pv 6)))
    (pss_cons (ps_if (PW.pt (pw_and (pt_cmpR op_gt (pe_callB call_len_seq (by rfl) T.n_len (by decide +kernel) (pa_cons (pv 3) pa_nil)) pe_int (nomark _)) (pw_and1 (pt_cmpR op_eq (pe_op op_add (pe_ix ix_tup (pe_ix ix_list (pv 3) (pe_un un_neg pe_int) (fun _ _ => rfl)) pe_int (fun _ _ => rfl)) (pe_ix ix_tup (pe_ix ix_list (pv 3) (pe_un un_neg pe_int) (fun _ _ => rfl)) pe_int (fun _ _ => rfl))) (pv 1) (nomark _)))))
    (pss_cons (ps_asg (pe_bm0 PySem.F.plainAttrs_list PySem.F.slot_list_pop PySem.F.type_list_pop mt_pop (pv 3)) (pg_tup rfl (pgs_cons (pg_name (i := 1) nd rfl (Or.inr rfl)) (pgs_cons (pg_name (i := 5) nd rfl (Or.inl rfl)) pgs_nil))))
    (pss_one (ps_set (i := 2) nd rfl (Or.inr rfl) (pe_op op_add (pv 2) (pv 5)))))
    pss_nil)
    (pss_cons (ps_if (PW.pt (pw_and (pt_cmpR op_gt (pe_callB call_len_seq (by rfl) T.n_len (by decide +kernel) (pa_cons (pv 4) pa_nil)) pe_int (nomark _)) (pw_and1 (pt_cmpR op_eq (pe_ix ix_tup (pe_ix ix_list (pv 4) pe_int (fun _ _ => rfl)) pe_int (fun _ _ => rfl)) (pe_op op_add (pv 1) (pv 2)) (nomark _)))))
    (pss_one (ps_set (i := 2) nd rfl (Or.inr rfl) (pe_op op_add (pv 2) (pe_ix ix_tup (pe_bm PySem.F.plainAttrs_list PySem.F.slot_list_pop PySem.F.type_list_pop mt_popAt (pv 4) (pa_cons pe_int pa_nil)) pe_int (fun _ _ => rfl)))))
    pss_nil)
    (pss_one (ps_ret (pe_op op_cat (pe_op op_cat (pv 3) (pe_lst (pa_cons (pe_tup (pa_cons (pv 1) (pa_cons (pv 2) pa_nil))) pa_nil))) (pv 4))))))))
theorem sc_cell_at : FnScope n_cell_at ["self", "k"] (defScope s_cell_at) := ⟨rfl, rfl, rfl, by decide +kernel, rfl, by decide +kernel, by decide +kernel⟩
theorem d_cell_at {P : Program} {w : World} {K : PySem.W.Frag} {mg : Str → Option Value} {base : Heap} (T : Txt K mg)  {f : Addr} {cdv : Value} {A : Around} {outer : List Env} {s : Shared} {H : Hp} {E : XK}
    (hr : Room 0 (A.deeper (envOfC "Yard.cell_at" (defScope s_cell_at) s.heap.objs.size f cdv))) :
    PSs (cxOf (L2.CX P w) P w K mg base n_cell_at "Yard.cell_at" (defScope s_cell_at) f cdv A outer s H E) (defBody s_cell_at) (t_cell_at K E) := by
  have nd := sc_cell_at.nd
  have tk : Takes (cxOf (L2.CX P w) P w K mg base n_cell_at "Yard.cell_at" (defScope s_cell_at) f cdv A outer s H E) (fun cls d _ H => E cls d H) := takes_of rfl rfl rfl rfl
  exact (pss_cons (ps_set (i := 2) nd rfl (Or.inl rfl) (pe_ix ix_list (pe_fld (pv 0) rfl) (pv 1) (fun _ _ => rfl)))
    (pss_cons (ps_if (PW.pt (pw_or (pt_cmpR op_isN1 (pv 2) pe_non (nomark _)) (pw_or1 (pt_cmpR op_ne (pe_ix ix_tup (pv 2) pe_int (fun _ _ => rfl)) pe_str (nomark _)))))
    (pss_one (ps_raise rfl tk (pmk_own PySem.F.excBase_ValueError T.x_NoCell.1 T.g_NoCell T.x_NoCell.2.1 (raises_own T.x_NoCell.2.2.1 T.x_NoCell.2.2.2) rfl)))
    pss_nil)
    (pss_one (ps_ret (pe_ix ix_tup (pv 2) pe_int (fun _ _ => rfl))))))
theorem sc_picture : FnScope n_picture ["self"] (defScope s_picture) := ⟨rfl, rfl, rfl, by decide +kernel, rfl, by decide +kernel, by decide +kernel⟩
theorem d_picture {P : Program} {w : World} {K : PySem.W.Frag} {mg : Str → Option Value} {base : Heap} (T : Txt K mg) (c_where : OkA CX0 P w K mg base 1 (aM K "where") (sp_where K)) (c_slots_at : OkA CX0 P w K mg base 2 (aM K "slots_at") (sp_slots_at K)) (c_told : OkA CX0 P w K mg base 1 (aM K "told") (sp_told K)) {f : Addr} {cdv : Value} {A : Around} {outer : List Env} {s : Shared} {H : Hp} {E : XK}
    (hr : Room 2 (A.deeper (envOfC "Yard.picture" (defScope s_picture) s.heap.objs.size f cdv))) :
    PSs (cxOf CX0 P w K mg base n_picture "Yard.picture" (defScope s_picture) f cdv A outer s H E).nox (defBody s_picture) (t_picture K) := by
  have nd := sc_picture.nd
  exact (pss_cons (ps_setLc (i := 1) (own := [("name", 2), ("address", 3)]) (g := (gTup K 2 (gCons (gName 2) (gCons (gName 3) gNil)))) (tt := tYes) rfl nd rfl rfl (sw_true rfl rfl rfl (by decide +kernel)) (pi_list (pm0 c_where T.cl T.m_where hr (pv 0))) (blkOk_by (N := n_picture) (sc := defScope s_picture) (by decide +kernel)) (fun _ _ _ _ _ => (pg_tup rfl (pgs_cons (pg_name (i := 2) nd rfl (Or.inl rfl)) (pgs_cons (pg_name (i := 3) nd rfl (Or.inl rfl)) pgs_nil)))) (fun _ _ _ _ _ => pts_nil) (fun _ _ _ _ _ => (pe_tup (pa_cons (pv 2) (pa_cons (pm c_slots_at T.cl T.m_slots_at hr  (pv 0) (pa_cons (pv 3) pa_nil)) pa_nil)))))
    (pss_one (ps_ret (pe_tup (pa_cons (pe_lc (own := [("value", 4)]) (g := (gName 4)) (tt := tYes) rfl nd (pi_list (pe_fld (pv 0) rfl)) (blkOk_by (N := n_picture) (sc := defScope s_picture) (by decide +kernel)) (fun _ _ _ _ _ => (pg_name (i := 4) nd rfl (Or.inl rfl))) (fun _ _ _ _ _ => pts_nil) (fun _ _ _ _ _ => (pm c_told T.cl T.m_told hr  (pv 0) (pa_cons (pv 4) pa_nil)))) (pa_cons (pv 1) pa_nil))))))
theorem sc_collect : FnScope n_collect ["self"] (defScope s_collect) := ⟨rfl, rfl, rfl, by decide +kernel, rfl, by decide +kernel, by decide +kernel⟩
theorem d_collect {P : Program} {w : World} {K : PySem.W.Frag} {mg : Str → Option Value} {base : Heap} (T : Txt K mg) (c_glean : OkA CX0 P w K mg base 6 (aM K "glean") (sp_glean K)) {f : Addr} {cdv : Value} {A : Around} {outer : List Env} {s : Shared} {H : Hp} {E : XK}
    (hr : Room 6 (A.deeper (envOfC "Yard.collect" (defScope s_collect) s.heap.objs.size f cdv))) :
    PSs (cxOf CX0 P w K mg base n_collect "Yard.collect" (defScope s_collect) f cdv A outer s H E).nox (defBody s_collect) (t_collect K) := by
  have nd := sc_collect.nd
  exact (pss_cons (ps_set (i := 1) nd rfl (Or.inl rfl) (pe_callB call_len_seq (by rfl) T.n_len (by decide +kernel) (pa_cons (pe_fld (pv 0) rfl) pa_nil)))
    (pss_cons (ps_fld (pv 0) (pm0 c_glean T.cl T.m_glean hr (pv 0)) rfl)
    (pss_one (ps_ret (pe_op op_sub (pe_callB call_len_seq (by rfl) T.n_len (by decide +kernel) (pa_cons (pe_fld (pv 0) rfl) pa_nil)) (pv 1))))))
theorem sc_number : FnScope n_number ["self", "k", "number"] (defScope s_number) := ⟨rfl, rfl, rfl, by decide +kernel, rfl, by decide +kernel, by decide +kernel⟩
theorem d_number {P : Program} {w : World} {K : PySem.W.Frag} {mg : Str → Option Value} {base : Heap} (T : Txt K mg) (c_ask_root : OkA CX0 P w K mg base 1 (aM K "ask_root") (sp_ask_root K)) (c_set_root : OkA CX0 P w K mg base 4 (aM K "set_root") (sp_set_root K)) {f : Addr} {cdv : Value} {A : Around} {outer : List Env} {s : Shared} {H : Hp} {E : XK}
    (hr : Room 4 (A.deeper (envOfC "Yard.number" (defScope s_number) s.heap.objs.size f cdv))) :
    PSs (cxOf CX0 P w K mg base n_number "Yard.number" (defScope s_number) f cdv A outer s H E).nox (defBody s_number) (t_number K) := by
  have nd := sc_number.nd
  exact (pss_cons (ps_expr (pm c_ask_root T.cl T.m_ask_root hr  (pv 0) (pa_cons (pv 1) pa_nil)))
    (pss_cons (ps_if (pt_not (pt_chain op_le op_le (pe_un un_neg (pe_gc rfl T.i_GREATEST)) (pv 2) (pe_gc rfl T.i_GREATEST)))
    (pss_one ps_never)
    pss_nil)
    (pss_one (ps_expr (pm c_set_root T.cl T.m_set_root hr  (pv 0) (pa_cons (pv 1) (pa_cons (pe_tup (pa_cons pe_str (pa_cons (pv 2) pa_nil))) pa_nil)))))))
theorem sc_value : FnScope n_value ["self", "k"] (defScope s_value) := ⟨rfl, rfl, rfl, by decide +kernel, rfl, by decide +kernel, by decide +kernel⟩
theorem d_value {P : Program} {w : World} {K : PySem.W.Frag} {mg : Str → Option Value} {base : Heap} (T : Txt K mg) (c_ask_root : OkA CX0 P w K mg base 1 (aM K "ask_root") (sp_ask_root K)) (c_told : OkA CX0 P w K mg base 1 (aM K "told") (sp_told K)) {f : Addr} {cdv : Value} {A : Around} {outer : List Env} {s : Shared} {H : Hp} {E : XK}
    (hr : Room 1 (A.deeper (envOfC "Yard.value" (defScope s_value) s.heap.objs.size f cdv))) :
    PSs (cxOf CX0 P w K mg base n_value "Yard.value" (defScope s_value) f cdv A outer s H E).nox (defBody s_value) (t_value K) := by
  have nd := sc_value.nd
  exact (pss_cons (ps_expr (pm c_ask_root T.cl T.m_ask_root hr  (pv 0) (pa_cons (pv 1) pa_nil)))
    (pss_one (ps_ret (pm c_told T.cl T.m_told hr  (pv 0) (pa_cons (pe_ix ix_list (pe_fld (pv 0) rfl) (pv 1) (fun _ _ => rfl)) pa_nil)))))
theorem sc_counts : FnScope n_counts ["self"] (defScope s_counts) := ⟨rfl, rfl, rfl, by decide +kernel, rfl, by decide +kernel, by decide +kernel⟩
theorem d_counts {P : Program} {w : World} {K : PySem.W.Frag} {mg : Str → Option Value} {base : Heap} (T : Txt K mg) (c_where : OkA CX0 P w K mg base 1 (aM K "where") (sp_where K)) {f : Addr} {cdv : Value} {A : Around} {outer : List Env} {s : Shared} {H : Hp} {E : XK}
    (hr : Room 1 (A.deeper (envOfC "Counts.counts" (defScope s_counts) s.heap.objs.size f cdv))) :
    PSs (cxOf CX0 P w K mg base n_counts "Counts.counts" (defScope s_counts) f cdv A outer s H E).nox (defBody s_counts) (t_counts K) := by
  have nd := sc_counts.nd
  exact (pss_one (ps_ret (pe_lc (own := [("name", 1), ("address", 2)]) (g := (gTup K 2 (gCons (gName 1) (gCons (gName 2) gNil)))) (tt := tYes) rfl nd (pi_list (pm0 c_where T.cl T.m_where hr (pv 0))) (blkOk_by (N := n_counts) (sc := defScope s_counts) (by decide +kernel)) (fun _ _ _ _ _ => (pg_tup rfl (pgs_cons (pg_name (i := 1) nd rfl (Or.inl rfl)) (pgs_cons (pg_name (i := 2) nd rfl (Or.inl rfl)) pgs_nil)))) (fun _ _ _ _ _ => pts_nil) (fun _ _ _ _ _ => (pe_tup (pa_cons (pv 1) (pa_cons (pe_dget (hu_of hr) (pe_fld (pv 0) rfl) (pv 2) (fun _ _ => rfl)) pa_nil)))))))
theorem sc_law_told_like : FnScope n_law_told_like ["found", "due"] (defScope s_law_told_like) := ⟨rfl, rfl, rfl, by decide +kernel, rfl, by decide +kernel, by decide +kernel⟩
theorem d_law_told_like {P : Program} {w : World} {K : PySem.W.Frag} {mg : Str → Option Value} {base : Heap} (T : Txt K mg)  {f : Addr} {cdv : Value} {A : Around} {outer : List Env} {s : Shared} {H : Hp} {E : XK}
    (hr : Room 0 (A.deeper (envOfC "_law_told_like" (defScope s_law_told_like) s.heap.objs.size f cdv))) :
    PSs (cxOf CX0 P w K mg base n_law_told_like "_law_told_like" (defScope s_law_told_like) f cdv A outer s H E).nox (defBody s_law_told_like) (t_law_told_like K) := by
  have nd := sc_law_told_like.nd
  exact (pss_cons (ps_if (PW.pt (pw_or (pt_not (pt_val (pe_callB call_isi (by rfl) T.n_isinstance (by decide +kernel) (pa_cons (pv 0) (pa_cons (pe_bltn (v := .ty "list") (by rfl) T.n_list (by decide +kernel) rfl) pa_nil))))) (pw_or1 (pt_cmpR op_ne (pe_callB call_len_seq (by rfl) T.n_len (by decide +kernel) (pa_cons (pv 0) pa_nil)) (pe_callB call_len_seq (by rfl) T.n_len (by decide +kernel) (pa_cons (pv 1) pa_nil)) (nomark _)))))
    (pss_one (ps_ret pe_bl))
    pss_nil)
    (pss_cons (ps_for PassesOwn.never rfl (pi_zip (by rfl) T.n_zip (pa_cons (pv 0) (pa_cons (pv 1) pa_nil))) (pg_tup rfl (pgs_cons (pg_name (i := 2) nd rfl (Or.inl rfl)) (pgs_cons (pg_name (i := 3) nd rfl (Or.inl rfl)) pgs_nil)))
    (pss_cons (ps_if (PW.pt (pw_or (pt_cmpR op_ne (pe_callB call_isi (by rfl) T.n_isinstance (by decide +kernel) (pa_cons (pv 2) (pa_cons (pe_bltn (v := .ty "bool") (by rfl) T.n_bool (by decide +kernel) rfl) pa_nil))) (pe_callB call_isi (by rfl) T.n_isinstance (by decide +kernel) (pa_cons (pv 3) (pa_cons (pe_bltn (v := .ty "bool") (by rfl) T.n_bool (by decide +kernel) rfl) pa_nil))) (nomark _)) (pw_or1 (pt_cmpR op_ne (pe_callB call_isi (by rfl) T.n_isinstance (by decide +kernel) (pa_cons (pv 2) (pa_cons (pe_bltn (v := .ty "tuple") (by rfl) T.n_tuple (by decide +kernel) rfl) pa_nil))) (pe_callB call_isi (by rfl) T.n_isinstance (by decide +kernel) (pa_cons (pv 3) (pa_cons (pe_bltn (v := .ty "tuple") (by rfl) T.n_tuple (by decide +kernel) rfl) pa_nil))) (nomark _)))))
    (pss_one (ps_ret pe_bl))
    pss_nil)
    (pss_one (ps_if (PW.pt (pw_and (pt_val (pe_callB call_isi (by rfl) T.n_isinstance (by decide +kernel) (pa_cons (pv 2) (pa_cons (pe_bltn (v := .ty "tuple") (by rfl) T.n_tuple (by decide +kernel) rfl) pa_nil)))) (pw_and1 (pt_val (pe_callB call_isi (by rfl) T.n_isinstance (by decide +kernel) (pa_cons (pe_ix ix_tup (pv 2) pe_int (fun _ _ => rfl)) (pa_cons (pe_bltn (v := .ty "bool") (by rfl) T.n_bool (by decide +kernel) rfl) pa_nil)))))))
    (pss_one (ps_ret pe_bl))
    pss_nil))))
    (pss_one (ps_ret (pe_cmpR (op_eqD hr.units) (pv 0) (pv 1) (nomark _))))))
theorem sc_law : FnScope n_law ["script"] (defScope s_law) := ⟨rfl, rfl, rfl, by decide +kernel, rfl, by decide +kernel, by decide +kernel⟩
theorem d_law {P : Program} {w : World} {K : PySem.W.Frag} {mg : Str → Option Value} {base : Heap} (T : Txt K mg) (c_cinit : OkA CX0 P w K mg base 2 (aM K "__init__") (sp_cinit K)) (c_law_cell_at : OkA CX0 P w K mg base 1 (aF K "_law_cell_at") (sp_law_cell_at K)) (c_law_deed : OkA CX0 P w K mg base 1 (aF K "_law_deed") (sp_law_deed K)) (c_law_former : OkA CX0 P w K mg base 1 (aF K "_law_former") (sp_law_former K)) (c_paper : OkA CX0 P w K mg base 1 (aM K "paper") (sp_paper K)) (c_law_done : OkA CX0 P w K mg base 11 (aF K "_law_done") (sp_law_done K)) (c_law_going : OkA CX0 P w K mg base 2 (aF K "_law_going") (sp_law_going K)) (c_swept : OkA CX0 P w K mg base 1 (aM K "swept") (sp_swept K)) (c_names : OkA CX0 P w K mg base 2 (aM K "names") (sp_names K)) (c_counts : OkA CX0 P w K mg base 2 (aM K "counts") (sp_counts K)) {f : Addr} {cdv : Value} {A : Around} {outer : List Env} {s : Shared} {H : Hp} {E : XK}
    (hr : Room 11 (A.deeper (envOfC "law" (defScope s_law) s.heap.objs.size f cdv))) :
    PSs (cxOf CX0 P w K mg base n_law "law" (defScope s_law) f cdv A outer s H E).nox (defBody s_law) (t_law K) := by
  have nd := sc_law.nd
  exact (pss_cons (ps_set (i := 1) nd rfl (Or.inl rfl) (pmk T.mkC c_cinit hr T.g_Counts (pa_cons pe_int pa_nil)))
    (pss_cons (ps_set (i := 2) nd rfl (Or.inl rfl) (pe_op op_rep (pe_lst (pa_cons pe_non pa_nil)) pe_int))
    (pss_cons (ps_set (i := 3) nd rfl (Or.inl rfl) (pe_lst pa_nil))
    (pss_cons (ps_set (i := 4) nd rfl (Or.inr rfl) (pe_lst pa_nil))
    (pss_cons (ps_for PassesOwn.never rfl (pi_range1 rfl T.n_range (pa_cons (pe_op op_mod (pc c_law_cell_at hr T.g_law_cell_at T.k_law_cell_at (pa_cons (pv 0) (pa_cons pe_int pa_nil))) pe_int) pa_nil)) (pg_name (i := 5) nd rfl (Or.inl rfl))
    (pss_cons (ps_set (i := 6) nd rfl (Or.inl rfl) (pc c_law_deed hr T.g_law_deed T.k_law_deed (pa_cons (pc c_law_cell_at hr T.g_law_cell_at T.k_law_cell_at (pa_cons (pv 0) (pa_cons (pe_op op_add pe_int (pv 5)) pa_nil))) pa_nil)))
    (pss_cons (ps_set (i := 7) nd rfl (Or.inl rfl) (pc c_law_former hr T.g_law_former T.k_law_former (pa_cons (pv 2) (pa_cons (pv 3) (pa_cons (pv 6) pa_nil)))))
    (pss_cons (ps_set (i := 8) nd rfl (Or.inl rfl) (pm0 c_paper T.cl T.m_paper hr (pv 1)))
    (pss_cons (ps_setLc (i := 9) (own := [("slots", 14)]) (g := (gName 14)) (tt := tYes) rfl nd rfl rfl (sw_true rfl rfl rfl (by decide +kernel)) (pi_list (pv 3)) (blkOk_by (N := n_law) (sc := defScope s_law) (by decide +kernel)) (fun _ _ _ _ _ => (pg_name (i := 14) nd rfl (Or.inl rfl))) (fun _ _ _ _ _ => pts_nil) (fun _ _ _ _ _ => (pe_callTy call_list_of (by rfl) T.n_list (by decide +kernel) (pa_cons (pv 14) pa_nil))))
    (pss_cons (ps_set (i := 10) nd rfl (Or.inl rfl) (pe_callTy call_list_of (by rfl) T.n_list (by decide +kernel) (pa_cons (pv 2) pa_nil)))
    (pss_cons (ps_if (pt_not (pt_val (pc c_law_done hr T.g_law_done T.k_law_done (pa_cons (pv 1) (pa_cons (pv 2) (pa_cons (pv 3) (pa_cons (pv 6) pa_nil)))))))
    (pss_one (ps_ret pe_bl))
    pss_nil)
    (pss_cons (ps_set (i := 11) nd rfl (Or.inl rfl) (pe_lst pa_nil))
    (pss_cons (ps_if (PW.pt (pw_or (pt_cmpR (op_neD hr.units) (pv 10) (pv 2) (nomark _)) (pw_or1 (pt_cmpR (op_neD hr.units) (pv 9) (pe_slice sl_list (pv 3) po_none (po_some (pe_callB call_len_seq (by rfl) T.n_len (by decide +kernel) (pa_cons (pv 9) pa_nil)))) (nomark _)))))
    (pss_one (ps_set (i := 11) nd rfl (Or.inl rfl) (pc c_law_going hr T.g_law_going T.k_law_going (pa_cons (pv 2) (pa_cons (pv 3) (pa_cons (pv 4) (pa_cons (pv 7) pa_nil)))))))
    pss_nil)
    (pss_cons (ps_if (pt_cmpR (op_nePap hr.units0) (pm0 c_paper T.cl T.m_paper hr (pv 1)) (pv 8) (nomark _))
    (pss_one (ps_ret (pe_cmpR (op_eqD hr.units) (pe_slice sl_list (pm0 c_swept T.cl T.m_swept hr (pv 1)) po_none (po_some (pe_callB call_len_seq (by rfl) T.n_len (by decide +kernel) (pa_cons (pv 4) pa_nil)))) (pv 4) (nomark _))))
    pss_nil)
    (pss_cons (ps_set (i := 4) nd rfl (Or.inr rfl) (pe_op op_cat (pv 4) (pv 11)))
    (pss_one (ps_if (pt_cmpR (op_neD hr.units) (pm0 c_swept T.cl T.m_swept hr (pv 1)) (pv 4) (nomark _))
    (pss_one (ps_ret pe_bl))
    pss_nil)))))))))))))
    (pss_cons (ps_setLc (i := 12) (own := [("name", 13)]) (g := (gName 13)) (tt := (tTest (tOp (rIn K true) (tVar 13) (tVar 4)))) rfl nd rfl rfl (sw_true rfl rfl rfl (by decide +kernel)) (pi_range1 rfl T.n_range (pa_cons (pe_callB call_len_seq (by rfl) T.n_len (by decide +kernel) (pa_cons (pv 3) pa_nil)) pa_nil)) (blkOk_by (N := n_law) (sc := defScope s_law) (by decide +kernel)) (fun _ _ _ _ _ => (pg_name (i := 13) nd rfl (Or.inl rfl))) (fun _ _ _ _ _ => pts_one (pt_cmpR op_notIn_seq (pv 13) (pv 4) (by rfl))) (fun _ _ _ _ _ => (pv 13)))
    (pss_one (ps_ret (pe_and (pe_cmpR (op_eqD hr.units) (pm0 c_names T.cl T.m_names hr (pv 1)) (pv 12) (nomark _)) (pe_one (pe_cmpR (op_eqD hr.units) (pe_lc (own := [("name", 13), ("many", 15)]) (g := (gTup K 2 (gCons (gName 13) (gCons (gName 15) gNil)))) (tt := tYes) rfl nd (pi_list (pm0 c_counts T.cl T.m_counts hr (pv 1))) (blkOk_by (N := n_law) (sc := defScope s_law) (by decide +kernel)) (fun _ _ _ _ _ => (pg_tup rfl (pgs_cons (pg_name (i := 13) nd rfl (Or.inl rfl)) (pgs_cons (pg_name (i := 15) nd rfl (Or.inl rfl)) pgs_nil)))) (fun _ _ _ _ _ => pts_nil) (fun _ _ _ _ _ => (pv 13))) (pv 12) (nomark _))))))))))))
end Gy

set_option Elab.async false
set_option linter.all false
set_option maxRecDepth 100000
set_option maxHeartbeats 4000000

namespace Gy
open PySem PySem.Spec PyProof.Rows L2
open Evl (rLenS rListS rMax2)
open C8 (pe_gc)

theorem sc_reasons : FnScope n_reasons ["picture"] (defScope s_reasons) := ⟨rfl, rfl, rfl, by decide +kernel, rfl, by decide +kernel, by decide +kernel⟩
theorem d_reasons {P : Program} {w : World} {K : PySem.W.Frag} {mg : Str → Option Value} {base : Heap} (T : Txt K mg) (c_ask_picture : OkA CX0 P w K mg base 3 (aF K "ask_picture") (sp_ask_picture K)) (c_led_to : OkA CX0 P w K mg base 1 (aF K "led_to") (sp_led_to K)) {f : Addr} {cdv : Value} {A : Around} {outer : List Env} {s : Shared} {H : Hp} {E : XK}
    (hr : Room 3 (A.deeper (envOfC "reasons" (defScope s_reasons) s.heap.objs.size f cdv))) :
    PSs (cxOf CX0 P w K mg base n_reasons "reasons" (defScope s_reasons) f cdv A outer s H E).nox (defBody s_reasons) (t_reasons K) := by
  have nd := sc_reasons.nd
  exact (pss_cons (ps_expr (pc c_ask_picture hr T.g_ask_picture T.k_ask_picture (pa_cons (pv 0) pa_nil)))
    (pss_cons (ps_set (i := 1) nd rfl (Or.inl rfl) (pe_callTy (call_dictP rfl) (by rfl) T.n_dict (by decide +kernel) (pa_cons (pe_ix ix_tup (pv 0) pe_int (fun _ _ => rfl)) pa_nil)))
    (pss_cons (ps_set (i := 2) nd rfl (Or.inl rfl) (pe_lst pa_nil))
    (pss_cons (ps_set (i := 3) nd rfl (Or.inl rfl) pe_dnewK)
    (pss_cons (ps_for PassesOwn.never rfl (pi_range1 rfl T.n_range (pa_cons (pe_gc rfl T.i_ROOTS) pa_nil)) (pg_name (i := 4) nd rfl (Or.inl rfl))
    (pss_cons (ps_set (i := 5) nd rfl (Or.inl rfl) (pc c_led_to hr T.g_led_to T.k_led_to (pa_cons (pe_ix ix_list (pe_ix ix_tup (pv 0) pe_int (fun _ _ => rfl)) (pv 4) (fun _ _ => rfl)) pa_nil)))
    (pss_one (ps_if (PW.pt (pw_and (pt_cmpR op_notN1 (pv 5) pe_non (nomark _)) (pw_and1 (pt_cmp (pc_dnotin (hu_of hr) (pv 5) (pv 3)) rfl))))
    (pss_cons (ps_dput (hu_of hr) (pv 3) (pv 5) pe_bl rfl)
    (pss_one (ps_expr (pe_bm PySem.F.plainAttrs_list PySem.F.slot_list_append PySem.F.type_list_append mt_append (pv 2) (pa_cons (pe_tup (pa_cons (pv 5) (pa_cons (pe_tup (pa_cons pe_str (pa_cons (pv 4) pa_nil))) pa_nil))) pa_nil)))))
    pss_nil))))
    (pss_cons (ps_set (i := 6) nd rfl (Or.inl rfl) pe_int)
    (pss_cons (ps_while PassesOwn.never (pt_cmpR op_lt (pv 6) (pe_callB call_len_seq (by rfl) T.n_len (by decide +kernel) (pa_cons (pv 2) pa_nil)) (nomark _))
    (pss_cons (ps_set (i := 7) nd rfl (Or.inl rfl) (pe_dget (hu_of hr) (pv 1) (pe_ix ix_tup (pe_ix ix_list (pv 2) (pv 6) (fun _ _ => rfl)) pe_int (fun _ _ => rfl)) (fun _ _ => rfl)))
    (pss_cons (ps_for PassesOwn.never rfl (pi_range1 rfl T.n_range (pa_cons (pe_callB call_len_seq (by rfl) T.n_len (by decide +kernel) (pa_cons (pv 7) pa_nil)) pa_nil)) (pg_name (i := 4) nd rfl (Or.inl rfl))
    (pss_cons (ps_set (i := 5) nd rfl (Or.inl rfl) (pc c_led_to hr T.g_led_to T.k_led_to (pa_cons (pe_ix ix_list (pv 7) (pv 4) (fun _ _ => rfl)) pa_nil)))
    (pss_one (ps_if (PW.pt (pw_and (pt_cmpR op_notN1 (pv 5) pe_non (nomark _)) (pw_and1 (pt_cmp (pc_dnotin (hu_of hr) (pv 5) (pv 3)) rfl))))
    (pss_cons (ps_dput (hu_of hr) (pv 3) (pv 5) pe_bl rfl)
    (pss_one (ps_expr (pe_bm PySem.F.plainAttrs_list PySem.F.slot_list_append PySem.F.type_list_append mt_append (pv 2) (pa_cons (pe_tup (pa_cons (pv 5) (pa_cons (pe_tup (pa_cons pe_str (pa_cons (pe_ix ix_tup (pe_ix ix_list (pv 2) (pv 6) (fun _ _ => rfl)) pe_int (fun _ _ => rfl)) (pa_cons (pv 4) pa_nil)))) pa_nil))) pa_nil)))))
    pss_nil))))
    (pss_one (ps_set (i := 6) nd rfl (Or.inl rfl) (pe_op op_add (pv 6) pe_int))))))
    (pss_one (ps_ret (pv 2))))))))))
theorem sc_yinit : FnScope n_yinit ["self", "room"] (defScope s_yinit) := ⟨rfl, rfl, rfl, by decide +kernel, rfl, by decide +kernel, by decide +kernel⟩
theorem d_yinit {P : Program} {w : World} {K : PySem.W.Frag} {mg : Str → Option Value} {base : Heap} (T : Txt K mg)  {f : Addr} {cdv : Value} {A : Around} {outer : List Env} {s : Shared} {H : Hp} {E : XK}
    (hr : Room 0 (A.deeper (envOfC "Yard.__init__" (defScope s_yinit) s.heap.objs.size f cdv))) :
    PSs (cxOf CX0 P w K mg base n_yinit "Yard.__init__" (defScope s_yinit) f cdv A outer s H E).nox (defBody s_yinit) (t_yinit K) := by
  have nd := sc_yinit.nd
  exact (pss_cons (ps_if (pt_not (pt_chain op_le op_le (pe_gc rfl T.i_LEAST_ROOM) (pv 1) (pe_gc rfl T.i_MOST_ROOM)))
    (pss_one ps_never)
    pss_nil)
    (pss_cons (ps_fld (pv 0) (pv 1) rfl)
    (pss_cons (ps_fld (pv 0) (pe_op op_rep (pe_lst (pa_cons pe_non pa_nil)) (pv 1)) rfl)
    (pss_cons (ps_fld (pv 0) (pe_op op_rep (pe_lst (pa_cons pe_non pa_nil)) (pe_gc rfl T.i_ROOTS)) rfl)
    (pss_cons (ps_fld (pv 0) pe_int rfl)
    (pss_cons (ps_fld (pv 0) (pe_lst pa_nil) rfl)
    (pss_one (ps_fld (pv 0) pe_non rfl))))))))
theorem sc_slot_at : FnScope n_slot_at ["self", "address", "slot"] (defScope s_slot_at) := ⟨rfl, rfl, rfl, by decide +kernel, rfl, by decide +kernel, by decide +kernel⟩
theorem d_slot_at {P : Program} {w : World} {K : PySem.W.Frag} {mg : Str → Option Value} {base : Heap} (T : Txt K mg)  {f : Addr} {cdv : Value} {A : Around} {outer : List Env} {s : Shared} {H : Hp} {E : XK}
    (hr : Room 0 (A.deeper (envOfC "Yard.slot_at" (defScope s_slot_at) s.heap.objs.size f cdv))) :
    PSs (cxOf (L2.CX P w) P w K mg base n_slot_at "Yard.slot_at" (defScope s_slot_at) f cdv A outer s H E) (defBody s_slot_at) (t_slot_at K E) := by
  have nd := sc_slot_at.nd
  have tk : Takes (cxOf (L2.CX P w) P w K mg base n_slot_at "Yard.slot_at" (defScope s_slot_at) f cdv A outer s H E) (fun cls d _ H => E cls d H) := takes_of rfl rfl rfl rfl
  exact (pss_cons (ps_if (pt_not (pt_chain op_le op_lt pe_int (pv 2) (pe_ix ix_tup (pe_ix ix_list (pe_fld (pv 0) rfl) (pv 1) (fun _ _ => rfl)) pe_int (fun _ _ => rfl))))
    (pss_one (ps_raise rfl tk (pmk_own PySem.F.excBase_ValueError T.x_NoSlot.1 T.g_NoSlot T.x_NoSlot.2.1 (raises_own T.x_NoSlot.2.2.1 T.x_NoSlot.2.2.2) rfl)))
    pss_nil)
    (pss_one (ps_ret (pe_op op_add (pe_op op_add (pv 1) pe_int) (pv 2)))))
theorem sc_inner : FnScope n_inner ["self", "address"] (defScope s_inner) := ⟨rfl, rfl, rfl, by decide +kernel, rfl, by decide +kernel, by decide +kernel⟩
theorem d_inner {P : Program} {w : World} {K : PySem.W.Frag} {mg : Str → Option Value} {base : Heap} (T : Txt K mg)  {f : Addr} {cdv : Value} {A : Around} {outer : List Env} {s : Shared} {H : Hp} {E : XK}
    (hr : Room 0 (A.deeper (envOfC "Counts.inner" (defScope s_inner) s.heap.objs.size f cdv))) :
    PSs (cxOf CX0 P w K mg base n_inner "Counts.inner" (defScope s_inner) f cdv A outer s H E).nox (defBody s_inner) (t_inner K) := by
  have nd := sc_inner.nd
  exact (pss_cons (ps_set (i := 2) nd rfl (Or.inl rfl) (pe_slice sl_list (pe_fld (pv 0) rfl) (po_some (pe_op op_add (pv 1) pe_int)) (po_some (pe_op op_add (pe_op op_add (pv 1) pe_int) (pe_ix ix_tup (pe_ix ix_list (pe_fld (pv 0) rfl) (pv 1) (fun _ _ => rfl)) pe_int (fun _ _ => rfl))))))
    (pss_one (ps_ret (pe_lc (own := [("value", 3)]) (g := (gName 3)) (tt := (tAnd (tTest (tOp rNotN (tVar 3) (tC .non))) (tTest (tOp rEq (tOp (rIxT K) (tVar 3) (tC (.int 0))) (tC (.str "at")))))) rfl nd (pi_list (pv 2)) (blkOk_by (N := n_inner) (sc := defScope s_inner) (by decide +kernel)) (fun _ _ _ _ _ => (pg_name (i := 3) nd rfl (Or.inl rfl))) (fun _ _ _ _ _ => pts_one (PW.pt (pw_and (pt_cmpR op_notN1 (pv 3) pe_non (nomark _)) (pw_and1 (pt_cmpR op_eq (pe_ix ix_tup (pv 3) pe_int (fun _ _ => rfl)) pe_str (nomark _)))))) (fun _ _ _ _ _ => (pe_ix ix_tup (pv 3) pe_int (fun _ _ => rfl)))))))
theorem sc_placed : FnScope n_placed ["self", "address"] (defScope s_placed) := ⟨rfl, rfl, rfl, by decide +kernel, rfl, by decide +kernel, by decide +kernel⟩
theorem d_placed {P : Program} {w : World} {K : PySem.W.Frag} {mg : Str → Option Value} {base : Heap} (T : Txt K mg) (c_without : OkA CX0 P w K mg base 2 (aF K "without") (sp_without K)) {f : Addr} {cdv : Value} {A : Around} {outer : List Env} {s : Shared} {H : Hp} {E : XK}
    (hr : Room 2 (A.deeper (envOfC "Counts.placed" (defScope s_placed) s.heap.objs.size f cdv))) :
    PSs (cxOf CX0 P w K mg base n_placed "Counts.placed" (defScope s_placed) f cdv A outer s H E).nox (defBody s_placed) (t_placed K) := by
  have nd := sc_placed.nd
  exact (pss_cons (ps_fld (pv 0) (pc c_without hr T.g_without T.k_without (pa_cons (pe_fld (pv 0) rfl) (pa_cons (pv 1) (pa_cons (pe_op op_add (pe_ix ix_tup (pe_ix ix_list (pe_fld (pv 0) rfl) (pv 1) (fun _ _ => rfl)) pe_int (fun _ _ => rfl)) pe_int) pa_nil)))) rfl)
    (pss_one (ps_dput (hu_of hr) (pe_fld (pv 0) rfl) (pv 1) pe_int rfl)))
theorem sc_clear : FnScope n_clear ["self", "k"] (defScope s_clear) := ⟨rfl, rfl, rfl, by decide +kernel, rfl, by decide +kernel, by decide +kernel⟩
theorem d_clear {P : Program} {w : World} {K : PySem.W.Frag} {mg : Str → Option Value} {base : Heap} (T : Txt K mg) (c_ask_root : OkA CX0 P w K mg base 1 (aM K "ask_root") (sp_ask_root K)) (c_set_root : OkA CX0 P w K mg base 4 (aM K "set_root") (sp_set_root K)) {f : Addr} {cdv : Value} {A : Around} {outer : List Env} {s : Shared} {H : Hp} {E : XK}
    (hr : Room 4 (A.deeper (envOfC "Yard.clear" (defScope s_clear) s.heap.objs.size f cdv))) :
    PSs (cxOf CX0 P w K mg base n_clear "Yard.clear" (defScope s_clear) f cdv A outer s H E).nox (defBody s_clear) (t_clear K) := by
  have nd := sc_clear.nd
  exact (pss_cons (ps_expr (pm c_ask_root T.cl T.m_ask_root hr  (pv 0) (pa_cons (pv 1) pa_nil)))
    (pss_one (ps_expr (pm c_set_root T.cl T.m_set_root hr  (pv 0) (pa_cons (pv 1) (pa_cons pe_non pa_nil))))))
theorem sc_same : FnScope n_same ["self", "one", "other"] (defScope s_same) := ⟨rfl, rfl, rfl, by decide +kernel, rfl, by decide +kernel, by decide +kernel⟩
theorem d_same {P : Program} {w : World} {K : PySem.W.Frag} {mg : Str → Option Value} {base : Heap} (T : Txt K mg) (c_ask_root : OkA CX0 P w K mg base 1 (aM K "ask_root") (sp_ask_root K)) {f : Addr} {cdv : Value} {A : Around} {outer : List Env} {s : Shared} {H : Hp} {E : XK}
    (hr : Room 1 (A.deeper (envOfC "Yard.same" (defScope s_same) s.heap.objs.size f cdv))) :
    PSs (cxOf CX0 P w K mg base n_same "Yard.same" (defScope s_same) f cdv A outer s H E).nox (defBody s_same) (t_same K) := by
  have nd := sc_same.nd
  exact (pss_cons (ps_expr (pm c_ask_root T.cl T.m_ask_root hr  (pv 0) (pa_cons (pv 1) pa_nil)))
    (pss_cons (ps_expr (pm c_ask_root T.cl T.m_ask_root hr  (pv 0) (pa_cons (pv 2) pa_nil)))
    (pss_one (ps_ret (pe_cmpR (op_eqD hr.units) (pe_ix ix_list (pe_fld (pv 0) rfl) (pv 1) (fun _ _ => rfl)) (pe_ix ix_list (pe_fld (pv 0) rfl) (pv 2) (fun _ _ => rfl)) (nomark _))))))
theorem sc_done : FnScope n_done ["yard", "deed"] (defScope s_done) := ⟨rfl, rfl, rfl, by decide +kernel, rfl, by decide +kernel, by decide +kernel⟩
theorem d_done {P : Program} {w : World} {K : PySem.W.Frag} {mg : Str → Option Value} {base : Heap} (T : Txt K mg) (c_make : OkA (L2.CX P w) P w K mg base 8 (aM K "make") (sp_make K)) (c_number : OkA CX0 P w K mg base 5 (aM K "number") (sp_number K)) (c_clear : OkA CX0 P w K mg base 5 (aM K "clear") (sp_clear K)) (c_pass_on : OkA CX0 P w K mg base 5 (aM K "pass_on") (sp_pass_on K)) (c_put : OkA (L2.CX P w) P w K mg base 5 (aM K "put") (sp_put K)) (c_take : OkA (L2.CX P w) P w K mg base 5 (aM K "take") (sp_take K)) (c_value : OkA CX0 P w K mg base 2 (aM K "value") (sp_value K)) (c_same : OkA CX0 P w K mg base 2 (aM K "same") (sp_same K)) {f : Addr} {cdv : Value} {A : Around} {outer : List Env} {s : Shared} {H : Hp} {E : XK}
    (hr : Room 8 (A.deeper (envOfC "done" (defScope s_done) s.heap.objs.size f cdv))) :
    PSs (cxOf (L2.CX P w) P w K mg base n_done "done" (defScope s_done) f cdv A outer s H E) (defBody s_done) (t_done K E) := by
  have nd := sc_done.nd
  have tk : Takes (cxOf (L2.CX P w) P w K mg base n_done "done" (defScope s_done) f cdv A outer s H E) (fun cls d _ H => E cls d H) := takes_of rfl rfl rfl rfl
  exact (pss_cons (ps_if (pt_cmpR op_eq (pe_ix ix_tup (pv 1) pe_int (fun _ _ => rfl)) pe_str (nomark _))
    (pss_one (ps_expr (pmX c_make T.cl T.m_make hr tk  (pv 0) (pa_cons (pe_ix ix_tup (pv 1) pe_int (fun _ _ => rfl)) (pa_cons (pe_ix ix_tup (pv 1) pe_int (fun _ _ => rfl)) pa_nil)))))
    (pss_one (ps_if (pt_cmpR op_eq (pe_ix ix_tup (pv 1) pe_int (fun _ _ => rfl)) pe_str (nomark _))
    (pss_one (ps_expr (pm c_number T.cl T.m_number hr  (pv 0) (pa_cons (pe_ix ix_tup (pv 1) pe_int (fun _ _ => rfl)) (pa_cons (pe_ix ix_tup (pv 1) pe_int (fun _ _ => rfl)) pa_nil)))))
    (pss_one (ps_if (pt_cmpR op_eq (pe_ix ix_tup (pv 1) pe_int (fun _ _ => rfl)) pe_str (nomark _))
    (pss_one (ps_expr (pm c_clear T.cl T.m_clear hr  (pv 0) (pa_cons (pe_ix ix_tup (pv 1) pe_int (fun _ _ => rfl)) pa_nil))))
    (pss_one (ps_if (pt_cmpR op_eq (pe_ix ix_tup (pv 1) pe_int (fun _ _ => rfl)) pe_str (nomark _))
    (pss_one (ps_expr (pm c_pass_on T.cl T.m_pass_on hr  (pv 0) (pa_cons (pe_ix ix_tup (pv 1) pe_int (fun _ _ => rfl)) (pa_cons (pe_ix ix_tup (pv 1) pe_int (fun _ _ => rfl)) pa_nil)))))
    (pss_one (ps_if (pt_cmpR op_eq (pe_ix ix_tup (pv 1) pe_int (fun _ _ => rfl)) pe_str (nomark _))
    (pss_one (ps_expr (pmX c_put T.cl T.m_put hr tk  (pv 0) (pa_cons (pe_ix ix_tup (pv 1) pe_int (fun _ _ => rfl)) (pa_cons (pe_ix ix_tup (pv 1) pe_int (fun _ _ => rfl)) (pa_cons (pe_ix ix_tup (pv 1) pe_int (fun _ _ => rfl)) pa_nil))))))
    (pss_one (ps_if (pt_cmpR op_eq (pe_ix ix_tup (pv 1) pe_int (fun _ _ => rfl)) pe_str (nomark _))
    (pss_one (ps_expr (pmX c_take T.cl T.m_take hr tk  (pv 0) (pa_cons (pe_ix ix_tup (pv 1) pe_int (fun _ _ => rfl)) (pa_cons (pe_ix ix_tup (pv 1) pe_int (fun _ _ => rfl)) (pa_cons (pe_ix ix_tup (pv 1) pe_int (fun _ _ => rfl)) pa_nil))))))
    (pss_one (ps_if (pt_cmpR op_eq (pe_ix ix_tup (pv 1) pe_int (fun _ _ => rfl)) pe_str (nomark _))
    (pss_one (ps_ret (pe_lst (pa_cons (pm c_value T.cl T.m_value hr  (pv 0) (pa_cons (pe_ix ix_tup (pv 1) pe_int (fun _ _ => rfl)) pa_nil)) pa_nil))))
    (pss_one (ps_ret (pe_lst (pa_cons (pm c_same T.cl T.m_same hr  (pv 0) (pa_cons (pe_ix ix_tup (pv 1) pe_int (fun _ _ => rfl)) (pa_cons (pe_ix ix_tup (pv 1) pe_int (fun _ _ => rfl)) pa_nil))) pa_nil)))))))))))))))))
    (pss_one (ps_ret (pe_lst pa_nil))))
theorem sc_law_done : FnScope n_law_done ["yard", "roots", "cells", "deed"] (defScope s_law_done) := ⟨rfl, rfl, rfl, by decide +kernel, rfl, by decide +kernel, by decide +kernel⟩
theorem d_law_done {P : Program} {w : World} {K : PySem.W.Frag} {mg : Str → Option Value} {base : Heap} (T : Txt K mg) (c_told_by : OkA CX0 P w K mg base 10 (aF K "told_by") (sp_told_by K)) (c_law_do : OkA CX0 P w K mg base 1 (aF K "_law_do") (sp_law_do K)) (c_law_told_like : OkA CX0 P w K mg base 1 (aF K "_law_told_like") (sp_law_told_like K)) {f : Addr} {cdv : Value} {A : Around} {outer : List Env} {s : Shared} {H : Hp} {E : XK}
    (hr : Room 10 (A.deeper (envOfC "_law_done" (defScope s_law_done) s.heap.objs.size f cdv))) :
    PSs (cxOf CX0 P w K mg base n_law_done "_law_done" (defScope s_law_done) f cdv A outer s H E).nox (defBody s_law_done) (t_law_done K) := by
  have nd := sc_law_done.nd
  exact (pss_cons (ps_set (i := 4) nd rfl (Or.inl rfl) (pc c_told_by hr T.g_told_by T.k_told_by (pa_cons (pv 0) (pa_cons (pv 3) pa_nil))))
    (pss_cons (ps_if (pt_cmpR (op_eqD hr.units) (pv 4) (pe_lst (pa_cons (pe_tup (pa_cons pe_str (pa_cons pe_str pa_nil))) pa_nil)) (nomark _))
    (pss_one (ps_ret (pe_cmpR op_eq (pe_ix ix_tup (pv 3) pe_int (fun _ _ => rfl)) pe_str (nomark _))))
    pss_nil)
    (pss_one (ps_ret (pc c_law_told_like hr T.g_law_told_like T.k_law_told_like (pa_cons (pv 4) (pa_cons (pc c_law_do hr T.g_law_do T.k_law_do (pa_cons (pv 1) (pa_cons (pv 2) (pa_cons (pv 3) pa_nil)))) pa_nil)))))))
end Gy

set_option Elab.async false
set_option linter.all false
set_option maxRecDepth 100000
set_option maxHeartbeats 4000000

namespace Gy
open PySem PySem.Spec PyProof.Rows L2
open Evl (rLenS rListS rMax2)
open C8 (pe_gc)

theorem sc_paper_of : FnScope n_paper_of ["picture"] (defScope s_paper_of) := ⟨rfl, rfl, rfl, by decide +kernel, rfl, by decide +kernel, by decide +kernel⟩
theorem d_paper_of {P : Program} {w : World} {K : PySem.W.Frag} {mg : Str → Option Value} {base : Heap} (T : Txt K mg) (c_reasons : OkA CX0 P w K mg base 4 (aF K "reasons") (sp_reasons K)) {f : Addr} {cdv : Value} {A : Around} {outer : List Env} {s : Shared} {H : Hp} {E : XK}
    (hr : Room 4 (A.deeper (envOfC "paper_of" (defScope s_paper_of) s.heap.objs.size f cdv))) :
    PSs (cxOf CX0 P w K mg base n_paper_of "paper_of" (defScope s_paper_of) f cdv A outer s H E).nox (defBody s_paper_of) (t_paper_of K) := by
  have nd := sc_paper_of.nd
  exact (pss_cons (ps_set (i := 1) nd rfl (Or.inl rfl) (pc c_reasons hr T.g_reasons T.k_reasons (pa_cons (pv 0) pa_nil)))
    (pss_cons (ps_set (i := 2) nd rfl (Or.inr rfl) (pe_lc (own := [("name", 3), ("reason", 4)]) (g := (gTup K 2 (gCons (gName 3) (gCons (gName 4) gNil)))) (tt := tYes) rfl nd (pi_list (pv 1)) (blkOk_by (N := n_paper_of) (sc := defScope s_paper_of) (by decide +kernel)) (fun _ _ _ _ _ => (pg_tup rfl (pgs_cons (pg_name (i := 3) nd rfl (Or.inl rfl)) (pgs_cons (pg_name (i := 4) nd rfl (Or.inl rfl)) pgs_nil)))) (fun _ _ _ _ _ => pts_nil) (fun _ _ _ _ _ => (pv 3))))
    (pss_one (ps_ret (pe_tup (pa_cons (pv 1) (pa_cons (pe_lc (own := [("cell", 5)]) (g := (gName 5)) (tt := (tTest (tOp (rIn K true) (tOp (rIxT K) (tVar 5) (tC (.int 0))) (tVar 2)))) rfl nd (pi_list (pe_ix ix_tup (pv 0) pe_int (fun _ _ => rfl))) (blkOk_by (N := n_paper_of) (sc := defScope s_paper_of) (by decide +kernel)) (fun _ _ _ _ _ => (pg_name (i := 5) nd rfl (Or.inl rfl))) (fun _ _ _ _ _ => pts_one (pt_cmpR op_notIn_seq (pe_ix ix_tup (pv 5) pe_int (fun _ _ => rfl)) (pv 2) (by rfl))) (fun _ _ _ _ _ => (pe_ix ix_tup (pv 5) pe_int (fun _ _ => rfl)))) pa_nil)))))))
theorem sc_write_root : FnScope n_write_root ["self", "k", "value"] (defScope s_write_root) := ⟨rfl, rfl, rfl, by decide +kernel, rfl, by decide +kernel, by decide +kernel⟩
theorem d_write_root {P : Program} {w : World} {K : PySem.W.Frag} {mg : Str → Option Value} {base : Heap} (T : Txt K mg)  {f : Addr} {cdv : Value} {A : Around} {outer : List Env} {s : Shared} {H : Hp} {E : XK}
    (hr : Room 0 (A.deeper (envOfC "Yard.write_root" (defScope s_write_root) s.heap.objs.size f cdv))) :
    PSs (cxOf CX0 P w K mg base n_write_root "Yard.write_root" (defScope s_write_root) f cdv A outer s H E).nox (defBody s_write_root) (t_write_root K) := by
  have nd := sc_write_root.nd
  exact (pss_one (ps_asg (pv 2) (pg_sub (pe_fld (pv 0) rfl) (pv 1) set_list)))
theorem sc_told : FnScope n_told ["self", "value"] (defScope s_told) := ⟨rfl, rfl, rfl, by decide +kernel, rfl, by decide +kernel, by decide +kernel⟩
theorem d_told {P : Program} {w : World} {K : PySem.W.Frag} {mg : Str → Option Value} {base : Heap} (T : Txt K mg)  {f : Addr} {cdv : Value} {A : Around} {outer : List Env} {s : Shared} {H : Hp} {E : XK}
    (hr : Room 0 (A.deeper (envOfC "Yard.told" (defScope s_told) s.heap.objs.size f cdv))) :
    PSs (cxOf CX0 P w K mg base n_told "Yard.told" (defScope s_told) f cdv A outer s H E).nox (defBody s_told) (t_told K) := by
  have nd := sc_told.nd
  exact (pss_cons (ps_if (PW.pt (pw_and (pt_cmpR op_notN1 (pv 1) pe_non (nomark _)) (pw_and1 (pt_cmpR op_eq (pe_ix ix_tup (pv 1) pe_int (fun _ _ => rfl)) pe_str (nomark _)))))
    (pss_one (ps_ret (pe_tup (pa_cons pe_str (pa_cons (pe_ix ix_tup (pe_ix ix_list (pe_fld (pv 0) rfl) (pe_ix ix_tup (pv 1) pe_int (fun _ _ => rfl)) (fun _ _ => rfl)) pe_int (fun _ _ => rfl)) pa_nil)))))
    pss_nil)
    (pss_one (ps_ret (pv 1))))
theorem sc_outer : FnScope n_outer ["self"] (defScope s_outer) := ⟨rfl, rfl, rfl, by decide +kernel, rfl, by decide +kernel, by decide +kernel⟩
theorem d_outer {P : Program} {w : World} {K : PySem.W.Frag} {mg : Str → Option Value} {base : Heap} (T : Txt K mg) (c_inner : OkA CX0 P w K mg base 1 (aM K "inner") (sp_inner K)) {f : Addr} {cdv : Value} {A : Around} {outer : List Env} {s : Shared} {H : Hp} {E : XK}
    (hr : Room 1 (A.deeper (envOfC "Counts.outer" (defScope s_outer) s.heap.objs.size f cdv))) :
    PSs (cxOf CX0 P w K mg base n_outer "Counts.outer" (defScope s_outer) f cdv A outer s H E).nox (defBody s_outer) (t_outer K) := by
  have nd := sc_outer.nd
  exact (pss_cons (ps_set (i := 1) nd rfl (Or.inl rfl) (pe_callTy call_dictD (by rfl) T.n_dict (by decide +kernel) (pa_cons (pe_fld (pv 0) rfl) pa_nil)))
    (pss_cons (ps_lock (ps_for PassesOwn.never rfl (pi_keys (pe_fld (pv 0) rfl)) (pg_name (i := 2) nd rfl (Or.inl rfl))
    (pss_one (ps_for PassesOwn.never rfl (pi_list (pm c_inner T.cl T.m_inner hr  (pv 0) (pa_cons (pv 2) pa_nil))) (pg_name (i := 3) nd rfl (Or.inl rfl))
    (pss_one (ps_dput (hu_of hr) (pv 1) (pv 3) (pe_op op_sub (pe_dget (hu_of hr) (pv 1) (pv 3) (fun _ _ => rfl)) pe_int) rfl))))))
    (pss_one (ps_ret (pv 1)))))
theorem sc_more : FnScope n_more ["self", "value"] (defScope s_more) := ⟨rfl, rfl, rfl, by decide +kernel, rfl, by decide +kernel, by decide +kernel⟩
theorem d_more {P : Program} {w : World} {K : PySem.W.Frag} {mg : Str → Option Value} {base : Heap} (T : Txt K mg)  {f : Addr} {cdv : Value} {A : Around} {outer : List Env} {s : Shared} {H : Hp} {E : XK}
    (hr : Room 0 (A.deeper (envOfC "Counts.more" (defScope s_more) s.heap.objs.size f cdv))) :
    PSs (cxOf CX0 P w K mg base n_more "Counts.more" (defScope s_more) f cdv A outer s H E).nox (defBody s_more) (t_more K) := by
  have nd := sc_more.nd
  exact (pss_one (ps_if (PW.pt (pw_and (pt_cmpR op_notN1 (pv 1) pe_non (nomark _)) (pw_and1 (pt_cmpR op_eq (pe_ix ix_tup (pv 1) pe_int (fun _ _ => rfl)) pe_str (nomark _)))))
    (pss_one (ps_dput (hu_of hr) (pe_fld (pv 0) rfl) (pe_ix ix_tup (pv 1) pe_int (fun _ _ => rfl)) (pe_op op_add (pe_dget (hu_of hr) (pe_fld (pv 0) rfl) (pe_ix ix_tup (pv 1) pe_int (fun _ _ => rfl)) (fun _ _ => rfl)) pe_int) rfl))
    pss_nil))
theorem sc_pass_on : FnScope n_pass_on ["self", "to", "source"] (defScope s_pass_on) := ⟨rfl, rfl, rfl, by decide +kernel, rfl, by decide +kernel, by decide +kernel⟩
theorem d_pass_on {P : Program} {w : World} {K : PySem.W.Frag} {mg : Str → Option Value} {base : Heap} (T : Txt K mg) (c_ask_root : OkA CX0 P w K mg base 1 (aM K "ask_root") (sp_ask_root K)) (c_set_root : OkA CX0 P w K mg base 4 (aM K "set_root") (sp_set_root K)) {f : Addr} {cdv : Value} {A : Around} {outer : List Env} {s : Shared} {H : Hp} {E : XK}
    (hr : Room 4 (A.deeper (envOfC "Yard.pass_on" (defScope s_pass_on) s.heap.objs.size f cdv))) :
    PSs (cxOf CX0 P w K mg base n_pass_on "Yard.pass_on" (defScope s_pass_on) f cdv A outer s H E).nox (defBody s_pass_on) (t_pass_on K) := by
  have nd := sc_pass_on.nd
  exact (pss_cons (ps_expr (pm c_ask_root T.cl T.m_ask_root hr  (pv 0) (pa_cons (pv 1) pa_nil)))
    (pss_cons (ps_expr (pm c_ask_root T.cl T.m_ask_root hr  (pv 0) (pa_cons (pv 2) pa_nil)))
    (pss_one (ps_expr (pm c_set_root T.cl T.m_set_root hr  (pv 0) (pa_cons (pv 1) (pa_cons (pe_ix ix_list (pe_fld (pv 0) rfl) (pv 2) (fun _ _ => rfl)) pa_nil)))))))
theorem sc_names : FnScope n_names ["self"] (defScope s_names) := ⟨rfl, rfl, rfl, by decide +kernel, rfl, by decide +kernel, by decide +kernel⟩
theorem d_names {P : Program} {w : World} {K : PySem.W.Frag} {mg : Str → Option Value} {base : Heap} (T : Txt K mg) (c_where : OkA CX0 P w K mg base 1 (aM K "where") (sp_where K)) {f : Addr} {cdv : Value} {A : Around} {outer : List Env} {s : Shared} {H : Hp} {E : XK}
    (hr : Room 1 (A.deeper (envOfC "Yard.names" (defScope s_names) s.heap.objs.size f cdv))) :
    PSs (cxOf CX0 P w K mg base n_names "Yard.names" (defScope s_names) f cdv A outer s H E).nox (defBody s_names) (t_names K) := by
  have nd := sc_names.nd
  exact (pss_one (ps_ret (pe_lc (own := [("name", 1), ("address", 2)]) (g := (gTup K 2 (gCons (gName 1) (gCons (gName 2) gNil)))) (tt := tYes) rfl nd (pi_list (pm0 c_where T.cl T.m_where hr (pv 0))) (blkOk_by (N := n_names) (sc := defScope s_names) (by decide +kernel)) (fun _ _ _ _ _ => (pg_tup rfl (pgs_cons (pg_name (i := 1) nd rfl (Or.inl rfl)) (pgs_cons (pg_name (i := 2) nd rfl (Or.inl rfl)) pgs_nil)))) (fun _ _ _ _ _ => pts_nil) (fun _ _ _ _ _ => (pv 1)))))
theorem sc_told_by : FnScope n_told_by ["yard", "deed"] (defScope s_told_by) := ⟨rfl, rfl, rfl, by decide +kernel, rfl, by decide +kernel, by decide +kernel⟩
theorem d_told_by {P : Program} {w : World} {K : PySem.W.Frag} {mg : Str → Option Value} {base : Heap} (T : Txt K mg) (c_done : OkA (L2.CX P w) P w K mg base 9 (aF K "done") (sp_done K)) {f : Addr} {cdv : Value} {A : Around} {outer : List Env} {s : Shared} {H : Hp} {E : XK}
    (hr : Room 9 (A.deeper (envOfC "told_by" (defScope s_told_by) s.heap.objs.size f cdv))) :
    PSs (cxOf CX0 P w K mg base n_told_by "told_by" (defScope s_told_by) f cdv A outer s H E).nox (defBody s_told_by) (t_told_by K) := by
  have nd := sc_told_by.nd
  exact (pss_cons (ps_try_many (tb := fun W => (tAsg (tCallS (sp_done K) (WE W) (tCons (tVar 0) (tCons (tVar 1) tNil))) (gName 2))) (Wout := fun _ _ _ _ => False) rfl rfl takes0 (fun W pn xe tk _ => (pss_one (ps_set (i := 2) nd rfl (Or.inl rfl) (pcS c_done hr T.g_done T.k_done tk (pa_cons (pv 0) (pa_cons (pv 1) pa_nil))))))
      (HdsOk.cons ⟨rfl, by decide, Or.inl T.g_NoRoot⟩ (fun _ _ _ _ _ _ _ => pss_never)
      (HdsOk.cons ⟨rfl, by decide, Or.inl T.g_NoSize⟩ (fun _ _ _ _ _ _ _ => pss_never)
      (HdsOk.cons ⟨rfl, by decide, Or.inl T.g_NoNumber⟩ (fun _ _ _ _ _ _ _ => pss_never)
      (HdsOk.cons ⟨rfl, by decide, Or.inl T.g_NoCell⟩ (fun _ _ _ _ _ _ _ => (pss_one (ps_set (i := 2) nd rfl (Or.inl rfl) (pe_lst (pa_cons (pe_tup (pa_cons pe_str (pa_cons pe_str pa_nil))) pa_nil)))))
      (HdsOk.cons ⟨rfl, by decide, Or.inl T.g_NoSlot⟩ (fun _ _ _ _ _ _ _ => (pss_one (ps_set (i := 2) nd rfl (Or.inl rfl) (pe_lst (pa_cons (pe_tup (pa_cons pe_str (pa_cons pe_str pa_nil))) pa_nil)))))
      (HdsOk.cons ⟨rfl, by decide, Or.inl T.g_Full⟩ (fun _ _ _ _ _ _ _ => (pss_one (ps_set (i := 2) nd rfl (Or.inl rfl) (pe_lst (pa_cons (pe_tup (pa_cons pe_str (pa_cons pe_str pa_nil))) pa_nil)))))
      HdsOk.nil)))))))
    (pss_one (ps_ret (pv 2))))
theorem sc_law_count : FnScope n_law_count ["roots", "cells", "gone", "name"] (defScope s_law_count) := ⟨rfl, rfl, rfl, by decide +kernel, rfl, by decide +kernel, by decide +kernel⟩
theorem d_law_count {P : Program} {w : World} {K : PySem.W.Frag} {mg : Str → Option Value} {base : Heap} (T : Txt K mg)  {f : Addr} {cdv : Value} {A : Around} {outer : List Env} {s : Shared} {H : Hp} {E : XK}
    (hr : Room 0 (A.deeper (envOfC "_law_count" (defScope s_law_count) s.heap.objs.size f cdv))) :
    PSs (cxOf CX0 P w K mg base n_law_count "_law_count" (defScope s_law_count) f cdv A outer s H E).nox (defBody s_law_count) (t_law_count K) := by
  have nd := sc_law_count.nd
  exact (pss_cons (ps_set (i := 4) nd rfl (Or.inl rfl) (pe_bm PySem.F.plainAttrs_list PySem.F.slot_list_count PySem.F.type_list_count (mt_cntD (hu65 hr)) (pv 0) (pa_cons (pe_tup (pa_cons pe_str (pa_cons (pv 3) pa_nil))) pa_nil)))
    (pss_cons (ps_for PassesOwn.never rfl (pi_range1 rfl T.n_range (pa_cons (pe_callB call_len_seq (by rfl) T.n_len (by decide +kernel) (pa_cons (pv 1) pa_nil)) pa_nil)) (pg_name (i := 5) nd rfl (Or.inl rfl))
    (pss_one (ps_if (pt_cmpR op_notIn_seq (pv 5) (pv 2) (by rfl))
    (pss_one (ps_set (i := 4) nd rfl (Or.inl rfl) (pe_op op_add (pv 4) (pe_bm PySem.F.plainAttrs_list PySem.F.slot_list_count PySem.F.type_list_count (mt_cntD (hu65 hr)) (pe_ix ix_list (pv 1) (pv 5) (fun _ _ => rfl)) (pa_cons (pe_tup (pa_cons pe_str (pa_cons (pv 3) pa_nil))) pa_nil)))))
    pss_nil)))
    (pss_one (ps_ret (pv 4)))))
end Gy

set_option Elab.async false
set_option linter.all false
set_option maxRecDepth 100000
set_option maxHeartbeats 4000000
/-! printed by print.py: each def keeps its promise -/
namespace Gy
open PySem PySem.Spec PyProof.Rows L2
open Evl (rLenS rListS rMax2)
open C8 (pe_gc)

theorem len_is_value (K : PySem.W.Frag) (vs : List V) (H : Hp) (Q : VK) (E : XK) (h : sp_is_value K vs H Q E) : vs.length = 2 := by
  obtain ⟨_, _, _, _, e, _⟩ := h
  rw [e]; rfl
theorem len_is_picture (K : PySem.W.Frag) (vs : List V) (H : Hp) (Q : VK) (E : XK) (h : sp_is_picture K vs H Q E) : vs.length = 2 := by
  obtain ⟨_, _, _, _, _, _, e, _⟩ := h
  rw [e]; rfl
theorem len_ask_picture (K : PySem.W.Frag) (vs : List V) (H : Hp) (Q : VK) (E : XK) (h : sp_ask_picture K vs H Q E) : vs.length = 1 := by
  obtain ⟨_, _, _, e, _⟩ := h
  rw [e]; rfl
theorem len_led_to (K : PySem.W.Frag) (vs : List V) (H : Hp) (Q : VK) (E : XK) (h : sp_led_to K vs H Q E) : vs.length = 1 := by
  obtain ⟨_, _, e, _⟩ := h
  rw [e]; rfl
theorem len_reasons (K : PySem.W.Frag) (vs : List V) (H : Hp) (Q : VK) (E : XK) (h : sp_reasons K vs H Q E) : vs.length = 1 := by
  obtain ⟨_, _, _, e, _⟩ := h
  rw [e]; rfl
theorem len_paper_of (K : PySem.W.Frag) (vs : List V) (H : Hp) (Q : VK) (E : XK) (h : sp_paper_of K vs H Q E) : vs.length = 1 := by
  obtain ⟨_, _, _, e, _⟩ := h
  rw [e]; rfl
theorem len_first_fit (K : PySem.W.Frag) (vs : List V) (H : Hp) (Q : VK) (E : XK) (h : sp_first_fit K vs H Q E) : vs.length = 2 := by
  obtain ⟨_, _, _, e, _⟩ := h
  rw [e]; rfl
theorem len_covering (K : PySem.W.Frag) (vs : List V) (H : Hp) (Q : VK) (E : XK) (h : sp_covering K vs H Q E) : vs.length = 3 := by
  obtain ⟨_, _, _, _, _, _, e, _⟩ := h
  rw [e]; rfl
theorem len_without (K : PySem.W.Frag) (vs : List V) (H : Hp) (Q : VK) (E : XK) (h : sp_without K vs H Q E) : vs.length = 3 := by
  obtain ⟨_, _, _, _, _, _, e, _⟩ := h
  rw [e]; rfl
theorem len_joined (K : PySem.W.Frag) (vs : List V) (H : Hp) (Q : VK) (E : XK) (h : sp_joined K vs H Q E) : vs.length = 3 := by
  obtain ⟨_, _, _, _, e, _⟩ := h
  rw [e]; rfl
theorem len_yinit (K : PySem.W.Frag) (vs : List V) (H : Hp) (Q : VK) (E : XK) (h : sp_yinit K vs H Q E) : vs.length = 2 := by
  obtain ⟨_, _, e, _⟩ := h
  rw [e]; rfl
theorem len_write_root (K : PySem.W.Frag) (vs : List V) (H : Hp) (Q : VK) (E : XK) (h : sp_write_root K vs H Q E) : vs.length = 3 := by
  obtain ⟨_, _, _, _, _, e, _⟩ := h
  rw [e]; rfl
theorem len_write_slot (K : PySem.W.Frag) (vs : List V) (H : Hp) (Q : VK) (E : XK) (h : sp_write_slot K vs H Q E) : vs.length = 4 := by
  obtain ⟨_, _, _, _, _, _, e, _⟩ := h
  rw [e]; rfl
theorem len_release (K : PySem.W.Frag) (vs : List V) (H : Hp) (Q : VK) (E : XK) (h : sp_release K vs H Q E) : vs.length = 2 := by
  obtain ⟨_, _, _, _, _, e, _⟩ := h
  rw [e]; rfl
theorem len_ask_root (K : PySem.W.Frag) (vs : List V) (H : Hp) (Q : VK) (E : XK) (h : sp_ask_root K vs H Q E) : vs.length = 2 := by
  obtain ⟨_, _, e, _⟩ := h
  rw [e]; rfl
theorem len_cell_at (K : PySem.W.Frag) (vs : List V) (H : Hp) (Q : VK) (E : XK) (h : sp_cell_at K vs H Q E) : vs.length = 2 := by
  obtain ⟨_, _, _, _, e, _⟩ := h
  rw [e]; rfl
theorem len_slot_at (K : PySem.W.Frag) (vs : List V) (H : Hp) (Q : VK) (E : XK) (h : sp_slot_at K vs H Q E) : vs.length = 3 := by
  obtain ⟨_, _, _, _, _, _, e, _⟩ := h
  rw [e]; rfl
theorem len_told (K : PySem.W.Frag) (vs : List V) (H : Hp) (Q : VK) (E : XK) (h : sp_told K vs H Q E) : vs.length = 2 := by
  obtain ⟨_, _, _, _, e, _⟩ := h
  rw [e]; rfl
theorem len_room_for (K : PySem.W.Frag) (vs : List V) (H : Hp) (Q : VK) (E : XK) (h : sp_room_for K vs H Q E) : vs.length = 2 := by
  obtain ⟨_, _, _, e, _⟩ := h
  rw [e]; rfl
theorem len_where (K : PySem.W.Frag) (vs : List V) (H : Hp) (Q : VK) (E : XK) (h : sp_where K vs H Q E) : vs.length = 1 := by
  obtain ⟨_, _, e, _⟩ := h
  rw [e]; rfl
theorem len_slots_at (K : PySem.W.Frag) (vs : List V) (H : Hp) (Q : VK) (E : XK) (h : sp_slots_at K vs H Q E) : vs.length = 2 := by
  obtain ⟨_, _, _, _, _, e, _⟩ := h
  rw [e]; rfl
theorem len_picture (K : PySem.W.Frag) (vs : List V) (H : Hp) (Q : VK) (E : XK) (h : sp_picture K vs H Q E) : vs.length = 1 := by
  obtain ⟨_, _, e, _⟩ := h
  rw [e]; rfl
theorem len_inner (K : PySem.W.Frag) (vs : List V) (H : Hp) (Q : VK) (E : XK) (h : sp_inner K vs H Q E) : vs.length = 2 := by
  obtain ⟨_, _, _, _, _, _, _, _, _, e, _⟩ := h
  rw [e]; rfl
theorem len_outer (K : PySem.W.Frag) (vs : List V) (H : Hp) (Q : VK) (E : XK) (h : sp_outer K vs H Q E) : vs.length = 1 := by
  obtain ⟨_, _, e, _⟩ := h
  rw [e]; rfl
theorem len_saved (K : PySem.W.Frag) (vs : List V) (H : Hp) (Q : VK) (E : XK) (h : sp_saved K vs H Q E) : vs.length = 1 := by
  obtain ⟨_, _, e, _⟩ := h
  rw [e]; rfl
theorem len_free_up (K : PySem.W.Frag) (vs : List V) (H : Hp) (Q : VK) (E : XK) (h : sp_free_up K vs H Q E) : vs.length = 2 := by
  obtain ⟨_, _, _, _, _, e, _⟩ := h
  rw [e]; rfl
theorem len_glean (K : PySem.W.Frag) (vs : List V) (H : Hp) (Q : VK) (E : XK) (h : sp_glean K vs H Q E) : vs.length = 1 := by
  obtain ⟨_, _, _, _, _, _, e, _⟩ := h
  rw [e]; rfl
theorem len_collect (K : PySem.W.Frag) (vs : List V) (H : Hp) (Q : VK) (E : XK) (h : sp_collect K vs H Q E) : vs.length = 1 := by
  obtain ⟨_, _, _, _, _, _, e, _⟩ := h
  rw [e]; rfl
theorem len_placed (K : PySem.W.Frag) (vs : List V) (H : Hp) (Q : VK) (E : XK) (h : sp_placed K vs H Q E) : vs.length = 2 := by
  obtain ⟨_, _, _, _, _, _, _, e, _⟩ := h
  rw [e]; rfl
theorem len_more (K : PySem.W.Frag) (vs : List V) (H : Hp) (Q : VK) (E : XK) (h : sp_more K vs H Q E) : vs.length = 2 := by
  obtain ⟨_, _, _, _, e, _⟩ := h
  rw [e]; rfl
theorem len_less (K : PySem.W.Frag) (vs : List V) (H : Hp) (Q : VK) (E : XK) (h : sp_less K vs H Q E) : vs.length = 2 := by
  obtain ⟨_, _, _, _, _, _, _, _, e, _⟩ := h
  rw [e]; rfl
theorem len_set_root (K : PySem.W.Frag) (vs : List V) (H : Hp) (Q : VK) (E : XK) (h : sp_set_root K vs H Q E) : vs.length = 3 := by
  obtain ⟨_, _, _, _, _, _, _, _, _, e, _⟩ := h
  rw [e]; rfl
theorem len_make (K : PySem.W.Frag) (vs : List V) (H : Hp) (Q : VK) (E : XK) (h : sp_make K vs H Q E) : vs.length = 3 := by
  obtain ⟨_, _, _, _, _, _, _, e, _⟩ := h
  rw [e]; rfl
theorem len_number (K : PySem.W.Frag) (vs : List V) (H : Hp) (Q : VK) (E : XK) (h : sp_number K vs H Q E) : vs.length = 3 := by
  obtain ⟨_, _, _, _, _, _, _, e, _⟩ := h
  rw [e]; rfl
theorem len_clear (K : PySem.W.Frag) (vs : List V) (H : Hp) (Q : VK) (E : XK) (h : sp_clear K vs H Q E) : vs.length = 2 := by
  obtain ⟨_, _, _, _, _, _, e, _⟩ := h
  rw [e]; rfl
theorem len_pass_on (K : PySem.W.Frag) (vs : List V) (H : Hp) (Q : VK) (E : XK) (h : sp_pass_on K vs H Q E) : vs.length = 3 := by
  obtain ⟨_, _, _, _, _, _, _, e, _⟩ := h
  rw [e]; rfl
theorem len_set_slot (K : PySem.W.Frag) (vs : List V) (H : Hp) (Q : VK) (E : XK) (h : sp_set_slot K vs H Q E) : vs.length = 4 := by
  obtain ⟨_, _, _, _, _, _, _, _, _, _, e, _⟩ := h
  rw [e]; rfl
theorem len_put (K : PySem.W.Frag) (vs : List V) (H : Hp) (Q : VK) (E : XK) (h : sp_put K vs H Q E) : vs.length = 4 := by
  obtain ⟨_, _, _, _, _, _, _, _, e, _⟩ := h
  rw [e]; rfl
theorem len_take (K : PySem.W.Frag) (vs : List V) (H : Hp) (Q : VK) (E : XK) (h : sp_take K vs H Q E) : vs.length = 4 := by
  obtain ⟨_, _, _, _, _, _, _, _, e, _⟩ := h
  rw [e]; rfl
theorem len_value (K : PySem.W.Frag) (vs : List V) (H : Hp) (Q : VK) (E : XK) (h : sp_value K vs H Q E) : vs.length = 2 := by
  obtain ⟨_, _, _, _, _, _, e, _⟩ := h
  rw [e]; rfl
theorem len_same (K : PySem.W.Frag) (vs : List V) (H : Hp) (Q : VK) (E : XK) (h : sp_same K vs H Q E) : vs.length = 3 := by
  obtain ⟨_, _, _, _, _, _, _, e, _⟩ := h
  rw [e]; rfl
theorem len_names (K : PySem.W.Frag) (vs : List V) (H : Hp) (Q : VK) (E : XK) (h : sp_names K vs H Q E) : vs.length = 1 := by
  obtain ⟨_, _, _, _, _, e, _⟩ := h
  rw [e]; rfl
theorem len_swept (K : PySem.W.Frag) (vs : List V) (H : Hp) (Q : VK) (E : XK) (h : sp_swept K vs H Q E) : vs.length = 1 := by
  obtain ⟨_, _, e, _⟩ := h
  rw [e]; rfl
theorem len_paper (K : PySem.W.Frag) (vs : List V) (H : Hp) (Q : VK) (E : XK) (h : sp_paper K vs H Q E) : vs.length = 1 := by
  obtain ⟨_, _, e, _⟩ := h
  rw [e]; rfl
theorem len_cinit (K : PySem.W.Frag) (vs : List V) (H : Hp) (Q : VK) (E : XK) (h : sp_cinit K vs H Q E) : vs.length = 2 := by
  obtain ⟨_, _, e, _⟩ := h
  rw [e]; rfl
theorem len_counts (K : PySem.W.Frag) (vs : List V) (H : Hp) (Q : VK) (E : XK) (h : sp_counts K vs H Q E) : vs.length = 1 := by
  obtain ⟨_, _, _, _, _, e, _⟩ := h
  rw [e]; rfl
theorem len_done (K : PySem.W.Frag) (vs : List V) (H : Hp) (Q : VK) (E : XK) (h : sp_done K vs H Q E) : vs.length = 2 := by
  obtain ⟨_, _, _, _, _, _, _, e, _⟩ := h
  rw [e]; rfl
theorem len_told_by (K : PySem.W.Frag) (vs : List V) (H : Hp) (Q : VK) (E : XK) (h : sp_told_by K vs H Q E) : vs.length = 2 := by
  obtain ⟨_, _, _, _, _, _, _, e, _⟩ := h
  rw [e]; rfl
theorem len_law_cell_at (K : PySem.W.Frag) (vs : List V) (H : Hp) (Q : VK) (E : XK) (h : sp_law_cell_at K vs H Q E) : vs.length = 2 := by
  obtain ⟨_, _, _, e, _⟩ := h
  rw [e]; rfl
theorem len_law_deed (K : PySem.W.Frag) (vs : List V) (H : Hp) (Q : VK) (E : XK) (h : sp_law_deed K vs H Q E) : vs.length = 1 := by
  obtain ⟨_, e, _⟩ := h
  rw [e]; rfl
theorem len_law_do (K : PySem.W.Frag) (vs : List V) (H : Hp) (Q : VK) (E : XK) (h : sp_law_do K vs H Q E) : vs.length = 3 := by
  obtain ⟨_, _, _, _, _, _, e, _⟩ := h
  rw [e]; rfl
theorem len_law_told_like (K : PySem.W.Frag) (vs : List V) (H : Hp) (Q : VK) (E : XK) (h : sp_law_told_like K vs H Q E) : vs.length = 2 := by
  obtain ⟨_, _, _, _, _, e, _⟩ := h
  rw [e]; rfl
theorem len_law_done (K : PySem.W.Frag) (vs : List V) (H : Hp) (Q : VK) (E : XK) (h : sp_law_done K vs H Q E) : vs.length = 4 := by
  obtain ⟨_, _, _, _, _, _, _, _, e, _⟩ := h
  rw [e]; rfl
theorem len_law_count (K : PySem.W.Frag) (vs : List V) (H : Hp) (Q : VK) (E : XK) (h : sp_law_count K vs H Q E) : vs.length = 4 := by
  obtain ⟨_, _, _, _, _, _, e, _⟩ := h
  rw [e]; rfl
theorem len_law_name (K : PySem.W.Frag) (vs : List V) (H : Hp) (Q : VK) (E : XK) (h : sp_law_name K vs H Q E) : vs.length = 1 := by
  obtain ⟨_, _, e, _⟩ := h
  rw [e]; rfl
theorem len_law_going (K : PySem.W.Frag) (vs : List V) (H : Hp) (Q : VK) (E : XK) (h : sp_law_going K vs H Q E) : vs.length = 4 := by
  obtain ⟨_, _, _, _, _, _, _, e, _⟩ := h
  rw [e]; rfl
theorem len_law_former (K : PySem.W.Frag) (vs : List V) (H : Hp) (Q : VK) (E : XK) (h : sp_law_former K vs H Q E) : vs.length = 3 := by
  obtain ⟨_, _, _, _, _, _, e, _⟩ := h
  rw [e]; rfl
theorem len_law (K : PySem.W.Frag) (vs : List V) (H : Hp) (Q : VK) (E : XK) (h : sp_law K vs H Q E) : vs.length = 1 := by
  obtain ⟨_, _, e, _⟩ := h
  rw [e]; rfl
theorem ok_is_value {P : Program} {w : World} {K : PySem.W.Frag} {mg : Str → Option Value} {base : Heap} (T : Txt K mg)  {fd : FuncData} (F : FunD K "is_value" "is_value" (defArgs s_is_value) (defBody s_is_value) (defScope s_is_value) [] [] (aF K "is_value") fd) : OkA CX0 P w K mg base 1 (aF K "is_value") (sp_is_value K) := by
  refine ⟨⟨fd, ["value", "names"], F.ok sc_is_value (len_is_value K) fun cdv A outer s H vs Q E hr h => ⟨t_is_value K, PSs.nox (d_is_value T  hr), p_is_value T.k vs H Q E h⟩, ?_⟩⟩
  exact F.bindsN fun _ _ _ _ _ _ us hl => match us, hl with | [_, _], _ => rfl
theorem ok_is_picture {P : Program} {w : World} {K : PySem.W.Frag} {mg : Str → Option Value} {base : Heap} (T : Txt K mg) (c_is_value : OkA CX0 P w K mg base 1 (aF K "is_value") (sp_is_value K)) {fd : FuncData} (F : FunD K "is_picture" "is_picture" (defArgs s_is_picture) (defBody s_is_picture) (defScope s_is_picture) [] [] (aF K "is_picture") fd) : OkA CX0 P w K mg base 2 (aF K "is_picture") (sp_is_picture K) := by
  refine ⟨⟨fd, ["roots", "cells"], F.ok sc_is_picture (len_is_picture K) fun cdv A outer s H vs Q E hr h => ⟨t_is_picture K w, PSs.nox (d_is_picture T c_is_value hr), p_is_picture T.k vs H Q E h⟩, ?_⟩⟩
  exact F.bindsN fun _ _ _ _ _ _ us hl => match us, hl with | [_, _], _ => rfl
theorem ok_ask_picture {P : Program} {w : World} {K : PySem.W.Frag} {mg : Str → Option Value} {base : Heap} (T : Txt K mg) (c_is_picture : OkA CX0 P w K mg base 2 (aF K "is_picture") (sp_is_picture K)) {fd : FuncData} (F : FunD K "ask_picture" "ask_picture" (defArgs s_ask_picture) (defBody s_ask_picture) (defScope s_ask_picture) [] [] (aF K "ask_picture") fd) : OkA CX0 P w K mg base 3 (aF K "ask_picture") (sp_ask_picture K) := by
  refine ⟨⟨fd, ["picture"], F.ok sc_ask_picture (len_ask_picture K) fun cdv A outer s H vs Q E hr h => ⟨t_ask_picture K, PSs.nox (d_ask_picture T c_is_picture hr), p_ask_picture T.k vs H Q E h⟩, ?_⟩⟩
  exact F.bindsN fun _ _ _ _ _ _ us hl => match us, hl with | [_], _ => rfl
theorem ok_led_to {P : Program} {w : World} {K : PySem.W.Frag} {mg : Str → Option Value} {base : Heap} (T : Txt K mg)  {fd : FuncData} (F : FunD K "led_to" "led_to" (defArgs s_led_to) (defBody s_led_to) (defScope s_led_to) [] [] (aF K "led_to") fd) : OkA CX0 P w K mg base 1 (aF K "led_to") (sp_led_to K) := by
  refine ⟨⟨fd, ["value"], F.ok sc_led_to (len_led_to K) fun cdv A outer s H vs Q E hr h => ⟨t_led_to K, PSs.nox (d_led_to T  hr), p_led_to T.k vs H Q E h⟩, ?_⟩⟩
  exact F.bindsN fun _ _ _ _ _ _ us hl => match us, hl with | [_], _ => rfl
theorem ok_reasons {P : Program} {w : World} {K : PySem.W.Frag} {mg : Str → Option Value} {base : Heap} (T : Txt K mg) (c_ask_picture : OkA CX0 P w K mg base 3 (aF K "ask_picture") (sp_ask_picture K)) (c_led_to : OkA CX0 P w K mg base 1 (aF K "led_to") (sp_led_to K)) {fd : FuncData} (F : FunD K "reasons" "reasons" (defArgs s_reasons) (defBody s_reasons) (defScope s_reasons) [] [] (aF K "reasons") fd) : OkA CX0 P w K mg base 4 (aF K "reasons") (sp_reasons K) := by
  refine ⟨⟨fd, ["picture"], F.ok sc_reasons (len_reasons K) fun cdv A outer s H vs Q E hr h => ⟨t_reasons K, PSs.nox (d_reasons T c_ask_picture c_led_to hr), p_reasons T.k vs H Q E h⟩, ?_⟩⟩
  exact F.bindsN fun _ _ _ _ _ _ us hl => match us, hl with | [_], _ => rfl
theorem ok_paper_of {P : Program} {w : World} {K : PySem.W.Frag} {mg : Str → Option Value} {base : Heap} (T : Txt K mg) (c_reasons : OkA CX0 P w K mg base 4 (aF K "reasons") (sp_reasons K)) {fd : FuncData} (F : FunD K "paper_of" "paper_of" (defArgs s_paper_of) (defBody s_paper_of) (defScope s_paper_of) [] [] (aF K "paper_of") fd) : OkA CX0 P w K mg base 5 (aF K "paper_of") (sp_paper_of K) := by
  refine ⟨⟨fd, ["picture"], F.ok sc_paper_of (len_paper_of K) fun cdv A outer s H vs Q E hr h => ⟨t_paper_of K, PSs.nox (d_paper_of T c_reasons hr), p_paper_of T.k vs H Q E h⟩, ?_⟩⟩
  exact F.bindsN fun _ _ _ _ _ _ us hl => match us, hl with | [_], _ => rfl
theorem ok_first_fit {P : Program} {w : World} {K : PySem.W.Frag} {mg : Str → Option Value} {base : Heap} (T : Txt K mg)  {fd : FuncData} (F : FunD K "first_fit" "first_fit" (defArgs s_first_fit) (defBody s_first_fit) (defScope s_first_fit) [] [] (aF K "first_fit") fd) : OkA CX0 P w K mg base 1 (aF K "first_fit") (sp_first_fit K) := by
  refine ⟨⟨fd, ["free", "many"], F.ok sc_first_fit (len_first_fit K) fun cdv A outer s H vs Q E hr h => ⟨t_first_fit K, PSs.nox (d_first_fit T  hr), p_first_fit T.k vs H Q E h⟩, ?_⟩⟩
  exact F.bindsN fun _ _ _ _ _ _ us hl => match us, hl with | [_, _], _ => rfl
theorem ok_covering {P : Program} {w : World} {K : PySem.W.Frag} {mg : Str → Option Value} {base : Heap} (T : Txt K mg)  {fd : FuncData} (F : FunD K "covering" "covering" (defArgs s_covering) (defBody s_covering) (defScope s_covering) [] [] (aF K "covering") fd) : OkA CX0 P w K mg base 1 (aF K "covering") (sp_covering K) := by
  refine ⟨⟨fd, ["free", "first", "many"], F.ok sc_covering (len_covering K) fun cdv A outer s H vs Q E hr h => ⟨t_covering K, PSs.nox (d_covering T  hr), p_covering T.k vs H Q E h⟩, ?_⟩⟩
  exact F.bindsN fun _ _ _ _ _ _ us hl => match us, hl with | [_, _, _], _ => rfl
theorem ok_without {P : Program} {w : World} {K : PySem.W.Frag} {mg : Str → Option Value} {base : Heap} (T : Txt K mg) (c_covering : OkA CX0 P w K mg base 1 (aF K "covering") (sp_covering K)) {fd : FuncData} (F : FunD K "without" "without" (defArgs s_without) (defBody s_without) (defScope s_without) [] [] (aF K "without") fd) : OkA CX0 P w K mg base 2 (aF K "without") (sp_without K) := by
  refine ⟨⟨fd, ["free", "first", "many"], F.ok sc_without (len_without K) fun cdv A outer s H vs Q E hr h => ⟨t_without K, PSs.nox (d_without T c_covering hr), p_without T.k vs H Q E h⟩, ?_⟩⟩
  exact F.bindsN fun _ _ _ _ _ _ us hl => match us, hl with | [_, _, _], _ => rfl
theorem ok_joined {P : Program} {w : World} {K : PySem.W.Frag} {mg : Str → Option Value} {base : Heap} (T : Txt K mg)  {fd : FuncData} (F : FunD K "joined" "joined" (defArgs s_joined) (defBody s_joined) (defScope s_joined) [] [] (aF K "joined") fd) : OkA CX0 P w K mg base 1 (aF K "joined") (sp_joined K) := by
  refine ⟨⟨fd, ["free", "first", "many"], F.ok sc_joined (len_joined K) fun cdv A outer s H vs Q E hr h => ⟨t_joined K, PSs.nox (d_joined T  hr), p_joined T.k vs H Q E h⟩, ?_⟩⟩
  exact F.bindsN fun _ _ _ _ _ _ us hl => match us, hl with | [_, _, _], _ => rfl
theorem ok_yinit {P : Program} {w : World} {K : PySem.W.Frag} {mg : Str → Option Value} {base : Heap} (T : Txt K mg)  {fd : FuncData} (F : FunD K "__init__" "Yard.__init__" (defArgs s_yinit) (defBody s_yinit) (defScope s_yinit) [] [] (He.ma K (aY K) "__init__") fd) : OkA CX0 P w K mg base 1 (He.ma K (aY K) "__init__") (sp_yinit K) := by
  refine ⟨⟨fd, ["self", "room"], F.ok sc_yinit (len_yinit K) fun cdv A outer s H vs Q E hr h => ⟨t_yinit K, PSs.nox (d_yinit T  hr), p_yinit T.k vs H Q E h⟩, ?_⟩⟩
  exact F.bindsN fun _ _ _ _ _ _ us hl => match us, hl with | [_, _], _ => rfl
theorem ok_write_root {P : Program} {w : World} {K : PySem.W.Frag} {mg : Str → Option Value} {base : Heap} (T : Txt K mg)  {fd : FuncData} (F : FunD K "write_root" "Yard.write_root" (defArgs s_write_root) (defBody s_write_root) (defScope s_write_root) [] [] (aM K "write_root") fd) : OkA CX0 P w K mg base 1 (aM K "write_root") (sp_write_root K) := by
  refine ⟨⟨fd, ["self", "k", "value"], F.ok sc_write_root (len_write_root K) fun cdv A outer s H vs Q E hr h => ⟨t_write_root K, PSs.nox (d_write_root T  hr), p_write_root T.k vs H Q E h⟩, ?_⟩⟩
  exact F.bindsN fun _ _ _ _ _ _ us hl => match us, hl with | [_, _, _], _ => rfl
theorem ok_write_slot {P : Program} {w : World} {K : PySem.W.Frag} {mg : Str → Option Value} {base : Heap} (T : Txt K mg)  {fd : FuncData} (F : FunD K "write_slot" "Yard.write_slot" (defArgs s_write_slot) (defBody s_write_slot) (defScope s_write_slot) [] [] (aM K "write_slot") fd) : OkA CX0 P w K mg base 1 (aM K "write_slot") (sp_write_slot K) := by
  refine ⟨⟨fd, ["self", "address", "slot", "value"], F.ok sc_write_slot (len_write_slot K) fun cdv A outer s H vs Q E hr h => ⟨t_write_slot K, PSs.nox (d_write_slot T  hr), p_write_slot T.k vs H Q E h⟩, ?_⟩⟩
  exact F.bindsN fun _ _ _ _ _ _ us hl => match us, hl with | [_, _, _, _], _ => rfl
theorem ok_release {P : Program} {w : World} {K : PySem.W.Frag} {mg : Str → Option Value} {base : Heap} (T : Txt K mg)  {fd : FuncData} (F : FunD K "release" "Yard.release" (defArgs s_release) (defBody s_release) (defScope s_release) [] [] (aM K "release") fd) : OkA CX0 P w K mg base 1 (aM K "release") (sp_release K) := by
  refine ⟨⟨fd, ["self", "address"], F.ok sc_release (len_release K) fun cdv A outer s H vs Q E hr h => ⟨t_release K, PSs.nox (d_release T  hr), p_release T.k vs H Q E h⟩, ?_⟩⟩
  exact F.bindsN fun _ _ _ _ _ _ us hl => match us, hl with | [_, _], _ => rfl
theorem ok_ask_root {P : Program} {w : World} {K : PySem.W.Frag} {mg : Str → Option Value} {base : Heap} (T : Txt K mg)  {fd : FuncData} (F : FunD K "ask_root" "Yard.ask_root" (defArgs s_ask_root) (defBody s_ask_root) (defScope s_ask_root) [] [] (aM K "ask_root") fd) : OkA CX0 P w K mg base 1 (aM K "ask_root") (sp_ask_root K) := by
  refine ⟨⟨fd, ["self", "k"], F.ok sc_ask_root (len_ask_root K) fun cdv A outer s H vs Q E hr h => ⟨t_ask_root K, PSs.nox (d_ask_root T  hr), p_ask_root T.k vs H Q E h⟩, ?_⟩⟩
  exact F.bindsN fun _ _ _ _ _ _ us hl => match us, hl with | [_, _], _ => rfl
theorem ok_cell_at {P : Program} {w : World} {K : PySem.W.Frag} {mg : Str → Option Value} {base : Heap} (T : Txt K mg)  {fd : FuncData} (F : FunD K "cell_at" "Yard.cell_at" (defArgs s_cell_at) (defBody s_cell_at) (defScope s_cell_at) [] [] (aM K "cell_at") fd) : OkA (L2.CX P w) P w K mg base 1 (aM K "cell_at") (sp_cell_at K) := by
  refine ⟨⟨fd, ["self", "k"], F.ok sc_cell_at (len_cell_at K) fun cdv A outer s H vs Q E hr h => ⟨t_cell_at K E, d_cell_at T  hr, p_cell_at T.k vs H Q E h⟩, ?_⟩⟩
  exact F.bindsN fun _ _ _ _ _ _ us hl => match us, hl with | [_, _], _ => rfl
theorem ok_slot_at {P : Program} {w : World} {K : PySem.W.Frag} {mg : Str → Option Value} {base : Heap} (T : Txt K mg)  {fd : FuncData} (F : FunD K "slot_at" "Yard.slot_at" (defArgs s_slot_at) (defBody s_slot_at) (defScope s_slot_at) [] [] (aM K "slot_at") fd) : OkA (L2.CX P w) P w K mg base 1 (aM K "slot_at") (sp_slot_at K) := by
  refine ⟨⟨fd, ["self", "address", "slot"], F.ok sc_slot_at (len_slot_at K) fun cdv A outer s H vs Q E hr h => ⟨t_slot_at K E, d_slot_at T  hr, p_slot_at T.k vs H Q E h⟩, ?_⟩⟩
  exact F.bindsN fun _ _ _ _ _ _ us hl => match us, hl with | [_, _, _], _ => rfl
theorem ok_told {P : Program} {w : World} {K : PySem.W.Frag} {mg : Str → Option Value} {base : Heap} (T : Txt K mg)  {fd : FuncData} (F : FunD K "told" "Yard.told" (defArgs s_told) (defBody s_told) (defScope s_told) [] [] (aM K "told") fd) : OkA CX0 P w K mg base 1 (aM K "told") (sp_told K) := by
  refine ⟨⟨fd, ["self", "value"], F.ok sc_told (len_told K) fun cdv A outer s H vs Q E hr h => ⟨t_told K, PSs.nox (d_told T  hr), p_told T.k vs H Q E h⟩, ?_⟩⟩
  exact F.bindsN fun _ _ _ _ _ _ us hl => match us, hl with | [_, _], _ => rfl
theorem ok_room_for {P : Program} {w : World} {K : PySem.W.Frag} {mg : Str → Option Value} {base : Heap} (T : Txt K mg) (c_first_fit : OkA CX0 P w K mg base 1 (aF K "first_fit") (sp_first_fit K)) {fd : FuncData} (F : FunD K "room_for" "Counts.room_for" (defArgs s_room_for) (defBody s_room_for) (defScope s_room_for) [] [] (aM K "room_for") fd) : OkA CX0 P w K mg base 2 (aM K "room_for") (sp_room_for K) := by
  refine ⟨⟨fd, ["self", "size"], F.ok sc_room_for (len_room_for K) fun cdv A outer s H vs Q E hr h => ⟨t_room_for K, PSs.nox (d_room_for T c_first_fit hr), p_room_for T.k vs H Q E h⟩, ?_⟩⟩
  exact F.bindsN fun _ _ _ _ _ _ us hl => match us, hl with | [_, _], _ => rfl
theorem ok_where {P : Program} {w : World} {K : PySem.W.Frag} {mg : Str → Option Value} {base : Heap} (T : Txt K mg)  {fd : FuncData} (F : FunD K "where" "Yard.where" (defArgs s_where) (defBody s_where) (defScope s_where) [] [] (aM K "where") fd) : OkA CX0 P w K mg base 1 (aM K "where") (sp_where K) := by
  refine ⟨⟨fd, ["self"], F.ok sc_where (len_where K) fun cdv A outer s H vs Q E hr h => ⟨t_where K, PSs.nox (d_where T  hr), p_where T.k vs H Q E h⟩, ?_⟩⟩
  exact F.bindsN fun _ _ _ _ _ _ us hl => match us, hl with | [_], _ => rfl
theorem ok_slots_at {P : Program} {w : World} {K : PySem.W.Frag} {mg : Str → Option Value} {base : Heap} (T : Txt K mg) (c_told : OkA CX0 P w K mg base 1 (aM K "told") (sp_told K)) {fd : FuncData} (F : FunD K "slots_at" "Yard.slots_at" (defArgs s_slots_at) (defBody s_slots_at) (defScope s_slots_at) [] [] (aM K "slots_at") fd) : OkA CX0 P w K mg base 2 (aM K "slots_at") (sp_slots_at K) := by
  refine ⟨⟨fd, ["self", "address"], F.ok sc_slots_at (len_slots_at K) fun cdv A outer s H vs Q E hr h => ⟨t_slots_at K, PSs.nox (d_slots_at T c_told hr), p_slots_at T.k vs H Q E h⟩, ?_⟩⟩
  exact F.bindsN fun _ _ _ _ _ _ us hl => match us, hl with | [_, _], _ => rfl
theorem ok_picture {P : Program} {w : World} {K : PySem.W.Frag} {mg : Str → Option Value} {base : Heap} (T : Txt K mg) (c_where : OkA CX0 P w K mg base 1 (aM K "where") (sp_where K)) (c_slots_at : OkA CX0 P w K mg base 2 (aM K "slots_at") (sp_slots_at K)) (c_told : OkA CX0 P w K mg base 1 (aM K "told") (sp_told K)) {fd : FuncData} (F : FunD K "picture" "Yard.picture" (defArgs s_picture) (defBody s_picture) (defScope s_picture) [] [] (aM K "picture") fd) : OkA CX0 P w K mg base 3 (aM K "picture") (sp_picture K) := by
  refine ⟨⟨fd, ["self"], F.ok sc_picture (len_picture K) fun cdv A outer s H vs Q E hr h => ⟨t_picture K, PSs.nox (d_picture T c_where c_slots_at c_told hr), p_picture T.k vs H Q E h⟩, ?_⟩⟩
  exact F.bindsN fun _ _ _ _ _ _ us hl => match us, hl with | [_], _ => rfl
theorem ok_inner {P : Program} {w : World} {K : PySem.W.Frag} {mg : Str → Option Value} {base : Heap} (T : Txt K mg)  {fd : FuncData} (F : FunD K "inner" "Counts.inner" (defArgs s_inner) (defBody s_inner) (defScope s_inner) [] [] (aM K "inner") fd) : OkA CX0 P w K mg base 1 (aM K "inner") (sp_inner K) := by
  refine ⟨⟨fd, ["self", "address"], F.ok sc_inner (len_inner K) fun cdv A outer s H vs Q E hr h => ⟨t_inner K, PSs.nox (d_inner T  hr), p_inner T.k vs H Q E h⟩, ?_⟩⟩
  exact F.bindsN fun _ _ _ _ _ _ us hl => match us, hl with | [_, _], _ => rfl
theorem ok_outer {P : Program} {w : World} {K : PySem.W.Frag} {mg : Str → Option Value} {base : Heap} (T : Txt K mg) (c_inner : OkA CX0 P w K mg base 1 (aM K "inner") (sp_inner K)) {fd : FuncData} (F : FunD K "outer" "Counts.outer" (defArgs s_outer) (defBody s_outer) (defScope s_outer) [] [] (aM K "outer") fd) : OkA CX0 P w K mg base 2 (aM K "outer") (sp_outer K) := by
  refine ⟨⟨fd, ["self"], F.ok sc_outer (len_outer K) fun cdv A outer s H vs Q E hr h => ⟨t_outer K, PSs.nox (d_outer T c_inner hr), p_outer T.k vs H Q E h⟩, ?_⟩⟩
  exact F.bindsN fun _ _ _ _ _ _ us hl => match us, hl with | [_], _ => rfl
theorem ok_saved {P : Program} {w : World} {K : PySem.W.Frag} {mg : Str → Option Value} {base : Heap} (T : Txt K mg) (c_outer : OkA CX0 P w K mg base 2 (aM K "outer") (sp_outer K)) (c_inner : OkA CX0 P w K mg base 1 (aM K "inner") (sp_inner K)) {fd : FuncData} (F : FunD K "saved" "Counts.saved" (defArgs s_saved) (defBody s_saved) (defScope s_saved) [] [] (aM K "saved") fd) : OkA CX0 P w K mg base 3 (aM K "saved") (sp_saved K) := by
  refine ⟨⟨fd, ["self"], F.ok sc_saved (len_saved K) fun cdv A outer s H vs Q E hr h => ⟨t_saved K, PSs.nox (d_saved T c_outer c_inner hr), p_saved T.k vs H Q E h⟩, ?_⟩⟩
  exact F.bindsN fun _ _ _ _ _ _ us hl => match us, hl with | [_], _ => rfl
theorem ok_free_up {P : Program} {w : World} {K : PySem.W.Frag} {mg : Str → Option Value} {base : Heap} (T : Txt K mg) (c_release : OkA CX0 P w K mg base 1 (aM K "release") (sp_release K)) (c_joined : OkA CX0 P w K mg base 1 (aF K "joined") (sp_joined K)) {fd : FuncData} (F : FunD K "free_up" "Counts.free_up" (defArgs s_free_up) (defBody s_free_up) (defScope s_free_up) [] [] (aM K "free_up") fd) : OkA CX0 P w K mg base 2 (aM K "free_up") (sp_free_up K) := by
  refine ⟨⟨fd, ["self", "address"], F.ok sc_free_up (len_free_up K) fun cdv A outer s H vs Q E hr h => ⟨t_free_up K, PSs.nox (d_free_up T c_release c_joined hr), p_free_up T.k vs H Q E h⟩, ?_⟩⟩
  exact F.bindsN fun _ _ _ _ _ _ us hl => match us, hl with | [_, _], _ => rfl
theorem ok_glean {P : Program} {w : World} {K : PySem.W.Frag} {mg : Str → Option Value} {base : Heap} (T : Txt K mg) (c_picture : OkA CX0 P w K mg base 3 (aM K "picture") (sp_picture K)) (c_paper_of : OkA CX0 P w K mg base 5 (aF K "paper_of") (sp_paper_of K)) (c_saved : OkA CX0 P w K mg base 3 (aM K "saved") (sp_saved K)) (c_inner : OkA CX0 P w K mg base 1 (aM K "inner") (sp_inner K)) (c_free_up : OkA CX0 P w K mg base 2 (aM K "free_up") (sp_free_up K)) {fd : FuncData} (F : FunD K "glean" "Counts.glean" (defArgs s_glean) (defBody s_glean) (defScope s_glean) [] [] (aM K "glean") fd) : OkA CX0 P w K mg base 6 (aM K "glean") (sp_glean K) := by
  refine ⟨⟨fd, ["self"], F.ok sc_glean (len_glean K) fun cdv A outer s H vs Q E hr h => ⟨t_glean K, PSs.nox (d_glean T c_picture c_paper_of c_saved c_inner c_free_up hr), p_glean T.k vs H Q E h⟩, ?_⟩⟩
  exact F.bindsN fun _ _ _ _ _ _ us hl => match us, hl with | [_], _ => rfl
theorem ok_collect {P : Program} {w : World} {K : PySem.W.Frag} {mg : Str → Option Value} {base : Heap} (T : Txt K mg) (c_glean : OkA CX0 P w K mg base 6 (aM K "glean") (sp_glean K)) {fd : FuncData} (F : FunD K "collect" "Yard.collect" (defArgs s_collect) (defBody s_collect) (defScope s_collect) [] [] (aM K "collect") fd) : OkA CX0 P w K mg base 7 (aM K "collect") (sp_collect K) := by
  refine ⟨⟨fd, ["self"], F.ok sc_collect (len_collect K) fun cdv A outer s H vs Q E hr h => ⟨t_collect K, PSs.nox (d_collect T c_glean hr), p_collect T.k vs H Q E h⟩, ?_⟩⟩
  exact F.bindsN fun _ _ _ _ _ _ us hl => match us, hl with | [_], _ => rfl
theorem ok_placed {P : Program} {w : World} {K : PySem.W.Frag} {mg : Str → Option Value} {base : Heap} (T : Txt K mg) (c_without : OkA CX0 P w K mg base 2 (aF K "without") (sp_without K)) {fd : FuncData} (F : FunD K "placed" "Counts.placed" (defArgs s_placed) (defBody s_placed) (defScope s_placed) [] [] (aM K "placed") fd) : OkA CX0 P w K mg base 3 (aM K "placed") (sp_placed K) := by
  refine ⟨⟨fd, ["self", "address"], F.ok sc_placed (len_placed K) fun cdv A outer s H vs Q E hr h => ⟨t_placed K, PSs.nox (d_placed T c_without hr), p_placed T.k vs H Q E h⟩, ?_⟩⟩
  exact F.bindsN fun _ _ _ _ _ _ us hl => match us, hl with | [_, _], _ => rfl
theorem ok_more {P : Program} {w : World} {K : PySem.W.Frag} {mg : Str → Option Value} {base : Heap} (T : Txt K mg)  {fd : FuncData} (F : FunD K "more" "Counts.more" (defArgs s_more) (defBody s_more) (defScope s_more) [] [] (aM K "more") fd) : OkA CX0 P w K mg base 1 (aM K "more") (sp_more K) := by
  refine ⟨⟨fd, ["self", "value"], F.ok sc_more (len_more K) fun cdv A outer s H vs Q E hr h => ⟨t_more K, PSs.nox (d_more T  hr), p_more T.k vs H Q E h⟩, ?_⟩⟩
  exact F.bindsN fun _ _ _ _ _ _ us hl => match us, hl with | [_, _], _ => rfl
theorem ok_less {P : Program} {w : World} {K : PySem.W.Frag} {mg : Str → Option Value} {base : Heap} (T : Txt K mg) (c_free_up : OkA CX0 P w K mg base 2 (aM K "free_up") (sp_free_up K)) {fd : FuncData} (F : FunD K "less" "Counts.less" (defArgs s_less) (defBody s_less) (defScope s_less) [] [] (aM K "less") fd) : OkA CX0 P w K mg base 3 (aM K "less") (sp_less K) := by
  refine ⟨⟨fd, ["self", "value"], F.ok sc_less (len_less K) fun cdv A outer s H vs Q E hr h => ⟨t_less K, PSs.nox (d_less T c_free_up hr), p_less T.k vs H Q E h⟩, ?_⟩⟩
  exact F.bindsN fun _ _ _ _ _ _ us hl => match us, hl with | [_, _], _ => rfl
theorem ok_set_root {P : Program} {w : World} {K : PySem.W.Frag} {mg : Str → Option Value} {base : Heap} (T : Txt K mg) (c_more : OkA CX0 P w K mg base 1 (aM K "more") (sp_more K)) (c_write_root : OkA CX0 P w K mg base 1 (aM K "write_root") (sp_write_root K)) (c_less : OkA CX0 P w K mg base 3 (aM K "less") (sp_less K)) {fd : FuncData} (F : FunD K "set_root" "Counts.set_root" (defArgs s_set_root) (defBody s_set_root) (defScope s_set_root) [] [] (aM K "set_root") fd) : OkA CX0 P w K mg base 4 (aM K "set_root") (sp_set_root K) := by
  refine ⟨⟨fd, ["self", "k", "value"], F.ok sc_set_root (len_set_root K) fun cdv A outer s H vs Q E hr h => ⟨t_set_root K, PSs.nox (d_set_root T c_more c_write_root c_less hr), p_set_root T.k vs H Q E h⟩, ?_⟩⟩
  exact F.bindsN fun _ _ _ _ _ _ us hl => match us, hl with | [_, _, _], _ => rfl
theorem ok_make {P : Program} {w : World} {K : PySem.W.Frag} {mg : Str → Option Value} {base : Heap} (T : Txt K mg) (c_ask_root : OkA CX0 P w K mg base 1 (aM K "ask_root") (sp_ask_root K)) (c_room_for : OkA CX0 P w K mg base 2 (aM K "room_for") (sp_room_for K)) (c_collect : OkA CX0 P w K mg base 7 (aM K "collect") (sp_collect K)) (c_placed : OkA CX0 P w K mg base 3 (aM K "placed") (sp_placed K)) (c_set_root : OkA CX0 P w K mg base 4 (aM K "set_root") (sp_set_root K)) {fd : FuncData} (F : FunD K "make" "Yard.make" (defArgs s_make) (defBody s_make) (defScope s_make) [] [] (aM K "make") fd) : OkA (L2.CX P w) P w K mg base 8 (aM K "make") (sp_make K) := by
  refine ⟨⟨fd, ["self", "k", "size"], F.ok sc_make (len_make K) fun cdv A outer s H vs Q E hr h => ⟨t_make K E, d_make T c_ask_root c_room_for c_collect c_placed c_set_root hr, p_make T.k vs H Q E h⟩, ?_⟩⟩
  exact F.bindsN fun _ _ _ _ _ _ us hl => match us, hl with | [_, _, _], _ => rfl
theorem ok_number {P : Program} {w : World} {K : PySem.W.Frag} {mg : Str → Option Value} {base : Heap} (T : Txt K mg) (c_ask_root : OkA CX0 P w K mg base 1 (aM K "ask_root") (sp_ask_root K)) (c_set_root : OkA CX0 P w K mg base 4 (aM K "set_root") (sp_set_root K)) {fd : FuncData} (F : FunD K "number" "Yard.number" (defArgs s_number) (defBody s_number) (defScope s_number) [] [] (aM K "number") fd) : OkA CX0 P w K mg base 5 (aM K "number") (sp_number K) := by
  refine ⟨⟨fd, ["self", "k", "number"], F.ok sc_number (len_number K) fun cdv A outer s H vs Q E hr h => ⟨t_number K, PSs.nox (d_number T c_ask_root c_set_root hr), p_number T.k vs H Q E h⟩, ?_⟩⟩
  exact F.bindsN fun _ _ _ _ _ _ us hl => match us, hl with | [_, _, _], _ => rfl
theorem ok_clear {P : Program} {w : World} {K : PySem.W.Frag} {mg : Str → Option Value} {base : Heap} (T : Txt K mg) (c_ask_root : OkA CX0 P w K mg base 1 (aM K "ask_root") (sp_ask_root K)) (c_set_root : OkA CX0 P w K mg base 4 (aM K "set_root") (sp_set_root K)) {fd : FuncData} (F : FunD K "clear" "Yard.clear" (defArgs s_clear) (defBody s_clear) (defScope s_clear) [] [] (aM K "clear") fd) : OkA CX0 P w K mg base 5 (aM K "clear") (sp_clear K) := by
  refine ⟨⟨fd, ["self", "k"], F.ok sc_clear (len_clear K) fun cdv A outer s H vs Q E hr h => ⟨t_clear K, PSs.nox (d_clear T c_ask_root c_set_root hr), p_clear T.k vs H Q E h⟩, ?_⟩⟩
  exact F.bindsN fun _ _ _ _ _ _ us hl => match us, hl with | [_, _], _ => rfl
theorem ok_pass_on {P : Program} {w : World} {K : PySem.W.Frag} {mg : Str → Option Value} {base : Heap} (T : Txt K mg) (c_ask_root : OkA CX0 P w K mg base 1 (aM K "ask_root") (sp_ask_root K)) (c_set_root : OkA CX0 P w K mg base 4 (aM K "set_root") (sp_set_root K)) {fd : FuncData} (F : FunD K "pass_on" "Yard.pass_on" (defArgs s_pass_on) (defBody s_pass_on) (defScope s_pass_on) [] [] (aM K "pass_on") fd) : OkA CX0 P w K mg base 5 (aM K "pass_on") (sp_pass_on K) := by
  refine ⟨⟨fd, ["self", "to", "source"], F.ok sc_pass_on (len_pass_on K) fun cdv A outer s H vs Q E hr h => ⟨t_pass_on K, PSs.nox (d_pass_on T c_ask_root c_set_root hr), p_pass_on T.k vs H Q E h⟩, ?_⟩⟩
  exact F.bindsN fun _ _ _ _ _ _ us hl => match us, hl with | [_, _, _], _ => rfl
theorem ok_set_slot {P : Program} {w : World} {K : PySem.W.Frag} {mg : Str → Option Value} {base : Heap} (T : Txt K mg) (c_more : OkA CX0 P w K mg base 1 (aM K "more") (sp_more K)) (c_write_slot : OkA CX0 P w K mg base 1 (aM K "write_slot") (sp_write_slot K)) (c_less : OkA CX0 P w K mg base 3 (aM K "less") (sp_less K)) {fd : FuncData} (F : FunD K "set_slot" "Counts.set_slot" (defArgs s_set_slot) (defBody s_set_slot) (defScope s_set_slot) [] [] (aM K "set_slot") fd) : OkA CX0 P w K mg base 4 (aM K "set_slot") (sp_set_slot K) := by
  refine ⟨⟨fd, ["self", "address", "slot", "value"], F.ok sc_set_slot (len_set_slot K) fun cdv A outer s H vs Q E hr h => ⟨t_set_slot K, PSs.nox (d_set_slot T c_more c_write_slot c_less hr), p_set_slot T.k vs H Q E h⟩, ?_⟩⟩
  exact F.bindsN fun _ _ _ _ _ _ us hl => match us, hl with | [_, _, _, _], _ => rfl
theorem ok_put {P : Program} {w : World} {K : PySem.W.Frag} {mg : Str → Option Value} {base : Heap} (T : Txt K mg) (c_ask_root : OkA CX0 P w K mg base 1 (aM K "ask_root") (sp_ask_root K)) (c_cell_at : OkA (L2.CX P w) P w K mg base 1 (aM K "cell_at") (sp_cell_at K)) (c_slot_at : OkA (L2.CX P w) P w K mg base 1 (aM K "slot_at") (sp_slot_at K)) (c_set_slot : OkA CX0 P w K mg base 4 (aM K "set_slot") (sp_set_slot K)) {fd : FuncData} (F : FunD K "put" "Yard.put" (defArgs s_put) (defBody s_put) (defScope s_put) [] [] (aM K "put") fd) : OkA (L2.CX P w) P w K mg base 5 (aM K "put") (sp_put K) := by
  refine ⟨⟨fd, ["self", "k", "slot", "source"], F.ok sc_put (len_put K) fun cdv A outer s H vs Q E hr h => ⟨t_put K E, d_put T c_ask_root c_cell_at c_slot_at c_set_slot hr, p_put T.k vs H Q E h⟩, ?_⟩⟩
  exact F.bindsN fun _ _ _ _ _ _ us hl => match us, hl with | [_, _, _, _], _ => rfl
theorem ok_take {P : Program} {w : World} {K : PySem.W.Frag} {mg : Str → Option Value} {base : Heap} (T : Txt K mg) (c_ask_root : OkA CX0 P w K mg base 1 (aM K "ask_root") (sp_ask_root K)) (c_slot_at : OkA (L2.CX P w) P w K mg base 1 (aM K "slot_at") (sp_slot_at K)) (c_cell_at : OkA (L2.CX P w) P w K mg base 1 (aM K "cell_at") (sp_cell_at K)) (c_set_root : OkA CX0 P w K mg base 4 (aM K "set_root") (sp_set_root K)) {fd : FuncData} (F : FunD K "take" "Yard.take" (defArgs s_take) (defBody s_take) (defScope s_take) [] [] (aM K "take") fd) : OkA (L2.CX P w) P w K mg base 5 (aM K "take") (sp_take K) := by
  refine ⟨⟨fd, ["self", "to", "k", "slot"], F.ok sc_take (len_take K) fun cdv A outer s H vs Q E hr h => ⟨t_take K E, d_take T c_ask_root c_slot_at c_cell_at c_set_root hr, p_take T.k vs H Q E h⟩, ?_⟩⟩
  exact F.bindsN fun _ _ _ _ _ _ us hl => match us, hl with | [_, _, _, _], _ => rfl
theorem ok_value {P : Program} {w : World} {K : PySem.W.Frag} {mg : Str → Option Value} {base : Heap} (T : Txt K mg) (c_ask_root : OkA CX0 P w K mg base 1 (aM K "ask_root") (sp_ask_root K)) (c_told : OkA CX0 P w K mg base 1 (aM K "told") (sp_told K)) {fd : FuncData} (F : FunD K "value" "Yard.value" (defArgs s_value) (defBody s_value) (defScope s_value) [] [] (aM K "value") fd) : OkA CX0 P w K mg base 2 (aM K "value") (sp_value K) := by
  refine ⟨⟨fd, ["self", "k"], F.ok sc_value (len_value K) fun cdv A outer s H vs Q E hr h => ⟨t_value K, PSs.nox (d_value T c_ask_root c_told hr), p_value T.k vs H Q E h⟩, ?_⟩⟩
  exact F.bindsN fun _ _ _ _ _ _ us hl => match us, hl with | [_, _], _ => rfl
theorem ok_same {P : Program} {w : World} {K : PySem.W.Frag} {mg : Str → Option Value} {base : Heap} (T : Txt K mg) (c_ask_root : OkA CX0 P w K mg base 1 (aM K "ask_root") (sp_ask_root K)) {fd : FuncData} (F : FunD K "same" "Yard.same" (defArgs s_same) (defBody s_same) (defScope s_same) [] [] (aM K "same") fd) : OkA CX0 P w K mg base 2 (aM K "same") (sp_same K) := by
  refine ⟨⟨fd, ["self", "one", "other"], F.ok sc_same (len_same K) fun cdv A outer s H vs Q E hr h => ⟨t_same K, PSs.nox (d_same T c_ask_root hr), p_same T.k vs H Q E h⟩, ?_⟩⟩
  exact F.bindsN fun _ _ _ _ _ _ us hl => match us, hl with | [_, _, _], _ => rfl
theorem ok_names {P : Program} {w : World} {K : PySem.W.Frag} {mg : Str → Option Value} {base : Heap} (T : Txt K mg) (c_where : OkA CX0 P w K mg base 1 (aM K "where") (sp_where K)) {fd : FuncData} (F : FunD K "names" "Yard.names" (defArgs s_names) (defBody s_names) (defScope s_names) [] [] (aM K "names") fd) : OkA CX0 P w K mg base 2 (aM K "names") (sp_names K) := by
  refine ⟨⟨fd, ["self"], F.ok sc_names (len_names K) fun cdv A outer s H vs Q E hr h => ⟨t_names K, PSs.nox (d_names T c_where hr), p_names T.k vs H Q E h⟩, ?_⟩⟩
  exact F.bindsN fun _ _ _ _ _ _ us hl => match us, hl with | [_], _ => rfl
theorem ok_swept {P : Program} {w : World} {K : PySem.W.Frag} {mg : Str → Option Value} {base : Heap} (T : Txt K mg)  {fd : FuncData} (F : FunD K "swept" "Yard.swept" (defArgs s_swept) (defBody s_swept) (defScope s_swept) [] [] (aM K "swept") fd) : OkA CX0 P w K mg base 1 (aM K "swept") (sp_swept K) := by
  refine ⟨⟨fd, ["self"], F.ok sc_swept (len_swept K) fun cdv A outer s H vs Q E hr h => ⟨t_swept K, PSs.nox (d_swept T  hr), p_swept T.k vs H Q E h⟩, ?_⟩⟩
  exact F.bindsN fun _ _ _ _ _ _ us hl => match us, hl with | [_], _ => rfl
theorem ok_paper {P : Program} {w : World} {K : PySem.W.Frag} {mg : Str → Option Value} {base : Heap} (T : Txt K mg)  {fd : FuncData} (F : FunD K "paper" "Yard.paper" (defArgs s_paper) (defBody s_paper) (defScope s_paper) [] [] (aM K "paper") fd) : OkA CX0 P w K mg base 1 (aM K "paper") (sp_paper K) := by
  refine ⟨⟨fd, ["self"], F.ok sc_paper (len_paper K) fun cdv A outer s H vs Q E hr h => ⟨t_paper K, PSs.nox (d_paper T  hr), p_paper T.k vs H Q E h⟩, ?_⟩⟩
  exact F.bindsN fun _ _ _ _ _ _ us hl => match us, hl with | [_], _ => rfl
theorem ok_cinit {P : Program} {w : World} {K : PySem.W.Frag} {mg : Str → Option Value} {base : Heap} (T : Txt K mg) (c_yinit : OkA CX0 P w K mg base 1 (He.ma K (aY K) "__init__") (sp_yinit K)) {fd : FuncData} (F : FunD K "__init__" "Counts.__init__" (defArgs s_cinit) (defBody s_cinit) (defScope s_cinit) [] [] (aM K "__init__") fd) : OkA CX0 P w K mg base 2 (aM K "__init__") (sp_cinit K) := by
  refine ⟨⟨fd, ["self", "room"], F.ok sc_cinit (len_cinit K) fun cdv A outer s H vs Q E hr h => ⟨t_cinit K, PSs.nox (d_cinit T c_yinit hr), p_cinit T.k vs H Q E h⟩, ?_⟩⟩
  exact F.bindsN fun _ _ _ _ _ _ us hl => match us, hl with | [_, _], _ => rfl
theorem ok_counts {P : Program} {w : World} {K : PySem.W.Frag} {mg : Str → Option Value} {base : Heap} (T : Txt K mg) (c_where : OkA CX0 P w K mg base 1 (aM K "where") (sp_where K)) {fd : FuncData} (F : FunD K "counts" "Counts.counts" (defArgs s_counts) (defBody s_counts) (defScope s_counts) [] [] (aM K "counts") fd) : OkA CX0 P w K mg base 2 (aM K "counts") (sp_counts K) := by
  refine ⟨⟨fd, ["self"], F.ok sc_counts (len_counts K) fun cdv A outer s H vs Q E hr h => ⟨t_counts K, PSs.nox (d_counts T c_where hr), p_counts T.k vs H Q E h⟩, ?_⟩⟩
  exact F.bindsN fun _ _ _ _ _ _ us hl => match us, hl with | [_], _ => rfl
theorem ok_done {P : Program} {w : World} {K : PySem.W.Frag} {mg : Str → Option Value} {base : Heap} (T : Txt K mg) (c_make : OkA (L2.CX P w) P w K mg base 8 (aM K "make") (sp_make K)) (c_number : OkA CX0 P w K mg base 5 (aM K "number") (sp_number K)) (c_clear : OkA CX0 P w K mg base 5 (aM K "clear") (sp_clear K)) (c_pass_on : OkA CX0 P w K mg base 5 (aM K "pass_on") (sp_pass_on K)) (c_put : OkA (L2.CX P w) P w K mg base 5 (aM K "put") (sp_put K)) (c_take : OkA (L2.CX P w) P w K mg base 5 (aM K "take") (sp_take K)) (c_value : OkA CX0 P w K mg base 2 (aM K "value") (sp_value K)) (c_same : OkA CX0 P w K mg base 2 (aM K "same") (sp_same K)) {fd : FuncData} (F : FunD K "done" "done" (defArgs s_done) (defBody s_done) (defScope s_done) [] [] (aF K "done") fd) : OkA (L2.CX P w) P w K mg base 9 (aF K "done") (sp_done K) := by
  refine ⟨⟨fd, ["yard", "deed"], F.ok sc_done (len_done K) fun cdv A outer s H vs Q E hr h => ⟨t_done K E, d_done T c_make c_number c_clear c_pass_on c_put c_take c_value c_same hr, p_done T.k vs H Q E h⟩, ?_⟩⟩
  exact F.bindsN fun _ _ _ _ _ _ us hl => match us, hl with | [_, _], _ => rfl
theorem ok_told_by {P : Program} {w : World} {K : PySem.W.Frag} {mg : Str → Option Value} {base : Heap} (T : Txt K mg) (c_done : OkA (L2.CX P w) P w K mg base 9 (aF K "done") (sp_done K)) {fd : FuncData} (F : FunD K "told_by" "told_by" (defArgs s_told_by) (defBody s_told_by) (defScope s_told_by) [] [] (aF K "told_by") fd) : OkA CX0 P w K mg base 10 (aF K "told_by") (sp_told_by K) := by
  refine ⟨⟨fd, ["yard", "deed"], F.ok sc_told_by (len_told_by K) fun cdv A outer s H vs Q E hr h => ⟨t_told_by K, PSs.nox (d_told_by T c_done hr), p_told_by T.k vs H Q E h⟩, ?_⟩⟩
  exact F.bindsN fun _ _ _ _ _ _ us hl => match us, hl with | [_, _], _ => rfl
theorem ok_law_cell_at {P : Program} {w : World} {K : PySem.W.Frag} {mg : Str → Option Value} {base : Heap} (T : Txt K mg)  {fd : FuncData} (F : FunD K "_law_cell_at" "_law_cell_at" (defArgs s_law_cell_at) (defBody s_law_cell_at) (defScope s_law_cell_at) [] [] (aF K "_law_cell_at") fd) : OkA CX0 P w K mg base 1 (aF K "_law_cell_at") (sp_law_cell_at K) := by
  refine ⟨⟨fd, ["script", "k"], F.ok sc_law_cell_at (len_law_cell_at K) fun cdv A outer s H vs Q E hr h => ⟨t_law_cell_at K, PSs.nox (d_law_cell_at T  hr), p_law_cell_at T.k vs H Q E h⟩, ?_⟩⟩
  exact F.bindsN fun _ _ _ _ _ _ us hl => match us, hl with | [_, _], _ => rfl
theorem ok_law_deed {P : Program} {w : World} {K : PySem.W.Frag} {mg : Str → Option Value} {base : Heap} (T : Txt K mg)  {fd : FuncData} (F : FunD K "_law_deed" "_law_deed" (defArgs s_law_deed) (defBody s_law_deed) (defScope s_law_deed) [] [] (aF K "_law_deed") fd) : OkA CX0 P w K mg base 1 (aF K "_law_deed") (sp_law_deed K) := by
  refine ⟨⟨fd, ["cell"], F.ok sc_law_deed (len_law_deed K) fun cdv A outer s H vs Q E hr h => ⟨t_law_deed K, PSs.nox (d_law_deed T  hr), p_law_deed T.k vs H Q E h⟩, ?_⟩⟩
  exact F.bindsN fun _ _ _ _ _ _ us hl => match us, hl with | [_], _ => rfl
theorem ok_law_do {P : Program} {w : World} {K : PySem.W.Frag} {mg : Str → Option Value} {base : Heap} (T : Txt K mg)  {fd : FuncData} (F : FunD K "_law_do" "_law_do" (defArgs s_law_do) (defBody s_law_do) (defScope s_law_do) [] [] (aF K "_law_do") fd) : OkA CX0 P w K mg base 1 (aF K "_law_do") (sp_law_do K) := by
  refine ⟨⟨fd, ["roots", "cells", "deed"], F.ok sc_law_do (len_law_do K) fun cdv A outer s H vs Q E hr h => ⟨t_law_do K, PSs.nox (d_law_do T  hr), p_law_do T.k vs H Q E h⟩, ?_⟩⟩
  exact F.bindsN fun _ _ _ _ _ _ us hl => match us, hl with | [_, _, _], _ => rfl
theorem ok_law_told_like {P : Program} {w : World} {K : PySem.W.Frag} {mg : Str → Option Value} {base : Heap} (T : Txt K mg)  {fd : FuncData} (F : FunD K "_law_told_like" "_law_told_like" (defArgs s_law_told_like) (defBody s_law_told_like) (defScope s_law_told_like) [] [] (aF K "_law_told_like") fd) : OkA CX0 P w K mg base 1 (aF K "_law_told_like") (sp_law_told_like K) := by
  refine ⟨⟨fd, ["found", "due"], F.ok sc_law_told_like (len_law_told_like K) fun cdv A outer s H vs Q E hr h => ⟨t_law_told_like K, PSs.nox (d_law_told_like T  hr), p_law_told_like T.k vs H Q E h⟩, ?_⟩⟩
  exact F.bindsN fun _ _ _ _ _ _ us hl => match us, hl with | [_, _], _ => rfl
theorem ok_law_done {P : Program} {w : World} {K : PySem.W.Frag} {mg : Str → Option Value} {base : Heap} (T : Txt K mg) (c_told_by : OkA CX0 P w K mg base 10 (aF K "told_by") (sp_told_by K)) (c_law_do : OkA CX0 P w K mg base 1 (aF K "_law_do") (sp_law_do K)) (c_law_told_like : OkA CX0 P w K mg base 1 (aF K "_law_told_like") (sp_law_told_like K)) {fd : FuncData} (F : FunD K "_law_done" "_law_done" (defArgs s_law_done) (defBody s_law_done) (defScope s_law_done) [] [] (aF K "_law_done") fd) : OkA CX0 P w K mg base 11 (aF K "_law_done") (sp_law_done K) := by
  refine ⟨⟨fd, ["yard", "roots", "cells", "deed"], F.ok sc_law_done (len_law_done K) fun cdv A outer s H vs Q E hr h => ⟨t_law_done K, PSs.nox (d_law_done T c_told_by c_law_do c_law_told_like hr), p_law_done T.k vs H Q E h⟩, ?_⟩⟩
  exact F.bindsN fun _ _ _ _ _ _ us hl => match us, hl with | [_, _, _, _], _ => rfl
theorem ok_law_count {P : Program} {w : World} {K : PySem.W.Frag} {mg : Str → Option Value} {base : Heap} (T : Txt K mg)  {fd : FuncData} (F : FunD K "_law_count" "_law_count" (defArgs s_law_count) (defBody s_law_count) (defScope s_law_count) [] [] (aF K "_law_count") fd) : OkA CX0 P w K mg base 1 (aF K "_law_count") (sp_law_count K) := by
  refine ⟨⟨fd, ["roots", "cells", "gone", "name"], F.ok sc_law_count (len_law_count K) fun cdv A outer s H vs Q E hr h => ⟨t_law_count K, PSs.nox (d_law_count T  hr), p_law_count T.k vs H Q E h⟩, ?_⟩⟩
  exact F.bindsN fun _ _ _ _ _ _ us hl => match us, hl with | [_, _, _, _], _ => rfl
theorem ok_law_name {P : Program} {w : World} {K : PySem.W.Frag} {mg : Str → Option Value} {base : Heap} (T : Txt K mg)  {fd : FuncData} (F : FunD K "_law_name" "_law_name" (defArgs s_law_name) (defBody s_law_name) (defScope s_law_name) [] [] (aF K "_law_name") fd) : OkA CX0 P w K mg base 1 (aF K "_law_name") (sp_law_name K) := by
  refine ⟨⟨fd, ["value"], F.ok sc_law_name (len_law_name K) fun cdv A outer s H vs Q E hr h => ⟨t_law_name K, PSs.nox (d_law_name T  hr), p_law_name T.k vs H Q E h⟩, ?_⟩⟩
  exact F.bindsN fun _ _ _ _ _ _ us hl => match us, hl with | [_], _ => rfl
theorem ok_law_going {P : Program} {w : World} {K : PySem.W.Frag} {mg : Str → Option Value} {base : Heap} (T : Txt K mg) (c_law_count : OkA CX0 P w K mg base 1 (aF K "_law_count") (sp_law_count K)) (c_law_name : OkA CX0 P w K mg base 1 (aF K "_law_name") (sp_law_name K)) {fd : FuncData} (F : FunD K "_law_going" "_law_going" (defArgs s_law_going) (defBody s_law_going) (defScope s_law_going) [] [] (aF K "_law_going") fd) : OkA CX0 P w K mg base 2 (aF K "_law_going") (sp_law_going K) := by
  refine ⟨⟨fd, ["roots", "cells", "gone", "value"], F.ok sc_law_going (len_law_going K) fun cdv A outer s H vs Q E hr h => ⟨t_law_going K, PSs.nox (d_law_going T c_law_count c_law_name hr), p_law_going T.k vs H Q E h⟩, ?_⟩⟩
  exact F.bindsN fun _ _ _ _ _ _ us hl => match us, hl with | [_, _, _, _], _ => rfl
theorem ok_law_former {P : Program} {w : World} {K : PySem.W.Frag} {mg : Str → Option Value} {base : Heap} (T : Txt K mg)  {fd : FuncData} (F : FunD K "_law_former" "_law_former" (defArgs s_law_former) (defBody s_law_former) (defScope s_law_former) [] [] (aF K "_law_former") fd) : OkA CX0 P w K mg base 1 (aF K "_law_former") (sp_law_former K) := by
  refine ⟨⟨fd, ["roots", "cells", "deed"], F.ok sc_law_former (len_law_former K) fun cdv A outer s H vs Q E hr h => ⟨t_law_former K, PSs.nox (d_law_former T  hr), p_law_former T.k vs H Q E h⟩, ?_⟩⟩
  exact F.bindsN fun _ _ _ _ _ _ us hl => match us, hl with | [_, _, _], _ => rfl
theorem ok_law {P : Program} {w : World} {K : PySem.W.Frag} {mg : Str → Option Value} {base : Heap} (T : Txt K mg) (c_cinit : OkA CX0 P w K mg base 2 (aM K "__init__") (sp_cinit K)) (c_law_cell_at : OkA CX0 P w K mg base 1 (aF K "_law_cell_at") (sp_law_cell_at K)) (c_law_deed : OkA CX0 P w K mg base 1 (aF K "_law_deed") (sp_law_deed K)) (c_law_former : OkA CX0 P w K mg base 1 (aF K "_law_former") (sp_law_former K)) (c_paper : OkA CX0 P w K mg base 1 (aM K "paper") (sp_paper K)) (c_law_done : OkA CX0 P w K mg base 11 (aF K "_law_done") (sp_law_done K)) (c_law_going : OkA CX0 P w K mg base 2 (aF K "_law_going") (sp_law_going K)) (c_swept : OkA CX0 P w K mg base 1 (aM K "swept") (sp_swept K)) (c_names : OkA CX0 P w K mg base 2 (aM K "names") (sp_names K)) (c_counts : OkA CX0 P w K mg base 2 (aM K "counts") (sp_counts K)) {fd : FuncData} (F : FunD K "law" "law" (defArgs s_law) (defBody s_law) (defScope s_law) [] [] (aF K "law") fd) : FnOk P w K mg base CX0 12 (aF K "law") fd ["script"] (sp_law K) :=
  F.ok sc_law (len_law K) fun cdv A outer s H vs Q E hr h => ⟨t_law K, PSs.nox (d_law T c_cinit c_law_cell_at c_law_deed c_law_former c_paper c_law_done c_law_going c_swept c_names c_counts hr), p_law T.k vs H Q E h⟩
structure Fds (K : PySem.W.Frag) : Prop where
  f_is_value : ∃ fd, FunD K "is_value" "is_value" (defArgs s_is_value) (defBody s_is_value) (defScope s_is_value) [] [] (aF K "is_value") fd
  f_is_picture : ∃ fd, FunD K "is_picture" "is_picture" (defArgs s_is_picture) (defBody s_is_picture) (defScope s_is_picture) [] [] (aF K "is_picture") fd
  f_ask_picture : ∃ fd, FunD K "ask_picture" "ask_picture" (defArgs s_ask_picture) (defBody s_ask_picture) (defScope s_ask_picture) [] [] (aF K "ask_picture") fd
  f_led_to : ∃ fd, FunD K "led_to" "led_to" (defArgs s_led_to) (defBody s_led_to) (defScope s_led_to) [] [] (aF K "led_to") fd
  f_reasons : ∃ fd, FunD K "reasons" "reasons" (defArgs s_reasons) (defBody s_reasons) (defScope s_reasons) [] [] (aF K "reasons") fd
  f_paper_of : ∃ fd, FunD K "paper_of" "paper_of" (defArgs s_paper_of) (defBody s_paper_of) (defScope s_paper_of) [] [] (aF K "paper_of") fd
  f_first_fit : ∃ fd, FunD K "first_fit" "first_fit" (defArgs s_first_fit) (defBody s_first_fit) (defScope s_first_fit) [] [] (aF K "first_fit") fd
  f_covering : ∃ fd, FunD K "covering" "covering" (defArgs s_covering) (defBody s_covering) (defScope s_covering) [] [] (aF K "covering") fd
  f_without : ∃ fd, FunD K "without" "without" (defArgs s_without) (defBody s_without) (defScope s_without) [] [] (aF K "without") fd
  f_joined : ∃ fd, FunD K "joined" "joined" (defArgs s_joined) (defBody s_joined) (defScope s_joined) [] [] (aF K "joined") fd
  f_yinit : ∃ fd, FunD K "__init__" "Yard.__init__" (defArgs s_yinit) (defBody s_yinit) (defScope s_yinit) [] [] (He.ma K (aY K) "__init__") fd
  f_write_root : ∃ fd, FunD K "write_root" "Yard.write_root" (defArgs s_write_root) (defBody s_write_root) (defScope s_write_root) [] [] (aM K "write_root") fd
  f_write_slot : ∃ fd, FunD K "write_slot" "Yard.write_slot" (defArgs s_write_slot) (defBody s_write_slot) (defScope s_write_slot) [] [] (aM K "write_slot") fd
  f_release : ∃ fd, FunD K "release" "Yard.release" (defArgs s_release) (defBody s_release) (defScope s_release) [] [] (aM K "release") fd
  f_ask_root : ∃ fd, FunD K "ask_root" "Yard.ask_root" (defArgs s_ask_root) (defBody s_ask_root) (defScope s_ask_root) [] [] (aM K "ask_root") fd
  f_cell_at : ∃ fd, FunD K "cell_at" "Yard.cell_at" (defArgs s_cell_at) (defBody s_cell_at) (defScope s_cell_at) [] [] (aM K "cell_at") fd
  f_slot_at : ∃ fd, FunD K "slot_at" "Yard.slot_at" (defArgs s_slot_at) (defBody s_slot_at) (defScope s_slot_at) [] [] (aM K "slot_at") fd
  f_told : ∃ fd, FunD K "told" "Yard.told" (defArgs s_told) (defBody s_told) (defScope s_told) [] [] (aM K "told") fd
  f_room_for : ∃ fd, FunD K "room_for" "Counts.room_for" (defArgs s_room_for) (defBody s_room_for) (defScope s_room_for) [] [] (aM K "room_for") fd
  f_where : ∃ fd, FunD K "where" "Yard.where" (defArgs s_where) (defBody s_where) (defScope s_where) [] [] (aM K "where") fd
  f_slots_at : ∃ fd, FunD K "slots_at" "Yard.slots_at" (defArgs s_slots_at) (defBody s_slots_at) (defScope s_slots_at) [] [] (aM K "slots_at") fd
  f_picture : ∃ fd, FunD K "picture" "Yard.picture" (defArgs s_picture) (defBody s_picture) (defScope s_picture) [] [] (aM K "picture") fd
  f_inner : ∃ fd, FunD K "inner" "Counts.inner" (defArgs s_inner) (defBody s_inner) (defScope s_inner) [] [] (aM K "inner") fd
  f_outer : ∃ fd, FunD K "outer" "Counts.outer" (defArgs s_outer) (defBody s_outer) (defScope s_outer) [] [] (aM K "outer") fd
  f_saved : ∃ fd, FunD K "saved" "Counts.saved" (defArgs s_saved) (defBody s_saved) (defScope s_saved) [] [] (aM K "saved") fd
  f_free_up : ∃ fd, FunD K "free_up" "Counts.free_up" (defArgs s_free_up) (defBody s_free_up) (defScope s_free_up) [] [] (aM K "free_up") fd
  f_glean : ∃ fd, FunD K "glean" "Counts.glean" (defArgs s_glean) (defBody s_glean) (defScope s_glean) [] [] (aM K "glean") fd
  f_collect : ∃ fd, FunD K "collect" "Yard.collect" (defArgs s_collect) (defBody s_collect) (defScope s_collect) [] [] (aM K "collect") fd
  f_placed : ∃ fd, FunD K "placed" "Counts.placed" (defArgs s_placed) (defBody s_placed) (defScope s_placed) [] [] (aM K "placed") fd
  f_more : ∃ fd, FunD K "more" "Counts.more" (defArgs s_more) (defBody s_more) (defScope s_more) [] [] (aM K "more") fd
  f_less : ∃ fd, FunD K "less" "Counts.less" (defArgs s_less) (defBody s_less) (defScope s_less) [] [] (aM K "less") fd
  f_set_root : ∃ fd, FunD K "set_root" "Counts.set_root" (defArgs s_set_root) (defBody s_set_root) (defScope s_set_root) [] [] (aM K "set_root") fd
  f_make : ∃ fd, FunD K "make" "Yard.make" (defArgs s_make) (defBody s_make) (defScope s_make) [] [] (aM K "make") fd
  f_number : ∃ fd, FunD K "number" "Yard.number" (defArgs s_number) (defBody s_number) (defScope s_number) [] [] (aM K "number") fd
  f_clear : ∃ fd, FunD K "clear" "Yard.clear" (defArgs s_clear) (defBody s_clear) (defScope s_clear) [] [] (aM K "clear") fd
  f_pass_on : ∃ fd, FunD K "pass_on" "Yard.pass_on" (defArgs s_pass_on) (defBody s_pass_on) (defScope s_pass_on) [] [] (aM K "pass_on") fd
  f_set_slot : ∃ fd, FunD K "set_slot" "Counts.set_slot" (defArgs s_set_slot) (defBody s_set_slot) (defScope s_set_slot) [] [] (aM K "set_slot") fd
  f_put : ∃ fd, FunD K "put" "Yard.put" (defArgs s_put) (defBody s_put) (defScope s_put) [] [] (aM K "put") fd
  f_take : ∃ fd, FunD K "take" "Yard.take" (defArgs s_take) (defBody s_take) (defScope s_take) [] [] (aM K "take") fd
  f_value : ∃ fd, FunD K "value" "Yard.value" (defArgs s_value) (defBody s_value) (defScope s_value) [] [] (aM K "value") fd
  f_same : ∃ fd, FunD K "same" "Yard.same" (defArgs s_same) (defBody s_same) (defScope s_same) [] [] (aM K "same") fd
  f_names : ∃ fd, FunD K "names" "Yard.names" (defArgs s_names) (defBody s_names) (defScope s_names) [] [] (aM K "names") fd
  f_swept : ∃ fd, FunD K "swept" "Yard.swept" (defArgs s_swept) (defBody s_swept) (defScope s_swept) [] [] (aM K "swept") fd
  f_paper : ∃ fd, FunD K "paper" "Yard.paper" (defArgs s_paper) (defBody s_paper) (defScope s_paper) [] [] (aM K "paper") fd
  f_cinit : ∃ fd, FunD K "__init__" "Counts.__init__" (defArgs s_cinit) (defBody s_cinit) (defScope s_cinit) [] [] (aM K "__init__") fd
  f_counts : ∃ fd, FunD K "counts" "Counts.counts" (defArgs s_counts) (defBody s_counts) (defScope s_counts) [] [] (aM K "counts") fd
  f_done : ∃ fd, FunD K "done" "done" (defArgs s_done) (defBody s_done) (defScope s_done) [] [] (aF K "done") fd
  f_told_by : ∃ fd, FunD K "told_by" "told_by" (defArgs s_told_by) (defBody s_told_by) (defScope s_told_by) [] [] (aF K "told_by") fd
  f_law_cell_at : ∃ fd, FunD K "_law_cell_at" "_law_cell_at" (defArgs s_law_cell_at) (defBody s_law_cell_at) (defScope s_law_cell_at) [] [] (aF K "_law_cell_at") fd
  f_law_deed : ∃ fd, FunD K "_law_deed" "_law_deed" (defArgs s_law_deed) (defBody s_law_deed) (defScope s_law_deed) [] [] (aF K "_law_deed") fd
  f_law_do : ∃ fd, FunD K "_law_do" "_law_do" (defArgs s_law_do) (defBody s_law_do) (defScope s_law_do) [] [] (aF K "_law_do") fd
  f_law_told_like : ∃ fd, FunD K "_law_told_like" "_law_told_like" (defArgs s_law_told_like) (defBody s_law_told_like) (defScope s_law_told_like) [] [] (aF K "_law_told_like") fd
  f_law_done : ∃ fd, FunD K "_law_done" "_law_done" (defArgs s_law_done) (defBody s_law_done) (defScope s_law_done) [] [] (aF K "_law_done") fd
  f_law_count : ∃ fd, FunD K "_law_count" "_law_count" (defArgs s_law_count) (defBody s_law_count) (defScope s_law_count) [] [] (aF K "_law_count") fd
  f_law_name : ∃ fd, FunD K "_law_name" "_law_name" (defArgs s_law_name) (defBody s_law_name) (defScope s_law_name) [] [] (aF K "_law_name") fd
  f_law_going : ∃ fd, FunD K "_law_going" "_law_going" (defArgs s_law_going) (defBody s_law_going) (defScope s_law_going) [] [] (aF K "_law_going") fd
  f_law_former : ∃ fd, FunD K "_law_former" "_law_former" (defArgs s_law_former) (defBody s_law_former) (defScope s_law_former) [] [] (aF K "_law_former") fd
theorem law_fn {P : Program} {w : World} {K : PySem.W.Frag} {mg : Str → Option Value} {base : Heap} (T : Txt K mg) (F : Fds K) {fd : FuncData} (FL : FunD K "law" "law" (defArgs s_law) (defBody s_law) (defScope s_law) [] [] (aF K "law") fd) : FnOk P w K mg base CX0 12 (aF K "law") fd ["script"] (sp_law K) := by
  obtain ⟨fd_is_value, F_is_value⟩ := F.f_is_value
  have o_is_value := ok_is_value (P := P) (w := w) (base := base) T  F_is_value
  obtain ⟨fd_led_to, F_led_to⟩ := F.f_led_to
  have o_led_to := ok_led_to (P := P) (w := w) (base := base) T  F_led_to
  obtain ⟨fd_first_fit, F_first_fit⟩ := F.f_first_fit
  have o_first_fit := ok_first_fit (P := P) (w := w) (base := base) T  F_first_fit
  obtain ⟨fd_covering, F_covering⟩ := F.f_covering
  have o_covering := ok_covering (P := P) (w := w) (base := base) T  F_covering
  obtain ⟨fd_joined, F_joined⟩ := F.f_joined
  have o_joined := ok_joined (P := P) (w := w) (base := base) T  F_joined
  obtain ⟨fd_yinit, F_yinit⟩ := F.f_yinit
  have o_yinit := ok_yinit (P := P) (w := w) (base := base) T  F_yinit
  obtain ⟨fd_write_root, F_write_root⟩ := F.f_write_root
  have o_write_root := ok_write_root (P := P) (w := w) (base := base) T  F_write_root
  obtain ⟨fd_write_slot, F_write_slot⟩ := F.f_write_slot
  have o_write_slot := ok_write_slot (P := P) (w := w) (base := base) T  F_write_slot
  obtain ⟨fd_release, F_release⟩ := F.f_release
  have o_release := ok_release (P := P) (w := w) (base := base) T  F_release
  obtain ⟨fd_ask_root, F_ask_root⟩ := F.f_ask_root
  have o_ask_root := ok_ask_root (P := P) (w := w) (base := base) T  F_ask_root
  obtain ⟨fd_cell_at, F_cell_at⟩ := F.f_cell_at
  have o_cell_at := ok_cell_at (P := P) (w := w) (base := base) T  F_cell_at
  obtain ⟨fd_slot_at, F_slot_at⟩ := F.f_slot_at
  have o_slot_at := ok_slot_at (P := P) (w := w) (base := base) T  F_slot_at
  obtain ⟨fd_told, F_told⟩ := F.f_told
  have o_told := ok_told (P := P) (w := w) (base := base) T  F_told
  obtain ⟨fd_where, F_where⟩ := F.f_where
  have o_where := ok_where (P := P) (w := w) (base := base) T  F_where
  obtain ⟨fd_inner, F_inner⟩ := F.f_inner
  have o_inner := ok_inner (P := P) (w := w) (base := base) T  F_inner
  obtain ⟨fd_more, F_more⟩ := F.f_more
  have o_more := ok_more (P := P) (w := w) (base := base) T  F_more
  obtain ⟨fd_swept, F_swept⟩ := F.f_swept
  have o_swept := ok_swept (P := P) (w := w) (base := base) T  F_swept
  obtain ⟨fd_paper, F_paper⟩ := F.f_paper
  have o_paper := ok_paper (P := P) (w := w) (base := base) T  F_paper
  obtain ⟨fd_law_cell_at, F_law_cell_at⟩ := F.f_law_cell_at
  have o_law_cell_at := ok_law_cell_at (P := P) (w := w) (base := base) T  F_law_cell_at
  obtain ⟨fd_law_deed, F_law_deed⟩ := F.f_law_deed
  have o_law_deed := ok_law_deed (P := P) (w := w) (base := base) T  F_law_deed
  obtain ⟨fd_law_do, F_law_do⟩ := F.f_law_do
  have o_law_do := ok_law_do (P := P) (w := w) (base := base) T  F_law_do
  obtain ⟨fd_law_told_like, F_law_told_like⟩ := F.f_law_told_like
  have o_law_told_like := ok_law_told_like (P := P) (w := w) (base := base) T  F_law_told_like
  obtain ⟨fd_law_count, F_law_count⟩ := F.f_law_count
  have o_law_count := ok_law_count (P := P) (w := w) (base := base) T  F_law_count
  obtain ⟨fd_law_name, F_law_name⟩ := F.f_law_name
  have o_law_name := ok_law_name (P := P) (w := w) (base := base) T  F_law_name
  obtain ⟨fd_law_former, F_law_former⟩ := F.f_law_former
  have o_law_former := ok_law_former (P := P) (w := w) (base := base) T  F_law_former
  obtain ⟨fd_is_picture, F_is_picture⟩ := F.f_is_picture
  have o_is_picture := ok_is_picture (P := P) (w := w) (base := base) T o_is_value F_is_picture
  obtain ⟨fd_without, F_without⟩ := F.f_without
  have o_without := ok_without (P := P) (w := w) (base := base) T o_covering F_without
  obtain ⟨fd_room_for, F_room_for⟩ := F.f_room_for
  have o_room_for := ok_room_for (P := P) (w := w) (base := base) T o_first_fit F_room_for
  obtain ⟨fd_slots_at, F_slots_at⟩ := F.f_slots_at
  have o_slots_at := ok_slots_at (P := P) (w := w) (base := base) T o_told F_slots_at
  obtain ⟨fd_outer, F_outer⟩ := F.f_outer
  have o_outer := ok_outer (P := P) (w := w) (base := base) T o_inner F_outer
  obtain ⟨fd_free_up, F_free_up⟩ := F.f_free_up
  have o_free_up := ok_free_up (P := P) (w := w) (base := base) T o_release o_joined F_free_up
  obtain ⟨fd_value, F_value⟩ := F.f_value
  have o_value := ok_value (P := P) (w := w) (base := base) T o_ask_root o_told F_value
  obtain ⟨fd_same, F_same⟩ := F.f_same
  have o_same := ok_same (P := P) (w := w) (base := base) T o_ask_root F_same
  obtain ⟨fd_names, F_names⟩ := F.f_names
  have o_names := ok_names (P := P) (w := w) (base := base) T o_where F_names
  obtain ⟨fd_cinit, F_cinit⟩ := F.f_cinit
  have o_cinit := ok_cinit (P := P) (w := w) (base := base) T o_yinit F_cinit
  obtain ⟨fd_counts, F_counts⟩ := F.f_counts
  have o_counts := ok_counts (P := P) (w := w) (base := base) T o_where F_counts
  obtain ⟨fd_law_going, F_law_going⟩ := F.f_law_going
  have o_law_going := ok_law_going (P := P) (w := w) (base := base) T o_law_count o_law_name F_law_going
  obtain ⟨fd_ask_picture, F_ask_picture⟩ := F.f_ask_picture
  have o_ask_picture := ok_ask_picture (P := P) (w := w) (base := base) T o_is_picture F_ask_picture
  obtain ⟨fd_picture, F_picture⟩ := F.f_picture
  have o_picture := ok_picture (P := P) (w := w) (base := base) T o_where o_slots_at o_told F_picture
  obtain ⟨fd_saved, F_saved⟩ := F.f_saved
  have o_saved := ok_saved (P := P) (w := w) (base := base) T o_outer o_inner F_saved
  obtain ⟨fd_placed, F_placed⟩ := F.f_placed
  have o_placed := ok_placed (P := P) (w := w) (base := base) T o_without F_placed
  obtain ⟨fd_less, F_less⟩ := F.f_less
  have o_less := ok_less (P := P) (w := w) (base := base) T o_free_up F_less
  obtain ⟨fd_reasons, F_reasons⟩ := F.f_reasons
  have o_reasons := ok_reasons (P := P) (w := w) (base := base) T o_ask_picture o_led_to F_reasons
  obtain ⟨fd_set_root, F_set_root⟩ := F.f_set_root
  have o_set_root := ok_set_root (P := P) (w := w) (base := base) T o_more o_write_root o_less F_set_root
  obtain ⟨fd_set_slot, F_set_slot⟩ := F.f_set_slot
  have o_set_slot := ok_set_slot (P := P) (w := w) (base := base) T o_more o_write_slot o_less F_set_slot
  obtain ⟨fd_paper_of, F_paper_of⟩ := F.f_paper_of
  have o_paper_of := ok_paper_of (P := P) (w := w) (base := base) T o_reasons F_paper_of
  obtain ⟨fd_number, F_number⟩ := F.f_number
  have o_number := ok_number (P := P) (w := w) (base := base) T o_ask_root o_set_root F_number
  obtain ⟨fd_clear, F_clear⟩ := F.f_clear
  have o_clear := ok_clear (P := P) (w := w) (base := base) T o_ask_root o_set_root F_clear
  obtain ⟨fd_pass_on, F_pass_on⟩ := F.f_pass_on
  have o_pass_on := ok_pass_on (P := P) (w := w) (base := base) T o_ask_root o_set_root F_pass_on
  obtain ⟨fd_put, F_put⟩ := F.f_put
  have o_put := ok_put (P := P) (w := w) (base := base) T o_ask_root o_cell_at o_slot_at o_set_slot F_put
  obtain ⟨fd_take, F_take⟩ := F.f_take
  have o_take := ok_take (P := P) (w := w) (base := base) T o_ask_root o_slot_at o_cell_at o_set_root F_take
  obtain ⟨fd_glean, F_glean⟩ := F.f_glean
  have o_glean := ok_glean (P := P) (w := w) (base := base) T o_picture o_paper_of o_saved o_inner o_free_up F_glean
  obtain ⟨fd_collect, F_collect⟩ := F.f_collect
  have o_collect := ok_collect (P := P) (w := w) (base := base) T o_glean F_collect
  obtain ⟨fd_make, F_make⟩ := F.f_make
  have o_make := ok_make (P := P) (w := w) (base := base) T o_ask_root o_room_for o_collect o_placed o_set_root F_make
  obtain ⟨fd_done, F_done⟩ := F.f_done
  have o_done := ok_done (P := P) (w := w) (base := base) T o_make o_number o_clear o_pass_on o_put o_take o_value o_same F_done
  obtain ⟨fd_told_by, F_told_by⟩ := F.f_told_by
  have o_told_by := ok_told_by (P := P) (w := w) (base := base) T o_done F_told_by
  obtain ⟨fd_law_done, F_law_done⟩ := F.f_law_done
  have o_law_done := ok_law_done (P := P) (w := w) (base := base) T o_told_by o_law_do o_law_told_like F_law_done
  exact ok_law T o_cinit o_law_cell_at o_law_deed o_law_former o_paper o_law_done o_law_going o_swept o_names o_counts FL
end Gy

set_option Elab.async false
set_option linter.all false
set_option maxRecDepth 100000
set_option maxHeartbeats 0
/-! printed by print.py: the head, its facts, the end -/
namespace Gy
open PySem PySem.Spec PyProof.Rows L2
open Evl (rLenS rListS rMax2)
open C8 (pe_gc)

def ddFn : List He.DefD := [⟨("is_value", none), "is_value", "is_value", defArgs s_is_value, defBody s_is_value, defScope s_is_value, [], []⟩,
  ⟨("is_picture", none), "is_picture", "is_picture", defArgs s_is_picture, defBody s_is_picture, defScope s_is_picture, [], []⟩,
  ⟨("ask_picture", none), "ask_picture", "ask_picture", defArgs s_ask_picture, defBody s_ask_picture, defScope s_ask_picture, [], []⟩,
  ⟨("led_to", none), "led_to", "led_to", defArgs s_led_to, defBody s_led_to, defScope s_led_to, [], []⟩,
  ⟨("reasons", none), "reasons", "reasons", defArgs s_reasons, defBody s_reasons, defScope s_reasons, [], []⟩,
  ⟨("paper_of", none), "paper_of", "paper_of", defArgs s_paper_of, defBody s_paper_of, defScope s_paper_of, [], []⟩,
  ⟨("first_fit", none), "first_fit", "first_fit", defArgs s_first_fit, defBody s_first_fit, defScope s_first_fit, [], []⟩,
  ⟨("covering", none), "covering", "covering", defArgs s_covering, defBody s_covering, defScope s_covering, [], []⟩,
  ⟨("without", none), "without", "without", defArgs s_without, defBody s_without, defScope s_without, [], []⟩,
  ⟨("joined", none), "joined", "joined", defArgs s_joined, defBody s_joined, defScope s_joined, [], []⟩,
  ⟨("Yard", some "__init__"), "__init__", "Yard.__init__", defArgs s_yinit, defBody s_yinit, defScope s_yinit, [], []⟩,
  ⟨("Counts", some "write_root"), "write_root", "Yard.write_root", defArgs s_write_root, defBody s_write_root, defScope s_write_root, [], []⟩,
  ⟨("Counts", some "write_slot"), "write_slot", "Yard.write_slot", defArgs s_write_slot, defBody s_write_slot, defScope s_write_slot, [], []⟩,
  ⟨("Counts", some "release"), "release", "Yard.release", defArgs s_release, defBody s_release, defScope s_release, [], []⟩,
  ⟨("Counts", some "ask_root"), "ask_root", "Yard.ask_root", defArgs s_ask_root, defBody s_ask_root, defScope s_ask_root, [], []⟩,
  ⟨("Counts", some "cell_at"), "cell_at", "Yard.cell_at", defArgs s_cell_at, defBody s_cell_at, defScope s_cell_at, [], []⟩,
  ⟨("Counts", some "slot_at"), "slot_at", "Yard.slot_at", defArgs s_slot_at, defBody s_slot_at, defScope s_slot_at, [], []⟩,
  ⟨("Counts", some "told"), "told", "Yard.told", defArgs s_told, defBody s_told, defScope s_told, [], []⟩,
  ⟨("Counts", some "room_for"), "room_for", "Counts.room_for", defArgs s_room_for, defBody s_room_for, defScope s_room_for, [], []⟩,
  ⟨("Counts", some "where"), "where", "Yard.where", defArgs s_where, defBody s_where, defScope s_where, [], []⟩,
  ⟨("Counts", some "slots_at"), "slots_at", "Yard.slots_at", defArgs s_slots_at, defBody s_slots_at, defScope s_slots_at, [], []⟩,
  ⟨("Counts", some "picture"), "picture", "Yard.picture", defArgs s_picture, defBody s_picture, defScope s_picture, [], []⟩,
  ⟨("Counts", some "inner"), "inner", "Counts.inner", defArgs s_inner, defBody s_inner, defScope s_inner, [], []⟩,
  ⟨("Counts", some "outer"), "outer", "Counts.outer", defArgs s_outer, defBody s_outer, defScope s_outer, [], []⟩,
  ⟨("Counts", some "saved"), "saved", "Counts.saved", defArgs s_saved, defBody s_saved, defScope s_saved, [], []⟩,
  ⟨("Counts", some "free_up"), "free_up", "Counts.free_up", defArgs s_free_up, defBody s_free_up, defScope s_free_up, [], []⟩,
  ⟨("Counts", some "glean"), "glean", "Counts.glean", defArgs s_glean, defBody s_glean, defScope s_glean, [], []⟩,
  ⟨("Counts", some "collect"), "collect", "Yard.collect", defArgs s_collect, defBody s_collect, defScope s_collect, [], []⟩,
  ⟨("Counts", some "placed"), "placed", "Counts.placed", defArgs s_placed, defBody s_placed, defScope s_placed, [], []⟩,
  ⟨("Counts", some "more"), "more", "Counts.more", defArgs s_more, defBody s_more, defScope s_more, [], []⟩,
  ⟨("Counts", some "less"), "less", "Counts.less", defArgs s_less, defBody s_less, defScope s_less, [], []⟩,
  ⟨("Counts", some "set_root"), "set_root", "Counts.set_root", defArgs s_set_root, defBody s_set_root, defScope s_set_root, [], []⟩,
  ⟨("Counts", some "make"), "make", "Yard.make", defArgs s_make, defBody s_make, defScope s_make, [], []⟩,
  ⟨("Counts", some "number"), "number", "Yard.number", defArgs s_number, defBody s_number, defScope s_number, [], []⟩,
  ⟨("Counts", some "clear"), "clear", "Yard.clear", defArgs s_clear, defBody s_clear, defScope s_clear, [], []⟩,
  ⟨("Counts", some "pass_on"), "pass_on", "Yard.pass_on", defArgs s_pass_on, defBody s_pass_on, defScope s_pass_on, [], []⟩,
  ⟨("Counts", some "set_slot"), "set_slot", "Counts.set_slot", defArgs s_set_slot, defBody s_set_slot, defScope s_set_slot, [], []⟩,
  ⟨("Counts", some "put"), "put", "Yard.put", defArgs s_put, defBody s_put, defScope s_put, [], []⟩,
  ⟨("Counts", some "take"), "take", "Yard.take", defArgs s_take, defBody s_take, defScope s_take, [], []⟩,
  ⟨("Counts", some "value"), "value", "Yard.value", defArgs s_value, defBody s_value, defScope s_value, [], []⟩,
  ⟨("Counts", some "same"), "same", "Yard.same", defArgs s_same, defBody s_same, defScope s_same, [], []⟩,
  ⟨("Counts", some "names"), "names", "Yard.names", defArgs s_names, defBody s_names, defScope s_names, [], []⟩,
  ⟨("Counts", some "swept"), "swept", "Yard.swept", defArgs s_swept, defBody s_swept, defScope s_swept, [], []⟩,
  ⟨("Counts", some "paper"), "paper", "Yard.paper", defArgs s_paper, defBody s_paper, defScope s_paper, [], []⟩,
  ⟨("Counts", some "__init__"), "__init__", "Counts.__init__", defArgs s_cinit, defBody s_cinit, defScope s_cinit, [], []⟩,
  ⟨("Counts", some "counts"), "counts", "Counts.counts", defArgs s_counts, defBody s_counts, defScope s_counts, [], []⟩,
  ⟨("done", none), "done", "done", defArgs s_done, defBody s_done, defScope s_done, [], []⟩,
  ⟨("told_by", none), "told_by", "told_by", defArgs s_told_by, defBody s_told_by, defScope s_told_by, [], []⟩,
  ⟨("_law_cell_at", none), "_law_cell_at", "_law_cell_at", defArgs s_law_cell_at, defBody s_law_cell_at, defScope s_law_cell_at, [], []⟩,
  ⟨("_law_deed", none), "_law_deed", "_law_deed", defArgs s_law_deed, defBody s_law_deed, defScope s_law_deed, [], []⟩,
  ⟨("_law_do", none), "_law_do", "_law_do", defArgs s_law_do, defBody s_law_do, defScope s_law_do, [], []⟩,
  ⟨("_law_told_like", none), "_law_told_like", "_law_told_like", defArgs s_law_told_like, defBody s_law_told_like, defScope s_law_told_like, [], []⟩,
  ⟨("_law_done", none), "_law_done", "_law_done", defArgs s_law_done, defBody s_law_done, defScope s_law_done, [], []⟩,
  ⟨("_law_count", none), "_law_count", "_law_count", defArgs s_law_count, defBody s_law_count, defScope s_law_count, [], []⟩,
  ⟨("_law_name", none), "_law_name", "_law_name", defArgs s_law_name, defBody s_law_name, defScope s_law_name, [], []⟩,
  ⟨("_law_going", none), "_law_going", "_law_going", defArgs s_law_going, defBody s_law_going, defScope s_law_going, [], []⟩,
  ⟨("_law_former", none), "_law_former", "_law_former", defArgs s_law_former, defBody s_law_former, defScope s_law_former, [], []⟩,
  ⟨("law", none), "law", "law", defArgs s_law, defBody s_law, defScope s_law, [], []⟩]
def ddFa : List He.Fa := [.cls "Counts", .mkr "Counts", .noat "Counts" "room", .noat "Counts" "words", .noat "Counts" "roots", .noat "Counts" "born", .noat "Counts" "gone", .noat "Counts" "last", .noat "Counts" "free", .noat "Counts" "led_in", .free "all", .free "bool", .free "dict", .free "int", .free "isinstance", .free "len", .free "list", .free "max", .free "range", .free "set", .free "sorted", .free "tuple", .free "zip", .int "ROOTS" 8, .int "MOST_SIZE" 4, .int "GREATEST" 1000000, .int "LEAST_ROOM" 8, .int "MOST_ROOM" 120, .glo "is_value", .keep "is_value", .glo "is_picture", .keep "is_picture", .glo "ask_picture", .keep "ask_picture", .glo "led_to", .keep "led_to", .glo "reasons", .keep "reasons", .glo "paper_of", .keep "paper_of", .glo "first_fit", .keep "first_fit", .glo "covering", .keep "covering", .glo "without", .keep "without", .glo "joined", .keep "joined", .glo "done", .keep "done", .glo "told_by", .keep "told_by", .glo "_law_cell_at", .keep "_law_cell_at", .glo "_law_deed", .keep "_law_deed", .glo "_law_do", .keep "_law_do", .glo "_law_told_like", .keep "_law_told_like", .glo "_law_done", .keep "_law_done", .glo "_law_count", .keep "_law_count", .glo "_law_name", .keep "_law_name", .glo "_law_going", .keep "_law_going", .glo "_law_former", .keep "_law_former", .glo "Counts", .glo "Yard", .glo "NoCell", .glo "NoSlot", .glo "Full", .glo "NoRoot", .glo "NoSize", .glo "NoNumber", .meth "Counts" "write_root", .meth "Counts" "write_slot", .meth "Counts" "release", .meth "Counts" "ask_root", .meth "Counts" "cell_at", .meth "Counts" "slot_at", .meth "Counts" "told", .meth "Counts" "room_for", .meth "Counts" "where", .meth "Counts" "slots_at", .meth "Counts" "picture", .meth "Counts" "inner", .meth "Counts" "outer", .meth "Counts" "saved", .meth "Counts" "free_up", .meth "Counts" "glean", .meth "Counts" "collect", .meth "Counts" "placed", .meth "Counts" "more", .meth "Counts" "less", .meth "Counts" "set_root", .meth "Counts" "make", .meth "Counts" "number", .meth "Counts" "clear", .meth "Counts" "pass_on", .meth "Counts" "set_slot", .meth "Counts" "put", .meth "Counts" "take", .meth "Counts" "value", .meth "Counts" "same", .meth "Counts" "names", .meth "Counts" "swept", .meth "Counts" "paper", .meth "Counts" "counts", .exc "NoCell", .exc "NoSlot", .exc "Full", .exm "NoCell" "NoRoot" false, .exm "NoCell" "NoSize" false, .exm "NoCell" "NoNumber" false, .exm "NoCell" "NoCell" true, .exm "NoSlot" "NoRoot" false, .exm "NoSlot" "NoSize" false, .exm "NoSlot" "NoNumber" false, .exm "NoSlot" "NoCell" false, .exm "NoSlot" "NoSlot" true, .exm "Full" "NoRoot" false, .exm "Full" "NoSize" false, .exm "Full" "NoNumber" false, .exm "Full" "NoCell" false, .exm "Full" "NoSlot" false, .exm "Full" "Full" true, .glo "law"]
/-- Yard.__init__, read off the class -/
def exY (K : PySem.W.Frag) : Bool := PySem.W.readsIn K (aY K) (.type "type") && (He.eqO (PySem.W.specialIn K (.ref (aY K)) "__getattribute__") (some (some (.builtin "type.__getattribute__"))) && ((match PySem.W.findCls K (.ref (aY K)) (.type "type") "__init__" with
  | some (.val (.ref a)) => decide (a = He.ma K (aY K) "__init__")
  | _ => false) && PySem.W.keepIn K (.ref (He.ma K (aY K) "__init__"))))
theorem exY_ok {K : PySem.W.Frag} (h : exY K = true) : ClX.CRead K (aY K) (.type "type") ∧ ClX.CVal K (aY K) (.type "type") "__init__" (.ref (He.ma K (aY K) "__init__")) (.ref (He.ma K (aY K) "__init__")) ∧ PySem.W.keepIn K (.ref (He.ma K (aY K) "__init__")) = true := by
  obtain ⟨h1, h2⟩ := He.ba h
  obtain ⟨h3, h4⟩ := He.ba h2
  obtain ⟨h5, h6⟩ := He.ba h4
  refine ⟨⟨h1, He.eqO_ok h3⟩, ⟨?_, rfl⟩, h6⟩
  cases e : PySem.W.findCls K (.ref (aY K)) (.type "type") "__init__" with
  | none => rw [e] at h5; cases h5
  | some g =>
    rw [e] at h5
    cases g with
    | val v =>
      cases v with
      | ref a => rw [of_decide_eq_true h5]
      | _ => cases h5
    | _ => cases h5
abbrev hdR : PySem.W.OpenRow := PySem.W.OpenLaw.row PySem.Challenge.rw_gleanyard_k59_whole_swept_at_once
/-- what the head reads: the objects that the module's names reach, and the statics -/
def asY (g : Addr → Option Obj) : List Addr := He.asD g 6 ++ [PySem.cStatics]
def obsY (g : Addr → Option Obj) : He.AlD × Bool := (He.obsD ddFa ddFn (He.frG g (asY g)), exY (He.frG g (asY g)))
def hdH : PySem.W.Hook where
  α := He.AlD × Bool
  obs := fun s => obsY s.heap.get?
  val := fun _ => (He.valD ddFn, true)
  says := fun _ h => ∃ K : PySem.W.Frag, K.In h ∧ He.SaysD ddFa ddFn K ∧ exY K = true
  of := fun _ _ e => ⟨_, He.frG_in, congrArg (fun z : He.AlD × Bool => z.1) e, congrArg (fun z : He.AlD × Bool => z.2) e⟩
  keeps := fun _ _ _ ⟨K, hK, c⟩ k => ⟨K, PySem.W.Frag.In.keeps hK k, c⟩
def hdO (s : PySem.W.SharedT) : He.AlD × Bool := obsY (HandSHeadRun.getT s)
theorem hdO_eq (s : PySem.W.SharedT) : hdO s = hdH.obs s.abs := by
  have e : HandSHeadRun.getT s = s.abs.heap.get? := funext (HandSHeadRun.getT_eq s)
  unfold hdO
  rw [e]; rfl
theorem hd_txt {K : PySem.W.Frag} {h : Heap} {mg : Str → Option Value} (X : K.In h) (G : h.Ns mainGlobals mg) (c : He.SaysD ddFa ddFn K) (y : exY K = true) : Txt K mg := by
  obtain ⟨y1, y2⟩ := exY_ok y
  exact ⟨He.cls_ok (c.fact 0 (f := .cls "Counts") rfl),
    He.mkr_ok (c.fact 1 (f := .mkr "Counts") rfl),
    He.noat_ok (c.fact 2 (f := .noat "Counts" "room") rfl),
    He.noat_ok (c.fact 3 (f := .noat "Counts" "words") rfl),
    He.noat_ok (c.fact 4 (f := .noat "Counts" "roots") rfl),
    He.noat_ok (c.fact 5 (f := .noat "Counts" "born") rfl),
    He.noat_ok (c.fact 6 (f := .noat "Counts" "gone") rfl),
    He.noat_ok (c.fact 7 (f := .noat "Counts" "last") rfl),
    He.noat_ok (c.fact 8 (f := .noat "Counts" "free") rfl),
    He.noat_ok (c.fact 9 (f := .noat "Counts" "led_in") rfl),
    He.free_ok X G (c.fact 10 (f := .free "all") rfl),
    He.free_ok X G (c.fact 11 (f := .free "bool") rfl),
    He.free_ok X G (c.fact 12 (f := .free "dict") rfl),
    He.free_ok X G (c.fact 13 (f := .free "int") rfl),
    He.free_ok X G (c.fact 14 (f := .free "isinstance") rfl),
    He.free_ok X G (c.fact 15 (f := .free "len") rfl),
    He.free_ok X G (c.fact 16 (f := .free "list") rfl),
    He.free_ok X G (c.fact 17 (f := .free "max") rfl),
    He.free_ok X G (c.fact 18 (f := .free "range") rfl),
    He.free_ok X G (c.fact 19 (f := .free "set") rfl),
    He.free_ok X G (c.fact 20 (f := .free "sorted") rfl),
    He.free_ok X G (c.fact 21 (f := .free "tuple") rfl),
    He.free_ok X G (c.fact 22 (f := .free "zip") rfl),
    (by obtain ⟨t, e⟩ := He.int_ok X G (c.fact 23 (f := .int "ROOTS" 8) rfl); exact ⟨_, e, t, rfl⟩),
    (by obtain ⟨t, e⟩ := He.int_ok X G (c.fact 24 (f := .int "MOST_SIZE" 4) rfl); exact ⟨_, e, t, rfl⟩),
    (by obtain ⟨t, e⟩ := He.int_ok X G (c.fact 25 (f := .int "GREATEST" 1000000) rfl); exact ⟨_, e, t, rfl⟩),
    (by obtain ⟨t, e⟩ := He.int_ok X G (c.fact 26 (f := .int "LEAST_ROOM" 8) rfl); exact ⟨_, e, t, rfl⟩),
    (by obtain ⟨t, e⟩ := He.int_ok X G (c.fact 27 (f := .int "MOST_ROOM" 120) rfl); exact ⟨_, e, t, rfl⟩),
    He.glo_ok X G (c.fact 28 (f := .glo "is_value") rfl),
    He.keep_ok (c.fact 29 (f := .keep "is_value") rfl),
    He.glo_ok X G (c.fact 30 (f := .glo "is_picture") rfl),
    He.keep_ok (c.fact 31 (f := .keep "is_picture") rfl),
    He.glo_ok X G (c.fact 32 (f := .glo "ask_picture") rfl),
    He.keep_ok (c.fact 33 (f := .keep "ask_picture") rfl),
    He.glo_ok X G (c.fact 34 (f := .glo "led_to") rfl),
    He.keep_ok (c.fact 35 (f := .keep "led_to") rfl),
    He.glo_ok X G (c.fact 36 (f := .glo "reasons") rfl),
    He.keep_ok (c.fact 37 (f := .keep "reasons") rfl),
    He.glo_ok X G (c.fact 38 (f := .glo "paper_of") rfl),
    He.keep_ok (c.fact 39 (f := .keep "paper_of") rfl),
    He.glo_ok X G (c.fact 40 (f := .glo "first_fit") rfl),
    He.keep_ok (c.fact 41 (f := .keep "first_fit") rfl),
    He.glo_ok X G (c.fact 42 (f := .glo "covering") rfl),
    He.keep_ok (c.fact 43 (f := .keep "covering") rfl),
    He.glo_ok X G (c.fact 44 (f := .glo "without") rfl),
    He.keep_ok (c.fact 45 (f := .keep "without") rfl),
    He.glo_ok X G (c.fact 46 (f := .glo "joined") rfl),
    He.keep_ok (c.fact 47 (f := .keep "joined") rfl),
    He.glo_ok X G (c.fact 48 (f := .glo "done") rfl),
    He.keep_ok (c.fact 49 (f := .keep "done") rfl),
    He.glo_ok X G (c.fact 50 (f := .glo "told_by") rfl),
    He.keep_ok (c.fact 51 (f := .keep "told_by") rfl),
    He.glo_ok X G (c.fact 52 (f := .glo "_law_cell_at") rfl),
    He.keep_ok (c.fact 53 (f := .keep "_law_cell_at") rfl),
    He.glo_ok X G (c.fact 54 (f := .glo "_law_deed") rfl),
    He.keep_ok (c.fact 55 (f := .keep "_law_deed") rfl),
    He.glo_ok X G (c.fact 56 (f := .glo "_law_do") rfl),
    He.keep_ok (c.fact 57 (f := .keep "_law_do") rfl),
    He.glo_ok X G (c.fact 58 (f := .glo "_law_told_like") rfl),
    He.keep_ok (c.fact 59 (f := .keep "_law_told_like") rfl),
    He.glo_ok X G (c.fact 60 (f := .glo "_law_done") rfl),
    He.keep_ok (c.fact 61 (f := .keep "_law_done") rfl),
    He.glo_ok X G (c.fact 62 (f := .glo "_law_count") rfl),
    He.keep_ok (c.fact 63 (f := .keep "_law_count") rfl),
    He.glo_ok X G (c.fact 64 (f := .glo "_law_name") rfl),
    He.keep_ok (c.fact 65 (f := .keep "_law_name") rfl),
    He.glo_ok X G (c.fact 66 (f := .glo "_law_going") rfl),
    He.keep_ok (c.fact 67 (f := .keep "_law_going") rfl),
    He.glo_ok X G (c.fact 68 (f := .glo "_law_former") rfl),
    He.keep_ok (c.fact 69 (f := .keep "_law_former") rfl),
    He.glo_ok X G (c.fact 70 (f := .glo "Counts") rfl),
    He.glo_ok X G (c.fact 71 (f := .glo "Yard") rfl),
    He.glo_ok X G (c.fact 72 (f := .glo "NoCell") rfl),
    He.glo_ok X G (c.fact 73 (f := .glo "NoSlot") rfl),
    He.glo_ok X G (c.fact 74 (f := .glo "Full") rfl),
    He.glo_ok X G (c.fact 75 (f := .glo "NoRoot") rfl),
    He.glo_ok X G (c.fact 76 (f := .glo "NoSize") rfl),
    He.glo_ok X G (c.fact 77 (f := .glo "NoNumber") rfl),
    He.meth_ok (c.fact 78 (f := .meth "Counts" "write_root") rfl),
    He.meth_ok (c.fact 79 (f := .meth "Counts" "write_slot") rfl),
    He.meth_ok (c.fact 80 (f := .meth "Counts" "release") rfl),
    He.meth_ok (c.fact 81 (f := .meth "Counts" "ask_root") rfl),
    He.meth_ok (c.fact 82 (f := .meth "Counts" "cell_at") rfl),
    He.meth_ok (c.fact 83 (f := .meth "Counts" "slot_at") rfl),
    He.meth_ok (c.fact 84 (f := .meth "Counts" "told") rfl),
    He.meth_ok (c.fact 85 (f := .meth "Counts" "room_for") rfl),
    He.meth_ok (c.fact 86 (f := .meth "Counts" "where") rfl),
    He.meth_ok (c.fact 87 (f := .meth "Counts" "slots_at") rfl),
    He.meth_ok (c.fact 88 (f := .meth "Counts" "picture") rfl),
    He.meth_ok (c.fact 89 (f := .meth "Counts" "inner") rfl),
    He.meth_ok (c.fact 90 (f := .meth "Counts" "outer") rfl),
    He.meth_ok (c.fact 91 (f := .meth "Counts" "saved") rfl),
    He.meth_ok (c.fact 92 (f := .meth "Counts" "free_up") rfl),
    He.meth_ok (c.fact 93 (f := .meth "Counts" "glean") rfl),
    He.meth_ok (c.fact 94 (f := .meth "Counts" "collect") rfl),
    He.meth_ok (c.fact 95 (f := .meth "Counts" "placed") rfl),
    He.meth_ok (c.fact 96 (f := .meth "Counts" "more") rfl),
    He.meth_ok (c.fact 97 (f := .meth "Counts" "less") rfl),
    He.meth_ok (c.fact 98 (f := .meth "Counts" "set_root") rfl),
    He.meth_ok (c.fact 99 (f := .meth "Counts" "make") rfl),
    He.meth_ok (c.fact 100 (f := .meth "Counts" "number") rfl),
    He.meth_ok (c.fact 101 (f := .meth "Counts" "clear") rfl),
    He.meth_ok (c.fact 102 (f := .meth "Counts" "pass_on") rfl),
    He.meth_ok (c.fact 103 (f := .meth "Counts" "set_slot") rfl),
    He.meth_ok (c.fact 104 (f := .meth "Counts" "put") rfl),
    He.meth_ok (c.fact 105 (f := .meth "Counts" "take") rfl),
    He.meth_ok (c.fact 106 (f := .meth "Counts" "value") rfl),
    He.meth_ok (c.fact 107 (f := .meth "Counts" "same") rfl),
    He.meth_ok (c.fact 108 (f := .meth "Counts" "names") rfl),
    He.meth_ok (c.fact 109 (f := .meth "Counts" "swept") rfl),
    He.meth_ok (c.fact 110 (f := .meth "Counts" "paper") rfl),
    He.meth_ok (c.fact 111 (f := .meth "Counts" "counts") rfl),
    He.exc_ok (c.fact 112 (f := .exc "NoCell") rfl),
    He.exc_ok (c.fact 113 (f := .exc "NoSlot") rfl),
    He.exc_ok (c.fact 114 (f := .exc "Full") rfl),
    He.exm_ok (c.fact 115 (f := .exm "NoCell" "NoRoot" false) rfl),
    He.exm_ok (c.fact 116 (f := .exm "NoCell" "NoSize" false) rfl),
    He.exm_ok (c.fact 117 (f := .exm "NoCell" "NoNumber" false) rfl),
    He.exm_ok (c.fact 118 (f := .exm "NoCell" "NoCell" true) rfl),
    He.exm_ok (c.fact 119 (f := .exm "NoSlot" "NoRoot" false) rfl),
    He.exm_ok (c.fact 120 (f := .exm "NoSlot" "NoSize" false) rfl),
    He.exm_ok (c.fact 121 (f := .exm "NoSlot" "NoNumber" false) rfl),
    He.exm_ok (c.fact 122 (f := .exm "NoSlot" "NoCell" false) rfl),
    He.exm_ok (c.fact 123 (f := .exm "NoSlot" "NoSlot" true) rfl),
    He.exm_ok (c.fact 124 (f := .exm "Full" "NoRoot" false) rfl),
    He.exm_ok (c.fact 125 (f := .exm "Full" "NoSize" false) rfl),
    He.exm_ok (c.fact 126 (f := .exm "Full" "NoNumber" false) rfl),
    He.exm_ok (c.fact 127 (f := .exm "Full" "NoCell" false) rfl),
    He.exm_ok (c.fact 128 (f := .exm "Full" "NoSlot" false) rfl),
    He.exm_ok (c.fact 129 (f := .exm "Full" "Full" true) rfl), y1, y2⟩
theorem hd_fds {K : PySem.W.Frag} (c : He.SaysD ddFa ddFn K) : Fds K := ⟨c.def_ 0 (d := _) rfl, c.def_ 1 (d := _) rfl, c.def_ 2 (d := _) rfl, c.def_ 3 (d := _) rfl, c.def_ 4 (d := _) rfl, c.def_ 5 (d := _) rfl, c.def_ 6 (d := _) rfl, c.def_ 7 (d := _) rfl, c.def_ 8 (d := _) rfl, c.def_ 9 (d := _) rfl, c.def_ 10 (d := _) rfl, c.def_ 11 (d := _) rfl, c.def_ 12 (d := _) rfl, c.def_ 13 (d := _) rfl, c.def_ 14 (d := _) rfl, c.def_ 15 (d := _) rfl, c.def_ 16 (d := _) rfl, c.def_ 17 (d := _) rfl, c.def_ 18 (d := _) rfl, c.def_ 19 (d := _) rfl, c.def_ 20 (d := _) rfl, c.def_ 21 (d := _) rfl, c.def_ 22 (d := _) rfl, c.def_ 23 (d := _) rfl, c.def_ 24 (d := _) rfl, c.def_ 25 (d := _) rfl, c.def_ 26 (d := _) rfl, c.def_ 27 (d := _) rfl, c.def_ 28 (d := _) rfl, c.def_ 29 (d := _) rfl, c.def_ 30 (d := _) rfl, c.def_ 31 (d := _) rfl, c.def_ 32 (d := _) rfl, c.def_ 33 (d := _) rfl, c.def_ 34 (d := _) rfl, c.def_ 35 (d := _) rfl, c.def_ 36 (d := _) rfl, c.def_ 37 (d := _) rfl, c.def_ 38 (d := _) rfl, c.def_ 39 (d := _) rfl, c.def_ 40 (d := _) rfl, c.def_ 41 (d := _) rfl, c.def_ 42 (d := _) rfl, c.def_ 43 (d := _) rfl, c.def_ 44 (d := _) rfl, c.def_ 45 (d := _) rfl, c.def_ 46 (d := _) rfl, c.def_ 47 (d := _) rfl, c.def_ 48 (d := _) rfl, c.def_ 49 (d := _) rfl, c.def_ 50 (d := _) rfl, c.def_ 51 (d := _) rfl, c.def_ 52 (d := _) rfl, c.def_ 53 (d := _) rfl, c.def_ 54 (d := _) rfl, c.def_ 55 (d := _) rfl, c.def_ 56 (d := _) rfl⟩
theorem hd_facts {P : Program} {w : World} {K : PySem.W.Frag} {h : Heap} {mg : Str → Option Value} {f : Addr} (X : K.In h) (G : h.Ns mainGlobals mg) (hfa : mg ("law" : Str) = some (.ref f)) (c : He.SaysD ddFa ddFn K) (y : exY K = true) :
    ∃ fd : FuncData, (∀ (s : Shared) (v : Value), BindsTo s fd ⟨[v], []⟩ [("script", v)]) ∧ ∀ base : Heap, K.In base → base.Ns mainGlobals mg → FnOk P w K mg base CX0 12 f fd ["script"] (sp_law K) := by
  obtain ⟨fd, F⟩ := c.def_ 57 (d := _) rfl
  have e := hfa.symm.trans (He.glo_ok X G (c.fact 130 (f := .glo "law") rfl))
  cases e
  have b := FunD.bindsA (ps := ["script"]) F fun _ _ _ _ _ _ us hl => match us, hl with | [_], _ => rfl
  exact ⟨fd, fun s v => b s [v] rfl, fun base _ _ => law_fn (hd_txt X G c y) (hd_fds c) F⟩
end Gy

set_option Elab.async false
set_option linter.all false
set_option maxRecDepth 100000
set_option maxHeartbeats 0
/-! The top's run, the end. -/
namespace Gy
open PySem PySem.Spec PyProof.Rows L2
def hdNames1 : List Str := ["_wall", "YardError", "NoRoom", "NoPicture", "NoRoot", "NoSize", "NoNumber", "NoCell", "NoSlot", "Full", "ROOTS", "MOST_SIZE", "GREATEST", "is_value", "is_picture", "ask_picture", "led_to", "reasons", "paper_of", "first_fit", "covering", "without", "joined", "LEAST_ROOM", "MOST_ROOM", "Yard", "Counts"]
def hdNames2 : List Str := ["done", "told_by", "_law_cell_at", "_law_whole", "_law_deed", "_law_do", "_law_told_like", "_law_done", "_law_count", "_law_going", "_law_name", "_law_former"]
def hdNames : List Str := hdNames1 ++ hdNames2
theorem hd_run (w : World) : HandSHeadRun.RunEq hdR (PySem.W.view hdR.prog [47]) hdH hdO 6000 hdNames w := by
  intro os
  kernel_rfl
end Gy

set_option Elab.async false
set_option linter.all false
set_option maxRecDepth 100000
set_option maxHeartbeats 0
open PySem PySem.W PySem.Calls PyProof.Rows
theorem PySem.Challenge.cw_gleanyard_k59_whole_swept_at_once_holds : PySem.Challenge.rw_gleanyard_k59_whole_swept_at_once.Holds := by
  w_on; o_law
  refine HandSHeadRun.head_any (r := OpenLaw.row PySem.Challenge.rw_gleanyard_k59_whole_swept_at_once) (q := view (OpenLaw.row PySem.Challenge.rw_gleanyard_k59_whole_swept_at_once).prog [47]) (H := Gy.hdH) (ob := Gy.hdO) (M := 6000) (loose := Gy.hdNames) (d := HandSHeadRun.topDef (OpenLaw.row PySem.Challenge.rw_gleanyard_k59_whole_swept_at_once).prog 47) (kwd := []) Gy.hdO_eq
    (by kernel_rfl) (fun s => by kernel_rfl) Gy.hd_run (by kernel_rfl) (by kernel_rfl) (by kernel_rfl) (by rfl) (by first | assumption | decide +kernel) (by decide +kernel) ⟨rfl, rfl, rfl, rfl, rfl, by decide +kernel⟩ ?hw ?hc
  case hw => w_witness2
  case hc =>
    refine L2.walk_ofE (l := PySem.Challenge.rw_gleanyard_k59_whole_swept_at_once) (n := 63) (k := 12) (x := "script") (CX := L2.CX0) rfl (by decide) (by kernel_rfl) ⟨rfl, by decide, by decide⟩ ?F (fun _ _ _ _ z => z)
    intro w mg fa h Y G hmg0
    obtain ⟨K, KX, c⟩ := Y
    have hmg : mg ("law" : PySem.Str) = some (.ref fa) := by
      have e : (HandSHeadRun.topDef (OpenLaw.row PySem.Challenge.rw_gleanyard_k59_whole_swept_at_once).prog 47).name = ("law" : PySem.Str) := by kernel_rfl
      rw [← e]
      exact hmg0
    obtain ⟨fd, hb, hF⟩ := Gy.hd_facts (P := (PySem.Challenge.rw_gleanyard_k59_whole_swept_at_once).prog) (w := w) KX G hmg c.1 c.2
    exact ⟨K, fd, Gy.sp_law K, KX, hb, fun H a ns hl _ hS => ⟨a, ns, rfl, hS, hl, fun _ => rfl⟩, hF⟩
