import PyProof.Rows.All
import Wide.All
import OpenK.AllK
import Wide.FinOn
import PyProof.EqAt
import PyProof.EqKinds
import PyProof.TupleCall
import PyProof.NeKinds
import Open.SpecLaws
import KE.OsGo
import HandS.ForSpec
import HandS.Comp
import HandS.Iter
import HandS.Zip
import HandS.Walk
import HandS.SetFor
import HandS.ExcSuper
import HandS.Flow
import PyKg84
import PyFlatLaws
import PySem.Challenge.RW_cardtable_s01_answers
set_option Elab.async false
set_option linter.all false
set_option maxRecDepth 100000
set_option maxHeartbeats 4000000
namespace Bj
open PySem PySem.Spec PyProof.Rows L2
theorem same_new {H : Hp} {a : Addr} {o : HO} (n : H a = none) : Same H (upd H a o) := fun b u e => by
  rw [upd_ne (ne_of_none e n)]
  exact e
theorem same_upd {H H' : Hp} {a : Addr} {o : HO} (s : Same H H') : Same (upd H a o) (upd H' a o) := fun b u e => by
  by_cases h : b = a
  · subst h
    rw [upd_same] at e ⊢
    exact e
  · rw [upd_ne h] at e ⊢
    exact s b u e
theorem upd_id {H : Hp} {a : Addr} {o : HO} (h : H a = some o) : upd H a o = H := by
  funext b
  by_cases e : b = a
  · rw [e, upd_same, h]
  · rw [upd_ne e]
abbrev Cell := Addr × HO
structure Own (H0 H : Hp) (cs : List Cell) : Prop where
  same : Same H0 H
  holds : ∀ p ∈ cs, H p.1 = some p.2
  nodup : (cs.map Prod.fst).Nodup
  fresh : ∀ p ∈ cs, H0 p.1 = none
section
variable {H0 H H' : Hp} {cs cs' A B : List Cell} {a : Addr} {o o' : HO}
theorem Own.get (O : Own H0 H (A ++ (a, o) :: B)) : H a = some o := O.holds (a, o) (by simp)
theorem Own.get0 (O : Own H0 H ((a, o) :: B)) : H a = some o := O.holds (a, o) (by simp)
theorem Own.put (O : Own H0 H (A ++ (a, o) :: B)) (o' : HO) : Own H0 (upd H a o') (A ++ (a, o') :: B) := by
  have nd := O.nodup
  rw [List.map_append, List.map_cons, List.nodup_append] at nd
  obtain ⟨_, n2, n3⟩ := nd
  rw [List.nodup_cons] at n2
  have fa : H0 a = none := O.fresh (a, o) (by simp)
  have ne : ∀ p, p ∈ A ∨ p ∈ B → p.1 ≠ a := by
    rintro p (h | h) e
    · exact n3 p.1 (List.mem_map_of_mem h) a (by simp) e
    · exact n2.1 (List.mem_map.mpr ⟨p, h, e⟩)
  refine ⟨fun b u e => ?_, fun p hp => ?_, ?_, fun p hp => ?_⟩
  · rw [upd_ne (ne_of_none e fa)]
    exact O.same b u e
  · rcases List.mem_append.mp hp with h | h
    · rw [upd_ne (ne p (.inl h))]
      exact O.holds p (by simp [h])
    · rcases List.mem_cons.mp h with h | h
      · subst h
        exact upd_same
      · rw [upd_ne (ne p (.inr h))]
        exact O.holds p (by simp [h])
  · have nd := O.nodup
    rw [List.map_append, List.map_cons] at nd ⊢
    exact nd
  · rcases List.mem_append.mp hp with h | h
    · exact O.fresh p (by simp [h])
    · rcases List.mem_cons.mp h with h | h
      · subst h
        exact fa
      · exact O.fresh p (by simp [h])
theorem Own.put0 (O : Own H0 H ((a, o) :: B)) (o' : HO) : Own H0 (upd H a o') ((a, o') :: B) := Own.put (A := []) O o'
theorem Own.sameR (O : Own H0 H cs) (s : Same H H') : Own H0 H' cs :=
  ⟨O.same.trans s, fun p hp => s _ _ (O.holds p hp), O.nodup, O.fresh⟩
theorem Own.perm (O : Own H0 H cs) (p : cs.Perm cs') : Own H0 H cs' :=
  ⟨O.same, fun x hx => O.holds x (p.mem_iff.mpr hx), (p.map Prod.fst).nodup_iff.mp O.nodup, fun x hx => O.fresh x (p.mem_iff.mpr hx)⟩
theorem Own.sub (O : Own H0 H cs) (p : List.Sublist cs' cs) : Own H0 H cs' :=
  ⟨O.same, fun x hx => O.holds x (p.subset hx), O.nodup.sublist (p.map Prod.fst), fun x hx => O.fresh x (p.subset hx)⟩
theorem Own.free (O : Own H0 H cs) (n : H a = none) : H0 a = none := O.same.free n
theorem Own.notin (O : Own H0 H cs) (n : H a = none) : a ∉ cs.map Prod.fst := fun h => by
  obtain ⟨p, hp, e⟩ := List.mem_map.mp h
  have := O.holds p hp
  rw [e, n] at this
  cases this
theorem Own.new (O : Own H0 H cs) (n : H a = none) : Own H0 (upd H a o) ((a, o) :: cs) := by
  have O' := O.sameR (same_new (o := o) n)
  refine ⟨O'.same, fun p hp => ?_, ?_, fun p hp => ?_⟩
  · rcases List.mem_cons.mp hp with h | h
    · subst h
      exact upd_same
    · exact O'.holds p h
  · rw [List.map_cons, List.nodup_cons]
    exact ⟨O.notin n, O.nodup⟩
  · rcases List.mem_cons.mp hp with h | h
    · subst h
      exact O.free n
    · exact O.fresh p h
theorem Own.have (O : Own H0 H cs) (e : H a = some o) (n : H0 a = none) (ni : a ∉ cs.map Prod.fst) : Own H0 H ((a, o) :: cs) := by
  refine ⟨O.same, fun p hp => ?_, ?_, fun p hp => ?_⟩
  · rcases List.mem_cons.mp hp with h | h
    · subst h
      exact e
    · exact O.holds p h
  · rw [List.map_cons, List.nodup_cons]
    exact ⟨ni, O.nodup⟩
  · rcases List.mem_cons.mp hp with h | h
    · subst h
      exact n
    · exact O.fresh p h
theorem Own.frame (O : Own H0 H ((a, o) :: cs)) : Own (upd H0 a o) H cs := by
  have nd := O.nodup
  rw [List.map_cons, List.nodup_cons] at nd
  refine ⟨fun b u e => ?_, fun p hp => O.holds p (by simp [hp]), nd.2, fun p hp => ?_⟩
  · by_cases h : b = a
    · subst h
      rw [upd_same] at e
      cases e
      exact O.get0
    · rw [upd_ne h] at e
      exact O.same b u e
  · have ne : p.1 ≠ a := fun e => nd.1 (List.mem_map.mpr ⟨p, hp, e⟩)
    rw [upd_ne ne]
    exact O.fresh p (by simp [hp])
theorem Own.frameNew (O : Own H0 H cs) (n : H a = none) : Own (upd H0 a o) (upd H a o) cs := (O.new n).frame
theorem Own.frameHas (O : Own H0 H cs) (n : H0 a = none) (e : H a = some o) (ni : a ∉ cs.map Prod.fst) : Own (upd H0 a o) H cs := (O.have e n ni).frame
theorem Own.unframe (O : Own (upd H0 a o) H cs) (n : H0 a = none) : Own H0 H ((a, o) :: cs) := by
  have ha : H a = some o := O.same a o upd_same
  have ne : ∀ p ∈ cs, p.1 ≠ a := fun p hp e => by
    have := O.fresh p hp
    rw [e, upd_same] at this
    cases this
  refine ⟨fun b u e => O.same b u (by rw [upd_ne (ne_of_none e n)]; exact e), fun p hp => ?_, ?_, fun p hp => ?_⟩
  · rcases List.mem_cons.mp hp with h | h
    · subst h
      exact ha
    · exact O.holds p h
  · rw [List.map_cons, List.nodup_cons]
    refine ⟨fun h => ?_, O.nodup⟩
    obtain ⟨p, hp, e⟩ := List.mem_map.mp h
    exact ne p hp e
  · rcases List.mem_cons.mp hp with h | h
    · subst h
      exact n
    · have := O.fresh p h
      rw [upd_ne (ne p h)] at this
      exact this
theorem Own.drop (O : Own H0 H ((a, o) :: cs)) : Own H0 H cs := O.sub (List.sublist_cons_self _ _)
theorem Own.frame_put (O : Own H0 H cs) (e : H0 a = some o) (o' : HO) : Own (upd H0 a o') (upd H a o') cs := by
  have ne : ∀ p ∈ cs, p.1 ≠ a := fun p hp z => by
    have := O.fresh p hp
    rw [z, e] at this
    cases this
  refine ⟨same_upd O.same, fun p hp => ?_, O.nodup, fun p hp => ?_⟩
  · rw [upd_ne (ne p hp)]
    exact O.holds p hp
  · rw [upd_ne (ne p hp)]
    exact O.fresh p hp
theorem Own.weak {H1 : Hp} (O : Own H0 H cs) (s : Same H1 H0) : Own H1 H cs :=
  ⟨s.trans O.same, O.holds, O.nodup, fun p hp => s.free (O.fresh p hp)⟩
theorem Own.ne (O : Own H0 H cs) {p : Cell} (hp : p ∈ cs) {b : Addr} {u : HO} (e : H0 b = some u) : b ≠ p.1 := ne_of_none e (O.fresh p hp)
end
end Bj
namespace Bj
open PySem PySem.Spec PyProof.Rows L2
def top (i : Nat) : Stmt := PySem.Challenge.pw_cardtable_s01_answers.main.body.getD i (.Pass ⟨0, 0, 0, 0⟩)
abbrev sRefInit : Stmt := inClass (top 14) 0
end Bj
namespace PySem
namespace RefX
open PySem.W PySem.Calls PyProof.Rows PySem.HandSPX Bj
structure RefTxt (K : Frag) (mg : Str → Option Value) (C fI : Addr) : Prop where
  gC : mg "Refused" = some (.ref C)
  gE : mg "Exception" = none
  cls : ∃ nm q N bs sn sub ab col dd k0 k1 k2 k3 k5, K.lookup C = some (excClassObj nm q C N bs ESX.exTail true sn sub ab col dd k0 k1 k2 k3 k5 "Exception.__new__")
  sa : findIn K (.ref C) "__setattr__" = some (some (.builtin "object.__setattr__"))
  ga : findIn K (.ref C) "__getattribute__" = some (some (.builtin "BaseException.__getattribute__"))
  gg : findIn K (.ref C) "__getattr__" = some none
  noN : findIn K (.ref C) "number" = some none
  iC : findIn K (.ref C) "__init__" = some (some (.ref fI))
  tC : typeIn K (.ref fI) = some (.type "function")
  vE : findCls K (.type "Exception") (.type "type") "__init__" = some (.val (.builtin "Exception.__init__"))
  kC : keepIn K (.ref C) = true
  exC : subIn K (.ref C) (.type "BaseException") = some true
  tyC : typeIn K (.ref C) = some (.type "type")
  hdC : hasDictIn K C = true
  te : exmOne K (.ref C) (.ref C) = some true
  fn : ∃ (oc : Value) (od : Option Addr) (doc pm : Value) (an : Option Addr) (kV cdv ct : Value) (osl : Array (Option Value)),
    K.lookup fI = some ⟨oc, od, .func (fnOf "__init__" "Refused.__init__" (L2.defArgs sRefInit) (L2.defBody sRefInit) (L2.defScope sRefInit) .none kV doc pm an cdv ct), osl⟩ ∧ codeIn K cdv "Refused.__init__" = true
theorem short2 (a b : Value) : [a, b].length ≤ sizeLine := by
  rw [sizeLine_eq]
  exact (by decide : 2 ≤ 16777216)
theorem in_but {K : Frag} {h h' : Heap} {x : Addr} (X : K.In h) (hx : K.lookup x = none) (k : ∀ b o, b ≠ x → h.get? b = some o → h'.get? b = some o) : K.In h' := fun a o e =>
  k a o (fun z => by rw [z, hx] at e; cases e) (X a o e)
theorem ns_but {h h' : Heap} {L x : Addr} {m : Str → Option Value} (hn : h.Ns L m) (ne : L ≠ x) (k : ∀ b o, b ≠ x → h.get? b = some o → h'.get? b = some o) : h'.Ns L m := by
  obtain ⟨o, es, ep, ho, r⟩ := hn
  exact ⟨o, es, ep, k _ o ne ho, r⟩
theorem loadL {M : Model} {s : Shared} {name : Str} {scope : Scope} {L a : Addr} {cd : Value} {m : Str → Option Value} {x : Str} {pos : Pos} {v : Value} {Q : Value → Shared → Prop} {A : Around} {E : Value → Shared → Prop} (hn : s.heap.Ns L m) (hv : m x = some v) (h : Q v s)
    (hk : scope.kind = .function := by rfl) (hl : (envOfC name scope L a cd).kindOf x = some .local := by rfl) (hd : (x == ("__debug__" : Str)) = false := by decide) :
    wpAny M A (eval (.Name x pos) (envOfC name scope L a cd)) Q E s := wpAny_Name (wpAny_loadName_local hk hl hn hv h) hd
structure InitEnd (h h' : Heap) (x C dx : Addr) (v : Value) : Prop where
  keep : ∀ b o, b ≠ x → h.get? b = some o → h'.get? b = some o
  obj : ∃ t1, h'.get? x = some { cls := .ref C, dict := some dx, data := .fields #[.ref t1, .none, .none, .none, .bool false, .none] }
  dbig : h.objs.size ≤ dx
  dne : dx ≠ x
  ns : h'.Ns1 dx (fun y => if y = "number" then some v else none)
structure RefMade (h h' : Heap) (e C d : Addr) (v : Value) : Prop where
  keep : ∀ b o, h.get? b = some o → h'.get? b = some o
  new : h.objs.size ≤ e
  obj : ∃ oe vs, h'.get? e = some oe ∧ oe.cls = .ref C ∧ oe.dict = some d ∧ oe.data = .fields vs ∧ vs[1]? = some .none
  dbig : h.objs.size ≤ d
  dne : d ≠ e
  ns : h'.Ns1 d (fun y => if y = "number" then some v else none)
section
variable {prog : Program} {w : World} {A : Around} {E : Value → Shared → Prop} {R : Result → Shared → Prop} {s : Shared} {K : Frag} {mg mb : Str → Option Value} {C fI : Addr}
theorem ref_init (T : RefTxt K mg C fI) {x t0 : Addr} {v : Value} (X : K.In s.heap) (hG : s.heap.Ns mainGlobals mg) (hB : s.heap.Ns builtinsNs mb) (hb : ∀ x : Str, x ≠ "__name__" → mb x = bootBuiltins x) (hlim : s.heap.NoLimit) (hx : s.heap.get? x = some (excO C t0)) (hnx : K.lookup x = none) (hroom : A.depth < recursionLimit)
    (hq : ∀ h' tk dx, InitEnd s.heap h' x C dx v → R (.ok (.ret .none)) { s with heap := h', toks := tk }) :
    codeAny (model prog w) A (.call (.ref fI) ⟨[.ref x, v], []⟩) R s := by
  obtain ⟨oc, od, doc, pm, an, kV, cdv, ct, osl, ho, hcd⟩ := T.fn
  obtain ⟨nm, q, N, bs, sn, sub, ab, col, dd, k0, k1, k2, k3, k5, hC⟩ := T.cls
  have hcl : clsIn K C = some { name := nm, bases := bs, mro := .ref C :: ESX.exTail, ns := N, qualname := q, hasDict := true, slotNames := sn, subclasses := sub, abstract := ab, collection := col, hasDel := false } := by unfold clsIn; rw [hC] <;> rfl
  refine Att.call_fn (binds := [("self", .ref x), ("number", v)]) X hlim ho hcd hroom (BindsTo.of_eq (by first | rfl | with_unfolding_all rfl)) (by first | rfl | decide | with_unfolding_all rfl) (fun s₁ IC => ?_) rfl rfl rfl
  obtain ⟨h₁, tk₁, rfl⟩ := IC.toInCall.same
  have k : ∀ b o, s.heap.get? b = some o → h₁.get? b = some o := IC.toInCall.keep
  have hn := IC.toInCall.ns
  have hxL : s.heap.objs.size ≠ x := Nat.ne_of_gt (Heap.lt_size hx)
  have X₁ : K.In h₁ := X.keeps k
  have hx₁ := k _ _ hx
  have z1 : s.heap.objs.size < h₁.objs.size := hn.lt
  show wpAny _ _ (execs _ _) _ _ _
  refine wpAny_execs_cons (wpAny_Expr (PySem.W.methodCall_KW (Calls.Name_function_global (by first | rfl | with_unfolding_all rfl) (by first | rfl | with_unfolding_all rfl | kernel_rfl)
    (Calls.loadGlobal_builtin (hG.keeps k) T.gE (hB.keeps k) ((hb "Exception" (by decide)).trans PyProof.Rows.Boot.«Exception») ?_) (by decide)) (by rfl)) (by rfl) (by rfl))
  refine PySem.W.method_type (h₀ := s.heap) ⟨hn, k, Nat.le_refl _⟩ X (by kernel_rfl) (by decide +kernel) T.vE (by decide +kernel) ?_
  show wpAny _ _ (callWith _ (Value.builtin "Exception.__init__") [] (backTo _ (starEach (_ :: _) _)) []) _ _ _
  refine PyProof.Rows.callWith_method1 (first := []) ?_ (by rfl) (by rfl)
  show wpAny _ _ (spliced [(false, eval (.Name "self" ⟨27, 27, 27, 31⟩) (envOfC _ _ _ _ _)), (false, eval (.Constant (.str "refused") 0 ⟨27, 33, 27, 42⟩) (envOfC _ _ _ _ _))]) _ _ _
  refine Calls.spliced_cons (loadL (v := .ref x) hn (by first | rfl | with_unfolding_all rfl | kernel_rfl) ?_)
  refine Calls.spliced_cons (Calls.Constant_str ?_)
  refine Calls.spliced_nil ?_
  refine wpAny_call (PySem.HandSPX.init_base F.excBase_Exception (fun _ => rfl) (X₁ _ _ hC) hx₁ (rest := [_]) (by rw [sizeLine_eq]; exact (by decide : 1 ≤ 16777216)) fun h₂ t1 k2 hx2 => ?_)
  have hn2 : h₂.Ns s.heap.objs.size _ := ns_but hn hxL k2
  have X2 : K.In h₂ := in_but X₁ hnx k2
  show wpAny _ _ (execs _ _) _ _ _
  refine wpAny_execs_cons (plainObj_wpAny_Assign_Attribute ?_)
  refine loadL (v := v) hn2 (by first | rfl | with_unfolding_all rfl | kernel_rfl) (loadL (v := .ref x) hn2 (by first | rfl | with_unfolding_all rfl | kernel_rfl) ?_)
  refine set_plain X2 (ox := excO C t1) (od := none) ⟨hx2, rfl, rfl, trivial⟩ T.sa ?_
  refine ESX.osa_new X2 hx2 hcl rfl rfl T.noN (fun h₃ tk₃ dx k₃ dn dne hx₃ hn₃ => ?_)
  show wpAny _ _ (execs _ _) _ _ _
  refine wpAny_execs_nil (hq h₃ tk₃ dx ⟨fun b o hb e => k₃ b o hb (k2 b o hb (k b o e)), ⟨t1, hx₃⟩, ?_, dne, hn₃⟩)
  have lt2 : s.heap.objs.size < h₂.objs.size := hn2.lt
  exact Nat.le_of_lt (Nat.lt_of_lt_of_le lt2 dn)
theorem ref_made (T : RefTxt K mg C fI) {v : Value} (X : K.In s.heap) (hG : s.heap.Ns mainGlobals mg) (hB : s.heap.Ns builtinsNs mb) (hb : ∀ x : Str, x ≠ "__name__" → mb x = bootBuiltins x) (hlim : s.heap.NoLimit) (hroom : A.depth + 1 < recursionLimit)
    (hq : ∀ h' tk e d, RefMade s.heap h' e C d v → R (.ok (.ret (.ref e))) { s with heap := h', toks := tk }) :
    codeAny (model prog w) A (.call (.ref C) ⟨[v], []⟩) R s := by
  obtain ⟨nm, q, N, bs, sn, sub, ab, col, dd, k0, k1, k2, k3, k5, hC⟩ := T.cls
  obtain ⟨hp, g, d, tk, os⟩ := s
  have k : ∀ b o, hp.get? b = some o → ((hp.push (kdv_tup [v])).push (excO C hp.objs.size)).get? b = some o := fun b o e => Heap.get?_push_of_some _ (Heap.get?_push_of_some _ e)
  have hget : ((hp.push (kdv_tup [v])).push (excO C hp.objs.size)).get? (hp.objs.size + 1) = some (excO C hp.objs.size) := by heap_get
  have hnx : K.lookup (hp.objs.size + 1) = none := by
    cases e : K.lookup (hp.objs.size + 1) with
    | none => rfl
    | some o =>
      have z : hp.get? (hp.objs.size + 1) = some o := X _ _ e
      exact absurd (Nat.lt_of_succ_lt (Heap.lt_size z)) (Nat.lt_irrefl _)
  refine call_own F.excBase_Exception (fun _ => rfl) (X _ _ hC) (looks_findIn X T.iC) (fun self => bind_fn X self T.tC) (by rw [sizeLine_eq]; exact (by decide : 1 ≤ 16777216)) ?_
  refine ref_init (s := ⟨(hp.push (kdv_tup [v])).push (excO C hp.objs.size), g, d, tk, os⟩) T (X.keeps k) (hG.keeps k) (hB.keeps k) hb (hlim.keeps k) hget hnx ?_ fun h' tk' dx IE => ?_
  · show A.depth + 1 < recursionLimit
    exact hroom
  · obtain ⟨k', ⟨t1, hx⟩, dn, dne, hns⟩ := IE
    have old : ∀ b o, hp.get? b = some o → h'.get? b = some o := fun b o e => k' b o (Nat.ne_of_lt (Nat.lt_succ_of_lt (Heap.lt_size e))) (k b o e)
    have z : hp.objs.size + 1 + 1 ≤ dx := by
      first
        | (simpa only [Heap.size_push] using dn)
        | exact dn
    exact ⟨rfl, hq h' tk' (hp.objs.size + 1) dx ⟨old, Nat.le_succ _, ⟨_, _, hx, rfl, rfl, rfl, rfl⟩, Nat.le_trans (Nat.le_trans (Nat.le_succ _) (Nat.le_succ _)) z, dne, hns⟩⟩
end
end RefX
end PySem
namespace Bj
open PySem PySem.Spec PyProof.Rows L2
theorem relO_num {v : V} {v' : Value} (r : RelV v v') (f : Str) : RelO (List.lookup f [(("number" : Str), v)]) (if f = "number" then some v' else none) := by
  by_cases hw : f = "number"
  · subst hw
    rw [if_pos rfl]
    have q : List.lookup ("number" : Str) [(("number" : Str), v)] = some v := by simp [List.lookup]
    rw [q]
    exact r
  · rw [if_neg hw]
    have qw : (f == ("number" : Str)) = false := by simpa using hw
    have q2 : List.lookup f [(("number" : Str), v)] = none := by simp [List.lookup, qw]
    rw [q2]
    trivial
def numX (n : Int) : HO := .xd [(("number" : Str), .int n)]
section
variable {X : Cx} {C fI : Addr}
def tMkRef (C : Addr) (ta : TA) : L2.St → Hp → XK → Prop := fun σ H Q => ta σ H fun vs H1 => ∃ v, vs = [v] ∧ ∀ d, H1 d = none → Q (.ref C) (some d) (upd H1 d (.xd [(("number" : Str), v)]))
theorem pmk_ref {a : Expr} {ta : TA} {p pos : Pos} {k : Nat} (T : PySem.RefX.RefTxt X.K X.mg C fI) (hr : Room k X.A) (ha : PA X [a] ta) (hg : Gl X "Refused" := by rfl)
    (he : starEach (a :: []) X.env = (false, eval a X.env) :: starEach [] X.env := by rfl) (hpl : (backTo pos (starEach [] X.env)).any (·.1) = false := by rfl) :
    PMk X (.Call (.Name "Refused" p) [a] [] pos) (tMkRef C ta) := by
  intro pins s σ H Q I h
  refine wpAny_Call_Name_kw (ld_glob I hg T.gC ?_)
  refine PySem.W.callWith_K (h₀ := X.base) I.ok.mod.kin T.kC (thn (ha.run pos pins s σ H _ I h) fun us s1 hh => ?_) he hpl
  obtain ⟨vs, H1, I1, r1, v, ev, q1⟩ := hh
  subst ev
  refine ⟨I1.kIn, ?_⟩
  cases r1 with
  | cons rv rn =>
    rename_i v' us'
    cases rn
    show wpAny _ _ (call (.ref C) [v']) _ _ _
    have hlim := I1.nolimit
    have hG := I1.mod.glob.keeps I1.bk
    obtain ⟨mb, hb1, hb2⟩ := I1.mod.blt
    have hB := hb1.keeps I1.bk
    obtain ⟨hp, g, dr, tk, os⟩ := s1
    refine wpAny_call (PySem.RefX.ref_made T I1.kIn hG hB hb2 hlim (by have := hr.dp; omega) fun h' tk' e d M => ?_)
    show MkP X pins σ Q (.ref e) ⟨h', g, dr, tk', os⟩
    obtain ⟨oe, fv, hoe, hc, hd, hdat, h1⟩ := M.obj
    have hns := M.ns
    obtain ⟨G', g1, g2⟩ := restrict h' fun b => decide (b ≠ e)
    have gk : ∀ b, b ≠ e → G'.get? b = h'.get? b := fun b hb => g1 b (decide_eq_true hb)
    have ge : G'.get? e = none := g2 e (by simp)
    have old : ∀ b o, hp.get? b = some o → G'.get? b = some o := fun b o q => (gk b (Nat.ne_of_lt (Nat.lt_of_lt_of_le (Heap.lt_size q) M.new))).trans (M.keep b o q)
    have ob : ObjOk X.prog X.w (upd H1 d (.xd [(("number" : Str), v)])) G' d (.xd [(("number" : Str), v)]) :=
      ⟨_, hns.at (fun o q => (gk d M.dne).trans q), fun f => relO_num rv f⟩
    have J : Inv X pins σ (upd H1 d (.xd [(("number" : Str), v)])) ⟨G', g, dr, tk', os⟩ := I1.laid (t' := tk') old M.dbig ob
    refine ⟨e, oe, fv, ⟨G', g, dr, tk', os⟩, _, .ref C, some d, rfl, J, fun b o q => ?_, ge, hoe, ⟨hc, hd⟩, hdat, h1, ?_, rfl, I1.bare, raises_own T.exC T.tyC, q1 d (I1.hok.fresh M.dbig)⟩
    · by_cases hb : b = e
      · have q' : G'.get? b = some o := q
        rw [hb, ge] at q'; cases q'
      · exact (gk b hb).symm.trans q
    · rw [upd_ne (Ne.symm M.dne)]
      exact I1.hok.fresh M.new
def tRaiseRef (C : Addr) (W : WX) (ta : TA) : TS := fun _ σ H => tMkRef C ta σ H fun cls d H' => W cls d σ H'
theorem ps_raiseRef {a : Expr} {ta : TA} {W : WX} {p pos pos2 : Pos} {k : Nat} (hc : X.calm = true) (T : PySem.RefX.RefTxt X.K X.mg C fI) (hr : Room k X.A) (tk : Takes X W) (ha : PA X [a] ta) (hg : Gl X "Refused" := by rfl)
    (he : starEach (a :: []) X.env = (false, eval a X.env) :: starEach [] X.env := by rfl) (hpl : (backTo pos (starEach [] X.env)).any (·.1) = false := by rfl) :
    PS X (.Raise (some (.Call (.Name "Refused" p) [a] [] pos)) none pos2) (tRaiseRef C W ta) := ps_raise hc tk (pmk_ref T hr ha hg he hpl)
def tByNum (C : Addr) (a : Addr) (cls : Value) (d : Option Addr) (te : TE) : TE := fun σ H Q => te σ H fun x H1 => x = .ref a ∧ cls = .ref C ∧ ∃ (dd : Addr) (v : V), d = some dd ∧ H1 dd = some (.xd [(("number" : Str), v)]) ∧ Q v H1
theorem pe_byNum {a : Addr} {oe : Obj} {cls : Value} {d : Option Addr} {pn : List (Addr × Obj)} {e : Expr} {te : TE} {pos : Pos} (T : PySem.RefX.RefTxt X.K X.mg C fI) (hz : Zc cls d oe) (hf : ∃ vs, oe.data = .fields vs) (he : PE (X.suite a ((a, oe) :: pn)) e te)
    (hb : attributeBase e "number" X.env (eval e X.env) = eval e X.env := by rfl) :
    PE (X.suite a ((a, oe) :: pn)) (.Attribute e "number" pos) (tByNum C a cls d te) := by
  refine ⟨fun pins s σ H Q I h => ?_⟩
  refine attr_of hb (thn (he.run pins s σ H _ I h) fun u s1 hh => ?_)
  obtain ⟨x, H1, I1, rx, ex, ec, dd, v, ed, ea, q⟩ := hh
  subst ex
  obtain rfl : u = Value.ref a := rx
  subst ec
  subst ed
  obtain ⟨ha, _⟩ := I1.pin (a, oe) (List.mem_append_left _ List.mem_cons_self)
  obtain ⟨vs, hd⟩ := hf
  have hx : ObjOk X.prog X.w H1 s1.heap dd (.xd [(("number" : Str), v)]) := I1.hok dd _ ea
  obtain ⟨mA, hns, hr⟩ := hx
  obtain ⟨od, ho, hl⟩ := lookIn_ns hns
  have l : List.lookup ("number" : Str) [(("number" : Str), v)] = some v := by simp [List.lookup]
  obtain ⟨u, hu, ru⟩ := RelO.some_of (v := v) (o := mA "number") (by rw [← l]; exact hr "number")
  have J : PySem.W.InstAt s1.heap a oe C (some od) := ⟨ha, hz.1, by unfold PySem.W.notCls; rw [hd] <;> rfl, by rw [hz.2]; exact ho⟩
  exact HandSPX.exc_get I1.kIn J T.ga T.gg T.exC (PySem.W.findObj_own T.hdC T.noN rfl (by rw [hl, hu])) (handed_of ru) ⟨v, H1, I1.tok _, ru, q⟩
end
def rNeNil (K : PySem.W.Frag) : R2 := fun x y H Q => ∃ a b xs, x = .ref a ∧ y = .ref b ∧ SqL K H a xs ∧ SqL K H b [] ∧ Q (.bl (!xs.isEmpty)) H
section
variable {X : Cx}
theorem op_neNil (hu : X.A.units + 64 < cLine) : OpR X (compareOp .NotEq) (rNeNil X.K) := by
  intro pins s σ H x y v u Q I rx ry h
  obtain ⟨a, b, xs, ex, ey, ha, hb, q⟩ := h
  subst ex
  subst ey
  obtain rfl : v = Value.ref a := rx
  obtain rfl : u = Value.ref b := ry
  obtain ⟨its, r1, p1, _⟩ := I.list ha
  obtain ⟨its2, r2, p2, _⟩ := I.list hb
  cases r2
  cases xs with
  | nil =>
    cases r1
    refine PySem.W.ke_ne_ints (xs := []) (ys := []) (ns := []) (ms := []) p1.isList p2.isList .nil .nil hu ?_
    rw [show (!decide (([] : List Int) = [])) = false from by decide]
    exact ⟨.bl false, H, I, rfl, q⟩
  | cons z zs =>
    cases r1 with
    | cons rz rt =>
      refine SeqAt.RcNeAt.lists_lengths p1.isList p2.isList (by simp) (by omega) X.prog X.w _ _ ?_
      exact ⟨.bl true, H, I, rfl, q⟩
end
structure DefOk (P : Program) (w : World) (K : PySem.W.Frag) (mg : Str → Option Value) (base : Heap) (CX : CXT) (k : Nat) (x : Str) (ps : List Str) (sp : Sp) : Prop where
  ex : ∃ f fd, FnOk P w K mg base CX k f fd ps sp ∧ mg x = some (.ref f) ∧ PySem.W.keepIn K (.ref f) = true ∧ Binds K fd ps []
structure MethOk (P : Program) (w : World) (K : PySem.W.Frag) (mg : Str → Option Value) (base : Heap) (CX : CXT) (k : Nat) (C : Addr) (m : Str) (ps : List Str) (sp : Sp) : Prop where
  ex : ∃ f fd, FnOk P w K mg base CX k f fd ps sp ∧ Meth K C m f ∧ Binds K fd ps []
structure MakeOk (P : Program) (w : World) (K : PySem.W.Frag) (mg : Str → Option Value) (base : Heap) (k : Nat) (C : Addr) (x : Str) (ps : List Str) (sp : Sp) : Prop where
  ex : ∃ f fd, FnOk P w K mg base CX0 k f fd ps sp ∧ Mk K C f ∧ mg x = some (.ref C) ∧ Binds K fd ps []
structure DefAt (K : PySem.W.Frag) (mg : Str → Option Value) (x : Str) (st : Stmt) : Prop where
  ex : ∃ f fd, Fun K x x st f fd ∧ mg x = some (.ref f)
structure MethAt (K : PySem.W.Frag) (C : Addr) (m qual : Str) (st : Stmt) : Prop where
  ex : ∃ f fd, Fun K m qual st f fd ∧ Meth K C m f
structure MakeAt (K : PySem.W.Frag) (mg : Str → Option Value) (C : Addr) (x qual : Str) (st : Stmt) : Prop where
  ex : ∃ f fd, Fun K "__init__" qual st f fd ∧ Mk K C f ∧ mg x = some (.ref C)
section
variable {X : Cx} {CX : CXT} {k j : Nat} {C : Addr} {x m : Str} {ps : List Str} {sp : Sp} {E : XK} {pos p apos : Pos} {e o : Expr} {es : List Expr} {ta : TE} {t : TA} {pl : Sem Bool}
theorem pe_cD (D : DefOk X.prog X.w X.K X.mg X.base CX k x ps sp) (hr : Room j X.A) (hle : k ≤ j) (hx : Passes CX X E) (ha : PA X (e :: es) t) (hg : Gl X x := by rfl) (hdb : (x == ("__debug__" : Str)) = false := by decide)
    (hst : starEach (e :: es) X.env = (false, eval e X.env) :: starEach es X.env := by rfl) (hpl : (backTo pos (starEach es X.env)).any (·.1) = false := by rfl) :
    PE X (.Call (.Name x p) (e :: es) [] pos) (tCall sp [] E t) := by
  obtain ⟨f, fd, F, hm, hk, hb⟩ := D.ex
  exact pe_call F (hr.mono hle) hg hm hk hb .nil hx ha hdb hst hpl
theorem pe_cM (D : MethOk X.prog X.w X.K X.mg X.base CX k C m ps sp) (hr : Room j X.A) (hle : k ≤ j) (c : Cls X.K C) (hx : Passes CX X E) (ho : PE X o ta) (ha : PA X (e :: es) t)
    (hst : starEach (e :: es) X.env = (false, eval e X.env) :: starEach es X.env := by rfl) (hpl : (backTo pos (starEach es X.env)).any (·.1) = false := by rfl)
    (ht : eval (.Call (.Attribute o m apos) (e :: es) [] pos) X.env = (do
      let ov ← eval o X.env
      standAt apos.atName
      let (f, first) ← holding [ov] (getMethod ov m pl)
      callWith pos f first (backTo pos (starEach (e :: es) X.env)) (backToKw pos (keywordEach [] X.env))) := by rfl) :
    PE X (.Call (.Attribute o m apos) (e :: es) [] pos) (tMeth C m sp [] E ta t) := by
  obtain ⟨f, fd, F, hm, hb⟩ := D.ex
  exact pe_meth ho c hm F (hr.mono hle) hb .nil hx ha hst hpl ht
theorem pe_cM0 (D : MethOk X.prog X.w X.K X.mg X.base CX k C m ps sp) (hr : Room j X.A) (hle : k ≤ j) (c : Cls X.K C) (hx : Passes CX X E) (ho : PE X o ta)
    (ht : eval (.Call (.Attribute o m apos) [] [] pos) X.env = (do
      let ov ← eval o X.env
      standAt apos.atName
      let (f, first) ← holding [ov] (getMethod ov m pl)
      callWith pos f first (backTo pos (starEach [] X.env)) (backToKw pos (keywordEach [] X.env))) := by rfl) :
    PE X (.Call (.Attribute o m apos) [] [] pos) (tMeth C m sp [] E ta tNil) := by
  obtain ⟨f, fd, F, hm, hb⟩ := D.ex
  exact pe_meth0 ho c hm F (hr.mono hle) hb .nil hx ht
theorem pe_cK (D : MakeOk X.prog X.w X.K X.mg X.base k C x ps sp) (hr : Room j X.A) (hle : k + 1 ≤ j) (ha : PA X (e :: es) t) (hg : Gl X x := by rfl) (hdb : (x == ("__debug__" : Str)) = false := by decide)
    (hst : starEach (e :: es) X.env = (false, eval e X.env) :: starEach es X.env := by rfl) (hpl : (backTo pos (starEach es X.env)).any (·.1) = false := by rfl) :
    PE X (.Call (.Name x p) (e :: es) [] pos) (tMake C sp [] E0 t) := by
  obtain ⟨f, fd, F, M, hm, hb⟩ := D.ex
  exact pe_make M F (hr.mono hle) hg hm hb .nil pass0 ha hdb hst hpl
theorem pe_cK0 (D : MakeOk X.prog X.w X.K X.mg X.base k C x ps sp) (hr : Room j X.A) (hle : k + 1 ≤ j) (hg : Gl X x := by rfl) (hdb : (x == ("__debug__" : Str)) = false := by decide) :
    PE X (.Call (.Name x p) [] [] pos) (tMake C sp [] E0 tNil) := by
  obtain ⟨f, fd, F, M, hm, hb⟩ := D.ex
  exact pe_make0 M F (hr.mono hle) hg hm hb .nil pass0 hdb
def tMethS (C : Addr) (m : Str) (sp : Sp) (E : L2.St → XK) (ta : TE) (t : TA) : TE := fun σ H Q => ta σ H fun x H1 => ∃ a dx fs, x = .ref a ∧ H1 a = some (.ins C dx fs) ∧ fs.lookup m = none ∧ t σ H1 fun vs H2 => sp (x :: vs) H2 Q (E σ)
theorem pe_cMS {ES : L2.St → XK} (D : MethOk X.prog X.w X.K X.mg X.base CX k C m ps sp) (hr : Room j X.A) (hle : k ≤ j) (c : Cls X.K C) (hx : ∀ σ, PassesAt CX X σ (ES σ)) (he : PE X o ta) (ha : PA X (e :: es) t)
    (hst : starEach (e :: es) X.env = (false, eval e X.env) :: starEach es X.env := by rfl) (hpl : (backTo pos (starEach es X.env)).any (·.1) = false := by rfl)
    (ht : eval (.Call (.Attribute o m apos) (e :: es) [] pos) X.env = (do
      let ov ← eval o X.env
      standAt apos.atName
      let (f, first) ← holding [ov] (getMethod ov m pl)
      callWith pos f first (backTo pos (starEach (e :: es) X.env)) (backToKw pos (keywordEach [] X.env))) := by rfl) :
    PE X (.Call (.Attribute o m apos) (e :: es) [] pos) (tMethS C m sp ES ta t) := by
  obtain ⟨f, fd, F, hm, hb⟩ := D.ex
  refine ⟨fun pins s σ H Q I h => ?_⟩
  refine PySem.W.methodCall_KW (pl := pl) (thn (he.run pins s σ H _ I h) fun u s1 ⟨x, H1, I1, rx, a, dx, fs, ex, ea, l, q⟩ => ?_) ht
  subst ex
  obtain rfl : u = Value.ref a := rx
  refine getmeth_ok I1 ea c hm l ?_
  refine PySem.W.callWith_K (first := [.ref a]) (h₀ := X.base) I.ok.mod.kin hm.kp (thn (ha.run pos pins s1 σ H1 _ I1 q) fun us s2 ⟨vs, H2, I2, r, q2⟩ => ⟨I2.kIn, ?_⟩) hst hpl
  exact run_fnS (us := .ref a :: us) (vs := .ref a :: vs) F (hr.mono hle) hb (hx σ) I2 (.cons rfl r) q2
end
section
variable {P : Program} {w : World} {K : PySem.W.Frag} {mg : Str → Option Value} {base : Heap} {x m qual : Str} {st : Stmt} {N ps : List Str} {k : Nat} {sp : Sp} {C : Addr}
def BodyOk (P : Program) (w : World) (K : PySem.W.Frag) (mg : Str → Option Value) (base : Heap) (k : Nat) (N : List Str) (qual : Str) (st : Stmt) (sp : Sp) : Prop :=
  ∀ (f : Addr) (cdv : Value) (A : Around) (outer : List Env) (s : Shared) (H : Hp) (vs : List V) (Q : VK) (E : XK), Room k (A.deeper (envOfC qual (defScope st) s.heap.objs.size f cdv)) → sp vs H Q E →
    ∃ t, PSs (cxOf CX0 P w K mg base N qual (defScope st) f cdv A outer s H E).nox (defBody st) t ∧ t { nx := fun _ H' => Q .non H', rt := Q } (start N vs) H
def BodyX (P : Program) (w : World) (K : PySem.W.Frag) (mg : Str → Option Value) (base : Heap) (k : Nat) (N : List Str) (qual : Str) (st : Stmt) (sp : Sp) : Prop :=
  ∀ (f : Addr) (cdv : Value) (A : Around) (outer : List Env) (s : Shared) (H : Hp) (vs : List V) (Q : VK) (E : XK), Room k (A.deeper (envOfC qual (defScope st) s.heap.objs.size f cdv)) → sp vs H Q E →
    ∃ t, PSs (cxOf (L2.CX P w) P w K mg base N qual (defScope st) f cdv A outer s H E) (defBody st) t ∧ t { nx := fun _ H' => Q .non H', rt := Q } (start N vs) H
theorem DefAt.ok (D : DefAt K mg x st) (S : FnScope N ps (defScope st)) (hb : ∀ f fd, Fun K x x st f fd → Binds K fd ps []) (len : ∀ vs H Q E, sp vs H Q E → vs.length = ps.length)
    (body : BodyOk P w K mg base k N x st sp) : DefOk P w K mg base CX0 (k + 1) x ps sp := by
  obtain ⟨f, fd, F, hm⟩ := D.ex
  exact ⟨f, fd, F.ok S len (fun cdv A outer s H vs Q E hr h => body f cdv A outer s H vs Q E hr h), hm, F.kp, hb f fd F⟩
theorem DefAt.okX (D : DefAt K mg x st) (S : FnScope N ps (defScope st)) (hb : ∀ f fd, Fun K x x st f fd → Binds K fd ps []) (len : ∀ vs H Q E, sp vs H Q E → vs.length = ps.length)
    (body : BodyX P w K mg base k N x st sp) : DefOk P w K mg base (L2.CX P w) (k + 1) x ps sp := by
  obtain ⟨f, fd, F, hm⟩ := D.ex
  exact ⟨f, fd, F.okX S len (fun cdv A outer s H vs Q E hr h => body f cdv A outer s H vs Q E hr h), hm, F.kp, hb f fd F⟩
theorem MethAt.ok (D : MethAt K C m qual st) (S : FnScope N ps (defScope st)) (hb : ∀ f fd, Fun K m qual st f fd → Binds K fd ps []) (len : ∀ vs H Q E, sp vs H Q E → vs.length = ps.length)
    (body : BodyOk P w K mg base k N qual st sp) : MethOk P w K mg base CX0 (k + 1) C m ps sp := by
  obtain ⟨f, fd, F, hm⟩ := D.ex
  exact ⟨f, fd, F.ok S len (fun cdv A outer s H vs Q E hr h => body f cdv A outer s H vs Q E hr h), hm, hb f fd F⟩
theorem MethAt.okX (D : MethAt K C m qual st) (S : FnScope N ps (defScope st)) (hb : ∀ f fd, Fun K m qual st f fd → Binds K fd ps []) (len : ∀ vs H Q E, sp vs H Q E → vs.length = ps.length)
    (body : BodyX P w K mg base k N qual st sp) : MethOk P w K mg base (L2.CX P w) (k + 1) C m ps sp := by
  obtain ⟨f, fd, F, hm⟩ := D.ex
  exact ⟨f, fd, F.okX S len (fun cdv A outer s H vs Q E hr h => body f cdv A outer s H vs Q E hr h), hm, hb f fd F⟩
theorem MakeAt.ok (D : MakeAt K mg C x qual st) (S : FnScope N ps (defScope st)) (hb : ∀ f fd, Fun K "__init__" qual st f fd → Binds K fd ps []) (len : ∀ vs H Q E, sp vs H Q E → vs.length = ps.length)
    (body : BodyOk P w K mg base k N qual st sp) : MakeOk P w K mg base (k + 1) C x ps sp := by
  obtain ⟨f, fd, F, M, hm⟩ := D.ex
  exact ⟨f, fd, F.ok S len (fun cdv A outer s H vs Q E hr h => body f cdv A outer s H vs Q E hr h), M, hm, hb f fd F⟩
end
end Bj
namespace Bj
open PySem PySem.Spec PyProof.Rows L2
theorem pe_gI {X : Cx} {x : Str} {n : Int} {pos : Pos} (h : ∃ t, X.mg x = some (.int n t)) (hg : Gl X x := by rfl) (hd : (x == ("__debug__" : Str)) = false := by decide) : PE X (.Name x pos) (tC (.int n)) := by
  obtain ⟨t, e⟩ := h
  exact pe_glob hg e ⟨_, rfl⟩ hd
theorem putF_len {f : Str} {v : V} : ∀ {r : List (Str × V)}, (putF f v r).length ≤ r.length + 1
  | [] => Nat.le_refl _
  | (g, x) :: r => by
    by_cases h : g = f
    · subst h
      rw [show putF g v ((g, x) :: r) = (g, v) :: r from if_pos rfl]
      simp
    · rw [show putF f v ((g, x) :: r) = (g, x) :: putF f v r from if_neg h]
      have := putF_len (f := f) (v := v) (r := r)
      simp only [List.length_cons]
      omega
abbrev s_is_card : Stmt := top 6
abbrev N_is_card : List Str := ["number"]
abbrev P_is_card : List Str := ["number"]
theorem sc_is_card : FnScope N_is_card P_is_card (defScope s_is_card) := ⟨rfl, rfl, rfl, by decide +kernel, rfl, by decide +kernel, by decide +kernel⟩
theorem b_is_card {K : PySem.W.Frag} {f : Addr} {fd : FuncData} (F : Fun K "is_card" "is_card" s_is_card f fd) : Binds K fd P_is_card [] := F.binds fun _ _ _ _ _ _ us hl => match us, hl with | [_], _ => rfl
abbrev s_are_cards : Stmt := top 7
abbrev N_are_cards : List Str := ["numbers", "number"]
abbrev P_are_cards : List Str := ["numbers"]
theorem sc_are_cards : FnScope N_are_cards P_are_cards (defScope s_are_cards) := ⟨rfl, rfl, rfl, by decide +kernel, rfl, by decide +kernel, by decide +kernel⟩
theorem b_are_cards {K : PySem.W.Frag} {f : Addr} {fd : FuncData} (F : Fun K "are_cards" "are_cards" s_are_cards f fd) : Binds K fd P_are_cards [] := F.binds fun _ _ _ _ _ _ us hl => match us, hl with | [_], _ => rfl
abbrev s_worth_of : Stmt := top 8
abbrev N_worth_of : List Str := ["card"]
abbrev P_worth_of : List Str := ["card"]
theorem sc_worth_of : FnScope N_worth_of P_worth_of (defScope s_worth_of) := ⟨rfl, rfl, rfl, by decide +kernel, rfl, by decide +kernel, by decide +kernel⟩
theorem b_worth_of {K : PySem.W.Frag} {f : Addr} {fd : FuncData} (F : Fun K "worth_of" "worth_of" s_worth_of f fd) : Binds K fd P_worth_of [] := F.binds fun _ _ _ _ _ _ us hl => match us, hl with | [_], _ => rfl
abbrev s_hard_count : Stmt := top 9
abbrev N_hard_count : List Str := ["cards", "card"]
abbrev P_hard_count : List Str := ["cards"]
theorem sc_hard_count : FnScope N_hard_count P_hard_count (defScope s_hard_count) := ⟨rfl, rfl, rfl, by decide +kernel, rfl, by decide +kernel, by decide +kernel⟩
theorem b_hard_count {K : PySem.W.Frag} {f : Addr} {fd : FuncData} (F : Fun K "hard_count" "hard_count" s_hard_count f fd) : Binds K fd P_hard_count [] := F.binds fun _ _ _ _ _ _ us hl => match us, hl with | [_], _ => rfl
abbrev s_is_soft : Stmt := top 10
abbrev N_is_soft : List Str := ["cards"]
abbrev P_is_soft : List Str := ["cards"]
theorem sc_is_soft : FnScope N_is_soft P_is_soft (defScope s_is_soft) := ⟨rfl, rfl, rfl, by decide +kernel, rfl, by decide +kernel, by decide +kernel⟩
theorem b_is_soft {K : PySem.W.Frag} {f : Addr} {fd : FuncData} (F : Fun K "is_soft" "is_soft" s_is_soft f fd) : Binds K fd P_is_soft [] := F.binds fun _ _ _ _ _ _ us hl => match us, hl with | [_], _ => rfl
abbrev s_count_of : Stmt := top 11
abbrev N_count_of : List Str := ["cards"]
abbrev P_count_of : List Str := ["cards"]
theorem sc_count_of : FnScope N_count_of P_count_of (defScope s_count_of) := ⟨rfl, rfl, rfl, by decide +kernel, rfl, by decide +kernel, by decide +kernel⟩
theorem b_count_of {K : PySem.W.Frag} {f : Addr} {fd : FuncData} (F : Fun K "count_of" "count_of" s_count_of f fd) : Binds K fd P_count_of [] := F.binds fun _ _ _ _ _ _ us hl => match us, hl with | [_], _ => rfl
abbrev s_is_natural : Stmt := top 12
abbrev N_is_natural : List Str := ["cards"]
abbrev P_is_natural : List Str := ["cards"]
theorem sc_is_natural : FnScope N_is_natural P_is_natural (defScope s_is_natural) := ⟨rfl, rfl, rfl, by decide +kernel, rfl, by decide +kernel, by decide +kernel⟩
theorem b_is_natural {K : PySem.W.Frag} {f : Addr} {fd : FuncData} (F : Fun K "is_natural" "is_natural" s_is_natural f fd) : Binds K fd P_is_natural [] := F.binds fun _ _ _ _ _ _ us hl => match us, hl with | [_], _ => rfl
abbrev s_must : Stmt := top 15
abbrev N_must : List Str := ["right", "number"]
abbrev P_must : List Str := ["right", "number"]
theorem sc_must : FnScope N_must P_must (defScope s_must) := ⟨rfl, rfl, rfl, by decide +kernel, rfl, by decide +kernel, by decide +kernel⟩
theorem b_must {K : PySem.W.Frag} {f : Addr} {fd : FuncData} (F : Fun K "must" "must" s_must f fd) : Binds K fd P_must [] := F.binds fun _ _ _ _ _ _ us hl => match us, hl with | [_, _], _ => rfl
abbrev s_Hand_init : Stmt := inClass (top 21) 0
abbrev N_Hand_init : List Str := ["self", "cards", "stake", "of_split"]
abbrev P_Hand_init : List Str := ["self", "cards", "stake", "of_split"]
theorem sc_Hand_init : FnScope N_Hand_init P_Hand_init (defScope s_Hand_init) := ⟨rfl, rfl, rfl, by decide +kernel, rfl, by decide +kernel, by decide +kernel⟩
theorem b_Hand_init {K : PySem.W.Frag} {f : Addr} {fd : FuncData} (F : Fun K "__init__" "Hand.__init__" s_Hand_init f fd) : Binds K fd P_Hand_init [] := F.binds fun _ _ _ _ _ _ us hl => match us, hl with | [_, _, _, _], _ => rfl
abbrev s_Hand_settle : Stmt := inClass (top 21) 1
abbrev N_Hand_settle : List Str := ["self", "count"]
abbrev P_Hand_settle : List Str := ["self"]
theorem sc_Hand_settle : FnScope N_Hand_settle P_Hand_settle (defScope s_Hand_settle) := ⟨rfl, rfl, rfl, by decide +kernel, rfl, by decide +kernel, by decide +kernel⟩
theorem b_Hand_settle {K : PySem.W.Frag} {f : Addr} {fd : FuncData} (F : Fun K "settle" "Hand.settle" s_Hand_settle f fd) : Binds K fd P_Hand_settle [] := F.binds fun _ _ _ _ _ _ us hl => match us, hl with | [_], _ => rfl
abbrev s_Hand_end : Stmt := inClass (top 21) 2
abbrev N_Hand_end : List Str := ["self"]
abbrev P_Hand_end : List Str := ["self"]
theorem sc_Hand_end : FnScope N_Hand_end P_Hand_end (defScope s_Hand_end) := ⟨rfl, rfl, rfl, by decide +kernel, rfl, by decide +kernel, by decide +kernel⟩
theorem b_Hand_end {K : PySem.W.Frag} {f : Addr} {fd : FuncData} (F : Fun K "end" "Hand.end" s_Hand_end f fd) : Binds K fd P_Hand_end [] := F.binds fun _ _ _ _ _ _ us hl => match us, hl with | [_], _ => rfl
abbrev s_Hand_is_pair : Stmt := inClass (top 21) 3
abbrev N_Hand_is_pair : List Str := ["self"]
abbrev P_Hand_is_pair : List Str := ["self"]
theorem sc_Hand_is_pair : FnScope N_Hand_is_pair P_Hand_is_pair (defScope s_Hand_is_pair) := ⟨rfl, rfl, rfl, by decide +kernel, rfl, by decide +kernel, by decide +kernel⟩
theorem b_Hand_is_pair {K : PySem.W.Frag} {f : Addr} {fd : FuncData} (F : Fun K "is_pair" "Hand.is_pair" s_Hand_is_pair f fd) : Binds K fd P_Hand_is_pair [] := F.binds fun _ _ _ _ _ _ us hl => match us, hl with | [_], _ => rfl
abbrev s_Hand_wins_more : Stmt := inClass (top 21) 4
abbrev N_Hand_wins_more : List Str := ["self"]
abbrev P_Hand_wins_more : List Str := ["self"]
theorem sc_Hand_wins_more : FnScope N_Hand_wins_more P_Hand_wins_more (defScope s_Hand_wins_more) := ⟨rfl, rfl, rfl, by decide +kernel, rfl, by decide +kernel, by decide +kernel⟩
theorem b_Hand_wins_more {K : PySem.W.Frag} {f : Addr} {fd : FuncData} (F : Fun K "wins_more" "Hand.wins_more" s_Hand_wins_more f fd) : Binds K fd P_Hand_wins_more [] := F.binds fun _ _ _ _ _ _ us hl => match us, hl with | [_], _ => rfl
abbrev s_Hand_asks_dealer : Stmt := inClass (top 21) 5
abbrev N_Hand_asks_dealer : List Str := ["self"]
abbrev P_Hand_asks_dealer : List Str := ["self"]
theorem sc_Hand_asks_dealer : FnScope N_Hand_asks_dealer P_Hand_asks_dealer (defScope s_Hand_asks_dealer) := ⟨rfl, rfl, rfl, by decide +kernel, rfl, by decide +kernel, by decide +kernel⟩
theorem b_Hand_asks_dealer {K : PySem.W.Frag} {f : Addr} {fd : FuncData} (F : Fun K "asks_dealer" "Hand.asks_dealer" s_Hand_asks_dealer f fd) : Binds K fd P_Hand_asks_dealer [] := F.binds fun _ _ _ _ _ _ us hl => match us, hl with | [_], _ => rfl
abbrev s_Hand_paid : Stmt := inClass (top 21) 6
abbrev N_Hand_paid : List Str := ["self", "dealer"]
abbrev P_Hand_paid : List Str := ["self", "dealer"]
theorem sc_Hand_paid : FnScope N_Hand_paid P_Hand_paid (defScope s_Hand_paid) := ⟨rfl, rfl, rfl, by decide +kernel, rfl, by decide +kernel, by decide +kernel⟩
theorem b_Hand_paid {K : PySem.W.Frag} {f : Addr} {fd : FuncData} (F : Fun K "paid" "Hand.paid" s_Hand_paid f fd) : Binds K fd P_Hand_paid [] := F.binds fun _ _ _ _ _ _ us hl => match us, hl with | [_, _], _ => rfl
abbrev s_Hand_paid_by_count : Stmt := inClass (top 21) 7
abbrev N_Hand_paid_by_count : List Str := ["self", "count", "mine"]
abbrev P_Hand_paid_by_count : List Str := ["self", "count"]
theorem sc_Hand_paid_by_count : FnScope N_Hand_paid_by_count P_Hand_paid_by_count (defScope s_Hand_paid_by_count) := ⟨rfl, rfl, rfl, by decide +kernel, rfl, by decide +kernel, by decide +kernel⟩
theorem b_Hand_paid_by_count {K : PySem.W.Frag} {f : Addr} {fd : FuncData} (F : Fun K "paid_by_count" "Hand.paid_by_count" s_Hand_paid_by_count f fd) : Binds K fd P_Hand_paid_by_count [] := F.binds fun _ _ _ _ _ _ us hl => match us, hl with | [_, _], _ => rfl
abbrev s_Hand_told : Stmt := inClass (top 21) 8
abbrev N_Hand_told : List Str := ["self", "found"]
abbrev P_Hand_told : List Str := ["self"]
theorem sc_Hand_told : FnScope N_Hand_told P_Hand_told (defScope s_Hand_told) := ⟨rfl, rfl, rfl, by decide +kernel, rfl, by decide +kernel, by decide +kernel⟩
theorem b_Hand_told {K : PySem.W.Frag} {f : Addr} {fd : FuncData} (F : Fun K "told" "Hand.told" s_Hand_told f fd) : Binds K fd P_Hand_told [] := F.binds fun _ _ _ _ _ _ us hl => match us, hl with | [_], _ => rfl
abbrev s_split_hands : Stmt := top 22
abbrev N_split_hands : List Str := ["hand", "first", "second", "found", "old", "new", "half"]
abbrev P_split_hands : List Str := ["hand", "first", "second"]
theorem sc_split_hands : FnScope N_split_hands P_split_hands (defScope s_split_hands) := ⟨rfl, rfl, rfl, by decide +kernel, rfl, by decide +kernel, by decide +kernel⟩
theorem b_split_hands {K : PySem.W.Frag} {f : Addr} {fd : FuncData} (F : Fun K "split_hands" "split_hands" s_split_hands f fd) : Binds K fd P_split_hands [] := F.binds fun _ _ _ _ _ _ us hl => match us, hl with | [_, _, _], _ => rfl
abbrev s_Seat_init : Stmt := inClass (top 23) 0
abbrev N_Seat_init : List Str := ["self"]
abbrev P_Seat_init : List Str := ["self"]
theorem sc_Seat_init : FnScope N_Seat_init P_Seat_init (defScope s_Seat_init) := ⟨rfl, rfl, rfl, by decide +kernel, rfl, by decide +kernel, by decide +kernel⟩
theorem b_Seat_init {K : PySem.W.Frag} {f : Addr} {fd : FuncData} (F : Fun K "__init__" "Seat.__init__" s_Seat_init f fd) : Binds K fd P_Seat_init [] := F.binds fun _ _ _ _ _ _ us hl => match us, hl with | [_], _ => rfl
abbrev s_Seat_clear_round : Stmt := inClass (top 23) 1
abbrev N_Seat_clear_round : List Str := ["self"]
abbrev P_Seat_clear_round : List Str := ["self"]
theorem sc_Seat_clear_round : FnScope N_Seat_clear_round P_Seat_clear_round (defScope s_Seat_clear_round) := ⟨rfl, rfl, rfl, by decide +kernel, rfl, by decide +kernel, by decide +kernel⟩
theorem b_Seat_clear_round {K : PySem.W.Frag} {f : Addr} {fd : FuncData} (F : Fun K "clear_round" "Seat.clear_round" s_Seat_clear_round f fd) : Binds K fd P_Seat_clear_round [] := F.binds fun _ _ _ _ _ _ us hl => match us, hl with | [_], _ => rfl
abbrev s_Seat_pay : Stmt := inClass (top 23) 2
abbrev N_Seat_pay : List Str := ["self", "dealer", "hand"]
abbrev P_Seat_pay : List Str := ["self", "dealer"]
theorem sc_Seat_pay : FnScope N_Seat_pay P_Seat_pay (defScope s_Seat_pay) := ⟨rfl, rfl, rfl, by decide +kernel, rfl, by decide +kernel, by decide +kernel⟩
theorem b_Seat_pay {K : PySem.W.Frag} {f : Addr} {fd : FuncData} (F : Fun K "pay" "Seat.pay" s_Seat_pay f fd) : Binds K fd P_Seat_pay [] := F.binds fun _ _ _ _ _ _ us hl => match us, hl with | [_, _], _ => rfl
abbrev s_Seat_numbers : Stmt := inClass (top 23) 3
abbrev N_Seat_numbers : List Str := ["self", "found", "hand"]
abbrev P_Seat_numbers : List Str := ["self"]
theorem sc_Seat_numbers : FnScope N_Seat_numbers P_Seat_numbers (defScope s_Seat_numbers) := ⟨rfl, rfl, rfl, by decide +kernel, rfl, by decide +kernel, by decide +kernel⟩
theorem b_Seat_numbers {K : PySem.W.Frag} {f : Addr} {fd : FuncData} (F : Fun K "numbers" "Seat.numbers" s_Seat_numbers f fd) : Binds K fd P_Seat_numbers [] := F.binds fun _ _ _ _ _ _ us hl => match us, hl with | [_], _ => rfl
abbrev s_Shoe_init : Stmt := inClass (top 26) 0
abbrev N_Shoe_init : List Str := ["self", "decks"]
abbrev P_Shoe_init : List Str := ["self", "decks"]
theorem sc_Shoe_init : FnScope N_Shoe_init P_Shoe_init (defScope s_Shoe_init) := ⟨rfl, rfl, rfl, by decide +kernel, rfl, by decide +kernel, by decide +kernel⟩
theorem b_Shoe_init {K : PySem.W.Frag} {f : Addr} {fd : FuncData} (F : Fun K "__init__" "Shoe.__init__" s_Shoe_init f fd) : Binds K fd P_Shoe_init [] := F.binds fun _ _ _ _ _ _ us hl => match us, hl with | [_, _], _ => rfl
abbrev s_Shoe_many : Stmt := inClass (top 26) 1
abbrev N_Shoe_many : List Str := ["self"]
abbrev P_Shoe_many : List Str := ["self"]
theorem sc_Shoe_many : FnScope N_Shoe_many P_Shoe_many (defScope s_Shoe_many) := ⟨rfl, rfl, rfl, by decide +kernel, rfl, by decide +kernel, by decide +kernel⟩
theorem b_Shoe_many {K : PySem.W.Frag} {f : Addr} {fd : FuncData} (F : Fun K "many" "Shoe.many" s_Shoe_many f fd) : Binds K fd P_Shoe_many [] := F.binds fun _ _ _ _ _ _ us hl => match us, hl with | [_], _ => rfl
abbrev s_Shoe_has_all : Stmt := inClass (top 26) 2
abbrev N_Shoe_has_all : List Str := ["self", "cards", "card"]
abbrev P_Shoe_has_all : List Str := ["self", "cards"]
theorem sc_Shoe_has_all : FnScope N_Shoe_has_all P_Shoe_has_all (defScope s_Shoe_has_all) := ⟨rfl, rfl, rfl, by decide +kernel, rfl, by decide +kernel, by decide +kernel⟩
theorem b_Shoe_has_all {K : PySem.W.Frag} {f : Addr} {fd : FuncData} (F : Fun K "has_all" "Shoe.has_all" s_Shoe_has_all f fd) : Binds K fd P_Shoe_has_all [] := F.binds fun _ _ _ _ _ _ us hl => match us, hl with | [_, _], _ => rfl
abbrev s_Shoe_take : Stmt := inClass (top 26) 3
abbrev N_Shoe_take : List Str := ["self", "cards", "card"]
abbrev P_Shoe_take : List Str := ["self", "cards"]
theorem sc_Shoe_take : FnScope N_Shoe_take P_Shoe_take (defScope s_Shoe_take) := ⟨rfl, rfl, rfl, by decide +kernel, rfl, by decide +kernel, by decide +kernel⟩
theorem b_Shoe_take {K : PySem.W.Frag} {f : Addr} {fd : FuncData} (F : Fun K "take" "Shoe.take" s_Shoe_take f fd) : Binds K fd P_Shoe_take [] := F.binds fun _ _ _ _ _ _ us hl => match us, hl with | [_, _], _ => rfl
abbrev s_is_flag : Stmt := top 39
abbrev N_is_flag : List Str := ["number"]
abbrev P_is_flag : List Str := ["number"]
theorem sc_is_flag : FnScope N_is_flag P_is_flag (defScope s_is_flag) := ⟨rfl, rfl, rfl, by decide +kernel, rfl, by decide +kernel, by decide +kernel⟩
theorem b_is_flag {K : PySem.W.Frag} {f : Addr} {fd : FuncData} (F : Fun K "is_flag" "is_flag" s_is_flag f fd) : Binds K fd P_is_flag [] := F.binds fun _ _ _ _ _ _ us hl => match us, hl with | [_], _ => rfl
abbrev s_Table_init : Stmt := inClass (top 40) 0
abbrev N_Table_init : List Str := ["self"]
abbrev P_Table_init : List Str := ["self"]
theorem sc_Table_init : FnScope N_Table_init P_Table_init (defScope s_Table_init) := ⟨rfl, rfl, rfl, by decide +kernel, rfl, by decide +kernel, by decide +kernel⟩
theorem b_Table_init {K : PySem.W.Frag} {f : Addr} {fd : FuncData} (F : Fun K "__init__" "Table.__init__" s_Table_init f fd) : Binds K fd P_Table_init [] := F.binds fun _ _ _ _ _ _ us hl => match us, hl with | [_], _ => rfl
abbrev s_Table_is_seat : Stmt := inClass (top 40) 1
abbrev N_Table_is_seat : List Str := ["self", "number"]
abbrev P_Table_is_seat : List Str := ["self", "number"]
theorem sc_Table_is_seat : FnScope N_Table_is_seat P_Table_is_seat (defScope s_Table_is_seat) := ⟨rfl, rfl, rfl, by decide +kernel, rfl, by decide +kernel, by decide +kernel⟩
theorem b_Table_is_seat {K : PySem.W.Frag} {f : Addr} {fd : FuncData} (F : Fun K "is_seat" "Table.is_seat" s_Table_is_seat f fd) : Binds K fd P_Table_is_seat [] := F.binds fun _ _ _ _ _ _ us hl => match us, hl with | [_, _], _ => rfl
abbrev s_Table_playing : Stmt := inClass (top 40) 2
abbrev N_Table_playing : List Str := ["self", "seat"]
abbrev P_Table_playing : List Str := ["self"]
theorem sc_Table_playing : FnScope N_Table_playing P_Table_playing (defScope s_Table_playing) := ⟨rfl, rfl, rfl, by decide +kernel, rfl, by decide +kernel, by decide +kernel⟩
theorem b_Table_playing {K : PySem.W.Frag} {f : Addr} {fd : FuncData} (F : Fun K "playing" "Table.playing" s_Table_playing f fd) : Binds K fd P_Table_playing [] := F.binds fun _ _ _ _ _ _ us hl => match us, hl with | [_], _ => rfl
abbrev s_Table_all_hands : Stmt := inClass (top 40) 3
abbrev N_Table_all_hands : List Str := ["self", "found", "seat"]
abbrev P_Table_all_hands : List Str := ["self"]
theorem sc_Table_all_hands : FnScope N_Table_all_hands P_Table_all_hands (defScope s_Table_all_hands) := ⟨rfl, rfl, rfl, by decide +kernel, rfl, by decide +kernel, by decide +kernel⟩
theorem b_Table_all_hands {K : PySem.W.Frag} {f : Addr} {fd : FuncData} (F : Fun K "all_hands" "Table.all_hands" s_Table_all_hands f fd) : Binds K fd P_Table_all_hands [] := F.binds fun _ _ _ _ _ _ us hl => match us, hl with | [_], _ => rfl
abbrev s_Table_turn : Stmt := inClass (top 40) 4
abbrev N_Table_turn : List Str := ["self", "at", "seat", "number", "hand"]
abbrev P_Table_turn : List Str := ["self"]
theorem sc_Table_turn : FnScope N_Table_turn P_Table_turn (defScope s_Table_turn) := ⟨rfl, rfl, rfl, by decide +kernel, rfl, by decide +kernel, by decide +kernel⟩
theorem b_Table_turn {K : PySem.W.Frag} {f : Addr} {fd : FuncData} (F : Fun K "turn" "Table.turn" s_Table_turn f fd) : Binds K fd P_Table_turn [] := F.binds fun _ _ _ _ _ _ us hl => match us, hl with | [_], _ => rfl
abbrev s_Table_stands : Stmt := inClass (top 40) 5
abbrev N_Table_stands : List Str := ["self", "shown", "at", "number"]
abbrev P_Table_stands : List Str := ["self"]
theorem sc_Table_stands : FnScope N_Table_stands P_Table_stands (defScope s_Table_stands) := ⟨rfl, rfl, rfl, by decide +kernel, rfl, by decide +kernel, by decide +kernel⟩
theorem b_Table_stands {K : PySem.W.Frag} {f : Addr} {fd : FuncData} (F : Fun K "stands" "Table.stands" s_Table_stands f fd) : Binds K fd P_Table_stands [] := F.binds fun _ _ _ _ _ _ us hl => match us, hl with | [_], _ => rfl
abbrev s_Table_must_phase : Stmt := inClass (top 40) 6
abbrev N_Table_must_phase : List Str := ["self", "phases"]
abbrev P_Table_must_phase : List Str := ["self", "phases"]
theorem sc_Table_must_phase : FnScope N_Table_must_phase P_Table_must_phase (defScope s_Table_must_phase) := ⟨rfl, rfl, rfl, by decide +kernel, rfl, by decide +kernel, by decide +kernel⟩
theorem b_Table_must_phase {K : PySem.W.Frag} {f : Addr} {fd : FuncData} (F : Fun K "must_phase" "Table.must_phase" s_Table_must_phase f fd) : Binds K fd P_Table_must_phase [] := F.binds fun _ _ _ _ _ _ us hl => match us, hl with | [_, _], _ => rfl
abbrev s_Table_take : Stmt := inClass (top 40) 7
abbrev N_Table_take : List Str := ["self", "cards"]
abbrev P_Table_take : List Str := ["self", "cards"]
theorem sc_Table_take : FnScope N_Table_take P_Table_take (defScope s_Table_take) := ⟨rfl, rfl, rfl, by decide +kernel, rfl, by decide +kernel, by decide +kernel⟩
theorem b_Table_take {K : PySem.W.Frag} {f : Addr} {fd : FuncData} (F : Fun K "take" "Table.take" s_Table_take f fd) : Binds K fd P_Table_take [] := F.binds fun _ _ _ _ _ _ us hl => match us, hl with | [_, _], _ => rfl
abbrev s_Table_begin : Stmt := inClass (top 40) 8
abbrev N_Table_begin : List Str := ["self", "numbers", "seats", "decks", "soft", "again", "giving", "hands", "k"]
abbrev P_Table_begin : List Str := ["self", "numbers"]
theorem sc_Table_begin : FnScope N_Table_begin P_Table_begin (defScope s_Table_begin) := ⟨rfl, rfl, rfl, by decide +kernel, rfl, by decide +kernel, by decide +kernel⟩
theorem b_Table_begin {K : PySem.W.Frag} {f : Addr} {fd : FuncData} (F : Fun K "begin" "Table.begin" s_Table_begin f fd) : Binds K fd P_Table_begin [] := F.binds fun _ _ _ _ _ _ us hl => match us, hl with | [_, _], _ => rfl
abbrev s_Table_lay_stake : Stmt := inClass (top 40) 9
abbrev N_Table_lay_stake : List Str := ["self", "at", "units", "seat"]
abbrev P_Table_lay_stake : List Str := ["self", "at", "units"]
theorem sc_Table_lay_stake : FnScope N_Table_lay_stake P_Table_lay_stake (defScope s_Table_lay_stake) := ⟨rfl, rfl, rfl, by decide +kernel, rfl, by decide +kernel, by decide +kernel⟩
theorem b_Table_lay_stake {K : PySem.W.Frag} {f : Addr} {fd : FuncData} (F : Fun K "lay_stake" "Table.lay_stake" s_Table_lay_stake f fd) : Binds K fd P_Table_lay_stake [] := F.binds fun _ _ _ _ _ _ us hl => match us, hl with | [_, _, _], _ => rfl
abbrev s_Table_deal : Stmt := inClass (top 40) 10
abbrev N_Table_deal : List Str := ["self", "cards", "some", "half", "k", "seat"]
abbrev P_Table_deal : List Str := ["self", "cards"]
theorem sc_Table_deal : FnScope N_Table_deal P_Table_deal (defScope s_Table_deal) := ⟨rfl, rfl, rfl, by decide +kernel, rfl, by decide +kernel, by decide +kernel⟩
theorem b_Table_deal {K : PySem.W.Frag} {f : Addr} {fd : FuncData} (F : Fun K "deal" "Table.deal" s_Table_deal f fd) : Binds K fd P_Table_deal [] := F.binds fun _ _ _ _ _ _ us hl => match us, hl with | [_, _], _ => rfl
abbrev s_Table_look : Stmt := inClass (top 40) 11
abbrev N_Table_look : List Str := ["self", "hand"]
abbrev P_Table_look : List Str := ["self"]
theorem sc_Table_look : FnScope N_Table_look P_Table_look (defScope s_Table_look) := ⟨rfl, rfl, rfl, by decide +kernel, rfl, by decide +kernel, by decide +kernel⟩
theorem b_Table_look {K : PySem.W.Frag} {f : Addr} {fd : FuncData} (F : Fun K "look" "Table.look" s_Table_look f fd) : Binds K fd P_Table_look [] := F.binds fun _ _ _ _ _ _ us hl => match us, hl with | [_], _ => rfl
abbrev s_Table_go_on : Stmt := inClass (top 40) 12
abbrev N_Table_go_on : List Str := ["self", "hand"]
abbrev P_Table_go_on : List Str := ["self"]
theorem sc_Table_go_on : FnScope N_Table_go_on P_Table_go_on (defScope s_Table_go_on) := ⟨rfl, rfl, rfl, by decide +kernel, rfl, by decide +kernel, by decide +kernel⟩
theorem b_Table_go_on {K : PySem.W.Frag} {f : Addr} {fd : FuncData} (F : Fun K "go_on" "Table.go_on" s_Table_go_on f fd) : Binds K fd P_Table_go_on [] := F.binds fun _ _ _ _ _ _ us hl => match us, hl with | [_], _ => rfl
abbrev s_Table_must_draw : Stmt := inClass (top 40) 13
abbrev N_Table_must_draw : List Str := ["self", "cards", "count"]
abbrev P_Table_must_draw : List Str := ["self", "cards"]
theorem sc_Table_must_draw : FnScope N_Table_must_draw P_Table_must_draw (defScope s_Table_must_draw) := ⟨rfl, rfl, rfl, by decide +kernel, rfl, by decide +kernel, by decide +kernel⟩
theorem b_Table_must_draw {K : PySem.W.Frag} {f : Addr} {fd : FuncData} (F : Fun K "must_draw" "Table.must_draw" s_Table_must_draw f fd) : Binds K fd P_Table_must_draw [] := F.binds fun _ _ _ _ _ _ us hl => match us, hl with | [_, _], _ => rfl
abbrev s_Table_pay : Stmt := inClass (top 40) 14
abbrev N_Table_pay : List Str := ["self", "seat"]
abbrev P_Table_pay : List Str := ["self"]
theorem sc_Table_pay : FnScope N_Table_pay P_Table_pay (defScope s_Table_pay) := ⟨rfl, rfl, rfl, by decide +kernel, rfl, by decide +kernel, by decide +kernel⟩
theorem b_Table_pay {K : PySem.W.Frag} {f : Addr} {fd : FuncData} (F : Fun K "pay" "Table.pay" s_Table_pay f fd) : Binds K fd P_Table_pay [] := F.binds fun _ _ _ _ _ _ us hl => match us, hl with | [_], _ => rfl
abbrev s_Table_insure : Stmt := inClass (top 40) 15
abbrev N_Table_insure : List Str := ["self", "at", "yes"]
abbrev P_Table_insure : List Str := ["self", "at", "yes"]
theorem sc_Table_insure : FnScope N_Table_insure P_Table_insure (defScope s_Table_insure) := ⟨rfl, rfl, rfl, by decide +kernel, rfl, by decide +kernel, by decide +kernel⟩
theorem b_Table_insure {K : PySem.W.Frag} {f : Addr} {fd : FuncData} (F : Fun K "insure" "Table.insure" s_Table_insure f fd) : Binds K fd P_Table_insure [] := F.binds fun _ _ _ _ _ _ us hl => match us, hl with | [_, _, _], _ => rfl
abbrev s_Table_asked : Stmt := inClass (top 40) 16
abbrev N_Table_asked : List Str := ["self", "at", "number"]
abbrev P_Table_asked : List Str := ["self"]
theorem sc_Table_asked : FnScope N_Table_asked P_Table_asked (defScope s_Table_asked) := ⟨rfl, rfl, rfl, by decide +kernel, rfl, by decide +kernel, by decide +kernel⟩
theorem b_Table_asked {K : PySem.W.Frag} {f : Addr} {fd : FuncData} (F : Fun K "asked" "Table.asked" s_Table_asked f fd) : Binds K fd P_Table_asked [] := F.binds fun _ _ _ _ _ _ us hl => match us, hl with | [_], _ => rfl
abbrev s_Table_counted : Stmt := inClass (top 40) 17
abbrev N_Table_counted : List Str := ["self", "hand"]
abbrev P_Table_counted : List Str := ["self", "hand"]
theorem sc_Table_counted : FnScope N_Table_counted P_Table_counted (defScope s_Table_counted) := ⟨rfl, rfl, rfl, by decide +kernel, rfl, by decide +kernel, by decide +kernel⟩
theorem b_Table_counted {K : PySem.W.Frag} {f : Addr} {fd : FuncData} (F : Fun K "counted" "Table.counted" s_Table_counted f fd) : Binds K fd P_Table_counted [] := F.binds fun _ _ _ _ _ _ us hl => match us, hl with | [_, _], _ => rfl
abbrev s_Table_hit : Stmt := inClass (top 40) 18
abbrev N_Table_hit : List Str := ["self", "card", "seat", "hand"]
abbrev P_Table_hit : List Str := ["self", "card"]
theorem sc_Table_hit : FnScope N_Table_hit P_Table_hit (defScope s_Table_hit) := ⟨rfl, rfl, rfl, by decide +kernel, rfl, by decide +kernel, by decide +kernel⟩
theorem b_Table_hit {K : PySem.W.Frag} {f : Addr} {fd : FuncData} (F : Fun K "hit" "Table.hit" s_Table_hit f fd) : Binds K fd P_Table_hit [] := F.binds fun _ _ _ _ _ _ us hl => match us, hl with | [_, _], _ => rfl
abbrev s_Table_stand : Stmt := inClass (top 40) 19
abbrev N_Table_stand : List Str := ["self", "seat", "hand"]
abbrev P_Table_stand : List Str := ["self"]
theorem sc_Table_stand : FnScope N_Table_stand P_Table_stand (defScope s_Table_stand) := ⟨rfl, rfl, rfl, by decide +kernel, rfl, by decide +kernel, by decide +kernel⟩
theorem b_Table_stand {K : PySem.W.Frag} {f : Addr} {fd : FuncData} (F : Fun K "stand" "Table.stand" s_Table_stand f fd) : Binds K fd P_Table_stand [] := F.binds fun _ _ _ _ _ _ us hl => match us, hl with | [_], _ => rfl
abbrev s_Table_double : Stmt := inClass (top 40) 20
abbrev N_Table_double : List Str := ["self", "card", "seat", "hand"]
abbrev P_Table_double : List Str := ["self", "card"]
theorem sc_Table_double : FnScope N_Table_double P_Table_double (defScope s_Table_double) := ⟨rfl, rfl, rfl, by decide +kernel, rfl, by decide +kernel, by decide +kernel⟩
theorem b_Table_double {K : PySem.W.Frag} {f : Addr} {fd : FuncData} (F : Fun K "double" "Table.double" s_Table_double f fd) : Binds K fd P_Table_double [] := F.binds fun _ _ _ _ _ _ us hl => match us, hl with | [_, _], _ => rfl
abbrev s_Table_part : Stmt := inClass (top 40) 21
abbrev N_Table_part : List Str := ["self", "first", "second", "seat", "hand", "at"]
abbrev P_Table_part : List Str := ["self", "first", "second"]
theorem sc_Table_part : FnScope N_Table_part P_Table_part (defScope s_Table_part) := ⟨rfl, rfl, rfl, by decide +kernel, rfl, by decide +kernel, by decide +kernel⟩
theorem b_Table_part {K : PySem.W.Frag} {f : Addr} {fd : FuncData} (F : Fun K "part" "Table.part" s_Table_part f fd) : Binds K fd P_Table_part [] := F.binds fun _ _ _ _ _ _ us hl => match us, hl with | [_, _, _], _ => rfl
abbrev s_Table_give : Stmt := inClass (top 40) 22
abbrev N_Table_give : List Str := ["self", "seat", "hand"]
abbrev P_Table_give : List Str := ["self"]
theorem sc_Table_give : FnScope N_Table_give P_Table_give (defScope s_Table_give) := ⟨rfl, rfl, rfl, by decide +kernel, rfl, by decide +kernel, by decide +kernel⟩
theorem b_Table_give {K : PySem.W.Frag} {f : Addr} {fd : FuncData} (F : Fun K "give" "Table.give" s_Table_give f fd) : Binds K fd P_Table_give [] := F.binds fun _ _ _ _ _ _ us hl => match us, hl with | [_], _ => rfl
abbrev s_Table_are_due : Stmt := inClass (top 40) 23
abbrev N_Table_are_due : List Str := ["self", "cards", "had", "card"]
abbrev P_Table_are_due : List Str := ["self", "cards"]
theorem sc_Table_are_due : FnScope N_Table_are_due P_Table_are_due (defScope s_Table_are_due) := ⟨rfl, rfl, rfl, by decide +kernel, rfl, by decide +kernel, by decide +kernel⟩
theorem b_Table_are_due {K : PySem.W.Frag} {f : Addr} {fd : FuncData} (F : Fun K "are_due" "Table.are_due" s_Table_are_due f fd) : Binds K fd P_Table_are_due [] := F.binds fun _ _ _ _ _ _ us hl => match us, hl with | [_, _], _ => rfl
abbrev s_Table_draw : Stmt := inClass (top 40) 24
abbrev N_Table_draw : List Str := ["self", "cards"]
abbrev P_Table_draw : List Str := ["self", "cards"]
theorem sc_Table_draw : FnScope N_Table_draw P_Table_draw (defScope s_Table_draw) := ⟨rfl, rfl, rfl, by decide +kernel, rfl, by decide +kernel, by decide +kernel⟩
theorem b_Table_draw {K : PySem.W.Frag} {f : Addr} {fd : FuncData} (F : Fun K "draw" "Table.draw" s_Table_draw f fd) : Binds K fd P_Table_draw [] := F.binds fun _ _ _ _ _ _ us hl => match us, hl with | [_, _], _ => rfl
abbrev s_Table_shuffle : Stmt := inClass (top 40) 25
abbrev N_Table_shuffle : List Str := ["self", "decks"]
abbrev P_Table_shuffle : List Str := ["self", "decks"]
theorem sc_Table_shuffle : FnScope N_Table_shuffle P_Table_shuffle (defScope s_Table_shuffle) := ⟨rfl, rfl, rfl, by decide +kernel, rfl, by decide +kernel, by decide +kernel⟩
theorem b_Table_shuffle {K : PySem.W.Frag} {f : Addr} {fd : FuncData} (F : Fun K "shuffle" "Table.shuffle" s_Table_shuffle f fd) : Binds K fd P_Table_shuffle [] := F.binds fun _ _ _ _ _ _ us hl => match us, hl with | [_, _], _ => rfl
abbrev s_Table_tell_seat : Stmt := inClass (top 40) 26
abbrev N_Table_tell_seat : List Str := ["self", "at"]
abbrev P_Table_tell_seat : List Str := ["self", "at"]
theorem sc_Table_tell_seat : FnScope N_Table_tell_seat P_Table_tell_seat (defScope s_Table_tell_seat) := ⟨rfl, rfl, rfl, by decide +kernel, rfl, by decide +kernel, by decide +kernel⟩
theorem b_Table_tell_seat {K : PySem.W.Frag} {f : Addr} {fd : FuncData} (F : Fun K "tell_seat" "Table.tell_seat" s_Table_tell_seat f fd) : Binds K fd P_Table_tell_seat [] := F.binds fun _ _ _ _ _ _ us hl => match us, hl with | [_, _], _ => rfl
abbrev s_Table_of_hand : Stmt := inClass (top 40) 27
abbrev N_Table_of_hand : List Str := ["self", "call", "numbers"]
abbrev P_Table_of_hand : List Str := ["self", "call", "numbers"]
theorem sc_Table_of_hand : FnScope N_Table_of_hand P_Table_of_hand (defScope s_Table_of_hand) := ⟨rfl, rfl, rfl, by decide +kernel, rfl, by decide +kernel, by decide +kernel⟩
theorem b_Table_of_hand {K : PySem.W.Frag} {f : Addr} {fd : FuncData} (F : Fun K "of_hand" "Table.of_hand" s_Table_of_hand f fd) : Binds K fd P_Table_of_hand [] := F.binds fun _ _ _ _ _ _ us hl => match us, hl with | [_, _, _], _ => rfl
abbrev s_Table_telling : Stmt := inClass (top 40) 28
abbrev N_Table_telling : List Str := ["self", "call", "numbers"]
abbrev P_Table_telling : List Str := ["self", "call", "numbers"]
theorem sc_Table_telling : FnScope N_Table_telling P_Table_telling (defScope s_Table_telling) := ⟨rfl, rfl, rfl, by decide +kernel, rfl, by decide +kernel, by decide +kernel⟩
theorem b_Table_telling {K : PySem.W.Frag} {f : Addr} {fd : FuncData} (F : Fun K "telling" "Table.telling" s_Table_telling f fd) : Binds K fd P_Table_telling [] := F.binds fun _ _ _ _ _ _ us hl => match us, hl with | [_, _, _], _ => rfl
abbrev s_Table_by_call : Stmt := inClass (top 40) 29
abbrev N_Table_by_call : List Str := ["self", "call", "numbers", "rows"]
abbrev P_Table_by_call : List Str := ["self", "call", "numbers", "rows"]
theorem sc_Table_by_call : FnScope N_Table_by_call P_Table_by_call (defScope s_Table_by_call) := ⟨rfl, rfl, rfl, by decide +kernel, rfl, by decide +kernel, by decide +kernel⟩
theorem b_Table_by_call {K : PySem.W.Frag} {f : Addr} {fd : FuncData} (F : Fun K "by_call" "Table.by_call" s_Table_by_call f fd) : Binds K fd P_Table_by_call [] := F.binds fun _ _ _ _ _ _ us hl => match us, hl with | [_, _, _, _], _ => rfl
abbrev s_Table_answer : Stmt := inClass (top 40) 30
abbrev N_Table_answer : List Str := ["self", "call", "numbers", "rows", "e"]
abbrev P_Table_answer : List Str := ["self", "call", "numbers", "rows"]
theorem sc_Table_answer : FnScope N_Table_answer P_Table_answer (defScope s_Table_answer) := ⟨rfl, rfl, rfl, by decide +kernel, rfl, by decide +kernel, by decide +kernel⟩
theorem b_Table_answer {K : PySem.W.Frag} {f : Addr} {fd : FuncData} (F : Fun K "answer" "Table.answer" s_Table_answer f fd) : Binds K fd P_Table_answer [] := F.binds fun _ _ _ _ _ _ us hl => match us, hl with | [_, _, _, _], _ => rfl
abbrev s_answers : Stmt := top 41
abbrev N_answers : List Str := ["calls", "table", "found", "at", "call", "many", "lists", "numbers", "rows", "k", "answer"]
abbrev P_answers : List Str := ["calls"]
theorem sc_answers : FnScope N_answers P_answers (defScope s_answers) := ⟨rfl, rfl, rfl, by decide +kernel, rfl, by decide +kernel, by decide +kernel⟩
theorem b_answers {K : PySem.W.Frag} {f : Addr} {fd : FuncData} (F : Fun K "answers" "answers" s_answers f fd) : Binds K fd P_answers [] := F.binds fun _ _ _ _ _ _ us hl => match us, hl with | [_], _ => rfl
theorem lk_here {k : Str} {v : V} {r : List (Str × V)} : List.lookup k ((k, v) :: r) = some v := by
  have e : (k == k) = true := beq_self_eq_true k
  simp only [List.lookup, e]
theorem lk_past {k g : Str} {v : V} {r : List (Str × V)} (h : (k == g) = false) : List.lookup k ((g, v) :: r) = List.lookup k r := by
  simp only [List.lookup, h]
theorem put_here {f : Str} {v x : V} {r : List (Str × V)} : putF f v ((f, x) :: r) = (f, v) :: r := if_pos rfl
theorem put_past {f g : Str} {v x : V} {r : List (Str × V)} (h : ¬ g = f) : putF f v ((g, x) :: r) = (g, x) :: putF f v r := if_neg h
theorem lk_none : ∀ {r : List (Str × V)} {m : Str}, ((r.map Prod.fst).all fun k => !(m == k)) = true → List.lookup m r = none
  | [], _, _ => rfl
  | (g, v) :: r, m, h => by
    simp only [List.map_cons, List.all_cons, Bool.and_eq_true, Bool.not_eq_true'] at h
    rw [lk_past h.1]
    exact lk_none h.2
def handF (l : Addr) (st : Int) (sp : Bool) (z : Int) : List (Str × V) := [("cards", .ref l), ("stake", .int st), ("of_split", .bl sp), ("state", .int z)]
section
variable {l : Addr} {st : Int} {sp : Bool} {z : Int}
theorem handF_cards : (handF l st sp z).lookup ("cards" : Str) = some (.ref l) := lk_here
theorem handF_stake : (handF l st sp z).lookup ("stake" : Str) = some (.int st) := (lk_past (by decide +kernel)).trans (lk_here)
theorem handF_of_split : (handF l st sp z).lookup ("of_split" : Str) = some (.bl sp) := (lk_past (by decide +kernel)).trans ((lk_past (by decide +kernel)).trans (lk_here))
theorem handF_state : (handF l st sp z).lookup ("state" : Str) = some (.int z) := (lk_past (by decide +kernel)).trans ((lk_past (by decide +kernel)).trans ((lk_past (by decide +kernel)).trans (lk_here)))
theorem handF_put_cards {l' : Addr} : putF "cards" (.ref l') (handF l st sp z) = handF l' st sp z := put_here
theorem handF_put_stake {st' : Int} : putF "stake" (.int st') (handF l st sp z) = handF l st' sp z := (put_past (by decide +kernel)).trans (congrArg (List.cons _) (put_here))
theorem handF_put_of_split {sp' : Bool} : putF "of_split" (.bl sp') (handF l st sp z) = handF l st sp' z := (put_past (by decide +kernel)).trans (congrArg (List.cons _) ((put_past (by decide +kernel)).trans (congrArg (List.cons _) (put_here))))
theorem handF_put_state {z' : Int} : putF "state" (.int z') (handF l st sp z) = handF l st sp z' := (put_past (by decide +kernel)).trans (congrArg (List.cons _) ((put_past (by decide +kernel)).trans (congrArg (List.cons _) ((put_past (by decide +kernel)).trans (congrArg (List.cons _) (put_here))))))
theorem handF_new : (putF "state" (.int z) (putF "of_split" (.bl sp) (putF "stake" (.int st) (putF "cards" (.ref l) [])))) = handF l st sp z := by
  simp only [putF, handF]
  all_goals first | rfl | (repeat rw [if_neg (by decide +kernel)]) <;> rfl
theorem handF_no_settle : (handF l st sp z).lookup ("settle" : Str) = none := lk_none (show ((["cards", "stake", "of_split", "state"] : List Str).all fun k => !(("settle" : Str) == k)) = true from by decide +kernel)
theorem handF_no_end : (handF l st sp z).lookup ("end" : Str) = none := lk_none (show ((["cards", "stake", "of_split", "state"] : List Str).all fun k => !(("end" : Str) == k)) = true from by decide +kernel)
theorem handF_no_is_pair : (handF l st sp z).lookup ("is_pair" : Str) = none := lk_none (show ((["cards", "stake", "of_split", "state"] : List Str).all fun k => !(("is_pair" : Str) == k)) = true from by decide +kernel)
theorem handF_no_wins_more : (handF l st sp z).lookup ("wins_more" : Str) = none := lk_none (show ((["cards", "stake", "of_split", "state"] : List Str).all fun k => !(("wins_more" : Str) == k)) = true from by decide +kernel)
theorem handF_no_asks_dealer : (handF l st sp z).lookup ("asks_dealer" : Str) = none := lk_none (show ((["cards", "stake", "of_split", "state"] : List Str).all fun k => !(("asks_dealer" : Str) == k)) = true from by decide +kernel)
theorem handF_no_paid : (handF l st sp z).lookup ("paid" : Str) = none := lk_none (show ((["cards", "stake", "of_split", "state"] : List Str).all fun k => !(("paid" : Str) == k)) = true from by decide +kernel)
theorem handF_no_paid_by_count : (handF l st sp z).lookup ("paid_by_count" : Str) = none := lk_none (show ((["cards", "stake", "of_split", "state"] : List Str).all fun k => !(("paid_by_count" : Str) == k)) = true from by decide +kernel)
theorem handF_no_told : (handF l st sp z).lookup ("told" : Str) = none := lk_none (show ((["cards", "stake", "of_split", "state"] : List Str).all fun k => !(("told" : Str) == k)) = true from by decide +kernel)
theorem handF_len : (handF l st sp z).length < 1000 := (by decide : 4 < 1000)
end
def seatF (st : Int) (ins : Int) (won : Int) (l : Addr) : List (Str × V) := [("stake", .int st), ("insured", .int ins), ("won", .int won), ("hands", .ref l)]
section
variable {st : Int} {ins : Int} {won : Int} {l : Addr}
theorem seatF_stake : (seatF st ins won l).lookup ("stake" : Str) = some (.int st) := lk_here
theorem seatF_insured : (seatF st ins won l).lookup ("insured" : Str) = some (.int ins) := (lk_past (by decide +kernel)).trans (lk_here)
theorem seatF_won : (seatF st ins won l).lookup ("won" : Str) = some (.int won) := (lk_past (by decide +kernel)).trans ((lk_past (by decide +kernel)).trans (lk_here))
theorem seatF_hands : (seatF st ins won l).lookup ("hands" : Str) = some (.ref l) := (lk_past (by decide +kernel)).trans ((lk_past (by decide +kernel)).trans ((lk_past (by decide +kernel)).trans (lk_here)))
theorem seatF_put_stake {st' : Int} : putF "stake" (.int st') (seatF st ins won l) = seatF st' ins won l := put_here
theorem seatF_put_insured {ins' : Int} : putF "insured" (.int ins') (seatF st ins won l) = seatF st ins' won l := (put_past (by decide +kernel)).trans (congrArg (List.cons _) (put_here))
theorem seatF_put_won {won' : Int} : putF "won" (.int won') (seatF st ins won l) = seatF st ins won' l := (put_past (by decide +kernel)).trans (congrArg (List.cons _) ((put_past (by decide +kernel)).trans (congrArg (List.cons _) (put_here))))
theorem seatF_put_hands {l' : Addr} : putF "hands" (.ref l') (seatF st ins won l) = seatF st ins won l' := (put_past (by decide +kernel)).trans (congrArg (List.cons _) ((put_past (by decide +kernel)).trans (congrArg (List.cons _) ((put_past (by decide +kernel)).trans (congrArg (List.cons _) (put_here))))))
theorem seatF_new : (putF "hands" (.ref l) (putF "won" (.int won) (putF "insured" (.int ins) (putF "stake" (.int st) [])))) = seatF st ins won l := by
  simp only [putF, seatF]
  all_goals first | rfl | (repeat rw [if_neg (by decide +kernel)]) <;> rfl
theorem seatF_no_clear_round : (seatF st ins won l).lookup ("clear_round" : Str) = none := lk_none (show ((["stake", "insured", "won", "hands"] : List Str).all fun k => !(("clear_round" : Str) == k)) = true from by decide +kernel)
theorem seatF_no_pay : (seatF st ins won l).lookup ("pay" : Str) = none := lk_none (show ((["stake", "insured", "won", "hands"] : List Str).all fun k => !(("pay" : Str) == k)) = true from by decide +kernel)
theorem seatF_no_numbers : (seatF st ins won l).lookup ("numbers" : Str) = none := lk_none (show ((["stake", "insured", "won", "hands"] : List Str).all fun k => !(("numbers" : Str) == k)) = true from by decide +kernel)
theorem seatF_len : (seatF st ins won l).length < 1000 := (by decide : 4 < 1000)
end
def shoeF (l : Addr) : List (Str × V) := [("left", .ref l)]
section
variable {l : Addr}
theorem shoeF_left : (shoeF l).lookup ("left" : Str) = some (.ref l) := lk_here
theorem shoeF_put_left {l' : Addr} : putF "left" (.ref l') (shoeF l) = shoeF l' := put_here
theorem shoeF_new : (putF "left" (.ref l) []) = shoeF l := by
  simp only [putF, shoeF]
  all_goals first | rfl | (repeat rw [if_neg (by decide +kernel)]) <;> rfl
theorem shoeF_no_many : (shoeF l).lookup ("many" : Str) = none := lk_none (show ((["left"] : List Str).all fun k => !(("many" : Str) == k)) = true from by decide +kernel)
theorem shoeF_no_has_all : (shoeF l).lookup ("has_all" : Str) = none := lk_none (show ((["left"] : List Str).all fun k => !(("has_all" : Str) == k)) = true from by decide +kernel)
theorem shoeF_no_take : (shoeF l).lookup ("take" : Str) = none := lk_none (show ((["left"] : List Str).all fun k => !(("take" : Str) == k)) = true from by decide +kernel)
theorem shoeF_len : (shoeF l).length < 1000 := (by decide : 1 < 1000)
end
def tabF (ls : Addr) (sh : Addr) (dl : Addr) (ph : Int) (b1 : Bool) (b2 : Bool) (b3 : Bool) (mo : Int) : List (Str × V) := [("seats", .ref ls), ("shoe", .ref sh), ("dealer", .ref dl), ("phase", .int ph), ("draws_soft", .bl b1), ("doubles_split", .bl b2), ("gives", .bl b3), ("most_hands", .int mo)]
section
variable {ls : Addr} {sh : Addr} {dl : Addr} {ph : Int} {b1 : Bool} {b2 : Bool} {b3 : Bool} {mo : Int}
theorem tabF_seats : (tabF ls sh dl ph b1 b2 b3 mo).lookup ("seats" : Str) = some (.ref ls) := lk_here
theorem tabF_shoe : (tabF ls sh dl ph b1 b2 b3 mo).lookup ("shoe" : Str) = some (.ref sh) := (lk_past (by decide +kernel)).trans (lk_here)
theorem tabF_dealer : (tabF ls sh dl ph b1 b2 b3 mo).lookup ("dealer" : Str) = some (.ref dl) := (lk_past (by decide +kernel)).trans ((lk_past (by decide +kernel)).trans (lk_here))
theorem tabF_phase : (tabF ls sh dl ph b1 b2 b3 mo).lookup ("phase" : Str) = some (.int ph) := (lk_past (by decide +kernel)).trans ((lk_past (by decide +kernel)).trans ((lk_past (by decide +kernel)).trans (lk_here)))
theorem tabF_draws_soft : (tabF ls sh dl ph b1 b2 b3 mo).lookup ("draws_soft" : Str) = some (.bl b1) := (lk_past (by decide +kernel)).trans ((lk_past (by decide +kernel)).trans ((lk_past (by decide +kernel)).trans ((lk_past (by decide +kernel)).trans (lk_here))))
theorem tabF_doubles_split : (tabF ls sh dl ph b1 b2 b3 mo).lookup ("doubles_split" : Str) = some (.bl b2) := (lk_past (by decide +kernel)).trans ((lk_past (by decide +kernel)).trans ((lk_past (by decide +kernel)).trans ((lk_past (by decide +kernel)).trans ((lk_past (by decide +kernel)).trans (lk_here)))))
theorem tabF_gives : (tabF ls sh dl ph b1 b2 b3 mo).lookup ("gives" : Str) = some (.bl b3) := (lk_past (by decide +kernel)).trans ((lk_past (by decide +kernel)).trans ((lk_past (by decide +kernel)).trans ((lk_past (by decide +kernel)).trans ((lk_past (by decide +kernel)).trans ((lk_past (by decide +kernel)).trans (lk_here))))))
theorem tabF_most_hands : (tabF ls sh dl ph b1 b2 b3 mo).lookup ("most_hands" : Str) = some (.int mo) := (lk_past (by decide +kernel)).trans ((lk_past (by decide +kernel)).trans ((lk_past (by decide +kernel)).trans ((lk_past (by decide +kernel)).trans ((lk_past (by decide +kernel)).trans ((lk_past (by decide +kernel)).trans ((lk_past (by decide +kernel)).trans (lk_here)))))))
theorem tabF_put_seats {ls' : Addr} : putF "seats" (.ref ls') (tabF ls sh dl ph b1 b2 b3 mo) = tabF ls' sh dl ph b1 b2 b3 mo := put_here
theorem tabF_put_shoe {sh' : Addr} : putF "shoe" (.ref sh') (tabF ls sh dl ph b1 b2 b3 mo) = tabF ls sh' dl ph b1 b2 b3 mo := (put_past (by decide +kernel)).trans (congrArg (List.cons _) (put_here))
theorem tabF_put_dealer {dl' : Addr} : putF "dealer" (.ref dl') (tabF ls sh dl ph b1 b2 b3 mo) = tabF ls sh dl' ph b1 b2 b3 mo := (put_past (by decide +kernel)).trans (congrArg (List.cons _) ((put_past (by decide +kernel)).trans (congrArg (List.cons _) (put_here))))
theorem tabF_put_phase {ph' : Int} : putF "phase" (.int ph') (tabF ls sh dl ph b1 b2 b3 mo) = tabF ls sh dl ph' b1 b2 b3 mo := (put_past (by decide +kernel)).trans (congrArg (List.cons _) ((put_past (by decide +kernel)).trans (congrArg (List.cons _) ((put_past (by decide +kernel)).trans (congrArg (List.cons _) (put_here))))))
theorem tabF_put_draws_soft {b1' : Bool} : putF "draws_soft" (.bl b1') (tabF ls sh dl ph b1 b2 b3 mo) = tabF ls sh dl ph b1' b2 b3 mo := (put_past (by decide +kernel)).trans (congrArg (List.cons _) ((put_past (by decide +kernel)).trans (congrArg (List.cons _) ((put_past (by decide +kernel)).trans (congrArg (List.cons _) ((put_past (by decide +kernel)).trans (congrArg (List.cons _) (put_here))))))))
theorem tabF_put_doubles_split {b2' : Bool} : putF "doubles_split" (.bl b2') (tabF ls sh dl ph b1 b2 b3 mo) = tabF ls sh dl ph b1 b2' b3 mo := (put_past (by decide +kernel)).trans (congrArg (List.cons _) ((put_past (by decide +kernel)).trans (congrArg (List.cons _) ((put_past (by decide +kernel)).trans (congrArg (List.cons _) ((put_past (by decide +kernel)).trans (congrArg (List.cons _) ((put_past (by decide +kernel)).trans (congrArg (List.cons _) (put_here))))))))))
theorem tabF_put_gives {b3' : Bool} : putF "gives" (.bl b3') (tabF ls sh dl ph b1 b2 b3 mo) = tabF ls sh dl ph b1 b2 b3' mo := (put_past (by decide +kernel)).trans (congrArg (List.cons _) ((put_past (by decide +kernel)).trans (congrArg (List.cons _) ((put_past (by decide +kernel)).trans (congrArg (List.cons _) ((put_past (by decide +kernel)).trans (congrArg (List.cons _) ((put_past (by decide +kernel)).trans (congrArg (List.cons _) ((put_past (by decide +kernel)).trans (congrArg (List.cons _) (put_here))))))))))))
theorem tabF_put_most_hands {mo' : Int} : putF "most_hands" (.int mo') (tabF ls sh dl ph b1 b2 b3 mo) = tabF ls sh dl ph b1 b2 b3 mo' := (put_past (by decide +kernel)).trans (congrArg (List.cons _) ((put_past (by decide +kernel)).trans (congrArg (List.cons _) ((put_past (by decide +kernel)).trans (congrArg (List.cons _) ((put_past (by decide +kernel)).trans (congrArg (List.cons _) ((put_past (by decide +kernel)).trans (congrArg (List.cons _) ((put_past (by decide +kernel)).trans (congrArg (List.cons _) ((put_past (by decide +kernel)).trans (congrArg (List.cons _) (put_here))))))))))))))
theorem tabF_new : (putF "most_hands" (.int mo) (putF "gives" (.bl b3) (putF "doubles_split" (.bl b2) (putF "draws_soft" (.bl b1) (putF "phase" (.int ph) (putF "dealer" (.ref dl) (putF "shoe" (.ref sh) (putF "seats" (.ref ls) [])))))))) = tabF ls sh dl ph b1 b2 b3 mo := by
  simp only [putF, tabF]
  all_goals first | rfl | (repeat rw [if_neg (by decide +kernel)]) <;> rfl
theorem tabF_no_is_seat : (tabF ls sh dl ph b1 b2 b3 mo).lookup ("is_seat" : Str) = none := lk_none (show ((["seats", "shoe", "dealer", "phase", "draws_soft", "doubles_split", "gives", "most_hands"] : List Str).all fun k => !(("is_seat" : Str) == k)) = true from by decide +kernel)
theorem tabF_no_playing : (tabF ls sh dl ph b1 b2 b3 mo).lookup ("playing" : Str) = none := lk_none (show ((["seats", "shoe", "dealer", "phase", "draws_soft", "doubles_split", "gives", "most_hands"] : List Str).all fun k => !(("playing" : Str) == k)) = true from by decide +kernel)
theorem tabF_no_all_hands : (tabF ls sh dl ph b1 b2 b3 mo).lookup ("all_hands" : Str) = none := lk_none (show ((["seats", "shoe", "dealer", "phase", "draws_soft", "doubles_split", "gives", "most_hands"] : List Str).all fun k => !(("all_hands" : Str) == k)) = true from by decide +kernel)
theorem tabF_no_turn : (tabF ls sh dl ph b1 b2 b3 mo).lookup ("turn" : Str) = none := lk_none (show ((["seats", "shoe", "dealer", "phase", "draws_soft", "doubles_split", "gives", "most_hands"] : List Str).all fun k => !(("turn" : Str) == k)) = true from by decide +kernel)
theorem tabF_no_stands : (tabF ls sh dl ph b1 b2 b3 mo).lookup ("stands" : Str) = none := lk_none (show ((["seats", "shoe", "dealer", "phase", "draws_soft", "doubles_split", "gives", "most_hands"] : List Str).all fun k => !(("stands" : Str) == k)) = true from by decide +kernel)
theorem tabF_no_must_phase : (tabF ls sh dl ph b1 b2 b3 mo).lookup ("must_phase" : Str) = none := lk_none (show ((["seats", "shoe", "dealer", "phase", "draws_soft", "doubles_split", "gives", "most_hands"] : List Str).all fun k => !(("must_phase" : Str) == k)) = true from by decide +kernel)
theorem tabF_no_take : (tabF ls sh dl ph b1 b2 b3 mo).lookup ("take" : Str) = none := lk_none (show ((["seats", "shoe", "dealer", "phase", "draws_soft", "doubles_split", "gives", "most_hands"] : List Str).all fun k => !(("take" : Str) == k)) = true from by decide +kernel)
theorem tabF_no_begin : (tabF ls sh dl ph b1 b2 b3 mo).lookup ("begin" : Str) = none := lk_none (show ((["seats", "shoe", "dealer", "phase", "draws_soft", "doubles_split", "gives", "most_hands"] : List Str).all fun k => !(("begin" : Str) == k)) = true from by decide +kernel)
theorem tabF_no_lay_stake : (tabF ls sh dl ph b1 b2 b3 mo).lookup ("lay_stake" : Str) = none := lk_none (show ((["seats", "shoe", "dealer", "phase", "draws_soft", "doubles_split", "gives", "most_hands"] : List Str).all fun k => !(("lay_stake" : Str) == k)) = true from by decide +kernel)
theorem tabF_no_deal : (tabF ls sh dl ph b1 b2 b3 mo).lookup ("deal" : Str) = none := lk_none (show ((["seats", "shoe", "dealer", "phase", "draws_soft", "doubles_split", "gives", "most_hands"] : List Str).all fun k => !(("deal" : Str) == k)) = true from by decide +kernel)
theorem tabF_no_look : (tabF ls sh dl ph b1 b2 b3 mo).lookup ("look" : Str) = none := lk_none (show ((["seats", "shoe", "dealer", "phase", "draws_soft", "doubles_split", "gives", "most_hands"] : List Str).all fun k => !(("look" : Str) == k)) = true from by decide +kernel)
theorem tabF_no_go_on : (tabF ls sh dl ph b1 b2 b3 mo).lookup ("go_on" : Str) = none := lk_none (show ((["seats", "shoe", "dealer", "phase", "draws_soft", "doubles_split", "gives", "most_hands"] : List Str).all fun k => !(("go_on" : Str) == k)) = true from by decide +kernel)
theorem tabF_no_must_draw : (tabF ls sh dl ph b1 b2 b3 mo).lookup ("must_draw" : Str) = none := lk_none (show ((["seats", "shoe", "dealer", "phase", "draws_soft", "doubles_split", "gives", "most_hands"] : List Str).all fun k => !(("must_draw" : Str) == k)) = true from by decide +kernel)
theorem tabF_no_pay : (tabF ls sh dl ph b1 b2 b3 mo).lookup ("pay" : Str) = none := lk_none (show ((["seats", "shoe", "dealer", "phase", "draws_soft", "doubles_split", "gives", "most_hands"] : List Str).all fun k => !(("pay" : Str) == k)) = true from by decide +kernel)
theorem tabF_no_insure : (tabF ls sh dl ph b1 b2 b3 mo).lookup ("insure" : Str) = none := lk_none (show ((["seats", "shoe", "dealer", "phase", "draws_soft", "doubles_split", "gives", "most_hands"] : List Str).all fun k => !(("insure" : Str) == k)) = true from by decide +kernel)
theorem tabF_no_asked : (tabF ls sh dl ph b1 b2 b3 mo).lookup ("asked" : Str) = none := lk_none (show ((["seats", "shoe", "dealer", "phase", "draws_soft", "doubles_split", "gives", "most_hands"] : List Str).all fun k => !(("asked" : Str) == k)) = true from by decide +kernel)
theorem tabF_no_counted : (tabF ls sh dl ph b1 b2 b3 mo).lookup ("counted" : Str) = none := lk_none (show ((["seats", "shoe", "dealer", "phase", "draws_soft", "doubles_split", "gives", "most_hands"] : List Str).all fun k => !(("counted" : Str) == k)) = true from by decide +kernel)
theorem tabF_no_hit : (tabF ls sh dl ph b1 b2 b3 mo).lookup ("hit" : Str) = none := lk_none (show ((["seats", "shoe", "dealer", "phase", "draws_soft", "doubles_split", "gives", "most_hands"] : List Str).all fun k => !(("hit" : Str) == k)) = true from by decide +kernel)
theorem tabF_no_stand : (tabF ls sh dl ph b1 b2 b3 mo).lookup ("stand" : Str) = none := lk_none (show ((["seats", "shoe", "dealer", "phase", "draws_soft", "doubles_split", "gives", "most_hands"] : List Str).all fun k => !(("stand" : Str) == k)) = true from by decide +kernel)
theorem tabF_no_double : (tabF ls sh dl ph b1 b2 b3 mo).lookup ("double" : Str) = none := lk_none (show ((["seats", "shoe", "dealer", "phase", "draws_soft", "doubles_split", "gives", "most_hands"] : List Str).all fun k => !(("double" : Str) == k)) = true from by decide +kernel)
theorem tabF_no_part : (tabF ls sh dl ph b1 b2 b3 mo).lookup ("part" : Str) = none := lk_none (show ((["seats", "shoe", "dealer", "phase", "draws_soft", "doubles_split", "gives", "most_hands"] : List Str).all fun k => !(("part" : Str) == k)) = true from by decide +kernel)
theorem tabF_no_give : (tabF ls sh dl ph b1 b2 b3 mo).lookup ("give" : Str) = none := lk_none (show ((["seats", "shoe", "dealer", "phase", "draws_soft", "doubles_split", "gives", "most_hands"] : List Str).all fun k => !(("give" : Str) == k)) = true from by decide +kernel)
theorem tabF_no_are_due : (tabF ls sh dl ph b1 b2 b3 mo).lookup ("are_due" : Str) = none := lk_none (show ((["seats", "shoe", "dealer", "phase", "draws_soft", "doubles_split", "gives", "most_hands"] : List Str).all fun k => !(("are_due" : Str) == k)) = true from by decide +kernel)
theorem tabF_no_draw : (tabF ls sh dl ph b1 b2 b3 mo).lookup ("draw" : Str) = none := lk_none (show ((["seats", "shoe", "dealer", "phase", "draws_soft", "doubles_split", "gives", "most_hands"] : List Str).all fun k => !(("draw" : Str) == k)) = true from by decide +kernel)
theorem tabF_no_shuffle : (tabF ls sh dl ph b1 b2 b3 mo).lookup ("shuffle" : Str) = none := lk_none (show ((["seats", "shoe", "dealer", "phase", "draws_soft", "doubles_split", "gives", "most_hands"] : List Str).all fun k => !(("shuffle" : Str) == k)) = true from by decide +kernel)
theorem tabF_no_tell_seat : (tabF ls sh dl ph b1 b2 b3 mo).lookup ("tell_seat" : Str) = none := lk_none (show ((["seats", "shoe", "dealer", "phase", "draws_soft", "doubles_split", "gives", "most_hands"] : List Str).all fun k => !(("tell_seat" : Str) == k)) = true from by decide +kernel)
theorem tabF_no_of_hand : (tabF ls sh dl ph b1 b2 b3 mo).lookup ("of_hand" : Str) = none := lk_none (show ((["seats", "shoe", "dealer", "phase", "draws_soft", "doubles_split", "gives", "most_hands"] : List Str).all fun k => !(("of_hand" : Str) == k)) = true from by decide +kernel)
theorem tabF_no_telling : (tabF ls sh dl ph b1 b2 b3 mo).lookup ("telling" : Str) = none := lk_none (show ((["seats", "shoe", "dealer", "phase", "draws_soft", "doubles_split", "gives", "most_hands"] : List Str).all fun k => !(("telling" : Str) == k)) = true from by decide +kernel)
theorem tabF_no_by_call : (tabF ls sh dl ph b1 b2 b3 mo).lookup ("by_call" : Str) = none := lk_none (show ((["seats", "shoe", "dealer", "phase", "draws_soft", "doubles_split", "gives", "most_hands"] : List Str).all fun k => !(("by_call" : Str) == k)) = true from by decide +kernel)
theorem tabF_no_answer : (tabF ls sh dl ph b1 b2 b3 mo).lookup ("answer" : Str) = none := lk_none (show ((["seats", "shoe", "dealer", "phase", "draws_soft", "doubles_split", "gives", "most_hands"] : List Str).all fun k => !(("answer" : Str) == k)) = true from by decide +kernel)
theorem tabF_len : (tabF ls sh dl ph b1 b2 b3 mo).length < 1000 := (by decide : 8 < 1000)
end
def shapes : List (Int × Int) := [(0, 0), (6, 0), (2, 0), (0, 1), (2, 0), (1, 0), (0, 0), (1, 0), (2, 0), (0, 0), (0, 1), (1, 0), (0, 0), (1, 0), (0, 0)]
def shapeN (i : Nat) : Int := (shapes.getD i (0, 0)).1
def shapeR (i : Nat) : Int := (shapes.getD i (0, 0)).2
structure Adr where
  H : Addr
  S : Addr
  O : Addr
  T : Addr
  R : Addr
  FR : Addr
  SH : Addr
structure Txt (K : PySem.W.Frag) (mg : Str → Option Value) (C : Adr) : Prop where
  ref : PySem.RefX.RefTxt K mg C.R C.FR
  clH : Cls K C.H
  nH_cards : NoAttr K C.H "cards"
  nH_stake : NoAttr K C.H "stake"
  nH_of_split : NoAttr K C.H "of_split"
  nH_state : NoAttr K C.H "state"
  clS : Cls K C.S
  nS_stake : NoAttr K C.S "stake"
  nS_insured : NoAttr K C.S "insured"
  nS_won : NoAttr K C.S "won"
  nS_hands : NoAttr K C.S "hands"
  clO : Cls K C.O
  nO_left : NoAttr K C.O "left"
  clT : Cls K C.T
  nT_seats : NoAttr K C.T "seats"
  nT_shoe : NoAttr K C.T "shoe"
  nT_dealer : NoAttr K C.T "dealer"
  nT_phase : NoAttr K C.T "phase"
  nT_draws_soft : NoAttr K C.T "draws_soft"
  nT_doubles_split : NoAttr K C.T "doubles_split"
  nT_gives : NoAttr K C.T "gives"
  nT_most_hands : NoAttr K C.T "most_hands"
  g_ACE : ∃ t, mg "ACE" = some (.int 1 t)
  g_SORTS : ∃ t, mg "SORTS" = some (.int 13 t)
  g_MOST_WORTH : ∃ t, mg "MOST_WORTH" = some (.int 10 t)
  g_MOST_SOFT : ∃ t, mg "MOST_SOFT" = some (.int 11 t)
  g_GOAL : ∃ t, mg "GOAL" = some (.int 21 t)
  g_IN_PLAY : ∃ t, mg "IN_PLAY" = some (.int 0 t)
  g_STANDS : ∃ t, mg "STANDS" = some (.int 1 t)
  g_BEYOND : ∃ t, mg "BEYOND" = some (.int 2 t)
  g_GIVEN_UP : ∃ t, mg "GIVEN_UP" = some (.int 3 t)
  g_IN_DECK : ∃ t, mg "IN_DECK" = some (.int 4 t)
  g_STAKES : ∃ t, mg "STAKES" = some (.int 0 t)
  g_INSURANCE : ∃ t, mg "INSURANCE" = some (.int 1 t)
  g_HANDS : ∃ t, mg "HANDS" = some (.int 2 t)
  g_DEALER : ∃ t, mg "DEALER" = some (.int 3 t)
  g_PAID : ∃ t, mg "PAID" = some (.int 4 t)
  g_MOST_SEATS : ∃ t, mg "MOST_SEATS" = some (.int 7 t)
  g_MOST_DECKS : ∃ t, mg "MOST_DECKS" = some (.int 8 t)
  g_MOST_HANDS : ∃ t, mg "MOST_HANDS" = some (.int 4 t)
  g_MOST_STAKE : ∃ t, mg "MOST_STAKE" = some (.int 1000 t)
  g_DEALER_STANDS : ∃ t, mg "DEALER_STANDS" = some (.int 17 t)
  g_SHAPES : mg "SHAPES" = some (.ref C.SH)
  SHAPES : ∀ (H : Hp) (i : Nat), 1 ≤ i → i ≤ 14 → ∃ (xs : List V) (p : Addr), SqT K H C.SH xs ∧ xs[i]? = some (.ref p) ∧ SqT K H p [.int (shapeN i), .int (shapeR i)]
  z_all : mg "all" = none
  z_sum : mg "sum" = none
  z_min : mg "min" = none
  z_len : mg "len" = none
  z_any : mg "any" = none
  z_zip : mg "zip" = none
  z_int : mg "int" = none
  z_range : mg "range" = none
  z_list : mg "list" = none
  z_enumerate : mg "enumerate" = none
  d_is_card : DefAt K mg "is_card" s_is_card
  d_are_cards : DefAt K mg "are_cards" s_are_cards
  d_worth_of : DefAt K mg "worth_of" s_worth_of
  d_hard_count : DefAt K mg "hard_count" s_hard_count
  d_is_soft : DefAt K mg "is_soft" s_is_soft
  d_count_of : DefAt K mg "count_of" s_count_of
  d_is_natural : DefAt K mg "is_natural" s_is_natural
  d_must : DefAt K mg "must" s_must
  k_Hand_init : MakeAt K mg C.H "Hand" "Hand.__init__" s_Hand_init
  m_Hand_settle : MethAt K C.H "settle" "Hand.settle" s_Hand_settle
  m_Hand_end : MethAt K C.H "end" "Hand.end" s_Hand_end
  m_Hand_is_pair : MethAt K C.H "is_pair" "Hand.is_pair" s_Hand_is_pair
  m_Hand_wins_more : MethAt K C.H "wins_more" "Hand.wins_more" s_Hand_wins_more
  m_Hand_asks_dealer : MethAt K C.H "asks_dealer" "Hand.asks_dealer" s_Hand_asks_dealer
  m_Hand_paid : MethAt K C.H "paid" "Hand.paid" s_Hand_paid
  m_Hand_paid_by_count : MethAt K C.H "paid_by_count" "Hand.paid_by_count" s_Hand_paid_by_count
  m_Hand_told : MethAt K C.H "told" "Hand.told" s_Hand_told
  d_split_hands : DefAt K mg "split_hands" s_split_hands
  k_Seat_init : MakeAt K mg C.S "Seat" "Seat.__init__" s_Seat_init
  m_Seat_clear_round : MethAt K C.S "clear_round" "Seat.clear_round" s_Seat_clear_round
  m_Seat_pay : MethAt K C.S "pay" "Seat.pay" s_Seat_pay
  m_Seat_numbers : MethAt K C.S "numbers" "Seat.numbers" s_Seat_numbers
  k_Shoe_init : MakeAt K mg C.O "Shoe" "Shoe.__init__" s_Shoe_init
  m_Shoe_many : MethAt K C.O "many" "Shoe.many" s_Shoe_many
  m_Shoe_has_all : MethAt K C.O "has_all" "Shoe.has_all" s_Shoe_has_all
  m_Shoe_take : MethAt K C.O "take" "Shoe.take" s_Shoe_take
  d_is_flag : DefAt K mg "is_flag" s_is_flag
  k_Table_init : MakeAt K mg C.T "Table" "Table.__init__" s_Table_init
  m_Table_is_seat : MethAt K C.T "is_seat" "Table.is_seat" s_Table_is_seat
  m_Table_playing : MethAt K C.T "playing" "Table.playing" s_Table_playing
  m_Table_all_hands : MethAt K C.T "all_hands" "Table.all_hands" s_Table_all_hands
  m_Table_turn : MethAt K C.T "turn" "Table.turn" s_Table_turn
  m_Table_stands : MethAt K C.T "stands" "Table.stands" s_Table_stands
  m_Table_must_phase : MethAt K C.T "must_phase" "Table.must_phase" s_Table_must_phase
  m_Table_take : MethAt K C.T "take" "Table.take" s_Table_take
  m_Table_begin : MethAt K C.T "begin" "Table.begin" s_Table_begin
  m_Table_lay_stake : MethAt K C.T "lay_stake" "Table.lay_stake" s_Table_lay_stake
  m_Table_deal : MethAt K C.T "deal" "Table.deal" s_Table_deal
  m_Table_look : MethAt K C.T "look" "Table.look" s_Table_look
  m_Table_go_on : MethAt K C.T "go_on" "Table.go_on" s_Table_go_on
  m_Table_must_draw : MethAt K C.T "must_draw" "Table.must_draw" s_Table_must_draw
  m_Table_pay : MethAt K C.T "pay" "Table.pay" s_Table_pay
  m_Table_insure : MethAt K C.T "insure" "Table.insure" s_Table_insure
  m_Table_asked : MethAt K C.T "asked" "Table.asked" s_Table_asked
  m_Table_counted : MethAt K C.T "counted" "Table.counted" s_Table_counted
  m_Table_hit : MethAt K C.T "hit" "Table.hit" s_Table_hit
  m_Table_stand : MethAt K C.T "stand" "Table.stand" s_Table_stand
  m_Table_double : MethAt K C.T "double" "Table.double" s_Table_double
  m_Table_part : MethAt K C.T "part" "Table.part" s_Table_part
  m_Table_give : MethAt K C.T "give" "Table.give" s_Table_give
  m_Table_are_due : MethAt K C.T "are_due" "Table.are_due" s_Table_are_due
  m_Table_draw : MethAt K C.T "draw" "Table.draw" s_Table_draw
  m_Table_shuffle : MethAt K C.T "shuffle" "Table.shuffle" s_Table_shuffle
  m_Table_tell_seat : MethAt K C.T "tell_seat" "Table.tell_seat" s_Table_tell_seat
  m_Table_of_hand : MethAt K C.T "of_hand" "Table.of_hand" s_Table_of_hand
  m_Table_telling : MethAt K C.T "telling" "Table.telling" s_Table_telling
  m_Table_by_call : MethAt K C.T "by_call" "Table.by_call" s_Table_by_call
  m_Table_answer : MethAt K C.T "answer" "Table.answer" s_Table_answer
  d_answers : DefAt K mg "answers" s_answers
end Bj
namespace Bj
open PySem PySem.Spec PyProof.Rows L2
def cardsV (l : List Nat) : List V := (Kg84.whole l).map V.int
theorem cardsV_len (l : List Nat) : (cardsV l).length = l.length := by simp [cardsV, Kg84.whole]
theorem cardsV_app (l m : List Nat) : cardsV (l ++ m) = cardsV l ++ cardsV m := by simp [cardsV, Kg84.whole]
theorem small10000 {n : Nat} (h : n ≤ 10000) : n < sizeLine := Nat.lt_of_le_of_lt h (by decide)
theorem take_more {α : Type} : ∀ {l : List α} {i : Nat} {x : α}, l[i]? = some x → l.take (i + 1) = l.take i ++ [x]
  | [], i, x, h => by simp at h
  | a :: l, 0, x, h => by
    have e : a = x := Option.some.inj h
    subst e
    rfl
  | a :: l, i + 1, x, h => by
    have ih := take_more (l := l) (i := i) (x := x) h
    show a :: l.take (i + 1) = a :: l.take i ++ [x]
    rw [ih]
    rfl
theorem lc_map {K : PySem.W.Frag} {a : Addr} {xs : List V} {te : TE} {i : Nat} {σ : L2.St} {H1 : Hp} {D : Addr} {Qd : Hp → Prop} (f : V → V) (hD : H1 D = none) (hz : xs.length ≤ 10000) (hs : SqL K H1 a xs)
    (he : ∀ x H2 (R : VK), x ∈ xs → Same H1 H2 → (∀ H3, Same H2 H3 → R (f x) H3) → te ((wipe σ [i]).set i (some x)) H2 R)
    (hd : ∀ H2, Same H1 H2 → H2 D = some (.lst (xs.map f)) → Qd H2) :
    ∃ W : Nat → Nat → Hp → Prop, (∃ m, W 0 m (upd H1 D (.lst []))) ∧ ∀ j m H, W j m H →
      ((Itl K a).stop j H ∧ Qd H) ∨ ((Itl K a).go j H ∧ ∃ Nx : Hp → Prop, (∀ H', Nx H' → ∃ m', m' < m ∧ W (j + 1) m' H') ∧ ∀ x H', (Itl K a).yld j H x H' → gName i x (wipe σ [i]) H' fun σ2 H2 => wipe σ2 [i] = wipe σ [i] ∧ tYes σ2 H2 fun b H3 =>
        if b = true then te σ2 H3 fun y H4 => ∃ acc, H4 D = some (.lst acc) ∧ acc.length < sizeLine ∧ Nx (upd H4 D (.lst (acc ++ [y]))) else Nx H3) := by
  have nD : ∀ {b o}, H1 b = some o → b ≠ D := fun e => ne_of_none e hD
  refine lc_list (K := K) (a := a) (xs := xs) (fun j H => Same H1 H ∧ H D = some (.lst ((xs.take j).map f))) ⟨same_new hD, upd_same⟩ (fun j H _ p => p.1.seq hs) ?_ ?_
  · rintro j x H hj ⟨s1, hD1⟩
    refine ⟨?_, ?_⟩
    · show ((σ.set i none).set i (some x)).set i none = σ.set i none
      rw [List.set_set, List.set_set]
    · refine he x H _ (List.mem_of_getElem? hj) s1 fun H3 s3 => ⟨_, s3 _ _ hD1, ?_, ?_, ?_⟩
      · rw [List.length_map, List.length_take]
        exact small10000 (Nat.le_trans (Nat.min_le_right _ _) hz)
      · intro b o e
        rw [upd_ne (nD e)]
        exact s3 _ _ (s1 _ _ e)
      · rw [upd_same, take_more hj, List.map_append]
        rfl
  · rintro H ⟨s1, hD1⟩
    refine hd H s1 ?_
    rw [hD1, List.take_length]
theorem ifB {c b : Bool} {A B : Prop} (e : c = b) (h1 : b = true → A) (h2 : b = false → B) : if c = true then A else B := by
  subst e
  cases c with
  | true => exact iteT (h1 rfl)
  | false => exact iteF (h2 rfl)
def sp_is_card : Sp := fun vs H Q _ => ∃ n : Int, vs = [.int n] ∧ Q (.bl (Kg84.within n 1 13)) H
def sp_are_cards (K : PySem.W.Frag) : Sp := fun vs H Q _ => ∃ (a : Addr) (ns : List Int), vs = [.ref a] ∧ SqL K H a (ns.map V.int) ∧ ns.length ≤ 10000 ∧ ∀ H', Same H H' → Q (.bl (ns.all fun z => Kg84.within z 1 13)) H'
def sp_worth_of : Sp := fun vs H Q _ => ∃ n : Int, vs = [.int n] ∧ Q (.int (min n 10)) H
def sp_of (K : PySem.W.Frag) (f : List Nat → V) : Sp := fun vs H Q _ => ∃ (a : Addr) (l : List Nat), vs = [.ref a] ∧ SqL K H a (cardsV l) ∧ l.length ≤ 10000 ∧ ∀ H', Same H H' → Q (f l) H'
def hardV (l : List Nat) : V := .int (Kg84.hard l : Nat)
def softV (l : List Nat) : V := .bl (Kg84.soft l)
def totalV (l : List Nat) : V := .int (Kg84.total l : Nat)
def natV (l : List Nat) : V := .bl (Kg84.isNatural l)
def sp_must (C : Adr) : Sp := fun vs H Q E => ∃ (b : Bool) (n : Int), vs = [.bl b, .int n] ∧ (b = true → Q .non H) ∧ (b = false → ∀ d, H d = none → E (.ref C.R) (some d) (upd H d (numX n)))
theorem within_and (n lo hi : Int) : Kg84.within n lo hi = (decide (lo ≤ n) && decide (n ≤ hi)) := rfl
def wv : V → V
  | .int z => .int (min z 10)
  | v => v
theorem sum_worth : ∀ l : List Nat, ((Kg84.whole l).map fun z => min z 10).sum = ((Kg84.hard l : Nat) : Int)
  | [] => rfl
  | c :: l => by
    have ih := sum_worth l
    unfold Kg84.whole Kg84.hard Kg84.worth at ih ⊢
    simp only [List.map_cons, List.sum_cons] at ih ⊢
    rw [ih]
    omega
theorem wv_cards (l : List Nat) : (cardsV l).map wv = ((Kg84.whole l).map fun z => min z 10).map V.int := by
  unfold cardsV
  rw [List.map_map, List.map_map]
  rfl
theorem inV_cards (l : List Nat) (c : Nat) : inV (.int c) (cardsV l) = l.contains c := by
  induction l with
  | nil => rfl
  | cons a r ih =>
    have e : inV (.int c) (cardsV (a :: r)) = (eqV (.int a) (.int c) || inV (.int c) (cardsV r)) := rfl
    rw [e, ih, List.contains_cons]
    congr 1
    rw [Bool.eq_iff_iff]
    simp only [eqV, decide_eq_true_eq, beq_iff_eq, V.int.injEq]
    omega
theorem flat_ints (ns : List Int) : (ns.map V.int).all flatV = true := by
  rw [List.all_eq_true]
  intro x hx
  obtain ⟨n, _, rfl⟩ := List.mem_map.mp hx
  rfl
theorem flat_cards (l : List Nat) : (cardsV l).all flatV = true := flat_ints _
section
variable {P : Program} {w : World} {K : PySem.W.Frag} {mg : Str → Option Value} {base : Heap} {C : Adr}
theorem ok_is_card (T : Txt K mg C) : DefOk P w K mg base CX0 1 "is_card" P_is_card sp_is_card := by
  refine T.d_is_card.ok sc_is_card (fun _ _ F => b_is_card F) ?_ ?_
  · rintro vs H Q E ⟨n, rfl, _⟩
    rfl
  · intro f cdv A outer s H vs Q E hr h
    obtain ⟨n, rfl, q⟩ := h
    refine ⟨_, (pss_one (ps_ret (pe_chain op_le op_le (pe_gI T.g_ACE) (pv 0) (pe_gI T.g_SORTS)))), ?_⟩
    refine ⟨_, rfl, _, _, rfl, rfl, _, rfl, ?_⟩
    rw [within_and] at q
    refine ite2 (fun e => ?_) (fun e => ?_)
    · refine ⟨_, _, rfl, rfl, ?_⟩
      rw [e, Bool.true_and] at q
      exact q
    · rw [Bool.not_eq_true] at e
      rw [e, Bool.false_and] at q
      exact q
theorem ok_are_cards (T : Txt K mg C) : DefOk P w K mg base CX0 2 "are_cards" P_are_cards (sp_are_cards K) := by
  refine T.d_are_cards.ok sc_are_cards (fun _ _ F => b_are_cards F) ?_ ?_
  · rintro vs H Q E ⟨a, ns, rfl, _⟩
    rfl
  · intro f cdv A outer s H vs Q E hr h
    obtain ⟨a, ns, rfl, hS, hl, q⟩ := h
    refine ⟨_, (pss_one (ps_ret (pe_callB (cr_all rfl) (by rfl) T.z_all PyProof.Rows.boot_all (pa_cons (pe_lc (own := [("number", 1)]) (g := gName 1) (tt := tYes) rfl sc_are_cards.nd (pi_list (pv 0)) (blkOk_by (own := [("number", 1)]) (N := N_are_cards) (sc := defScope s_are_cards) (by decide +kernel)) (fun _ _ _ _ _ => pg_name (i := 1) sc_are_cards.nd rfl (Or.inl rfl)) (fun _ _ _ _ _ => pts_nil) (fun _ _ _ _ _ => (pe_cD (ok_is_card T) hr (by decide) pass0 (pa_cons (pv 1) pa_nil)))) pa_nil)))), ?_⟩
    refine ⟨_, rfl, a, rfl, ⟨_, hS⟩, fun D hD => lc_map (fun v => match v with | .int z => .bl (Kg84.within z 1 13) | v => v) hD (by rw [List.length_map]; exact hl) hS ?_ ?_⟩
    · intro x H2 R hx s2 k
      obtain ⟨z, _, rfl⟩ := List.mem_map.mp hx
      exact ⟨_, rfl, z, rfl, k H2 (Same.refl _)⟩
    · intro H2 s2 hD2
      refine ⟨D, ns.map fun z => Kg84.within z 1 13, rfl, SqL.of ?_, ?_⟩
      · rw [hD2, List.map_map, List.map_map]
        rfl
      · have := q H2 s2
        rw [List.all_map]
        exact this
theorem ok_worth_of (T : Txt K mg C) : DefOk P w K mg base CX0 1 "worth_of" P_worth_of sp_worth_of := by
  refine T.d_worth_of.ok sc_worth_of (fun _ _ F => b_worth_of F) ?_ ?_
  · rintro vs H Q E ⟨n, rfl, _⟩
    rfl
  · intro f cdv A outer s H vs Q E hr h
    obtain ⟨n, rfl, q⟩ := h
    refine ⟨_, (pss_one (ps_ret (pe_callB (call_min2 rfl) (by rfl) T.z_min PyProof.Rows.boot_min (pa_cons (pv 0) (pa_cons (pe_gI T.g_MOST_WORTH) pa_nil))))), ?_⟩
    refine ⟨_, rfl, _, _, rfl, ?_⟩
    have e : (if (10 : Int) < n then (10 : Int) else n) = min n 10 := by
      by_cases h : (10 : Int) < n
      · rw [if_pos h]; omega
      · rw [if_neg h]; omega
    rw [e]
    exact q
theorem ok_hard_count (T : Txt K mg C) : DefOk P w K mg base CX0 2 "hard_count" P_hard_count (sp_of K hardV) := by
  refine T.d_hard_count.ok sc_hard_count (fun _ _ F => b_hard_count F) ?_ ?_
  · rintro vs H Q E ⟨a, ns, rfl, _⟩
    rfl
  · intro f cdv A outer s H vs Q E hr h
    obtain ⟨a, l, rfl, hS, hl, q⟩ := h
    refine ⟨_, (pss_one (ps_ret (pe_callB (cr_sum rfl) (by rfl) T.z_sum PyProof.Rows.boot_sum (pa_cons (pe_lc (own := [("card", 1)]) (g := gName 1) (tt := tYes) rfl sc_hard_count.nd (pi_list (pv 0)) (blkOk_by (own := [("card", 1)]) (N := N_hard_count) (sc := defScope s_hard_count) (by decide +kernel)) (fun _ _ _ _ _ => pg_name (i := 1) sc_hard_count.nd rfl (Or.inl rfl)) (fun _ _ _ _ _ => pts_nil) (fun _ _ _ _ _ => (pe_cD (ok_worth_of T) hr (by decide) pass0 (pa_cons (pv 1) pa_nil)))) pa_nil)))), ?_⟩
    refine ⟨_, rfl, a, rfl, ⟨_, hS⟩, fun D hD => lc_map wv hD (by rw [cardsV_len]; exact hl) hS ?_ ?_⟩
    · intro x H2 R hx s2 k
      obtain ⟨z, _, rfl⟩ := List.mem_map.mp hx
      exact ⟨_, rfl, z, rfl, k H2 (Same.refl _)⟩
    · intro H2 s2 hD2
      rw [wv_cards] at hD2
      refine ⟨D, _, rfl, SqL.of hD2, ?_⟩
      rw [sum_worth]
      exact q H2 s2
theorem ok_is_soft (T : Txt K mg C) : DefOk P w K mg base CX0 3 "is_soft" P_is_soft (sp_of K softV) := by
  refine T.d_is_soft.ok sc_is_soft (fun _ _ F => b_is_soft F) ?_ ?_
  · rintro vs H Q E ⟨a, ns, rfl, _⟩
    rfl
  · intro f cdv A outer s H vs Q E hr h
    obtain ⟨a, l, rfl, hS, hl, q⟩ := h
    refine ⟨_, (pss_one (ps_ret (pe_and (pe_cmpR op_in_seq (pe_gI T.g_ACE) (pv 0) (by rfl)) (pe_one (pe_cmp (pc_le (pe_cD (ok_hard_count T) hr (by decide) pass0 (pa_cons (pv 0) pa_nil)) (pe_gI T.g_MOST_SOFT))))))), ?_⟩
    refine ⟨_, rfl, a, _, rfl, .inl hS, rfl, flat_cards l, _, rfl, ?_⟩
    rw [show (V.int 1) = V.int ((1 : Nat) : Int) from rfl]
    simp only [Bool.false_eq_true, if_false]
    rw [inV_cards]
    unfold softV Kg84.soft at q
    refine ite2 (fun e => ?_) (fun e => ?_)
    · refine ⟨_, rfl, a, l, rfl, hS, hl, fun H2 s2 => ⟨_, _, rfl, rfl, ?_⟩⟩
      have := q H2 s2
      rw [e, Bool.true_and] at this
      have e2 : decide (((Kg84.hard l : Nat) : Int) ≤ 11) = decide (Kg84.hard l ≤ 11) := by
        congr 1
        simp only [eq_iff_iff]
        omega
      show Q (.bl (decide (((Kg84.hard l : Nat) : Int) ≤ 11))) H2
      rw [e2]
      exact this
    · rw [Bool.not_eq_true] at e
      rw [e, Bool.false_and] at q
      exact q H (Same.refl _)
theorem ok_count_of (T : Txt K mg C) : DefOk P w K mg base CX0 4 "count_of" P_count_of (sp_of K totalV) := by
  refine T.d_count_of.ok sc_count_of (fun _ _ F => b_count_of F) ?_ ?_
  · rintro vs H Q E ⟨a, ns, rfl, _⟩
    rfl
  · intro f cdv A outer s H vs Q E hr h
    obtain ⟨a, l, rfl, hS, hl, q⟩ := h
    refine ⟨_, (pss_cons (ps_if (pt_val (pe_cD (ok_is_soft T) hr (by decide) pass0 (pa_cons (pv 0) pa_nil))) (pss_one (ps_ret (pe_op op_add (pe_cD (ok_hard_count T) hr (by decide) pass0 (pa_cons (pv 0) pa_nil)) (pe_gI T.g_MOST_WORTH)))) pss_nil)
      (pss_one (ps_ret (pe_cD (ok_hard_count T) hr (by decide) pass0 (pa_cons (pv 0) pa_nil))))), ?_⟩
    unfold totalV Kg84.total at q
    refine ⟨_, rfl, a, l, rfl, hS, hl, fun H2 s2 => ⟨_, rfl, ?_⟩⟩
    refine ite2 (fun e => ?_) (fun e => ?_)
    · refine ⟨_, rfl, a, l, rfl, s2.seq hS, hl, fun H3 s3 => ⟨_, _, rfl, rfl, ?_⟩⟩
      have := q H3 (s2.trans s3)
      rw [if_pos e] at this
      exact this
    · refine ⟨_, rfl, a, l, rfl, s2.seq hS, hl, fun H3 s3 => ?_⟩
      have := q H3 (s2.trans s3)
      rw [if_neg e] at this
      exact this
theorem ok_is_natural (T : Txt K mg C) : DefOk P w K mg base CX0 5 "is_natural" P_is_natural (sp_of K natV) := by
  refine T.d_is_natural.ok sc_is_natural (fun _ _ F => b_is_natural F) ?_ ?_
  · rintro vs H Q E ⟨a, ns, rfl, _⟩
    rfl
  · intro f cdv A outer s H vs Q E hr h
    obtain ⟨a, l, rfl, hS, hl, q⟩ := h
    refine ⟨_, (pss_one (ps_ret (pe_and (pe_cmp (pc_eqI (pe_callB call_len_seq (by rfl) T.z_len PySem.boot_len (pa_cons (pv 0) pa_nil)) pe_int)) (pe_one (pe_cmp (pc_eqI (pe_cD (ok_count_of T) hr (by decide) pass0 (pa_cons (pv 0) pa_nil)) (pe_gI T.g_GOAL))))))), ?_⟩
    unfold natV Kg84.isNatural at q
    refine ⟨_, rfl, a, _, rfl, .inl hS, _, _, rfl, rfl, _, rfl, ?_⟩
    refine ite2 (fun e => ?_) (fun e => ?_)
    · have e1 : ((cardsV l).length : Int) = 2 := of_decide_eq_true e
      have e2 : (l.length == 2) = true := by
        rw [cardsV_len] at e1
        rw [beq_iff_eq]
        omega
      refine ⟨_, rfl, a, l, rfl, hS, hl, fun H2 s2 => ⟨_, _, rfl, rfl, ?_⟩⟩
      have := q H2 s2
      rw [e2, Bool.true_and] at this
      have e3 : decide (((Kg84.total l : Nat) : Int) = 21) = (Kg84.total l == 21) := by
        rw [Bool.eq_iff_iff]
        simp only [decide_eq_true_eq, beq_iff_eq]
        omega
      show Q (.bl (decide (((Kg84.total l : Nat) : Int) = 21))) H2
      rw [e3]
      exact this
    · have e1 : ¬ ((cardsV l).length : Int) = 2 := fun z => e (decide_eq_true z)
      have e2 : (l.length == 2) = false := by
        rw [cardsV_len] at e1
        rw [beq_eq_false_iff_ne]
        omega
      rw [e2, Bool.false_and] at q
      exact q H (Same.refl _)
theorem ok_must (T : Txt K mg C) : DefOk P w K mg base (L2.CX P w) 2 "must" P_must (sp_must C) := by
  refine T.d_must.okX sc_must (fun _ _ F => b_must F) ?_ ?_
  · rintro vs H Q E ⟨b, n, rfl, _⟩
    rfl
  · intro f cdv A outer s H vs Q E hr h
    obtain ⟨b, n, rfl, k1, k2⟩ := h
    refine ⟨_, (pss_one (ps_if (pt_not (pt_val (pv 0))) (pss_one (ps_raiseRef rfl T.ref hr (takes_of rfl rfl rfl rfl) (pa_cons (pv 1) pa_nil))) pss_nil)), ?_⟩
    refine ⟨_, rfl, b, rfl, ?_⟩
    cases b with
    | true => exact iteF (k1 rfl)
    | false => exact iteT ⟨_, rfl, _, rfl, fun d hd => k2 rfl d hd⟩
end
end Bj
namespace Bj
open PySem PySem.Spec PyProof.Rows L2
structure HandL where
  a : Addr
  l : Addr
  d : Addr
  h : Kg84.Hand
def HandL.obj (C : Adr) (x : HandL) : HO := .ins C.H x.d (handF x.l (x.h.stake : Nat) x.h.parted (x.h.state : Nat))
def HandL.cells (C : Adr) (x : HandL) : List Cell := [(x.a, x.obj C), (x.l, .lst (cardsV x.h.cards))]
structure HandAt (C : Adr) (H : Hp) (x : HandL) : Prop where
  obj : H x.a = some (x.obj C)
  cards : H x.l = some (.lst (cardsV x.h.cards))
  short : x.h.cards.length ≤ 9000
def settleH (h : Kg84.Hand) : Kg84.Hand := if Kg84.total h.cards = 21 then { h with state := 1 } else if 21 < Kg84.total h.cards then { h with state := 2 } else h
def endH (h : Kg84.Hand) : Kg84.Hand := settleH { h with state := 1 }
def isPair (l : List Nat) : Bool := l.length == 2 && (Kg84.worth (l.getD 0 0) == Kg84.worth (l.getD 1 0))
def winsMore (h : Kg84.Hand) : Bool := Kg84.isNatural h.cards && !h.parted
def asks (h : Kg84.Hand) : Bool := h.state == 1 && !winsMore h
def toldH (h : Kg84.Hand) : List Nat := [h.state, h.stake, Kg84.total h.cards, Kg84.truth (Kg84.soft h.cards), h.cards.length] ++ h.cards
def byCount (h : Kg84.Hand) (d : Nat) : Int := if 21 < d ∨ d < Kg84.total h.cards then 2 * (h.stake : Int) else if Kg84.total h.cards < d then -2 * (h.stake : Int) else 0
def halfH (u c stake : Nat) (aces : Bool) : Kg84.Hand := if u = 1 then endH (settleH ⟨[u, c], stake, 0, false, true, aces⟩) else settleH ⟨[u, c], stake, 0, false, true, aces⟩
def sp_Hand_init (C : Adr) : Sp := fun vs H Q _ => ∃ (p l dx : Addr) (st : Int) (sp : Bool), vs = [.ref p, .ref l, .int st, .bl sp] ∧ H p = some (.ins C.H dx []) ∧ Q .non (upd H p (.ins C.H dx (handF l st sp 0)))
def sp_Hand_do (C : Adr) (f : Kg84.Hand → Kg84.Hand) : Sp := fun vs H Q _ => ∃ x : HandL, vs = [.ref x.a] ∧ HandAt C H x ∧ ∀ H', Same (upd H x.a (HandL.obj C { x with h := f x.h })) H' → Q .non H'
def sp_Hand_of (C : Adr) (f : Kg84.Hand → V) : Sp := fun vs H Q _ => ∃ x : HandL, vs = [.ref x.a] ∧ HandAt C H x ∧ ∀ H', Same H H' → Q (f x.h) H'
def sp_Hand_paid (C : Adr) (K : PySem.W.Frag) : Sp := fun vs H Q _ => ∃ (x : HandL) (dl : Addr) (dealer : List Nat), vs = [.ref x.a, .ref dl] ∧ HandAt C H x ∧ SqL K H dl (cardsV dealer) ∧ dealer.length ≤ 10000 ∧
  ∀ H', Same H H' → Q (.int (Kg84.pays dealer x.h)) H'
def sp_Hand_paid_by_count (C : Adr) : Sp := fun vs H Q _ => ∃ (x : HandL) (d : Nat), vs = [.ref x.a, .int (d : Nat)] ∧ HandAt C H x ∧ ∀ H', Same H H' → Q (.int (byCount x.h d)) H'
def sp_Hand_told (C : Adr) : Sp := fun vs H Q _ => ∃ x : HandL, vs = [.ref x.a] ∧ HandAt C H x ∧ ∀ H' p, H p = none → Same H H' → H' p = some (.lst (cardsV (toldH x.h))) → Q (.ref p) H'
def sp_split_hands (C : Adr) : Sp := fun vs H Q _ => ∃ (H0 : Hp) (cs : List Cell) (x : HandL) (u v c d : Nat) (aces : Bool), vs = [.ref x.a, .int (c : Nat), .int (d : Nat)] ∧ Own H0 H cs ∧ HandAt C H x ∧ x.h.cards = [u, v] ∧
  ∀ H' p (x1 x2 : HandL), Own H0 H' ((p, .lst [.ref x1.a, .ref x2.a]) :: (HandL.cells C x1 ++ (HandL.cells C x2 ++ cs))) → Same H H' → x1.h = halfH u c x.h.stake aces → x2.h = halfH v d x.h.stake aces → Q (.ref p) H'
theorem nat_eq (n m : Nat) : decide (((n : Nat) : Int) = ((m : Nat) : Int)) = (n == m) := by
  rw [Bool.eq_iff_iff]
  simp only [decide_eq_true_eq, beq_iff_eq]
  omega
theorem nat_lt (n m : Nat) : decide (((n : Nat) : Int) < ((m : Nat) : Int)) = decide (n < m) := by
  rw [Bool.eq_iff_iff]
  simp only [decide_eq_true_eq]
  omega
theorem HandAt.ne {C : Adr} {H : Hp} {x : HandL} (h : HandAt C H x) : x.l ≠ x.a := ne_of h.cards h.obj (by intro z; cases z)
theorem HandAt.sameR {C : Adr} {H H' : Hp} {x : HandL} (h : HandAt C H x) (s : Same H H') : HandAt C H' x := ⟨s _ _ h.obj, s _ _ h.cards, h.short⟩
theorem HandAt.write {C : Adr} {H : Hp} {x : HandL} (h : HandAt C H x) (g : Kg84.Hand) (e : g.cards = x.h.cards) : HandAt C (upd H x.a (HandL.obj C { x with h := g })) { x with h := g } := by
  refine ⟨upd_same, ?_, ?_⟩
  · show upd H x.a _ x.l = some (.lst (cardsV g.cards))
    rw [upd_ne h.ne, e]
    exact h.cards
  · show g.cards.length ≤ 9000
    rw [e]
    exact h.short
theorem HandAt.seq {C : Adr} {H : Hp} {x : HandL} {K : PySem.W.Frag} (h : HandAt C H x) : SqL K H x.l (cardsV x.h.cards) := SqL.of h.cards
theorem HandAt.short' {C : Adr} {H : Hp} {x : HandL} (h : HandAt C H x) : x.h.cards.length ≤ 10000 := Nat.le_trans h.short (by decide)
theorem cardsV_at {l : List Nat} {i : Nat} {c : Nat} (h : l[i]? = some c) : (cardsV l)[i]? = some (.int (c : Nat)) := by
  simp [cardsV, Kg84.whole, h]
theorem worth_int (c : Nat) : min ((c : Nat) : Int) 10 = ((Kg84.worth c : Nat) : Int) := by
  unfold Kg84.worth
  omega
section
variable {P : Program} {w : World} {K : PySem.W.Frag} {mg : Str → Option Value} {base : Heap} {C : Adr}
theorem ok_Hand_init (T : Txt K mg C) : MakeOk P w K mg base 1 C.H "Hand" P_Hand_init (sp_Hand_init C) := by
  refine T.k_Hand_init.ok sc_Hand_init (fun _ _ F => b_Hand_init F) ?_ ?_
  · rintro vs H Q E ⟨p, l, dx, st, sp, rfl, _⟩
    rfl
  · intro f cdv A outer s H vs Q E hr h
    obtain ⟨p, l, dx, st, sp, rfl, hp, q⟩ := h
    refine ⟨_, (pss_cons (ps_fld (pv 0) (pv 1) rfl)
      (pss_cons (ps_fld (pv 0) (pv 2) rfl)
      (pss_cons (ps_fld (pv 0) (pv 3) rfl)
      (pss_one (ps_fld (pv 0) (pe_gI T.g_IN_PLAY) rfl))))), ?_⟩
    refine ⟨_, rfl, _, rfl, p, C.H, dx, [], rfl, hp, T.clH, T.nH_cards, (by show 0 < 1000; decide), ?_⟩
    refine ⟨_, rfl, _, rfl, p, C.H, dx, _, rfl, upd_same, T.clH, T.nH_stake, (by show 1 < 1000; decide), ?_⟩
    refine ⟨_, rfl, _, rfl, p, C.H, dx, _, rfl, upd_same, T.clH, T.nH_of_split, Nat.lt_of_le_of_lt putF_len (by show 1 + 1 < 1000; decide), ?_⟩
    refine ⟨_, rfl, p, C.H, dx, _, rfl, upd_same, T.clH, T.nH_state, Nat.lt_of_le_of_lt putF_len (Nat.lt_of_le_of_lt (Nat.succ_le_succ putF_len) (by show 1 + 1 + 1 < 1000; decide)), ?_⟩
    rw [upd_upd, upd_upd, upd_upd, handF_new]
    exact q
theorem ok_Hand_settle (T : Txt K mg C) : MethOk P w K mg base CX0 5 C.H "settle" P_Hand_settle (sp_Hand_do C settleH) := by
  refine T.m_Hand_settle.ok sc_Hand_settle (fun _ _ F => b_Hand_settle F) ?_ ?_
  · rintro vs H Q E ⟨x, rfl, _⟩
    rfl
  · intro f cdv A outer s H vs Q E hr h
    obtain ⟨x, rfl, hx, q⟩ := h
    refine ⟨_, (pss_cons (ps_set (i := 1) sc_Hand_settle.nd rfl (Or.inl rfl) (pe_cD (ok_count_of T) hr (by decide) pass0 (pa_cons (pe_fld (pv 0) rfl) pa_nil)))
      (pss_one (ps_if (pt_cmp (pc_eqI (pv 1) (pe_gI T.g_GOAL))) (pss_one (ps_fld (pv 0) (pe_gI T.g_STANDS) rfl)) (pss_one (ps_if (pt_cmp (pc_gt (pv 1) (pe_gI T.g_GOAL))) (pss_one (ps_fld (pv 0) (pe_gI T.g_BEYOND) rfl)) pss_nil))))), ?_⟩
    refine ⟨_, rfl, x.a, C.H, _, _, _, rfl, hx.obj, T.clH, T.nH_cards, handF_cards, x.l, x.h.cards, rfl, hx.seq, hx.short', fun H2 s2 => ?_⟩
    have hx2 := hx.sameR s2
    refine ⟨_, rfl, _, _, rfl, rfl, _, rfl, ?_⟩
    unfold settleH at q
    refine ite2 (fun e => ?_) (fun e => ?_)
    · have e1 : Kg84.total x.h.cards = 21 := by
        have : ((Kg84.total x.h.cards : Nat) : Int) = 21 := of_decide_eq_true e
        omega
      rw [if_pos e1] at q
      refine ⟨_, rfl, x.a, C.H, _, _, rfl, hx2.obj, T.clH, T.nH_state, handF_len, q _ ?_⟩
      rw [handF_put_state]
      exact same_upd s2
    · have e1 : ¬ Kg84.total x.h.cards = 21 := fun z => e (decide_eq_true (by show ((Kg84.total x.h.cards : Nat) : Int) = 21; omega))
      rw [if_neg e1] at q
      refine ⟨_, rfl, _, _, rfl, rfl, _, rfl, ?_⟩
      refine ite2 (fun e2 => ?_) (fun e2 => ?_)
      · have e3 : 21 < Kg84.total x.h.cards := by
          have : (21 : Int) < ((Kg84.total x.h.cards : Nat) : Int) := of_decide_eq_true e2
          omega
        rw [if_pos e3] at q
        refine ⟨_, rfl, x.a, C.H, _, _, rfl, hx2.obj, T.clH, T.nH_state, handF_len, q _ ?_⟩
        rw [handF_put_state]
        exact same_upd s2
      · have e3 : ¬ 21 < Kg84.total x.h.cards := fun z => e2 (decide_eq_true (by show (21 : Int) < ((Kg84.total x.h.cards : Nat) : Int); omega))
        rw [if_neg e3] at q
        refine q _ ?_
        rw [upd_id hx.obj]
        exact s2
theorem ok_Hand_end (T : Txt K mg C) : MethOk P w K mg base CX0 6 C.H "end" P_Hand_end (sp_Hand_do C endH) := by
  refine T.m_Hand_end.ok sc_Hand_end (fun _ _ F => b_Hand_end F) ?_ ?_
  · rintro vs H Q E ⟨x, rfl, _⟩
    rfl
  · intro f cdv A outer s H vs Q E hr h
    obtain ⟨x, rfl, hx, q⟩ := h
    refine ⟨_, (pss_cons (ps_fld (pv 0) (pe_gI T.g_STANDS) rfl)
      (pss_one (ps_expr (pe_cM0 (ok_Hand_settle T) hr (by decide) T.clH pass0 (pv 0))))), ?_⟩
    refine ⟨_, rfl, x.a, C.H, _, _, rfl, hx.obj, T.clH, T.nH_state, handF_len, ?_⟩
    rw [handF_put_state]
    have hx2 : HandAt C (upd H x.a (HandL.obj C { x with h := { x.h with state := 1 } })) { x with h := { x.h with state := 1 } } := hx.write _ rfl
    refine ⟨_, rfl, x.a, x.d, _, rfl, hx2.obj, handF_no_settle, { x with h := { x.h with state := 1 } }, rfl, hx2, fun H2 s2 => q _ ?_⟩
    rw [upd_upd] at s2
    exact s2
theorem ok_Hand_is_pair (T : Txt K mg C) : MethOk P w K mg base CX0 2 C.H "is_pair" P_Hand_is_pair (sp_Hand_of C fun h => .bl (isPair h.cards)) := by
  refine T.m_Hand_is_pair.ok sc_Hand_is_pair (fun _ _ F => b_Hand_is_pair F) ?_ ?_
  · rintro vs H Q E ⟨x, rfl, _⟩
    rfl
  · intro f cdv A outer s H vs Q E hr h
    obtain ⟨x, rfl, hx, q⟩ := h
    refine ⟨_, (pss_one (ps_ret (pe_and (pe_cmp (pc_eqI (pe_callB call_len_seq (by rfl) T.z_len PySem.boot_len (pa_cons (pe_fld (pv 0) rfl) pa_nil)) pe_int)) (pe_one (pe_cmp (pc_eqI (pe_cD (ok_worth_of T) hr (by decide) pass0 (pa_cons (pe_ix ix_list (pe_fld (pv 0) rfl) pe_int (fun _ _ => rfl)) pa_nil)) (pe_cD (ok_worth_of T) hr (by decide) pass0 (pa_cons (pe_ix ix_list (pe_fld (pv 0) rfl) pe_int (fun _ _ => rfl)) pa_nil)))))))), ?_⟩
    have fld : H x.a = some (.ins C.H x.d (handF x.l (x.h.stake : Nat) x.h.parted (x.h.state : Nat))) := hx.obj
    refine ⟨_, rfl, x.a, C.H, _, _, _, rfl, fld, T.clH, T.nH_cards, handF_cards, x.l, _, rfl, .inl hx.seq, _, _, rfl, rfl, _, rfl, ?_⟩
    replace q : ∀ H', Same H H' → Q (.bl (x.h.cards.length == 2 && (Kg84.worth (x.h.cards.getD 0 0) == Kg84.worth (x.h.cards.getD 1 0)))) H' := q
    refine ite2 (fun e => ?_) (fun e => ?_)
    · have e1 : x.h.cards.length = 2 := by
        have : ((cardsV x.h.cards).length : Int) = 2 := of_decide_eq_true e
        rw [cardsV_len] at this
        omega
      obtain ⟨u, v, e2⟩ : ∃ u v, x.h.cards = [u, v] := by
        match x.h.cards, e1 with
        | [u, v], _ => exact ⟨u, v, rfl⟩
      rw [e2] at q
      have i0 : x.h.cards[0]? = some u := by rw [e2]; rfl
      have i1 : x.h.cards[1]? = some v := by rw [e2]; rfl
      refine ⟨_, rfl, x.a, C.H, _, _, _, rfl, fld, T.clH, T.nH_cards, handF_cards, _, _, _, _, rfl, rfl, hx.seq, at_of (j := 0) rfl (cardsV_at i0), _, rfl, ?_⟩
      refine ⟨_, rfl, x.a, C.H, _, _, _, rfl, fld, T.clH, T.nH_cards, handF_cards, _, _, _, _, rfl, rfl, hx.seq, at_of (j := 1) rfl (cardsV_at i1), _, rfl, ?_⟩
      refine ⟨_, _, rfl, rfl, ?_⟩
      have := q H (Same.refl _)
      show Q (.bl (decide (min ((u : Nat) : Int) 10 = min ((v : Nat) : Int) 10))) H
      rw [worth_int, worth_int, nat_eq]
      exact this
    · have e1 : (x.h.cards.length == 2) = false := by
        rw [beq_eq_false_iff_ne]
        intro z
        refine e (decide_eq_true ?_)
        show ((cardsV x.h.cards).length : Int) = 2
        rw [cardsV_len]
        omega
      rw [e1, Bool.false_and] at q
      exact q H (Same.refl _)
theorem ok_Hand_wins_more (T : Txt K mg C) : MethOk P w K mg base CX0 6 C.H "wins_more" P_Hand_wins_more (sp_Hand_of C fun h => .bl (winsMore h)) := by
  refine T.m_Hand_wins_more.ok sc_Hand_wins_more (fun _ _ F => b_Hand_wins_more F) ?_ ?_
  · rintro vs H Q E ⟨x, rfl, _⟩
    rfl
  · intro f cdv A outer s H vs Q E hr h
    obtain ⟨x, rfl, hx, q⟩ := h
    refine ⟨_, (pss_one (ps_ret (pe_and (pe_cD (ok_is_natural T) hr (by decide) pass0 (pa_cons (pe_fld (pv 0) rfl) pa_nil)) (pe_one (pe_not (pe_fld (pv 0) rfl)))))), ?_⟩
    refine ⟨_, rfl, x.a, C.H, _, _, _, rfl, hx.obj, T.clH, T.nH_cards, handF_cards, x.l, x.h.cards, rfl, hx.seq, hx.short', fun H2 s2 => ⟨_, rfl, ?_⟩⟩
    have hx2 := hx.sameR s2
    replace q : ∀ H', Same H H' → Q (.bl (Kg84.isNatural x.h.cards && !x.h.parted)) H' := q
    refine ite2 (fun e => ?_) (fun e => ?_)
    · have := q H2 s2
      rw [show Kg84.isNatural x.h.cards = true from e, Bool.true_and] at this
      exact ⟨_, rfl, x.a, C.H, _, _, _, rfl, hx2.obj, T.clH, T.nH_of_split, handF_of_split, _, rfl, this⟩
    · rw [Bool.not_eq_true] at e
      rw [show Kg84.isNatural x.h.cards = false from e, Bool.false_and] at q
      exact q H2 s2
theorem ok_Hand_asks_dealer (T : Txt K mg C) : MethOk P w K mg base CX0 7 C.H "asks_dealer" P_Hand_asks_dealer (sp_Hand_of C fun h => .bl (asks h)) := by
  refine T.m_Hand_asks_dealer.ok sc_Hand_asks_dealer (fun _ _ F => b_Hand_asks_dealer F) ?_ ?_
  · rintro vs H Q E ⟨x, rfl, _⟩
    rfl
  · intro f cdv A outer s H vs Q E hr h
    obtain ⟨x, rfl, hx, q⟩ := h
    refine ⟨_, (pss_one (ps_ret (pe_and (pe_cmp (pc_eqI (pe_fld (pv 0) rfl) (pe_gI T.g_STANDS))) (pe_one (pe_not (pe_cM0 (ok_Hand_wins_more T) hr (by decide) T.clH pass0 (pv 0))))))), ?_⟩
    refine ⟨_, rfl, x.a, C.H, _, _, _, rfl, hx.obj, T.clH, T.nH_state, handF_state, _, _, rfl, rfl, _, rfl, ?_⟩
    replace q : ∀ H', Same H H' → Q (.bl (x.h.state == 1 && !winsMore x.h)) H' := q
    refine ifB (b := x.h.state == 1) (nat_eq _ 1) (fun e => ?_) (fun e => ?_)
    · rw [e, Bool.true_and] at q
      exact ⟨_, rfl, x.a, x.d, _, rfl, hx.obj, handF_no_wins_more, x, rfl, hx, fun H2 s2 => ⟨_, rfl, q H2 s2⟩⟩
    · rw [e, Bool.false_and] at q
      exact q H (Same.refl _)
theorem ok_Hand_paid_by_count (T : Txt K mg C) : MethOk P w K mg base CX0 5 C.H "paid_by_count" P_Hand_paid_by_count (sp_Hand_paid_by_count C) := by
  refine T.m_Hand_paid_by_count.ok sc_Hand_paid_by_count (fun _ _ F => b_Hand_paid_by_count F) ?_ ?_
  · rintro vs H Q E ⟨x, d, rfl, _⟩
    rfl
  · intro f cdv A outer s H vs Q E hr h
    obtain ⟨x, d, rfl, hx, q⟩ := h
    refine ⟨_, (pss_cons (ps_set (i := 2) sc_Hand_paid_by_count.nd rfl (Or.inl rfl) (pe_cD (ok_count_of T) hr (by decide) pass0 (pa_cons (pe_fld (pv 0) rfl) pa_nil)))
      (pss_cons (ps_if (PW.pt (pw_or (pt_cmp (pc_gt (pv 1) (pe_gI T.g_GOAL))) (pw_or1 (pt_cmp (pc_lt (pv 1) (pv 2)))))) (pss_one (ps_ret (pe_op op_mul pe_int (pe_fld (pv 0) rfl)))) pss_nil)
      (pss_cons (ps_if (pt_cmp (pc_gt (pv 1) (pv 2))) (pss_one (ps_ret (pe_op op_mul (pe_un un_neg pe_int) (pe_fld (pv 0) rfl)))) pss_nil)
      (pss_one (ps_ret pe_int))))), ?_⟩
    refine ⟨_, rfl, x.a, C.H, _, _, _, rfl, hx.obj, T.clH, T.nH_cards, handF_cards, x.l, x.h.cards, rfl, hx.seq, hx.short', fun H2 s2 => ?_⟩
    have hx2 := hx.sameR s2
    unfold byCount at q
    have dbl : ∀ (Q' : VK), Q' (.int (2 * (x.h.stake : Int))) H2 → tOp (rI CMul fun i j => V.int (i * j)) (tC (.int 2)) (tFld K (tVar 0) "stake") [some (.ref x.a), some (.int (d : Nat)), some (totalV x.h.cards)] H2 Q' := fun Q' z =>
      ⟨_, rfl, x.a, C.H, _, _, _, rfl, hx2.obj, T.clH, T.nH_stake, handF_stake, _, _, rfl, rfl, .inl (by decide), z⟩
    have lost : ∀ (hn : ¬ (21 < d ∨ d < Kg84.total x.h.cards)), Q (.int (if Kg84.total x.h.cards < d then -2 * (x.h.stake : Int) else 0)) H2 := fun hn => by
      have := q H2 s2
      rw [if_neg hn] at this
      exact this
    have won : (21 < d ∨ d < Kg84.total x.h.cards) → Q (.int (2 * (x.h.stake : Int))) H2 := fun hy => by
      have := q H2 s2
      rw [if_pos hy] at this
      exact this
    refine ⟨_, rfl, _, _, rfl, rfl, _, rfl, ?_⟩
    have rest : ¬ (21 < d ∨ d < Kg84.total x.h.cards) → tSeq (tIfS (tB (tCmp (fun i j => decide (j < i)) (tVar 1) (tVar 2))) (tRet (tOp (rI CMul fun i j => V.int (i * j)) (tUn (rU fun i => V.int (-i)) (tC (.int 2))) (tFld K (tVar 0) "stake"))) tNext) (tRet (tC (.int 0)))
        { nx := fun _ H' => Q .non H', rt := Q } [some (.ref x.a), some (.int (d : Nat)), some (totalV x.h.cards)] H2 := fun hn => by
      have q2 := lost hn
      refine ⟨_, rfl, _, rfl, _, _, rfl, rfl, _, rfl, ?_⟩
      refine ifB (b := decide (Kg84.total x.h.cards < d)) (nat_lt _ _) (fun e => ?_) (fun e => ?_)
      · rw [if_pos (of_decide_eq_true e)] at q2
        exact ⟨_, rfl, _, rfl, x.a, C.H, _, _, _, rfl, hx2.obj, T.clH, T.nH_stake, handF_stake, _, _, rfl, rfl, .inl (by decide), q2⟩
      · rw [if_neg (of_decide_eq_false e)] at q2
        exact q2
    refine ifB (b := decide (21 < d)) (nat_lt 21 _) (fun e => ?_) (fun e => ?_)
    · exact iteT (dbl _ (won (.inl (of_decide_eq_true e))))
    · refine ⟨_, rfl, _, rfl, _, _, rfl, rfl, _, rfl, ?_⟩
      refine ifB (b := decide (d < Kg84.total x.h.cards)) (nat_lt _ _) (fun e2 => ?_) (fun e2 => ?_)
      · exact dbl _ (won (.inr (of_decide_eq_true e2)))
      · exact rest (fun z => z.elim (of_decide_eq_false e) (of_decide_eq_false e2))
end
end Bj
namespace Bj
open PySem PySem.Spec PyProof.Rows L2
theorem Same.upd {H H' : Hp} {a : Addr} {o : HO} (s : Same H H') (n : H a = none) : Same H (upd H' a o) := fun b u e => by
  rw [upd_ne (ne_of_none e n)]
  exact s b u e
theorem HandAt.stakeF {C : Adr} {H : Hp} {x : HandL} (h : HandAt C H x) : H x.a = some (.ins C.H x.d (handF x.l (x.h.stake : Nat) x.h.parted (x.h.state : Nat))) := h.obj
section
variable {P : Program} {w : World} {K : PySem.W.Frag} {mg : Str → Option Value} {base : Heap} {C : Adr}
theorem ok_Hand_paid (T : Txt K mg C) : MethOk P w K mg base CX0 7 C.H "paid" P_Hand_paid (sp_Hand_paid C K) := by
  refine T.m_Hand_paid.ok sc_Hand_paid (fun _ _ F => b_Hand_paid F) ?_ ?_
  · rintro vs H Q E ⟨x, dl, dealer, rfl, _⟩
    rfl
  · intro f cdv A outer s H vs Q E hr h
    obtain ⟨x, dl, dealer, rfl, hx, hD, hz, q⟩ := h
    refine ⟨_, (pss_cons (ps_if (pt_cmp (pc_eqI (pe_fld (pv 0) rfl) (pe_gI T.g_GIVEN_UP))) (pss_one (ps_ret (pe_op op_sub pe_int (pe_fld (pv 0) rfl)))) pss_nil)
      (pss_cons (ps_if (pt_cmp (pc_eqI (pe_fld (pv 0) rfl) (pe_gI T.g_BEYOND))) (pss_one (ps_ret (pe_op op_mul (pe_un un_neg pe_int) (pe_fld (pv 0) rfl)))) pss_nil)
      (pss_cons (ps_if (pt_val (pe_cM0 (ok_Hand_wins_more T) hr (by decide) T.clH pass0 (pv 0))) (pss_one (ps_ret (pe_ix ix_list (pe_lst (pa_cons (pe_op op_mul pe_int (pe_fld (pv 0) rfl)) (pa_cons pe_int pa_nil))) (pe_callTy call_int1 (by rfl) T.z_int (by decide +kernel) (pa_cons (pe_cD (ok_is_natural T) hr (by decide) pass0 (pa_cons (pv 1) pa_nil)) pa_nil)) (fun _ _ => rfl)))) pss_nil)
      (pss_cons (ps_if (pt_val (pe_cD (ok_is_natural T) hr (by decide) pass0 (pa_cons (pv 1) pa_nil))) (pss_one (ps_ret (pe_op op_mul (pe_un un_neg pe_int) (pe_fld (pv 0) rfl)))) pss_nil)
      (pss_one (ps_ret (pe_cM (ok_Hand_paid_by_count T) hr (by decide) T.clH pass0 (pv 0) (pa_cons (pe_cD (ok_count_of T) hr (by decide) pass0 (pa_cons (pv 1) pa_nil)) pa_nil)))))))), ?_⟩
    unfold Kg84.pays at q
    dsimp only at q
    have st : ∀ H', Same H H' → H' x.a = some (.ins C.H x.d (handF x.l (x.h.stake : Nat) x.h.parted (x.h.state : Nat))) := fun H' s' => s' _ _ hx.obj
    refine ⟨_, rfl, x.a, C.H, _, _, _, rfl, hx.obj, T.clH, T.nH_state, handF_state, _, _, rfl, rfl, _, rfl, ?_⟩
    refine ifB (b := x.h.state == 3) (nat_eq _ 3) (fun e => ?_) (fun e => ?_)
    · have q2 := q H (Same.refl _)
      rw [if_pos (beq_iff_eq.mp e)] at q2
      refine ⟨_, rfl, x.a, C.H, _, _, _, rfl, hx.obj, T.clH, T.nH_stake, handF_stake, _, _, rfl, rfl, ?_⟩
      show Q (.int (0 - (x.h.stake : Int))) H
      rw [Int.zero_sub]
      exact q2
    rw [if_neg (beq_eq_false_iff_ne.mp e)] at q
    refine ⟨_, rfl, x.a, C.H, _, _, _, rfl, hx.obj, T.clH, T.nH_state, handF_state, _, _, rfl, rfl, _, rfl, ?_⟩
    refine ifB (b := x.h.state == 2) (nat_eq _ 2) (fun e2 => ?_) (fun e2 => ?_)
    · have q2 := q H (Same.refl _)
      rw [if_pos (beq_iff_eq.mp e2)] at q2
      exact ⟨_, rfl, _, rfl, x.a, C.H, _, _, _, rfl, hx.obj, T.clH, T.nH_stake, handF_stake, _, _, rfl, rfl, .inl (by decide), q2⟩
    rw [if_neg (beq_eq_false_iff_ne.mp e2)] at q
    refine ⟨_, rfl, x.a, x.d, _, rfl, hx.obj, handF_no_wins_more, x, rfl, hx, fun H2 s2 => ⟨_, rfl, ?_⟩⟩
    refine ifB (b := winsMore x.h) rfl (fun e3 => ?_) (fun e3 => ?_)
    · have e4 : Kg84.isNatural x.h.cards = true ∧ x.h.parted = false := by
        unfold winsMore at e3
        rw [Bool.and_eq_true, Bool.not_eq_true'] at e3
        exact e3
      rw [if_pos e4] at q
      refine ⟨_, rfl, x.a, C.H, _, _, _, rfl, st _ s2, T.clH, T.nH_stake, handF_stake, _, _, rfl, rfl, .inl (by decide), (by show 2 ≤ sizeLine; decide), fun p hp => ?_⟩
      have s3 := Same.upd (o := .lst [.int (3 * (x.h.stake : Nat)), .int 0]) s2 (s2.free hp)
      refine ⟨_, rfl, dl, dealer, rfl, s3.seq hD, hz, fun H4 s4 => .inr ⟨_, rfl, p, _, _, if Kg84.isNatural dealer = true then .int 0 else .int (3 * (x.h.stake : Nat)), rfl, rfl, SqL.of (s4 _ _ upd_same), ?_, ?_⟩⟩
      · show atI _ (if Kg84.isNatural dealer = true then 1 else 0) = _
        cases Kg84.isNatural dealer with
        | true => rfl
        | false => rfl
      · have q2 := q H4 (s3.trans s4)
        cases e5 : Kg84.isNatural dealer with
        | true =>
          rw [if_pos e5] at q2
          exact q2
        | false =>
          rw [if_neg (by rw [e5]; decide)] at q2
          exact q2
    have e4 : ¬ (Kg84.isNatural x.h.cards = true ∧ x.h.parted = false) := fun z => by
      unfold winsMore at e3
      rw [z.1, z.2] at e3
      cases e3
    rw [if_neg e4] at q
    refine ⟨_, rfl, dl, dealer, rfl, s2.seq hD, hz, fun H3 s3 => ⟨_, rfl, ?_⟩⟩
    have s13 := s2.trans s3
    refine ifB (b := Kg84.isNatural dealer) rfl (fun e5 => ?_) (fun e5 => ?_)
    · have q2 := q H3 s13
      rw [if_pos e5] at q2
      exact ⟨_, rfl, _, rfl, x.a, C.H, _, _, _, rfl, st _ s13, T.clH, T.nH_stake, handF_stake, _, _, rfl, rfl, .inl (by decide), q2⟩
    rw [if_neg (by rw [e5]; decide)] at q
    refine ⟨_, rfl, x.a, x.d, _, rfl, st _ s13, handF_no_paid_by_count, _, rfl, dl, dealer, rfl, s13.seq hD, hz, fun H4 s4 => ?_⟩
    have s14 := s13.trans s4
    refine ⟨x, Kg84.total dealer, rfl, hx.sameR s14, fun H5 s5 => ?_⟩
    exact q H5 (s14.trans s5)
theorem ok_Hand_told (T : Txt K mg C) : MethOk P w K mg base CX0 5 C.H "told" P_Hand_told (sp_Hand_told C) := by
  refine T.m_Hand_told.ok sc_Hand_told (fun _ _ F => b_Hand_told F) ?_ ?_
  · rintro vs H Q E ⟨x, rfl, _⟩
    rfl
  · intro f cdv A outer s H vs Q E hr h
    obtain ⟨x, rfl, hx, q⟩ := h
    refine ⟨_, (pss_cons (ps_set (i := 1) sc_Hand_told.nd rfl (Or.inl rfl) (pe_lst (pa_cons (pe_fld (pv 0) rfl) (pa_cons (pe_fld (pv 0) rfl) (pa_cons (pe_cD (ok_count_of T) hr (by decide) pass0 (pa_cons (pe_fld (pv 0) rfl) pa_nil)) (pa_cons (pe_callTy call_int1 (by rfl) T.z_int (by decide +kernel) (pa_cons (pe_cD (ok_is_soft T) hr (by decide) pass0 (pa_cons (pe_fld (pv 0) rfl) pa_nil)) pa_nil)) (pa_cons (pe_callB call_len_seq (by rfl) T.z_len PySem.boot_len (pa_cons (pe_fld (pv 0) rfl) pa_nil)) pa_nil)))))))
      (pss_one (ps_ret (pe_op op_cat (pv 1) (pe_fld (pv 0) rfl))))), ?_⟩
    have st : ∀ H', Same H H' → H' x.a = some (.ins C.H x.d (handF x.l (x.h.stake : Nat) x.h.parted (x.h.state : Nat))) := fun H' s' => s' _ _ hx.obj
    refine ⟨_, rfl, x.a, C.H, _, _, _, rfl, hx.obj, T.clH, T.nH_state, handF_state, ?_⟩
    refine ⟨_, rfl, x.a, C.H, _, _, _, rfl, hx.obj, T.clH, T.nH_stake, handF_stake, ?_⟩
    refine ⟨_, rfl, x.a, C.H, _, _, _, rfl, hx.obj, T.clH, T.nH_cards, handF_cards, x.l, x.h.cards, rfl, hx.seq, hx.short', fun H2 s2 => ?_⟩
    refine ⟨_, rfl, x.a, C.H, _, _, _, rfl, st _ s2, T.clH, T.nH_cards, handF_cards, x.l, x.h.cards, rfl, s2.seq hx.seq, hx.short', fun H3 s3 => ?_⟩
    have s13 := s2.trans s3
    refine .inr ⟨_, rfl, ?_⟩
    refine ⟨_, rfl, x.a, C.H, _, _, _, rfl, st _ s13, T.clH, T.nH_cards, handF_cards, x.l, _, rfl, .inl (s13.seq hx.seq), (by show 5 ≤ sizeLine; decide), fun p hp => ?_⟩
    have n4 := s13.free hp
    have hx4 : (upd H3 p (.lst [.int (x.h.state : Nat), .int (x.h.stake : Nat), totalV x.h.cards, .int (if Kg84.soft x.h.cards then 1 else 0), .int (cardsV x.h.cards).length])) x.a = some (.ins C.H x.d (handF x.l (x.h.stake : Nat) x.h.parted (x.h.state : Nat))) :=
      (upd_ne (ne_of_none (st _ s13) hp)).trans (st _ s13)
    refine ⟨_, rfl, _, rfl, x.a, C.H, _, _, _, rfl, hx4, T.clH, T.nH_cards, handF_cards, p, x.l, _, _, rfl, rfl, upd_same, (upd_ne (ne_of_none (s13 _ _ hx.cards) hp)).trans (s13 _ _ hx.cards), ?_, fun p2 hp2 => ?_⟩
    · rw [cardsV_len]
      have := hx.short
      exact Nat.le_of_lt (small10000 (by show 5 + _ ≤ 10000; omega))
    · have np : p2 ≠ p := fun z => by
        rw [z, upd_same] at hp2
        cases hp2
      rw [upd_ne np] at hp2
      refine q _ p2 (s13.free hp2) (Same.upd (Same.upd s13 n4) (s13.free hp2)) ?_
      rw [upd_same]
      unfold toldH
      rw [cardsV_app]
      congr 3
      show _ = [V.int ((x.h.state : Nat) : Int), .int (x.h.stake : Nat), .int (Kg84.total x.h.cards : Nat), .int ((Kg84.truth (Kg84.soft x.h.cards) : Nat) : Int), .int ((x.h.cards.length : Nat) : Int)]
      rw [cardsV_len]
      unfold Kg84.truth totalV
      cases Kg84.soft x.h.cards <;> rfl
theorem ok_split_hands (T : Txt K mg C) : DefOk P w K mg base CX0 7 "split_hands" P_split_hands (sp_split_hands C) := by
  refine T.d_split_hands.ok sc_split_hands (fun _ _ F => b_split_hands F) ?_ ?_
  · rintro vs H Q E ⟨H0, cs, x, u, v, c, d, aces, rfl, _⟩
    rfl
  · intro f cdv A outer s H vs Q E hr h
    obtain ⟨H0, cs, x, u, v, c, d, aces, rfl, O, hx, hc, q⟩ := h
    refine ⟨_, (pss_cons (ps_set (i := 3) sc_split_hands.nd rfl (Or.inl rfl) (pe_lst pa_nil))
      (pss_cons (ps_for PassesOwn.never rfl (pi_zip rfl T.z_zip (pa_cons (pe_fld (pv 0) rfl) (pa_cons (pe_lst (pa_cons (pv 1) (pa_cons (pv 2) pa_nil))) pa_nil))) (pg_tup rfl (pgs_cons (pg_name (i := 4) sc_split_hands.nd rfl (Or.inl rfl)) (pgs_cons (pg_name (i := 5) sc_split_hands.nd rfl (Or.inl rfl)) pgs_nil))) (pss_cons (ps_set (i := 6) sc_split_hands.nd rfl (Or.inl rfl) (pe_cK (ok_Hand_init T) hr (by decide) (pa_cons (pe_lst (pa_cons (pv 4) (pa_cons (pv 5) pa_nil))) (pa_cons (pe_fld (pv 0) rfl) (pa_cons pe_bl pa_nil)))))
      (pss_cons (ps_expr (pe_cM0 (ok_Hand_settle T) hr (by decide) T.clH pass0 (pv 6)))
      (pss_cons (ps_if (pt_cmp (pc_eqI (pv 4) (pe_gI T.g_ACE))) (pss_one (ps_expr (pe_cM0 (ok_Hand_end T) hr (by decide) T.clH pass0 (pv 6)))) pss_nil)
      (pss_one (ps_expr (pe_bm PySem.F.plainAttrs_list PySem.F.slot_list_append PySem.F.type_list_append mt_append (pv 3) (pa_cons (pv 6) pa_nil))))))))
      (pss_one (ps_ret (pv 3))))), ?_⟩
    have st : ∀ H', Same H H' → H' x.a = some (.ins C.H x.d (handF x.l (x.h.stake : Nat) x.h.parted (x.h.state : Nat))) := fun H' s' => s' _ _ hx.obj
    refine ⟨Nat.zero_le _, fun fa hfa => ?_⟩
    have O1 := O.new (o := .lst []) hfa
    have s1 : Same H (upd H fa (.lst [])) := same_new hfa
    refine ⟨_, rfl, x.a, C.H, _, _, _, rfl, st _ s1, T.clH, T.nH_cards, handF_cards, _, rfl, _, rfl, (by show 2 ≤ sizeLine; decide), fun z2 hz2 => ?_⟩
    have O2 := O1.frameNew (o := .lst [.int (c : Nat), .int (d : Nat)]) hz2
    have hz2' : H z2 = none := s1.free hz2
    have s2 : Same H (upd (upd H fa (.lst [])) z2 (.lst [.int (c : Nat), .int (d : Nat)])) := Same.upd s1 hz2'
    have fz0 : H0 z2 = none := O1.free hz2
    have fzs : ∀ {H'}, Same (upd H0 z2 (.lst [.int (c : Nat), .int (d : Nat)])) H' → H' z2 = some (.lst [.int (c : Nat), .int (d : Nat)]) := fun s' => s' _ _ upd_same
    have hcx : H x.l = some (.lst [.int (u : Nat), .int (v : Nat)]) := by
      rw [hx.cards, hc]
      rfl
    have hcs : Same H0 (upd H0 z2 (.lst [.int (c : Nat), .int (d : Nat)])) := same_new fz0
    refine ⟨x.l, z2, [.int (u : Nat), .int (v : Nat)], [.int (c : Nat), .int (d : Nat)], rfl, SqL.of (s2 _ _ hcx), SqL.of upd_same, ?_⟩
    refine RZ.for_zipL (K := K) (a := x.l) (b := z2) (xs := [.int (u : Nat), .int (v : Nat)]) (ys := [.int (c : Nat), .int (d : Nat)]) rfl
      (fun i σ H' => ∃ (hs : List HandL) (a1 a2 a3 : Option V), σ = [some (.ref x.a), some (.int (c : Nat)), some (.int (d : Nat)), some (.ref fa), a1, a2, a3] ∧ Same H H' ∧
        hs.map (·.h) = [halfH u c x.h.stake aces, halfH v d x.h.stake aces].take i ∧ Own (upd H0 z2 (.lst [.int (c : Nat), .int (d : Nat)])) H' ((fa, .lst (hs.map fun y => .ref y.a)) :: (hs.flatMap (HandL.cells C) ++ cs)))
      ⟨[], none, none, none, rfl, s2, rfl, O2⟩ (fun i σ H' ⟨_, _, _, _, _, s3, _, O3⟩ => ⟨SqL.of (s3 _ _ hcx), SqL.of (fzs O3.same)⟩) ?_ ?_
    · rintro i y1 y2 Tu σ H3 hi1 hi2 ⟨hs, a1, a2, a3, rfl, s3, e3, O3⟩ hT
      obtain ⟨old, new, rfl, rfl, e4⟩ : ∃ old new : Nat, y1 = .int (old : Nat) ∧ y2 = .int (new : Nat) ∧ [halfH u c x.h.stake aces, halfH v d x.h.stake aces].take (i + 1) = [halfH u c x.h.stake aces, halfH v d x.h.stake aces].take i ++ [halfH old new x.h.stake aces] := by
        match i, hi1, hi2 with
        | 0, h1, h2 => exact ⟨u, c, (Option.some.inj h1).symm, (Option.some.inj h2).symm, rfl⟩
        | 1, h1, h2 => exact ⟨v, d, (Option.some.inj h1).symm, (Option.some.inj h2).symm, rfl⟩
        | i + 2, h1, h2 => simp at h1
      refine ⟨Tu, _, rfl, SqT.of upd_same, rfl, _, _, rfl, _, _, rfl, rfl, ?_⟩
      have O4 := O3.sameR (same_new (o := .tup [.int (old : Nat), .int (new : Nat)]) hT)
      have s4 := Same.upd (o := .tup [.int (old : Nat), .int (new : Nat)]) s3 (s3.free hT)
      refine ⟨_, rfl, _, rfl, (by show 2 ≤ sizeLine; decide), fun p hp => ?_⟩
      have O5 := O4.new (o := .lst [.int (old : Nat), .int (new : Nat)]) hp
      have s5 := Same.upd (o := .lst [.int (old : Nat), .int (new : Nat)]) s4 (s4.free hp)
      refine ⟨_, rfl, x.a, C.H, _, _, _, rfl, st _ s5, T.clH, T.nH_stake, handF_stake, ?_⟩
      intro ha hd na nd ne
      have O6 := O5.sameR (same_new (o := .own ha) nd)
      have s6 := Same.upd (o := .own ha) s5 (s5.free nd)
      have na6 : (upd (upd (upd H3 Tu (.tup [.int (old : Nat), .int (new : Nat)])) p (.lst [.int (old : Nat), .int (new : Nat)])) hd (.own ha)) ha = none := by
        rw [upd_ne (Ne.symm ne)]
        exact na
      have O7 := O6.new (o := .ins C.H hd []) na6
      have s7 := Same.upd (o := .ins C.H hd []) s6 (s6.free na6)
      refine ⟨ha, p, hd, _, _, rfl, upd_same, rfl, ?_⟩
      have O8 := O7.put0 (HandL.obj C ⟨ha, p, hd, ⟨[old, new], x.h.stake, 0, false, true, aces⟩⟩)
      have s8 := Same.upd (o := HandL.obj C ⟨ha, p, hd, ⟨[old, new], x.h.stake, 0, false, true, aces⟩⟩) s7 (s6.free na6)
      have hy : HandAt C _ ⟨ha, p, hd, ⟨[old, new], x.h.stake, 0, false, true, aces⟩⟩ := ⟨O8.get0, O8.holds (p, .lst [.int (old : Nat), .int (new : Nat)]) (by simp), (by show 2 ≤ 9000; decide)⟩
      refine ⟨_, rfl, ha, hd, _, rfl, hy.obj, handF_no_settle, _, rfl, hy, fun H9 s9 => ?_⟩
      have O9 := (O8.put0 (HandL.obj C ⟨ha, p, hd, settleH ⟨[old, new], x.h.stake, 0, false, true, aces⟩⟩)).sameR s9
      have s9' : Same H H9 := (Same.upd s8 (s6.free na6)).trans s9
      have cse : (settleH ⟨[old, new], x.h.stake, 0, false, true, aces⟩).cards = [old, new] := by
        unfold settleH
        split
        · rfl
        · split <;> rfl
      have fin : ∀ (H' : Hp) (g : Kg84.Hand), g = halfH old new x.h.stake aces → g.cards = [old, new] → Same H H' → Own (upd H0 z2 (.lst [.int (c : Nat), .int (d : Nat)])) H' ((ha, HandL.obj C ⟨ha, p, hd, g⟩) :: (p, .lst [.int (old : Nat), .int (new : Nat)]) :: (fa, .lst (hs.map fun y => .ref y.a)) :: (hs.flatMap (HandL.cells C) ++ cs)) →
          H' fa = some (.lst (hs.map fun y => .ref y.a)) ∧ (hs.map fun y => V.ref y.a).length < sizeLine ∧
          ∃ (hs' : List HandL) (b1 b2 b3 : Option V), [some (V.ref x.a), some (.int (c : Nat)), some (.int (d : Nat)), some (.ref fa), some (.int (old : Nat)), some (.int (new : Nat)), some (.ref ha)] = [some (.ref x.a), some (.int (c : Nat)), some (.int (d : Nat)), some (.ref fa), b1, b2, b3] ∧
            Same H (upd H' fa (.lst ((hs.map fun y => .ref y.a) ++ [.ref ha]))) ∧ hs'.map (·.h) = [halfH u c x.h.stake aces, halfH v d x.h.stake aces].take (i + 1) ∧
            Own (upd H0 z2 (.lst [.int (c : Nat), .int (d : Nat)])) (upd H' fa (.lst ((hs.map fun y => .ref y.a) ++ [.ref ha]))) ((fa, .lst (hs'.map fun y => .ref y.a)) :: (hs'.flatMap (HandL.cells C) ++ cs)) := by
        intro H' g eg ec s' O'
        have hle : hs.length ≤ 2 := by
          have := congrArg List.length e3
          rw [List.length_map, List.length_take] at this
          rw [this]
          exact Nat.min_le_right _ _
        refine ⟨O'.holds (fa, _) (by simp), ?_, hs ++ [⟨ha, p, hd, g⟩], _, _, _, rfl, Same.upd s' hfa, ?_, ?_⟩
        · rw [List.length_map]
          exact small10000 (by omega)
        · rw [List.map_append, e3, e4, eg]
          rfl
        · have O2' := Own.put (A := [(ha, HandL.obj C ⟨ha, p, hd, g⟩), (p, .lst [.int (old : Nat), .int (new : Nat)])]) O' (.lst ((hs.map fun y => .ref y.a) ++ [.ref ha]))
          refine O2'.perm ?_
          have ecell : HandL.cells C ⟨ha, p, hd, g⟩ = [(ha, HandL.obj C ⟨ha, p, hd, g⟩), (p, .lst [.int (old : Nat), .int (new : Nat)])] := by
            unfold HandL.cells
            rw [show (HandL.mk ha p hd g).h.cards = [old, new] from ec]
            rfl
          have e6 : (hs ++ [HandL.mk ha p hd g]).flatMap (HandL.cells C) = hs.flatMap (HandL.cells C) ++ [(ha, HandL.obj C ⟨ha, p, hd, g⟩), (p, .lst [.int (old : Nat), .int (new : Nat)])] := by
            rw [List.flatMap_append, List.flatMap_singleton, ecell]
          rw [e6, List.map_append]
          refine List.perm_middle.trans (.cons _ ?_)
          rw [← List.append_assoc]
          exact List.perm_append_comm.append_right _
      refine ⟨_, rfl, _, _, rfl, rfl, _, rfl, ?_⟩
      refine ifB (b := old == 1) (nat_eq _ 1) (fun e5 => ?_) (fun e5 => ?_)
      · have hy9 : HandAt C H9 ⟨ha, p, hd, settleH ⟨[old, new], x.h.stake, 0, false, true, aces⟩⟩ := ⟨O9.get0, by
          show H9 p = some (.lst (cardsV (settleH ⟨[old, new], x.h.stake, 0, false, true, aces⟩).cards))
          rw [cse]
          exact O9.holds (p, .lst [.int (old : Nat), .int (new : Nat)]) (by simp), by
          show (settleH ⟨[old, new], x.h.stake, 0, false, true, aces⟩).cards.length ≤ 9000
          rw [cse]
          exact (by decide : 2 ≤ 9000)⟩
        refine ⟨_, rfl, ha, hd, _, rfl, hy9.obj, handF_no_end, _, rfl, hy9, fun H10 s10 => ?_⟩
        have O10 := (O9.put0 (HandL.obj C ⟨ha, p, hd, endH (settleH ⟨[old, new], x.h.stake, 0, false, true, aces⟩)⟩)).sameR s10
        have s10' : Same H H10 := (Same.upd s9' (s6.free na6)).trans s10
        have ce : (endH (settleH ⟨[old, new], x.h.stake, 0, false, true, aces⟩)).cards = [old, new] := by
          unfold endH
          generalize hg : settleH ⟨[old, new], x.h.stake, 0, false, true, aces⟩ = g
          rw [hg] at cse
          unfold settleH
          split
          · exact cse
          · split <;> exact cse
        obtain ⟨f1, f2, f3⟩ := fin H10 _ (by unfold halfH; rw [if_pos (beq_iff_eq.mp e5)]) ce s10' O10
        exact ⟨_, rfl, .inl ⟨rfl, _, SqL.of f1⟩, _, rfl, fa, _, _, rfl, rfl, f1, f2, f3⟩
      · obtain ⟨f1, f2, f3⟩ := fin H9 _ (by unfold halfH; rw [if_neg (beq_eq_false_iff_ne.mp e5)]) cse s9' O9
        exact ⟨_, rfl, .inl ⟨rfl, _, SqL.of f1⟩, _, rfl, fa, _, _, rfl, rfl, f1, f2, f3⟩
    · rintro σ H3 ⟨hs, a1, a2, a3, rfl, s3, e3, O3⟩
      obtain ⟨x1, x2, rfl⟩ : ∃ x1 x2, hs = [x1, x2] := by
        have := congrArg List.length e3
        match hs, this with
        | [x1, x2], _ => exact ⟨x1, x2, rfl⟩
      have e3' : [x1.h, x2.h] = [halfH u c x.h.stake aces, halfH v d x.h.stake aces] := e3
      injection e3' with g1 g2
      injection g2 with g2 _
      refine ⟨_, rfl, q H3 fa x1 x2 ?_ s3 g1 g2⟩
      have O4 := O3.weak hcs
      have e7 : [x1, x2].flatMap (HandL.cells C) ++ cs = HandL.cells C x1 ++ (HandL.cells C x2 ++ cs) := by simp
      rw [e7] at O4
      exact O4
end
end Bj
namespace Bj
open PySem PySem.Spec PyProof.Rows L2
structure SeatL where
  a : Addr
  l : Addr
  d : Addr
  stake : Nat
  insured : Nat
  won : Int
  hs : List HandL
def SeatL.obj (C : Adr) (s : SeatL) : HO := .ins C.S s.d (seatF (s.stake : Nat) (s.insured : Nat) s.won s.l)
def refsH (hs : List HandL) : List V := hs.map fun x => V.ref x.a
def SeatL.own (C : Adr) (s : SeatL) : List Cell := [(s.a, s.obj C), (s.l, .lst (refsH s.hs))]
def SeatL.x (s : SeatL) : Kg84.Seat := ⟨s.stake, s.insured, s.hs.map (·.h)⟩
def HandsIn (C : Adr) (cs : List Cell) (hs : List HandL) : Prop := ∀ x ∈ hs, (x.a, x.obj C) ∈ cs ∧ (x.l, HO.lst (cardsV x.h.cards)) ∈ cs ∧ x.h.cards.length ≤ 9000
theorem HandsIn.at {C : Adr} {H0 H : Hp} {cs : List Cell} {hs : List HandL} (h : HandsIn C cs hs) (O : Own H0 H cs) {x : HandL} (hx : x ∈ hs) : HandAt C H x :=
  ⟨O.holds _ (h x hx).1, O.holds _ (h x hx).2.1, (h x hx).2.2⟩
def seatNums (s : SeatL) : List Int := [(s.stake : Int), (s.insured : Int), s.won, (s.hs.length : Int)] ++ s.hs.flatMap fun x => Kg84.whole (toldH x.h)
def SeatL.paid (dealer : List Nat) (s : SeatL) : SeatL := { s with won := s.won + s.x.wins dealer }
def sp_Seat_init (C : Adr) : Sp := fun vs H Q _ => ∃ (H0 : Hp) (cs : List Cell) (p dx : Addr), vs = [.ref p] ∧ Own H0 H ((p, .ins C.S dx []) :: cs) ∧ ∀ H' l, Own H0 H' ((p, .ins C.S dx (seatF 0 0 0 l)) :: (l, .lst []) :: cs) → Q .non H'
def sp_Seat_clear_round (C : Adr) : Sp := fun vs H Q _ => ∃ (H0 : Hp) (cs : List Cell) (s : SeatL), vs = [.ref s.a] ∧ Own H0 H ((s.a, s.obj C) :: cs) ∧
  ∀ H' l, Own H0 H' ((s.a, SeatL.obj C { s with stake := 0, insured := 0, l := l, hs := [] }) :: (l, .lst []) :: cs) → Q .non H'
def sp_Seat_pay (C : Adr) : Sp := fun vs H Q _ => ∃ (H0 : Hp) (cs : List Cell) (s : SeatL) (dl : Addr) (dealer : List Nat), vs = [.ref s.a, .ref dl] ∧ Own H0 H ((s.a, s.obj C) :: cs) ∧ (s.l, HO.lst (refsH s.hs)) ∈ cs ∧ HandsIn C cs s.hs ∧
  (dl, HO.lst (cardsV dealer)) ∈ cs ∧ dealer.length ≤ 10000 ∧ ∀ H', Own H0 H' ((s.a, (s.paid dealer).obj C) :: cs) → Q .non H'
def sp_Seat_numbers (C : Adr) : Sp := fun vs H Q _ => ∃ (H0 : Hp) (cs : List Cell) (s : SeatL), vs = [.ref s.a] ∧ Own H0 H cs ∧ (s.a, s.obj C) ∈ cs ∧ (s.l, HO.lst (refsH s.hs)) ∈ cs ∧ HandsIn C cs s.hs ∧ s.hs.length ≤ 300 ∧
  ∀ H' p, Own H0 H' ((p, .lst ((seatNums s).map V.int)) :: cs) → Same H H' → Q (.ref p) H'
theorem wins_eq (dealer : List Nat) (s : SeatL) : s.x.wins dealer = ((s.hs.map fun x => Kg84.pays dealer x.h).sum) + (if Kg84.isNatural dealer = true then 2 * (s.insured : Int) else -(s.insured : Int)) := by
  unfold Kg84.Seat.wins SeatL.x Kg84.insurance
  dsimp only
  rw [List.map_map]
  congr 1
  by_cases h : s.insured = 0
  · rw [if_pos h, h]
    split <;> rfl
  · rw [if_neg h]
theorem sum_more : ∀ {l : List Int} {i : Nat} {z : Int}, l[i]? = some z → (l.take (i + 1)).sum = (l.take i).sum + z := fun h => by
  rw [take_more h, List.sum_append]
  simp
theorem refs_at {hs : List HandL} {i : Nat} {v : V} (h : (refsH hs)[i]? = some v) : ∃ x, hs[i]? = some x ∧ v = .ref x.a := by
  unfold refsH at h
  rw [List.getElem?_map] at h
  cases e : hs[i]? with
  | none => rw [e] at h; cases h
  | some x => rw [e] at h; exact ⟨x, rfl, (Option.some.inj h).symm⟩
section
variable {P : Program} {w : World} {K : PySem.W.Frag} {mg : Str → Option Value} {base : Heap} {C : Adr}
theorem ok_Seat_init (T : Txt K mg C) : MakeOk P w K mg base 1 C.S "Seat" P_Seat_init (sp_Seat_init C) := by
  refine T.k_Seat_init.ok sc_Seat_init (fun _ _ F => b_Seat_init F) ?_ ?_
  · rintro vs H Q E ⟨H0, cs, p, dx, rfl, _⟩
    rfl
  · intro f cdv A outer s H vs Q E hr h
    obtain ⟨H0, cs, p, dx, rfl, O, q⟩ := h
    refine ⟨_, (pss_cons (ps_fld (pv 0) pe_int rfl)
      (pss_cons (ps_fld (pv 0) pe_int rfl)
      (pss_cons (ps_fld (pv 0) pe_int rfl)
      (pss_one (ps_fld (pv 0) (pe_lst pa_nil) rfl))))), ?_⟩
    have O1 := O.put0 (.ins C.S dx (putF "stake" (.int 0) []))
    refine ⟨_, rfl, p, C.S, dx, _, rfl, O.get0, T.clS, T.nS_stake, (by show 0 < 1000; decide), ?_⟩
    have O2 := O1.put0 (.ins C.S dx (putF "insured" (.int 0) (putF "stake" (.int 0) [])))
    refine ⟨_, rfl, p, C.S, dx, _, rfl, O1.get0, T.clS, T.nS_insured, (by show 1 < 1000; decide), ?_⟩
    have O3 := O2.put0 (.ins C.S dx (putF "won" (.int 0) (putF "insured" (.int 0) (putF "stake" (.int 0) []))))
    refine ⟨_, rfl, p, C.S, dx, _, rfl, O2.get0, T.clS, T.nS_won, Nat.lt_of_le_of_lt putF_len (by show 1 + 1 < 1000; decide), ?_⟩
    refine ⟨Nat.zero_le _, fun l hl => ?_⟩
    have O4 := O3.new (o := .lst []) hl
    have O4' := O4.perm (List.Perm.swap _ _ _)
    refine ⟨_, rfl, p, C.S, dx, _, rfl, O4'.get0, T.clS, T.nS_hands, Nat.lt_of_le_of_lt putF_len (Nat.lt_of_le_of_lt (Nat.succ_le_succ putF_len) (by show 1 + 1 + 1 < 1000; decide)), ?_⟩
    have O5 := O4'.put0 (.ins C.S dx (putF "hands" (.ref l) (putF "won" (.int 0) (putF "insured" (.int 0) (putF "stake" (.int 0) [])))))
    rw [seatF_new] at O5
    rw [seatF_new]
    exact q _ l O5
theorem ok_Seat_clear_round (T : Txt K mg C) : MethOk P w K mg base CX0 1 C.S "clear_round" P_Seat_clear_round (sp_Seat_clear_round C) := by
  refine T.m_Seat_clear_round.ok sc_Seat_clear_round (fun _ _ F => b_Seat_clear_round F) ?_ ?_
  · rintro vs H Q E ⟨H0, cs, s, rfl, _⟩
    rfl
  · intro f cdv A outer sh H vs Q E hr h
    obtain ⟨H0, cs, s, rfl, O, q⟩ := h
    refine ⟨_, (pss_cons (ps_fld (pv 0) pe_int rfl)
      (pss_cons (ps_fld (pv 0) pe_int rfl)
      (pss_one (ps_fld (pv 0) (pe_lst pa_nil) rfl)))), ?_⟩
    have O1 := O.put0 (SeatL.obj C { s with stake := 0 })
    refine ⟨_, rfl, s.a, C.S, s.d, _, rfl, O.get0, T.clS, T.nS_stake, seatF_len, ?_⟩
    rw [seatF_put_stake]
    have O2 := O1.put0 (SeatL.obj C { s with stake := 0, insured := 0 })
    refine ⟨_, rfl, s.a, C.S, s.d, _, rfl, O1.get0, T.clS, T.nS_insured, seatF_len, ?_⟩
    rw [seatF_put_insured]
    refine ⟨Nat.zero_le _, fun l hl => ?_⟩
    have O4 := O2.new (o := .lst []) hl
    have O4' := O4.perm (List.Perm.swap _ _ _)
    refine ⟨_, rfl, s.a, C.S, s.d, _, rfl, O4'.get0, T.clS, T.nS_hands, seatF_len, ?_⟩
    rw [seatF_put_hands]
    exact q _ l (O4'.put0 _)
theorem ok_Seat_pay (T : Txt K mg C) : MethOk P w K mg base CX0 8 C.S "pay" P_Seat_pay (sp_Seat_pay C) := by
  refine T.m_Seat_pay.ok sc_Seat_pay (fun _ _ F => b_Seat_pay F) ?_ ?_
  · rintro vs H Q E ⟨H0, cs, s, dl, dealer, rfl, _⟩
    rfl
  · intro f cdv A outer sh H vs Q E hr h
    obtain ⟨H0, cs, s, dl, dealer, rfl, O, hl, hH, hD, hz, q⟩ := h
    refine ⟨_, (pss_cons (ps_for PassesOwn.never rfl (pi_list (pe_fld (pv 0) rfl)) (pg_name (i := 2) sc_Seat_pay.nd rfl (Or.inl rfl)) (pss_one (ps_fld (pv 0) (pe_op op_add (pe_fld (pv 0) rfl) (pe_cM (ok_Hand_paid T) hr (by decide) T.clH pass0 (pv 2) (pa_cons (pv 1) pa_nil))) rfl)))
      (pss_one (ps_if (pt_val (pe_cD (ok_is_natural T) hr (by decide) pass0 (pa_cons (pv 1) pa_nil))) (pss_one (ps_fld (pv 0) (pe_op op_add (pe_fld (pv 0) rfl) (pe_op op_mul pe_int (pe_fld (pv 0) rfl))) rfl)) (pss_one (ps_fld (pv 0) (pe_op op_sub (pe_fld (pv 0) rfl) (pe_fld (pv 0) rfl)) rfl))))), ?_⟩
    refine ⟨_, rfl, s.a, C.S, _, _, _, rfl, O.get0, T.clS, T.nS_hands, seatF_hands, s.l, rfl, ⟨_, SqL.of (O.drop.holds _ hl)⟩, ?_⟩
    refine for_list (K := K) (a := s.l) (xs := refsH s.hs) (fun i σ H' => ∃ v : Option V, σ = [some (.ref s.a), some (.ref dl), v] ∧ Own H0 H' ((s.a, SeatL.obj C { s with won := s.won + ((s.hs.map fun x => Kg84.pays dealer x.h).take i).sum }) :: cs))
      ⟨none, rfl, ?_⟩ (fun i σ H' _ ⟨_, _, O'⟩ => SqL.of (O'.drop.holds _ hl)) ?_ ?_
    · show Own H0 H ((s.a, SeatL.obj C { s with won := s.won + 0 }) :: cs)
      rw [Int.add_zero]
      exact O
    · rintro i y σ H2 hi ⟨v, rfl, O2⟩
      obtain ⟨x, hx, rfl⟩ := refs_at hi
      have hxm := List.mem_of_getElem? hx
      have hA := hH.at O2.drop hxm
      refine ⟨_, rfl, s.a, C.S, _, _, _, rfl, O2.get0, T.clS, T.nS_won, seatF_won, ?_⟩
      refine ⟨_, rfl, x.a, x.d, _, rfl, hA.obj, handF_no_paid, _, rfl, x, dl, dealer, rfl, hA, SqL.of (O2.drop.holds _ hD), hz, fun H3 s3 => ?_⟩
      have O3 := O2.sameR s3
      refine ⟨_, _, rfl, rfl, _, rfl, s.a, C.S, _, _, rfl, O3.get0, T.clS, T.nS_won, seatF_len, ?_⟩
      rw [seatF_put_won]
      refine ⟨_, rfl, ?_⟩
      have e := sum_more (l := s.hs.map fun x => Kg84.pays dealer x.h) (i := i) (z := Kg84.pays dealer x.h) (by rw [List.getElem?_map, hx]; rfl)
      rw [e, ← Int.add_assoc]
      exact O3.put0 _
    · rintro σ H2 ⟨v, rfl, O2⟩
      have e : (refsH s.hs).length = (s.hs.map fun x => Kg84.pays dealer x.h).length := by unfold refsH; rw [List.length_map, List.length_map]
      rw [e, List.take_length] at O2
      have we := wins_eq dealer s
      refine ⟨_, rfl, dl, dealer, rfl, SqL.of (O2.drop.holds _ hD), hz, fun H3 s3 => ⟨_, rfl, ?_⟩⟩
      have O3 := O2.sameR s3
      refine ifB (b := Kg84.isNatural dealer) rfl (fun e => ?_) (fun e => ?_)
      · refine ⟨_, rfl, s.a, C.S, _, _, _, rfl, O3.get0, T.clS, T.nS_won, seatF_won, _, rfl, s.a, C.S, _, _, _, rfl, O3.get0, T.clS, T.nS_insured, seatF_insured, _, _, rfl, rfl, .inl (by decide), _, _, rfl, rfl, _, rfl, s.a, C.S, _, _, rfl, O3.get0, T.clS, T.nS_won, seatF_len, ?_⟩
        rw [seatF_put_won]
        refine q _ ?_
        unfold SeatL.paid
        rw [wins_eq, if_pos e, ← Int.add_assoc]
        exact O3.put0 _
      · refine ⟨_, rfl, s.a, C.S, _, _, _, rfl, O3.get0, T.clS, T.nS_won, seatF_won, _, rfl, s.a, C.S, _, _, _, rfl, O3.get0, T.clS, T.nS_insured, seatF_insured, _, _, rfl, rfl, _, rfl, s.a, C.S, _, _, rfl, O3.get0, T.clS, T.nS_won, seatF_len, ?_⟩
        rw [seatF_put_won]
        refine q _ ?_
        unfold SeatL.paid
        rw [wins_eq, if_neg (by rw [e]; decide), ← Int.add_assoc, ← Int.sub_eq_add_neg]
        exact O3.put0 _
theorem ok_Seat_numbers (T : Txt K mg C) : MethOk P w K mg base CX0 6 C.S "numbers" P_Seat_numbers (sp_Seat_numbers C) := by
  refine T.m_Seat_numbers.ok sc_Seat_numbers (fun _ _ F => b_Seat_numbers F) ?_ ?_
  · rintro vs H Q E ⟨H0, cs, s, rfl, _⟩
    rfl
  · intro f cdv A outer sh H vs Q E hr h
    obtain ⟨H0, cs, s, rfl, O, ho, hl, hH, hz, q⟩ := h
    refine ⟨_, (pss_cons (ps_set (i := 1) sc_Seat_numbers.nd rfl (Or.inl rfl) (pe_lst (pa_cons (pe_fld (pv 0) rfl) (pa_cons (pe_fld (pv 0) rfl) (pa_cons (pe_fld (pv 0) rfl) (pa_cons (pe_callB call_len_seq (by rfl) T.z_len PySem.boot_len (pa_cons (pe_fld (pv 0) rfl) pa_nil)) pa_nil))))))
      (pss_cons (ps_for PassesOwn.never rfl (pi_list (pe_fld (pv 0) rfl)) (pg_name (i := 2) sc_Seat_numbers.nd rfl (Or.inl rfl)) (pss_one (ps_expr (pe_bm PySem.F.plainAttrs_list PySem.F.slot_list_extend PySem.F.type_list_extend mt_extend (pv 1) (pa_cons (pe_cM0 (ok_Hand_told T) hr (by decide) T.clH pass0 (pv 2)) pa_nil)))))
      (pss_one (ps_ret (pv 1))))), ?_⟩
    have ob := O.holds _ ho
    refine ⟨_, rfl, s.a, C.S, _, _, _, rfl, ob, T.clS, T.nS_stake, seatF_stake, _, rfl, s.a, C.S, _, _, _, rfl, ob, T.clS, T.nS_insured, seatF_insured, _, rfl, s.a, C.S, _, _, _, rfl, ob, T.clS, T.nS_won, seatF_won, _, rfl, s.a, C.S, _, _, _, rfl, ob, T.clS, T.nS_hands, seatF_hands, s.l, _, rfl, .inl (SqL.of (O.holds _ hl)), (by show 4 ≤ sizeLine; decide), fun p hp => ?_⟩
    have elen : (refsH s.hs).length = s.hs.length := by unfold refsH; rw [List.length_map]
    have start : (V.int (s.stake : Nat) :: V.int (s.insured : Nat) :: V.int s.won :: V.int ((refsH s.hs).length : Nat) :: []) = (([(s.stake : Int), (s.insured : Int), s.won, (s.hs.length : Int)] ++ (s.hs.take 0).flatMap fun x => Kg84.whole (toldH x.h)) : List Int).map V.int := by
      rw [elen]
      simp
    have O1 := O.new (o := .lst (V.int (s.stake : Nat) :: V.int (s.insured : Nat) :: V.int s.won :: V.int ((refsH s.hs).length : Nat) :: [])) hp
    have s1 : Same H (upd H p (.lst (V.int (s.stake : Nat) :: V.int (s.insured : Nat) :: V.int s.won :: V.int ((refsH s.hs).length : Nat) :: []))) := same_new hp
    refine ⟨_, rfl, s.a, C.S, _, _, _, rfl, s1 _ _ ob, T.clS, T.nS_hands, seatF_hands, s.l, rfl, ⟨_, SqL.of (O1.drop.holds _ hl)⟩, ?_⟩
    refine for_list (K := K) (a := s.l) (xs := refsH s.hs) (fun i σ H' => ∃ v : Option V, σ = [some (.ref s.a), some (.ref p), v] ∧ Same H H' ∧
        Own H0 H' ((p, .lst ((([(s.stake : Int), (s.insured : Int), s.won, (s.hs.length : Int)] ++ (s.hs.take i).flatMap fun x => Kg84.whole (toldH x.h)) : List Int).map V.int)) :: cs))
      ⟨none, rfl, s1, by rw [← start]; exact O1⟩ (fun i σ H' _ ⟨_, _, _, O'⟩ => SqL.of (O'.drop.holds _ hl)) ?_ ?_
    · rintro i y σ H2 hi ⟨v, rfl, s2, O2⟩
      obtain ⟨x, hx, rfl⟩ := refs_at hi
      have hxm := List.mem_of_getElem? hx
      have hA := hH.at O2.drop hxm
      refine ⟨_, rfl, .inl ⟨rfl, _, SqL.of O2.get0⟩, ?_⟩
      refine ⟨_, rfl, x.a, x.d, _, rfl, hA.obj, handF_no_told, x, rfl, hA, fun H3 p3 hp3 s3 e3 => ?_⟩
      have O3 := O2.sameR s3
      have ilt : i < s.hs.length := (List.getElem?_eq_some_iff.mp hx).1
      have each : ∀ y ∈ s.hs.take i, (Kg84.whole (toldH y.h)).length ≤ 9005 := fun y hy => by
        have := (hH y (List.mem_of_mem_take hy)).2.2
        unfold toldH Kg84.whole
        rw [List.length_map, List.length_append]
        show 5 + _ ≤ _
        omega
      have bnd : ∀ (l : List HandL), (∀ y ∈ l, (Kg84.whole (toldH y.h)).length ≤ 9005) → (l.flatMap fun x => Kg84.whole (toldH x.h)).length ≤ 9005 * l.length := by
        intro l
        induction l with
        | nil => intro _; simp
        | cons z l ih =>
          intro hh
          have h1 := hh z (by simp)
          have h2 := ih fun y hy => hh y (by simp [hy])
          rw [List.flatMap_cons, List.length_append, List.length_cons]
          omega
      have b1 := bnd _ each
      have b2 : (Kg84.whole (toldH x.h)).length ≤ 9005 := by
        have := hA.short
        unfold toldH Kg84.whole
        rw [List.length_map, List.length_append]
        show 5 + _ ≤ _
        omega
      refine ⟨p, p3, _, _, rfl, rfl, O3.get0, e3, ?_, v.elim (some (.ref x.a)) fun _ => some (.ref x.a), ?_, ?_, ?_⟩
      · rw [List.length_map, List.length_append]
        unfold cardsV
        rw [List.length_map]
        rw [List.length_take] at b1
        have : min i s.hs.length ≤ 300 := by omega
        rw [sizeLine_eq]
        show 4 + _ + _ ≤ _
        omega
      · cases v <;> rfl
      · exact Same.upd (s2.trans s3) hp
      · have O4 := O3.put0 (.lst ((([(s.stake : Int), (s.insured : Int), s.won, (s.hs.length : Int)] ++ (s.hs.take i).flatMap fun x => Kg84.whole (toldH x.h)) : List Int).map V.int ++ cardsV (toldH x.h)))
        have eL : (([(s.stake : Int), (s.insured : Int), s.won, (s.hs.length : Int)] ++ (s.hs.take i).flatMap fun x => Kg84.whole (toldH x.h)) : List Int).map V.int ++ cardsV (toldH x.h) = (([(s.stake : Int), (s.insured : Int), s.won, (s.hs.length : Int)] ++ (s.hs.take (i + 1)).flatMap fun x => Kg84.whole (toldH x.h)) : List Int).map V.int := by
          unfold cardsV
          rw [← List.map_append, List.append_assoc, take_more hx, List.flatMap_append, List.flatMap_singleton]
        rw [← eL]
        exact O4
    · rintro σ H2 ⟨v, rfl, s2, O2⟩
      rw [elen, List.take_length] at O2
      exact ⟨_, rfl, q H2 p O2 s2⟩
end
end Bj
namespace Bj
open PySem PySem.Spec PyProof.Rows L2
def decS (left : List Nat) (c : Nat) : List Nat := left.set (c - 1) (left.getD (c - 1) 0 - 1)
theorem decS_len (left : List Nat) (c : Nat) : (decS left c).length = left.length := List.length_set
theorem drawn_cons (left : List Nat) (c : Nat) (l : List Nat) : Kg84.drawn left (c :: l) = if 0 < left.getD (c - 1) 0 then Kg84.drawn (decS left c) l else none := rfl
theorem decS_at {left : List Nat} {c k : Nat} (hc : c - 1 < left.length) : (decS left c).getD k 0 = if k = c - 1 then left.getD (c - 1) 0 - 1 else left.getD k 0 := by
  unfold decS
  rw [List.getD_eq_getElem?_getD, List.getElem?_set]
  by_cases h : c - 1 = k
  · rw [if_pos h, if_pos h.symm, if_pos (h ▸ hc)]
    rfl
  · rw [if_neg h, if_neg (fun z => h z.symm), List.getD_eq_getElem?_getD]
def inDeck (l : List Nat) : Prop := ∀ c ∈ l, 1 ≤ c ∧ c ≤ 13
theorem drawn_iff : ∀ (l left : List Nat), inDeck l → left.length = 13 → ((Kg84.drawn left l).isSome = true ↔ ∀ c ∈ l, l.count c ≤ left.getD (c - 1) 0)
  | [], left, _, _ => by simp [Kg84.drawn]
  | c :: l, left, h, hl => by
    have hc := h c (by simp)
    have ih := drawn_iff l (decS left c) (fun x hx => h x (by simp [hx])) (by rw [decS_len]; exact hl)
    have hcl : c - 1 < left.length := by omega
    rw [drawn_cons]
    by_cases v : 0 < left.getD (c - 1) 0
    · rw [if_pos v, ih]
      constructor
      · intro k x hx
        rw [List.count_cons]
        by_cases e : x = c
        · subst e
          by_cases hm : x ∈ l
          · have := k x hm
            rw [decS_at hcl, if_pos rfl] at this
            simp only [beq_self_eq_true, if_true]
            omega
          · rw [List.count_eq_zero_of_not_mem hm]
            simp only [beq_self_eq_true, if_true]
            omega
        · have hx' : x ∈ l := by
            rcases List.mem_cons.mp hx with z | z
            · exact absurd z e
            · exact z
          have := k x hx'
          have hx1 := h x (by simp [hx'])
          rw [decS_at hcl, if_neg (by omega)] at this
          rw [if_neg (by simpa using fun z => e z.symm)]
          omega
      · intro k x hx
        have hx1 := h x (by simp [hx])
        have := k x (by simp [hx])
        rw [List.count_cons] at this
        rw [decS_at hcl]
        by_cases e : x = c
        · subst e
          simp only [beq_self_eq_true, if_true] at this
          rw [if_pos rfl]
          omega
        · rw [if_neg (by simpa using fun z => e z.symm)] at this
          rw [if_neg (by omega)]
          omega
    · rw [if_neg v]
      constructor
      · intro z
        cases z
      · intro k
        have := k c (by simp)
        rw [List.count_cons_self] at this
        omega
theorem drawn_append : ∀ (l m left : List Nat), Kg84.drawn left (l ++ m) = (Kg84.drawn left l).bind fun z => Kg84.drawn z m
  | [], m, left => rfl
  | c :: l, m, left => by
    rw [List.cons_append, drawn_cons, drawn_cons]
    by_cases v : 0 < left.getD (c - 1) 0
    · rw [if_pos v, if_pos v]
      exact drawn_append l m _
    · rw [if_neg v, if_neg v]
      rfl
theorem drawn_len : ∀ {l left z : List Nat}, Kg84.drawn left l = some z → z.length = left.length
  | [], left, z, h => by
    cases h
    rfl
  | c :: l, left, z, h => by
    rw [drawn_cons] at h
    by_cases v : 0 < left.getD (c - 1) 0
    · rw [if_pos v] at h
      rw [drawn_len h, decS_len]
    · rw [if_neg v] at h
      cases h
theorem count_whole (l : List Nat) (c : Nat) : (Kg84.whole l).count ((c : Nat) : Int) = l.count c := by
  induction l with
  | nil => rfl
  | cons a r ih =>
    unfold Kg84.whole at ih ⊢
    rw [List.map_cons, List.count_cons, List.count_cons, ih]
    congr 1
    by_cases h : a = c
    · subst h
      simp
    · have h' : ¬ ((a : Nat) : Int) = ((c : Nat) : Int) := fun z => h (by omega)
      rw [if_neg (by rw [beq_iff_eq]; exact h'), if_neg (by rw [beq_iff_eq]; exact h)]
def shoeO (C : Adr) (d lf : Addr) : HO := .ins C.O d (shoeF lf)
def hasAll (left l : List Nat) : Bool := l.all fun c => decide (l.count c ≤ left.getD (c - 1) 0)
theorem hasAll_eq {left l : List Nat} (h : inDeck l) (hl : left.length = 13) : hasAll left l = (Kg84.drawn left l).isSome := by
  rw [Bool.eq_iff_iff, drawn_iff l left h hl]
  unfold hasAll
  rw [List.all_eq_true]
  simp only [decide_eq_true_eq]
def sp_Shoe_init (C : Adr) : Sp := fun vs H Q _ => ∃ (H0 : Hp) (cs : List Cell) (p dx : Addr) (decks : Nat), vs = [.ref p, .int (decks : Nat)] ∧ Own H0 H ((p, .ins C.O dx []) :: cs) ∧
  ∀ H' l, Own H0 H' ((p, shoeO C dx l) :: (l, .lst (cardsV (Kg84.fullShoe decks))) :: cs) → Q .non H'
def sp_Shoe_many (C : Adr) : Sp := fun vs H Q _ => ∃ (p dx lf : Addr) (left : List Nat), vs = [.ref p] ∧ H p = some (shoeO C dx lf) ∧ H lf = some (.lst (cardsV left)) ∧ Q (.int (left.sum : Nat)) H
def sp_Shoe_has_all (C : Adr) (K : PySem.W.Frag) : Sp := fun vs H Q _ => ∃ (p dx lf ca : Addr) (left l : List Nat), vs = [.ref p, .ref ca] ∧ H p = some (shoeO C dx lf) ∧ H lf = some (.lst (cardsV left)) ∧ left.length = 13 ∧
  SqL K H ca (cardsV l) ∧ inDeck l ∧ l.length ≤ 10000 ∧ ∀ H', Same H H' → Q (.bl (Kg84.drawn left l).isSome) H'
def sp_Shoe_take (C : Adr) (K : PySem.W.Frag) : Sp := fun vs H Q _ => ∃ (H0 : Hp) (cs : List Cell) (p dx lf ca : Addr) (left l z : List Nat), vs = [.ref p, .ref ca] ∧ Own H0 H ((p, shoeO C dx lf) :: (lf, .lst (cardsV left)) :: cs) ∧ left.length = 13 ∧
  SqL K H0 ca (cardsV l) ∧ inDeck l ∧ Kg84.drawn left l = some z ∧ ∀ H', Own H0 H' ((p, shoeO C dx lf) :: (lf, .lst (cardsV z)) :: cs) → Q .non H'
theorem whole_sum (l : List Nat) : (Kg84.whole l).sum = ((l.sum : Nat) : Int) := by
  induction l with
  | nil => rfl
  | cons a r ih =>
    unfold Kg84.whole at ih ⊢
    rw [List.map_cons, List.sum_cons, List.sum_cons, ih]
    omega
theorem mem_cardsV {l : List Nat} {x : V} (h : x ∈ cardsV l) : ∃ c ∈ l, x = .int (c : Nat) := by
  unfold cardsV Kg84.whole at h
  rw [List.map_map] at h
  obtain ⟨c, hc, e⟩ := List.mem_map.mp h
  exact ⟨c, hc, e.symm⟩
theorem cardsV_get {l : List Nat} {i : Nat} {x : V} (h : (cardsV l)[i]? = some x) : ∃ c, l[i]? = some c ∧ x = .int (c : Nat) := by
  unfold cardsV Kg84.whole at h
  rw [List.map_map, List.getElem?_map] at h
  cases e : l[i]? with
  | none => rw [e] at h; cases h
  | some c => rw [e] at h; exact ⟨c, rfl, (Option.some.inj h).symm⟩
theorem cardsV_set (l : List Nat) (i c : Nat) : (cardsV l).set i (.int (c : Nat)) = cardsV (l.set i c) := by
  unfold cardsV Kg84.whole
  rw [List.map_map, List.map_map, List.map_set]
  rfl
theorem at_card {l : List Nat} {c : Nat} (h : 1 ≤ c) (hl : c - 1 < l.length) : atI (cardsV l) (((c : Nat) : Int) - 1) = some (.int (l.getD (c - 1) 0 : Nat)) := by
  refine at_of (j := c - 1) (by omega) (cardsV_at ?_)
  rw [List.getElem?_eq_getElem hl, List.getD_eq_getElem?_getD, List.getElem?_eq_getElem hl]
  rfl
section
variable {P : Program} {w : World} {K : PySem.W.Frag} {mg : Str → Option Value} {base : Heap} {C : Adr}
theorem ok_Shoe_init (T : Txt K mg C) : MakeOk P w K mg base 1 C.O "Shoe" P_Shoe_init (sp_Shoe_init C) := by
  refine T.k_Shoe_init.ok sc_Shoe_init (fun _ _ F => b_Shoe_init F) ?_ ?_
  · rintro vs H Q E ⟨H0, cs, p, dx, decks, rfl, _⟩
    rfl
  · intro f cdv A outer s H vs Q E hr h
    obtain ⟨H0, cs, p, dx, decks, rfl, O, q⟩ := h
    refine ⟨_, (pss_one (ps_fld (pv 0) (pe_op op_rep (pe_lst (pa_cons (pe_op op_mul (pe_gI T.g_IN_DECK) (pv 1)) pa_nil)) (pe_gI T.g_SORTS)) rfl)), ?_⟩
    refine ⟨_, rfl, _, _, rfl, rfl, .inl (by decide), (by show 1 ≤ sizeLine; decide), fun z hz => ?_⟩
    have O1 := O.sameR (same_new (o := .lst [.int (4 * (decks : Nat))]) hz)
    refine ⟨z, 13, _, rfl, rfl, upd_same, by decide, by decide, (by show 1 * 13 ≤ sizeLine; decide), fun l hl => ?_⟩
    have O2 := O1.new (o := .lst (List.replicate (13 : Int).toNat [V.int (4 * (decks : Nat))]).flatten) hl
    have O3 := O2.perm (List.Perm.swap _ _ _)
    refine ⟨_, rfl, p, C.O, dx, _, rfl, O3.get0, T.clO, T.nO_left, (by show 0 < 1000; decide), ?_⟩
    have O4 := O3.put0 (.ins C.O dx (putF "left" (.ref l) []))
    refine q _ l ?_
    have e : (List.replicate (13 : Int).toNat [V.int (4 * (decks : Nat))]).flatten = cardsV (Kg84.fullShoe decks) := by
      unfold cardsV Kg84.fullShoe Kg84.whole
      show [V.int (4 * (decks : Nat)), _, _, _, _, _, _, _, _, _, _, _, _] = _
      simp
    rw [e] at O4 ⊢
    exact O4
theorem ok_Shoe_many (T : Txt K mg C) : MethOk P w K mg base CX0 1 C.O "many" P_Shoe_many (sp_Shoe_many C) := by
  refine T.m_Shoe_many.ok sc_Shoe_many (fun _ _ F => b_Shoe_many F) ?_ ?_
  · rintro vs H Q E ⟨p, dx, lf, left, rfl, _⟩
    rfl
  · intro f cdv A outer s H vs Q E hr h
    obtain ⟨p, dx, lf, left, rfl, hp, hl, q⟩ := h
    refine ⟨_, (pss_one (ps_ret (pe_callB (cr_sum rfl) (by rfl) T.z_sum PyProof.Rows.boot_sum (pa_cons (pe_fld (pv 0) rfl) pa_nil)))), ?_⟩
    refine ⟨_, rfl, p, C.O, dx, _, _, rfl, hp, T.clO, T.nO_left, shoeF_left, lf, Kg84.whole left, rfl, SqL.of hl, ?_⟩
    rw [whole_sum]
    exact q
theorem ok_Shoe_has_all (T : Txt K mg C) : MethOk P w K mg base CX0 1 C.O "has_all" P_Shoe_has_all (sp_Shoe_has_all C K) := by
  refine T.m_Shoe_has_all.ok sc_Shoe_has_all (fun _ _ F => b_Shoe_has_all F) ?_ ?_
  · rintro vs H Q E ⟨p, dx, lf, ca, left, l, rfl, _⟩
    rfl
  · intro f cdv A outer s H vs Q E hr h
    obtain ⟨p, dx, lf, ca, left, l, rfl, hp, hf, hl, hS, hd, hz, q⟩ := h
    refine ⟨_, (pss_one (ps_ret (pe_callB (cr_all rfl) (by rfl) T.z_all PyProof.Rows.boot_all (pa_cons (pe_lc (own := [("card", 2)]) (g := gName 2) (tt := tYes) (te := tLe (tBM K "list" (rCntI K) (tVar 1) (tCons (tVar 2) tNil)) (tOp (rIxL K) (tFld K (tVar 0) "left") (tOp (rI0 fun i j => .int (i - j)) (tVar 2) (tC (.int 1))))) rfl sc_Shoe_has_all.nd (pi_list (pv 1)) (blkOk_by (own := [("card", 2)]) (N := N_Shoe_has_all) (sc := defScope s_Shoe_has_all) (by decide +kernel)) (fun _ _ _ _ _ => pg_name (i := 2) sc_Shoe_has_all.nd rfl (Or.inl rfl)) (fun _ _ _ _ _ => pts_nil) (fun _ _ _ _ _ => (pe_cmp (pc_le (by exact (pe_bm PySem.F.plainAttrs_list PySem.F.slot_list_count PySem.F.type_list_count mt_lcount (pv 1) (pa_cons (pv 2) pa_nil))) (pe_ix ix_list (pe_fld (pv 0) rfl) (pe_op op_sub (pv 2) pe_int) (fun _ _ => rfl)))))) pa_nil)))), ?_⟩
    refine ⟨_, rfl, ca, rfl, ⟨_, hS⟩, fun D hD => lc_map (fun v => match v with | .int z => .bl (decide (l.count z.toNat ≤ left.getD (z.toNat - 1) 0)) | v => v) hD (by rw [cardsV_len]; exact hz) hS ?_ ?_⟩
    · intro x H2 R hx s2 k
      obtain ⟨c, hc, rfl⟩ := mem_cardsV hx
      have hc1 := hd c hc
      refine ⟨_, rfl, .inl ⟨rfl, _, s2.seq hS⟩, _, rfl, ca, Kg84.whole l, _, rfl, rfl, s2.seq hS, ?_⟩
      refine ⟨_, rfl, p, C.O, dx, _, _, rfl, s2 _ _ hp, T.clO, T.nO_left, shoeF_left, _, rfl, _, _, rfl, rfl, lf, _, _, _, rfl, rfl, SqL.of (s2 _ _ hf), at_card hc1.1 (by omega), _, _, rfl, rfl, ?_⟩
      have := k H2 (Same.refl _)
      rw [count_whole]
      have e : decide (((l.count c : Nat) : Int) ≤ ((left.getD (c - 1) 0 : Nat) : Int)) = decide (l.count c ≤ left.getD (c - 1) 0) := by
        rw [Bool.eq_iff_iff]
        simp only [decide_eq_true_eq]
        omega
      show R (.bl (decide (((l.count c : Nat) : Int) ≤ ((left.getD (c - 1) 0 : Nat) : Int)))) H2
      rw [e]
      exact this
    · intro H2 s2 hD2
      refine ⟨D, l.map fun c => decide (l.count c ≤ left.getD (c - 1) 0), rfl, SqL.of ?_, ?_⟩
      · rw [hD2]
        unfold cardsV Kg84.whole
        rw [List.map_map, List.map_map, List.map_map]
        rfl
      · have := q H2 s2
        rw [← hasAll_eq hd hl] at this
        rw [List.all_map]
        exact this
theorem ok_Shoe_take (T : Txt K mg C) : MethOk P w K mg base CX0 1 C.O "take" P_Shoe_take (sp_Shoe_take C K) := by
  refine T.m_Shoe_take.ok sc_Shoe_take (fun _ _ F => b_Shoe_take F) ?_ ?_
  · rintro vs H Q E ⟨H0, cs, p, dx, lf, ca, left, l, z, rfl, _⟩
    rfl
  · intro f cdv A outer s H vs Q E hr h
    obtain ⟨H0, cs, p, dx, lf, ca, left, l, z, rfl, O, hl, hS, hd, hz, q⟩ := h
    refine ⟨_, (pss_one (ps_for PassesOwn.never rfl (pi_list (pv 1)) (pg_name (i := 2) sc_Shoe_take.nd rfl (Or.inl rfl)) (pss_one (ps_asg (pe_op op_sub (pe_ix ix_list (pe_fld (pv 0) rfl) (pe_op op_sub (pv 2) pe_int) (fun _ _ => rfl)) pe_int) (pg_sub (pe_fld (pv 0) rfl) (pe_op op_sub (pv 2) pe_int) set_list))))), ?_⟩
    refine ⟨_, rfl, ca, rfl, ⟨_, O.same.seq hS⟩, ?_⟩
    refine for_list (K := K) (a := ca) (xs := cardsV l) (fun i σ H' => ∃ (v : Option V) (m : List Nat), σ = [some (.ref p), some (.ref ca), v] ∧ Kg84.drawn left (l.take i) = some m ∧ Kg84.drawn m (l.drop i) = some z ∧
        Own H0 H' ((p, shoeO C dx lf) :: (lf, .lst (cardsV m)) :: cs))
      ⟨none, left, rfl, rfl, hz, O⟩ (fun i σ H' _ ⟨_, _, _, _, _, O'⟩ => O'.same.seq hS) ?_ ?_
    · rintro i y σ H2 hi ⟨v, m, rfl, e1, e2, O2⟩
      obtain ⟨c, hc, rfl⟩ := cardsV_get hi
      have hc1 := hd c (List.mem_of_getElem? hc)
      have ilt : i < l.length := (List.getElem?_eq_some_iff.mp hc).1
      have edrop : l.drop i = c :: l.drop (i + 1) := by
        rw [List.drop_eq_getElem_cons ilt]
        congr 1
        exact (List.getElem?_eq_some_iff.mp hc).2
      rw [edrop, drawn_cons] at e2
      have hm : m.length = 13 := (drawn_len e1).trans hl
      by_cases v0 : 0 < m.getD (c - 1) 0
      · rw [if_pos v0] at e2
        have hlf : H2 lf = some (.lst (cardsV m)) := O2.drop.get0
        have hp : H2 p = some (shoeO C dx lf) := O2.get0
        refine ⟨_, rfl, p, C.O, dx, _, _, rfl, hp, T.clO, T.nO_left, shoeF_left, _, rfl, _, _, rfl, rfl, lf, _, _, _, rfl, rfl, SqL.of hlf, at_card hc1.1 (by omega), _, _, rfl, rfl, ?_⟩
        refine ⟨_, rfl, p, C.O, dx, _, _, rfl, hp, T.clO, T.nO_left, shoeF_left, _, rfl, _, _, rfl, rfl, lf, _, _, c - 1, rfl, rfl, hlf, ?_, ?_⟩
        · rw [cardsV_len]
          unfold ixN
          rw [if_pos (by omega), if_pos (by omega)]
          congr 1
          omega
        · have e3 : (cardsV m).set (c - 1) (.int (((m.getD (c - 1) 0 : Nat) : Int) - 1)) = cardsV (decS m c) := by
            unfold decS
            rw [← cardsV_set]
            congr 2
            omega
          rw [e3]
          refine ⟨_, decS m c, rfl, ?_, e2, ?_⟩
          · rw [take_more hc, drawn_append, e1]
            show Kg84.drawn m [c] = _
            rw [drawn_cons, if_pos v0]
            rfl
          · exact Own.put (A := [(p, shoeO C dx lf)]) O2 _
      · rw [if_neg v0] at e2
        cases e2
    · rintro σ H2 ⟨v, m, rfl, e1, e2, O2⟩
      rw [cardsV_len, List.drop_length] at e2
      cases e2
      exact q H2 O2
end
end Bj
namespace Bj
open Kg84 (Hand Seat State)
def inPlay (h : Hand) : Bool := h.state == 0
def turnR : List Seat → Nat → Option (Nat × Nat)
  | [], _ => none
  | x :: r, k => match x.hands.findIdx? inPlay with
    | some j => some (k, j)
    | none => turnR r (k + 1)
theorem head_hands : ∀ (hs : List Hand) (m k : Nat), (((hs.zipIdx m).filter fun y => y.1.state == 0).map fun y => (k, y.2)).head? = (hs.findIdx? inPlay).map fun j => (k, j + m)
  | [], m, k => rfl
  | h :: t, m, k => by
    rw [List.zipIdx_cons, List.filter_cons, List.findIdx?_cons]
    by_cases e : (h.state == 0) = true
    · have e2 : inPlay h = true := e
      rw [if_pos (show ((h, m).1.state == 0) = true from e), if_pos e2]
      simp
    · have e2 : ¬ inPlay h = true := e
      rw [if_neg (show ¬ ((h, m).1.state == 0) = true from e), if_neg e2, head_hands t (m + 1) k, Option.map_map]
      congr 1
      funext j
      simp
      omega
theorem head_seats : ∀ (l : List Seat) (k : Nat), ((l.zipIdx k).flatMap fun x => (x.1.hands.zipIdx.filter fun y => y.1.state == 0).map fun y => (x.2, y.2)).head? = turnR l k
  | [], k => rfl
  | x :: r, k => by
    have e : turnR (x :: r) k = (match x.hands.findIdx? inPlay with | some j => some (k, j) | none => turnR r (k + 1)) := rfl
    rw [e, List.zipIdx_cons, List.flatMap_cons, List.head?_append, head_seats r (k + 1), head_hands x.hands 0 k]
    cases x.hands.findIdx? inPlay with
    | none => rfl
    | some j => rfl
theorem turn_eq (s : State) : s.turn = turnR s.seats 0 := head_seats s.seats 0
theorem idx_none {hs : List Hand} (h : ∀ x ∈ hs, inPlay x = false) : hs.findIdx? inPlay = none := by
  rw [List.findIdx?_eq_none_iff]
  exact h
theorem turnR_none : ∀ {l : List Seat} {k : Nat}, (∀ x ∈ l, ∀ h ∈ x.hands, inPlay h = false) → turnR l k = none
  | [], _, _ => rfl
  | x :: r, k, h => by
    unfold turnR
    rw [idx_none (h x (by simp))]
    exact turnR_none fun y hy => h y (by simp [hy])
theorem turnR_skip : ∀ {p : List Seat} {q : List Seat} {k : Nat}, (∀ x ∈ p, ∀ h ∈ x.hands, inPlay h = false) → turnR (p ++ q) k = turnR q (k + p.length)
  | [], q, k, _ => rfl
  | x :: r, q, k, h => by
    rw [List.cons_append]
    show (match x.hands.findIdx? inPlay with | some j => some (k, j) | none => turnR (r ++ q) (k + 1)) = _
    rw [idx_none (h x (by simp))]
    show turnR (r ++ q) (k + 1) = _
    rw [turnR_skip fun y hy => h y (by simp [hy]), List.length_cons]
    congr 1
    omega
theorem idx_some {hp hq : List Hand} {h : Hand} (hh : inPlay h = true) (hn : ∀ x ∈ hp, inPlay x = false) : (hp ++ h :: hq).findIdx? inPlay = some hp.length := by
  rw [List.findIdx?_append, idx_none hn, List.findIdx?_cons, if_pos hh]
  simp
theorem turnR_at {p q : List Seat} {x : Seat} {hp hq : List Hand} {h : Hand} {k : Nat} (hx : x.hands = hp ++ h :: hq) (hh : inPlay h = true) (hn : ∀ y ∈ hp, inPlay y = false) (hpn : ∀ y ∈ p, ∀ h ∈ y.hands, inPlay h = false) :
    turnR (p ++ x :: q) k = some (k + p.length, hp.length) := by
  rw [turnR_skip hpn]
  unfold turnR
  rw [hx, idx_some hh hn]
theorem idx_inv {hs : List Hand} {j : Nat} (h : hs.findIdx? inPlay = some j) : ∃ hp x hq, hs = hp ++ x :: hq ∧ hp.length = j ∧ inPlay x = true ∧ ∀ y ∈ hp, inPlay y = false := by
  induction hs generalizing j with
  | nil => cases h
  | cons a t ih =>
    rw [List.findIdx?_cons] at h
    by_cases e : inPlay a = true
    · rw [if_pos e] at h
      cases h
      exact ⟨[], a, t, rfl, rfl, e, fun y hy => by cases hy⟩
    · rw [if_neg e] at h
      cases e2 : t.findIdx? inPlay with
      | none => rw [e2] at h; cases h
      | some i =>
        rw [e2] at h
        cases h
        obtain ⟨hp, x, hq, e3, e4, e5, e6⟩ := ih e2
        refine ⟨a :: hp, x, hq, by rw [e3]; rfl, by rw [List.length_cons, e4], e5, fun y hy => ?_⟩
        rcases List.mem_cons.mp hy with z | z
        · subst z
          simpa using e
        · exact e6 y z
theorem idx_noneI {hs : List Hand} (h : hs.findIdx? inPlay = none) : ∀ x ∈ hs, inPlay x = false := by
  rw [List.findIdx?_eq_none_iff] at h
  exact h
theorem turnR_inv : ∀ {l : List Seat} {k i j : Nat}, turnR l k = some (i, j) → ∃ p x q hp h hq, l = p ++ x :: q ∧ i = k + p.length ∧ x.hands = hp ++ h :: hq ∧ hp.length = j ∧ inPlay h = true ∧ (∀ y ∈ hp, inPlay y = false) ∧ ∀ y ∈ p, ∀ h ∈ y.hands, inPlay h = false
  | [], k, i, j, h => by cases h
  | x :: r, k, i, j, h => by
    unfold turnR at h
    cases e : x.hands.findIdx? inPlay with
    | some m =>
      rw [e] at h
      cases h
      obtain ⟨hp, y, hq, e3, e4, e5, e6⟩ := idx_inv e
      exact ⟨[], x, r, hp, y, hq, rfl, rfl, e3, e4, e5, e6, fun y hy => by cases hy⟩
    | none =>
      rw [e] at h
      obtain ⟨p, y, q, hp, z, hq, e1, e2, e3, e4, e5, e6, e7⟩ := turnR_inv h
      refine ⟨x :: p, y, q, hp, z, hq, by rw [e1]; rfl, by rw [e2, List.length_cons]; omega, e3, e4, e5, e6, fun w hw => ?_⟩
      rcases List.mem_cons.mp hw with z | z
      · subst z
        exact idx_noneI e
      · exact e7 w z
theorem turnR_noneI : ∀ {l : List Seat} {k : Nat}, turnR l k = none → ∀ x ∈ l, ∀ h ∈ x.hands, inPlay h = false
  | [], k, h, x, hx => by cases hx
  | x :: r, k, h, y, hy => by
    unfold turnR at h
    cases e : x.hands.findIdx? inPlay with
    | some m => rw [e] at h; cases h
    | none =>
      rw [e] at h
      rcases List.mem_cons.mp hy with z | z
      · subst z
        exact idx_noneI e
      · exact turnR_noneI h y z
theorem putHand_at {s : State} {p q : List Seat} {x : Seat} {hp hq : List Hand} {h : Hand} (l : List Hand) (hs : s.seats = p ++ x :: q) (hx : x.hands = hp ++ h :: hq) :
    Kg84.putHand s (p.length, hp.length) l = { s with seats := p ++ { x with hands := hp ++ (l ++ hq) } :: q } := by
  unfold Kg84.putHand
  congr 1
  rw [hs]
  have key : ∀ (p' : List Seat) (k n : Nat), n = k + p'.length → ((p' ++ x :: q).zipIdx k).map (fun (y : Seat × Nat) => if y.2 = n then { y.1 with hands := y.1.hands.take hp.length ++ (l ++ y.1.hands.drop (hp.length + 1)) } else y.1) = p' ++ { x with hands := hp ++ (l ++ hq) } :: q := by
    intro p'
    induction p' with
    | nil =>
      intro k n hn
      rw [List.nil_append, List.zipIdx_cons, List.map_cons, if_pos (by simpa using hn.symm)]
      have rest : ∀ (q' : List Seat) (m : Nat), n < m → (q'.zipIdx m).map (fun (y : Seat × Nat) => if y.2 = n then { y.1 with hands := y.1.hands.take hp.length ++ (l ++ y.1.hands.drop (hp.length + 1)) } else y.1) = q' := by
        intro q'
        induction q' with
        | nil => intro m _; rfl
        | cons a t ih =>
          intro m hm
          rw [List.zipIdx_cons, List.map_cons, if_neg (by show ¬ m = n; omega), ih (m + 1) (by omega)]
      rw [rest q (k + 1) (by simp at hn; omega), List.nil_append]
      congr 1
      show ({ x with hands := x.hands.take hp.length ++ (l ++ x.hands.drop (hp.length + 1)) } : Seat) = _
      rw [hx]
      congr 1
      have ed : (hp ++ h :: hq).drop (hp.length + 1) = hq := by
        rw [show hp ++ h :: hq = (hp ++ [h]) ++ hq by simp, show hp.length + 1 = (hp ++ [h]).length by simp, List.drop_left]
      rw [List.take_left, ed]
    | cons a t ih =>
      intro k n hn
      rw [List.cons_append, List.zipIdx_cons, List.map_cons, if_neg (by show ¬ k = n; simp at hn; omega), ih (k + 1) n (by simp at hn; omega)]
      rfl
  exact key p 0 p.length (by omega)
end Bj
namespace Bj
open PySem PySem.Spec PyProof.Rows L2
structure TabL where
  d : Addr
  ls : Addr
  sh : Addr
  dsh : Addr
  lf : Addr
  dl : Addr
  seats : List SeatL
  left : List Nat
  dealer : List Nat
  phase : Nat
  rules : Kg84.Rules
def refsS (l : List SeatL) : List V := l.map fun s => V.ref s.a
def TabL.obj (C : Adr) (T : TabL) : HO := .ins C.T T.d (tabF T.ls T.sh T.dl (T.phase : Nat) T.rules.soft17 T.rules.doubleParted T.rules.giveUp (T.rules.most : Nat))
def TabL.hands (T : TabL) : List HandL := T.seats.flatMap (·.hs)
def TabL.rest (C : Adr) (T : TabL) : List Cell := [(T.ls, .lst (refsS T.seats)), (T.dl, .lst (cardsV T.dealer)), (T.sh, shoeO C T.dsh T.lf), (T.lf, .lst (cardsV T.left))]
def TabL.under (C : Adr) (T : TabL) : List Cell := T.seats.flatMap (SeatL.own C) ++ T.hands.flatMap (HandL.cells C)
def TabL.cells (C : Adr) (t : Addr) (T : TabL) : List Cell := (t, T.obj C) :: (T.rest C ++ T.under C)
def TabL.abs (T : TabL) : Kg84.State := ⟨T.rules, T.left, T.seats.map SeatL.x, T.dealer, T.phase, T.seats.map (·.won)⟩
structure Fit (T : TabL) : Prop where
  seats : T.seats.length ≤ 7
  hands : ∀ s ∈ T.seats, s.hs.length ≤ 300
  cards : ∀ s ∈ T.seats, ∀ x ∈ s.hs, x.h.cards.length ≤ 9000
  dealer : T.dealer.length ≤ 9000
  left : T.left.length = 13
structure Tab (C : Adr) (H0 H : Hp) (t : Addr) (T : TabL) : Prop where
  own : Own H0 H (T.cells C t)
  fit : Fit T
section
variable {C : Adr} {H0 H H' : Hp} {t : Addr} {T : TabL} {s : SeatL} {x : HandL}
theorem Tab.sameR (B : Tab C H0 H t T) (e : Same H H') : Tab C H0 H' t T := ⟨B.own.sameR e, B.fit⟩
theorem Tab.obj (B : Tab C H0 H t T) : H t = some (.ins C.T T.d (tabF T.ls T.sh T.dl (T.phase : Nat) T.rules.soft17 T.rules.doubleParted T.rules.giveUp (T.rules.most : Nat))) := B.own.get0
theorem Tab.ls (B : Tab C H0 H t T) : H T.ls = some (.lst (refsS T.seats)) := B.own.drop.get0
theorem Tab.dl (B : Tab C H0 H t T) : H T.dl = some (.lst (cardsV T.dealer)) := B.own.drop.drop.get0
theorem Tab.sh (B : Tab C H0 H t T) : H T.sh = some (shoeO C T.dsh T.lf) := B.own.drop.drop.drop.get0
theorem Tab.lf (B : Tab C H0 H t T) : H T.lf = some (.lst (cardsV T.left)) := B.own.drop.drop.drop.drop.get0
theorem mem_seat (h : s ∈ T.seats) : (s.a, s.obj C) ∈ T.cells C t ∧ (s.l, HO.lst (refsH s.hs)) ∈ T.cells C t := by
  have k : ∀ p ∈ s.own C, p ∈ T.cells C t := fun p hp => List.mem_cons_of_mem _ (List.mem_append_right _ (List.mem_append_left _ (List.mem_flatMap.mpr ⟨s, h, hp⟩)))
  exact ⟨k _ (by simp [SeatL.own]), k _ (by simp [SeatL.own])⟩
theorem mem_hand (h : s ∈ T.seats) (hx : x ∈ s.hs) : (x.a, x.obj C) ∈ T.cells C t ∧ (x.l, HO.lst (cardsV x.h.cards)) ∈ T.cells C t := by
  have m : x ∈ T.hands := List.mem_flatMap.mpr ⟨s, h, hx⟩
  have k : ∀ p ∈ x.cells C, p ∈ T.cells C t := fun p hp => List.mem_cons_of_mem _ (List.mem_append_right _ (List.mem_append_right _ (List.mem_flatMap.mpr ⟨x, m, hp⟩)))
  exact ⟨k _ (by simp [HandL.cells]), k _ (by simp [HandL.cells])⟩
theorem Tab.seat (B : Tab C H0 H t T) (h : s ∈ T.seats) : H s.a = some (.ins C.S s.d (seatF (s.stake : Nat) (s.insured : Nat) s.won s.l)) := B.own.holds _ (mem_seat h).1
theorem Tab.seatL (B : Tab C H0 H t T) (h : s ∈ T.seats) : H s.l = some (.lst (refsH s.hs)) := B.own.holds _ (mem_seat h).2
theorem Tab.hand (B : Tab C H0 H t T) (h : s ∈ T.seats) (hx : x ∈ s.hs) : HandAt C H x := ⟨B.own.holds _ (mem_hand h hx).1, B.own.holds _ (mem_hand h hx).2, B.fit.cards s h x hx⟩
theorem Tab.dealer (B : Tab C H0 H t T) : T.dealer.length ≤ 10000 := Nat.le_trans B.fit.dealer (by decide)
end
theorem refsS_len (l : List SeatL) : (refsS l).length = l.length := by unfold refsS; rw [List.length_map]
theorem refsH_len (l : List HandL) : (refsH l).length = l.length := by unfold refsH; rw [List.length_map]
theorem refsS_at {l : List SeatL} {i : Nat} {v : V} (h : (refsS l)[i]? = some v) : ∃ s, l[i]? = some s ∧ v = .ref s.a := by
  unfold refsS at h
  rw [List.getElem?_map] at h
  cases e : l[i]? with
  | none => rw [e] at h; cases h
  | some x => rw [e] at h; exact ⟨x, rfl, (Option.some.inj h).symm⟩
theorem split_at {α : Type} {l : List α} {i : Nat} {x : α} (h : l[i]? = some x) : l = l.take i ++ x :: l.drop (i + 1) ∧ (l.take i).length = i := by
  obtain ⟨hi, e⟩ := List.getElem?_eq_some_iff.mp h
  refine ⟨?_, by rw [List.length_take]; omega⟩
  rw [← e, ← List.drop_eq_getElem_cons hi, List.take_append_drop]
theorem atI_nat' {α : Type} {l : List α} {i : Nat} {x : α} (h : l[i]? = some x) : atI l ((i : Nat) : Int) = some x := atI_nat h
def Refuses (C : Adr) (n : Int) (H : Hp) (E : XK) : Prop := ∀ H' d, H d = none → Same H H' → H' d = some (numX n) → E (.ref C.R) (some d) H'
theorem Refuses.at {C : Adr} {n : Int} {H H1 : Hp} {E : XK} (r : Refuses C n H E) (s : Same H H1) : ∀ d, H1 d = none → E (.ref C.R) (some d) (upd H1 d (numX n)) :=
  fun d hd => r _ d (s.free hd) (Same.upd s (s.free hd)) upd_same
theorem Refuses.sub {C : Adr} {n : Int} {H H1 : Hp} {E : XK} (r : Refuses C n H E) (s : Same H H1) : Refuses C n H1 E := fun H' d hd s' e => r H' d (s.free hd) (s.trans s') e
def sp_is_flag : Sp := fun vs H Q _ => ∃ n : Int, vs = [.int n] ∧ Q (.bl (Kg84.within n 0 1)) H
def sp_is_seat (C : Adr) : Sp := fun vs H Q _ => ∃ (H0 : Hp) (t : Addr) (T : TabL) (n : Int), vs = [.ref t, .int n] ∧ Tab C H0 H t T ∧ Q (.bl (Kg84.within n 0 ((T.seats.length : Int) - 1))) H
def sp_playing (C : Adr) : Sp := fun vs H Q _ => ∃ (H0 : Hp) (t : Addr) (T : TabL), vs = [.ref t] ∧ Tab C H0 H t T ∧ ∀ H' p, H p = none → Same H H' → H' p = some (.lst (refsS (T.seats.filter fun s => decide (0 < s.stake)))) → Q (.ref p) H'
def sp_all_hands (C : Adr) : Sp := fun vs H Q _ => ∃ (H0 : Hp) (t : Addr) (T : TabL), vs = [.ref t] ∧ Tab C H0 H t T ∧ ∀ H' p, H p = none → Same H H' → H' p = some (.lst (refsH T.hands)) → Q (.ref p) H'
def sp_turn (C : Adr) : Sp := fun vs H Q _ => ∃ (H0 : Hp) (t : Addr) (T : TabL), vs = [.ref t] ∧ Tab C H0 H t T ∧ (T.abs.turn = none → ∀ H', Same H H' → Q .non H') ∧
  ∀ i j, T.abs.turn = some (i, j) → ∀ H' p, H p = none → Same H H' → H' p = some (.tup [.int (i : Nat), .int (j : Nat)]) → Q (.ref p) H'
def sp_stands (C : Adr) : Sp := fun vs H Q _ => ∃ (H0 : Hp) (t : Addr) (T : TabL), vs = [.ref t] ∧ Tab C H0 H t T ∧ (T.phase = 2 → T.abs.turn ≠ none) ∧ ∀ H' p, H p = none → Same H H' → H' p = some (.lst ((Kg84.told T.abs).map V.int)) → Q (.ref p) H'
def sp_must_phase (C : Adr) (K : PySem.W.Frag) : Sp := fun vs H Q E => ∃ (H0 : Hp) (t p : Addr) (T : TabL) (ps : List Nat), vs = [.ref t, .ref p] ∧ Tab C H0 H t T ∧ SqT K H p (cardsV ps) ∧ (T.phase ∈ ps → Q .non H) ∧ (T.phase ∉ ps → Refuses C (-3) H E)
def sp_take (C : Adr) (K : PySem.W.Frag) : Sp := fun vs H Q E => ∃ (H0 : Hp) (t p : Addr) (T : TabL) (l : List Nat), vs = [.ref t, .ref p] ∧ Tab C H0 H t T ∧ SqL K H0 p (cardsV l) ∧ inDeck l ∧ l.length ≤ 10000 ∧
  (Kg84.drawn T.left l = none → Refuses C (-5) H E) ∧ (∀ z, Kg84.drawn T.left l = some z → ∀ H', Tab C H0 H' t { T with left := z } → Q .non H')
def takesN (soft17 : Bool) (l : List Nat) : Bool := decide (Kg84.total l < 17) || (soft17 && (Kg84.total l == 17 && Kg84.soft l))
def sp_must_draw (C : Adr) (K : PySem.W.Frag) : Sp := fun vs H Q _ => ∃ (H0 : Hp) (t p : Addr) (T : TabL) (l : List Nat), vs = [.ref t, .ref p] ∧ Tab C H0 H t T ∧ SqL K H p (cardsV l) ∧ l.length ≤ 10000 ∧ ∀ H', Same H H' → Q (.bl (takesN T.rules.soft17 l)) H'
section
variable {P : Program} {w : World} {K : PySem.W.Frag} {mg : Str → Option Value} {base : Heap} {C : Adr}
theorem ok_is_flag (T : Txt K mg C) : DefOk P w K mg base CX0 1 "is_flag" P_is_flag sp_is_flag := by
  refine T.d_is_flag.ok sc_is_flag (fun _ _ F => b_is_flag F) ?_ ?_
  · rintro vs H Q E ⟨n, rfl, _⟩
    rfl
  · intro f cdv A outer s H vs Q E hr h
    obtain ⟨n, rfl, q⟩ := h
    refine ⟨_, (pss_one (ps_ret (pe_chain op_le op_le pe_int (pv 0) pe_int))), ?_⟩
    refine ⟨_, rfl, _, _, rfl, rfl, _, rfl, ?_⟩
    rw [within_and] at q
    refine ite2 (fun e => ?_) (fun e => ?_)
    · refine ⟨_, _, rfl, rfl, ?_⟩
      rw [e, Bool.true_and] at q
      exact q
    · rw [Bool.not_eq_true] at e
      rw [e, Bool.false_and] at q
      exact q
theorem ok_Table_is_seat (T : Txt K mg C) : MethOk P w K mg base CX0 1 C.T "is_seat" P_Table_is_seat (sp_is_seat C) := by
  refine T.m_Table_is_seat.ok sc_Table_is_seat (fun _ _ F => b_Table_is_seat F) ?_ ?_
  · rintro vs H Q E ⟨H0, t, B, n, rfl, _⟩
    rfl
  · intro f cdv A outer s H vs Q E hr h
    obtain ⟨H0, t, B, n, rfl, hB, q⟩ := h
    refine ⟨_, (pss_one (ps_ret (pe_chain op_le op_lt pe_int (pv 1) (pe_callB call_len_seq (by rfl) T.z_len PySem.boot_len (pa_cons (pe_fld (pv 0) rfl) pa_nil))))), ?_⟩
    refine ⟨_, rfl, _, _, rfl, rfl, _, rfl, ?_⟩
    rw [within_and] at q
    refine ite2 (fun e => ?_) (fun e => ?_)
    · refine ⟨_, rfl, t, C.T, _, _, _, rfl, hB.obj, T.clT, T.nT_seats, tabF_seats, _, _, rfl, .inl (SqL.of hB.ls), _, _, rfl, rfl, ?_⟩
      rw [e, Bool.true_and] at q
      have e2 : decide (n < ((refsS B.seats).length : Int)) = decide (n ≤ (B.seats.length : Int) - 1) := by
        rw [refsS_len, Bool.eq_iff_iff]
        simp only [decide_eq_true_eq]
        omega
      show Q (.bl (decide (n < ((refsS B.seats).length : Int)))) H
      rw [e2]
      exact q
    · rw [Bool.not_eq_true] at e
      rw [e, Bool.false_and] at q
      exact q
theorem ok_Table_playing (T : Txt K mg C) : MethOk P w K mg base CX0 1 C.T "playing" P_Table_playing (sp_playing C) := by
  refine T.m_Table_playing.ok sc_Table_playing (fun _ _ F => b_Table_playing F) ?_ ?_
  · rintro vs H Q E ⟨H0, t, B, rfl, _⟩
    rfl
  · intro f cdv A outer s H vs Q E hr h
    obtain ⟨H0, t, B, rfl, hB, q⟩ := h
    refine ⟨_, (pss_one (ps_ret (pe_lc (own := [("seat", 1)]) (g := gName 1) (tt := tB (tGt (tFld K (tVar 1) "stake") (tC (.int 0)))) rfl sc_Table_playing.nd (pi_list (pe_fld (pv 0) rfl)) (blkOk_by (own := [("seat", 1)]) (N := N_Table_playing) (sc := defScope s_Table_playing) (by decide +kernel)) (fun _ _ _ _ _ => pg_name (i := 1) sc_Table_playing.nd rfl (Or.inl rfl)) (fun _ _ _ _ _ => (pts_one (pt_cmp (pc_gt (pe_fld (pv 1) rfl) pe_int)))) (fun _ _ _ _ _ => (pv 1))))), ?_⟩
    refine ⟨_, rfl, t, C.T, _, _, _, rfl, hB.obj, T.clT, T.nT_seats, tabF_seats, B.ls, rfl, ⟨_, SqL.of hB.ls⟩, fun D hD => ?_⟩
    refine lc_list (K := K) (a := B.ls) (xs := refsS B.seats) (fun i H' => Same H H' ∧ H' D = some (.lst (refsS ((B.seats.take i).filter fun s => decide (0 < s.stake))))) ⟨same_new hD, upd_same⟩ (fun i H' _ p => p.1.seq (SqL.of hB.ls)) ?_ ?_
    · rintro i y H2 hi ⟨s2, hD2⟩
      obtain ⟨st, hst, rfl⟩ := refsS_at hi
      have hm := List.mem_of_getElem? hst
      refine ⟨rfl, ?_⟩
      refine ⟨_, rfl, st.a, C.S, _, _, _, rfl, s2 _ _ (hB.seat hm), T.clS, T.nS_stake, seatF_stake, _, _, rfl, rfl, _, rfl, ?_⟩
      refine ifB (b := decide (0 < st.stake)) (nat_lt 0 _) (fun e => ?_) (fun e => ?_)
      · refine ⟨_, rfl, _, hD2, ?_, Same.upd s2 hD, ?_⟩
        · rw [refsS_len]
          have h1 := List.length_filter_le (fun s : SeatL => decide (0 < s.stake)) (B.seats.take i)
          have h2 : (B.seats.take i).length ≤ B.seats.length := by rw [List.length_take]; omega
          have := hB.fit.seats
          exact small10000 (by omega)
        · rw [upd_same, take_more hst, List.filter_append]
          unfold refsS
          rw [List.map_append, List.filter_cons, if_pos e]
          rfl
      · refine ⟨s2, ?_⟩
        rw [hD2, take_more hst, List.filter_append, List.filter_cons, if_neg (by rw [e]; decide), List.filter_nil, List.append_nil]
    · rintro H2 ⟨s2, hD2⟩
      rw [refsS_len, List.take_length] at hD2
      exact q H2 D hD s2 hD2
theorem ok_Table_all_hands (T : Txt K mg C) : MethOk P w K mg base CX0 1 C.T "all_hands" P_Table_all_hands (sp_all_hands C) := by
  refine T.m_Table_all_hands.ok sc_Table_all_hands (fun _ _ F => b_Table_all_hands F) ?_ ?_
  · rintro vs H Q E ⟨H0, t, B, rfl, _⟩
    rfl
  · intro f cdv A outer s H vs Q E hr h
    obtain ⟨H0, t, B, rfl, hB, q⟩ := h
    refine ⟨_, (pss_cons (ps_set (i := 1) sc_Table_all_hands.nd rfl (Or.inl rfl) (pe_lst pa_nil))
      (pss_cons (ps_for PassesOwn.never rfl (pi_list (pe_fld (pv 0) rfl)) (pg_name (i := 2) sc_Table_all_hands.nd rfl (Or.inl rfl)) (pss_one (ps_expr (by exact (pe_bm PySem.F.plainAttrs_list PySem.F.slot_list_extend PySem.F.type_list_extend mt_extend (pv 1) (pa_cons (pe_fld (pv 2) rfl) pa_nil))))))
      (pss_one (ps_ret (pv 1))))), ?_⟩
    refine ⟨Nat.zero_le _, fun p hp => ?_⟩
    have s1 : Same H (upd H p (.lst [])) := same_new hp
    refine ⟨_, rfl, t, C.T, _, _, _, rfl, s1 _ _ hB.obj, T.clT, T.nT_seats, tabF_seats, B.ls, rfl, ⟨_, SqL.of (s1 _ _ hB.ls)⟩, ?_⟩
    refine for_list (K := K) (a := B.ls) (xs := refsS B.seats) (fun i σ H' => ∃ v : Option V, σ = [some (.ref t), some (.ref p), v] ∧ Same H H' ∧ H' p = some (.lst (refsH ((B.seats.take i).flatMap (·.hs)))))
      ⟨none, rfl, s1, upd_same⟩ (fun i σ H' _ ⟨_, _, s', _⟩ => s'.seq (SqL.of hB.ls)) ?_ ?_
    · rintro i y σ H2 hi ⟨v, rfl, s2, e2⟩
      obtain ⟨st, hst, rfl⟩ := refsS_at hi
      have hm := List.mem_of_getElem? hst
      have bnd : ∀ (l : List SeatL), (∀ s ∈ l, s.hs.length ≤ 300) → (l.flatMap (·.hs)).length ≤ 300 * l.length := by
        intro l
        induction l with
        | nil => intro _; simp
        | cons a r ih =>
          intro h
          have h1 := h a (by simp)
          have h2 := ih fun s hs => h s (by simp [hs])
          rw [List.flatMap_cons, List.length_append, List.length_cons]
          omega
      have b1 := bnd (B.seats.take i) fun s hs => hB.fit.hands s (List.mem_of_mem_take hs)
      have b2 := hB.fit.hands st hm
      have b3 := hB.fit.seats
      refine ⟨_, rfl, .inl ⟨rfl, _, SqL.of e2⟩, ?_⟩
      refine ⟨_, rfl, st.a, C.S, _, _, _, rfl, s2 _ _ (hB.seat hm), T.clS, T.nS_hands, seatF_hands, p, st.l, _, _, rfl, rfl, e2, s2 _ _ (hB.seatL hm), ?_, ?_⟩
      · rw [refsH_len, refsH_len]
        rw [List.length_take] at b1
        exact Nat.le_of_lt (small10000 (by omega))
      · refine ⟨some (.ref st.a), rfl, Same.upd s2 hp, ?_⟩
        rw [upd_same, take_more hst, List.flatMap_append, List.flatMap_singleton]
        unfold refsH
        rw [List.map_append]
    · rintro σ H2 ⟨v, rfl, s2, e2⟩
      rw [refsS_len, List.take_length] at e2
      exact ⟨_, rfl, q H2 p hp s2 e2⟩
theorem ok_Table_turn (T : Txt K mg C) : MethOk P w K mg base CX0 1 C.T "turn" P_Table_turn (sp_turn C) := by
  refine T.m_Table_turn.ok sc_Table_turn (fun _ _ F => b_Table_turn F) ?_ ?_
  · rintro vs H Q E ⟨H0, t, B, rfl, _⟩
    rfl
  · intro f cdv A outer s H vs Q E hr h
    obtain ⟨H0, t, B, rfl, hB, q1, q2⟩ := h
    refine ⟨_, (pss_cons (ps_for PassesOwn.never rfl (pi_enum rfl T.z_enumerate (pa_cons (pe_fld (pv 0) rfl) pa_nil)) (pg_tup rfl (pgs_cons (pg_name (i := 1) sc_Table_turn.nd rfl (Or.inl rfl)) (pgs_cons (pg_name (i := 2) sc_Table_turn.nd rfl (Or.inl rfl)) pgs_nil))) (pss_one (ps_for PassesOwn.never rfl (pi_enum rfl T.z_enumerate (pa_cons (pe_fld (pv 2) rfl) pa_nil)) (pg_tup rfl (pgs_cons (pg_name (i := 3) sc_Table_turn.nd rfl (Or.inl rfl)) (pgs_cons (pg_name (i := 4) sc_Table_turn.nd rfl (Or.inl rfl)) pgs_nil))) (pss_one (ps_if (pt_cmp (pc_eqI (pe_fld (pv 4) rfl) (pe_gI T.g_IN_PLAY))) (pss_one (ps_ret (pe_tup (pa_cons (pv 1) (pa_cons (pv 3) pa_nil))))) pss_nil)))))
      (pss_one (ps_ret pe_non))), ?_⟩
    refine ⟨_, rfl, t, C.T, _, _, _, rfl, hB.obj, T.clT, T.nT_seats, tabF_seats, B.ls, _, rfl, SqL.of hB.ls, ?_⟩
    refine for_it walk_enum (fun i σ H' => ∃ v1 v2 v3 v4 : Option V, σ = [some (.ref t), v1, v2, v3, v4] ∧ Same H H' ∧ ∀ y ∈ (B.seats.take i).map SeatL.x, ∀ h ∈ y.hands, inPlay h = false)
      ⟨none, none, none, none, rfl, Same.refl _, fun y hy => by cases hy⟩ (fun i σ H' _ ⟨_, _, _, _, _, s', _⟩ => s'.seq (SqL.of hB.ls)) ?_ ?_
    · rintro i v σ H2 H3 hi ⟨v1, v2, v3, v4, rfl, s2, hn⟩ ⟨Tu, x, y, rfl, hT, rfl, ex, ey⟩
      cases ex
      obtain ⟨st, hst, rfl⟩ := refsS_at ey
      have hm := List.mem_of_getElem? hst
      have s3 := Same.upd (o := .tup [.int (i : Nat), .ref st.a]) s2 (s2.free hT)
      refine ⟨Tu, _, rfl, SqT.of upd_same, rfl, _, _, rfl, _, _, rfl, rfl, ?_⟩
      refine ⟨_, rfl, st.a, C.S, _, _, _, rfl, s3 _ _ (hB.seat hm), T.clS, T.nS_hands, seatF_hands, st.l, _, rfl, SqL.of (s3 _ _ (hB.seatL hm)), ?_⟩
      refine for_it walk_enum (fun j σ H' => ∃ v3 v4 : Option V, σ = [some (.ref t), some (.int (i : Nat)), some (.ref st.a), v3, v4] ∧ Same H H' ∧ ∀ x ∈ st.hs.take j, inPlay x.h = false)
        ⟨v3, v4, rfl, s3, fun y hy => by cases hy⟩ (fun j σ H' _ ⟨_, _, _, s', _⟩ => s'.seq (SqL.of (hB.seatL hm))) ?_ ?_
      · rintro j v σ H4 H5 hj ⟨w3, w4, rfl, s4, hn4⟩ ⟨Tv, x, y, rfl, hT4, rfl, ex, ey⟩
        cases ex
        obtain ⟨hx, hhx, rfl⟩ := refs_at ey
        have hmx := List.mem_of_getElem? hhx
        have s5 := Same.upd (o := .tup [.int (j : Nat), .ref hx.a]) s4 (s4.free hT4)
        have hA := (hB.hand hm hmx).sameR s5
        refine ⟨Tv, _, rfl, SqT.of upd_same, rfl, _, _, rfl, _, _, rfl, rfl, ?_⟩
        refine ⟨_, rfl, hx.a, C.H, _, _, _, rfl, hA.obj, T.clH, T.nH_state, handF_state, _, _, rfl, rfl, _, rfl, ?_⟩
        refine ifB (b := inPlay hx.h) (nat_eq _ 0) (fun e => ?_) (fun e => ?_)
        ·
          refine ⟨_, rfl, _, rfl, (by show 2 ≤ sizeLine; decide), fun p hp => ?_⟩
          have et : B.abs.turn = some (i, j) := by
            rw [turn_eq]
            obtain ⟨e1, l1⟩ := split_at hst
            obtain ⟨e2, l2⟩ := split_at hhx
            have h1 : B.abs.seats = (B.seats.take i).map SeatL.x ++ st.x :: (B.seats.drop (i + 1)).map SeatL.x := by
              show B.seats.map SeatL.x = _
              rw [← List.map_cons, ← List.map_append, ← e1]
            have h2 : st.x.hands = (st.hs.take j).map (·.h) ++ hx.h :: (st.hs.drop (j + 1)).map (·.h) := by
              show st.hs.map (·.h) = _
              rw [← List.map_cons (f := fun z : HandL => z.h), ← List.map_append, ← e2]
            rw [h1, turnR_at h2 e (fun y hy => ?_) hn, List.length_map, List.length_map, l1, l2, Nat.zero_add]
            obtain ⟨z, hz, rfl⟩ := List.mem_map.mp hy
            exact hn4 z hz
          exact q2 i j et _ p (s5.free hp) (Same.upd s5 (s5.free hp)) upd_same
        · refine ⟨_, _, rfl, s5, fun x hx' => ?_⟩
          rw [take_more hhx] at hx'
          rcases List.mem_append.mp hx' with z | z
          · exact hn4 x z
          · rw [List.mem_singleton] at z
            subst z
            exact e
      · rintro σ H4 ⟨w3, w4, rfl, s4, hn4⟩
        refine ⟨_, _, _, _, rfl, s4, fun y hy h hh => ?_⟩
        rw [take_more hst, List.map_append] at hy
        rcases List.mem_append.mp hy with z | z
        · exact hn y z h hh
        · have z' : y = st.x := by simpa using z
          subst z'
          obtain ⟨x, hx, rfl⟩ := List.mem_map.mp hh
          refine hn4 x ?_
          rw [refsH_len, List.take_length]
          exact hx
    · rintro σ H2 ⟨v1, v2, v3, v4, rfl, s2, hn⟩
      rw [refsS_len, List.take_length] at hn
      exact q1 (by rw [turn_eq]; exact turnR_none hn) H2 s2
end
end Bj
namespace Bj
open PySem PySem.Spec PyProof.Rows L2
theorem inV_nats (l : List Nat) (c : Nat) : inV (.int (c : Nat)) (cardsV l) = decide (c ∈ l) := by
  rw [inV_cards, Bool.eq_iff_iff]
  simp
theorem Tab.shoe {C : Adr} {H0 H : Hp} {t : Addr} {T : TabL} (B : Tab C H0 H t T) : ∃ cs, Own H0 H ((T.sh, shoeO C T.dsh T.lf) :: (T.lf, .lst (cardsV T.left)) :: cs) ∧
    ∀ H' z, z.length = 13 → Own H0 H' ((T.sh, shoeO C T.dsh T.lf) :: (T.lf, .lst (cardsV z)) :: cs) → Tab C H0 H' t { T with left := z } := by
  refine ⟨(t, T.obj C) :: (T.ls, .lst (refsS T.seats)) :: (T.dl, .lst (cardsV T.dealer)) :: T.under C, ?_, fun H' z hz O => ⟨?_, ⟨B.fit.seats, B.fit.hands, B.fit.cards, B.fit.dealer, hz⟩⟩⟩
  · refine B.own.perm ?_
    show ([(t, T.obj C), (T.ls, .lst (refsS T.seats)), (T.dl, .lst (cardsV T.dealer))] ++ ([(T.sh, shoeO C T.dsh T.lf), (T.lf, .lst (cardsV T.left))] ++ T.under C)).Perm ([(T.sh, shoeO C T.dsh T.lf), (T.lf, .lst (cardsV T.left))] ++ ([(t, T.obj C), (T.ls, .lst (refsS T.seats)), (T.dl, .lst (cardsV T.dealer))] ++ T.under C))
    rw [← List.append_assoc, ← List.append_assoc]
    exact List.perm_append_comm.append_right _
  · refine O.perm ?_
    show ([(T.sh, shoeO C T.dsh T.lf), (T.lf, .lst (cardsV z))] ++ ([(t, T.obj C), (T.ls, .lst (refsS T.seats)), (T.dl, .lst (cardsV T.dealer))] ++ T.under C)).Perm ([(t, T.obj C), (T.ls, .lst (refsS T.seats)), (T.dl, .lst (cardsV T.dealer))] ++ ([(T.sh, shoeO C T.dsh T.lf), (T.lf, .lst (cardsV z))] ++ T.under C))
    rw [← List.append_assoc, ← List.append_assoc]
    exact List.perm_append_comm.append_right _
section
variable {P : Program} {w : World} {K : PySem.W.Frag} {mg : Str → Option Value} {base : Heap} {C : Adr}
theorem ok_Table_must_phase (T : Txt K mg C) : MethOk P w K mg base (L2.CX P w) 3 C.T "must_phase" P_Table_must_phase (sp_must_phase C K) := by
  refine T.m_Table_must_phase.okX sc_Table_must_phase (fun _ _ F => b_Table_must_phase F) ?_ ?_
  · rintro vs H Q E ⟨H0, t, p, B, ps, rfl, _⟩
    rfl
  · intro f cdv A outer s H vs Q E hr h
    obtain ⟨H0, t, p, B, ps, rfl, hB, hS, q1, q2⟩ := h
    refine ⟨_, (pss_one (ps_expr (pe_cD (ok_must T) hr (by decide) (passes_call (takes_of rfl rfl rfl rfl) (fun _ _ _ _ h => h)) (pa_cons (pe_cmpR op_in_seq (pe_fld (pv 0) rfl) (pv 1) (by rfl)) (pa_cons (pe_un un_neg pe_int) pa_nil))))), ?_⟩
    refine ⟨_, rfl, t, C.T, _, _, _, rfl, hB.obj, T.clT, T.nT_phase, tabF_phase, _, rfl, p, _, rfl, .inr hS, rfl, flat_cards ps, _, rfl, _, _, rfl, fun e => ?_, fun e d hd => ?_⟩
    · simp only [Bool.false_eq_true, if_false] at e
      rw [inV_nats] at e
      exact q1 (of_decide_eq_true e)
    · simp only [Bool.false_eq_true, if_false] at e
      rw [inV_nats] at e
      exact (q2 (of_decide_eq_false e)).at (Same.refl _) d hd
theorem ok_Table_take (T : Txt K mg C) : MethOk P w K mg base (L2.CX P w) 3 C.T "take" P_Table_take (sp_take C K) := by
  refine T.m_Table_take.okX sc_Table_take (fun _ _ F => b_Table_take F) ?_ ?_
  · rintro vs H Q E ⟨H0, t, p, B, l, rfl, _⟩
    rfl
  · intro f cdv A outer s H vs Q E hr h
    obtain ⟨H0, t, p, B, l, rfl, hB, hS, hd, hz, q1, q2⟩ := h
    refine ⟨_, (pss_cons (ps_expr (pe_cD (ok_must T) hr (by decide) (passes_call (takes_of rfl rfl rfl rfl) (fun _ _ _ _ h => h)) (pa_cons (pe_cM (ok_Shoe_has_all T) hr (by decide) T.clO pass0 (pe_fld (pv 0) rfl) (pa_cons (pv 1) pa_nil)) (pa_cons (pe_un un_neg pe_int) pa_nil))))
      (pss_one (ps_expr (pe_cM (ok_Shoe_take T) hr (by decide) T.clO pass0 (pe_fld (pv 0) rfl) (pa_cons (pv 1) pa_nil))))), ?_⟩
    refine ⟨_, rfl, t, C.T, _, _, _, rfl, hB.obj, T.clT, T.nT_shoe, tabF_shoe, B.sh, B.dsh, _, rfl, hB.sh, shoeF_no_has_all, _, rfl, B.sh, B.dsh, B.lf, p, B.left, l, rfl, hB.sh, hB.lf, hB.fit.left, hB.own.same.seq hS, hd, hz, fun H2 s2 => ?_⟩
    have hB2 := hB.sameR s2
    refine ⟨_, rfl, _, _, rfl, fun e => ?_, fun e d hd => ?_⟩
    · obtain ⟨z, ez⟩ := Option.isSome_iff_exists.mp e
      obtain ⟨cs, O, back⟩ := hB2.shoe
      refine ⟨_, rfl, t, C.T, _, _, _, rfl, hB2.obj, T.clT, T.nT_shoe, tabF_shoe, B.sh, B.dsh, _, rfl, hB2.sh, shoeF_no_take, _, rfl, H0, cs, B.sh, B.dsh, B.lf, p, B.left, l, z, rfl, O, hB.fit.left, hS, hd, ez, fun H3 O3 => ?_⟩
      exact q2 z ez H3 (back H3 z ((drawn_len ez).trans hB.fit.left) O3)
    · have e' : Kg84.drawn B.left l = none := by
        cases h : Kg84.drawn B.left l with
        | none => rfl
        | some z => rw [h] at e; cases e
      exact (q1 e').at s2 d hd
theorem ok_Table_must_draw (T : Txt K mg C) : MethOk P w K mg base CX0 5 C.T "must_draw" P_Table_must_draw (sp_must_draw C K) := by
  refine T.m_Table_must_draw.ok sc_Table_must_draw (fun _ _ F => b_Table_must_draw F) ?_ ?_
  · rintro vs H Q E ⟨H0, t, p, B, l, rfl, _⟩
    rfl
  · intro f cdv A outer s H vs Q E hr h
    obtain ⟨H0, t, p, B, l, rfl, hB, hS, hz, q⟩ := h
    refine ⟨_, (pss_cons (ps_set (i := 2) sc_Table_must_draw.nd rfl (Or.inl rfl) (pe_cD (ok_count_of T) hr (by decide) pass0 (pa_cons (pv 1) pa_nil)))
      (pss_one (ps_ret (pe_or (pe_cmp (pc_lt (pv 2) (pe_gI T.g_DEALER_STANDS))) (pe_one (pe_and (pe_fld (pv 0) rfl) (pe_and (pe_cmp (pc_eqI (pv 2) (pe_gI T.g_DEALER_STANDS))) (pe_one (pe_cD (ok_is_soft T) hr (by decide) pass0 (pa_cons (pv 1) pa_nil)))))))))), ?_⟩
    refine ⟨_, rfl, p, l, rfl, hS, hz, fun H2 s2 => ?_⟩
    have hB2 := hB.sameR s2
    unfold takesN at q
    refine ⟨_, rfl, _, _, rfl, rfl, _, rfl, ?_⟩
    refine ifB (b := decide (Kg84.total l < 17)) (nat_lt _ 17) (fun e => ?_) (fun e => ?_)
    · rw [e, Bool.true_or] at q
      exact q H2 s2
    rw [e, Bool.false_or] at q
    refine ⟨_, rfl, t, C.T, _, _, _, rfl, hB2.obj, T.clT, T.nT_draws_soft, tabF_draws_soft, _, rfl, ?_⟩
    refine ifB (b := B.rules.soft17) rfl (fun e2 => ?_) (fun e2 => ?_)
    · rw [e2, Bool.true_and] at q
      refine ⟨_, rfl, _, _, rfl, rfl, _, rfl, ?_⟩
      refine ifB (b := Kg84.total l == 17) (nat_eq _ 17) (fun e3 => ?_) (fun e3 => ?_)
      · rw [e3, Bool.true_and] at q
        exact ⟨_, rfl, p, l, rfl, s2.seq hS, hz, fun H3 s3 => q H3 (s2.trans s3)⟩
      · rw [e3, Bool.false_and] at q
        exact q H2 s2
    · rw [e2, Bool.false_and] at q
      exact q H2 s2
theorem ok_Table_stands (T : Txt K mg C) : MethOk P w K mg base CX0 5 C.T "stands" P_Table_stands (sp_stands C) := by
  refine T.m_Table_stands.ok sc_Table_stands (fun _ _ F => b_Table_stands F) ?_ ?_
  · rintro vs H Q E ⟨H0, t, B, rfl, _⟩
    rfl
  · intro f cdv A outer s H vs Q E hr h
    obtain ⟨H0, t, B, rfl, hB, hT, q⟩ := h
    refine ⟨_, (pss_cons (ps_set (i := 1) sc_Table_stands.nd rfl (Or.inl rfl) (pe_fld (pv 0) rfl))
      (pss_cons (ps_if (pt_cmpR op_in_seq (pe_fld (pv 0) rfl) (pe_tup (pa_cons (pe_gI T.g_INSURANCE) (pa_cons (pe_gI T.g_HANDS) pa_nil))) (by rfl)) (pss_one (ps_set (i := 1) sc_Table_stands.nd rfl (Or.inl rfl) (pe_slice sl_list (pe_fld (pv 0) rfl) po_none (po_some pe_int)))) pss_nil)
      (pss_cons (ps_asg (pe_tup (pa_cons (pe_un un_neg pe_int) (pa_cons (pe_un un_neg pe_int) pa_nil))) (pg_tup (by rfl) (pgs_cons (pg_name (i := 2) sc_Table_stands.nd rfl (Or.inl rfl)) (pgs_cons (pg_name (i := 3) sc_Table_stands.nd rfl (Or.inl rfl)) pgs_nil))))
      (pss_cons (ps_if (pt_cmp (pc_eqI (pe_fld (pv 0) rfl) (pe_gI T.g_HANDS))) (pss_one (ps_asg (pe_cM0 (ok_Table_turn T) hr (by decide) T.clT pass0 (pv 0)) (pg_tup (by rfl) (pgs_cons (pg_name (i := 2) sc_Table_stands.nd rfl (Or.inl rfl)) (pgs_cons (pg_name (i := 3) sc_Table_stands.nd rfl (Or.inl rfl)) pgs_nil))))) pss_nil)
      (pss_one (ps_ret (pe_lst (pa_cons (pe_fld (pv 0) rfl) (pa_cons (pv 2) (pa_cons (pv 3) (pa_cons (pe_cD (ok_count_of T) hr (by decide) pass0 (pa_cons (pv 1) pa_nil)) pa_nil))))))))))), ?_⟩
    refine ⟨_, rfl, t, C.T, _, _, _, rfl, hB.obj, T.clT, T.nT_dealer, tabF_dealer, ?_⟩
    refine ⟨_, rfl, t, C.T, _, _, _, rfl, hB.obj, T.clT, T.nT_phase, tabF_phase, (by show 2 ≤ sizeLine; decide), fun p hp => ?_⟩
    have s1 : Same H (upd H p (.tup [.int 1, .int 2])) := same_new hp
    have hB1 := hB.sameR s1
    refine ⟨p, _, rfl, .inr (SqT.of upd_same), rfl, rfl, _, rfl, ?_⟩
    have key : ∀ (H2 : Hp) (a : Addr) (l : List Nat), Same H H2 → SqL K H2 a (cardsV l) → l.length ≤ 10000 → l = (if B.phase = 1 ∨ B.phase = 2 then B.dealer.take 1 else B.dealer) →
        tSeq (tAsg (tTup (tCons (tUn (rU fun i => V.int (-i)) (tC (.int 1))) (tCons (tUn (rU fun i => V.int (-i)) (tC (.int 1))) tNil))) (gTup K 2 (gCons (gName 2) (gCons (gName 3) gNil))))
          (tSeq (tIfS (tB (tEqI (tFld K (tVar 0) "phase") (tC (.int 2)))) (tAsg (tMeth C.T "turn" (sp_turn C) [] E0 (tVar 0) tNil) (gTup K 2 (gCons (gName 2) (gCons (gName 3) gNil)))) tNext)
            (tRet (tLst (tCons (tFld K (tVar 0) "phase") (tCons (tVar 2) (tCons (tVar 3) (tCons (tCall (sp_of K totalV) [] E0 (tCons (tVar 1) tNil)) tNil)))))))
          { nx := fun _ H' => Q .non H', rt := Q } [some (.ref t), some (.ref a), none, none] H2 := by
      intro H1 a l s1 hl1 hz el
      refine ⟨_, rfl, _, rfl, (by show 2 ≤ sizeLine; decide), fun pp hpp => ⟨pp, _, rfl, SqT.of upd_same, rfl, _, _, rfl, _, _, rfl, rfl, ?_⟩⟩
      have sp : Same H1 (upd H1 pp (.tup [.int (-1), .int (-1)])) := same_new hpp
      have s2 := s1.trans sp
      have hl := sp.seq hl1
      have hB2 := hB.sameR s2
      show tSeq _ _ _ _ (upd H1 pp (.tup [.int (-1), .int (-1)]))
      generalize (upd H1 pp (.tup [.int (-1), .int (-1)])) = H2 at s2 hl hB2 ⊢
      refine ⟨_, rfl, t, C.T, _, _, _, rfl, hB2.obj, T.clT, T.nT_phase, tabF_phase, _, _, rfl, rfl, _, rfl, ?_⟩
      have fin : ∀ (H3 : Hp) (i j : Int), Same H2 H3 → [i, j] = Kg84.opt (if B.phase = 2 then B.abs.turn else none) →
          tRet (tLst (tCons (tFld K (tVar 0) "phase") (tCons (tVar 2) (tCons (tVar 3) (tCons (tCall (sp_of K totalV) [] E0 (tCons (tVar 1) tNil)) tNil)))))
            { nx := fun _ H' => Q .non H', rt := Q } [some (.ref t), some (.ref a), some (.int i), some (.int j)] H3 := by
        intro H3 i j s3 e3
        have hB3 := hB2.sameR s3
        refine ⟨_, rfl, t, C.T, _, _, _, rfl, hB3.obj, T.clT, T.nT_phase, tabF_phase, _, rfl, _, rfl, _, rfl, a, l, rfl, s3.seq hl, hz, fun H4 s4 => ⟨(by show 4 ≤ sizeLine; decide), fun p hp => ?_⟩⟩
        have s04 := (s2.trans s3).trans s4
        refine q _ p (s04.free hp) (Same.upd s04 (s04.free hp)) ?_
        rw [upd_same]
        unfold Kg84.told
        show _ = some (HO.lst (List.map V.int (((B.phase : Nat) : Int) :: (Kg84.opt (if B.phase = 2 then B.abs.turn else none) ++ [((Kg84.total (if B.phase = 1 ∨ B.phase = 2 then B.dealer.take 1 else B.dealer) : Nat) : Int)]))))
        rw [← e3, ← el]
        rfl
      refine ifB (b := B.phase == 2) (nat_eq _ 2) (fun e => ?_) (fun e => ?_)
      · have ep : B.phase = 2 := beq_iff_eq.mp e
        obtain ⟨⟨i, j⟩, et⟩ : ∃ ij, B.abs.turn = some ij := by
          cases h : B.abs.turn with
          | none => exact absurd h (hT ep)
          | some ij => exact ⟨ij, rfl⟩
        refine ⟨_, rfl, t, B.d, _, rfl, hB2.obj, tabF_no_turn, H0, t, B, rfl, hB2, (fun z => by rw [et] at z; cases z), fun i' j' et' H3 p hp s3 e3 => ?_⟩
        rw [et] at et'
        cases et'
        refine ⟨p, _, rfl, SqT.of e3, rfl, _, _, rfl, _, _, rfl, rfl, ?_⟩
        exact fin H3 _ _ s3 (by rw [if_pos ep, et]; rfl)
      · have ep : ¬ B.phase = 2 := beq_eq_false_iff_ne.mp e
        exact fin H2 _ _ (Same.refl _) (by rw [if_neg ep]; rfl)
    have ein : (if false = true then !inV (.int ((B.phase : Nat) : Int)) [.int 1, .int 2] else inV (.int ((B.phase : Nat) : Int)) [.int 1, .int 2]) = decide (B.phase = 1 ∨ B.phase = 2) := by
      simp only [Bool.false_eq_true, if_false]
      rw [show ([.int 1, .int 2] : List V) = cardsV [1, 2] from rfl, inV_nats, Bool.eq_iff_iff]
      simp
    refine ifB ein (fun e => ?_) (fun e => ?_)
    · have ep := of_decide_eq_true e
      refine ⟨_, rfl, t, C.T, _, _, _, rfl, hB1.obj, T.clT, T.nT_dealer, tabF_dealer, 1, rfl, B.dl, _, rfl, SqL.of hB1.dl, fun p2 hp2 => ?_⟩
      refine key _ p2 (B.dealer.take 1) (Same.upd s1 (s1.free hp2)) (SqL.of ?_) ?_ (by rw [if_pos ep])
      · rw [upd_same]
        unfold cutV cardsV Kg84.whole
        cases B.dealer with
        | nil => rfl
        | cons a r =>
          congr 2
      · rw [List.length_take]
        have := hB.dealer
        omega
    · have ep := of_decide_eq_false e
      exact key _ B.dl B.dealer s1 (SqL.of hB1.dl) hB.dealer (by rw [if_neg ep])
end
end Bj
namespace Bj
open PySem PySem.Spec PyProof.Rows L2
theorem lc_to {K : PySem.W.Frag} {a : Addr} {xs : List V} {te : TE} {i : Nat} {σ : L2.St} {H1 : Hp} {D : Addr} {Qd : Hp → Prop} (ys : List V) (hy : ys.length = xs.length) (hD : H1 D = none) (hz : xs.length ≤ 10000) (hs : SqL K H1 a xs)
    (he : ∀ (j : Nat) (x y : V) (H2 : Hp) (R : VK), xs[j]? = some x → ys[j]? = some y → Same H1 H2 → (∀ H3, Same H2 H3 → R y H3) → te ((wipe σ [i]).set i (some x)) H2 R)
    (hd : ∀ H2, Same H1 H2 → H2 D = some (.lst ys) → Qd H2) :
    ∃ W : Nat → Nat → Hp → Prop, (∃ m, W 0 m (upd H1 D (.lst []))) ∧ ∀ j m H, W j m H →
      ((Itl K a).stop j H ∧ Qd H) ∨ ((Itl K a).go j H ∧ ∃ Nx : Hp → Prop, (∀ H', Nx H' → ∃ m', m' < m ∧ W (j + 1) m' H') ∧ ∀ x H', (Itl K a).yld j H x H' → gName i x (wipe σ [i]) H' fun σ2 H2 => wipe σ2 [i] = wipe σ [i] ∧ tYes σ2 H2 fun b H3 =>
        if b = true then te σ2 H3 fun y H4 => ∃ acc, H4 D = some (.lst acc) ∧ acc.length < sizeLine ∧ Nx (upd H4 D (.lst (acc ++ [y]))) else Nx H3) := by
  refine lc_list (K := K) (a := a) (xs := xs) (fun j H => Same H1 H ∧ H D = some (.lst (ys.take j))) ⟨same_new hD, upd_same⟩ (fun j H _ p => p.1.seq hs) ?_ ?_
  · rintro j x H hj ⟨s1, hD1⟩
    have jlt : j < xs.length := (List.getElem?_eq_some_iff.mp hj).1
    have hyj : ys[j]? = some (ys[j]'(by omega)) := List.getElem?_eq_getElem (by omega)
    refine ⟨?_, ?_⟩
    · show ((σ.set i none).set i (some x)).set i none = σ.set i none
      rw [List.set_set, List.set_set]
    · refine he j x _ H _ hj hyj s1 fun H3 s3 => ⟨_, s3 _ _ hD1, ?_, ?_, ?_⟩
      · rw [List.length_take]
        exact small10000 (by omega)
      · exact Same.upd (s1.trans s3) hD
      · rw [upd_same, take_more hyj]
  · rintro H ⟨s1, hD1⟩
    refine hd H s1 ?_
    rw [hD1, ← hy, List.take_length]
section
variable {C : Adr} {t : Addr} {T : TabL} {p q : List SeatL} {s : SeatL}
def seatPre (C : Adr) (t : Addr) (T : TabL) (p : List SeatL) : List Cell := (t, T.obj C) :: (T.rest C ++ p.flatMap (SeatL.own C))
def seatPost (C : Adr) (T : TabL) (s : SeatL) (q : List SeatL) : List Cell := (s.l, .lst (refsH s.hs)) :: (q.flatMap (SeatL.own C) ++ T.hands.flatMap (HandL.cells C))
theorem cells_seat (e : T.seats = p ++ s :: q) : T.cells C t = seatPre C t T p ++ (s.a, s.obj C) :: seatPost C T s q := by
  unfold TabL.cells TabL.under seatPre seatPost
  rw [e]
  simp [SeatL.own, List.flatMap_append]
theorem cells_seat' (e : T.seats = p ++ s :: q) (s' : SeatL) (ea : s'.a = s.a) (el : s'.l = s.l) (eh : s'.hs = s.hs) :
    TabL.cells C t { T with seats := p ++ s' :: q } = seatPre C t T p ++ (s.a, s'.obj C) :: seatPost C T s q := by
  rw [cells_seat (C := C) (t := t) (T := { T with seats := p ++ s' :: q }) (p := p) (s := s') (q := q) rfl]
  have e1 : TabL.rest C { T with seats := p ++ s' :: q } = T.rest C := by
    unfold TabL.rest refsS
    rw [e]
    simp [ea]
  have e2 : TabL.hands { T with seats := p ++ s' :: q } = T.hands := by
    unfold TabL.hands
    rw [e]
    simp [eh]
  unfold seatPre seatPost
  rw [e1, e2, ea, el, eh]
  rfl
end
def payT (T : TabL) : TabL := { T with seats := T.seats.map (SeatL.paid T.dealer), phase := 4 }
def stH (x : HandL) : HandL := { x with h := settleH x.h }
def settleT (T : TabL) : TabL := { T with seats := T.seats.map fun s => { s with hs := s.hs.map stH } }
def goOnT (T : TabL) : TabL := if T.abs.turn = none then (if T.abs.needs = true ∧ T.abs.takes = true then { T with phase := 3 } else payT T) else T
def lookT (T : TabL) : TabL := if Kg84.isNatural T.dealer = true then payT (settleT T) else goOnT { settleT T with phase := 2 }
def sp_Table_do (C : Adr) (f : TabL → TabL) : Sp := fun vs H Q _ => ∃ (H0 : Hp) (t : Addr) (T : TabL), vs = [.ref t] ∧ Tab C H0 H t T ∧ ∀ H', Tab C H0 H' t (f T) → Q .non H'
theorem payT_fit {T : TabL} (h : Fit T) : Fit (payT T) := by
  refine ⟨?_, ?_, ?_, h.dealer, h.left⟩
  · show (T.seats.map _).length ≤ 7
    rw [List.length_map]
    exact h.seats
  · intro s hs
    obtain ⟨s', hs', rfl⟩ := List.mem_map.mp hs
    exact h.hands s' hs'
  · intro s hs
    obtain ⟨s', hs', rfl⟩ := List.mem_map.mp hs
    exact h.cards s' hs'
theorem phase_fit {T : TabL} (h : Fit T) (n : Nat) : Fit { T with phase := n } := ⟨h.seats, h.hands, h.cards, h.dealer, h.left⟩
theorem goOnT_fit {T : TabL} (h : Fit T) : Fit (goOnT T) := by
  unfold goOnT
  split
  · split
    · exact phase_fit h 3
    · exact payT_fit h
  · exact h
theorem settleH_cards (h : Kg84.Hand) : (settleH h).cards = h.cards := by
  unfold settleH
  split
  · rfl
  · split <;> rfl
theorem settleT_fit {T : TabL} (h : Fit T) : Fit (settleT T) := by
  refine ⟨?_, ?_, ?_, h.dealer, h.left⟩
  · show (T.seats.map _).length ≤ 7
    rw [List.length_map]
    exact h.seats
  · intro s hs
    obtain ⟨s', hs', rfl⟩ := List.mem_map.mp hs
    show (s'.hs.map stH).length ≤ 300
    rw [List.length_map]
    exact h.hands s' hs'
  · intro s hs x hx
    obtain ⟨s', hs', rfl⟩ := List.mem_map.mp hs
    obtain ⟨x', hx', rfl⟩ := List.mem_map.mp hx
    show (settleH x'.h).cards.length ≤ 9000
    rw [settleH_cards]
    exact h.cards s' hs' x' hx'
theorem needs_eq (T : TabL) : T.abs.needs = (T.hands.map fun x => asks x.h).any id := by
  unfold Kg84.State.needs TabL.hands TabL.abs
  show (T.seats.map SeatL.x).any _ = _
  rw [List.any_map, List.any_map, List.any_flatMap]
  congr 1
  funext s
  show (s.hs.map (·.h)).any _ = _
  rw [List.any_map]
  rfl
def cellsF (C : Adr) (t : Addr) (T : TabL) (hs : List HandL) : List Cell := (t, T.obj C) :: (T.rest C ++ (T.seats.flatMap (SeatL.own C) ++ hs.flatMap (HandL.cells C)))
theorem cellsF_settle (C : Adr) (t : Addr) (T : TabL) : cellsF C t T (T.hands.map stH) = (settleT T).cells C t := by
  have e1 : (settleT T).hands = T.hands.map stH := by
    unfold TabL.hands settleT
    simp only
    rw [List.flatMap_map, List.map_flatMap]
  have e2 : (settleT T).seats.flatMap (SeatL.own C) = T.seats.flatMap (SeatL.own C) := by
    unfold settleT
    simp only
    rw [List.flatMap_map]
    congr 1
    funext s
    unfold SeatL.own SeatL.obj refsH
    simp only
    rw [List.map_map]
    rfl
  have e3 : (settleT T).rest C = T.rest C := by
    unfold TabL.rest settleT refsS
    simp only
    rw [List.map_map]
    rfl
  unfold cellsF TabL.cells TabL.under
  rw [e1, e2, e3]
  rfl
section
variable {P : Program} {w : World} {K : PySem.W.Frag} {mg : Str → Option Value} {base : Heap} {C : Adr}
theorem ok_Table_pay (T : Txt K mg C) : MethOk P w K mg base CX0 9 C.T "pay" P_Table_pay (sp_Table_do C payT) := by
  refine T.m_Table_pay.ok sc_Table_pay (fun _ _ F => b_Table_pay F) ?_ ?_
  · rintro vs H Q E ⟨H0, t, B, rfl, _⟩
    rfl
  · intro f cdv A outer sh H vs Q E hr h
    obtain ⟨H0, t, B, rfl, hB, q⟩ := h
    refine ⟨_, (pss_cons (ps_for PassesOwn.never rfl (pi_list (pe_fld (pv 0) rfl)) (pg_name (i := 1) sc_Table_pay.nd rfl (Or.inl rfl)) (pss_one (ps_expr (pe_cM (ok_Seat_pay T) hr (by decide) T.clS pass0 (pv 1) (pa_cons (pe_fld (pv 0) rfl) pa_nil)))))
      (pss_one (ps_fld (pv 0) (pe_gI T.g_PAID) rfl))), ?_⟩
    refine ⟨_, rfl, t, C.T, _, _, _, rfl, hB.obj, T.clT, T.nT_seats, tabF_seats, B.ls, rfl, ⟨_, SqL.of hB.ls⟩, ?_⟩
    have fit : ∀ i, Fit { B with seats := (B.seats.take i).map (SeatL.paid B.dealer) ++ B.seats.drop i } := fun i => by
      have all : ∀ s ∈ (B.seats.take i).map (SeatL.paid B.dealer) ++ B.seats.drop i, ∃ s' ∈ B.seats, s.hs = s'.hs := by
        intro s hs
        rcases List.mem_append.mp hs with z | z
        · obtain ⟨s', hs', rfl⟩ := List.mem_map.mp z
          exact ⟨s', List.mem_of_mem_take hs', rfl⟩
        · exact ⟨s, List.mem_of_mem_drop z, rfl⟩
      refine ⟨?_, fun s hs => ?_, fun s hs x hx => ?_, hB.fit.dealer, hB.fit.left⟩
      · have := hB.fit.seats
        show ((B.seats.take i).map _ ++ B.seats.drop i).length ≤ 7
        rw [List.length_append, List.length_map, List.length_take, List.length_drop]
        omega
      · obtain ⟨s', h1, h2⟩ := all s hs
        rw [h2]
        exact hB.fit.hands s' h1
      · obtain ⟨s', h1, h2⟩ := all s hs
        rw [h2] at hx
        exact hB.fit.cards s' h1 x hx
    have refs : ∀ i, refsS ((B.seats.take i).map (SeatL.paid B.dealer) ++ B.seats.drop i) = refsS B.seats := fun i => by
      unfold refsS
      rw [List.map_append, List.map_map]
      show (B.seats.take i).map (fun s => V.ref s.a) ++ _ = _
      rw [← List.map_append, List.take_append_drop]
    refine for_list (K := K) (a := B.ls) (xs := refsS B.seats) (fun i σ H' => ∃ v : Option V, σ = [some (.ref t), v] ∧ Tab C H0 H' t { B with seats := (B.seats.take i).map (SeatL.paid B.dealer) ++ B.seats.drop i })
      ⟨none, rfl, hB⟩ (fun i σ H' _ ⟨_, _, B'⟩ => by have := B'.ls; rw [show refsS _ = _ from refs i] at this; exact SqL.of this) ?_ ?_
    · rintro i y σ H2 hi ⟨v, rfl, B2⟩
      obtain ⟨s, hs, rfl⟩ := refsS_at hi
      obtain ⟨e1, l1⟩ := split_at hs
      have ilt : i < B.seats.length := (List.getElem?_eq_some_iff.mp hs).1
      have ed : B.seats.drop i = s :: B.seats.drop (i + 1) := by
        rw [List.drop_eq_getElem_cons ilt]
        congr 1
        exact (List.getElem?_eq_some_iff.mp hs).2
      have es : ({ B with seats := (B.seats.take i).map (SeatL.paid B.dealer) ++ B.seats.drop i } : TabL).seats = (B.seats.take i).map (SeatL.paid B.dealer) ++ s :: B.seats.drop (i + 1) := by
        show _ ++ B.seats.drop i = _
        rw [ed]
      have hsm : s ∈ ({ B with seats := (B.seats.take i).map (SeatL.paid B.dealer) ++ B.seats.drop i } : TabL).seats := by
        rw [es]
        simp
      refine ⟨_, rfl, s.a, s.d, _, rfl, B2.seat hsm, seatF_no_pay, _, rfl, t, C.T, _, _, _, rfl, B2.obj, T.clT, T.nT_dealer, tabF_dealer, H0, seatPre C t { B with seats := (B.seats.take i).map (SeatL.paid B.dealer) ++ B.seats.drop i } ((B.seats.take i).map (SeatL.paid B.dealer)) ++ seatPost C { B with seats := (B.seats.take i).map (SeatL.paid B.dealer) ++ B.seats.drop i } s (B.seats.drop (i + 1)), s, B.dl, B.dealer, rfl, ?_, ?_, ?_, ?_, hB.dealer, fun H3 O3 => ?_⟩
      rotate_right 1
      · refine ⟨some (.ref s.a), rfl, ?_, fit (i + 1)⟩
        have e5 : ({ B with seats := (B.seats.take (i + 1)).map (SeatL.paid B.dealer) ++ B.seats.drop (i + 1) } : TabL) = { ({ B with seats := (B.seats.take i).map (SeatL.paid B.dealer) ++ B.seats.drop i } : TabL) with seats := (B.seats.take i).map (SeatL.paid B.dealer) ++ SeatL.paid B.dealer s :: B.seats.drop (i + 1) } := by
          rw [take_more hs, List.map_append, List.append_assoc]
          rfl
        rw [e5, cells_seat' (C := C) (t := t) es (SeatL.paid B.dealer s) rfl rfl rfl]
        exact O3.perm List.perm_middle.symm
      · have := B2.own
        rw [cells_seat (C := C) (t := t) es] at this
        exact this.perm List.perm_middle
      · exact List.mem_append_right _ (by simp [seatPost])
      · intro x hx
        have m : x ∈ TabL.hands { B with seats := (B.seats.take i).map (SeatL.paid B.dealer) ++ B.seats.drop i } := List.mem_flatMap.mpr ⟨s, hsm, hx⟩
        have k : ∀ c ∈ x.cells C, c ∈ seatPre C t { B with seats := (B.seats.take i).map (SeatL.paid B.dealer) ++ B.seats.drop i } ((B.seats.take i).map (SeatL.paid B.dealer)) ++ seatPost C { B with seats := (B.seats.take i).map (SeatL.paid B.dealer) ++ B.seats.drop i } s (B.seats.drop (i + 1)) :=
          fun c hc => List.mem_append_right _ (List.mem_cons_of_mem _ (List.mem_append_right _ (List.mem_flatMap.mpr ⟨x, m, hc⟩)))
        exact ⟨k _ (by simp [HandL.cells]), k _ (by simp [HandL.cells]), B2.fit.cards s hsm x hx⟩
      · exact List.mem_append_left _ (by simp [seatPre, TabL.rest])
    · rintro σ H2 ⟨v, rfl, B2⟩
      rw [refsS_len, List.take_length, List.drop_length, List.append_nil] at B2
      refine ⟨_, rfl, t, C.T, _, _, rfl, B2.obj, T.clT, T.nT_phase, tabF_len, ?_⟩
      rw [tabF_put_phase]
      exact q _ ⟨B2.own.put0 _, payT_fit hB.fit⟩
theorem ok_Table_go_on (T : Txt K mg C) : MethOk P w K mg base CX0 10 C.T "go_on" P_Table_go_on (sp_Table_do C goOnT) := by
  refine T.m_Table_go_on.ok sc_Table_go_on (fun _ _ F => b_Table_go_on F) ?_ ?_
  · rintro vs H Q E ⟨H0, t, B, rfl, _⟩
    rfl
  · intro f cdv A outer sh H vs Q E hr h
    obtain ⟨H0, t, B, rfl, hB, q⟩ := h
    refine ⟨_, (pss_one (ps_if (pt_cmp (pc_isN (pe_cM0 (ok_Table_turn T) hr (by decide) T.clT pass0 (pv 0)))) (pss_one (ps_if (PW.pt (pw_and (pt_val (pe_callB (cr_any rfl) (by rfl) T.z_any PyProof.Rows.boot_any (pa_cons (pe_lc (own := [("hand", 1)]) (g := gName 1) (tt := tYes) rfl sc_Table_go_on.nd (pi_list (pe_cM0 (ok_Table_all_hands T) hr (by decide) T.clT pass0 (pv 0))) (blkOk_by (own := [("hand", 1)]) (N := N_Table_go_on) (sc := defScope s_Table_go_on) (by decide +kernel)) (fun _ _ _ _ _ => pg_name (i := 1) sc_Table_go_on.nd rfl (Or.inl rfl)) (fun _ _ _ _ _ => pts_nil) (fun _ _ _ _ _ => (pe_cM0 (ok_Hand_asks_dealer T) hr (by decide) T.clH pass0 (pv 1)))) pa_nil))) (pw_and1 (pt_val (pe_cM (ok_Table_must_draw T) hr (by decide) T.clT pass0 (pv 0) (pa_cons (pe_fld (pv 0) rfl) pa_nil)))))) (pss_one (ps_fld (pv 0) (pe_gI T.g_DEALER) rfl)) (pss_one (ps_expr (pe_cM0 (ok_Table_pay T) hr (by decide) T.clT pass0 (pv 0)))))) pss_nil)), ?_⟩
    refine ⟨_, rfl, t, B.d, _, rfl, hB.obj, tabF_no_turn, H0, t, B, rfl, hB, fun et H2 s2 => ?_, fun i j et H2 p hp s2 e2 => ?_⟩
    · refine ⟨_, rfl, iteT ?_⟩
      have hB2 := hB.sameR s2
      refine ⟨_, rfl, t, B.d, _, rfl, hB2.obj, tabF_no_all_hands, H0, t, B, rfl, hB2, fun H3 p hp s3 e3 => ⟨p, rfl, ⟨_, SqL.of e3⟩, fun D hD => ?_⟩⟩
      have hB3 := hB2.sameR s3
      have bnd : B.hands.length ≤ 2100 := by
        have : ∀ (l : List SeatL), (∀ s ∈ l, s.hs.length ≤ 300) → (l.flatMap (·.hs)).length ≤ 300 * l.length := by
          intro l
          induction l with
          | nil => intro _; simp
          | cons a r ih =>
            intro h
            have h1 := h a (by simp)
            have h2 := ih fun s hs => h s (by simp [hs])
            rw [List.flatMap_cons, List.length_append, List.length_cons]
            omega
        have h1 := this B.seats hB.fit.hands
        have h2 := hB.fit.seats
        unfold TabL.hands
        omega
      refine lc_to (B.hands.map fun x => V.bl (asks x.h)) (by rw [refsH_len, List.length_map]) hD (by rw [refsH_len]; omega) (SqL.of e3) ?_ ?_
      · intro j v y H4 R hv hy s4 k
        obtain ⟨x, hx, rfl⟩ := refs_at hv
        rw [List.getElem?_map, hx] at hy
        cases hy
        obtain ⟨s, hs, hxs⟩ := List.mem_flatMap.mp (List.mem_of_getElem? hx)
        have hA := (hB3.hand hs hxs).sameR s4
        exact ⟨_, rfl, x.a, x.d, _, rfl, hA.obj, handF_no_asks_dealer, x, rfl, hA, fun H5 s5 => k H5 s5⟩
      · intro H4 s4 e4
        have hB4 := hB3.sameR s4
        refine ⟨D, B.hands.map fun x => asks x.h, rfl, SqL.of (by rw [e4, List.map_map]; rfl), _, rfl, ?_⟩
        have draw : (B.abs.needs = true ∧ B.abs.takes = true) → Q .non (upd H4 t (TabL.obj C { B with phase := 3 })) := fun e => by
          refine q _ ?_
          unfold goOnT
          rw [if_pos et, if_pos e]
          exact ⟨hB4.own.put0 _, phase_fit hB.fit 3⟩
        have pay : ∀ {H5}, Tab C H0 H5 t B → ¬ (B.abs.needs = true ∧ B.abs.takes = true) → ∃ a dx fs, V.ref t = .ref a ∧ H5 a = some (.ins C.T dx fs) ∧ fs.lookup ("pay" : Str) = none ∧ tNil [some (.ref t), none] H5 fun vs H2 => sp_Table_do C payT (.ref t :: (vs ++ [])) H2 (fun _ H1 => Q .non H1) E0 := fun {H5} hB5 e => by
          refine ⟨t, B.d, _, rfl, hB5.obj, tabF_no_pay, H0, t, B, rfl, hB5, fun H6 hB6 => q _ ?_⟩
          unfold goOnT
          rw [if_pos et, if_neg e]
          exact hB6
        rw [← needs_eq]
        refine ifB (b := B.abs.needs) rfl (fun e => ?_) (fun e => ?_)
        · refine ⟨_, rfl, t, B.d, _, rfl, hB4.obj, tabF_no_must_draw, _, rfl, t, C.T, _, _, _, rfl, hB4.obj, T.clT, T.nT_dealer, tabF_dealer, H0, t, B.dl, B, B.dealer, rfl, hB4, SqL.of hB4.dl, hB.dealer, fun H5 s5 => ⟨_, rfl, ?_⟩⟩
          have hB5 := hB4.sameR s5
          refine ifB (b := B.abs.takes) rfl (fun e2 => ?_) (fun e2 => ?_)
          · refine ⟨_, rfl, t, C.T, _, _, rfl, hB5.obj, T.clT, T.nT_phase, tabF_len, ?_⟩
            rw [tabF_put_phase]
            refine q _ ?_
            unfold goOnT
            rw [if_pos et, if_pos ⟨e, e2⟩]
            exact ⟨hB5.own.put0 _, phase_fit hB.fit 3⟩
          · exact ⟨_, rfl, pay hB5 (fun z => by rw [e2] at z; cases z.2)⟩
        · refine iteF ⟨_, rfl, pay hB4 (fun z => by rw [e] at z; cases z.1)⟩
    · refine ⟨_, rfl, iteF ?_⟩
      refine q _ ?_
      unfold goOnT
      rw [if_neg (by rw [et]; intro z; cases z)]
      exact hB.sameR s2
end
end Bj
namespace Bj
open PySem PySem.Spec PyProof.Rows L2
def sp_asked (C : Adr) : Sp := fun vs H Q E => ∃ (H0 : Hp) (t : Addr) (T : TabL), vs = [.ref t] ∧ Tab C H0 H t T ∧ (T.phase ≠ 2 → Refuses C (-3) H E) ∧
  (T.phase = 2 → ∃ (i j : Nat) (s : SeatL) (x : HandL), T.abs.turn = some (i, j) ∧ T.seats[i]? = some s ∧ s.hs[j]? = some x ∧ ∀ H' p, H p = none → Same H H' → H' p = some (.tup [.ref s.a, .ref x.a]) → Q (.ref p) H')
def Gives (C : Adr) (H0 : Hp) (t : Addr) (T' : TabL) (l : List Int) (Q : VK) : Prop := ∀ H' p, H0 p = none → Tab C (upd H0 p (.lst (l.map V.int))) H' t T' → Q (.ref p) H'
def sp_counted (C : Adr) : Sp := fun vs H Q _ => ∃ (H0 : Hp) (t : Addr) (T : TabL) (s : SeatL) (x : HandL), vs = [.ref t, .ref x.a] ∧ Tab C H0 H t T ∧ s ∈ T.seats ∧ x ∈ s.hs ∧
  Gives C H0 t (goOnT T) (((Kg84.total x.h.cards : Nat) : Int) :: Kg84.told (goOnT T).abs) Q
theorem goOnT_seat {T : TabL} {s : SeatL} (h : s ∈ T.seats) : ∃ s' ∈ (goOnT T).seats, s'.hs = s.hs := by
  unfold goOnT
  split
  · split
    · exact ⟨s, h, rfl⟩
    · exact ⟨_, List.mem_map_of_mem h, rfl⟩
  · exact ⟨s, h, rfl⟩
theorem goOnT_turn {T : TabL} : (goOnT T).phase = 2 → (goOnT T).abs.turn ≠ none := by
  unfold goOnT
  split
  · split
    · intro h; cases h
    · intro h; cases h
  · rename_i h
    intro _
    exact h
theorem Tab.frame {C : Adr} {H0 H : Hp} {t p : Addr} {T : TabL} {o : HO} (B : Tab C H0 H t T) (n : H p = none) : Tab C (upd H0 p o) (upd H p o) t T := ⟨B.own.frameNew n, B.fit⟩
theorem told_len (s : Kg84.State) : (Kg84.told s).length ≤ 10 := by
  unfold Kg84.told Kg84.opt
  split <;> simp [Kg84.whole]
theorem stands_core {C : Adr} {H0 H : Hp} {t : Addr} {T : TabL} {n : Int} {Q : VK} {σ : L2.St} (hB : Tab C H0 H t T) (ht : T.phase = 2 → T.abs.turn ≠ none) (g : Gives C H0 t T (n :: Kg84.told T.abs) Q) (e : σ[0]? = some (some (.ref t))) :
    [V.int n].length ≤ sizeLine ∧ ∀ p, H p = none → tMeth C.T "stands" (sp_stands C) [] E0 (tVar 0) tNil σ (upd H p (.lst [.int n])) fun y H2 => rCat (.ref p) y H2 Q := by
  refine ⟨(by show 1 ≤ sizeLine; decide), fun p hp => ?_⟩
  have hB4 := hB.frame (o := .lst [.int n]) hp
  have n0 : H0 p = none := hB.own.free hp
  refine ⟨_, e, t, T.d, _, rfl, hB4.obj, tabF_no_stands, _, t, T, rfl, hB4, ht, fun H5 p5 hp5 s5 e5 => ?_⟩
  have hB5 := hB4.sameR s5
  have len := told_len T.abs
  refine ⟨p, p5, _, _, rfl, rfl, hB5.own.same _ _ upd_same, e5, ?_, fun p6 hp6 => ?_⟩
  · rw [List.length_map]
    exact Nat.le_of_lt (small10000 (by show 1 + _ ≤ 10000; omega))
  · have hB6 := hB5.frame (o := .lst ([.int n] ++ (Kg84.told T.abs).map V.int)) hp6
    have n6 : H0 p6 = none := (same_new n0).free (hB5.own.free hp6)
    exact g _ p6 n6 ⟨hB6.own.weak (same_upd (same_new n0)), hB6.fit⟩
section
variable {P : Program} {w : World} {K : PySem.W.Frag} {mg : Str → Option Value} {base : Heap} {C : Adr}
theorem ok_Table_look (T : Txt K mg C) : MethOk P w K mg base CX0 11 C.T "look" P_Table_look (sp_Table_do C lookT) := by
  refine T.m_Table_look.ok sc_Table_look (fun _ _ F => b_Table_look F) ?_ ?_
  · rintro vs H Q E ⟨H0, t, B, rfl, _⟩
    rfl
  · intro f cdv A outer sh H vs Q E hr h
    obtain ⟨H0, t, B, rfl, hB, q⟩ := h
    refine ⟨_, (pss_cons (ps_for PassesOwn.never rfl (pi_list (pe_cM0 (ok_Table_all_hands T) hr (by decide) T.clT pass0 (pv 0))) (pg_name (i := 1) sc_Table_look.nd rfl (Or.inl rfl)) (pss_one (ps_expr (pe_cM0 (ok_Hand_settle T) hr (by decide) T.clH pass0 (pv 1)))))
      (pss_one (ps_if (pt_val (pe_cD (ok_is_natural T) hr (by decide) pass0 (pa_cons (pe_fld (pv 0) rfl) pa_nil))) (pss_one (ps_expr (pe_cM0 (ok_Table_pay T) hr (by decide) T.clT pass0 (pv 0)))) (pss_cons (ps_fld (pv 0) (pe_gI T.g_HANDS) rfl)
      (pss_one (ps_expr (pe_cM0 (ok_Table_go_on T) hr (by decide) T.clT pass0 (pv 0)))))))), ?_⟩
    refine ⟨_, rfl, t, B.d, _, rfl, hB.obj, tabF_no_all_hands, H0, t, B, rfl, hB, fun H2 p hp s2 e2 => ⟨p, rfl, ⟨_, SqL.of e2⟩, ?_⟩⟩
    have hB2 := hB.sameR s2
    have n0 : H0 p = none := hB.own.free hp
    have O2 : Own (upd H0 p (.lst (refsH B.hands))) H2 (cellsF C t B B.hands) := hB2.own.frameHas n0 e2 (hB.own.notin hp)
    refine for_list (K := K) (a := p) (xs := refsH B.hands) (fun i σ H' => ∃ v : Option V, σ = [some (.ref t), v] ∧ Own (upd H0 p (.lst (refsH B.hands))) H' (cellsF C t B ((B.hands.take i).map stH ++ B.hands.drop i)))
      ⟨none, rfl, O2⟩ (fun i σ H' _ ⟨_, _, O'⟩ => SqL.of (O'.same _ _ upd_same)) ?_ ?_
    · rintro i y σ H3 hi ⟨v, rfl, O3⟩
      obtain ⟨x, hx, rfl⟩ := refs_at hi
      have ilt : i < B.hands.length := (List.getElem?_eq_some_iff.mp hx).1
      have ed : B.hands.drop i = x :: B.hands.drop (i + 1) := by
        rw [List.drop_eq_getElem_cons ilt]
        congr 1
        exact (List.getElem?_eq_some_iff.mp hx).2
      obtain ⟨s, hs, hxs⟩ := List.mem_flatMap.mp (List.mem_of_getElem? hx)
      have ec : ∀ y : HandL, cellsF C t B ((B.hands.take i).map stH ++ y :: B.hands.drop (i + 1)) = ((t, B.obj C) :: (B.rest C ++ (B.seats.flatMap (SeatL.own C) ++ ((B.hands.take i).map stH).flatMap (HandL.cells C)))) ++ (y.a, y.obj C) :: ((y.l, .lst (cardsV y.h.cards)) :: (B.hands.drop (i + 1)).flatMap (HandL.cells C)) := by
        intro y
        unfold cellsF
        simp [HandL.cells, List.flatMap_append]
      rw [ed, ec x] at O3
      have hA : HandAt C H3 x := ⟨O3.get, O3.holds (x.l, _) (List.mem_append_right _ (List.mem_cons_of_mem _ List.mem_cons_self)), hB.fit.cards s hs x hxs⟩
      refine ⟨_, rfl, x.a, x.d, _, rfl, hA.obj, handF_no_settle, x, rfl, hA, fun H4 s4 => ?_⟩
      refine ⟨some (.ref x.a), rfl, ?_⟩
      have O4 := (O3.put (HandL.obj C (stH x))).sameR s4
      rw [take_more hx, List.map_append, List.append_assoc]
      show Own _ H4 (cellsF C t B ((B.hands.take i).map stH ++ stH x :: B.hands.drop (i + 1)))
      rw [ec (stH x)]
      have e3 : cardsV (stH x).h.cards = cardsV x.h.cards := by
        show cardsV (settleH x.h).cards = _
        rw [settleH_cards]
      rw [e3]
      exact O4
    · rintro σ H3 ⟨v, rfl, O3⟩
      rw [refsH_len, List.take_length, List.drop_length, List.append_nil, cellsF_settle] at O3
      have hB3 : Tab C H0 H3 t (settleT B) := ⟨O3.weak (same_new n0), settleT_fit hB.fit⟩
      refine ⟨_, rfl, t, C.T, _, _, _, rfl, hB3.obj, T.clT, T.nT_dealer, tabF_dealer, B.dl, B.dealer, rfl, SqL.of hB3.dl, hB.dealer, fun H4 s4 => ⟨_, rfl, ?_⟩⟩
      have hB4 := hB3.sameR s4
      unfold lookT at q
      refine ifB (b := Kg84.isNatural B.dealer) rfl (fun e => ?_) (fun e => ?_)
      · rw [if_pos e] at q
        exact ⟨_, rfl, t, B.d, _, rfl, hB4.obj, tabF_no_pay, H0, t, settleT B, rfl, hB4, fun H5 hB5 => q H5 hB5⟩
      · rw [if_neg (by rw [e]; decide)] at q
        refine ⟨_, rfl, t, C.T, _, _, rfl, hB4.obj, T.clT, T.nT_phase, tabF_len, ?_⟩
        rw [tabF_put_phase]
        have hB5 : Tab C H0 (upd H4 t (TabL.obj C { settleT B with phase := 2 })) t { settleT B with phase := 2 } := ⟨hB4.own.put0 _, phase_fit (settleT_fit hB.fit) 2⟩
        exact ⟨_, rfl, t, B.d, _, rfl, hB5.obj, tabF_no_go_on, H0, t, { settleT B with phase := 2 }, rfl, hB5, fun H6 hB6 => q H6 hB6⟩
theorem ok_Table_asked (T : Txt K mg C) : MethOk P w K mg base (L2.CX P w) 4 C.T "asked" P_Table_asked (sp_asked C) := by
  refine T.m_Table_asked.okX sc_Table_asked (fun _ _ F => b_Table_asked F) ?_ ?_
  · rintro vs H Q E ⟨H0, t, B, rfl, _⟩
    rfl
  · intro f cdv A outer sh H vs Q E hr h
    obtain ⟨H0, t, B, rfl, hB, q1, q2⟩ := h
    refine ⟨_, (pss_cons (ps_expr (pe_cM (ok_Table_must_phase T) hr (by decide) T.clT (passes_call (takes_of rfl rfl rfl rfl) (fun _ _ _ _ h => h)) (pv 0) (pa_cons (pe_tup (pa_cons (pe_gI T.g_HANDS) pa_nil)) pa_nil)))
      (pss_cons (ps_asg (pe_cM0 (ok_Table_turn T) hr (by decide) T.clT pass0 (pv 0)) (pg_tup (by rfl) (pgs_cons (pg_name (i := 1) sc_Table_asked.nd rfl (Or.inl rfl)) (pgs_cons (pg_name (i := 2) sc_Table_asked.nd rfl (Or.inl rfl)) pgs_nil))))
      (pss_one (ps_ret (pe_tup (pa_cons (pe_ix ix_list (pe_fld (pv 0) rfl) (pv 1) (fun _ _ => rfl)) (pa_cons (pe_ix ix_list (pe_fld (pe_ix ix_list (pe_fld (pv 0) rfl) (pv 1) (fun _ _ => rfl)) rfl) (pv 2) (fun _ _ => rfl)) pa_nil))))))), ?_⟩
    refine ⟨_, rfl, t, B.d, _, rfl, hB.obj, tabF_no_must_phase, (by show 1 ≤ sizeLine; decide), fun p hp => ?_⟩
    have s1 : Same H (upd H p (.tup [.int 2])) := same_new hp
    have hB1 := hB.sameR s1
    refine ⟨H0, t, p, B, [2], rfl, hB1, SqT.of upd_same, fun e => ?_, fun e => (q1 (fun z => e (by simp [z]))).sub s1⟩
    have ep : B.phase = 2 := by simpa using e
    obtain ⟨i, j, s, x, et, es, ex, q⟩ := q2 ep
    have hs := List.mem_of_getElem? es
    refine ⟨_, rfl, t, B.d, _, rfl, hB1.obj, tabF_no_turn, H0, t, B, rfl, hB1, (fun z => by rw [et] at z; cases z), fun i' j' et' H3 p3 hp3 s3 e3 => ?_⟩
    rw [et] at et'
    cases et'
    have s03 := s1.trans s3
    have hB3 := hB1.sameR s3
    refine ⟨p3, _, rfl, SqT.of e3, rfl, _, _, rfl, _, _, rfl, rfl, ?_⟩
    have es' : (refsS B.seats)[i]? = some (.ref s.a) := by unfold refsS; rw [List.getElem?_map, es]; rfl
    have ex' : (refsH s.hs)[j]? = some (.ref x.a) := by unfold refsH; rw [List.getElem?_map, ex]; rfl
    refine ⟨_, rfl, t, C.T, _, _, _, rfl, hB3.obj, T.clT, T.nT_seats, tabF_seats, _, rfl, B.ls, _, _, _, rfl, rfl, SqL.of hB3.ls, atI_nat' es', ?_⟩
    refine ⟨_, rfl, t, C.T, _, _, _, rfl, hB3.obj, T.clT, T.nT_seats, tabF_seats, _, rfl, B.ls, _, _, _, rfl, rfl, SqL.of hB3.ls, atI_nat' es', ?_⟩
    refine ⟨s.a, C.S, _, _, _, rfl, hB3.seat hs, T.clS, T.nS_hands, seatF_hands, _, rfl, s.l, _, _, _, rfl, rfl, SqL.of (hB3.seatL hs), atI_nat' ex', (by show 2 ≤ sizeLine; decide), fun p4 hp4 => ?_⟩
    exact q _ p4 (s03.free hp4) (Same.upd s03 (s03.free hp4)) upd_same
theorem ok_Table_counted (T : Txt K mg C) : MethOk P w K mg base CX0 11 C.T "counted" P_Table_counted (sp_counted C) := by
  refine T.m_Table_counted.ok sc_Table_counted (fun _ _ F => b_Table_counted F) ?_ ?_
  · rintro vs H Q E ⟨H0, t, B, s, x, rfl, _⟩
    rfl
  · intro f cdv A outer sh H vs Q E hr h
    obtain ⟨H0, t, B, s, x, rfl, hB, hs, hx, q⟩ := h
    refine ⟨_, (pss_cons (ps_expr (pe_cM0 (ok_Table_go_on T) hr (by decide) T.clT pass0 (pv 0)))
      (pss_one (ps_ret (pe_op op_cat (pe_lst (pa_cons (pe_cD (ok_count_of T) hr (by decide) pass0 (pa_cons (pe_fld (pv 1) rfl) pa_nil)) pa_nil)) (pe_cM0 (ok_Table_stands T) hr (by decide) T.clT pass0 (pv 0)))))), ?_⟩
    refine ⟨_, rfl, t, B.d, _, rfl, hB.obj, tabF_no_go_on, H0, t, B, rfl, hB, fun H2 hB2 => ?_⟩
    obtain ⟨s', hs', eh⟩ := goOnT_seat hs
    have hx' : x ∈ s'.hs := by rw [eh]; exact hx
    have hA := hB2.hand hs' hx'
    exact ⟨_, rfl, x.a, C.H, _, _, _, rfl, hA.obj, T.clH, T.nH_cards, handF_cards, x.l, x.h.cards, rfl, hA.seq, hA.short', fun H3 s3 => stands_core (hB2.sameR s3) goOnT_turn q rfl⟩
end
end Bj
namespace Bj
open Kg84 (Hand Seat State Ans)
theorem within_iff {z lo hi : Int} : Kg84.within z lo hi = true ↔ lo ≤ z ∧ z ≤ hi := by
  unfold Kg84.within
  rw [Bool.and_eq_true, decide_eq_true_eq, decide_eq_true_eq]
theorem within_not {z lo hi : Int} : Kg84.within z lo hi = false ↔ ¬ (lo ≤ z ∧ z ≤ hi) := by
  rw [← within_iff, Bool.not_eq_true]
theorem onHand_no {s : State} {f : Nat × Nat → Hand → State × Ans} (h : s.phase ≠ 2) : Kg84.onHand s f = (s, Kg84.num (-3)) := by
  unfold Kg84.onHand
  rw [if_pos h]
theorem onHand_at {s : State} {f : Nat × Nat → Hand → State × Ans} {p : Nat × Nat} (h : s.phase = 2) (e : s.turn = some p) : Kg84.onHand s f = f p (s.hand p) := by
  unfold Kg84.onHand
  rw [if_neg (by omega), e]
theorem hand_at {s : State} {i j : Nat} {x : Seat} {h : Hand} (hx : s.seats[i]? = some x) (hh : x.hands[j]? = some h) : s.hand (i, j) = h := by
  unfold Kg84.State.hand
  have e : s.seats.getD i ⟨0, 0, []⟩ = x := by
    rw [List.getD_eq_getElem?_getD, hx]
    rfl
  show (s.seats.getD i ⟨0, 0, []⟩).hands.getD j _ = h
  rw [e, List.getD_eq_getElem?_getD, hh]
  rfl
def fin (s : State) (z : Int) : State × Ans := (s, ⟨z, Kg84.told s⟩)
theorem hit_1 {s : State} {c : Int} (h : ¬ (1 ≤ c ∧ c ≤ 13)) : Kg84.spec s (.hit c) = (s, Kg84.num (-1)) := by
  unfold Kg84.spec
  exact if_pos (within_not.mpr h)
theorem hit_3 {s : State} {c : Int} (h : 1 ≤ c ∧ c ≤ 13) (p : s.phase ≠ 2) : Kg84.spec s (.hit c) = (s, Kg84.num (-3)) := by
  unfold Kg84.spec
  dsimp only
  rw [if_neg (by rw [within_iff.mpr h]; decide), onHand_no p]
theorem hit_5 {s : State} {c : Int} {p : Nat × Nat} (h : 1 ≤ c ∧ c ≤ 13) (ph : s.phase = 2) (e : s.turn = some p) (d : Kg84.drawn s.shoe [c.toNat] = none) : Kg84.spec s (.hit c) = (s, Kg84.num (-5)) := by
  unfold Kg84.spec
  dsimp only
  rw [if_neg (by rw [within_iff.mpr h]; decide), onHand_at ph e, d]
theorem hit_0 {s : State} {c : Int} {p : Nat × Nat} {g : Hand} {z : List Nat} (h : 1 ≤ c ∧ c ≤ 13) (ph : s.phase = 2) (e : s.turn = some p) (eg : s.hand p = g) (d : Kg84.drawn s.shoe [c.toNat] = some z) :
    Kg84.spec s (.hit c) = fin ({ (Kg84.putHand s p [({ g with cards := g.cards ++ [c.toNat] } : Hand).ready]) with shoe := z } : State).settle (Kg84.total (g.cards ++ [c.toNat])) := by
  unfold Kg84.spec
  dsimp only
  rw [if_neg (by rw [within_iff.mpr h]; decide), onHand_at ph e, d, eg]
  rfl
theorem stand_3 {s : State} (p : s.phase ≠ 2) : Kg84.spec s .stand = (s, Kg84.num (-3)) := by
  unfold Kg84.spec
  dsimp only
  rw [onHand_no p]
theorem stand_0 {s : State} {p : Nat × Nat} {g : Hand} (ph : s.phase = 2) (e : s.turn = some p) (eg : s.hand p = g) :
    Kg84.spec s .stand = fin (Kg84.putHand s p [{ g with state := 1 }]).settle (Kg84.total g.cards) := by
  unfold Kg84.spec
  dsimp only
  rw [onHand_at ph e, eg]
  rfl
theorem double_1 {s : State} {c : Int} (h : ¬ (1 ≤ c ∧ c ≤ 13)) : Kg84.spec s (.double c) = (s, Kg84.num (-1)) := by
  unfold Kg84.spec
  exact if_pos (within_not.mpr h)
theorem double_3 {s : State} {c : Int} (h : 1 ≤ c ∧ c ≤ 13) (p : s.phase ≠ 2) : Kg84.spec s (.double c) = (s, Kg84.num (-3)) := by
  unfold Kg84.spec
  dsimp only
  rw [if_neg (by rw [within_iff.mpr h]; decide), onHand_no p]
theorem double_4 {s : State} {c : Int} {p : Nat × Nat} {g : Hand} (h : 1 ≤ c ∧ c ≤ 13) (ph : s.phase = 2) (e : s.turn = some p) (eg : s.hand p = g) (k : g.cards.length ≠ 2 ∨ (g.parted = true ∧ s.rules.doubleParted = false)) : Kg84.spec s (.double c) = (s, Kg84.num (-4)) := by
  unfold Kg84.spec
  dsimp only
  rw [if_neg (by rw [within_iff.mpr h]; decide), onHand_at ph e, eg, if_pos k]
theorem double_5 {s : State} {c : Int} {p : Nat × Nat} {g : Hand} (h : 1 ≤ c ∧ c ≤ 13) (ph : s.phase = 2) (e : s.turn = some p) (eg : s.hand p = g) (k : ¬ (g.cards.length ≠ 2 ∨ (g.parted = true ∧ s.rules.doubleParted = false))) (d : Kg84.drawn s.shoe [c.toNat] = none) : Kg84.spec s (.double c) = (s, Kg84.num (-5)) := by
  unfold Kg84.spec
  dsimp only
  rw [if_neg (by rw [within_iff.mpr h]; decide), onHand_at ph e, eg, if_neg k, d]
theorem double_0 {s : State} {c : Int} {p : Nat × Nat} {g : Hand} {z : List Nat} (h : 1 ≤ c ∧ c ≤ 13) (ph : s.phase = 2) (e : s.turn = some p) (eg : s.hand p = g) (k : ¬ (g.cards.length ≠ 2 ∨ (g.parted = true ∧ s.rules.doubleParted = false))) (d : Kg84.drawn s.shoe [c.toNat] = some z) :
    Kg84.spec s (.double c) = fin ({ (Kg84.putHand s p [{ g with cards := g.cards ++ [c.toNat], stake := 2 * g.stake, doubled := true, state := if 21 < Kg84.total (g.cards ++ [c.toNat]) then 2 else 1 }]) with shoe := z } : State).settle (Kg84.total (g.cards ++ [c.toNat])) := by
  unfold Kg84.spec
  dsimp only
  rw [if_neg (by rw [within_iff.mpr h]; decide), onHand_at ph e, eg, if_neg k, d]
  rfl
theorem give_3 {s : State} (p : s.phase ≠ 2) : Kg84.spec s .give = (s, Kg84.num (-3)) := by
  unfold Kg84.spec
  dsimp only
  rw [onHand_no p]
theorem give_4 {s : State} {p : Nat × Nat} {g : Hand} (ph : s.phase = 2) (e : s.turn = some p) (eg : s.hand p = g) (k : s.rules.giveUp = false ∨ g.cards.length ≠ 2 ∨ g.parted = true) : Kg84.spec s .give = (s, Kg84.num (-4)) := by
  unfold Kg84.spec
  dsimp only
  rw [onHand_at ph e, eg, if_pos k]
theorem give_0 {s : State} {p : Nat × Nat} {g : Hand} (ph : s.phase = 2) (e : s.turn = some p) (eg : s.hand p = g) (k : ¬ (s.rules.giveUp = false ∨ g.cards.length ≠ 2 ∨ g.parted = true)) :
    Kg84.spec s .give = fin (Kg84.putHand s p [{ g with state := 3 }]).settle 0 := by
  unfold Kg84.spec
  dsimp only
  rw [onHand_at ph e, eg, if_neg k]
  rfl
theorem split_1 {s : State} {c d : Int} (h : ¬ ((1 ≤ c ∧ c ≤ 13) ∧ (1 ≤ d ∧ d ≤ 13))) : Kg84.spec s (.split c d) = (s, Kg84.num (-1)) := by
  unfold Kg84.spec
  refine if_pos ?_
  rw [Bool.and_eq_false_iff, within_not, within_not]
  by_cases h1 : 1 ≤ c ∧ c ≤ 13
  · exact .inr fun h2 => h ⟨h1, h2⟩
  · exact .inl h1
theorem two_cards {c d : Int} (h : (1 ≤ c ∧ c ≤ 13) ∧ (1 ≤ d ∧ d ≤ 13)) : ¬ (Kg84.within c 1 13 && Kg84.within d 1 13) = false := by
  rw [within_iff.mpr h.1, within_iff.mpr h.2]
  decide
theorem split_3 {s : State} {c d : Int} (h : (1 ≤ c ∧ c ≤ 13) ∧ (1 ≤ d ∧ d ≤ 13)) (p : s.phase ≠ 2) : Kg84.spec s (.split c d) = (s, Kg84.num (-3)) := by
  unfold Kg84.spec
  dsimp only
  rw [if_neg (two_cards h), onHand_no p]
def noSplit (s : State) (p : Nat × Nat) (g : Hand) : Prop := g.cards.length ≠ 2 ∨ Kg84.worth (g.cards.getD 0 0) ≠ Kg84.worth (g.cards.getD 1 0) ∨ s.rules.most ≤ ((s.seats.getD p.1 ⟨0, 0, []⟩).hands).length
theorem split_4 {s : State} {c d : Int} {p : Nat × Nat} {g : Hand} (h : (1 ≤ c ∧ c ≤ 13) ∧ (1 ≤ d ∧ d ≤ 13)) (ph : s.phase = 2) (e : s.turn = some p) (eg : s.hand p = g) (k : noSplit s p g) : Kg84.spec s (.split c d) = (s, Kg84.num (-4)) := by
  unfold Kg84.spec
  dsimp only
  rw [if_neg (two_cards h), onHand_at ph e, eg]
  exact if_pos k
theorem split_5 {s : State} {c d : Int} {p : Nat × Nat} {g : Hand} (h : (1 ≤ c ∧ c ≤ 13) ∧ (1 ≤ d ∧ d ≤ 13)) (ph : s.phase = 2) (e : s.turn = some p) (eg : s.hand p = g) (k : ¬ noSplit s p g) (dr : Kg84.drawn s.shoe [c.toNat, d.toNat] = none) : Kg84.spec s (.split c d) = (s, Kg84.num (-5)) := by
  unfold Kg84.spec
  dsimp only
  rw [if_neg (two_cards h), onHand_at ph e, eg]
  refine (if_neg k).trans ?_
  rw [dr]
def oneHalf (g : Hand) (k : Nat) (x : Int) : Hand := (⟨[g.cards.getD k 0, x.toNat], g.stake, 0, false, true, g.cards.getD 0 0 == 1⟩ : Hand).ready
theorem split_0 {s : State} {c d : Int} {p : Nat × Nat} {g : Hand} {z : List Nat} (h : (1 ≤ c ∧ c ≤ 13) ∧ (1 ≤ d ∧ d ≤ 13)) (ph : s.phase = 2) (e : s.turn = some p) (eg : s.hand p = g) (k : ¬ noSplit s p g) (dr : Kg84.drawn s.shoe [c.toNat, d.toNat] = some z) :
    Kg84.spec s (.split c d) = fin ({ (Kg84.putHand s p [oneHalf g 0 c, oneHalf g 1 d]) with shoe := z } : State).settle 2 := by
  unfold Kg84.spec
  dsimp only
  rw [if_neg (two_cards h), onHand_at ph e, eg]
  refine (if_neg k).trans ?_
  rw [dr]
  rfl
end Bj
namespace Bj
open PySem PySem.Spec PyProof.Rows L2
theorem abs_payT (T : TabL) : (payT T).abs = T.abs.paid := by
  unfold payT TabL.abs Kg84.State.paid
  simp only [List.map_map]
  rw [List.zip_map', List.map_map]
  rfl
theorem abs_goOnT {T : TabL} (h : T.phase = 2) : (goOnT T).abs = T.abs.settle := by
  have hp : T.abs.phase = 2 := h
  unfold goOnT Kg84.State.settle
  by_cases e : T.abs.turn = none
  · rw [if_pos e, if_pos (show T.abs.phase = 2 ∧ T.abs.turn = none from ⟨hp, e⟩)]
    split
    · rfl
    · exact abs_payT T
  · rw [if_neg e, if_neg (fun z => e z.2)]
theorem settle_other {s : Kg84.State} (h : s.phase ≠ 2) : s.settle = s := by
  unfold Kg84.State.settle
  rw [if_neg (fun z => h z.1)]
theorem ready_settle {h : Kg84.Hand} (h0 : h.state = 0) (ha : h.aces = false) : h.ready = settleH h := by
  unfold Kg84.Hand.ready settleH
  by_cases e : Kg84.total h.cards = 21
  · rw [if_pos ⟨h0, .inl e⟩, if_pos e]
  · rw [if_neg (by rintro ⟨_, z | z⟩; exact e z; rw [ha] at z; cases z.1), if_neg e]
    by_cases e2 : 21 < Kg84.total h.cards
    · rw [if_pos ⟨h0, e2⟩, if_pos e2]
    · rw [if_neg (fun z => e2 z.2), if_neg e2]
theorem abs_lookT {T : TabL} (h : ∀ s ∈ T.seats, ∀ x ∈ s.hs, x.h.state = 0 ∧ x.h.aces = false) : (lookT T).abs = T.abs.peeked.settle := by
  have e1 : (settleT T).abs = { T.abs with seats := T.abs.seats.map fun x => { x with hands := x.hands.map Kg84.Hand.ready } } := by
    unfold settleT TabL.abs
    simp only [List.map_map]
    congr 1
    · apply List.map_congr_left
      intro s hs
      unfold SeatL.x
      simp only [Function.comp, List.map_map]
      congr 1
      apply List.map_congr_left
      intro x hx
      have := h s hs x hx
      exact (ready_settle this.1 this.2).symm
  unfold lookT Kg84.State.peeked
  dsimp only
  have hd : ({ T.abs with seats := T.abs.seats.map fun x => { x with hands := x.hands.map Kg84.Hand.ready } } : Kg84.State).dealer = T.dealer := rfl
  rw [hd]
  by_cases e : Kg84.isNatural T.dealer = true
  · rw [if_pos e, if_pos e, abs_payT, e1, settle_other (by intro z; cases z)]
    rfl
  · rw [if_neg e, if_neg e, abs_goOnT rfl]
    show Kg84.State.settle { (settleT T).abs with phase := 2 } = _
    rw [e1]
    rfl
structure Tells (C : Adr) (H0 : Hp) (t : Addr) (T : TabL) (r : Kg84.State × Kg84.Ans) (H : Hp) (Q : VK) (E : XK) : Prop where
  no : r.2.value < 0 → Refuses C r.2.value H E
  yes : 0 ≤ r.2.value → ∀ T', T'.abs = r.1 → Gives C H0 t T' (r.2.value :: r.2.out) Q
theorem Tells.refuse {C : Adr} {H0 : Hp} {t : Addr} {T : TabL} {r : Kg84.State × Kg84.Ans} {H : Hp} {Q : VK} {E : XK} (q : Tells C H0 t T r H Q E) {n : Int} (e : r = (T.abs, Kg84.num n)) (h : n < 0) : Refuses C n H E := by
  subst e
  exact q.no h
theorem Tells.give {C : Adr} {H0 : Hp} {t : Addr} {T T' : TabL} {r : Kg84.State × Kg84.Ans} {H : Hp} {Q : VK} {E : XK} (q : Tells C H0 t T r H Q E) {v : Int} {out : List Int} (e : r = (T'.abs, ⟨v, out⟩)) (h : 0 ≤ v) : Gives C H0 t T' (v :: out) Q := by
  subst e
  exact q.yes h T' rfl
theorem Gives.weak {C : Adr} {H0 H1 : Hp} {t : Addr} {T : TabL} {l : List Int} {Q : VK} (s : Same H0 H1) (g : Gives C H0 t T l Q) : Gives C H1 t T l Q :=
  fun H' p n B => g H' p (s.free n) ⟨B.own.weak (same_upd s), B.fit⟩
def putT (T : TabL) (p : List SeatL) (s : SeatL) (q : List SeatL) (hp : List HandL) (x : HandL) (hq : List HandL) : TabL := { T with seats := p ++ { s with hs := hp ++ x :: hq } :: q }
def handPre (C : Adr) (t : Addr) (T : TabL) (p : List SeatL) (hp : List HandL) : List Cell := (t, T.obj C) :: (T.rest C ++ (T.seats.flatMap (SeatL.own C) ++ (p.flatMap (·.hs) ++ hp).flatMap (HandL.cells C)))
def handPost (C : Adr) (hq : List HandL) (q : List SeatL) : List Cell := (hq ++ q.flatMap (·.hs)).flatMap (HandL.cells C)
structure Focus (T : TabL) (i j : Nat) (p : List SeatL) (s : SeatL) (q : List SeatL) (hp : List HandL) (x : HandL) (hq : List HandL) : Prop where
  seats : T.seats = p ++ s :: q
  hands : s.hs = hp ++ x :: hq
  li : p.length = i
  lj : hp.length = j
section
variable {C : Adr} {t : Addr} {T : TabL} {i j : Nat} {p q : List SeatL} {s : SeatL} {hp hq : List HandL} {x : HandL}
theorem Focus.mem (F : Focus T i j p s q hp x hq) : s ∈ T.seats ∧ x ∈ s.hs := by
  rw [F.seats, F.hands]
  simp
theorem Focus.of {T : TabL} {i j : Nat} {s : SeatL} {x : HandL} (hs : T.seats[i]? = some s) (hx : s.hs[j]? = some x) : Focus T i j (T.seats.take i) s (T.seats.drop (i + 1)) (s.hs.take j) x (s.hs.drop (j + 1)) :=
  ⟨(split_at hs).1, (split_at hx).1, (split_at hs).2, (split_at hx).2⟩
theorem cells_hand (F : Focus T i j p s q hp x hq) : T.cells C t = handPre C t T p hp ++ (x.cells C ++ handPost C hq q) := by
  have e : T.hands = (p.flatMap (·.hs) ++ hp) ++ x :: (hq ++ q.flatMap (·.hs)) := by
    unfold TabL.hands
    rw [F.seats, List.flatMap_append, List.flatMap_cons, F.hands]
    simp
  unfold TabL.cells TabL.under handPre handPost
  rw [e, List.flatMap_append, List.flatMap_cons]
  simp
theorem cells_put (F : Focus T i j p s q hp x hq) (x' : HandL) (ea : x'.a = x.a) : (putT T p s q hp x' hq).cells C t = handPre C t T p hp ++ (x'.cells C ++ handPost C hq q) := by
  have F' : Focus (putT T p s q hp x' hq) i j p { s with hs := hp ++ x' :: hq } q hp x' hq := ⟨rfl, rfl, F.li, F.lj⟩
  rw [cells_hand (C := C) (t := t) F']
  have e1 : (putT T p s q hp x' hq).seats.flatMap (SeatL.own C) = T.seats.flatMap (SeatL.own C) := by
    unfold putT
    rw [F.seats]
    simp only [List.flatMap_append, List.flatMap_cons]
    congr 2
    unfold SeatL.own SeatL.obj refsH
    rw [F.hands]
    simp [ea]
  have e2 : (putT T p s q hp x' hq).rest C = T.rest C := by
    unfold TabL.rest putT refsS
    rw [F.seats]
    simp
  unfold handPre
  rw [e1, e2]
  rfl
theorem fit_put (F : Focus T i j p s q hp x hq) (f : Fit T) (x' : HandL) (hx : x'.h.cards.length ≤ 9000) : Fit (putT T p s q hp x' hq) := by
  have hs := F.mem
  refine ⟨?_, fun y hy => ?_, fun y hy z hz => ?_, f.dealer, f.left⟩
  · have := f.seats
    rw [F.seats] at this
    show (p ++ _ :: q).length ≤ 7
    simpa using this
  · rcases List.mem_append.mp (show y ∈ p ++ { s with hs := hp ++ x' :: hq } :: q from hy) with h | h
    · exact f.hands y (by rw [F.seats]; simp [h])
    · rcases List.mem_cons.mp h with h | h
      · subst h
        have := f.hands s hs.1
        rw [F.hands] at this
        show (hp ++ x' :: hq).length ≤ 300
        simpa using this
      · exact f.hands y (by rw [F.seats]; simp [h])
  · rcases List.mem_append.mp (show y ∈ p ++ { s with hs := hp ++ x' :: hq } :: q from hy) with h | h
    · exact f.cards y (by rw [F.seats]; simp [h]) z hz
    · rcases List.mem_cons.mp h with h | h
      · subst h
        rcases List.mem_append.mp (show z ∈ hp ++ x' :: hq from hz) with k | k
        · exact f.cards s hs.1 z (by rw [F.hands]; simp [k])
        · rcases List.mem_cons.mp k with k | k
          · subst k
            exact hx
          · exact f.cards s hs.1 z (by rw [F.hands]; simp [k])
      · exact f.cards y (by rw [F.seats]; simp [h]) z hz
theorem abs_put (F : Focus T i j p s q hp x hq) (x' : HandL) : (putT T p s q hp x' hq).abs = { Kg84.putHand T.abs (i, j) [x'.h] with } := by
  have e1 : T.abs.seats = p.map SeatL.x ++ s.x :: q.map SeatL.x := by
    show T.seats.map SeatL.x = _
    rw [F.seats]
    simp
  have e2 : s.x.hands = hp.map (·.h) ++ x.h :: hq.map (·.h) := by
    show s.hs.map (·.h) = _
    rw [F.hands]
    simp
  have := putHand_at (s := T.abs) [x'.h] e1 e2
  rw [List.length_map, List.length_map, F.li, F.lj] at this
  rw [this]
  unfold putT TabL.abs
  simp only [List.map_append, List.map_cons]
  congr 1
  · congr 1
    congr 1
    unfold SeatL.x
    simp
  · rw [F.seats]
    simp
theorem Focus.hand (F : Focus T i j p s q hp x hq) : T.abs.hand (i, j) = x.h := by
  refine hand_at (x := s.x) ?_ ?_
  · show (T.seats.map SeatL.x)[i]? = _
    rw [List.getElem?_map, F.seats, ← F.li]
    simp
  · show (s.hs.map (·.h))[j]? = _
    rw [List.getElem?_map, F.hands, ← F.lj]
    simp
theorem Focus.left (F : Focus T i j p s q hp x hq) (z : List Nat) : Focus { T with left := z } i j p s q hp x hq := ⟨F.seats, F.hands, F.li, F.lj⟩
end
structure InHands (T : TabL) : Prop where
  turn : T.phase = 2 → T.abs.turn ≠ none
  free : T.phase = 2 → ∀ s ∈ T.seats, ∀ x ∈ s.hs, x.h.state = 0 → x.h.aces = false
  room : ∀ s ∈ T.seats, s.hs.length ≤ 290 ∧ ∀ x ∈ s.hs, x.h.cards.length ≤ 8000
theorem InHands.at {T : TabL} (I : InHands T) (h : T.phase = 2) : ∃ i j s x, T.abs.turn = some (i, j) ∧ T.seats[i]? = some s ∧ s.hs[j]? = some x ∧ x.h.state = 0 ∧ x.h.aces = false ∧ x.h.cards.length ≤ 8000 := by
  cases e : T.abs.turn with
  | none => exact absurd e (I.turn h)
  | some ij =>
    obtain ⟨i, j⟩ := ij
    rw [turn_eq] at e
    obtain ⟨p, y, q, hp, g, hq, e1, e2, e3, e4, e5, e6, e7⟩ := turnR_inv e
    have es : T.seats.map SeatL.x = p ++ y :: q := e1
    have ei : i = p.length := by omega
    have hi : i < T.seats.length := by
      have := congrArg List.length es
      rw [List.length_map, List.length_append, List.length_cons] at this
      omega
    have hs : T.seats[i]? = some (T.seats[i]'hi) := List.getElem?_eq_getElem hi
    have ey : (T.seats[i]'hi).x = y := by
      have h1 : (T.seats.map SeatL.x)[i]? = some y := by rw [es, ei]; simp
      rw [List.getElem?_map, hs] at h1
      exact Option.some.inj h1
    have eh : (T.seats[i]'hi).hs.map (·.h) = hp ++ g :: hq := by rw [← e3, ← ey]; rfl
    have hj : j < (T.seats[i]'hi).hs.length := by
      have := congrArg List.length eh
      rw [List.length_map, List.length_append, List.length_cons] at this
      omega
    have hx : (T.seats[i]'hi).hs[j]? = some ((T.seats[i]'hi).hs[j]'hj) := List.getElem?_eq_getElem hj
    have eg : ((T.seats[i]'hi).hs[j]'hj).h = g := by
      have h1 : ((T.seats[i]'hi).hs.map (·.h))[j]? = some g := by rw [eh, ← e4]; simp
      rw [List.getElem?_map, hx] at h1
      exact Option.some.inj h1
    have ms : T.seats[i]'hi ∈ T.seats := List.getElem_mem hi
    have mx : (T.seats[i]'hi).hs[j]'hj ∈ (T.seats[i]'hi).hs := List.getElem_mem hj
    have st : ((T.seats[i]'hi).hs[j]'hj).h.state = 0 := by
      rw [eg]
      exact beq_iff_eq.mp e5
    exact ⟨i, j, _, _, rfl, hs, hx, st, I.free h _ ms _ mx st, (I.room _ ms).2 _ mx⟩
def sp_Table_call (C : Adr) (args : List V) (c : Kg84.Call) : Sp := fun vs H Q E => ∃ (H0 : Hp) (t : Addr) (T : TabL), vs = .ref t :: args ∧ Tab C H0 H t T ∧ InHands T ∧ Tells C H0 t T (Kg84.spec T.abs c) H Q E
def sp_hit (C : Adr) : Sp := fun vs H Q E => ∃ c : Int, sp_Table_call C [.int c] (.hit c) vs H Q E
def sp_double (C : Adr) : Sp := fun vs H Q E => ∃ c : Int, sp_Table_call C [.int c] (.double c) vs H Q E
theorem one_card (c : Int) : ([c] : List Int).all (fun z => Kg84.within z 1 13) = Kg84.within c 1 13 := by simp
section
variable {P : Program} {w : World} {K : PySem.W.Frag} {mg : Str → Option Value} {base : Heap} {C : Adr}
theorem ok_Table_stand (T : Txt K mg C) : MethOk P w K mg base (L2.CX P w) 12 C.T "stand" P_Table_stand (sp_Table_call C [] .stand) := by
  refine T.m_Table_stand.okX sc_Table_stand (fun _ _ F => b_Table_stand F) ?_ ?_
  · rintro vs H Q E ⟨H0, t, B, rfl, _⟩
    rfl
  · intro f cdv A outer sh H vs Q E hr h
    obtain ⟨H0, t, B, rfl, hB, hI, q⟩ := h
    refine ⟨_, (pss_cons (ps_asg (pe_cM0 (ok_Table_asked T) hr (by decide) T.clT (passes_call (takes_of rfl rfl rfl rfl) (fun _ _ _ _ h => h)) (pv 0)) (pg_tup (by rfl) (pgs_cons (pg_name (i := 1) sc_Table_stand.nd rfl (Or.inl rfl)) (pgs_cons (pg_name (i := 2) sc_Table_stand.nd rfl (Or.inl rfl)) pgs_nil))))
      (pss_cons (ps_fld (pv 2) (pe_gI T.g_STANDS) rfl)
      (pss_one (ps_ret (pe_cM (ok_Table_counted T) hr (by decide) T.clT pass0 (pv 0) (pa_cons (pv 2) pa_nil)))))), ?_⟩
    refine ⟨_, rfl, t, B.d, _, rfl, hB.obj, tabF_no_asked, H0, t, B, rfl, hB, fun e => q.refuse (stand_3 e) (by decide), fun e => ?_⟩
    obtain ⟨i, j, s, x, et, es, ex, h0, ha, hc⟩ := hI.at e
    have F := Focus.of es ex
    refine ⟨i, j, s, x, et, es, ex, fun H2 p2 hp2 s2 e2 => ?_⟩
    have hB2 := hB.sameR s2
    refine ⟨p2, _, rfl, SqT.of e2, rfl, _, _, rfl, _, _, rfl, rfl, ?_⟩
    have hA := hB2.hand F.mem.1 F.mem.2
    refine ⟨_, rfl, x.a, C.H, _, _, rfl, hA.obj, T.clH, T.nH_state, handF_len, ?_⟩
    rw [handF_put_state]
    have O3 := hB2.own
    rw [cells_hand (C := C) (t := t) F] at O3
    have O4 := O3.put (HandL.obj C { x with h := { x.h with state := 1 } })
    have hB4 : Tab C H0 (upd H2 x.a (HandL.obj C { x with h := { x.h with state := 1 } })) t (putT B _ s _ _ { x with h := { x.h with state := 1 } } _) := ⟨by rw [cells_put F { x with h := { x.h with state := 1 } } rfl]; exact O4, fit_put F hB.fit _ (by show x.h.cards.length ≤ 9000; omega)⟩
    refine ⟨_, rfl, t, B.d, _, rfl, hB4.obj, tabF_no_counted, _, rfl, H0, t, _, _, { x with h := { x.h with state := 1 } }, rfl, hB4, List.mem_append_right _ List.mem_cons_self, List.mem_append_right _ List.mem_cons_self, ?_⟩
    refine q.give ?_ (by omega)
    rw [stand_0 (s := B.abs) e et F.hand, abs_goOnT (show (putT B _ s _ _ _ _).phase = 2 from e), abs_put F]
    rfl
theorem ok_Table_give (T : Txt K mg C) : MethOk P w K mg base (L2.CX P w) 11 C.T "give" P_Table_give (sp_Table_call C [] .give) := by
  refine T.m_Table_give.okX sc_Table_give (fun _ _ F => b_Table_give F) ?_ ?_
  · rintro vs H Q E ⟨H0, t, B, rfl, _⟩
    rfl
  · intro f cdv A outer sh H vs Q E hr h
    obtain ⟨H0, t, B, rfl, hB, hI, q⟩ := h
    refine ⟨_, (pss_cons (ps_asg (pe_cM0 (ok_Table_asked T) hr (by decide) T.clT (passes_call (takes_of rfl rfl rfl rfl) (fun _ _ _ _ h => h)) (pv 0)) (pg_tup (by rfl) (pgs_cons (pg_name (i := 1) sc_Table_give.nd rfl (Or.inl rfl)) (pgs_cons (pg_name (i := 2) sc_Table_give.nd rfl (Or.inl rfl)) pgs_nil))))
      (pss_cons (ps_expr (pe_cD (ok_must T) hr (by decide) (passes_call (takes_of rfl rfl rfl rfl) (fun _ _ _ _ h => h)) (pa_cons (pe_and (pe_fld (pv 0) rfl) (pe_and (pe_cmp (pc_eqI (pe_callB call_len_seq (by rfl) T.z_len PySem.boot_len (pa_cons (pe_fld (pv 2) rfl) pa_nil)) pe_int)) (pe_one (pe_not (pe_fld (pv 2) rfl))))) (pa_cons (pe_un un_neg pe_int) pa_nil))))
      (pss_cons (ps_fld (pv 2) (pe_gI T.g_GIVEN_UP) rfl)
      (pss_cons (ps_expr (pe_cM0 (ok_Table_go_on T) hr (by decide) T.clT pass0 (pv 0)))
      (pss_one (ps_ret (pe_op op_cat (pe_lst (pa_cons pe_int pa_nil)) (pe_cM0 (ok_Table_stands T) hr (by decide) T.clT pass0 (pv 0))))))))), ?_⟩
    refine ⟨_, rfl, t, B.d, _, rfl, hB.obj, tabF_no_asked, H0, t, B, rfl, hB, fun e => q.refuse (give_3 e) (by decide), fun e => ?_⟩
    obtain ⟨i, j, s, x, et, es, ex, h0, ha, hc⟩ := hI.at e
    have F := Focus.of es ex
    refine ⟨i, j, s, x, et, es, ex, fun H2 p2 hp2 s2 e2 => ?_⟩
    have hB2 := hB.sameR s2
    refine ⟨p2, _, rfl, SqT.of e2, rfl, _, _, rfl, _, _, rfl, rfl, ?_⟩
    have hA := hB2.hand F.mem.1 F.mem.2
    refine ⟨_, rfl, t, C.T, _, _, _, rfl, hB2.obj, T.clT, T.nT_gives, tabF_gives, _, rfl, ?_⟩
    have no : (B.rules.giveUp = false ∨ x.h.cards.length ≠ 2 ∨ x.h.parted = true) → Refuses C (-4) H2 E := fun k => (q.refuse (give_4 (s := B.abs) e et F.hand k) (by decide)).sub s2
    refine ifB (b := B.rules.giveUp) rfl (fun g1 => ?_) (fun g1 => ?_)
    · refine ⟨_, rfl, x.a, C.H, _, _, _, rfl, hA.obj, T.clH, T.nH_cards, handF_cards, x.l, _, rfl, .inl hA.seq, _, _, rfl, rfl, _, rfl, ?_⟩
      have el : decide (((cardsV x.h.cards).length : Int) = 2) = (x.h.cards.length == 2) := by rw [cardsV_len]; exact nat_eq _ 2
      refine ifB (b := x.h.cards.length == 2) el (fun g2 => ?_) (fun g2 => ?_)
      · refine ⟨_, rfl, x.a, C.H, _, _, _, rfl, hA.obj, T.clH, T.nH_of_split, handF_of_split, _, rfl, _, rfl, _, _, rfl, fun g3 => ?_, fun g3 d hd => ?_⟩
        · have g3' : x.h.parted = false := by simpa using g3
          refine ⟨_, rfl, x.a, C.H, _, _, rfl, hA.obj, T.clH, T.nH_state, handF_len, ?_⟩
          rw [handF_put_state]
          have O3 := hB2.own
          rw [cells_hand (C := C) (t := t) F] at O3
          have O4 := O3.put (HandL.obj C { x with h := { x.h with state := 3 } })
          have hB4 : Tab C H0 (upd H2 x.a (HandL.obj C { x with h := { x.h with state := 3 } })) t (putT B _ s _ _ { x with h := { x.h with state := 3 } } _) := ⟨by rw [cells_put F { x with h := { x.h with state := 3 } } rfl]; exact O4, fit_put F hB.fit _ (by show x.h.cards.length ≤ 9000; omega)⟩
          refine ⟨_, rfl, t, B.d, _, rfl, hB4.obj, tabF_no_go_on, H0, t, _, rfl, hB4, fun H5 hB5 => ?_⟩
          refine stands_core hB5 goOnT_turn (q.give ?_ (by decide)) rfl
          rw [give_0 (s := B.abs) e et F.hand, abs_goOnT (show (putT B _ s _ _ _ _).phase = 2 from e), abs_put F]
          · rfl
          · rintro (z | z | z)
            · exact absurd (show B.rules.giveUp = false from z) (by rw [g1]; decide)
            · exact z (beq_iff_eq.mp g2)
            · rw [g3'] at z
              cases z
        · have g3' : x.h.parted = true := by simpa using g3
          exact (no (.inr (.inr g3'))).at (Same.refl _) d hd
      · exact ⟨_, rfl, _, _, rfl, (fun z => Bool.noConfusion z), fun _ d hd => (no (.inr (.inl (beq_eq_false_iff_ne.mp g2)))).at (Same.refl _) d hd⟩
    · exact ⟨_, rfl, _, _, rfl, (fun z => Bool.noConfusion z), fun _ d hd => (no (.inl g1)).at (Same.refl _) d hd⟩
end
end Bj
namespace Bj
open PySem PySem.Spec PyProof.Rows L2
section
variable {C : Adr} {H0 H : Hp} {A B : List Cell} {x : HandL}
theorem Own.handAt (O : Own H0 H (A ++ (x.cells C ++ B))) (h : x.h.cards.length ≤ 9000) : HandAt C H x :=
  ⟨O.holds (x.a, x.obj C) (List.mem_append_right _ (List.mem_append_left _ (by simp [HandL.cells]))), O.holds (x.l, .lst (cardsV x.h.cards)) (List.mem_append_right _ (List.mem_append_left _ (by simp [HandL.cells]))), h⟩
theorem Own.putObj (O : Own H0 H (A ++ (x.cells C ++ B))) (g : Kg84.Hand) (e : g.cards = x.h.cards) : Own H0 (upd H x.a (HandL.obj C { x with h := g })) (A ++ (HandL.cells C { x with h := g } ++ B)) := by
  have := Own.put (A := A) (B := (x.l, .lst (cardsV x.h.cards)) :: B) O (HandL.obj C { x with h := g })
  rw [← e] at this
  exact this
theorem Own.putCards (O : Own H0 H (A ++ (x.cells C ++ B))) (l : List Nat) : Own H0 (upd H x.l (.lst (cardsV l))) (A ++ (HandL.cells C { x with h := { x.h with cards := l } } ++ B)) := by
  have e : ∀ y : HandL, A ++ (y.cells C ++ B) = (A ++ [(y.a, y.obj C)]) ++ (y.l, .lst (cardsV y.h.cards)) :: B := fun y => by simp [HandL.cells]
  rw [e] at O ⊢
  exact O.put _
end
theorem endH_eq (h : Kg84.Hand) : endH h = { h with state := if 21 < Kg84.total h.cards then 2 else 1 } := by
  unfold endH settleH
  by_cases e : Kg84.total h.cards = 21
  · rw [if_pos e, if_neg (by omega)]
  · rw [if_neg e]
    by_cases e2 : 21 < Kg84.total h.cards
    · rw [if_pos e2, if_pos e2]
    · rw [if_neg e2, if_neg e2]
theorem cardsV_one (n : Nat) : cardsV [n] = [.int (n : Nat)] := rfl
section
variable {P : Program} {w : World} {K : PySem.W.Frag} {mg : Str → Option Value} {base : Heap} {C : Adr}
theorem ok_Table_hit (T : Txt K mg C) : MethOk P w K mg base (L2.CX P w) 12 C.T "hit" P_Table_hit (sp_hit C) := by
  refine T.m_Table_hit.okX sc_Table_hit (fun _ _ F => b_Table_hit F) ?_ ?_
  · rintro vs H Q E ⟨c, H0, t, B, rfl, _⟩
    rfl
  · intro f cdv A outer sh H vs Q E hr h
    obtain ⟨c, H0, t, B, rfl, hB, hI, q⟩ := h
    refine ⟨_, (pss_cons (ps_expr (pe_cD (ok_must T) hr (by decide) (passes_call (takes_of rfl rfl rfl rfl) (fun _ _ _ _ h => h)) (pa_cons (pe_cD (ok_are_cards T) hr (by decide) pass0 (pa_cons (pe_lst (pa_cons (pv 1) pa_nil)) pa_nil)) (pa_cons (pe_un un_neg pe_int) pa_nil))))
      (pss_cons (ps_asg (pe_cM0 (ok_Table_asked T) hr (by decide) T.clT (passes_call (takes_of rfl rfl rfl rfl) (fun _ _ _ _ h => h)) (pv 0)) (pg_tup (by rfl) (pgs_cons (pg_name (i := 2) sc_Table_hit.nd rfl (Or.inl rfl)) (pgs_cons (pg_name (i := 3) sc_Table_hit.nd rfl (Or.inl rfl)) pgs_nil))))
      (pss_cons (ps_expr (pe_cM (ok_Table_take T) hr (by decide) T.clT (passes_call (takes_of rfl rfl rfl rfl) (fun _ _ _ _ h => h)) (pv 0) (pa_cons (pe_lst (pa_cons (pv 1) pa_nil)) pa_nil)))
      (pss_cons (ps_expr (by exact (pe_bm PySem.F.plainAttrs_list PySem.F.slot_list_append PySem.F.type_list_append mt_append (pe_fld (pv 3) rfl) (pa_cons (pv 1) pa_nil))))
      (pss_cons (ps_expr (pe_cM0 (ok_Hand_settle T) hr (by decide) T.clH pass0 (pv 3)))
      (pss_one (ps_ret (pe_cM (ok_Table_counted T) hr (by decide) T.clT pass0 (pv 0) (pa_cons (pv 3) pa_nil))))))))), ?_⟩
    refine ⟨_, rfl, (by show 1 ≤ sizeLine; decide), fun p1 hp1 => ?_⟩
    have s1 : Same H (upd H p1 (.lst [.int c])) := same_new hp1
    refine ⟨p1, [c], rfl, SqL.of upd_same, (by show 1 ≤ 10000; decide), fun H2 s2 => ?_⟩
    have s02 := s1.trans s2
    refine ⟨_, rfl, _, _, rfl, fun e1 => ?_, fun e1 => (q.refuse (hit_1 (within_not.mp (by rw [one_card] at e1; exact e1))) (by decide)).at s02⟩
    rw [one_card] at e1
    have hc := within_iff.mp e1
    obtain ⟨n, rfl⟩ : ∃ n : Nat, c = n := ⟨c.toNat, by omega⟩
    have hB2 := hB.sameR s02
    refine ⟨_, rfl, t, B.d, _, rfl, hB2.obj, tabF_no_asked, H0, t, B, rfl, hB2, fun e => (q.refuse (hit_3 hc e) (by decide)).sub s02, fun e => ?_⟩
    obtain ⟨i, j, s, x, et, es, ex, h0, ha, hcl⟩ := hI.at e
    have F := Focus.of es ex
    refine ⟨i, j, s, x, et, es, ex, fun H3 p3 hp3 s3 e3 => ?_⟩
    have hB3 := hB2.sameR s3
    have s03 := s02.trans s3
    refine ⟨p3, _, rfl, SqT.of e3, rfl, _, _, rfl, _, _, rfl, rfl, ?_⟩
    refine ⟨_, rfl, t, B.d, _, rfl, hB3.obj, tabF_no_take, _, rfl, (by show 1 ≤ sizeLine; decide), fun p4 hp4 => ?_⟩
    have hB4 := hB3.frame (o := .lst [.int (n : Nat)]) hp4
    have n4 : H0 p4 = none := hB3.own.free hp4
    have s04 := Same.upd (o := .lst [.int (n : Nat)]) s03 (s03.free hp4)
    have dk : inDeck [n] := fun k hk => by
      rw [List.mem_singleton] at hk
      subst hk
      omega
    refine ⟨_, t, p4, B, [n], rfl, hB4, SqL.of upd_same, dk, (by show 1 ≤ 10000; decide), fun e5 => (q.refuse (hit_5 hc e et e5) (by decide)).sub s04, fun z e5 H5 hB5 => ?_⟩
    have O5 := hB5.own
    rw [cells_hand (C := C) (t := t) (F.left z)] at O5
    have hA := O5.handAt (by omega)
    refine ⟨_, rfl, x.a, C.H, _, _, _, rfl, hA.obj, T.clH, T.nH_cards, handF_cards, .inl ⟨rfl, _, hA.seq⟩, _, rfl, x.l, _, _, rfl, rfl, hA.cards, ?_, ?_⟩
    · rw [cardsV_len]
      exact small10000 (by omega)
    rw [← cardsV_one, ← cardsV_app]
    have O6 := O5.putCards (x.h.cards ++ [n])
    have l6 : (x.h.cards ++ [n]).length ≤ 9000 := by rw [List.length_append]; show _ + 1 ≤ 9000; omega
    have hA6 := O6.handAt l6
    refine ⟨_, rfl, x.a, x.d, _, rfl, hA6.obj, handF_no_settle, { x with h := { x.h with cards := x.h.cards ++ [n] } }, rfl, hA6, fun H7 s7 => ?_⟩
    have O7 := (O6.putObj (settleH { x.h with cards := x.h.cards ++ [n] }) (settleH_cards _)).sameR s7
    have l7 : (settleH { x.h with cards := x.h.cards ++ [n] }).cards.length ≤ 9000 := by rw [settleH_cards]; exact l6
    have hB7 : Tab C _ H7 t (putT { B with left := z } _ s _ _ { x with h := settleH { x.h with cards := x.h.cards ++ [n] } } _) := ⟨by rw [cells_put (F.left z) { x with h := settleH { x.h with cards := x.h.cards ++ [n] } } rfl]; exact O7, fit_put (F.left z) hB5.fit _ l7⟩
    refine ⟨_, rfl, t, B.d, _, rfl, hB7.obj, tabF_no_counted, _, rfl, _, t, _, _, { x with h := settleH { x.h with cards := x.h.cards ++ [n] } }, rfl, hB7, List.mem_append_right _ List.mem_cons_self, List.mem_append_right _ List.mem_cons_self, ?_⟩
    refine Gives.weak (same_new n4) (q.give ?_ (by omega))
    rw [hit_0 (s := B.abs) hc e et F.hand e5, abs_goOnT (T := putT { B with left := z } _ s _ _ _ _) e, abs_put (F.left z)]
    show fin _ ((Kg84.total (x.h.cards ++ [n]) : Nat) : Int) = (_, ⟨((Kg84.total (settleH { x.h with cards := x.h.cards ++ [n] }).cards : Nat) : Int), _⟩)
    rw [settleH_cards]
    rw [show ({ x.h with cards := x.h.cards ++ [(n : Int).toNat] } : Kg84.Hand).ready = settleH { x.h with cards := x.h.cards ++ [n] } from ready_settle h0 ha]
    rfl
theorem ok_Table_double (T : Txt K mg C) : MethOk P w K mg base (L2.CX P w) 12 C.T "double" P_Table_double (sp_double C) := by
  refine T.m_Table_double.okX sc_Table_double (fun _ _ F => b_Table_double F) ?_ ?_
  · rintro vs H Q E ⟨c, H0, t, B, rfl, _⟩
    rfl
  · intro f cdv A outer sh H vs Q E hr h
    obtain ⟨c, H0, t, B, rfl, hB, hI, q⟩ := h
    refine ⟨_, (pss_cons (ps_expr (pe_cD (ok_must T) hr (by decide) (passes_call (takes_of rfl rfl rfl rfl) (fun _ _ _ _ h => h)) (pa_cons (pe_cD (ok_are_cards T) hr (by decide) pass0 (pa_cons (pe_lst (pa_cons (pv 1) pa_nil)) pa_nil)) (pa_cons (pe_un un_neg pe_int) pa_nil))))
      (pss_cons (ps_asg (pe_cM0 (ok_Table_asked T) hr (by decide) T.clT (passes_call (takes_of rfl rfl rfl rfl) (fun _ _ _ _ h => h)) (pv 0)) (pg_tup (by rfl) (pgs_cons (pg_name (i := 2) sc_Table_double.nd rfl (Or.inl rfl)) (pgs_cons (pg_name (i := 3) sc_Table_double.nd rfl (Or.inl rfl)) pgs_nil))))
      (pss_cons (ps_expr (pe_cD (ok_must T) hr (by decide) (passes_call (takes_of rfl rfl rfl rfl) (fun _ _ _ _ h => h)) (pa_cons (pe_and (pe_cmp (pc_eqI (pe_callB call_len_seq (by rfl) T.z_len PySem.boot_len (pa_cons (pe_fld (pv 3) rfl) pa_nil)) pe_int)) (pe_one (pe_or (pe_fld (pv 0) rfl) (pe_one (pe_not (pe_fld (pv 3) rfl)))))) (pa_cons (pe_un un_neg pe_int) pa_nil))))
      (pss_cons (ps_expr (pe_cM (ok_Table_take T) hr (by decide) T.clT (passes_call (takes_of rfl rfl rfl rfl) (fun _ _ _ _ h => h)) (pv 0) (pa_cons (pe_lst (pa_cons (pv 1) pa_nil)) pa_nil)))
      (pss_cons (ps_fld (pv 3) (pe_op op_mul pe_int (pe_fld (pv 3) rfl)) rfl)
      (pss_cons (ps_expr (by exact (pe_bm PySem.F.plainAttrs_list PySem.F.slot_list_append PySem.F.type_list_append mt_append (pe_fld (pv 3) rfl) (pa_cons (pv 1) pa_nil))))
      (pss_cons (ps_expr (pe_cM0 (ok_Hand_end T) hr (by decide) T.clH pass0 (pv 3)))
      (pss_one (ps_ret (pe_cM (ok_Table_counted T) hr (by decide) T.clT pass0 (pv 0) (pa_cons (pv 3) pa_nil))))))))))), ?_⟩
    refine ⟨_, rfl, (by show 1 ≤ sizeLine; decide), fun p1 hp1 => ?_⟩
    have s1 : Same H (upd H p1 (.lst [.int c])) := same_new hp1
    refine ⟨p1, [c], rfl, SqL.of upd_same, (by show 1 ≤ 10000; decide), fun H2 s2 => ?_⟩
    have s02 := s1.trans s2
    refine ⟨_, rfl, _, _, rfl, fun e1 => ?_, fun e1 => (q.refuse (double_1 (within_not.mp (by rw [one_card] at e1; exact e1))) (by decide)).at s02⟩
    rw [one_card] at e1
    have hc := within_iff.mp e1
    obtain ⟨n, rfl⟩ : ∃ n : Nat, c = n := ⟨c.toNat, by omega⟩
    have hB2 := hB.sameR s02
    refine ⟨_, rfl, t, B.d, _, rfl, hB2.obj, tabF_no_asked, H0, t, B, rfl, hB2, fun e => (q.refuse (double_3 hc e) (by decide)).sub s02, fun e => ?_⟩
    obtain ⟨i, j, s, x, et, es, ex, h0, ha, hcl⟩ := hI.at e
    have F := Focus.of es ex
    refine ⟨i, j, s, x, et, es, ex, fun H3 p3 hp3 s3 e3 => ?_⟩
    have hB3 := hB2.sameR s3
    have s03 := s02.trans s3
    have hA3 := hB3.hand F.mem.1 F.mem.2
    refine ⟨p3, _, rfl, SqT.of e3, rfl, _, _, rfl, _, _, rfl, rfl, ?_⟩
    have no : (x.h.cards.length ≠ 2 ∨ (x.h.parted = true ∧ B.rules.doubleParted = false)) → ∀ d, H3 d = none → E (.ref C.R) (some d) (upd H3 d (numX (-4))) := fun k => (q.refuse (double_4 (s := B.abs) hc e et F.hand k) (by decide)).at s03
    have rest : ¬ (x.h.cards.length ≠ 2 ∨ (x.h.parted = true ∧ B.rules.doubleParted = false)) →
        tSeq (tDrop (tMeth C.T "take" (sp_take C K) [] E (tVar 0) (tCons (tLst (tCons (tVar 1) tNil)) tNil)))
          (tSeq (sFld K (tVar 3) (tOp (rI CMul fun i j => V.int (i * j)) (tC (.int 2)) (tFld K (tVar 3) "stake")) "stake")
          (tSeq (tDrop (tBM K "list" rAppend (tFld K (tVar 3) "cards") (tCons (tVar 1) tNil)))
          (tSeq (tDrop (tMeth C.H "end" (sp_Hand_do C endH) [] E0 (tVar 3) tNil)) (tRet (tMeth C.T "counted" (sp_counted C) [] E0 (tVar 0) (tCons (tVar 3) tNil))))))
          { nx := fun _ H' => Q .non H', rt := Q } [some (.ref t), some (.int (n : Nat)), some (.ref s.a), some (.ref x.a)] H3 := by
      intro k
      refine ⟨_, rfl, t, B.d, _, rfl, hB3.obj, tabF_no_take, _, rfl, (by show 1 ≤ sizeLine; decide), fun p4 hp4 => ?_⟩
      have hB4 := hB3.frame (o := .lst [.int (n : Nat)]) hp4
      have n4 : H0 p4 = none := hB3.own.free hp4
      have s04 := Same.upd (o := .lst [.int (n : Nat)]) s03 (s03.free hp4)
      have dk : inDeck [n] := fun k hk => by
        rw [List.mem_singleton] at hk
        subst hk
        omega
      refine ⟨_, t, p4, B, [n], rfl, hB4, SqL.of upd_same, dk, (by show 1 ≤ 10000; decide), fun e5 => (q.refuse (double_5 (s := B.abs) hc e et F.hand k e5) (by decide)).sub s04, fun z e5 H5 hB5 => ?_⟩
      have O5 := hB5.own
      rw [cells_hand (C := C) (t := t) (F.left z)] at O5
      have hA := O5.handAt (by omega)
      refine ⟨_, rfl, x.a, C.H, _, _, _, rfl, hA.obj, T.clH, T.nH_stake, handF_stake, _, _, rfl, rfl, .inl (by decide), _, rfl, x.a, C.H, _, _, rfl, hA.obj, T.clH, T.nH_stake, handF_len, ?_⟩
      have e6 : putF "stake" (.int (2 * ((x.h.stake : Nat) : Int))) (handF x.l (x.h.stake : Nat) x.h.parted (x.h.state : Nat)) = handF x.l ((2 * x.h.stake : Nat) : Int) x.h.parted (x.h.state : Nat) := by
        rw [handF_put_stake]
        congr 1
      rw [e6]
      have O6 := O5.putObj { x.h with stake := 2 * x.h.stake, doubled := true } rfl
      have hA6 := O6.handAt (show x.h.cards.length ≤ 9000 by omega)
      refine ⟨_, rfl, x.a, C.H, _, _, _, rfl, hA6.obj, T.clH, T.nH_cards, handF_cards, .inl ⟨rfl, _, hA6.seq⟩, _, rfl, x.l, _, _, rfl, rfl, hA6.cards, ?_, ?_⟩
      · rw [cardsV_len]
        exact small10000 (by show x.h.cards.length ≤ 10000; omega)
      rw [← cardsV_one, ← cardsV_app]
      have O7 := O6.putCards (x.h.cards ++ [n])
      have l7 : (x.h.cards ++ [n]).length ≤ 9000 := by rw [List.length_append]; show _ + 1 ≤ 9000; omega
      have hA7 := O7.handAt l7
      refine ⟨_, rfl, x.a, x.d, _, rfl, hA7.obj, handF_no_end, { x with h := { x.h with stake := 2 * x.h.stake, doubled := true, cards := x.h.cards ++ [n] } }, rfl, hA7, fun H8 s8 => ?_⟩
      have ce : (endH { x.h with stake := 2 * x.h.stake, doubled := true, cards := x.h.cards ++ [n] }).cards = x.h.cards ++ [n] := by rw [endH_eq]
      have O8 := (O7.putObj (endH { x.h with stake := 2 * x.h.stake, doubled := true, cards := x.h.cards ++ [n] }) ce).sameR s8
      have hB8 : Tab C _ H8 t (putT { B with left := z } _ s _ _ { x with h := endH { x.h with stake := 2 * x.h.stake, doubled := true, cards := x.h.cards ++ [n] } } _) := ⟨by rw [cells_put (F.left z) { x with h := endH { x.h with stake := 2 * x.h.stake, doubled := true, cards := x.h.cards ++ [n] } } rfl]; exact O8, fit_put (F.left z) hB5.fit _ (by rw [ce]; exact l7)⟩
      refine ⟨_, rfl, t, B.d, _, rfl, hB8.obj, tabF_no_counted, _, rfl, _, t, _, _, { x with h := endH { x.h with stake := 2 * x.h.stake, doubled := true, cards := x.h.cards ++ [n] } }, rfl, hB8, List.mem_append_right _ List.mem_cons_self, List.mem_append_right _ List.mem_cons_self, ?_⟩
      refine Gives.weak (same_new n4) (q.give ?_ (by omega))
      rw [double_0 (s := B.abs) hc e et F.hand k e5, abs_goOnT (T := putT { B with left := z } _ s _ _ _ _) e, abs_put (F.left z)]
      show fin _ ((Kg84.total (x.h.cards ++ [n]) : Nat) : Int) = (_, ⟨((Kg84.total (endH { x.h with stake := 2 * x.h.stake, doubled := true, cards := x.h.cards ++ [n] }).cards : Nat) : Int), _⟩)
      rw [ce, endH_eq]
      rfl
    refine ⟨_, rfl, x.a, C.H, _, _, _, rfl, hA3.obj, T.clH, T.nH_cards, handF_cards, x.l, _, rfl, .inl hA3.seq, _, _, rfl, rfl, _, rfl, ?_⟩
    have el : decide (((cardsV x.h.cards).length : Int) = 2) = (x.h.cards.length == 2) := by rw [cardsV_len]; exact nat_eq _ 2
    refine ifB (b := x.h.cards.length == 2) el (fun g1 => ?_) (fun g1 => ?_)
    · refine ⟨_, rfl, t, C.T, _, _, _, rfl, hB3.obj, T.clT, T.nT_doubles_split, tabF_doubles_split, _, rfl, ?_⟩
      refine ifB (b := B.rules.doubleParted) rfl (fun g2 => ?_) (fun g2 => ?_)
      · refine ⟨_, rfl, _, _, rfl, fun _ => rest ?_, fun z => Bool.noConfusion z⟩
        rintro (z | z)
        · exact z (beq_iff_eq.mp g1)
        · rw [g2] at z
          cases z.2
      · refine ⟨_, rfl, x.a, C.H, _, _, _, rfl, hA3.obj, T.clH, T.nH_of_split, handF_of_split, _, rfl, _, rfl, _, _, rfl, fun g3 => rest ?_, fun g3 => no (.inr ⟨by simpa using g3, g2⟩)⟩
        rintro (z | z)
        · exact z (beq_iff_eq.mp g1)
        · rw [z.1] at g3
          cases g3
    · exact ⟨_, rfl, _, _, rfl, (fun z => Bool.noConfusion z), fun _ => no (.inl (beq_eq_false_iff_ne.mp g1))⟩
end
end Bj
namespace Bj
open PySem PySem.Spec PyProof.Rows L2
theorem cut_take {xs : List V} {j : Nat} (h : j ≤ xs.length) : cutV xs none (some ((j : Nat) : Int)) = xs.take j := by
  unfold cutV
  rw [HT.sIx_nat, HT.sIx_none, List.drop_zero, Nat.sub_zero, Nat.min_eq_left h]
theorem cut_drop {xs : List V} {j : Nat} (h : j ≤ xs.length) : cutV xs (some ((j : Nat) : Int)) none = xs.drop j := by
  unfold cutV
  rw [HT.sIx_nat, HT.sIx_none, Nat.min_eq_left h]
  exact List.take_of_length_le (by rw [List.length_drop]; omega)
theorem perm_part (pE pB b c x1 x2 a d e f g : List Cell) : (pE ++ (pB ++ (x1 ++ (x2 ++ (a ++ (b ++ (c ++ (d ++ (e ++ (f ++ g)))))))))).Perm ((a ++ (b ++ (pE ++ (d ++ (e ++ (x1 ++ (x2 ++ g))))))) ++ (pB ++ (c ++ f))) := by
  classical
  rw [List.perm_iff_count]
  intro z
  simp only [List.count_append]
  omega
theorem ace_le (c : Nat) : Kg84.total [1, c] ≤ 21 := by
  have h : Kg84.hard [1, c] ≤ 11 := by
    unfold Kg84.hard Kg84.worth
    simp only [List.map_cons, List.map_nil, List.sum_cons, List.sum_nil]
    omega
  unfold Kg84.total
  split <;> omega
theorem half_ready {u c st : Nat} {aces : Bool} (h : aces = true ↔ u = 1) : halfH u c st aces = (⟨[u, c], st, 0, false, true, aces⟩ : Kg84.Hand).ready := by
  unfold halfH
  by_cases e : u = 1
  · subst e
    have ha : aces = true := h.mpr rfl
    subst ha
    rw [if_pos rfl, endH_eq, settleH_cards, if_neg (by have := ace_le c; show ¬ 21 < Kg84.total [1, c]; omega)]
    unfold Kg84.Hand.ready
    rw [if_pos ⟨rfl, .inr ⟨rfl, rfl⟩⟩]
    unfold settleH
    split
    · rfl
    · split <;> rfl
  · have ha : aces = false := by
      cases aces with
      | true => exact absurd (h.mp rfl) e
      | false => rfl
    subst ha
    rw [if_neg e]
    exact (ready_settle rfl rfl).symm
theorem worth_one {u v : Nat} (h : Kg84.worth u = Kg84.worth v) : u = 1 ↔ v = 1 := by
  unfold Kg84.worth at h
  omega
def partT (T : TabL) (p : List SeatL) (s : SeatL) (q : List SeatL) (l : Addr) (hs : List HandL) : TabL := { T with seats := p ++ { s with l := l, hs := hs } :: q }
theorem abs_part {T : TabL} {i j : Nat} {p q : List SeatL} {s : SeatL} {hp hq : List HandL} {x : HandL} (F : Focus T i j p s q hp x hq) (l : Addr) (x1 x2 : HandL) : (partT T p s q l (hp ++ (x1 :: x2 :: hq))).abs = Kg84.putHand T.abs (i, j) [x1.h, x2.h] := by
  have e1 : T.abs.seats = p.map SeatL.x ++ s.x :: q.map SeatL.x := by
    show T.seats.map SeatL.x = _
    rw [F.seats]
    simp
  have e2 : s.x.hands = hp.map (·.h) ++ x.h :: hq.map (·.h) := by
    show s.hs.map (·.h) = _
    rw [F.hands]
    simp
  have := putHand_at (s := T.abs) [x1.h, x2.h] e1 e2
  rw [List.length_map, List.length_map, F.li, F.lj] at this
  rw [this]
  unfold partT TabL.abs
  simp only [List.map_append, List.map_cons]
  congr 1
  · congr 1
    congr 1
    unfold SeatL.x
    simp
  · rw [F.seats]
    simp
def sp_part (C : Adr) : Sp := fun vs H Q E => ∃ c d : Int, sp_Table_call C [.int c, .int d] (.split c d) vs H Q E
theorem two_all (c d : Int) : ([c, d] : List Int).all (fun z => Kg84.within z 1 13) = (Kg84.within c 1 13 && Kg84.within d 1 13) := by simp
section
variable {P : Program} {w : World} {K : PySem.W.Frag} {mg : Str → Option Value} {base : Heap} {C : Adr}
theorem ok_Table_part (T : Txt K mg C) : MethOk P w K mg base (L2.CX P w) 11 C.T "part" P_Table_part (sp_part C) := by
  refine T.m_Table_part.okX sc_Table_part (fun _ _ F => b_Table_part F) ?_ ?_
  · rintro vs H Q E ⟨c, d, H0, t, B, rfl, _⟩
    rfl
  · intro f cdv A outer sh H vs Q E hr h
    obtain ⟨c, d, H0, t, B, rfl, hB, hI, q⟩ := h
    refine ⟨_, (pss_cons (ps_expr (pe_cD (ok_must T) hr (by decide) (passes_call (takes_of rfl rfl rfl rfl) (fun _ _ _ _ h => h)) (pa_cons (pe_cD (ok_are_cards T) hr (by decide) pass0 (pa_cons (pe_lst (pa_cons (pv 1) (pa_cons (pv 2) pa_nil))) pa_nil)) (pa_cons (pe_un un_neg pe_int) pa_nil))))
      (pss_cons (ps_asg (pe_cM0 (ok_Table_asked T) hr (by decide) T.clT (passes_call (takes_of rfl rfl rfl rfl) (fun _ _ _ _ h => h)) (pv 0)) (pg_tup (by rfl) (pgs_cons (pg_name (i := 3) sc_Table_part.nd rfl (Or.inl rfl)) (pgs_cons (pg_name (i := 4) sc_Table_part.nd rfl (Or.inl rfl)) pgs_nil))))
      (pss_cons (ps_expr (pe_cD (ok_must T) hr (by decide) (passes_call (takes_of rfl rfl rfl rfl) (fun _ _ _ _ h => h)) (pa_cons (pe_and (pe_cM0 (ok_Hand_is_pair T) hr (by decide) T.clH pass0 (pv 4)) (pe_one (pe_cmp (pc_lt (pe_callB call_len_seq (by rfl) T.z_len PySem.boot_len (pa_cons (pe_fld (pv 3) rfl) pa_nil)) (pe_fld (pv 0) rfl))))) (pa_cons (pe_un un_neg pe_int) pa_nil))))
      (pss_cons (ps_expr (pe_cM (ok_Table_take T) hr (by decide) T.clT (passes_call (takes_of rfl rfl rfl rfl) (fun _ _ _ _ h => h)) (pv 0) (pa_cons (pe_lst (pa_cons (pv 1) (pa_cons (pv 2) pa_nil))) pa_nil)))
      (pss_cons (ps_set (i := 5) sc_Table_part.nd rfl (Or.inl rfl) (pe_ix ix_tup (pe_cM0 (ok_Table_turn T) hr (by decide) T.clT pass0 (pv 0)) pe_int (fun _ _ => rfl)))
      (pss_cons (ps_fld (pv 3) (pe_op op_cat (pe_op op_cat (pe_slice sl_list (pe_fld (pv 3) rfl) po_none (po_some (pv 5))) (pe_cD (ok_split_hands T) hr (by decide) pass0 (pa_cons (pv 4) (pa_cons (pv 1) (pa_cons (pv 2) pa_nil))))) (pe_slice sl_list (pe_fld (pv 3) rfl) (po_some (pe_op op_add (pv 5) pe_int)) po_none)) rfl)
      (pss_cons (ps_expr (pe_cM0 (ok_Table_go_on T) hr (by decide) T.clT pass0 (pv 0)))
      (pss_one (ps_ret (pe_op op_cat (pe_lst (pa_cons pe_int pa_nil)) (pe_cM0 (ok_Table_stands T) hr (by decide) T.clT pass0 (pv 0)))))))))))), ?_⟩
    refine ⟨_, rfl, _, rfl, (by show 2 ≤ sizeLine; decide), fun p1 hp1 => ?_⟩
    have s1 : Same H (upd H p1 (.lst [.int c, .int d])) := same_new hp1
    refine ⟨p1, [c, d], rfl, SqL.of upd_same, (by show 2 ≤ 10000; decide), fun H2 s2 => ?_⟩
    have s02 := s1.trans s2
    refine ⟨_, rfl, _, _, rfl, fun e1 => ?_, fun e1 => (q.refuse (split_1 ?_) (by decide)).at s02⟩
    rotate_left
    · rw [two_all, Bool.and_eq_false_iff, within_not, within_not] at e1
      intro z
      rcases e1 with e1 | e1
      · exact e1 z.1
      · exact e1 z.2
    rw [two_all, Bool.and_eq_true, within_iff, within_iff] at e1
    obtain ⟨n, rfl⟩ : ∃ n : Nat, c = n := ⟨c.toNat, by omega⟩
    obtain ⟨m, rfl⟩ : ∃ n : Nat, d = n := ⟨d.toNat, by omega⟩
    have hB2 := hB.sameR s02
    refine ⟨_, rfl, t, B.d, _, rfl, hB2.obj, tabF_no_asked, H0, t, B, rfl, hB2, fun e => (q.refuse (split_3 e1 e) (by decide)).sub s02, fun e => ?_⟩
    obtain ⟨i, j, s, x, et, es, ex, h0, ha, hcl⟩ := hI.at e
    have F := Focus.of es ex
    refine ⟨i, j, s, x, et, es, ex, fun H3 p3 hp3 s3 e3 => ?_⟩
    have hB3 := hB2.sameR s3
    have s03 := s02.trans s3
    have hA3 := hB3.hand F.mem.1 F.mem.2
    refine ⟨p3, _, rfl, SqT.of e3, rfl, _, _, rfl, _, _, rfl, rfl, ?_⟩
    have eseat : (B.abs.seats.getD i ⟨0, 0, []⟩).hands.length = s.hs.length := by
      have h1 : B.abs.seats[i]? = some s.x := by
        show (B.seats.map SeatL.x)[i]? = _
        rw [List.getElem?_map, es]
        rfl
      rw [List.getD_eq_getElem?_getD, h1]
      show (s.hs.map (·.h)).length = _
      rw [List.length_map]
    refine ⟨_, rfl, x.a, x.d, _, rfl, hA3.obj, handF_no_is_pair, x, rfl, hA3, fun H4 s4 => ⟨_, rfl, ?_⟩⟩
    have hB4 := hB3.sameR s4
    have s04 := s03.trans s4
    have no : noSplit B.abs (i, j) x.h → ∀ {H'}, Same H4 H' → ∀ d, H' d = none → E (.ref C.R) (some d) (upd H' d (numX (-4))) := fun k _ s' => (q.refuse (split_4 (s := B.abs) e1 e et F.hand k) (by decide)).at (s04.trans s')
    refine ifB (b := isPair x.h.cards) rfl (fun g1 => ?_) (fun g1 => ?_)
    rotate_left
    · refine ⟨_, rfl, _, _, rfl, (fun z => Bool.noConfusion z), fun _ => no ?_ (Same.refl _)⟩
      unfold isPair at g1
      rw [Bool.and_eq_false_iff, beq_eq_false_iff_ne, beq_eq_false_iff_ne] at g1
      rcases g1 with g1 | g1
      · exact .inl g1
      · exact .inr (.inl g1)
    have g1' : x.h.cards.length = 2 ∧ Kg84.worth (x.h.cards.getD 0 0) = Kg84.worth (x.h.cards.getD 1 0) := by
      unfold isPair at g1
      rw [Bool.and_eq_true, beq_iff_eq, beq_iff_eq] at g1
      exact g1
    refine ⟨_, rfl, s.a, C.S, _, _, _, rfl, hB4.seat F.mem.1, T.clS, T.nS_hands, seatF_hands, s.l, _, rfl, .inl (SqL.of (hB4.seatL F.mem.1)), _, rfl, t, C.T, _, _, _, rfl, hB4.obj, T.clT, T.nT_most_hands, tabF_most_hands, _, _, rfl, rfl, _, rfl, _, _, rfl, fun g2 => ?_, fun g2 => no (.inr (.inr ?_)) (Same.refl _)⟩
    rotate_left
    · have := of_decide_eq_false g2
      rw [refsH_len] at this
      show B.rules.most ≤ (B.abs.seats.getD i ⟨0, 0, []⟩).hands.length
      rw [eseat]
      omega
    have g2' : s.hs.length < B.rules.most := by
      have := of_decide_eq_true g2
      rw [refsH_len] at this
      omega
    have k : ¬ noSplit B.abs (i, j) x.h := by
      rintro (z | z | z)
      · exact z g1'.1
      · exact z g1'.2
      · have z' : B.rules.most ≤ (B.abs.seats.getD i ⟨0, 0, []⟩).hands.length := z
        rw [eseat] at z'
        omega
    refine ⟨_, rfl, t, B.d, _, rfl, hB4.obj, tabF_no_take, _, rfl, _, rfl, (by show 2 ≤ sizeLine; decide), fun p4 hp4 => ?_⟩
    have hB5 := hB4.frame (o := .lst [.int (n : Nat), .int (m : Nat)]) hp4
    have n4 : H0 p4 = none := hB4.own.free hp4
    have s05 := Same.upd (o := .lst [.int (n : Nat), .int (m : Nat)]) s04 (s04.free hp4)
    have dk : inDeck [n, m] := fun k hk => by
      rcases List.mem_cons.mp hk with z | z
      · subst z
        omega
      · rw [List.mem_singleton] at z
        subst z
        omega
    refine ⟨_, t, p4, B, [n, m], rfl, hB5, SqL.of upd_same, dk, (by show 2 ≤ 10000; decide), fun e5 => (q.refuse (split_5 (s := B.abs) e1 e et F.hand k e5) (by decide)).sub s05, fun z e5 H6 hB6 => ?_⟩
    have F6 := F.left z
    have et6 : (TabL.abs { B with left := z }).turn = some (i, j) := et
    refine ⟨_, rfl, t, B.d, _, rfl, hB6.obj, tabF_no_turn, _, t, { B with left := z }, rfl, hB6, (fun y => by rw [et6] at y; cases y), fun i' j' et' H7 p7 hp7 s7 e7 => ?_⟩
    rw [et6] at et'
    cases et'
    have hB7 := hB6.sameR s7
    refine ⟨p7, _, 1, _, rfl, rfl, SqT.of e7, rfl, ?_⟩
    have hm7 : s ∈ ({ B with left := z } : TabL).seats := F6.mem.1
    have jle : j ≤ (refsH s.hs).length := by
      rw [refsH_len, F.hands, List.length_append, F.lj]
      omega
    refine ⟨_, rfl, s.a, C.S, _, _, _, rfl, hB7.seat hm7, T.clS, T.nS_hands, seatF_hands, _, rfl, _, rfl, s.l, _, rfl, SqL.of (hB7.seatL hm7), fun pA hpA => ?_⟩
    rw [cut_take jle]
    have hB8 := hB7.sameR (same_new (o := .lst ((refsH s.hs).take j)) hpA)
    have hA8 := hB8.hand hm7 F6.mem.2
    obtain ⟨u, v, ec⟩ : ∃ u v, x.h.cards = [u, v] := by
      match x.h.cards, g1'.1 with
      | [u, v], _ => exact ⟨u, v, rfl⟩
    refine ⟨_, rfl, _, rfl, _, rfl, _, _, x, u, v, n, m, u == 1, rfl, hB8.own, hA8, ec, fun H9 pB x1 x2 O9 s9 ex1 ex2 => ?_⟩
    have pA9 : H9 pA = some (.lst ((refsH s.hs).take j)) := s9 _ _ upd_same
    have pB9 := O9.get0
    refine ⟨pA, pB, _, _, rfl, rfl, pA9, pB9, ?_, fun pC hpC => ?_⟩
    · have := hB8.fit.hands s hm7
      rw [List.length_take, refsH_len]
      exact Nat.le_of_lt (small10000 (by show _ + 2 ≤ 10000; omega))
    have O10 := O9.sameR (same_new (o := .lst ((refsH s.hs).take j ++ [.ref x1.a, .ref x2.a])) hpC)
    have c10 : ∀ {o : Cell}, o ∈ TabL.cells C t { B with left := z } → upd H9 pC (.lst ((refsH s.hs).take j ++ [.ref x1.a, .ref x2.a])) o.1 = some o.2 := fun {o} ho => O10.holds o (List.mem_cons_of_mem _ (List.mem_append_right _ (List.mem_append_right _ ho)))
    have st10 := c10 (mem_seat (C := C) (t := t) hm7).1
    have sl10 := c10 (mem_seat (C := C) (t := t) hm7).2
    refine ⟨_, rfl, s.a, C.S, _, _, _, rfl, st10, T.clS, T.nS_hands, seatF_hands, _, rfl, _, _, rfl, rfl, _, rfl, s.l, _, rfl, SqL.of sl10, fun pD hpD => ?_⟩
    have jle2 : j + 1 ≤ (refsH s.hs).length := by
      rw [refsH_len, F.hands, List.length_append, List.length_cons, F.lj]
      omega
    rw [show ((j : Nat) : Int) + 1 = ((j + 1 : Nat) : Int) from rfl, cut_drop jle2]
    have O11 := O10.sameR (same_new (o := .lst ((refsH s.hs).drop (j + 1))) hpD)
    have pC11 : upd (upd H9 pC (.lst ((refsH s.hs).take j ++ [.ref x1.a, .ref x2.a]))) pD (.lst ((refsH s.hs).drop (j + 1))) pC = some (.lst ((refsH s.hs).take j ++ [.ref x1.a, .ref x2.a])) := by
      rw [upd_ne (ne_of_none upd_same hpD)]
      exact upd_same
    have lenb := hB8.fit.hands s hm7
    have roomb := (hI.room s F.mem.1).1
    refine ⟨pC, pD, _, _, rfl, rfl, pC11, upd_same, ?_, fun pE hpE => ?_⟩
    · rw [List.length_append, List.length_take, List.length_drop, refsH_len]
      exact Nat.le_of_lt (small10000 (by show _ + 2 + _ ≤ 10000; omega))
    have eL : (refsH s.hs).take j ++ [V.ref x1.a, V.ref x2.a] ++ (refsH s.hs).drop (j + 1) = refsH (s.hs.take j ++ (x1 :: x2 :: s.hs.drop (j + 1))) := by
      unfold refsH
      rw [List.map_append, List.map_take, List.append_assoc]
      show _ = _ ++ (V.ref x1.a :: V.ref x2.a :: (s.hs.drop (j + 1)).map _)
      rw [List.map_drop]
      rfl
    rw [eL]
    have O12 := O11.new (o := .lst (refsH (s.hs.take j ++ (x1 :: x2 :: s.hs.drop (j + 1))))) hpE
    have ecells : TabL.cells C t { B with left := z } = ((t, TabL.obj C { B with left := z }) :: (TabL.rest C { B with left := z } ++ (B.seats.take i).flatMap (SeatL.own C))) ++ ([(s.a, s.obj C)] ++ ([(s.l, .lst (refsH s.hs))] ++ ((B.seats.drop (i + 1)).flatMap (SeatL.own C) ++ (((B.seats.take i).flatMap (·.hs) ++ s.hs.take j).flatMap (HandL.cells C) ++ (x.cells C ++ (s.hs.drop (j + 1) ++ (B.seats.drop (i + 1)).flatMap (·.hs)).flatMap (HandL.cells C)))))) := by
      rw [cells_hand (C := C) (t := t) F6]
      have e20 : B.seats.flatMap (SeatL.own C) = (B.seats.take i).flatMap (SeatL.own C) ++ (s.own C ++ (B.seats.drop (i + 1)).flatMap (SeatL.own C)) := by
        exact (congrArg (List.flatMap (SeatL.own C)) F.seats).trans (by rw [List.flatMap_append, List.flatMap_cons])
      unfold handPre handPost
      show (_ :: (_ ++ (B.seats.flatMap (SeatL.own C) ++ _))) ++ _ = _
      rw [e20]
      simp [SeatL.own]
    rw [ecells] at O12
    have O13 := O12.perm (perm_part [(pE, .lst (refsH (s.hs.take j ++ (x1 :: x2 :: s.hs.drop (j + 1)))))] [(pB, .lst [.ref x1.a, .ref x2.a])] [(s.a, s.obj C)] [(s.l, .lst (refsH s.hs))] (x1.cells C) (x2.cells C) ((t, TabL.obj C { B with left := z }) :: (TabL.rest C { B with left := z } ++ (B.seats.take i).flatMap (SeatL.own C))) ((B.seats.drop (i + 1)).flatMap (SeatL.own C)) (((B.seats.take i).flatMap (·.hs) ++ s.hs.take j).flatMap (HandL.cells C)) (x.cells C) ((s.hs.drop (j + 1) ++ (B.seats.drop (i + 1)).flatMap (·.hs)).flatMap (HandL.cells C)))
    have O14 := O13.sub (List.sublist_append_left _ _)
    have O15 := O14.put (SeatL.obj C { s with l := pE, hs := s.hs.take j ++ (x1 :: x2 :: s.hs.drop (j + 1)) })
    refine ⟨_, rfl, s.a, C.S, _, _, rfl, O14.get, T.clS, T.nS_hands, seatF_len, ?_⟩
    rw [seatF_put_hands]
    have efin : (partT { B with left := z } (B.seats.take i) s (B.seats.drop (i + 1)) pE (s.hs.take j ++ (x1 :: x2 :: s.hs.drop (j + 1)))).cells C t =
        ((t, TabL.obj C { B with left := z }) :: (TabL.rest C { B with left := z } ++ (B.seats.take i).flatMap (SeatL.own C))) ++ ((s.a, SeatL.obj C { s with l := pE, hs := s.hs.take j ++ (x1 :: x2 :: s.hs.drop (j + 1)) }) :: ([(pE, .lst (refsH (s.hs.take j ++ (x1 :: x2 :: s.hs.drop (j + 1)))))] ++ ((B.seats.drop (i + 1)).flatMap (SeatL.own C) ++ (((B.seats.take i).flatMap (·.hs) ++ s.hs.take j).flatMap (HandL.cells C) ++ (x1.cells C ++ (x2.cells C ++ (s.hs.drop (j + 1) ++ (B.seats.drop (i + 1)).flatMap (·.hs)).flatMap (HandL.cells C))))))) := by
      have e1 : TabL.rest C (partT { B with left := z } (B.seats.take i) s (B.seats.drop (i + 1)) pE (s.hs.take j ++ (x1 :: x2 :: s.hs.drop (j + 1)))) = TabL.rest C { B with left := z } := by
        have : refsS ((B.seats.take i) ++ { s with l := pE, hs := s.hs.take j ++ (x1 :: x2 :: s.hs.drop (j + 1)) } :: (B.seats.drop (i + 1))) = refsS B.seats := by
          unfold refsS
          rw [List.map_append, List.map_cons]
          show _ ++ V.ref s.a :: _ = _
          rw [← List.map_cons (f := fun y : SeatL => V.ref y.a), ← List.map_append, ← F.seats]
        unfold TabL.rest partT
        simp only [this]
      unfold TabL.cells TabL.under TabL.hands
      rw [e1]
      unfold partT
      simp [SeatL.own, List.flatMap_append]
      rfl
    have hB15 : Tab C _ _ t (partT { B with left := z } (B.seats.take i) s (B.seats.drop (i + 1)) pE (s.hs.take j ++ (x1 :: x2 :: s.hs.drop (j + 1)))) := ⟨by rw [efin]; exact O15, by
      have f := hB6.fit
      refine ⟨?_, fun y hy => ?_, fun y hy w hw => ?_, f.dealer, f.left⟩
      · have := f.seats
        have e2 : B.seats.length = (B.seats.take i ++ s :: B.seats.drop (i + 1)).length := congrArg List.length F.seats
        show (B.seats.take i ++ _ :: B.seats.drop (i + 1)).length ≤ 7
        rw [List.length_append, List.length_cons] at e2 ⊢
        have : B.seats.length ≤ 7 := f.seats
        omega
      · rcases List.mem_append.mp (show y ∈ B.seats.take i ++ { s with l := pE, hs := s.hs.take j ++ (x1 :: x2 :: s.hs.drop (j + 1)) } :: B.seats.drop (i + 1) from hy) with h | h
        · exact f.hands y (List.mem_of_mem_take h)
        · rcases List.mem_cons.mp h with h | h
          · subst h
            show (s.hs.take j ++ (x1 :: x2 :: s.hs.drop (j + 1))).length ≤ 300
            rw [List.length_append, List.length_cons, List.length_cons, List.length_take, List.length_drop]
            omega
          · exact f.hands y (List.mem_of_mem_drop h)
      · rcases List.mem_append.mp (show y ∈ B.seats.take i ++ { s with l := pE, hs := s.hs.take j ++ (x1 :: x2 :: s.hs.drop (j + 1)) } :: B.seats.drop (i + 1) from hy) with h | h
        · exact f.cards y (List.mem_of_mem_take h) w hw
        · rcases List.mem_cons.mp h with h | h
          · subst h
            rcases List.mem_append.mp (show w ∈ s.hs.take j ++ (x1 :: x2 :: s.hs.drop (j + 1)) from hw) with k | k
            · exact f.cards s hm7 w (List.mem_of_mem_take k)
            · rcases List.mem_cons.mp k with k | k
              · subst k
                rw [ex1]
                unfold halfH
                split
                · rw [endH_eq, settleH_cards]
                  exact (by decide : 2 ≤ 9000)
                · rw [settleH_cards]
                  exact (by decide : 2 ≤ 9000)
              · rcases List.mem_cons.mp k with k | k
                · subst k
                  rw [ex2]
                  unfold halfH
                  split
                  · rw [endH_eq, settleH_cards]
                    exact (by decide : 2 ≤ 9000)
                  · rw [settleH_cards]
                    exact (by decide : 2 ≤ 9000)
                · exact f.cards s hm7 w (List.mem_of_mem_drop k)
          · exact f.cards y (List.mem_of_mem_drop h) w hw⟩
    refine ⟨_, rfl, t, B.d, _, rfl, hB15.obj, tabF_no_go_on, _, t, _, rfl, hB15, fun H16 hB16 => ?_⟩
    refine stands_core hB16 goOnT_turn (Gives.weak (same_new n4) (q.give ?_ (by decide))) rfl
    rw [split_0 (s := B.abs) e1 e et F.hand k e5, abs_goOnT (T := partT { B with left := z } _ s _ _ _) e, abs_part F6]
    have w1 := g1'.2
    rw [ec] at w1
    have h1 : x1.h = oneHalf x.h 0 (n : Int) := by
      rw [ex1, half_ready (by simp)]
      unfold oneHalf
      rw [ec]
      rfl
    have h2 : x2.h = oneHalf x.h 1 (m : Int) := by
      rw [ex2, half_ready (by rw [beq_iff_eq]; exact worth_one w1)]
      unfold oneHalf
      rw [ec]
      rfl
    rw [h1, h2]
    rfl
end
end Bj
namespace Bj
open Kg84 (Hand Seat State Ans)
theorem shuffle_1 {s : State} {d : Int} (h : ¬ (1 ≤ d ∧ d ≤ 8)) : Kg84.spec s (.shuffle d) = (s, Kg84.num (-1)) := by
  unfold Kg84.spec
  exact if_pos (within_not.mpr h)
theorem shuffle_2 {s : State} {d : Int} (h : 1 ≤ d ∧ d ≤ 8) (k : s.seats = []) : Kg84.spec s (.shuffle d) = (s, Kg84.num (-2)) := by
  unfold Kg84.spec
  dsimp only
  rw [if_neg (by rw [within_iff.mpr h]; decide), if_pos k]
theorem shuffle_3 {s : State} {d : Int} (h : 1 ≤ d ∧ d ≤ 8) (k : s.seats ≠ []) (p : s.phase ≠ 0 ∧ s.phase ≠ 4) : Kg84.spec s (.shuffle d) = (s, Kg84.num (-3)) := by
  unfold Kg84.spec
  dsimp only
  rw [if_neg (by rw [within_iff.mpr h]; decide), if_neg k, if_pos p]
theorem shuffle_0 {s : State} {d : Int} (h : 1 ≤ d ∧ d ≤ 8) (k : s.seats ≠ []) (p : ¬ (s.phase ≠ 0 ∧ s.phase ≠ 4)) : Kg84.spec s (.shuffle d) = ({ s with shoe := Kg84.fullShoe d.toNat }, Kg84.num (52 * d)) := by
  unfold Kg84.spec
  dsimp only
  rw [if_neg (by rw [within_iff.mpr h]; decide), if_neg k, if_neg p]
theorem seat_1 {s : State} {i : Int} (h : ¬ (0 ≤ i ∧ i ≤ (s.seats.length : Int) - 1)) : Kg84.spec s (.seat i) = (s, Kg84.num (-1)) := by
  unfold Kg84.spec
  exact if_pos (within_not.mpr h)
def seatTold (x : Seat) (won : Int) : List Int := (x.stake : Int) :: ([(x.insured : Int), won, (x.hands.length : Int)] ++ x.hands.flatMap fun h => Kg84.whole ([h.state, h.stake, Kg84.total h.cards, Kg84.truth (Kg84.soft h.cards), h.cards.length] ++ h.cards))
theorem seat_0 {s : State} {i : Nat} {x : Seat} {w : Int} (h : s.seats[i]? = some x) (hw : s.won[i]? = some w) : Kg84.spec s (.seat (i : Nat)) = (s, ⟨(x.stake : Int), (seatTold x w).tail⟩) := by
  unfold Kg84.spec
  have hi := (List.getElem?_eq_some_iff.mp h).1
  have e : s.seats.getD i ⟨0, 0, []⟩ = x := by
    rw [List.getD_eq_getElem?_getD, h]
    rfl
  have ew : s.won.getD i 0 = w := by
    rw [List.getD_eq_getElem?_getD, hw]
    rfl
  dsimp only
  rw [if_neg (by rw [within_iff.mpr (by omega)]; decide)]
  show (s, Ans.mk ((s.seats.getD i ⟨0, 0, []⟩).stake : Int) _) = _
  simp only [Int.toNat_natCast, e, ew]
  rfl
theorem begin_1 {s : State} {n d a b g m : Int} (h : ¬ ((1 ≤ n ∧ n ≤ 7) ∧ (1 ≤ d ∧ d ≤ 8) ∧ (0 ≤ a ∧ a ≤ 1) ∧ (0 ≤ b ∧ b ≤ 1) ∧ (0 ≤ g ∧ g ≤ 1) ∧ (1 ≤ m ∧ m ≤ 4))) : Kg84.spec s (.begin_ n d a b g m) = (s, Kg84.num (-1)) := by
  unfold Kg84.spec
  refine if_pos ?_
  rw [← Bool.not_eq_true]
  intro z
  simp only [Bool.and_eq_true, within_iff] at z
  exact h z
theorem begin_0 {s : State} {n d a b g m : Int} (h : (1 ≤ n ∧ n ≤ 7) ∧ (1 ≤ d ∧ d ≤ 8) ∧ (0 ≤ a ∧ a ≤ 1) ∧ (0 ≤ b ∧ b ≤ 1) ∧ (0 ≤ g ∧ g ≤ 1) ∧ (1 ≤ m ∧ m ≤ 4)) :
    Kg84.spec s (.begin_ n d a b g m) = (⟨⟨a == 1, b == 1, g == 1, m.toNat⟩, Kg84.fullShoe d.toNat, List.replicate n.toNat ⟨0, 0, []⟩, [], 0, List.replicate n.toNat 0⟩, Kg84.num (52 * d)) := by
  unfold Kg84.spec
  refine if_neg ?_
  intro z
  rw [← Bool.not_eq_true] at z
  apply z
  simp only [Bool.and_eq_true, within_iff]
  exact h
theorem stake_1 {s : State} {i n : Int} (h : ¬ ((0 ≤ i ∧ i ≤ (s.seats.length : Int) - 1) ∧ (0 ≤ n ∧ n ≤ 1000))) : Kg84.spec s (.stake i n) = (s, Kg84.num (-1)) := by
  unfold Kg84.spec
  refine if_pos ?_
  rw [Bool.and_eq_false_iff, within_not, within_not]
  by_cases h1 : 0 ≤ i ∧ i ≤ (s.seats.length : Int) - 1
  · exact .inr fun h2 => h ⟨h1, h2⟩
  · exact .inl h1
theorem stake_ok {s : State} {i n : Int} (h : (0 ≤ i ∧ i ≤ (s.seats.length : Int) - 1) ∧ (0 ≤ n ∧ n ≤ 1000)) : ¬ (Kg84.within i 0 ((s.seats.length : Int) - 1) && Kg84.within n 0 1000) = false := by
  rw [within_iff.mpr h.1, within_iff.mpr h.2]
  decide
theorem stake_3 {s : State} {i n : Int} (h : (0 ≤ i ∧ i ≤ (s.seats.length : Int) - 1) ∧ (0 ≤ n ∧ n ≤ 1000)) (p : s.phase ≠ 0 ∧ s.phase ≠ 4) : Kg84.spec s (.stake i n) = (s, Kg84.num (-3)) := by
  unfold Kg84.spec
  dsimp only
  rw [if_neg (stake_ok h), if_pos p]
theorem stake_0 {s : State} {i n : Nat} (h : i < s.seats.length) (hn : n ≤ 1000) (p : s.phase = 0) : Kg84.spec s (.stake (i : Nat) (n : Nat)) = ({ s with seats := s.seats.set i ⟨n, 0, []⟩ }, Kg84.num (n : Nat)) := by
  unfold Kg84.spec
  dsimp only
  rw [if_neg (stake_ok (by omega)), if_neg (by omega), if_neg (by omega)]
  rfl
theorem stake_4 {s : State} {i n : Nat} (h : i < s.seats.length) (hn : n ≤ 1000) (p : s.phase = 4) : Kg84.spec s (.stake (i : Nat) (n : Nat)) = ({ s with phase := 0, dealer := [], seats := (s.seats.map fun _ => (⟨0, 0, []⟩ : Seat)).set i ⟨n, 0, []⟩ }, Kg84.num (n : Nat)) := by
  unfold Kg84.spec
  dsimp only
  rw [if_neg (stake_ok (by omega)), if_neg (by omega), if_pos p]
  rfl
theorem insure_1 {s : State} {i y : Int} (h : ¬ ((-1 ≤ i ∧ i ≤ (s.seats.length : Int) - 1) ∧ (0 ≤ y ∧ y ≤ 1))) : Kg84.spec s (.insure i y) = (s, Kg84.num (-1)) := by
  unfold Kg84.spec
  refine if_pos ?_
  rw [Bool.and_eq_false_iff, within_not, within_not]
  by_cases h1 : -1 ≤ i ∧ i ≤ (s.seats.length : Int) - 1
  · exact .inr fun h2 => h ⟨h1, h2⟩
  · exact .inl h1
theorem insure_ok {s : State} {i y : Int} (h : (-1 ≤ i ∧ i ≤ (s.seats.length : Int) - 1) ∧ (0 ≤ y ∧ y ≤ 1)) : ¬ (Kg84.within i (-1) ((s.seats.length : Int) - 1) && Kg84.within y 0 1) = false := by
  rw [within_iff.mpr h.1, within_iff.mpr h.2]
  decide
theorem insure_3 {s : State} {i y : Int} (h : (-1 ≤ i ∧ i ≤ (s.seats.length : Int) - 1) ∧ (0 ≤ y ∧ y ≤ 1)) (p : s.phase ≠ 1) : Kg84.spec s (.insure i y) = (s, Kg84.num (-3)) := by
  unfold Kg84.spec
  dsimp only
  rw [if_neg (insure_ok h), if_pos p]
theorem insure_done {s : State} {y : Int} (hy : 0 ≤ y ∧ y ≤ 1) (p : s.phase = 1) : Kg84.spec s (.insure (-1) y) = fin s.peeked.settle 0 := by
  unfold Kg84.spec
  dsimp only
  rw [if_neg (insure_ok ⟨by omega, hy⟩), if_neg (by omega), if_pos rfl]
  rfl
theorem insure_4 {s : State} {i : Nat} {y : Int} {x : Seat} (hy : 0 ≤ y ∧ y ≤ 1) (p : s.phase = 1) (h : s.seats[i]? = some x) (k : x.stake = 0) : Kg84.spec s (.insure (i : Nat) y) = (s, Kg84.num (-4)) := by
  have hi := (List.getElem?_eq_some_iff.mp h).1
  have e : s.seats.getD i ⟨0, 0, []⟩ = x := by
    rw [List.getD_eq_getElem?_getD, h]
    rfl
  unfold Kg84.spec
  dsimp only
  rw [if_neg (insure_ok (by omega)), if_neg (by omega), if_neg (by omega)]
  simp only [Int.toNat_natCast, e]
  rw [if_pos k]
theorem insure_0 {s : State} {i : Nat} {y : Int} {x : Seat} (hy : 0 ≤ y ∧ y ≤ 1) (p : s.phase = 1) (h : s.seats[i]? = some x) (k : x.stake ≠ 0) : Kg84.spec s (.insure (i : Nat) y) = ({ s with seats := s.seats.set i { x with insured := if y = 1 then x.stake else 0 } }, Kg84.num y) := by
  have hi := (List.getElem?_eq_some_iff.mp h).1
  have e : s.seats.getD i ⟨0, 0, []⟩ = x := by
    rw [List.getD_eq_getElem?_getD, h]
    rfl
  unfold Kg84.spec
  dsimp only
  rw [if_neg (insure_ok (by omega)), if_neg (by omega), if_neg (by omega)]
  simp only [Int.toNat_natCast, e]
  rw [if_neg k]
def inDeckI (l : List Int) : Prop := l.all (fun z => Kg84.within z 1 13) = true
theorem dealer_1 {s : State} {l : List Int} (h : l.all (fun z => Kg84.within z 1 13) = false) : Kg84.spec s (.dealer l) = (s, Kg84.num (-1)) := by
  unfold Kg84.spec
  exact if_pos h
theorem dealer_3 {s : State} {l : List Int} (h : inDeckI l) (p : s.phase ≠ 3) : Kg84.spec s (.dealer l) = (s, Kg84.num (-3)) := by
  unfold Kg84.spec
  dsimp only
  rw [if_neg (by rw [show l.all (fun z => Kg84.within z 1 13) = true from h]; decide), if_pos p]
def fits (s : State) (l : List Nat) : Bool := ((List.range l.length).all fun k => ({ s with dealer := s.dealer ++ l.take k } : State).takes) && !({ s with dealer := s.dealer ++ l } : State).takes
theorem fits_iff {s : State} {l : List Nat} : fits s l = false ↔ (((List.range l.length).all fun k => ({ s with dealer := s.dealer ++ l.take k } : State).takes) = false ∨ ({ s with dealer := s.dealer ++ l } : State).takes = true) := by
  unfold fits
  rw [Bool.and_eq_false_iff, Bool.not_eq_false']
theorem nats_len (l : List Int) : (Kg84.nats l).length = l.length := by
  unfold Kg84.nats
  rw [List.length_map]
theorem dealer_4 {s : State} {l : List Int} (h : inDeckI l) (p : s.phase = 3) (k : fits s (Kg84.nats l) = false) : Kg84.spec s (.dealer l) = (s, Kg84.num (-4)) := by
  unfold Kg84.spec
  dsimp only
  rw [if_neg (by rw [show l.all (fun z => Kg84.within z 1 13) = true from h]; decide), if_neg (by omega)]
  refine if_pos ?_
  have := fits_iff.mp k
  rw [nats_len] at this
  exact this
theorem dealer_no {s : State} {l : List Int} (k : fits s (Kg84.nats l) = true) : ¬ (((List.range l.length).all fun k => ({ s with dealer := s.dealer ++ (Kg84.nats l).take k } : State).takes) = false ∨ ({ s with dealer := s.dealer ++ Kg84.nats l } : State).takes = true) := by
  rw [← nats_len, ← fits_iff, k]
  decide
theorem dealer_5 {s : State} {l : List Int} (h : inDeckI l) (p : s.phase = 3) (k : fits s (Kg84.nats l) = true) (d : Kg84.drawn s.shoe (Kg84.nats l) = none) : Kg84.spec s (.dealer l) = (s, Kg84.num (-5)) := by
  unfold Kg84.spec
  dsimp only
  rw [if_neg (by rw [show l.all (fun z => Kg84.within z 1 13) = true from h]; decide), if_neg (by omega)]
  refine (if_neg (dealer_no k)).trans ?_
  rw [d]
theorem dealer_0 {s : State} {l : List Int} {z : List Nat} (h : inDeckI l) (p : s.phase = 3) (k : fits s (Kg84.nats l) = true) (d : Kg84.drawn s.shoe (Kg84.nats l) = some z) :
    Kg84.spec s (.dealer l) = fin ({ s with dealer := s.dealer ++ Kg84.nats l, shoe := z } : State).paid (Kg84.total (s.dealer ++ Kg84.nats l)) := by
  unfold Kg84.spec
  dsimp only
  rw [if_neg (by rw [show l.all (fun z => Kg84.within z 1 13) = true from h]; decide), if_neg (by omega)]
  refine (if_neg (dealer_no k)).trans ?_
  rw [d]
  rfl
theorem deal_1 {s : State} {l : List Int} (h : l.all (fun z => Kg84.within z 1 13) = false) : Kg84.spec s (.deal l) = (s, Kg84.num (-1)) := by
  unfold Kg84.spec
  exact if_pos h
theorem deal_3 {s : State} {l : List Int} (h : inDeckI l) (p : s.phase ≠ 0) : Kg84.spec s (.deal l) = (s, Kg84.num (-3)) := by
  unfold Kg84.spec
  dsimp only
  rw [if_neg (by rw [show l.all (fun z => Kg84.within z 1 13) = true from h]; decide), if_pos p]
theorem deal_4 {s : State} {l : List Int} (h : inDeckI l) (p : s.phase = 0) (k : s.staked = [] ∨ l.length ≠ 2 * s.staked.length + 2) : Kg84.spec s (.deal l) = (s, Kg84.num (-4)) := by
  unfold Kg84.spec
  dsimp only
  rw [if_neg (by rw [show l.all (fun z => Kg84.within z 1 13) = true from h]; decide), if_neg (by omega)]
  exact if_pos k
theorem deal_5 {s : State} {l : List Int} (h : inDeckI l) (p : s.phase = 0) (k : ¬ (s.staked = [] ∨ l.length ≠ 2 * s.staked.length + 2)) (d : Kg84.drawn s.shoe (Kg84.nats l) = none) : Kg84.spec s (.deal l) = (s, Kg84.num (-5)) := by
  unfold Kg84.spec
  dsimp only
  rw [if_neg (by rw [show l.all (fun z => Kg84.within z 1 13) = true from h]; decide), if_neg (by omega)]
  refine (if_neg k).trans ?_
  rw [d]
def dealtS (s : State) (l : List Nat) (z : List Nat) : State :=
  { s with shoe := z, dealer := [l.getD s.staked.length 0, l.getD (2 * s.staked.length + 1) 0], phase := 1, seats := s.seats.zipIdx.map fun (x : Seat × Nat) => match s.staked.findIdx? fun j => j == x.2 with
    | some j => { x.1 with hands := [⟨[l.getD j 0, l.getD (s.staked.length + 1 + j) 0], x.1.stake, 0, false, false, false⟩] }
    | none => x.1 }
theorem deal_0 {s : State} {l : List Int} {z : List Nat} (h : inDeckI l) (p : s.phase = 0) (k : ¬ (s.staked = [] ∨ l.length ≠ 2 * s.staked.length + 2)) (d : Kg84.drawn s.shoe (Kg84.nats l) = some z) :
    Kg84.spec s (.deal l) = fin (if (Kg84.nats l).getD s.staked.length 0 = 1 then dealtS s (Kg84.nats l) z else (dealtS s (Kg84.nats l) z).peeked.settle) 0 := by
  unfold Kg84.spec
  dsimp only
  rw [if_neg (by rw [show l.all (fun z => Kg84.within z 1 13) = true from h]; decide), if_neg (by omega)]
  refine (if_neg k).trans ?_
  rw [d]
  rfl
end Bj
namespace Bj
open PySem PySem.Spec PyProof.Rows L2
theorem putF_le {f : Str} {v : V} {r : List (Str × V)} {n : Nat} (h : r.length ≤ n) : (putF f v r).length ≤ n + 1 := Nat.le_trans putF_len (Nat.succ_le_succ h)
theorem Own.swap {H0 H : Hp} {a b : Cell} {cs : List Cell} (O : Own H0 H (a :: b :: cs)) : Own H0 H (b :: a :: cs) := O.perm (List.Perm.swap _ _ _)
def init0 : Kg84.State := ⟨⟨false, false, false, 0⟩, Kg84.fullShoe 0, [], [], 0, []⟩
def sp_Table_init (C : Adr) : Sp := fun vs H Q _ => ∃ (H0 : Hp) (p dx : Addr), vs = [.ref p] ∧ Own H0 H [(p, .ins C.T dx [])] ∧ ∀ H' T', Tab C H0 H' p T' → T'.abs = init0 → Q .non H'
theorem full_sum (d : Nat) : (Kg84.fullShoe d).sum = 52 * d := by
  unfold Kg84.fullShoe
  rw [List.sum_replicate_nat]
  omega
theorem full_len (d : Nat) : (Kg84.fullShoe d).length = 13 := List.length_replicate
def sp_shuffle (C : Adr) : Sp := fun vs H Q E => ∃ (d : Int) (H0 : Hp) (t : Addr) (T : TabL), vs = [.ref t, .int d] ∧ Tab C H0 H t T ∧ Tells C H0 t T (Kg84.spec T.abs (.shuffle d)) H Q E
def sp_tell_seat (C : Adr) : Sp := fun vs H Q E => ∃ (i : Int) (H0 : Hp) (t : Addr) (T : TabL), vs = [.ref t, .int i] ∧ Tab C H0 H t T ∧ Tells C H0 t T (Kg84.spec T.abs (.seat i)) H Q E
theorem abs_phase (T : TabL) : T.abs.phase = T.phase := rfl
theorem phases2 {n a b : Nat} : (n ∈ [a, b]) ↔ ¬ (n ≠ a ∧ n ≠ b) := by
  simp only [List.mem_cons, List.not_mem_nil, or_false]
  omega
theorem seatNums_told (s : SeatL) : seatNums s = seatTold s.x s.won := by
  unfold seatNums seatTold SeatL.x toldH
  simp only [List.length_map, List.flatMap_map]
  rfl
theorem rd_chain {σ : L2.St} {H : Hp} {Q : VK} {lo hi n : Int} {i : Nat} (e : σ[i]? = some (some (.int n))) (q : Q (.bl (Kg84.within n lo hi)) H) :
    tChain (rI0 fun i j => V.bl (decide (i ≤ j))) (rI0 fun i j => V.bl (decide (i ≤ j))) (tC (.int lo)) (tVar i) (tC (.int hi)) σ H Q := by
  refine ⟨_, e, _, _, rfl, rfl, _, rfl, ?_⟩
  rw [within_and] at q
  refine ite2 (fun e => ?_) (fun e => ?_)
  · refine ⟨_, _, rfl, rfl, ?_⟩
    rw [e, Bool.true_and] at q
    exact q
  · rw [Bool.not_eq_true] at e
    rw [e, Bool.false_and] at q
    exact q
theorem shoe_new {C : Adr} {H0 H : Hp} {t x dx : Addr} {T : TabL} (B : Tab C H0 H t T) (nx : H x = none) (nd : H dx = none) (ne : dx ≠ x) (decks : Nat) :
    ∃ cs, Own H0 (upd (upd H dx (.own x)) x (.ins C.O dx [])) ((x, .ins C.O dx []) :: cs) ∧ ∀ H' lf, Own H0 H' ((x, shoeO C dx lf) :: (lf, .lst (cardsV (Kg84.fullShoe decks))) :: cs) →
      H' t = some (T.obj C) ∧ Tab C H0 (upd H' t (TabL.obj C { T with sh := x, dsh := dx, lf := lf, left := Kg84.fullShoe decks })) t { T with sh := x, dsh := dx, lf := lf, left := Kg84.fullShoe decks } := by
  have O1 := B.own.sameR (same_new (o := .own x) nd)
  have nx1 : upd H dx (.own x) x = none := by
    rw [upd_ne (Ne.symm ne)]
    exact nx
  have O2 := O1.new (o := .ins C.O dx []) nx1
  refine ⟨_, O2, fun H' lf O3 => ?_⟩
  have O4 : Own H0 H' ((t, T.obj C) :: ([(T.ls, .lst (refsS T.seats)), (T.dl, .lst (cardsV T.dealer))] ++ ([(x, shoeO C dx lf), (lf, .lst (cardsV (Kg84.fullShoe decks)))] ++ T.under C)) ++ [(T.sh, shoeO C T.dsh T.lf), (T.lf, .lst (cardsV T.left))]) := by
    refine O3.perm ?_
    show ([(x, shoeO C dx lf), (lf, HO.lst (cardsV (Kg84.fullShoe decks)))] ++ ([(t, T.obj C)] ++ ([(T.ls, HO.lst (refsS T.seats)), (T.dl, HO.lst (cardsV T.dealer))] ++ ([(T.sh, shoeO C T.dsh T.lf), (T.lf, HO.lst (cardsV T.left))] ++ T.under C)))).Perm
      (([(t, T.obj C)] ++ ([(T.ls, HO.lst (refsS T.seats)), (T.dl, HO.lst (cardsV T.dealer))] ++ ([(x, shoeO C dx lf), (lf, HO.lst (cardsV (Kg84.fullShoe decks)))] ++ T.under C))) ++ [(T.sh, shoeO C T.dsh T.lf), (T.lf, HO.lst (cardsV T.left))])
    classical
    rw [List.perm_iff_count]
    intro z
    simp only [List.count_append]
    omega
  have O5 := O4.sub (List.sublist_append_left _ _)
  exact ⟨O5.get0, O5.put0 _, ⟨B.fit.seats, B.fit.hands, B.fit.cards, B.fit.dealer, full_len decks⟩⟩
section
variable {P : Program} {w : World} {K : PySem.W.Frag} {mg : Str → Option Value} {base : Heap} {C : Adr}
theorem ok_Table_init (T : Txt K mg C) : MakeOk P w K mg base 3 C.T "Table" P_Table_init (sp_Table_init C) := by
  refine T.k_Table_init.ok sc_Table_init (fun _ _ F => b_Table_init F) ?_ ?_
  · rintro vs H Q E ⟨H0, p, dx, rfl, _⟩
    rfl
  · intro f cdv A outer sh H vs Q E hr h
    obtain ⟨H0, p, dx, rfl, O, q⟩ := h
    refine ⟨_, (pss_cons (ps_fld (pv 0) (pe_lst pa_nil) rfl)
      (pss_cons (ps_fld (pv 0) (pe_cK (ok_Shoe_init T) hr (by decide) (pa_cons pe_int pa_nil)) rfl)
      (pss_cons (ps_fld (pv 0) (pe_lst pa_nil) rfl)
      (pss_cons (ps_fld (pv 0) (pe_gI T.g_STAKES) rfl)
      (pss_cons (ps_fld (pv 0) pe_bl rfl)
      (pss_cons (ps_fld (pv 0) pe_bl rfl)
      (pss_cons (ps_fld (pv 0) pe_bl rfl)
      (pss_one (ps_fld (pv 0) pe_int rfl))))))))), ?_⟩
    refine ⟨Nat.zero_le _, fun ls hls => ?_⟩
    have O1 := (O.new (o := .lst []) hls).swap
    refine ⟨_, rfl, p, C.T, dx, _, rfl, O1.get0, T.clT, T.nT_seats, (by show 0 < 1000; decide), ?_⟩
    have O2 := O1.put0 (.ins C.T dx (putF "seats" (.ref ls) []))
    intro x dx2 nx nd ne
    have O3 := O2.sameR (same_new (o := .own x) nd)
    have nx3 : upd (upd (upd H ls (.lst [])) p (.ins C.T dx (putF "seats" (.ref ls) []))) dx2 (.own x) x = none := by
      rw [upd_ne (Ne.symm ne)]
      exact nx
    have O4 := O3.new (o := .ins C.O dx2 []) nx3
    refine ⟨H0, _, x, dx2, 0, rfl, O4, fun H5 lf O5 => ⟨rfl, ?_⟩⟩
    have O6 : Own H0 H5 ((p, .ins C.T dx (putF "seats" (.ref ls) [])) :: (ls, .lst []) :: (x, shoeO C dx2 lf) :: (lf, .lst (cardsV (Kg84.fullShoe 0))) :: []) := by
      refine O5.perm ?_
      show ([(x, shoeO C dx2 lf), (lf, HO.lst (cardsV (Kg84.fullShoe 0)))] ++ [(p, HO.ins C.T dx (putF "seats" (.ref ls) [])), (ls, .lst [])]).Perm ([(p, HO.ins C.T dx (putF "seats" (.ref ls) [])), (ls, .lst [])] ++ [(x, shoeO C dx2 lf), (lf, HO.lst (cardsV (Kg84.fullShoe 0)))])
      exact List.perm_append_comm
    refine ⟨_, rfl, p, C.T, dx, _, rfl, O6.get0, T.clT, T.nT_shoe, Nat.lt_of_le_of_lt (putF_le (Nat.le_refl 0)) (by decide), ?_⟩
    have O7 := O6.put0 (.ins C.T dx (putF "shoe" (.ref x) (putF "seats" (.ref ls) [])))
    refine ⟨Nat.zero_le _, fun dl hdl => ?_⟩
    have O8 := (O7.new (o := .lst []) hdl).swap
    refine ⟨_, rfl, p, C.T, dx, _, rfl, O8.get0, T.clT, T.nT_dealer, Nat.lt_of_le_of_lt (putF_le (putF_le (Nat.le_refl 0))) (by decide), ?_⟩
    have O9 := O8.put0 (.ins C.T dx (putF "dealer" (.ref dl) (putF "shoe" (.ref x) (putF "seats" (.ref ls) []))))
    refine ⟨_, rfl, p, C.T, dx, _, rfl, O9.get0, T.clT, T.nT_phase, Nat.lt_of_le_of_lt (putF_le (putF_le (putF_le (Nat.le_refl 0)))) (by decide), ?_⟩
    refine ⟨_, rfl, p, C.T, dx, _, rfl, upd_same, T.clT, T.nT_draws_soft, Nat.lt_of_le_of_lt (putF_le (putF_le (putF_le (putF_le (Nat.le_refl 0))))) (by decide), ?_⟩
    refine ⟨_, rfl, p, C.T, dx, _, rfl, upd_same, T.clT, T.nT_doubles_split, Nat.lt_of_le_of_lt (putF_le (putF_le (putF_le (putF_le (putF_le (Nat.le_refl 0)))))) (by decide), ?_⟩
    refine ⟨_, rfl, p, C.T, dx, _, rfl, upd_same, T.clT, T.nT_gives, Nat.lt_of_le_of_lt (putF_le (putF_le (putF_le (putF_le (putF_le (putF_le (Nat.le_refl 0))))))) (by decide), ?_⟩
    refine ⟨_, rfl, p, C.T, dx, _, rfl, upd_same, T.clT, T.nT_most_hands, Nat.lt_of_le_of_lt (putF_le (putF_le (putF_le (putF_le (putF_le (putF_le (putF_le (Nat.le_refl 0)))))))) (by decide), ?_⟩
    rw [upd_upd, upd_upd, upd_upd, upd_upd, tabF_new]
    have O10 := O9.put0 (TabL.obj C ⟨dx, ls, x, dx2, lf, dl, [], Kg84.fullShoe 0, [], 0, ⟨false, false, false, 0⟩⟩)
    refine q _ ⟨dx, ls, x, dx2, lf, dl, [], Kg84.fullShoe 0, [], 0, ⟨false, false, false, 0⟩⟩ ⟨?_, ⟨Nat.zero_le 7, fun s hs => (nomatch hs), fun s hs => (nomatch hs), Nat.zero_le 9000, full_len 0⟩⟩ rfl
    refine O10.perm (.cons _ ?_)
    show ([(dl, HO.lst [])] ++ ([(ls, HO.lst [])] ++ [(x, shoeO C dx2 lf), (lf, .lst (cardsV (Kg84.fullShoe 0)))])).Perm ([(ls, HO.lst [])] ++ ([(dl, HO.lst [])] ++ [(x, shoeO C dx2 lf), (lf, .lst (cardsV (Kg84.fullShoe 0)))]))
    exact List.Perm.swap _ _ _
theorem ok_Table_shuffle (T : Txt K mg C) : MethOk P w K mg base (L2.CX P w) 4 C.T "shuffle" P_Table_shuffle (sp_shuffle C) := by
  refine T.m_Table_shuffle.okX sc_Table_shuffle (fun _ _ F => b_Table_shuffle F) ?_ ?_
  · rintro vs H Q E ⟨d, H0, t, B, rfl, _⟩
    rfl
  · intro f cdv A outer sh H vs Q E hr h
    obtain ⟨d, H0, t, B, rfl, hB, q⟩ := h
    refine ⟨_, (pss_cons (ps_expr (pe_cD (ok_must T) hr (by decide) (passes_call (takes_of rfl rfl rfl rfl) (fun _ _ _ _ h => h)) (pa_cons (pe_chain op_le op_le pe_int (pv 1) (pe_gI T.g_MOST_DECKS)) (pa_cons (pe_un un_neg pe_int) pa_nil))))
      (pss_cons (ps_expr (pe_cD (ok_must T) hr (by decide) (passes_call (takes_of rfl rfl rfl rfl) (fun _ _ _ _ h => h)) (pa_cons (pe_cmpR (op_neNil hr.units) (pe_fld (pv 0) rfl) (pe_lst pa_nil) (nomark _)) (pa_cons (pe_un un_neg pe_int) pa_nil))))
      (pss_cons (ps_expr (pe_cM (ok_Table_must_phase T) hr (by decide) T.clT (passes_call (takes_of rfl rfl rfl rfl) (fun _ _ _ _ h => h)) (pv 0) (pa_cons (pe_tup (pa_cons (pe_gI T.g_STAKES) (pa_cons (pe_gI T.g_PAID) pa_nil))) pa_nil)))
      (pss_cons (ps_fld (pv 0) (pe_cK (ok_Shoe_init T) hr (by decide) (pa_cons (pv 1) pa_nil)) rfl)
      (pss_one (ps_ret (pe_lst (pa_cons (pe_cM0 (ok_Shoe_many T) hr (by decide) T.clO pass0 (pe_fld (pv 0) rfl)) pa_nil)))))))), ?_⟩
    refine rd_chain (n := d) rfl ?_
    refine ⟨_, rfl, _, _, rfl, fun e => ?_, fun e => (q.refuse (shuffle_1 (within_not.mp e)) (by decide)).at (Same.refl _)⟩
    have hd := within_iff.mp e
    obtain ⟨n, rfl⟩ : ∃ n : Nat, d = n := ⟨d.toNat, by omega⟩
    refine ⟨_, rfl, t, C.T, _, _, _, rfl, hB.obj, T.clT, T.nT_seats, tabF_seats, Nat.zero_le _, fun p1 hp1 => ?_⟩
    have s1 : Same H (upd H p1 (.lst [])) := same_new hp1
    have hB1 := hB.sameR s1
    have eseats : B.abs.seats = [] ↔ B.seats = [] := by
      show B.seats.map SeatL.x = [] ↔ _
      rw [List.map_eq_nil_iff]
    refine ⟨B.ls, p1, _, rfl, rfl, SqL.of hB1.ls, SqL.of upd_same, _, rfl, _, _, rfl, fun e2 => ?_, fun e2 => (q.refuse (shuffle_2 hd (eseats.mpr ?_)) (by decide)).at s1⟩
    rotate_left
    · cases h : B.seats with
      | nil => rfl
      | cons a r =>
        rw [h] at e2
        cases e2
    have k2 : B.abs.seats ≠ [] := fun z => by
      rw [eseats.mp z] at e2
      cases e2
    refine ⟨_, rfl, t, B.d, _, rfl, hB1.obj, tabF_no_must_phase, (by show 2 ≤ sizeLine; decide), fun p2 hp2 => ?_⟩
    have s2 := Same.upd (o := .tup [.int 0, .int 4]) s1 (s1.free hp2)
    have hB2 := hB.sameR s2
    refine ⟨H0, t, p2, B, [0, 4], rfl, hB2, SqT.of upd_same, fun e3 => ?_, fun e3 => (q.refuse (shuffle_3 hd k2 ?_) (by decide)).sub s2⟩
    rotate_left
    · rw [phases2] at e3
      exact Classical.not_not.mp e3
    refine ⟨_, rfl, ?_⟩
    intro x dx nx nd ne
    obtain ⟨cs, O3, back⟩ := shoe_new hB2 nx nd ne n
    refine ⟨H0, cs, x, dx, n, rfl, O3, fun H4 lf O4 => ⟨rfl, ?_⟩⟩
    obtain ⟨ot, hB4⟩ := back H4 lf O4
    refine ⟨_, rfl, t, C.T, _, _, rfl, ot, T.clT, T.nT_shoe, tabF_len, ?_⟩
    rw [tabF_put_shoe]
    refine ⟨_, rfl, t, C.T, _, _, _, rfl, hB4.obj, T.clT, T.nT_shoe, tabF_shoe, x, dx, _, rfl, hB4.sh, shoeF_no_many, x, dx, lf, _, rfl, hB4.sh, hB4.lf, (by show 1 ≤ sizeLine; decide), fun p5 hp5 => ?_⟩
    have hB5 := hB4.frame (o := .lst [.int ((Kg84.fullShoe n).sum : Nat)]) hp5
    have n5 : H0 p5 = none := hB4.own.free hp5
    have e0 := shuffle_0 (s := B.abs) (d := (n : Int)) hd k2 (phases2.mp e3)
    refine q.give (T' := { B with sh := x, dsh := dx, lf := lf, left := Kg84.fullShoe n }) (v := 52 * (n : Int)) (out := []) e0 (by omega) _ p5 n5 ?_
    rw [full_sum] at hB5
    rw [full_sum]
    have e6 : ((52 * n : Nat) : Int) = 52 * (n : Int) := by omega
    rw [e6] at hB5 ⊢
    exact hB5
theorem ok_Table_tell_seat (T : Txt K mg C) : MethOk P w K mg base (L2.CX P w) 7 C.T "tell_seat" P_Table_tell_seat (sp_tell_seat C) := by
  refine T.m_Table_tell_seat.okX sc_Table_tell_seat (fun _ _ F => b_Table_tell_seat F) ?_ ?_
  · rintro vs H Q E ⟨i, H0, t, B, rfl, _⟩
    rfl
  · intro f cdv A outer sh H vs Q E hr h
    obtain ⟨i, H0, t, B, rfl, hB, q⟩ := h
    refine ⟨_, (pss_cons (ps_expr (pe_cD (ok_must T) hr (by decide) (passes_call (takes_of rfl rfl rfl rfl) (fun _ _ _ _ h => h)) (pa_cons (pe_cM (ok_Table_is_seat T) hr (by decide) T.clT pass0 (pv 0) (pa_cons (pv 1) pa_nil)) (pa_cons (pe_un un_neg pe_int) pa_nil))))
      (pss_one (ps_ret (pe_cM0 (ok_Seat_numbers T) hr (by decide) T.clS pass0 (pe_ix ix_list (pe_fld (pv 0) rfl) (pv 1) (fun _ _ => rfl)))))), ?_⟩
    have sl : B.abs.seats.length = B.seats.length := List.length_map _
    refine ⟨_, rfl, t, B.d, _, rfl, hB.obj, tabF_no_is_seat, _, rfl, H0, t, B, i, rfl, hB, _, rfl, _, _, rfl, fun e => ?_, fun e => (q.refuse (seat_1 (by rw [sl]; exact within_not.mp e)) (by decide)).at (Same.refl _)⟩
    have hi := within_iff.mp e
    obtain ⟨n, rfl⟩ : ∃ n : Nat, i = n := ⟨i.toNat, by omega⟩
    have hn : n < B.seats.length := by omega
    have es : B.seats[n]? = some (B.seats[n]'hn) := List.getElem?_eq_getElem hn
    have hs := List.mem_of_getElem? es
    generalize B.seats[n]'hn = s at es hs
    have es' : (refsS B.seats)[n]? = some (.ref s.a) := by unfold refsS; rw [List.getElem?_map, es]; rfl
    refine ⟨_, rfl, t, C.T, _, _, _, rfl, hB.obj, T.clT, T.nT_seats, tabF_seats, _, rfl, B.ls, _, _, _, rfl, rfl, SqL.of hB.ls, atI_nat' es', ?_⟩
    refine ⟨s.a, s.d, _, rfl, hB.seat hs, seatF_no_numbers, H0, _, s, rfl, hB.own, (mem_seat hs).1, (mem_seat hs).2, fun x hx => ⟨(mem_hand hs hx).1, (mem_hand hs hx).2, hB.fit.cards s hs x hx⟩, hB.fit.hands s hs, fun H2 p O2 s2 => ?_⟩
    have n0 : H0 p = none := O2.fresh (p, _) List.mem_cons_self
    have e0 := seat_0 (s := B.abs) (i := n) (x := s.x) (w := s.won) (by show (B.seats.map SeatL.x)[n]? = _; rw [List.getElem?_map, es]; rfl) (by show (B.seats.map (·.won))[n]? = _; rw [List.getElem?_map, es]; rfl)
    refine (q.give (T' := B) e0 (by omega)) H2 p n0 ⟨?_, hB.fit⟩
    have O3 := O2.frame
    rw [seatNums_told] at O3
    exact O3
end
end Bj
namespace Bj
open PySem PySem.Spec PyProof.Rows L2
def sp_begin (C : Adr) (K : PySem.W.Frag) : Sp := fun vs H Q E => ∃ (n d a b g m : Int) (na : Addr) (H0 : Hp) (t : Addr) (T : TabL), vs = [.ref t, .ref na] ∧ Tab C H0 H t T ∧ SqL K H na (([n, d, a, b, g, m] : List Int).map V.int) ∧
  Tells C H0 t T (Kg84.spec T.abs (.begin_ n d a b g m)) H Q E
theorem flag_eq {a : Int} (h : 0 ≤ a ∧ a ≤ 1) : decide (a = 1) = (a == 1) := by
  rw [Bool.eq_iff_iff]
  simp only [decide_eq_true_eq, beq_iff_eq]
section
variable {P : Program} {w : World} {K : PySem.W.Frag} {mg : Str → Option Value} {base : Heap} {C : Adr}
theorem ok_Table_begin (T : Txt K mg C) : MethOk P w K mg base (L2.CX P w) 4 C.T "begin" P_Table_begin (sp_begin C K) := by
  refine T.m_Table_begin.okX sc_Table_begin (fun _ _ F => b_Table_begin F) ?_ ?_
  · rintro vs H Q E ⟨n, d, a, b, g, m, na, H0, t, B, rfl, _⟩
    rfl
  · intro f cdv A outer sh H vs Q E hr h
    obtain ⟨n, d, a, b, g, m, na, H0, t, B, rfl, hB, hS, q⟩ := h
    refine ⟨_, (pss_cons (ps_asg (pv 1) (pg_lst (by rfl) (pgs_cons (pg_name (i := 2) sc_Table_begin.nd rfl (Or.inl rfl)) (pgs_cons (pg_name (i := 3) sc_Table_begin.nd rfl (Or.inl rfl)) (pgs_cons (pg_name (i := 4) sc_Table_begin.nd rfl (Or.inl rfl)) (pgs_cons (pg_name (i := 5) sc_Table_begin.nd rfl (Or.inl rfl)) (pgs_cons (pg_name (i := 6) sc_Table_begin.nd rfl (Or.inl rfl)) (pgs_cons (pg_name (i := 7) sc_Table_begin.nd rfl (Or.inl rfl)) pgs_nil))))))))
      (pss_cons (ps_expr (pe_cD (ok_must T) hr (by decide) (passes_call (takes_of rfl rfl rfl rfl) (fun _ _ _ _ h => h)) (pa_cons (pe_and (pe_chain op_le op_le pe_int (pv 2) (pe_gI T.g_MOST_SEATS)) (pe_and (pe_chain op_le op_le pe_int (pv 3) (pe_gI T.g_MOST_DECKS)) (pe_one (pe_chain op_le op_le pe_int (pv 7) (pe_gI T.g_MOST_HANDS))))) (pa_cons (pe_un un_neg pe_int) pa_nil))))
      (pss_cons (ps_expr (pe_cD (ok_must T) hr (by decide) (passes_call (takes_of rfl rfl rfl rfl) (fun _ _ _ _ h => h)) (pa_cons (pe_and (pe_cD (ok_is_flag T) hr (by decide) pass0 (pa_cons (pv 4) pa_nil)) (pe_and (pe_cD (ok_is_flag T) hr (by decide) pass0 (pa_cons (pv 5) pa_nil)) (pe_one (pe_cD (ok_is_flag T) hr (by decide) pass0 (pa_cons (pv 6) pa_nil))))) (pa_cons (pe_un un_neg pe_int) pa_nil))))
      (pss_cons (ps_fld (pv 0) (pe_lc (own := [("k", 8)]) (g := gName 8) (tt := tYes) rfl sc_Table_begin.nd (pi_range1 rfl T.z_range (pa_cons (pv 2) pa_nil)) (blkOk_by (own := [("k", 8)]) (N := N_Table_begin) (sc := defScope s_Table_begin) (by decide +kernel)) (fun _ _ _ _ _ => pg_name (i := 8) sc_Table_begin.nd rfl (Or.inl rfl)) (fun _ _ _ _ _ => pts_nil) (fun _ _ _ _ _ => (pe_cK0 (ok_Seat_init T) hr (by decide)))) rfl)
      (pss_cons (ps_fld (pv 0) (pe_cK (ok_Shoe_init T) hr (by decide) (pa_cons (pv 3) pa_nil)) rfl)
      (pss_cons (ps_fld (pv 0) (pe_lst pa_nil) rfl)
      (pss_cons (ps_fld (pv 0) (pe_gI T.g_STAKES) rfl)
      (pss_cons (ps_fld (pv 0) (pe_cmp (pc_eqI (pv 4) pe_int)) rfl)
      (pss_cons (ps_fld (pv 0) (pe_cmp (pc_eqI (pv 5) pe_int)) rfl)
      (pss_cons (ps_fld (pv 0) (pe_cmp (pc_eqI (pv 6) pe_int)) rfl)
      (pss_cons (ps_fld (pv 0) (pv 7) rfl)
      (pss_one (ps_ret (pe_lst (pa_cons (pe_cM0 (ok_Shoe_many T) hr (by decide) T.clO pass0 (pe_fld (pv 0) rfl)) pa_nil))))))))))))))), ?_⟩
    refine ⟨_, rfl, na, _, rfl, hS, rfl, _, _, rfl, _, _, rfl, _, _, rfl, _, _, rfl, _, _, rfl, _, _, rfl, rfl, ?_⟩
    have no : ¬ ((1 ≤ n ∧ n ≤ 7) ∧ (1 ≤ d ∧ d ≤ 8) ∧ (0 ≤ a ∧ a ≤ 1) ∧ (0 ≤ b ∧ b ≤ 1) ∧ (0 ≤ g ∧ g ≤ 1) ∧ (1 ≤ m ∧ m ≤ 4)) → ∀ d', H d' = none → E (.ref C.R) (some d') (upd H d' (numX (-1))) := fun k => (q.refuse (begin_1 k) (by decide)).at (Same.refl _)
    refine rd_chain (n := n) rfl ⟨_, rfl, ?_⟩
    refine ifB (b := Kg84.within n 1 7) rfl (fun e1 => ?_) (fun e1 => ?_)
    rotate_left
    · exact ⟨_, rfl, _, _, rfl, (fun z => Bool.noConfusion z), fun _ => no (fun z => within_not.mp e1 z.1)⟩
    refine rd_chain (n := d) rfl ⟨_, rfl, ?_⟩
    refine ifB (b := Kg84.within d 1 8) rfl (fun e2 => ?_) (fun e2 => ?_)
    rotate_left
    · exact ⟨_, rfl, _, _, rfl, (fun z => Bool.noConfusion z), fun _ => no (fun z => within_not.mp e2 z.2.1)⟩
    refine rd_chain (n := m) rfl ?_
    refine ⟨_, rfl, _, _, rfl, fun e3 => ?_, fun e3 => no (fun z => within_not.mp e3 z.2.2.2.2.2)⟩
    refine ⟨_, rfl, a, rfl, _, rfl, ?_⟩
    refine ifB (b := Kg84.within a 0 1) rfl (fun e4 => ?_) (fun e4 => ?_)
    rotate_left
    · exact ⟨_, rfl, _, _, rfl, (fun z => Bool.noConfusion z), fun _ => no (fun z => within_not.mp e4 z.2.2.1)⟩
    refine ⟨_, rfl, b, rfl, _, rfl, ?_⟩
    refine ifB (b := Kg84.within b 0 1) rfl (fun e5 => ?_) (fun e5 => ?_)
    rotate_left
    · exact ⟨_, rfl, _, _, rfl, (fun z => Bool.noConfusion z), fun _ => no (fun z => within_not.mp e5 z.2.2.2.1)⟩
    refine ⟨_, rfl, g, rfl, _, rfl, _, _, rfl, fun e6 => ?_, fun e6 => no (fun z => within_not.mp e6 z.2.2.2.2.1)⟩
    have yes := begin_0 (s := B.abs) ⟨within_iff.mp e1, within_iff.mp e2, within_iff.mp e4, within_iff.mp e5, within_iff.mp e6, within_iff.mp e3⟩
    have hn := within_iff.mp e1
    have hd := within_iff.mp e2
    have hm := within_iff.mp e3
    obtain ⟨n, rfl⟩ : ∃ k : Nat, n = k := ⟨n.toNat, by omega⟩
    obtain ⟨d, rfl⟩ : ∃ k : Nat, d = k := ⟨d.toNat, by omega⟩
    obtain ⟨m, rfl⟩ : ∃ k : Nat, m = k := ⟨m.toNat, by omega⟩
    have O0 : Own H0 H [(t, B.obj C)] := hB.own.sub (List.Sublist.cons₂ _ (List.nil_sublist _))
    refine ⟨_, rfl, (n : Int), rfl, by omega, by omega, fun D hD => ?_⟩
    refine lc_range (lo := 0) (n := (n : Int).toNat) (fun i H' => ∃ ss : List SeatL, ss.length = i ∧ (∀ s ∈ ss, s.stake = 0 ∧ s.insured = 0 ∧ s.won = 0 ∧ s.hs = []) ∧ Own H0 H' ((D, .lst (refsS ss)) :: (t, B.obj C) :: ss.flatMap (SeatL.own C)))
      ⟨[], rfl, fun s hs => (nomatch hs), O0.new hD⟩ ?_ ?_
    · rintro i H2 hi ⟨ss, hl, hz, O2⟩
      refine ⟨rfl, ?_⟩
      intro x dx nx nd ne
      have O3 := O2.sameR (same_new (o := .own x) nd)
      have nx3 : upd H2 dx (.own x) x = none := by
        rw [upd_ne (Ne.symm ne)]
        exact nx
      have O4 := O3.new (o := .ins C.S dx []) nx3
      refine ⟨H0, _, x, dx, rfl, O4, fun H5 l O5 => ⟨rfl, _, O5.drop.drop.get0, ?_, ss ++ [⟨x, l, dx, 0, 0, 0, []⟩], ?_, ?_, ?_⟩⟩
      · rw [refsS_len, hl]
        have : (n : Int).toNat = n := rfl
        exact small10000 (by omega)
      · rw [List.length_append, hl]
        rfl
      · intro s hs
        rcases List.mem_append.mp hs with z | z
        · exact hz s z
        · rw [List.mem_singleton] at z
          subst z
          exact ⟨rfl, rfl, rfl, rfl⟩
      · have O6 := Own.put (A := [(x, .ins C.S dx (seatF 0 0 0 l)), (l, .lst [])]) O5 (.lst (refsS ss ++ [.ref x]))
        have e7 : refsS (ss ++ [⟨x, l, dx, 0, 0, 0, []⟩]) = refsS ss ++ [.ref x] := by
          unfold refsS
          rw [List.map_append]
          rfl
        rw [e7, List.flatMap_append, List.flatMap_singleton]
        refine O6.perm ?_
        show ([(x, HO.ins C.S dx (seatF 0 0 0 l)), (l, .lst [])] ++ ([(D, HO.lst (refsS ss ++ [.ref x])), (t, B.obj C)] ++ ss.flatMap (SeatL.own C))).Perm ([(D, HO.lst (refsS ss ++ [.ref x])), (t, B.obj C)] ++ (ss.flatMap (SeatL.own C) ++ [(x, HO.ins C.S dx (seatF 0 0 0 l)), (l, .lst [])]))
        refine List.perm_append_comm.trans ?_
        rw [List.append_assoc]
    · rintro H2 ⟨ss, hl, hz, O2⟩
      have O3 := O2.swap
      refine ⟨_, rfl, t, C.T, _, _, rfl, O3.get0, T.clT, T.nT_seats, tabF_len, ?_⟩
      rw [tabF_put_seats]
      have O4 := O3.put0 (TabL.obj C { B with ls := D })
      refine ⟨_, rfl, ?_⟩
      intro x dx nx nd ne
      have O5 := O4.sameR (same_new (o := .own x) nd)
      have nx5 : upd (upd H2 t (TabL.obj C { B with ls := D })) dx (.own x) x = none := by
        rw [upd_ne (Ne.symm ne)]
        exact nx
      have O6 := O5.new (o := .ins C.O dx []) nx5
      refine ⟨H0, _, x, dx, d, rfl, O6, fun H7 lf O7 => ⟨rfl, ?_⟩⟩
      have O8 : Own H0 H7 ((t, TabL.obj C { B with ls := D }) :: (D, .lst (refsS ss)) :: ((x, shoeO C dx lf) :: (lf, .lst (cardsV (Kg84.fullShoe d))) :: ss.flatMap (SeatL.own C))) := by
        refine O7.perm ?_
        show ([(x, shoeO C dx lf), (lf, HO.lst (cardsV (Kg84.fullShoe d)))] ++ ([(t, TabL.obj C { B with ls := D }), (D, HO.lst (refsS ss))] ++ ss.flatMap (SeatL.own C))).Perm ([(t, TabL.obj C { B with ls := D }), (D, HO.lst (refsS ss))] ++ ([(x, shoeO C dx lf), (lf, HO.lst (cardsV (Kg84.fullShoe d)))] ++ ss.flatMap (SeatL.own C)))
        rw [← List.append_assoc, ← List.append_assoc]
        exact List.perm_append_comm.append_right _
      refine ⟨_, rfl, t, C.T, _, _, rfl, O8.get0, T.clT, T.nT_shoe, tabF_len, ?_⟩
      rw [tabF_put_shoe]
      have O9 := O8.put0 (TabL.obj C { B with ls := D, sh := x })
      refine ⟨Nat.zero_le _, fun dl hdl => ?_⟩
      have O10 := (O9.new (o := .lst []) hdl).swap
      refine ⟨_, rfl, t, C.T, _, _, rfl, O10.get0, T.clT, T.nT_dealer, tabF_len, ?_⟩
      rw [tabF_put_dealer]
      refine ⟨_, rfl, t, C.T, _, _, rfl, upd_same, T.clT, T.nT_phase, tabF_len, ?_⟩
      rw [tabF_put_phase, upd_upd]
      refine ⟨_, rfl, _, _, rfl, rfl, _, rfl, t, C.T, _, _, rfl, upd_same, T.clT, T.nT_draws_soft, tabF_len, ?_⟩
      rw [tabF_put_draws_soft, upd_upd]
      refine ⟨_, rfl, _, _, rfl, rfl, _, rfl, t, C.T, _, _, rfl, upd_same, T.clT, T.nT_doubles_split, tabF_len, ?_⟩
      rw [tabF_put_doubles_split, upd_upd]
      refine ⟨_, rfl, _, _, rfl, rfl, _, rfl, t, C.T, _, _, rfl, upd_same, T.clT, T.nT_gives, tabF_len, ?_⟩
      rw [tabF_put_gives, upd_upd]
      refine ⟨_, rfl, _, rfl, t, C.T, _, _, rfl, upd_same, T.clT, T.nT_most_hands, tabF_len, ?_⟩
      rw [tabF_put_most_hands, upd_upd]
      have hB11 : Tab C H0 (upd (upd (upd H7 t (TabL.obj C { B with ls := D, sh := x })) dl (.lst [])) t (TabL.obj C ⟨B.d, D, x, dx, lf, dl, ss, Kg84.fullShoe d, [], 0, ⟨decide (a = 1), decide (b = 1), decide (g = 1), m⟩⟩)) t ⟨B.d, D, x, dx, lf, dl, ss, Kg84.fullShoe d, [], 0, ⟨decide (a = 1), decide (b = 1), decide (g = 1), m⟩⟩ := by
        refine ⟨?_, ⟨?_, fun s hs => ?_, fun s hs y hy => ?_, Nat.zero_le _, full_len d⟩⟩
        · have O12 := O10.put0 (TabL.obj C ⟨B.d, D, x, dx, lf, dl, ss, Kg84.fullShoe d, [], 0, ⟨decide (a = 1), decide (b = 1), decide (g = 1), m⟩⟩)
          have e13 : ss.flatMap (·.hs) = [] := by
            rw [List.flatMap_eq_nil_iff]
            exact fun s hs => (hz s hs).2.2.2
          unfold TabL.cells TabL.under TabL.hands
          simp only [e13]
          refine O12.perm (.cons _ ?_)
          show ([(dl, HO.lst [])] ++ ([(D, HO.lst (refsS ss))] ++ ([(x, shoeO C dx lf), (lf, HO.lst (cardsV (Kg84.fullShoe d)))] ++ ss.flatMap (SeatL.own C)))).Perm (([(D, HO.lst (refsS ss))] ++ ([(dl, HO.lst [])] ++ [(x, shoeO C dx lf), (lf, HO.lst (cardsV (Kg84.fullShoe d)))])) ++ (ss.flatMap (SeatL.own C) ++ []))
          classical
          rw [List.perm_iff_count]
          intro z
          simp only [List.count_append, List.append_nil]
          omega
        · show ss.length ≤ 7
          rw [hl]
          have : (n : Int).toNat = n := rfl
          omega
        · rw [(hz s hs).2.2.2]
          exact Nat.zero_le _
        · rw [(hz s hs).2.2.2] at hy
          cases hy
      refine ⟨_, rfl, t, C.T, _, _, _, rfl, hB11.obj, T.clT, T.nT_shoe, tabF_shoe, x, dx, _, rfl, hB11.sh, shoeF_no_many, x, dx, lf, _, rfl, hB11.sh, hB11.lf, (by show 1 ≤ sizeLine; decide), fun p5 hp5 => ?_⟩
      have hB12 := hB11.frame (o := .lst [.int ((Kg84.fullShoe d).sum : Nat)]) hp5
      have n5 : H0 p5 = none := hB11.own.free hp5
      refine q.give (T' := ⟨B.d, D, x, dx, lf, dl, ss, Kg84.fullShoe d, [], 0, ⟨decide (a = 1), decide (b = 1), decide (g = 1), m⟩⟩) (v := 52 * (d : Int)) (out := []) ?_ (by omega) _ p5 n5 ?_
      · rw [yes, ← flag_eq (within_iff.mp e4), ← flag_eq (within_iff.mp e5), ← flag_eq (within_iff.mp e6)]
        have e14 : ss.map SeatL.x = List.replicate n ⟨0, 0, []⟩ := by
          rw [List.eq_replicate_iff]
          refine ⟨by rw [List.length_map]; exact hl, fun y hy => ?_⟩
          obtain ⟨s, hs, rfl⟩ := List.mem_map.mp hy
          obtain ⟨h1, h2, h3, h4⟩ := hz s hs
          unfold SeatL.x
          rw [h1, h2, h4]
          rfl
        have e15 : ss.map (·.won) = List.replicate n 0 := by
          rw [List.eq_replicate_iff]
          refine ⟨by rw [List.length_map]; exact hl, fun y hy => ?_⟩
          obtain ⟨s, hs, rfl⟩ := List.mem_map.mp hy
          exact (hz s hs).2.2.1
        unfold TabL.abs
        simp only [e14, e15]
        rfl
      · rw [full_sum] at hB12
        rw [full_sum]
        have e16 : ((52 * d : Nat) : Int) = 52 * (d : Int) := by omega
        rw [e16] at hB12 ⊢
        exact hB12
end
end Bj
namespace Bj
open PySem PySem.Spec PyProof.Rows L2
def sp_lay_stake (C : Adr) : Sp := fun vs H Q E => ∃ (i n : Int) (H0 : Hp) (t : Addr) (T : TabL), vs = [.ref t, .int i, .int n] ∧ Tab C H0 H t T ∧ (T.phase = 0 → ∀ s ∈ T.seats, s.insured = 0 ∧ s.hs = []) ∧
  Tells C H0 t T (Kg84.spec T.abs (.stake i n)) H Q E
def sp_insure (C : Adr) : Sp := fun vs H Q E => ∃ (i y : Int) (H0 : Hp) (t : Addr) (T : TabL), vs = [.ref t, .int i, .int y] ∧ Tab C H0 H t T ∧ (T.phase = 1 → ∀ s ∈ T.seats, ∀ x ∈ s.hs, x.h.state = 0 ∧ x.h.aces = false) ∧
  Tells C H0 t T (Kg84.spec T.abs (.insure i y)) H Q E
theorem perm_clear (a b c d e f g l : List Cell) : (b ++ (l ++ (a ++ (c ++ (d ++ (e ++ (f ++ g))))))).Perm ((a ++ (b ++ (l ++ (d ++ (e ++ g))))) ++ (c ++ f)) := by
  classical
  rw [List.perm_iff_count]
  intro z
  simp only [List.count_append]
  omega
theorem Tab.putSeat {C : Adr} {H0 H : Hp} {t : Addr} {T : TabL} {i : Nat} {s : SeatL} (B : Tab C H0 H t T) (es : T.seats[i]? = some s) (s' : SeatL) (ea : s'.a = s.a) (el : s'.l = s.l) (eh : s'.hs = s.hs) :
    Tab C H0 (upd H s.a (s'.obj C)) t { T with seats := T.seats.set i s' } := by
  obtain ⟨e1, l1⟩ := split_at es
  have ilt := (List.getElem?_eq_some_iff.mp es).1
  have e2 : T.seats.set i s' = T.seats.take i ++ s' :: T.seats.drop (i + 1) := by
    rw [List.set_eq_take_append_cons_drop, if_pos ilt]
  rw [e2]
  have O := B.own
  rw [cells_seat (C := C) (t := t) e1] at O
  refine ⟨?_, ⟨?_, fun y hy => ?_, fun y hy x hx => ?_, B.fit.dealer, B.fit.left⟩⟩
  · rw [cells_seat' (C := C) (t := t) e1 s' ea el eh]
    exact O.put _
  · have := B.fit.seats
    rw [e1] at this
    show (T.seats.take i ++ s' :: T.seats.drop (i + 1)).length ≤ 7
    rw [List.length_append, List.length_cons] at this ⊢
    exact this
  · rcases List.mem_append.mp (show y ∈ T.seats.take i ++ s' :: T.seats.drop (i + 1) from hy) with h | h
    · exact B.fit.hands y (List.mem_of_mem_take h)
    · rcases List.mem_cons.mp h with h | h
      · subst h
        rw [eh]
        exact B.fit.hands s (List.mem_of_getElem? es)
      · exact B.fit.hands y (List.mem_of_mem_drop h)
  · rcases List.mem_append.mp (show y ∈ T.seats.take i ++ s' :: T.seats.drop (i + 1) from hy) with h | h
    · exact B.fit.cards y (List.mem_of_mem_take h) x hx
    · rcases List.mem_cons.mp h with h | h
      · subst h
        rw [eh] at hx
        exact B.fit.cards s (List.mem_of_getElem? es) x hx
      · exact B.fit.cards y (List.mem_of_mem_drop h) x hx
theorem abs_putSeat {T : TabL} {i : Nat} {s s' : SeatL} (es : T.seats[i]? = some s) (ew : s'.won = s.won) : TabL.abs { T with seats := T.seats.set i s' } = { T.abs with seats := T.abs.seats.set i s'.x } := by
  unfold TabL.abs
  simp only [List.map_set]
  congr 1
  rw [ew]
  apply List.ext_getElem?
  intro k
  rw [List.getElem?_set]
  by_cases h : i = k
  · subst h
    rw [if_pos rfl, List.getElem?_map, es]
    have ilt := (List.getElem?_eq_some_iff.mp es).1
    rw [if_pos (by rw [List.length_map]; exact ilt)]
    rfl
  · rw [if_neg h]
section
variable {P : Program} {w : World} {K : PySem.W.Frag} {mg : Str → Option Value} {base : Heap} {C : Adr}
theorem ok_Table_lay_stake (T : Txt K mg C) : MethOk P w K mg base (L2.CX P w) 4 C.T "lay_stake" P_Table_lay_stake (sp_lay_stake C) := by
  refine T.m_Table_lay_stake.okX sc_Table_lay_stake (fun _ _ F => b_Table_lay_stake F) ?_ ?_
  · rintro vs H Q E ⟨i, n, H0, t, B, rfl, _⟩
    rfl
  · intro f cdv A outer sh H vs Q E hr h
    obtain ⟨i, n, H0, t, B, rfl, hB, hZ, q⟩ := h
    refine ⟨_, (pss_cons (ps_expr (pe_cD (ok_must T) hr (by decide) (passes_call (takes_of rfl rfl rfl rfl) (fun _ _ _ _ h => h)) (pa_cons (pe_and (pe_cM (ok_Table_is_seat T) hr (by decide) T.clT pass0 (pv 0) (pa_cons (pv 1) pa_nil)) (pe_one (pe_chain op_le op_le pe_int (pv 2) (pe_gI T.g_MOST_STAKE)))) (pa_cons (pe_un un_neg pe_int) pa_nil))))
      (pss_cons (ps_expr (pe_cM (ok_Table_must_phase T) hr (by decide) T.clT (passes_call (takes_of rfl rfl rfl rfl) (fun _ _ _ _ h => h)) (pv 0) (pa_cons (pe_tup (pa_cons (pe_gI T.g_STAKES) (pa_cons (pe_gI T.g_PAID) pa_nil))) pa_nil)))
      (pss_cons (ps_if (pt_cmp (pc_eqI (pe_fld (pv 0) rfl) (pe_gI T.g_PAID))) (pss_cons (ps_fld (pv 0) (pe_gI T.g_STAKES) rfl)
      (pss_cons (ps_fld (pv 0) (pe_lst pa_nil) rfl)
      (pss_one (ps_for (passes_of rfl) rfl (pi_list (pe_fld (pv 0) rfl)) (pg_name (i := 3) sc_Table_lay_stake.nd rfl (Or.inl rfl)) (pss_one (ps_expr (pe_cM0 (ok_Seat_clear_round T) hr (by decide) T.clS pass0 (pv 3)))))))) pss_nil)
      (pss_cons (ps_fld (pe_ix ix_list (pe_fld (pv 0) rfl) (pv 1) (fun _ _ => rfl)) (pv 2) rfl)
      (pss_one (ps_ret (pe_lst (pa_cons (pv 2) pa_nil)))))))), ?_⟩
    have sl : B.abs.seats.length = B.seats.length := List.length_map _
    have no : ¬ ((0 ≤ i ∧ i ≤ (B.seats.length : Int) - 1) ∧ (0 ≤ n ∧ n ≤ 1000)) → ∀ d, H d = none → E (.ref C.R) (some d) (upd H d (numX (-1))) := fun k => (q.refuse (stake_1 (by rw [sl]; exact k)) (by decide)).at (Same.refl _)
    refine ⟨_, rfl, t, B.d, _, rfl, hB.obj, tabF_no_is_seat, _, rfl, H0, t, B, i, rfl, hB, _, rfl, ?_⟩
    refine ifB (b := Kg84.within i 0 ((B.seats.length : Int) - 1)) rfl (fun e1 => ?_) (fun e1 => ?_)
    rotate_left
    · exact ⟨_, rfl, _, _, rfl, (fun z => Bool.noConfusion z), fun _ => no (fun z => within_not.mp e1 z.1)⟩
    refine rd_chain (n := n) rfl ?_
    refine ⟨_, rfl, _, _, rfl, fun e2 => ?_, fun e2 => no (fun z => within_not.mp e2 z.2)⟩
    have hi := within_iff.mp e1
    have hn := within_iff.mp e2
    obtain ⟨i, rfl⟩ : ∃ k : Nat, i = k := ⟨i.toNat, by omega⟩
    obtain ⟨n, rfl⟩ : ∃ k : Nat, n = k := ⟨n.toNat, by omega⟩
    have hin : i < B.seats.length := by omega
    refine ⟨_, rfl, t, B.d, _, rfl, hB.obj, tabF_no_must_phase, (by show 2 ≤ sizeLine; decide), fun p2 hp2 => ?_⟩
    have s2 : Same H (upd H p2 (.tup [.int 0, .int 4])) := same_new hp2
    have hB2 := hB.sameR s2
    refine ⟨H0, t, p2, B, [0, 4], rfl, hB2, SqT.of upd_same, fun e3 => ?_, fun e3 => (q.refuse (stake_3 (by rw [sl]; exact ⟨hi, hn⟩) ?_) (by decide)).sub s2⟩
    rotate_left
    · rw [phases2] at e3
      exact Classical.not_not.mp e3
    have tail : ∀ (H3 : Hp) (T3 : TabL) (s : SeatL) (v : Option V), Tab C H0 H3 t T3 → T3.seats[i]? = some s → s.insured = 0 → s.hs = [] → Kg84.spec B.abs (.stake (i : Nat) (n : Nat)) = ({ T3.abs with seats := T3.abs.seats.set i ⟨n, 0, []⟩ }, Kg84.num (n : Nat)) →
        tSeq (sFld K (tOp (rIxL K) (tFld K (tVar 0) "seats") (tVar 1)) (tVar 2) "stake") (tRet (tLst (tCons (tVar 2) tNil))) { nx := fun _ H' => Q .non H', rt := Q } [some (.ref t), some (.int (i : Nat)), some (.int (n : Nat)), v] H3 := by
      intro H3 T3 s v hB3 es hz1 hz2 espec
      have hs := List.mem_of_getElem? es
      have es' : (refsS T3.seats)[i]? = some (.ref s.a) := by unfold refsS; rw [List.getElem?_map, es]; rfl
      refine ⟨_, rfl, _, rfl, t, C.T, _, _, _, rfl, hB3.obj, T.clT, T.nT_seats, tabF_seats, _, rfl, T3.ls, _, _, _, rfl, rfl, SqL.of hB3.ls, atI_nat' es', ?_⟩
      refine ⟨s.a, C.S, _, _, rfl, hB3.seat hs, T.clS, T.nS_stake, seatF_len, ?_⟩
      rw [seatF_put_stake]
      have hB4 := hB3.putSeat es { s with stake := n } rfl rfl rfl
      refine ⟨_, rfl, (by show 1 ≤ sizeLine; decide), fun p5 hp5 => ?_⟩
      have hB5 := hB4.frame (o := .lst [.int (n : Nat)]) hp5
      have n5 : H0 p5 = none := hB4.own.free hp5
      refine q.give (T' := { T3 with seats := T3.seats.set i { s with stake := n } }) (v := (n : Int)) (out := []) ?_ (by omega) _ p5 n5 hB5
      rw [espec, abs_putSeat (s' := { s with stake := n }) es rfl]
      have ex : SeatL.x { s with stake := n } = ⟨n, 0, []⟩ := by
        unfold SeatL.x
        simp only [hz1, hz2]
        rfl
      rw [ex]
      rfl
    have es : B.seats[i]? = some (B.seats[i]'hin) := List.getElem?_eq_getElem hin
    refine ⟨_, rfl, t, C.T, _, _, _, rfl, hB2.obj, T.clT, T.nT_phase, tabF_phase, _, _, rfl, rfl, _, rfl, ?_⟩
    refine ifB (b := B.phase == 4) (nat_eq _ 4) (fun e4 => ?_) (fun e4 => ?_)
    · have p4 : B.phase = 4 := beq_iff_eq.mp e4
      refine ⟨_, rfl, t, C.T, _, _, rfl, hB2.obj, T.clT, T.nT_phase, tabF_len, ?_⟩
      rw [tabF_put_phase]
      have O3 := hB2.own.put0 (TabL.obj C { B with phase := 0 })
      refine ⟨Nat.zero_le _, fun dl hdl => ?_⟩
      have O4 := (O3.new (o := .lst []) hdl).swap
      refine ⟨_, rfl, t, C.T, _, _, rfl, O4.get0, T.clT, T.nT_dealer, tabF_len, ?_⟩
      rw [tabF_put_dealer]
      have O5 := O4.put0 (TabL.obj C { B with phase := 0, dl := dl, dealer := [] })
      have hB5 : Tab C H0 (upd (upd (upd (upd H p2 (.tup [.int 0, .int 4])) t (TabL.obj C { B with phase := 0 })) dl (.lst [])) t (TabL.obj C { B with phase := 0, dl := dl, dealer := [] })) t { B with phase := 0, dl := dl, dealer := [] } := by
        refine ⟨(O5.perm (cs' := ((t, TabL.obj C { B with phase := 0, dl := dl, dealer := [] }) :: (TabL.rest C { B with phase := 0, dl := dl, dealer := [] } ++ B.under C)) ++ [(B.dl, .lst (cardsV B.dealer))]) ?_).sub (List.sublist_append_left _ _), ⟨hB.fit.seats, hB.fit.hands, hB.fit.cards, Nat.zero_le _, hB.fit.left⟩⟩
        · skip
          show ([(t, TabL.obj C { B with phase := 0, dl := dl, dealer := [] })] ++ ([(dl, HO.lst [])] ++ (([(B.ls, HO.lst (refsS B.seats))] ++ ([(B.dl, HO.lst (cardsV B.dealer))] ++ [(B.sh, shoeO C B.dsh B.lf), (B.lf, HO.lst (cardsV B.left))])) ++ B.under C))).Perm
            (([(t, TabL.obj C { B with phase := 0, dl := dl, dealer := [] })] ++ (([(B.ls, HO.lst (refsS B.seats))] ++ ([(dl, HO.lst [])] ++ [(B.sh, shoeO C B.dsh B.lf), (B.lf, HO.lst (cardsV B.left))])) ++ B.under C)) ++ [(B.dl, HO.lst (cardsV B.dealer))])
          classical
          rw [List.perm_iff_count]
          intro z
          simp only [List.count_append]
          omega
      refine ⟨_, rfl, t, C.T, _, _, _, rfl, hB5.obj, T.clT, T.nT_seats, tabF_seats, B.ls, rfl, ⟨_, SqL.of hB5.ls⟩, ?_⟩
      refine for_list (K := K) (a := B.ls) (xs := refsS B.seats) (fun k σ H' => ∃ (v : Option V) (ss : List SeatL), σ = [some (.ref t), some (.int (i : Nat)), some (.int (n : Nat)), v] ∧ ss.map (fun s => (s.a, s.won)) = (B.seats.take k).map (fun s => (s.a, s.won)) ∧ (∀ s ∈ ss, s.stake = 0 ∧ s.insured = 0 ∧ s.hs = []) ∧
          Tab C H0 H' t { B with phase := 0, dl := dl, dealer := [], seats := ss ++ B.seats.drop k })
        ⟨none, [], rfl, rfl, fun s hs => (nomatch hs), hB5⟩ ?_ ?_ ?_
      · rintro k σ H' _ ⟨v, ss, _, em, _, B'⟩
        have er : refsS (ss ++ B.seats.drop k) = refsS B.seats := by
          have h1 : refsS ss = refsS (B.seats.take k) := by
            unfold refsS
            have := congrArg (List.map fun p : Addr × Int => V.ref p.1) em
            rw [List.map_map, List.map_map] at this
            exact this
          unfold refsS at h1 ⊢
          rw [List.map_append, h1, ← List.map_append, List.take_append_drop]
        have := B'.ls
        rw [show refsS _ = _ from er] at this
        exact SqL.of this
      · rintro k y σ H6 hk ⟨v, ss, rfl, em, hzs, B6⟩
        obtain ⟨s, hs, rfl⟩ := refsS_at hk
        have klt := (List.getElem?_eq_some_iff.mp hs).1
        have ed : B.seats.drop k = s :: B.seats.drop (k + 1) := by
          rw [List.drop_eq_getElem_cons klt]
          congr 1
          exact (List.getElem?_eq_some_iff.mp hs).2
        have pieces : ∀ (l : List Cell) (y : SeatL), y.a = s.a → (TabL.cells C t { B with phase := 0, dl := dl, dealer := [], seats := ss ++ y :: B.seats.drop (k + 1) }) =
            ((t, TabL.obj C { B with phase := 0, dl := dl, dealer := [] }) :: (TabL.rest C { B with phase := 0, dl := dl, dealer := [], seats := ss ++ s :: B.seats.drop (k + 1) } ++ ss.flatMap (SeatL.own C))) ++ ([(y.a, y.obj C)] ++ ([(y.l, .lst (refsH y.hs))] ++ ((B.seats.drop (k + 1)).flatMap (SeatL.own C) ++ ((ss.flatMap (·.hs)).flatMap (HandL.cells C) ++ (y.hs.flatMap (HandL.cells C) ++ ((B.seats.drop (k + 1)).flatMap (·.hs)).flatMap (HandL.cells C)))))) := by
          intro l y ey
          have e1 : TabL.rest C { B with phase := 0, dl := dl, dealer := [], seats := ss ++ y :: B.seats.drop (k + 1) } = TabL.rest C { B with phase := 0, dl := dl, dealer := [], seats := ss ++ s :: B.seats.drop (k + 1) } := by
            unfold TabL.rest refsS
            simp [ey]
          unfold TabL.cells TabL.under TabL.hands
          rw [e1]
          simp [SeatL.own, List.flatMap_append]
          rfl
        have O6 := B6.own
        rw [show ({ B with phase := 0, dl := dl, dealer := [], seats := ss ++ B.seats.drop k } : TabL) = { B with phase := 0, dl := dl, dealer := [], seats := ss ++ s :: B.seats.drop (k + 1) } from by rw [ed], pieces [] s rfl] at O6
        have O7 := O6.perm (List.perm_middle (l₁ := ((t, TabL.obj C { B with phase := 0, dl := dl, dealer := [] }) :: (TabL.rest C { B with phase := 0, dl := dl, dealer := [], seats := ss ++ s :: B.seats.drop (k + 1) } ++ ss.flatMap (SeatL.own C)))) (a := (s.a, s.obj C)))
        refine ⟨_, rfl, s.a, s.d, _, rfl, O7.get0, seatF_no_clear_round, H0, _, s, rfl, O7, fun H8 l O8 => ?_⟩
        refine ⟨some (.ref s.a), ss ++ [{ s with stake := 0, insured := 0, l := l, hs := [] }], rfl, ?_, ?_, ?_⟩
        · rw [List.map_append, em, take_more hs, List.map_append]
          rfl
        · intro y hy
          rcases List.mem_append.mp hy with z | z
          · exact hzs y z
          · rw [List.mem_singleton] at z
            subst z
            exact ⟨rfl, rfl, rfl⟩
        · have f6 := B6.fit
          rw [List.append_assoc]
          refine ⟨?_, ⟨?_, fun y hy => ?_, fun y hy x hx => ?_, Nat.zero_le _, hB.fit.left⟩⟩
          · show Own H0 H8 (TabL.cells C t { B with phase := 0, dl := dl, dealer := [], seats := ss ++ { s with stake := 0, insured := 0, l := l, hs := [] } :: B.seats.drop (k + 1) })
            rw [pieces [] { s with stake := 0, insured := 0, l := l, hs := [] } rfl]
            have O9 := O8.perm (perm_clear ((t, TabL.obj C { B with phase := 0, dl := dl, dealer := [] }) :: (TabL.rest C { B with phase := 0, dl := dl, dealer := [], seats := ss ++ s :: B.seats.drop (k + 1) } ++ ss.flatMap (SeatL.own C))) [(s.a, SeatL.obj C { s with stake := 0, insured := 0, l := l, hs := [] })] [(s.l, .lst (refsH s.hs))] ((B.seats.drop (k + 1)).flatMap (SeatL.own C)) ((ss.flatMap fun y : SeatL => y.hs).flatMap (HandL.cells C)) (s.hs.flatMap (HandL.cells C)) (((B.seats.drop (k + 1)).flatMap fun y : SeatL => y.hs).flatMap (HandL.cells C)) [(l, HO.lst [])])
            exact O9.sub (List.sublist_append_left _ _)
          · have := f6.seats
            rw [show ({ B with phase := 0, dl := dl, dealer := [], seats := ss ++ B.seats.drop k } : TabL).seats = ss ++ s :: B.seats.drop (k + 1) from by show ss ++ B.seats.drop k = _; rw [ed]] at this
            show (ss ++ _ :: B.seats.drop (k + 1)).length ≤ 7
            rw [List.length_append, List.length_cons] at this ⊢
            exact this
          · rcases List.mem_append.mp (show y ∈ ss ++ { s with stake := 0, insured := 0, l := l, hs := [] } :: B.seats.drop (k + 1) from hy) with z | z
            · rw [(hzs y z).2.2]
              exact Nat.zero_le _
            · rcases List.mem_cons.mp z with z | z
              · subst z
                exact Nat.zero_le _
              · exact hB.fit.hands y (List.mem_of_mem_drop z)
          · rcases List.mem_append.mp (show y ∈ ss ++ { s with stake := 0, insured := 0, l := l, hs := [] } :: B.seats.drop (k + 1) from hy) with z | z
            · rw [(hzs y z).2.2] at hx
              cases hx
            · rcases List.mem_cons.mp z with z | z
              · subst z
                cases hx
              · exact hB.fit.cards y (List.mem_of_mem_drop z) x hx
      · rintro σ H6 ⟨v, ss, rfl, em, hzs, B6⟩
        rw [refsS_len, List.take_length] at em
        rw [refsS_len, List.drop_length, List.append_nil] at B6
        have lss : ss.length = B.seats.length := by
          have := congrArg List.length em
          rw [List.length_map, List.length_map] at this
          exact this
        have es6 : ss[i]? = some (ss[i]'(by omega)) := List.getElem?_eq_getElem (by omega)
        have hz6 := hzs _ (List.mem_of_getElem? es6)
        refine tail H6 _ _ v B6 es6 hz6.2.1 hz6.2.2 ?_
        rw [stake_4 (by rw [sl]; exact hin) (by omega) p4]
        congr 1
        have ex : ss.map SeatL.x = B.abs.seats.map fun _ => ⟨0, 0, []⟩ := by
          apply List.ext_getElem?
          intro k
          show (ss.map SeatL.x)[k]? = ((B.seats.map SeatL.x).map fun _ => (⟨0, 0, []⟩ : Kg84.Seat))[k]?
          rw [List.map_map, List.getElem?_map, List.getElem?_map]
          cases h : ss[k]? with
          | none =>
            have : B.seats[k]? = none := by
              rw [List.getElem?_eq_none_iff] at h ⊢
              omega
            rw [this]
            rfl
          | some y =>
            have klt := (List.getElem?_eq_some_iff.mp h).1
            have hz := hzs y (List.mem_of_getElem? h)
            rw [List.getElem?_eq_getElem (show k < B.seats.length by omega)]
            show some y.x = some ⟨0, 0, []⟩
            unfold SeatL.x
            rw [hz.1, hz.2.1, hz.2.2]
            rfl
        have ew : ss.map (·.won) = B.seats.map (·.won) := by
          have := congrArg (List.map fun p : Addr × Int => p.2) em
          rw [List.map_map, List.map_map] at this
          exact this
        unfold TabL.abs at *
        simp only [ew]
        simp only at ex
        rw [ex]
    · have p0 : B.phase = 0 := by
        have h4 : B.phase ≠ 4 := beq_eq_false_iff_ne.mp e4
        rw [phases2] at e3
        omega
      have hz := hZ p0 _ (List.mem_of_getElem? es)
      exact tail _ B _ none hB2 es hz.1 hz.2 (stake_0 (by rw [sl]; exact hin) (by omega) p0)
end
end Bj
namespace Bj
open PySem PySem.Spec PyProof.Rows L2
theorem lookT_turn {T : TabL} : (lookT T).phase = 2 → (lookT T).abs.turn ≠ none := by
  unfold lookT
  split
  · intro h
    cases h
  · exact goOnT_turn
theorem nats_of {l : List Int} (h : inDeckI l) : l.map V.int = cardsV (Kg84.nats l) ∧ inDeck (Kg84.nats l) := by
  unfold inDeckI at h
  rw [List.all_eq_true] at h
  constructor
  · unfold cardsV Kg84.whole Kg84.nats
    rw [List.map_map, List.map_map]
    apply List.map_congr_left
    intro z hz
    have := within_iff.mp (h z hz)
    show V.int z = V.int ((Int.toNat z : Nat) : Int)
    rw [Int.toNat_of_nonneg (by omega)]
  · intro c hc
    unfold Kg84.nats at hc
    obtain ⟨z, hz, rfl⟩ := List.mem_map.mp hc
    have := within_iff.mp (h z hz)
    omega
def sp_are_due (C : Adr) (K : PySem.W.Frag) : Sp := fun vs H Q _ => ∃ (H0 : Hp) (t ca : Addr) (T : TabL) (l : List Nat), vs = [.ref t, .ref ca] ∧ Tab C H0 H t T ∧ SqL K H ca (cardsV l) ∧ l.length ≤ 20 ∧ T.dealer.length ≤ 8000 ∧ ∀ H', Same H H' → Q (.bl (fits T.abs l)) H'
def sp_draw (C : Adr) (K : PySem.W.Frag) : Sp := fun vs H Q E => ∃ (l : List Int) (ca : Addr) (H0 : Hp) (t : Addr) (T : TabL), vs = [.ref t, .ref ca] ∧ Tab C H0 H t T ∧ H0 ca = some (.lst (l.map V.int)) ∧ l.length ≤ 20 ∧ T.dealer.length ≤ 8000 ∧
  Tells C H0 t T (Kg84.spec T.abs (.dealer l)) H Q E
theorem fits_step {s : Kg84.State} {l : List Nat} {i : Nat} {c : Nat} (h : l[i]? = some c) (k : ({ s with dealer := s.dealer ++ l.take i } : Kg84.State).takes = false) : fits s l = false := by
  have ilt := (List.getElem?_eq_some_iff.mp h).1
  unfold fits
  rw [Bool.and_eq_false_iff]
  left
  rw [← Bool.not_eq_true, List.all_eq_true]
  intro z
  have := z i (List.mem_range.mpr ilt)
  rw [k] at this
  cases this
theorem fits_end {s : Kg84.State} {l : List Nat} (h : ∀ i, i < l.length → ({ s with dealer := s.dealer ++ l.take i } : Kg84.State).takes = true) : fits s l = !({ s with dealer := s.dealer ++ l } : Kg84.State).takes := by
  unfold fits
  have e : ((List.range l.length).all fun k => ({ s with dealer := s.dealer ++ l.take k } : Kg84.State).takes) = true := by
    rw [List.all_eq_true]
    intro i hi
    exact h i (List.mem_range.mp hi)
  rw [e, Bool.true_and]
section
variable {P : Program} {w : World} {K : PySem.W.Frag} {mg : Str → Option Value} {base : Heap} {C : Adr}
theorem ok_Table_insure (T : Txt K mg C) : MethOk P w K mg base (L2.CX P w) 12 C.T "insure" P_Table_insure (sp_insure C) := by
  refine T.m_Table_insure.okX sc_Table_insure (fun _ _ F => b_Table_insure F) ?_ ?_
  · rintro vs H Q E ⟨i, y, H0, t, B, rfl, _⟩
    rfl
  · intro f cdv A outer sh H vs Q E hr h
    obtain ⟨i, y, H0, t, B, rfl, hB, hZ, q⟩ := h
    refine ⟨_, (pss_cons (ps_expr (pe_cD (ok_must T) hr (by decide) (passes_call (takes_of rfl rfl rfl rfl) (fun _ _ _ _ h => h)) (pa_cons (pe_and (pe_or (pe_cmp (pc_eqI (pv 1) (pe_un un_neg pe_int))) (pe_one (pe_cM (ok_Table_is_seat T) hr (by decide) T.clT pass0 (pv 0) (pa_cons (pv 1) pa_nil)))) (pe_one (pe_cD (ok_is_flag T) hr (by decide) pass0 (pa_cons (pv 2) pa_nil)))) (pa_cons (pe_un un_neg pe_int) pa_nil))))
      (pss_cons (ps_expr (pe_cM (ok_Table_must_phase T) hr (by decide) T.clT (passes_call (takes_of rfl rfl rfl rfl) (fun _ _ _ _ h => h)) (pv 0) (pa_cons (pe_tup (pa_cons (pe_gI T.g_INSURANCE) pa_nil)) pa_nil)))
      (pss_cons (ps_if (pt_cmp (pc_eqI (pv 1) (pe_un un_neg pe_int))) (pss_cons (ps_expr (pe_cM0 (ok_Table_look T) hr (by decide) T.clT pass0 (pv 0)))
      (pss_one (ps_ret (pe_op op_cat (pe_lst (pa_cons pe_int pa_nil)) (pe_cM0 (ok_Table_stands T) hr (by decide) T.clT pass0 (pv 0)))))) pss_nil)
      (pss_cons (ps_expr (pe_cD (ok_must T) hr (by decide) (passes_call (takes_of rfl rfl rfl rfl) (fun _ _ _ _ h => h)) (pa_cons (pe_cmp (pc_gt (pe_fld (pe_ix ix_list (pe_fld (pv 0) rfl) (pv 1) (fun _ _ => rfl)) rfl) pe_int)) (pa_cons (pe_un un_neg pe_int) pa_nil))))
      (pss_cons (ps_fld (pe_ix ix_list (pe_fld (pv 0) rfl) (pv 1) (fun _ _ => rfl)) (pe_op op_mul (pe_fld (pe_ix ix_list (pe_fld (pv 0) rfl) (pv 1) (fun _ _ => rfl)) rfl) (pv 2)) rfl)
      (pss_one (ps_ret (pe_lst (pa_cons (pv 2) pa_nil))))))))), ?_⟩
    have sl : B.abs.seats.length = B.seats.length := List.length_map _
    have no : ¬ ((-1 ≤ i ∧ i ≤ (B.seats.length : Int) - 1) ∧ (0 ≤ y ∧ y ≤ 1)) → ∀ d, H d = none → E (.ref C.R) (some d) (upd H d (numX (-1))) := fun k => (q.refuse (insure_1 (by rw [sl]; exact k)) (by decide)).at (Same.refl _)
    have rest : (-1 ≤ i ∧ i ≤ (B.seats.length : Int) - 1) → (0 ≤ y ∧ y ≤ 1) →
        tSeq (tDrop (tMeth C.T "must_phase" (sp_must_phase C K) [] E (tVar 0) (tCons (tTup (tCons (tC (.int 1)) tNil)) tNil)))
          (tSeq (tIfS (tB (tEqI (tVar 1) (tUn (rU fun i => V.int (-i)) (tC (.int 1))))) (tSeq (tDrop (tMeth C.T "look" (sp_Table_do C lookT) [] E0 (tVar 0) tNil)) (tRet (tOp rCat (tLst (tCons (tC (.int 0)) tNil)) (tMeth C.T "stands" (sp_stands C) [] E0 (tVar 0) tNil)))) tNext)
          (tSeq (tDrop (tCall (sp_must C) [] E (tCons (tGt (tFld K (tOp (rIxL K) (tFld K (tVar 0) "seats") (tVar 1)) "stake") (tC (.int 0))) (tCons (tUn (rU fun i => V.int (-i)) (tC (.int 4))) tNil))))
          (tSeq (sFld K (tOp (rIxL K) (tFld K (tVar 0) "seats") (tVar 1)) (tOp (rI CMul fun i j => V.int (i * j)) (tFld K (tOp (rIxL K) (tFld K (tVar 0) "seats") (tVar 1)) "stake") (tVar 2)) "insured")
          (tRet (tLst (tCons (tVar 2) tNil))))))
          { nx := fun _ H' => Q .non H', rt := Q } [some (.ref t), some (.int i), some (.int y)] H := by
      intro hi hy
      refine ⟨_, rfl, t, B.d, _, rfl, hB.obj, tabF_no_must_phase, (by show 1 ≤ sizeLine; decide), fun p2 hp2 => ?_⟩
      have s2 : Same H (upd H p2 (.tup [.int 1])) := same_new hp2
      have hB2 := hB.sameR s2
      refine ⟨H0, t, p2, B, [1], rfl, hB2, SqT.of upd_same, fun e3 => ?_, fun e3 => (q.refuse (insure_3 (by rw [sl]; exact ⟨hi, hy⟩) ?_) (by decide)).sub s2⟩
      rotate_left
      · intro z
        exact e3 (by rw [List.mem_singleton]; exact z)
      have p1 : B.phase = 1 := by simpa using e3
      refine ⟨_, rfl, _, rfl, _, _, rfl, rfl, _, rfl, ?_⟩
      refine ifB (b := decide (i = -1)) rfl (fun e4 => ?_) (fun e4 => ?_)
      ·
        have ei : i = -1 := of_decide_eq_true e4
        subst ei
        refine ⟨_, rfl, t, B.d, _, rfl, hB2.obj, tabF_no_look, H0, t, B, rfl, hB2, fun H5 hB5 => ?_⟩
        refine stands_core hB5 lookT_turn (q.give (T' := lookT B) ?_ (by decide)) rfl
        rw [insure_done hy p1, abs_lookT (hZ p1)]
        rfl
      · have ei : ¬ i = -1 := of_decide_eq_false e4
        obtain ⟨n, rfl⟩ : ∃ k : Nat, i = k := ⟨i.toNat, by omega⟩
        have hn : n < B.seats.length := by omega
        have es : B.seats[n]? = some (B.seats[n]'hn) := List.getElem?_eq_getElem hn
        have hs := List.mem_of_getElem? es
        generalize B.seats[n]'hn = s at es hs
        have es' : (refsS B.seats)[n]? = some (.ref s.a) := by unfold refsS; rw [List.getElem?_map, es]; rfl
        have ea : B.abs.seats[n]? = some s.x := by
          show (B.seats.map SeatL.x)[n]? = _
          rw [List.getElem?_map, es]
          rfl
        refine ⟨_, rfl, t, C.T, _, _, _, rfl, hB2.obj, T.clT, T.nT_seats, tabF_seats, _, rfl, B.ls, _, _, _, rfl, rfl, SqL.of hB2.ls, atI_nat' es', s.a, C.S, _, _, _, rfl, hB2.seat hs, T.clS, T.nS_stake, seatF_stake, _, _, rfl, rfl, _, rfl, _, _, rfl, fun e5 => ?_, fun e5 => (q.refuse (insure_4 hy p1 ea ?_) (by decide)).at s2⟩
        rotate_left
        · have := of_decide_eq_false e5
          show s.stake = 0
          omega
        have k5 : 0 < s.stake := by
          have := of_decide_eq_true e5
          omega
        refine ⟨_, rfl, t, C.T, _, _, _, rfl, hB2.obj, T.clT, T.nT_seats, tabF_seats, _, rfl, B.ls, _, _, _, rfl, rfl, SqL.of hB2.ls, atI_nat' es', s.a, C.S, _, _, _, rfl, hB2.seat hs, T.clS, T.nS_stake, seatF_stake, _, rfl, _, _, rfl, rfl, .inr (by omega), ?_⟩
        refine ⟨_, rfl, t, C.T, _, _, _, rfl, hB2.obj, T.clT, T.nT_seats, tabF_seats, _, rfl, B.ls, _, _, _, rfl, rfl, SqL.of hB2.ls, atI_nat' es', s.a, C.S, _, _, rfl, hB2.seat hs, T.clS, T.nS_insured, seatF_len, ?_⟩
        rw [seatF_put_insured]
        have em : ((s.stake : Nat) : Int) * y = ((if y = 1 then s.stake else 0 : Nat) : Int) := by
          by_cases h1 : y = 1
          · subst h1
            rw [if_pos rfl, Int.mul_one]
          · have h0 : y = 0 := by omega
            subst h0
            rw [if_neg (by decide), Int.mul_zero]
            rfl
        have hB6 := hB2.putSeat es { s with insured := if y = 1 then s.stake else 0 } rfl rfl rfl
        refine ⟨_, rfl, (by show 1 ≤ sizeLine; decide), fun p7 hp7 => ?_⟩
        rw [em] at hp7 ⊢
        have hB7 := hB6.frame (o := .lst [.int y]) hp7
        have n7 : H0 p7 = none := hB6.own.free hp7
        refine q.give (T' := { B with seats := B.seats.set n { s with insured := if y = 1 then s.stake else 0 } }) (v := y) (out := []) ?_ hy.1 _ p7 n7 hB7
        rw [insure_0 hy p1 ea (by show s.stake ≠ 0; omega), abs_putSeat (s' := { s with insured := if y = 1 then s.stake else 0 }) es rfl]
        rfl
    have flag : (-1 ≤ i ∧ i ≤ (B.seats.length : Int) - 1) → tCall sp_is_flag [] E0 (tCons (tVar 2) tNil) [some (.ref t), some (.int i), some (.int y)] H fun v2 H2 => ∃ (b : Bool) (n : Int), [v2, V.int (-1)] = [.bl b, .int n] ∧
        (b = true → tSeq (tDrop (tMeth C.T "must_phase" (sp_must_phase C K) [] E (tVar 0) (tCons (tTup (tCons (tC (.int 1)) tNil)) tNil)))
          (tSeq (tIfS (tB (tEqI (tVar 1) (tUn (rU fun i => V.int (-i)) (tC (.int 1))))) (tSeq (tDrop (tMeth C.T "look" (sp_Table_do C lookT) [] E0 (tVar 0) tNil)) (tRet (tOp rCat (tLst (tCons (tC (.int 0)) tNil)) (tMeth C.T "stands" (sp_stands C) [] E0 (tVar 0) tNil)))) tNext)
          (tSeq (tDrop (tCall (sp_must C) [] E (tCons (tGt (tFld K (tOp (rIxL K) (tFld K (tVar 0) "seats") (tVar 1)) "stake") (tC (.int 0))) (tCons (tUn (rU fun i => V.int (-i)) (tC (.int 4))) tNil))))
          (tSeq (sFld K (tOp (rIxL K) (tFld K (tVar 0) "seats") (tVar 1)) (tOp (rI CMul fun i j => V.int (i * j)) (tFld K (tOp (rIxL K) (tFld K (tVar 0) "seats") (tVar 1)) "stake") (tVar 2)) "insured")
          (tRet (tLst (tCons (tVar 2) tNil))))))
          { nx := fun _ H' => Q .non H', rt := Q } [some (.ref t), some (.int i), some (.int y)] H2) ∧ (b = false → ∀ d, H2 d = none → E (.ref C.R) (some d) (upd H2 d (numX n))) := by
      intro hi
      refine ⟨_, rfl, y, rfl, _, _, rfl, fun e => rest hi (within_iff.mp e), fun e => no (fun z => within_not.mp e z.2)⟩
    refine ⟨_, rfl, _, rfl, _, _, rfl, rfl, _, rfl, ?_⟩
    refine ifB (b := decide (i = -1)) rfl (fun e1 => ?_) (fun e1 => ?_)
    · have ei : i = -1 := of_decide_eq_true e1
      refine ⟨_, rfl, iteT ?_⟩
      obtain ⟨v, ev, y', ey, b, n, e, k1, k2⟩ := flag (by omega)
      exact ⟨v, ev, y', ey, _, rfl, b, n, e, k1, k2⟩
    · refine ⟨_, rfl, t, B.d, _, rfl, hB.obj, tabF_no_is_seat, _, rfl, H0, t, B, i, rfl, hB, _, rfl, ?_⟩
      refine ifB (b := Kg84.within i 0 ((B.seats.length : Int) - 1)) rfl (fun e2 => ?_) (fun e2 => ?_)
      · have hi := within_iff.mp e2
        obtain ⟨v, ev, y', ey, b, n, e, k1, k2⟩ := flag (by omega)
        exact ⟨v, ev, y', ey, _, rfl, b, n, e, k1, k2⟩
      · refine ⟨_, rfl, _, _, rfl, (fun z => Bool.noConfusion z), fun _ => no (fun z => ?_)⟩
        have h1 := of_decide_eq_false e1
        have h2 := within_not.mp e2
        omega
theorem ok_Table_are_due (T : Txt K mg C) : MethOk P w K mg base CX0 6 C.T "are_due" P_Table_are_due (sp_are_due C K) := by
  refine T.m_Table_are_due.ok sc_Table_are_due (fun _ _ F => b_Table_are_due F) ?_ ?_
  · rintro vs H Q E ⟨H0, t, ca, B, l, rfl, _⟩
    rfl
  · intro f cdv A outer sh H vs Q E hr h
    obtain ⟨H0, t, ca, B, l, rfl, hB, hS, hl, hd, q⟩ := h
    refine ⟨_, (pss_cons (ps_set (i := 2) sc_Table_are_due.nd rfl (Or.inl rfl) (pe_callTy call_list_of (by rfl) T.z_list (by decide +kernel) (pa_cons (pe_fld (pv 0) rfl) pa_nil)))
      (pss_cons (ps_for PassesOwn.never rfl (pi_list (pv 1)) (pg_name (i := 3) sc_Table_are_due.nd rfl (Or.inl rfl)) (pss_cons (ps_if (pt_not (pt_val (pe_cM (ok_Table_must_draw T) hr (by decide) T.clT pass0 (pv 0) (pa_cons (pv 2) pa_nil)))) (pss_one (ps_ret pe_bl)) pss_nil)
      (pss_one (ps_expr (by exact (pe_bm PySem.F.plainAttrs_list PySem.F.slot_list_append PySem.F.type_list_append mt_append (pv 2) (pa_cons (pv 3) pa_nil)))))))
      (pss_one (ps_ret (pe_not (pe_cM (ok_Table_must_draw T) hr (by decide) T.clT pass0 (pv 0) (pa_cons (pv 2) pa_nil))))))), ?_⟩
    refine ⟨_, rfl, t, C.T, _, _, _, rfl, hB.obj, T.clT, T.nT_dealer, tabF_dealer, B.dl, _, rfl, .inl (SqL.of hB.dl), fun p hp => ?_⟩
    have s1 : Same H (upd H p (.lst (cardsV B.dealer))) := same_new hp
    refine ⟨_, rfl, ca, rfl, ⟨_, s1.seq hS⟩, ?_⟩
    have tk : ∀ m : List Nat, takesN B.rules.soft17 m = ({ B.abs with dealer := m } : Kg84.State).takes := fun _ => rfl
    refine for_list (K := K) (a := ca) (xs := cardsV l) (fun i σ H' => ∃ v : Option V, σ = [some (.ref t), some (.ref ca), some (.ref p), v] ∧ Same H H' ∧ H' p = some (.lst (cardsV (B.dealer ++ l.take i))) ∧ ∀ k, k < i → ({ B.abs with dealer := B.abs.dealer ++ l.take k } : Kg84.State).takes = true)
      ⟨none, rfl, s1, by rw [List.take_zero, List.append_nil]; exact upd_same, fun k hk => absurd hk (Nat.not_lt_zero _)⟩ (fun i σ H' _ ⟨_, _, s', _⟩ => s'.seq hS) ?_ ?_
    · rintro i y σ H2 hi ⟨v, rfl, s2, e2, k2⟩
      obtain ⟨c, hc, rfl⟩ := cardsV_get hi
      have ilt := (List.getElem?_eq_some_iff.mp hc).1
      have hB2 := hB.sameR s2
      refine ⟨_, rfl, t, B.d, _, rfl, hB2.obj, tabF_no_must_draw, _, rfl, H0, t, p, B, B.dealer ++ l.take i, rfl, hB2, SqL.of e2, ?_, fun H3 s3 => ⟨_, rfl, ?_⟩⟩
      · rw [List.length_append, List.length_take]
        omega
      have s03 := s2.trans s3
      rw [tk]
      refine ifB (b := !({ B.abs with dealer := B.dealer ++ l.take i } : Kg84.State).takes) rfl (fun e => ?_) (fun e => ?_)
      · have e' : ({ B.abs with dealer := B.dealer ++ l.take i } : Kg84.State).takes = false := by simpa using e
        have := q H3 s03
        rw [fits_step (s := B.abs) hc e'] at this
        exact this
      · have et : ({ B.abs with dealer := B.dealer ++ l.take i } : Kg84.State).takes = true := by simpa using e
        have e3 := s3 _ _ e2
        refine ⟨_, rfl, .inl ⟨rfl, _, SqL.of e3⟩, _, rfl, p, _, _, rfl, rfl, e3, ?_, ?_⟩
        · rw [cardsV_len, List.length_append, List.length_take]
          exact small10000 (by omega)
        · refine ⟨_, rfl, Same.upd s03 hp, ?_, fun k hk => ?_⟩
          · rw [upd_same, take_more hc, ← List.append_assoc, cardsV_app (B.dealer ++ l.take i) [c]]
            rfl
          · rcases Nat.lt_succ_iff_lt_or_eq.mp hk with z | z
            · exact k2 k z
            · subst z
              exact et
    · rintro σ H2 ⟨v, rfl, s2, e2, k2⟩
      rw [cardsV_len] at e2 k2
      rw [List.take_length] at e2
      have hB2 := hB.sameR s2
      refine ⟨_, rfl, t, B.d, _, rfl, hB2.obj, tabF_no_must_draw, _, rfl, H0, t, p, B, B.dealer ++ l, rfl, hB2, SqL.of e2, ?_, fun H3 s3 => ⟨_, rfl, ?_⟩⟩
      · rw [List.length_append]
        omega
      have := q H3 (s2.trans s3)
      rw [fits_end k2] at this
      exact this
theorem ok_Table_draw (T : Txt K mg C) : MethOk P w K mg base (L2.CX P w) 10 C.T "draw" P_Table_draw (sp_draw C K) := by
  refine T.m_Table_draw.okX sc_Table_draw (fun _ _ F => b_Table_draw F) ?_ ?_
  · rintro vs H Q E ⟨l, ca, H0, t, B, rfl, _⟩
    rfl
  · intro f cdv A outer sh H vs Q E hr h
    obtain ⟨l, ca, H0, t, B, rfl, hB, hS, hl, hd, q⟩ := h
    refine ⟨_, (pss_cons (ps_expr (pe_cD (ok_must T) hr (by decide) (passes_call (takes_of rfl rfl rfl rfl) (fun _ _ _ _ h => h)) (pa_cons (pe_cD (ok_are_cards T) hr (by decide) pass0 (pa_cons (pv 1) pa_nil)) (pa_cons (pe_un un_neg pe_int) pa_nil))))
      (pss_cons (ps_expr (pe_cM (ok_Table_must_phase T) hr (by decide) T.clT (passes_call (takes_of rfl rfl rfl rfl) (fun _ _ _ _ h => h)) (pv 0) (pa_cons (pe_tup (pa_cons (pe_gI T.g_DEALER) pa_nil)) pa_nil)))
      (pss_cons (ps_expr (pe_cD (ok_must T) hr (by decide) (passes_call (takes_of rfl rfl rfl rfl) (fun _ _ _ _ h => h)) (pa_cons (pe_cM (ok_Table_are_due T) hr (by decide) T.clT pass0 (pv 0) (pa_cons (pv 1) pa_nil)) (pa_cons (pe_un un_neg pe_int) pa_nil))))
      (pss_cons (ps_expr (pe_cM (ok_Table_take T) hr (by decide) T.clT (passes_call (takes_of rfl rfl rfl rfl) (fun _ _ _ _ h => h)) (pv 0) (pa_cons (pv 1) pa_nil)))
      (pss_cons (ps_fld (pv 0) (pe_op op_cat (pe_fld (pv 0) rfl) (pv 1)) rfl)
      (pss_cons (ps_expr (pe_cM0 (ok_Table_pay T) hr (by decide) T.clT pass0 (pv 0)))
      (pss_one (ps_ret (pe_op op_cat (pe_lst (pa_cons (pe_cD (ok_count_of T) hr (by decide) pass0 (pa_cons (pe_fld (pv 0) rfl) pa_nil)) pa_nil)) (pe_cM0 (ok_Table_stands T) hr (by decide) T.clT pass0 (pv 0))))))))))), ?_⟩
    have hS1 := hB.own.same _ _ hS
    refine ⟨_, rfl, ca, l, rfl, SqL.of hS1, by omega, fun H2 s2 => ?_⟩
    refine ⟨_, rfl, _, _, rfl, fun e1 => ?_, fun e1 => (q.refuse (dealer_1 e1) (by decide)).at s2⟩
    have hB2 := hB.sameR s2
    obtain ⟨ec, hdk⟩ := nats_of e1
    have ln : (Kg84.nats l).length = l.length := nats_len l
    rw [ec] at hS hS1
    refine ⟨_, rfl, t, B.d, _, rfl, hB2.obj, tabF_no_must_phase, (by show 1 ≤ sizeLine; decide), fun p2 hp2 => ?_⟩
    have s3 := Same.upd (o := .tup [.int 3]) s2 (s2.free hp2)
    have hB3 := hB.sameR s3
    refine ⟨H0, t, p2, B, [3], rfl, hB3, SqT.of upd_same, fun e3 => ?_, fun e3 => (q.refuse (dealer_3 e1 ?_) (by decide)).sub s3⟩
    rotate_left
    · intro z
      exact e3 (by rw [List.mem_singleton]; exact z)
    have p3 : B.phase = 3 := by simpa using e3
    refine ⟨_, rfl, t, B.d, _, rfl, hB3.obj, tabF_no_are_due, _, rfl, H0, t, ca, B, Kg84.nats l, rfl, hB3, SqL.of (s3 _ _ hS1), by omega, hd, fun H4 s4 => ?_⟩
    have s04 := s3.trans s4
    refine ⟨_, rfl, _, _, rfl, fun e4 => ?_, fun e4 => (q.refuse (dealer_4 e1 p3 e4) (by decide)).at s04⟩
    have hB4 := hB.sameR s04
    refine ⟨_, rfl, t, B.d, _, rfl, hB4.obj, tabF_no_take, _, rfl, H0, t, ca, B, Kg84.nats l, rfl, hB4, SqL.of hS, hdk, by omega, fun e5 => (q.refuse (dealer_5 e1 p3 e4 e5) (by decide)).sub s04, fun z e5 H5 hB5 => ?_⟩
    refine ⟨_, rfl, t, C.T, _, _, _, rfl, hB5.obj, T.clT, T.nT_dealer, tabF_dealer, _, rfl, B.dl, ca, _, _, rfl, rfl, hB5.dl, hB5.own.same _ _ hS, ?_, fun p6 hp6 => ?_⟩
    · rw [cardsV_len, cardsV_len]
      refine Nat.le_of_lt (small10000 ?_)
      show B.dealer.length + _ ≤ _
      omega
    rw [← cardsV_app]
    have O6 := (hB5.own.new (o := .lst (cardsV (B.dealer ++ Kg84.nats l))) hp6).swap
    refine ⟨_, rfl, t, C.T, _, _, rfl, O6.get0, T.clT, T.nT_dealer, tabF_len, ?_⟩
    rw [tabF_put_dealer]
    have O7 := O6.put0 (TabL.obj C { B with left := z, dl := p6, dealer := B.dealer ++ Kg84.nats l })
    have hB7 : Tab C H0 (upd (upd H5 p6 (.lst (cardsV (B.dealer ++ Kg84.nats l)))) t (TabL.obj C { B with left := z, dl := p6, dealer := B.dealer ++ Kg84.nats l })) t { B with left := z, dl := p6, dealer := B.dealer ++ Kg84.nats l } := by
      refine ⟨(O7.perm (cs' := ((t, TabL.obj C { B with left := z, dl := p6, dealer := B.dealer ++ Kg84.nats l }) :: (TabL.rest C { B with left := z, dl := p6, dealer := B.dealer ++ Kg84.nats l } ++ B.under C)) ++ [(B.dl, .lst (cardsV B.dealer))]) ?_).sub (List.sublist_append_left _ _), ⟨hB.fit.seats, hB.fit.hands, hB.fit.cards, ?_, hB5.fit.left⟩⟩
      · show ([(t, TabL.obj C { B with left := z, dl := p6, dealer := B.dealer ++ Kg84.nats l })] ++ ([(p6, HO.lst (cardsV (B.dealer ++ Kg84.nats l)))] ++ (([(B.ls, HO.lst (refsS B.seats))] ++ ([(B.dl, HO.lst (cardsV B.dealer))] ++ [(B.sh, shoeO C B.dsh B.lf), (B.lf, HO.lst (cardsV z))])) ++ B.under C))).Perm
          (([(t, TabL.obj C { B with left := z, dl := p6, dealer := B.dealer ++ Kg84.nats l })] ++ (([(B.ls, HO.lst (refsS B.seats))] ++ ([(p6, HO.lst (cardsV (B.dealer ++ Kg84.nats l)))] ++ [(B.sh, shoeO C B.dsh B.lf), (B.lf, HO.lst (cardsV z))])) ++ B.under C)) ++ [(B.dl, HO.lst (cardsV B.dealer))])
        classical
        rw [List.perm_iff_count]
        intro y
        simp only [List.count_append]
        omega
      · show (B.dealer ++ Kg84.nats l).length ≤ 9000
        rw [List.length_append]
        omega
    refine ⟨_, rfl, t, B.d, _, rfl, hB7.obj, tabF_no_pay, H0, t, _, rfl, hB7, fun H8 hB8 => ?_⟩
    refine ⟨_, rfl, t, C.T, _, _, _, rfl, hB8.obj, T.clT, T.nT_dealer, tabF_dealer, p6, B.dealer ++ Kg84.nats l, rfl, SqL.of hB8.dl, hB8.dealer, fun H9 s9 => ?_⟩
    refine stands_core (hB8.sameR s9) (fun z => by cases z) (q.give (T' := payT { B with left := z, dl := p6, dealer := B.dealer ++ Kg84.nats l }) ?_ (by omega)) rfl
    rw [dealer_0 e1 p3 e4 e5, abs_payT]
    rfl
end
end Bj
namespace Bj
open Kg84
def isSt (x : Seat) : Bool := decide (0 < x.stake)
def freshH (l : List Nat) (m j st : Nat) : Hand := ⟨[l.getD j 0, l.getD (m + 1 + j) 0], st, 0, false, false, false⟩
def dealX (l : List Nat) (m : Nat) : Nat → List Seat → List Seat
  | _, [] => []
  | j, x :: r => if isSt x then { x with hands := [freshH l m j x.stake] } :: dealX l m (j + 1) r else x :: dealX l m j r
theorem dealX_cons (l : List Nat) (m j : Nat) (x : Seat) (r : List Seat) : dealX l m j (x :: r) = if isSt x = true then { x with hands := [freshH l m j x.stake] } :: dealX l m (j + 1) r else x :: dealX l m j r := rfl
theorem dealX_app (l : List Nat) (m : Nat) : ∀ (p q : List Seat) (j : Nat), dealX l m j (p ++ q) = dealX l m j p ++ dealX l m (j + (p.filter isSt).length) q := by
  intro p
  induction p with
  | nil => intro q j; rfl
  | cons x r ih =>
    intro q j
    show dealX l m j (x :: (r ++ q)) = _
    rw [dealX_cons, dealX_cons]
    by_cases h : isSt x = true
    · rw [if_pos h, if_pos h, ih, List.filter_cons, if_pos h, List.length_cons, Nat.add_assoc, Nat.add_comm 1]
      rfl
    · rw [if_neg h, if_neg h, ih, List.filter_cons, if_neg h]
      rfl
theorem dealX_none (l : List Nat) (m : Nat) : ∀ (p : List Seat) (j : Nat), (∀ x ∈ p, ¬ isSt x = true) → dealX l m j p = p := by
  intro p
  induction p with
  | nil => intro j _; rfl
  | cons x r ih =>
    intro j h
    rw [dealX_cons, if_neg (h x List.mem_cons_self), ih j fun y hy => h y (List.mem_cons_of_mem _ hy)]
theorem dealX_get (l : List Nat) (m : Nat) : ∀ (p : List Seat) (j i : Nat), (dealX l m j p)[i]? = (p[i]?).map fun x => if isSt x then { x with hands := [freshH l m (j + ((p.take i).filter isSt).length) x.stake] } else x := by
  intro p
  induction p with
  | nil => intro j i; rfl
  | cons x r ih =>
    intro j i
    rw [dealX_cons]
    by_cases h : isSt x = true
    · rw [if_pos h]
      cases i with
      | zero =>
        show some _ = some (if isSt x = true then _ else _)
        rw [if_pos h]
        rfl
      | succ i =>
        rw [List.getElem?_cons_succ, List.getElem?_cons_succ, ih, List.take_succ_cons, List.filter_cons, if_pos h, List.length_cons]
        rw [Nat.add_assoc, Nat.add_comm 1]
    · rw [if_neg h]
      cases i with
      | zero =>
        show some _ = some (if isSt x = true then _ else _)
        rw [if_neg h]
      | succ i =>
        rw [List.getElem?_cons_succ, List.getElem?_cons_succ, ih, List.take_succ_cons, List.filter_cons, if_neg h]
theorem fresh_of (l : List Nat) (m : Nat) : ∀ (p : List Seat) (j : Nat), (∀ x ∈ p, x.hands = []) → ∀ y ∈ dealX l m j p, y.hands = [] ∨ ∃ j st, y.hands = [freshH l m j st] := by
  intro p
  induction p with
  | nil => intro j _ y hy; cases hy
  | cons x r ih =>
    intro j h y hy
    have hr : ∀ y ∈ r, y.hands = [] := fun y hy => h y (List.mem_cons_of_mem _ hy)
    rw [dealX_cons] at hy
    split at hy
    · rcases List.mem_cons.mp hy with z | z
      · subst z
        exact .inr ⟨_, _, rfl⟩
      · exact ih _ hr y z
    · rcases List.mem_cons.mp hy with z | z
      · subst z
        exact .inl (h _ List.mem_cons_self)
      · exact ih _ hr y z
theorem range_st (p : List Seat) : ∀ i, i ≤ p.length → ((List.range i).filter fun k => decide (0 < (p.getD k ⟨0, 0, []⟩).stake)).length = ((p.take i).filter isSt).length := by
  intro i
  induction i with
  | zero => intro _; rfl
  | succ i ih =>
    intro h
    have ilt : i < p.length := h
    rw [List.range_succ, List.filter_append, List.length_append, ih (by omega), List.take_succ_eq_append_getElem ilt, List.filter_append, List.length_append]
    congr 1
    rw [List.filter_cons, List.filter_cons, List.getD_eq_getElem?_getD, List.getElem?_eq_getElem ilt]
    show (if decide (0 < p[i].stake) = true then _ else _ : List Nat).length = (if decide (0 < p[i].stake) = true then _ else _ : List Seat).length
    split <;> rfl
theorem staked_len (s : State) : s.staked.length = (s.seats.filter isSt).length := by
  unfold State.staked
  rw [range_st s.seats _ (Nat.le_refl _), List.take_length]
theorem find_range (q : Nat → Bool) (n i : Nat) (h : i < n) : ((List.range n).filter q).findIdx? (fun j => j == i) = if q i = true then some ((List.range i).filter q).length else none := by
  have e : List.range n = List.range i ++ i :: (List.range' (i + 1) (n - i - 1)) := by
    apply List.ext_getElem?
    intro k
    rw [List.getElem?_append, List.length_range]
    by_cases hk : k < i
    · rw [if_pos hk, List.getElem?_range (by omega), List.getElem?_range hk]
    · rw [if_neg hk]
      cases hd : k - i with
      | zero =>
        have : k = i := by omega
        subst this
        rw [List.getElem?_range h]
        rfl
      | succ d =>
        rw [List.getElem?_cons_succ]
        by_cases hn : k < n
        · rw [List.getElem?_range hn, List.getElem?_range' (by omega)]
          congr 1
          omega
        · rw [List.getElem?_eq_none (by rw [List.length_range]; omega), List.getElem?_eq_none (by rw [List.length_range']; omega)]
  have a1 : ((List.range i).filter q).findIdx? (fun j => j == i) = none := by
    rw [List.findIdx?_eq_none_iff]
    intro x hx
    have := List.mem_range.mp (List.mem_filter.mp hx).1
    rw [beq_eq_false_iff_ne]
    omega
  have a2 : ((List.range' (i + 1) (n - i - 1)).filter q).findIdx? (fun j => j == i) = none := by
    rw [List.findIdx?_eq_none_iff]
    intro x hx
    have := (List.mem_range'_1.mp (List.mem_filter.mp hx).1).1
    rw [beq_eq_false_iff_ne]
    omega
  rw [e, List.filter_append, List.findIdx?_append, a1, List.filter_cons]
  split
  · rw [List.findIdx?_cons]
    simp
  · rw [a2]
    rfl
theorem dealt_seats (s : State) (l z : List Nat) : (dealtS s l z).seats = dealX l s.staked.length 0 s.seats := by
  show (s.seats.zipIdx.map _) = _
  apply List.ext_getElem?
  intro i
  rw [dealX_get, List.getElem?_map, List.getElem?_zipIdx]
  cases h : s.seats[i]? with
  | none => rfl
  | some x =>
    have ilt := (List.getElem?_eq_some_iff.mp h).1
    have ed : s.seats.getD i ⟨0, 0, []⟩ = x := by
      rw [List.getD_eq_getElem?_getD, h]
      rfl
    show some _ = some _
    congr 1
    have ef : s.staked.findIdx? (fun j => j == 0 + i) = if isSt x = true then some ((s.seats.take i).filter isSt).length else none := by
      unfold State.staked
      rw [Nat.zero_add, find_range _ _ _ ilt, range_st _ _ (Nat.le_of_lt ilt), ed]
      rfl
    show (match s.staked.findIdx? (fun j => j == 0 + i) with
      | some j => ({ x with hands := [⟨[l.getD j 0, l.getD (s.staked.length + 1 + j) 0], x.stake, 0, false, false, false⟩] } : Seat)
      | none => x) = if isSt x = true then ({ x with hands := [freshH l s.staked.length (0 + ((s.seats.take i).filter isSt).length) x.stake] } : Seat) else x
    rw [ef]
    by_cases hx : isSt x = true
    · rw [if_pos hx, if_pos hx, Nat.zero_add]
      rfl
    · rw [if_neg hx, if_neg hx]
end Bj
namespace Bj
open PySem PySem.Spec PyProof.Rows L2
def sp_deal (C : Adr) : Sp := fun vs H Q E => ∃ (l : List Int) (ca : Addr) (H0 : Hp) (t : Addr) (T : TabL), vs = [.ref t, .ref ca] ∧ Tab C H0 H t T ∧ H0 ca = some (.lst (l.map V.int)) ∧ l.length ≤ 20 ∧ (T.phase = 0 → ∀ s ∈ T.seats, s.hs = []) ∧
  Tells C H0 t T (Kg84.spec T.abs (.deal l)) H Q E
def stL (s : SeatL) : Bool := decide (0 < s.stake)
theorem filter_x (l : List SeatL) : ((l.map SeatL.x).filter isSt).length = (l.filter stL).length := by
  rw [List.filter_map, List.length_map]
  rfl
theorem staked_L (B : TabL) : B.abs.staked.length = (B.seats.filter stL).length := by
  rw [staked_len]
  exact filter_x B.seats
theorem cards_at {l : List Nat} {i : Nat} (h : i < l.length) : (cardsV l)[i]? = some (.int (l.getD i 0 : Nat)) := by
  unfold cardsV Kg84.whole
  rw [List.getD_eq_getElem?_getD, List.getElem?_map, List.getElem?_map, List.getElem?_eq_getElem h]
  rfl
theorem cards_last {l : List Nat} {i : Nat} (h : l.length = i + 1) : atI (cardsV l) (-1) = some (.int (l.getD i 0 : Nat)) := by
  have e : l = l.take i ++ [l.getD i 0] := by
    rw [List.getD_eq_getElem?_getD, List.getElem?_eq_getElem (by omega)]
    show l = l.take i ++ [l[i]]
    rw [← List.take_succ_eq_append_getElem (by omega), ← h, List.take_length]
  have e2 : cardsV l = cardsV (l.take i) ++ [.int (l.getD i 0 : Nat)] := by
    rw [show cardsV l = cardsV (l.take i ++ [l.getD i 0]) from congrArg cardsV e, cardsV_app]
    rfl
  rw [e2]
  exact atI_last _ _
theorem perm_deal (a b c P S L D E G : List Cell) : (c ++ ((a ++ b) ++ (P ++ (S ++ (L ++ (D ++ (E ++ G))))))).Perm ((P ++ (S ++ (c ++ (D ++ (E ++ ((a ++ b) ++ G)))))) ++ L) := by
  classical
  rw [List.perm_iff_count]
  intro z
  simp only [List.count_append]
  omega
theorem cells_at {C : Adr} {t : Addr} (T : TabL) (a r : List SeatL) (y s : SeatL) (ey : y.a = s.a) : TabL.cells C t { T with seats := a ++ y :: r } =
    ((t, T.obj C) :: (TabL.rest C { T with seats := a ++ s :: r } ++ a.flatMap (SeatL.own C))) ++ ([(y.a, y.obj C)] ++ ([(y.l, .lst (refsH y.hs))] ++ (r.flatMap (SeatL.own C) ++ ((a.flatMap (·.hs)).flatMap (HandL.cells C) ++ (y.hs.flatMap (HandL.cells C) ++ (r.flatMap (·.hs)).flatMap (HandL.cells C)))))) := by
  have e1 : TabL.rest C { T with seats := a ++ y :: r } = TabL.rest C { T with seats := a ++ s :: r } := by
    unfold TabL.rest refsS
    simp [ey]
  unfold TabL.cells TabL.under TabL.hands
  rw [e1]
  simp [SeatL.own, List.flatMap_append]
  rfl
def dealD (B : TabL) (z : List Nat) (sd : List SeatL) (p : Addr) (u v ph : Nat) : TabL := { B with left := z, seats := sd, dl := p, dealer := [u, v], phase := ph }
theorem abs_dealD {B : TabL} {z L : List Nat} {sd : List SeatL} {p : Addr} {m : Nat} (hm : B.abs.staked.length = m) (exs : sd.map SeatL.x = dealX L m 0 (B.seats.map SeatL.x)) (ews : sd.map (·.won) = B.seats.map (·.won)) :
    (dealD B z sd p (L.getD m 0) (L.getD (2 * m + 1) 0) 1).abs = dealtS B.abs L z := by
  have e : dealtS B.abs L z = { B.abs with shoe := z, dealer := [L.getD B.abs.staked.length 0, L.getD (2 * B.abs.staked.length + 1) 0], phase := 1, seats := (dealtS B.abs L z).seats } := rfl
  rw [e, dealt_seats, hm]
  unfold dealD TabL.abs
  dsimp only
  rw [exs, ews]
theorem peeked_phase (s : Kg84.State) (n : Nat) : Kg84.State.peeked { s with phase := n } = s.peeked := rfl
def dealT (B : TabL) (z : List Nat) (ss : List SeatL) : TabL := { B with left := z, seats := ss }
section
variable {P : Program} {w : World} {K : PySem.W.Frag} {mg : Str → Option Value} {base : Heap} {C : Adr}
theorem ok_Table_deal (T : Txt K mg C) : MethOk P w K mg base (L2.CX P w) 12 C.T "deal" P_Table_deal (sp_deal C) := by
  refine T.m_Table_deal.okX sc_Table_deal (fun _ _ F => b_Table_deal F) ?_ ?_
  · rintro vs H Q E ⟨l, ca, H0, t, B, rfl, _⟩
    rfl
  · intro f cdv A outer sh H vs Q E hr h
    obtain ⟨l, ca, H0, t, B, rfl, hB, hS, hl, hZ, q⟩ := h
    refine ⟨_, (pss_cons (ps_expr (pe_cD (ok_must T) hr (by decide) (passes_call (takes_of rfl rfl rfl rfl) (fun _ _ _ _ h => h)) (pa_cons (pe_cD (ok_are_cards T) hr (by decide) pass0 (pa_cons (pv 1) pa_nil)) (pa_cons (pe_un un_neg pe_int) pa_nil))))
      (pss_cons (ps_expr (pe_cM (ok_Table_must_phase T) hr (by decide) T.clT (passes_call (takes_of rfl rfl rfl rfl) (fun _ _ _ _ h => h)) (pv 0) (pa_cons (pe_tup (pa_cons (pe_gI T.g_STAKES) pa_nil)) pa_nil)))
      (pss_cons (ps_set (i := 2) sc_Table_deal.nd rfl (Or.inl rfl) (pe_cM0 (ok_Table_playing T) hr (by decide) T.clT pass0 (pv 0)))
      (pss_cons (ps_expr (pe_cD (ok_must T) hr (by decide) (passes_call (takes_of rfl rfl rfl rfl) (fun _ _ _ _ h => h)) (pa_cons (pe_and (pe_cmpR (op_neNil hr.units) (pv 2) (pe_lst pa_nil) (nomark _)) (pe_one (pe_cmp (pc_eqI (pe_callB call_len_seq (by rfl) T.z_len PySem.boot_len (pa_cons (pv 1) pa_nil)) (pe_op op_add (pe_op op_mul pe_int (pe_callB call_len_seq (by rfl) T.z_len PySem.boot_len (pa_cons (pv 2) pa_nil))) pe_int))))) (pa_cons (pe_un un_neg pe_int) pa_nil))))
      (pss_cons (ps_expr (pe_cM (ok_Table_take T) hr (by decide) T.clT (passes_call (takes_of rfl rfl rfl rfl) (fun _ _ _ _ h => h)) (pv 0) (pa_cons (pv 1) pa_nil)))
      (pss_cons (ps_set (i := 3) sc_Table_deal.nd rfl (Or.inl rfl) (pe_op op_add (pe_callB call_len_seq (by rfl) T.z_len PySem.boot_len (pa_cons (pv 2) pa_nil)) pe_int))
      (pss_cons (ps_for (passes_of rfl) rfl (pi_enum rfl T.z_enumerate (pa_cons (pv 2) pa_nil)) (pg_tup rfl (pgs_cons (pg_name (i := 4) sc_Table_deal.nd rfl (Or.inl rfl)) (pgs_cons (pg_name (i := 5) sc_Table_deal.nd rfl (Or.inl rfl)) pgs_nil))) (pss_one (ps_fld (pv 5) (pe_lst (pa_cons (pe_cK (ok_Hand_init T) hr (by decide) (pa_cons (pe_lst (pa_cons (pe_ix ix_list (pv 1) (pv 4) (fun _ _ => rfl)) (pa_cons (pe_ix ix_list (pv 1) (pe_op op_add (pv 3) (pv 4)) (fun _ _ => rfl)) pa_nil))) (pa_cons (pe_fld (pv 5) rfl) (pa_cons pe_bl pa_nil)))) pa_nil)) rfl)))
      (pss_cons (ps_fld (pv 0) (pe_lst (pa_cons (pe_ix ix_list (pv 1) (pe_op op_sub (pv 3) pe_int) (fun _ _ => rfl)) (pa_cons (pe_ix ix_list (pv 1) (pe_un un_neg pe_int) (fun _ _ => rfl)) pa_nil))) rfl)
      (pss_cons (ps_if (pt_cmp (pc_eqI (pe_ix ix_list (pe_fld (pv 0) rfl) pe_int (fun _ _ => rfl)) (pe_gI T.g_ACE))) (pss_one (ps_fld (pv 0) (pe_gI T.g_INSURANCE) rfl)) (pss_one (ps_expr (pe_cM0 (ok_Table_look T) hr (by decide) T.clT pass0 (pv 0)))))
      (pss_one (ps_ret (pe_op op_cat (pe_lst (pa_cons pe_int pa_nil)) (pe_cM0 (ok_Table_stands T) hr (by decide) T.clT pass0 (pv 0)))))))))))))), ?_⟩
    have hS1 := hB.own.same _ _ hS
    refine ⟨_, rfl, ca, l, rfl, SqL.of hS1, by omega, fun H2 s2 => ?_⟩
    refine ⟨_, rfl, _, _, rfl, fun e1 => ?_, fun e1 => (q.refuse (deal_1 e1) (by decide)).at s2⟩
    have hB2 := hB.sameR s2
    obtain ⟨ec, hdk⟩ := nats_of e1
    have ln : (Kg84.nats l).length = l.length := nats_len l
    rw [ec] at hS hS1
    refine ⟨_, rfl, t, B.d, _, rfl, hB2.obj, tabF_no_must_phase, (by show 1 ≤ sizeLine; decide), fun p2 hp2 => ?_⟩
    have s3 := Same.upd (o := .tup [.int 0]) s2 (s2.free hp2)
    have hB3 := hB.sameR s3
    refine ⟨H0, t, p2, B, [0], rfl, hB3, SqT.of upd_same, fun e3 => ?_, fun e3 => (q.refuse (deal_3 e1 ?_) (by decide)).sub s3⟩
    rotate_left
    · intro z
      exact e3 (by rw [List.mem_singleton]; exact z)
    have p0 : B.phase = 0 := by simpa using e3
    refine ⟨_, rfl, t, B.d, _, rfl, hB3.obj, tabF_no_playing, H0, t, B, rfl, hB3, fun H4 p4 hp4 s4 e4 => ?_⟩
    have s04 := s3.trans s4
    have hB4' := hB.sameR s04
    have n4 : H0 p4 = none := hB3.own.free hp4
    have hB4 : Tab C (upd H0 p4 (.lst (refsS (B.seats.filter stL)))) H4 t B := ⟨hB4'.own.frameHas n4 e4 (hB3.own.notin hp4), hB.fit⟩
    have sl : (B.seats.filter stL).length = B.abs.staked.length := (staked_L B).symm
    have m7 : B.abs.staked.length ≤ 7 := by
      rw [← sl]
      exact Nat.le_trans (List.length_filter_le _ _) hB.fit.seats
    generalize hm : B.abs.staked.length = m at sl m7
    refine ⟨_, rfl, Nat.zero_le _, fun p5 hp5 => ?_⟩
    have s05 : Same H (upd H4 p5 (.lst [])) := Same.upd s04 (s04.free hp5)
    have e4' : upd H4 p5 (.lst []) p4 = some (.lst (refsS (B.seats.filter stL))) := same_new hp5 _ _ e4
    have hB5 : Tab C (upd H0 p4 (.lst (refsS (B.seats.filter stL)))) (upd H4 p5 (.lst [])) t B := hB4.sameR (same_new hp5)
    have ls : (refsS (B.seats.filter stL)).length = m := by rw [refsS_len]; exact sl
    refine ⟨p4, p5, _, rfl, rfl, SqL.of e4', SqL.of upd_same, _, rfl, ?_⟩
    refine ifB (b := !(refsS (B.seats.filter stL)).isEmpty) rfl (fun e5 => ?_) (fun e5 => ?_)
    rotate_left
    · refine ⟨_, rfl, _, _, rfl, (fun z => Bool.noConfusion z), fun _ => (q.refuse (deal_4 e1 p0 (.inl ?_)) (by decide)).at s05⟩
      have : refsS (B.seats.filter stL) = [] := by
        cases h : refsS (B.seats.filter stL) with
        | nil => rfl
        | cons a r =>
          rw [h] at e5
          cases e5
      rw [this] at ls
      rw [← List.length_eq_zero_iff, hm]
      exact ls.symm
    have m1 : 0 < m := by
      rw [← ls]
      cases h : refsS (B.seats.filter stL) with
      | nil =>
        rw [h] at e5
        cases e5
      | cons a r => exact Nat.succ_pos _
    refine ⟨_, rfl, ca, _, rfl, .inl (SqL.of (s05 _ _ hS1)), _, rfl, p4, _, rfl, .inl (SqL.of e4'), _, _, rfl, rfl, .inl (by decide), _, _, rfl, rfl, _, _, rfl, rfl, _, rfl, _, _, rfl, fun e6 => ?_, fun e6 => (q.refuse (deal_4 e1 p0 (.inr ?_)) (by decide)).at s05⟩
    rotate_left
    · have := of_decide_eq_false e6
      rw [cardsV_len, ls] at this
      rw [hm]
      omega
    have k6 : l.length = 2 * m + 2 := by
      have := of_decide_eq_true e6
      rw [cardsV_len, ls] at this
      omega
    have k4 : ¬ (B.abs.staked = [] ∨ l.length ≠ 2 * B.abs.staked.length + 2) := by
      rintro (z | z)
      · rw [z] at hm
        simp at hm
        omega
      · rw [hm] at z
        exact z k6
    refine ⟨_, rfl, t, B.d, _, rfl, hB5.obj, tabF_no_take, _, rfl, _, t, ca, B, Kg84.nats l, rfl, hB5, SqL.of (same_new n4 _ _ hS), hdk, by omega, fun e7 => (q.refuse (deal_5 e1 p0 k4 e7) (by decide)).sub s05, fun z e7 H7 hB7 => ?_⟩
    have hca : ∀ {H'} {T'}, Tab C (upd H0 p4 (.lst (refsS (B.seats.filter stL)))) H' t T' → H' ca = some (.lst (cardsV (Kg84.nats l))) ∧ H' p4 = some (.lst (refsS (B.seats.filter stL))) := fun hB' => ⟨hB'.own.same _ _ (same_new n4 _ _ hS), hB'.own.same _ _ upd_same⟩
    refine ⟨_, rfl, p4, _, rfl, .inl (SqL.of (hca hB7).2), _, _, rfl, rfl, ?_⟩
    refine ⟨_, rfl, p4, _, rfl, SqL.of (hca hB7).2, ?_⟩
    have f7 := hB7.fit
    have ez7 : (dealT B z B.seats).seats = B.seats := rfl
    refine for_it walk_enum (fun i σ H' => ∃ (v1 v2 : Option V) (ss pre rest : List SeatL), σ = [some (.ref t), some (.ref ca), some (.ref p4), some (.int ((m + 1 : Nat) : Int)), v1, v2] ∧ B.seats = pre ++ rest ∧ rest.filter stL = (B.seats.filter stL).drop i ∧ (pre.filter stL).length = i ∧
        ss.map SeatL.x = dealX (Kg84.nats l) m 0 (pre.map SeatL.x) ∧ ss.map (·.won) = pre.map (·.won) ∧ Tab C (upd H0 p4 (.lst (refsS (B.seats.filter stL)))) H' t (dealT B z (ss ++ rest)))
      ⟨none, none, [], [], B.seats, by rw [ls]; rfl, rfl, rfl, rfl, rfl, rfl, hB7⟩ (fun i σ H' _ ⟨_, _, _, _, _, _, _, _, _, _, _, B'⟩ => SqL.of (hca B').2) ?_ ?_
    · rintro i v σ H8 H9 hi ⟨v1, v2, ss, pre, rest, rfl, epre, er, ep, ex, ew, hB8⟩ ⟨Tu, x, y, rfl, hT, rfl, ex1, ey⟩
      cases ex1
      obtain ⟨s, hs, rfl⟩ := refsS_at ey
      have im : i < m := by
        rw [← ls]
        exact hi
      have er' : rest.filter stL = s :: (B.seats.filter stL).drop (i + 1) := by
        rw [er, List.drop_eq_getElem_cons (by omega)]
        congr 1
        exact (List.getElem?_eq_some_iff.mp hs).2
      obtain ⟨u, r, rfl, hu, hst, er2⟩ := List.filter_eq_cons_iff.mp er'
      have hsm : s ∈ B.seats := by
        rw [epre]
        simp
      have hs0 : s.hs = [] := hZ p0 s hsm
      have hB8' : Tab C (upd H0 p4 (.lst (refsS (B.seats.filter stL)))) H8 t (dealT B z ((ss ++ u) ++ s :: r)) := by
        rw [List.append_assoc]
        exact hB8
      have O8 := hB8'.own
      rw [show TabL.cells C t (dealT B z ((ss ++ u) ++ s :: r)) = _ from cells_at { B with left := z } (ss ++ u) r s s rfl, hs0] at O8
      have O9 := O8.sameR (same_new (o := .tup [.int (i : Nat), .ref s.a]) hT)
      refine ⟨Tu, _, rfl, SqT.of upd_same, rfl, _, _, rfl, _, _, rfl, rfl, ?_⟩
      have hca9 := O9.same _ _ (same_new (o := .lst (refsS (B.seats.filter stL))) n4 _ _ hS)
      have c1 := cards_at (l := Kg84.nats l) (i := i) (by omega)
      have c2 := cards_at (l := Kg84.nats l) (i := m + 1 + i) (by omega)
      refine ⟨_, rfl, _, rfl, ca, _, _, _, rfl, rfl, SqL.of hca9, atI_nat' c1, _, rfl, _, rfl, _, rfl, _, _, rfl, rfl, ca, _, _, _, rfl, rfl, SqL.of hca9, atI_nat' c2, ?_⟩
      refine ⟨(by show 2 ≤ sizeLine; decide), fun p hp => ?_⟩
      have O10 := O9.new (o := .lst [.int ((Kg84.nats l).getD i 0 : Nat), .int ((Kg84.nats l).getD (m + 1 + i) 0 : Nat)]) hp
      have k10 : (s.a, s.obj C) ∈ ((p, HO.lst [.int ((Kg84.nats l).getD i 0 : Nat), .int ((Kg84.nats l).getD (m + 1 + i) 0 : Nat)]) :: (((t, TabL.obj C { B with left := z }) :: (TabL.rest C { B with left := z, seats := (ss ++ u) ++ s :: r } ++ (ss ++ u).flatMap (SeatL.own C))) ++ ([(s.a, s.obj C)] ++ ([(s.l, .lst (refsH []))] ++ (r.flatMap (SeatL.own C) ++ (((ss ++ u).flatMap (·.hs)).flatMap (HandL.cells C) ++ (([] : List HandL).flatMap (HandL.cells C) ++ (r.flatMap (·.hs)).flatMap (HandL.cells C)))))))) := List.mem_cons_of_mem _ (List.mem_append_right _ (List.mem_append_left _ (List.mem_singleton.mpr rfl)))
      refine ⟨_, rfl, s.a, C.S, _, _, _, rfl, O10.holds _ k10, T.clS, T.nS_stake, seatF_stake, ?_⟩
      intro ha hd na nd ne
      have O11 := O10.sameR (same_new (o := .own ha) nd)
      have na11 := (upd_ne (H := upd (upd H8 Tu (.tup [.int (i : Nat), .ref s.a])) p (.lst [.int ((Kg84.nats l).getD i 0 : Nat), .int ((Kg84.nats l).getD (m + 1 + i) 0 : Nat)])) (o := .own ha) (Ne.symm ne)).trans na
      have O12 := O11.new (o := .ins C.H hd []) na11
      refine ⟨ha, p, hd, _, _, rfl, upd_same, rfl, ?_⟩
      have O13 := O12.put0 (HandL.obj C ⟨ha, p, hd, freshH (Kg84.nats l) m i s.stake⟩)
      refine ⟨(by show 1 ≤ sizeLine; decide), fun p2 hp2 => ?_⟩
      have O14 := O13.new (o := .lst [.ref ha]) hp2
      have O15 := O14.perm (perm_deal [(ha, HandL.obj C ⟨ha, p, hd, freshH (Kg84.nats l) m i s.stake⟩)] [(p, .lst [.int ((Kg84.nats l).getD i 0 : Nat), .int ((Kg84.nats l).getD (m + 1 + i) 0 : Nat)])] [(p2, .lst [.ref ha])] ((t, TabL.obj C { B with left := z }) :: (TabL.rest C { B with left := z, seats := (ss ++ u) ++ s :: r } ++ (ss ++ u).flatMap (SeatL.own C))) [(s.a, s.obj C)] [(s.l, .lst (refsH []))] (r.flatMap (SeatL.own C)) (((ss ++ u).flatMap (·.hs)).flatMap (HandL.cells C)) (([] : List HandL).flatMap (HandL.cells C) ++ (r.flatMap (·.hs)).flatMap (HandL.cells C)))
      have O16 := O15.sub (List.sublist_append_left _ _)
      refine ⟨_, rfl, s.a, C.S, _, _, rfl, O16.get, T.clS, T.nS_hands, seatF_len, ?_⟩
      rw [seatF_put_hands]
      have O17 := O16.put (SeatL.obj C { s with l := p2, hs := [⟨ha, p, hd, freshH (Kg84.nats l) m i s.stake⟩] })
      have ecs := cells_at (C := C) (t := t) { B with left := z } (ss ++ u) r { s with l := p2, hs := [⟨ha, p, hd, freshH (Kg84.nats l) m i s.stake⟩] } s rfl
      have e9 : (ss ++ (u ++ [{ s with l := p2, hs := [⟨ha, p, hd, freshH (Kg84.nats l) m i s.stake⟩] }])) ++ r = (ss ++ u) ++ { s with l := p2, hs := [⟨ha, p, hd, freshH (Kg84.nats l) m i s.stake⟩] } :: r := by simp
      refine ⟨_, _, ss ++ (u ++ [{ s with l := p2, hs := [⟨ha, p, hd, freshH (Kg84.nats l) m i s.stake⟩] }]), pre ++ (u ++ [s]), r, rfl, ?_, er2, ?_, ?_, ?_, ⟨?_, ?_⟩⟩
      · rw [epre]
        simp
      · have hu' : u.filter stL = [] := List.filter_eq_nil_iff.mpr hu
        rw [List.filter_append, List.filter_append, hu', List.filter_cons, if_pos hst]
        simp [ep]
      · have hu' : (u.map SeatL.x).filter isSt = [] := List.filter_eq_nil_iff.mpr fun y hy => by
          obtain ⟨w, hw, rfl⟩ := List.mem_map.mp hy
          exact hu w hw
        rw [List.map_append, List.map_append, List.map_append, List.map_append, dealX_app, ex, filter_x, ep, dealX_app, hu', dealX_none _ _ (u.map SeatL.x) _ (fun y hy => by
          obtain ⟨w, hw, rfl⟩ := List.mem_map.mp hy
          exact hu w hw)]
        congr 1
        congr 1
        show [(⟨s.stake, s.insured, [freshH (Kg84.nats l) m i s.stake]⟩ : Kg84.Seat)] = dealX _ m (0 + i + 0) [s.x]
        rw [dealX_cons, if_pos (show isSt s.x = true from hst)]
        rw [show 0 + i + 0 = i by omega]
        rfl
      · rw [List.map_append, ew]
        simp
      · rw [e9, show TabL.cells C t (dealT B z ((ss ++ u) ++ { s with l := p2, hs := [⟨ha, p, hd, freshH (Kg84.nats l) m i s.stake⟩] } :: r)) = _ from ecs]
        exact O17
      · have g8 := hB8'.fit
        rw [e9]
        refine ⟨?_, fun y hy => ?_, fun y hy w hw => ?_, g8.dealer, g8.left⟩
        · have := g8.seats
          show ((ss ++ u) ++ _ :: r).length ≤ 7
          rw [show (dealT B z ((ss ++ u) ++ s :: r)).seats = (ss ++ u) ++ s :: r from rfl, List.length_append, List.length_cons] at this
          rw [List.length_append, List.length_cons]
          exact this
        · rcases List.mem_append.mp (show y ∈ (ss ++ u) ++ { s with l := p2, hs := [⟨ha, p, hd, freshH (Kg84.nats l) m i s.stake⟩] } :: r from hy) with h | h
          · exact g8.hands y (List.mem_append_left _ h)
          · rcases List.mem_cons.mp h with h | h
            · subst h
              show 1 ≤ 300
              decide
            · exact g8.hands y (List.mem_append_right _ (List.mem_cons_of_mem _ h))
        · rcases List.mem_append.mp (show y ∈ (ss ++ u) ++ { s with l := p2, hs := [⟨ha, p, hd, freshH (Kg84.nats l) m i s.stake⟩] } :: r from hy) with h | h
          · exact g8.cards y (List.mem_append_left _ h) w hw
          · rcases List.mem_cons.mp h with h | h
            · subst h
              have hw' : w = ⟨ha, p, hd, freshH (Kg84.nats l) m i s.stake⟩ := List.mem_singleton.mp hw
              subst hw'
              show 2 ≤ 9000
              decide
            · exact g8.cards y (List.mem_append_right _ (List.mem_cons_of_mem _ h)) w hw
    · rintro σ H8 ⟨v1, v2, ss, pre, rest, rfl, epre, er, ep, ex, ew, hB8⟩
      rw [ls] at er
      have er0 : rest.filter stL = [] := by rw [er, ← sl, List.drop_length]
      have exs : (ss ++ rest).map SeatL.x = dealX (Kg84.nats l) m 0 (B.seats.map SeatL.x) := by
        rw [epre, List.map_append, List.map_append, dealX_app, ex, dealX_none _ _ (rest.map SeatL.x) _ (fun y hy => by
          obtain ⟨w, hw, rfl⟩ := List.mem_map.mp hy
          exact List.filter_eq_nil_iff.mp er0 w hw)]
      have ews : (ss ++ rest).map (·.won) = B.seats.map (·.won) := by
        rw [epre, List.map_append, List.map_append, ew]
      generalize ss ++ rest = sd at exs ews hB8
      have O8 := hB8.own
      have hca8 := (hca hB8).1
      have a1 : atI (cardsV (Kg84.nats l)) (((m + 1 : Nat) : Int) - 1) = some (.int ((Kg84.nats l).getD m 0 : Nat)) := by
        rw [show ((m + 1 : Nat) : Int) - 1 = (m : Nat) by omega]
        exact atI_nat' (cards_at (by omega))
      have a2 := cards_last (l := Kg84.nats l) (i := 2 * m + 1) (by omega)
      refine ⟨_, rfl, _, rfl, _, _, rfl, rfl, ca, _, _, _, rfl, rfl, SqL.of hca8, a1, _, rfl, _, rfl, ca, _, _, _, rfl, rfl, SqL.of hca8, a2, (by show 2 ≤ sizeLine; decide), fun p6 hp6 => ?_⟩
      have O9 := (O8.new (o := .lst [.int ((Kg84.nats l).getD m 0 : Nat), .int ((Kg84.nats l).getD (2 * m + 1) 0 : Nat)]) hp6).swap
      refine ⟨_, rfl, t, C.T, _, _, rfl, O9.get0, T.clT, T.nT_dealer, tabF_len, ?_⟩
      rw [tabF_put_dealer]
      have hB9 : Tab C (upd H0 p4 (.lst (refsS (B.seats.filter stL)))) (upd (upd H8 p6 (.lst [.int ((Kg84.nats l).getD m 0 : Nat), .int ((Kg84.nats l).getD (2 * m + 1) 0 : Nat)])) t (TabL.obj C (dealD B z sd p6 ((Kg84.nats l).getD m 0) ((Kg84.nats l).getD (2 * m + 1) 0) B.phase))) t (dealD B z sd p6 ((Kg84.nats l).getD m 0) ((Kg84.nats l).getD (2 * m + 1) 0) B.phase) := by
        have O10 := O9.put0 (TabL.obj C (dealD B z sd p6 ((Kg84.nats l).getD m 0) ((Kg84.nats l).getD (2 * m + 1) 0) B.phase))
        refine ⟨(O10.perm (cs' := ((t, TabL.obj C (dealD B z sd p6 ((Kg84.nats l).getD m 0) ((Kg84.nats l).getD (2 * m + 1) 0) B.phase)) :: (TabL.rest C (dealD B z sd p6 ((Kg84.nats l).getD m 0) ((Kg84.nats l).getD (2 * m + 1) 0) B.phase) ++ TabL.under C (dealT B z sd))) ++ [(B.dl, .lst (cardsV B.dealer))]) ?_).sub (List.sublist_append_left _ _), ⟨hB8.fit.seats, hB8.fit.hands, hB8.fit.cards, (by show 2 ≤ 9000; decide), hB8.fit.left⟩⟩
        show ([(t, TabL.obj C (dealD B z sd p6 ((Kg84.nats l).getD m 0) ((Kg84.nats l).getD (2 * m + 1) 0) B.phase))] ++ ([(p6, HO.lst [.int ((Kg84.nats l).getD m 0 : Nat), .int ((Kg84.nats l).getD (2 * m + 1) 0 : Nat)])] ++ (([(B.ls, HO.lst (refsS sd))] ++ ([(B.dl, HO.lst (cardsV B.dealer))] ++ [(B.sh, shoeO C B.dsh B.lf), (B.lf, HO.lst (cardsV z))])) ++ TabL.under C (dealT B z sd)))).Perm
          (([(t, TabL.obj C (dealD B z sd p6 ((Kg84.nats l).getD m 0) ((Kg84.nats l).getD (2 * m + 1) 0) B.phase))] ++ (([(B.ls, HO.lst (refsS sd))] ++ ([(p6, HO.lst [.int ((Kg84.nats l).getD m 0 : Nat), .int ((Kg84.nats l).getD (2 * m + 1) 0 : Nat)])] ++ [(B.sh, shoeO C B.dsh B.lf), (B.lf, HO.lst (cardsV z))])) ++ TabL.under C (dealT B z sd))) ++ [(B.dl, HO.lst (cardsV B.dealer))])
        classical
        rw [List.perm_iff_count]
        intro y
        simp only [List.count_append]
        omega
      have fr : ∀ s ∈ sd, ∀ x ∈ s.hs, x.h.state = 0 ∧ x.h.aces = false := by
        intro s hs x hx
        have h1 : s.x ∈ dealX (Kg84.nats l) m 0 (B.seats.map SeatL.x) := by
          rw [← exs]
          exact List.mem_map_of_mem hs
        have h2 : x.h ∈ s.x.hands := List.mem_map_of_mem hx
        rcases fresh_of _ _ _ _ (fun y hy => by
          obtain ⟨w, hw, rfl⟩ := List.mem_map.mp hy
          show w.hs.map (·.h) = []
          rw [hZ p0 w hw]
          rfl) _ h1 with h | ⟨j, st, h⟩
        · rw [h] at h2
          cases h2
        · rw [h, List.mem_singleton] at h2
          rw [h2]
          exact ⟨rfl, rfl⟩
      have ab := abs_dealD (z := z) (p := p6) hm exs ews
      have d0 := deal_0 (s := B.abs) e1 p0 k4 e7
      rw [hm] at d0
      refine ⟨_, rfl, t, C.T, _, _, _, rfl, hB9.obj, T.clT, T.nT_dealer, tabF_dealer, p6, _, _, _, rfl, rfl, SqL.of hB9.dl, rfl, _, _, rfl, rfl, _, rfl, ?_⟩
      refine ifB (b := (Kg84.nats l).getD m 0 == 1) (nat_eq _ 1) (fun e9 => ?_) (fun e9 => ?_)
      · have e9' : (Kg84.nats l).getD m 0 = 1 := beq_iff_eq.mp e9
        refine ⟨_, rfl, t, C.T, _, _, rfl, hB9.obj, T.clT, T.nT_phase, tabF_len, ?_⟩
        rw [tabF_put_phase]
        have hB10 : Tab C _ _ t (dealD B z sd p6 ((Kg84.nats l).getD m 0) ((Kg84.nats l).getD (2 * m + 1) 0) 1) := ⟨hB9.own.put0 (TabL.obj C (dealD B z sd p6 ((Kg84.nats l).getD m 0) ((Kg84.nats l).getD (2 * m + 1) 0) 1)), phase_fit hB9.fit 1⟩
        refine stands_core hB10 (fun z => by cases z) (Gives.weak (same_new n4) (q.give ?_ (by decide))) rfl
        rw [d0, if_pos e9', ab]
        rfl
      · have e9' : ¬ (Kg84.nats l).getD m 0 = 1 := beq_eq_false_iff_ne.mp e9
        refine ⟨_, rfl, t, B.d, _, rfl, hB9.obj, tabF_no_look, _, t, _, rfl, hB9, fun H10 hB10 => ?_⟩
        refine stands_core hB10 lookT_turn (Gives.weak (same_new n4) (q.give ?_ (by decide))) rfl
        rw [d0, if_neg e9', abs_lookT (T := dealD B z sd p6 _ _ _) fr, ← ab]
        rfl
end
end Bj
namespace Bj
open PySem PySem.Spec PyProof.Rows L2
inductive Is : Int → List Int → List (List Int) → Kg84.Call → Prop
  | begin (n d a b g m : Int) : Is 1 [n, d, a, b, g, m] [] (.begin_ n d a b g m)
  | stake (i n : Int) : Is 2 [i, n] [] (.stake i n)
  | deal (l : List Int) : Is 3 [] [l] (.deal l)
  | insure (i y : Int) : Is 4 [i, y] [] (.insure i y)
  | hit (c : Int) : Is 5 [c] [] (.hit c)
  | stand : Is 6 [] [] .stand
  | double (c : Int) : Is 7 [c] [] (.double c)
  | split (c d : Int) : Is 8 [c, d] [] (.split c d)
  | give : Is 9 [] [] .give
  | dealer (l : List Int) : Is 10 [] [l] (.dealer l)
  | shuffle (d : Int) : Is 11 [d] [] (.shuffle d)
  | now : Is 12 [] [] .now
  | seat (i : Int) : Is 13 [i] [] (.seat i)
  | shoe : Is 14 [] [] .shoe
structure Side (T : TabL) : Prop where
  hands : InHands T
  p0 : T.phase = 0 → ∀ s ∈ T.seats, s.insured = 0 ∧ s.hs = []
  p1 : T.phase = 1 → ∀ s ∈ T.seats, ∀ x ∈ s.hs, x.h.state = 0 ∧ x.h.aces = false
  dealer : T.dealer.length ≤ 8000
def RowAt (H : Hp) (p : Addr) : List (List Int) → Prop
  | [] => True
  | l :: _ => l.length ≤ 20 ∧ ∃ a, H p = some (.lst [.ref a]) ∧ H a = some (.lst (l.map V.int))
def sp_of_hand (C : Adr) : Sp := fun vs H Q E => ∃ (H0 : Hp) (t pn : Addr) (T : TabL) (k : Int) (ns : List Int) (c : Kg84.Call), vs = [.ref t, .int k, .ref pn] ∧ Tab C H0 H t T ∧ Side T ∧ Is k ns [] c ∧ 5 ≤ k ∧ k < 10 ∧ H0 pn = some (.lst (ns.map V.int)) ∧
  Tells C H0 t T (Kg84.spec T.abs c) H Q E
def sp_telling (C : Adr) : Sp := fun vs H Q E => ∃ (H0 : Hp) (t pn : Addr) (T : TabL) (k : Int) (ns : List Int) (c : Kg84.Call), vs = [.ref t, .int k, .ref pn] ∧ Tab C H0 H t T ∧ Side T ∧ Is k ns [] c ∧ 12 ≤ k ∧ H0 pn = some (.lst (ns.map V.int)) ∧
  Tells C H0 t T (Kg84.spec T.abs c) H Q E
def sp_by_call (C : Adr) : Sp := fun vs H Q E => ∃ (H0 : Hp) (t pn pr : Addr) (T : TabL) (k : Int) (ns : List Int) (rs : List (List Int)) (c : Kg84.Call), vs = [.ref t, .int k, .ref pn, .ref pr] ∧ Tab C H0 H t T ∧ Side T ∧ Is k ns rs c ∧ H0 pn = some (.lst (ns.map V.int)) ∧ RowAt H0 pr rs ∧
  Tells C H0 t T (Kg84.spec T.abs c) H Q E
theorem range13 {l : List Nat} (h : l.length = 13) : Kg84.whole ((List.range 13).map fun k => l.getD k 0) = Kg84.whole l := by
  congr 1
  apply List.ext_getElem?
  intro i
  rw [List.getElem?_map]
  by_cases hi : i < 13
  · rw [List.getElem?_range hi, List.getElem?_eq_getElem (by omega)]
    show some (l.getD i 0) = _
    rw [List.getD_eq_getElem?_getD, List.getElem?_eq_getElem (by omega)]
    rfl
  · rw [List.getElem?_eq_none (by rw [List.length_range]; omega), List.getElem?_eq_none (by omega)]
    rfl
theorem cards_whole (l : List Nat) : cardsV l = (Kg84.whole l).map V.int := rfl
section
variable {P : Program} {w : World} {K : PySem.W.Frag} {mg : Str → Option Value} {base : Heap} {C : Adr}
theorem ok_Table_of_hand (T : Txt K mg C) : MethOk P w K mg base (L2.CX P w) 13 C.T "of_hand" P_Table_of_hand (sp_of_hand C) := by
  refine T.m_Table_of_hand.okX sc_Table_of_hand (fun _ _ F => b_Table_of_hand F) ?_ ?_
  · rintro vs H Q E ⟨H0, t, pn, B, k, ns, c, rfl, _⟩
    rfl
  · intro f cdv A outer sh H vs Q E hr h
    obtain ⟨H0, t, pn, B, k, ns, c, rfl, hB, hS, hI, h5, h10, hn, q⟩ := h
    have hn1 := hB.own.same _ _ hn
    refine ⟨_, (pss_cons (ps_if (pt_cmp (pc_eqI (pv 1) pe_int)) (pss_one (ps_ret (pe_cM (ok_Table_hit T) hr (by decide) T.clT (passes_call (takes_of rfl rfl rfl rfl) (fun _ _ _ _ h => h)) (pv 0) (pa_cons (pe_ix ix_list (pv 2) pe_int (fun _ _ => rfl)) pa_nil)))) pss_nil)
      (pss_cons (ps_if (pt_cmp (pc_eqI (pv 1) pe_int)) (pss_one (ps_ret (pe_cM0 (ok_Table_stand T) hr (by decide) T.clT (passes_call (takes_of rfl rfl rfl rfl) (fun _ _ _ _ h => h)) (pv 0)))) pss_nil)
      (pss_cons (ps_if (pt_cmp (pc_eqI (pv 1) pe_int)) (pss_one (ps_ret (pe_cM (ok_Table_double T) hr (by decide) T.clT (passes_call (takes_of rfl rfl rfl rfl) (fun _ _ _ _ h => h)) (pv 0) (pa_cons (pe_ix ix_list (pv 2) pe_int (fun _ _ => rfl)) pa_nil)))) pss_nil)
      (pss_cons (ps_if (pt_cmp (pc_eqI (pv 1) pe_int)) (pss_one (ps_ret (pe_cM (ok_Table_part T) hr (by decide) T.clT (passes_call (takes_of rfl rfl rfl rfl) (fun _ _ _ _ h => h)) (pv 0) (pa_cons (pe_ix ix_list (pv 2) pe_int (fun _ _ => rfl)) (pa_cons (pe_ix ix_list (pv 2) pe_int (fun _ _ => rfl)) pa_nil))))) pss_nil)
      (pss_one (ps_ret (pe_cM0 (ok_Table_give T) hr (by decide) T.clT (passes_call (takes_of rfl rfl rfl rfl) (fun _ _ _ _ h => h)) (pv 0)))))))), ?_⟩
    cases hI with
    | begin => omega
    | stake => omega
    | insure => omega
    | hit c =>
      refine ⟨_, rfl, _, _, rfl, rfl, _, rfl, iteT ?_⟩
      exact ⟨_, rfl, t, B.d, _, rfl, hB.obj, tabF_no_hit, _, rfl, pn, _, _, _, rfl, rfl, SqL.of hn1, rfl, c, H0, t, B, rfl, hB, hS.hands, q⟩
    | stand =>
      refine ⟨_, rfl, _, _, rfl, rfl, _, rfl, iteF ?_⟩
      refine ⟨_, rfl, _, _, rfl, rfl, _, rfl, iteT ?_⟩
      exact ⟨_, rfl, t, B.d, _, rfl, hB.obj, tabF_no_stand, H0, t, B, rfl, hB, hS.hands, q⟩
    | double c =>
      refine ⟨_, rfl, _, _, rfl, rfl, _, rfl, iteF ?_⟩
      refine ⟨_, rfl, _, _, rfl, rfl, _, rfl, iteF ?_⟩
      refine ⟨_, rfl, _, _, rfl, rfl, _, rfl, iteT ?_⟩
      exact ⟨_, rfl, t, B.d, _, rfl, hB.obj, tabF_no_double, _, rfl, pn, _, _, _, rfl, rfl, SqL.of hn1, rfl, c, H0, t, B, rfl, hB, hS.hands, q⟩
    | split c d =>
      refine ⟨_, rfl, _, _, rfl, rfl, _, rfl, iteF ?_⟩
      refine ⟨_, rfl, _, _, rfl, rfl, _, rfl, iteF ?_⟩
      refine ⟨_, rfl, _, _, rfl, rfl, _, rfl, iteF ?_⟩
      refine ⟨_, rfl, _, _, rfl, rfl, _, rfl, iteT ?_⟩
      exact ⟨_, rfl, t, B.d, _, rfl, hB.obj, tabF_no_part, _, rfl, pn, _, _, _, rfl, rfl, SqL.of hn1, rfl, _, rfl, pn, _, _, _, rfl, rfl, SqL.of hn1, rfl, c, d, H0, t, B, rfl, hB, hS.hands, q⟩
    | give =>
      refine ⟨_, rfl, _, _, rfl, rfl, _, rfl, iteF ?_⟩
      refine ⟨_, rfl, _, _, rfl, rfl, _, rfl, iteF ?_⟩
      refine ⟨_, rfl, _, _, rfl, rfl, _, rfl, iteF ?_⟩
      refine ⟨_, rfl, _, _, rfl, rfl, _, rfl, iteF ?_⟩
      exact ⟨_, rfl, t, B.d, _, rfl, hB.obj, tabF_no_give, H0, t, B, rfl, hB, hS.hands, q⟩
    | shuffle => omega
    | now => omega
    | seat => omega
    | shoe => omega
theorem ok_Table_telling (T : Txt K mg C) : MethOk P w K mg base (L2.CX P w) 13 C.T "telling" P_Table_telling (sp_telling C) := by
  refine T.m_Table_telling.okX sc_Table_telling (fun _ _ F => b_Table_telling F) ?_ ?_
  · rintro vs H Q E ⟨H0, t, pn, B, k, ns, c, rfl, _⟩
    rfl
  · intro f cdv A outer sh H vs Q E hr h
    obtain ⟨H0, t, pn, B, k, ns, c, rfl, hB, hS, hI, h12, hn, q⟩ := h
    have hn1 := hB.own.same _ _ hn
    refine ⟨_, (pss_cons (ps_if (pt_cmp (pc_eqI (pv 1) pe_int)) (pss_one (ps_ret (pe_op op_cat (pe_lst (pa_cons (pe_fld (pv 0) rfl) pa_nil)) (pe_cM0 (ok_Table_stands T) hr (by decide) T.clT pass0 (pv 0))))) pss_nil)
      (pss_cons (ps_if (pt_cmp (pc_eqI (pv 1) pe_int)) (pss_one (ps_ret (pe_cM (ok_Table_tell_seat T) hr (by decide) T.clT (passes_call (takes_of rfl rfl rfl rfl) (fun _ _ _ _ h => h)) (pv 0) (pa_cons (pe_ix ix_list (pv 2) pe_int (fun _ _ => rfl)) pa_nil)))) pss_nil)
      (pss_one (ps_ret (pe_op op_cat (pe_lst (pa_cons (pe_cM0 (ok_Shoe_many T) hr (by decide) T.clO pass0 (pe_fld (pv 0) rfl)) pa_nil)) (pe_fld (pe_fld (pv 0) rfl) rfl)))))), ?_⟩
    cases hI with
    | now =>
      refine ⟨_, rfl, _, _, rfl, rfl, _, rfl, iteT ?_⟩
      refine ⟨_, rfl, t, C.T, _, _, _, rfl, hB.obj, T.clT, T.nT_phase, tabF_phase, ?_⟩
      exact stands_core hB hS.hands.turn (q.give (T' := B) rfl (by omega)) rfl
    | seat i =>
      refine ⟨_, rfl, _, _, rfl, rfl, _, rfl, iteF ?_⟩
      refine ⟨_, rfl, _, _, rfl, rfl, _, rfl, iteT ?_⟩
      exact ⟨_, rfl, t, B.d, _, rfl, hB.obj, tabF_no_tell_seat, _, rfl, pn, _, _, _, rfl, rfl, SqL.of hn1, rfl, i, H0, t, B, rfl, hB, q⟩
    | shoe =>
      refine ⟨_, rfl, _, _, rfl, rfl, _, rfl, iteF ?_⟩
      refine ⟨_, rfl, _, _, rfl, rfl, _, rfl, iteF ?_⟩
      refine ⟨_, rfl, t, C.T, _, _, _, rfl, hB.obj, T.clT, T.nT_shoe, tabF_shoe, B.sh, B.dsh, _, rfl, hB.sh, shoeF_no_many, B.sh, B.dsh, B.lf, B.left, rfl, hB.sh, hB.lf, (by show 1 ≤ sizeLine; decide), fun p hp => ?_⟩
      have hB2 := hB.frame (o := .lst [.int (B.left.sum : Nat)]) hp
      have n0 : H0 p = none := hB.own.free hp
      refine ⟨_, rfl, t, C.T, _, _, _, rfl, hB2.obj, T.clT, T.nT_shoe, tabF_shoe, B.sh, C.O, _, _, _, rfl, hB2.sh, T.clO, T.nO_left, shoeF_left, p, B.lf, _, _, rfl, rfl, upd_same, hB2.lf, ?_, fun p2 hp2 => ?_⟩
      · rw [cardsV_len, hB.fit.left]
        show 1 + 13 ≤ sizeLine
        decide
      have hp20 : upd H0 p (.lst [.int (B.left.sum : Nat)]) p2 = none := hB2.own.free hp2
      have n2 : H0 p2 = none := (same_new n0).free hp20
      have e := congrArg Kg84.Ans.out (congrArg Prod.snd (show Kg84.spec B.abs .shoe = (B.abs, ⟨B.left.sum, Kg84.whole ((List.range 13).map fun k => B.left.getD k 0)⟩) from rfl))
      refine (q.give (T' := B) (v := (B.left.sum : Nat)) (out := Kg84.whole B.left) (by rw [← range13 hB.fit.left]; rfl) (by omega)).weak (same_new n0) _ p2 hp20 ?_
      exact hB2.frame hp2
    | _ => omega
theorem ok_Table_by_call (T : Txt K mg C) : MethOk P w K mg base (L2.CX P w) 14 C.T "by_call" P_Table_by_call (sp_by_call C) := by
  refine T.m_Table_by_call.okX sc_Table_by_call (fun _ _ F => b_Table_by_call F) ?_ ?_
  · rintro vs H Q E ⟨H0, t, pn, pr, B, k, ns, rs, c, rfl, _⟩
    rfl
  · intro f cdv A outer sh H vs Q E hr h
    obtain ⟨H0, t, pn, pr, B, k, ns, rs, c, rfl, hB, hS, hI, hn, hR, q⟩ := h
    have hn1 := hB.own.same _ _ hn
    refine ⟨_, (pss_cons (ps_if (pt_cmp (pc_eqI (pv 1) pe_int)) (pss_one (ps_ret (pe_cM (ok_Table_begin T) hr (by decide) T.clT (passes_call (takes_of rfl rfl rfl rfl) (fun _ _ _ _ h => h)) (pv 0) (pa_cons (pv 2) pa_nil)))) pss_nil)
      (pss_cons (ps_if (pt_cmp (pc_eqI (pv 1) pe_int)) (pss_one (ps_ret (pe_cM (ok_Table_lay_stake T) hr (by decide) T.clT (passes_call (takes_of rfl rfl rfl rfl) (fun _ _ _ _ h => h)) (pv 0) (pa_cons (pe_ix ix_list (pv 2) pe_int (fun _ _ => rfl)) (pa_cons (pe_ix ix_list (pv 2) pe_int (fun _ _ => rfl)) pa_nil))))) pss_nil)
      (pss_cons (ps_if (pt_cmp (pc_eqI (pv 1) pe_int)) (pss_one (ps_ret (pe_cM (ok_Table_deal T) hr (by decide) T.clT (passes_call (takes_of rfl rfl rfl rfl) (fun _ _ _ _ h => h)) (pv 0) (pa_cons (pe_ix ix_list (pv 3) pe_int (fun _ _ => rfl)) pa_nil)))) pss_nil)
      (pss_cons (ps_if (pt_cmp (pc_eqI (pv 1) pe_int)) (pss_one (ps_ret (pe_cM (ok_Table_insure T) hr (by decide) T.clT (passes_call (takes_of rfl rfl rfl rfl) (fun _ _ _ _ h => h)) (pv 0) (pa_cons (pe_ix ix_list (pv 2) pe_int (fun _ _ => rfl)) (pa_cons (pe_ix ix_list (pv 2) pe_int (fun _ _ => rfl)) pa_nil))))) pss_nil)
      (pss_cons (ps_if (pt_cmp (pc_lt (pv 1) pe_int)) (pss_one (ps_ret (pe_cM (ok_Table_of_hand T) hr (by decide) T.clT (passes_call (takes_of rfl rfl rfl rfl) (fun _ _ _ _ h => h)) (pv 0) (pa_cons (pv 1) (pa_cons (pv 2) pa_nil))))) pss_nil)
      (pss_cons (ps_if (pt_cmp (pc_eqI (pv 1) pe_int)) (pss_one (ps_ret (pe_cM (ok_Table_draw T) hr (by decide) T.clT (passes_call (takes_of rfl rfl rfl rfl) (fun _ _ _ _ h => h)) (pv 0) (pa_cons (pe_ix ix_list (pv 3) pe_int (fun _ _ => rfl)) pa_nil)))) pss_nil)
      (pss_cons (ps_if (pt_cmp (pc_eqI (pv 1) pe_int)) (pss_one (ps_ret (pe_cM (ok_Table_shuffle T) hr (by decide) T.clT (passes_call (takes_of rfl rfl rfl rfl) (fun _ _ _ _ h => h)) (pv 0) (pa_cons (pe_ix ix_list (pv 2) pe_int (fun _ _ => rfl)) pa_nil)))) pss_nil)
      (pss_one (ps_ret (pe_cM (ok_Table_telling T) hr (by decide) T.clT (passes_call (takes_of rfl rfl rfl rfl) (fun _ _ _ _ h => h)) (pv 0) (pa_cons (pv 1) (pa_cons (pv 2) pa_nil)))))))))))), ?_⟩
    have nth : ∀ {R : Prop}, R → R := fun h => h
    cases hI with
    | begin n d a b g m =>
      refine ⟨_, rfl, _, _, rfl, rfl, _, rfl, iteT ?_⟩
      exact ⟨_, rfl, t, B.d, _, rfl, hB.obj, tabF_no_begin, _, rfl, n, d, a, b, g, m, pn, H0, t, B, rfl, hB, SqL.of hn1, q⟩
    | stake i n =>
      refine ⟨_, rfl, _, _, rfl, rfl, _, rfl, iteF ?_⟩
      refine ⟨_, rfl, _, _, rfl, rfl, _, rfl, iteT ?_⟩
      exact ⟨_, rfl, t, B.d, _, rfl, hB.obj, tabF_no_lay_stake, _, rfl, pn, _, _, _, rfl, rfl, SqL.of hn1, rfl, _, rfl, pn, _, _, _, rfl, rfl, SqL.of hn1, rfl, i, n, H0, t, B, rfl, hB, hS.p0, q⟩
    | deal l =>
      refine ⟨_, rfl, _, _, rfl, rfl, _, rfl, iteF ?_⟩
      refine ⟨_, rfl, _, _, rfl, rfl, _, rfl, iteF ?_⟩
      refine ⟨_, rfl, _, _, rfl, rfl, _, rfl, iteT ?_⟩
      obtain ⟨hl, a, h1, h2⟩ := hR
      exact ⟨_, rfl, t, B.d, _, rfl, hB.obj, tabF_no_deal, _, rfl, pr, _, _, _, rfl, rfl, SqL.of (hB.own.same _ _ h1), rfl, l, a, H0, t, B, rfl, hB, h2, hl, fun z s hs => (hS.p0 z s hs).2, q⟩
    | insure i y =>
      refine ⟨_, rfl, _, _, rfl, rfl, _, rfl, iteF ?_⟩
      refine ⟨_, rfl, _, _, rfl, rfl, _, rfl, iteF ?_⟩
      refine ⟨_, rfl, _, _, rfl, rfl, _, rfl, iteF ?_⟩
      refine ⟨_, rfl, _, _, rfl, rfl, _, rfl, iteT ?_⟩
      exact ⟨_, rfl, t, B.d, _, rfl, hB.obj, tabF_no_insure, _, rfl, pn, _, _, _, rfl, rfl, SqL.of hn1, rfl, _, rfl, pn, _, _, _, rfl, rfl, SqL.of hn1, rfl, i, y, H0, t, B, rfl, hB, hS.p1, q⟩
    | dealer l =>
      refine ⟨_, rfl, _, _, rfl, rfl, _, rfl, iteF ?_⟩
      refine ⟨_, rfl, _, _, rfl, rfl, _, rfl, iteF ?_⟩
      refine ⟨_, rfl, _, _, rfl, rfl, _, rfl, iteF ?_⟩
      refine ⟨_, rfl, _, _, rfl, rfl, _, rfl, iteF ?_⟩
      refine ⟨_, rfl, _, _, rfl, rfl, _, rfl, iteF ?_⟩
      refine ⟨_, rfl, _, _, rfl, rfl, _, rfl, iteT ?_⟩
      obtain ⟨hl, a, h1, h2⟩ := hR
      exact ⟨_, rfl, t, B.d, _, rfl, hB.obj, tabF_no_draw, _, rfl, pr, _, _, _, rfl, rfl, SqL.of (hB.own.same _ _ h1), rfl, l, a, H0, t, B, rfl, hB, h2, hl, hS.dealer, q⟩
    | shuffle d =>
      refine ⟨_, rfl, _, _, rfl, rfl, _, rfl, iteF ?_⟩
      refine ⟨_, rfl, _, _, rfl, rfl, _, rfl, iteF ?_⟩
      refine ⟨_, rfl, _, _, rfl, rfl, _, rfl, iteF ?_⟩
      refine ⟨_, rfl, _, _, rfl, rfl, _, rfl, iteF ?_⟩
      refine ⟨_, rfl, _, _, rfl, rfl, _, rfl, iteF ?_⟩
      refine ⟨_, rfl, _, _, rfl, rfl, _, rfl, iteF ?_⟩
      refine ⟨_, rfl, _, _, rfl, rfl, _, rfl, iteT ?_⟩
      exact ⟨_, rfl, t, B.d, _, rfl, hB.obj, tabF_no_shuffle, _, rfl, pn, _, _, _, rfl, rfl, SqL.of hn1, rfl, d, H0, t, B, rfl, hB, q⟩
    | hit =>
      refine ⟨_, rfl, _, _, rfl, rfl, _, rfl, iteF ?_⟩
      refine ⟨_, rfl, _, _, rfl, rfl, _, rfl, iteF ?_⟩
      refine ⟨_, rfl, _, _, rfl, rfl, _, rfl, iteF ?_⟩
      refine ⟨_, rfl, _, _, rfl, rfl, _, rfl, iteF ?_⟩
      refine ⟨_, rfl, _, _, rfl, rfl, _, rfl, iteT ?_⟩
      exact ⟨_, rfl, t, B.d, _, rfl, hB.obj, tabF_no_of_hand, _, rfl, _, rfl, H0, t, pn, B, _, _, _, rfl, hB, hS, Is.hit _, by decide, by decide, hn, q⟩
    | stand =>
      refine ⟨_, rfl, _, _, rfl, rfl, _, rfl, iteF ?_⟩
      refine ⟨_, rfl, _, _, rfl, rfl, _, rfl, iteF ?_⟩
      refine ⟨_, rfl, _, _, rfl, rfl, _, rfl, iteF ?_⟩
      refine ⟨_, rfl, _, _, rfl, rfl, _, rfl, iteF ?_⟩
      refine ⟨_, rfl, _, _, rfl, rfl, _, rfl, iteT ?_⟩
      exact ⟨_, rfl, t, B.d, _, rfl, hB.obj, tabF_no_of_hand, _, rfl, _, rfl, H0, t, pn, B, _, _, _, rfl, hB, hS, Is.stand, by decide, by decide, hn, q⟩
    | double =>
      refine ⟨_, rfl, _, _, rfl, rfl, _, rfl, iteF ?_⟩
      refine ⟨_, rfl, _, _, rfl, rfl, _, rfl, iteF ?_⟩
      refine ⟨_, rfl, _, _, rfl, rfl, _, rfl, iteF ?_⟩
      refine ⟨_, rfl, _, _, rfl, rfl, _, rfl, iteF ?_⟩
      refine ⟨_, rfl, _, _, rfl, rfl, _, rfl, iteT ?_⟩
      exact ⟨_, rfl, t, B.d, _, rfl, hB.obj, tabF_no_of_hand, _, rfl, _, rfl, H0, t, pn, B, _, _, _, rfl, hB, hS, Is.double _, by decide, by decide, hn, q⟩
    | split =>
      refine ⟨_, rfl, _, _, rfl, rfl, _, rfl, iteF ?_⟩
      refine ⟨_, rfl, _, _, rfl, rfl, _, rfl, iteF ?_⟩
      refine ⟨_, rfl, _, _, rfl, rfl, _, rfl, iteF ?_⟩
      refine ⟨_, rfl, _, _, rfl, rfl, _, rfl, iteF ?_⟩
      refine ⟨_, rfl, _, _, rfl, rfl, _, rfl, iteT ?_⟩
      exact ⟨_, rfl, t, B.d, _, rfl, hB.obj, tabF_no_of_hand, _, rfl, _, rfl, H0, t, pn, B, _, _, _, rfl, hB, hS, Is.split _ _, by decide, by decide, hn, q⟩
    | give =>
      refine ⟨_, rfl, _, _, rfl, rfl, _, rfl, iteF ?_⟩
      refine ⟨_, rfl, _, _, rfl, rfl, _, rfl, iteF ?_⟩
      refine ⟨_, rfl, _, _, rfl, rfl, _, rfl, iteF ?_⟩
      refine ⟨_, rfl, _, _, rfl, rfl, _, rfl, iteF ?_⟩
      refine ⟨_, rfl, _, _, rfl, rfl, _, rfl, iteT ?_⟩
      exact ⟨_, rfl, t, B.d, _, rfl, hB.obj, tabF_no_of_hand, _, rfl, _, rfl, H0, t, pn, B, _, _, _, rfl, hB, hS, Is.give, by decide, by decide, hn, q⟩
    | now =>
      iterate 7 refine ⟨_, rfl, _, _, rfl, rfl, _, rfl, iteF ?_⟩
      exact ⟨_, rfl, t, B.d, _, rfl, hB.obj, tabF_no_telling, _, rfl, _, rfl, H0, t, pn, B, _, _, _, rfl, hB, hS, Is.now, by decide, hn, q⟩
    | seat i =>
      iterate 7 refine ⟨_, rfl, _, _, rfl, rfl, _, rfl, iteF ?_⟩
      exact ⟨_, rfl, t, B.d, _, rfl, hB.obj, tabF_no_telling, _, rfl, _, rfl, H0, t, pn, B, _, _, _, rfl, hB, hS, Is.seat _, by decide, hn, q⟩
    | shoe =>
      iterate 7 refine ⟨_, rfl, _, _, rfl, rfl, _, rfl, iteF ?_⟩
      exact ⟨_, rfl, t, B.d, _, rfl, hB.obj, tabF_no_telling, _, rfl, _, rfl, H0, t, pn, B, _, _, _, rfl, hB, hS, Is.shoe, by decide, hn, q⟩
end
end Bj
namespace Bj
open Kg84
def Ok (s : State) (r : State × Ans) : Prop := r.2.value < 0 → r.2.out = [] ∧ r.1 = s
theorem Ok.num (s : State) (n : Int) : Ok s (s, Kg84.num n) := fun _ => ⟨rfl, rfl⟩
theorem Ok.pos {s : State} {r : State × Ans} (h : 0 ≤ r.2.value) : Ok s r := fun z => absurd z (by omega)
theorem Ok.done (s t : State) (n : Nat) : Ok s (Kg84.done t n) := Ok.pos (Int.natCast_nonneg n)
theorem Ok.onHand {s : State} {f : Nat × Nat → Hand → State × Ans} (h : ∀ p x, Ok s (f p x)) : Ok s (Kg84.onHand s f) := by
  unfold Kg84.onHand
  split
  · exact Ok.num _ _
  · split
    · exact h _ _
    · exact Ok.num _ _
theorem spec_ok (s : State) (c : Call) : Ok s (Kg84.spec s c) := by
  cases c with
  | begin_ n d a b g m =>
    unfold Kg84.spec
    dsimp only
    split
    · exact Ok.num _ _
    · rename_i h
      simp only [Bool.not_eq_false, Bool.and_eq_true, within_iff] at h
      exact Ok.pos (by show 0 ≤ 52 * d; omega)
  | stake i n =>
    unfold Kg84.spec
    dsimp only
    split
    · exact Ok.num _ _
    · rename_i h
      simp only [Bool.not_eq_false, Bool.and_eq_true, within_iff] at h
      split
      · exact Ok.num _ _
      · exact Ok.pos (by show 0 ≤ n; omega)
  | deal l =>
    unfold Kg84.spec
    dsimp only
    split
    · exact Ok.num _ _
    · split
      · exact Ok.num _ _
      · split
        · exact Ok.num _ _
        · split
          · exact Ok.num _ _
          · exact Ok.done _ _ 0
  | insure i y =>
    unfold Kg84.spec
    dsimp only
    split
    · exact Ok.num _ _
    · rename_i h
      simp only [Bool.not_eq_false, Bool.and_eq_true, within_iff] at h
      split
      · exact Ok.num _ _
      · split
        · exact Ok.done _ _ 0
        · split
          · exact Ok.num _ _
          · exact Ok.pos (by show 0 ≤ y; omega)
  | hit c =>
    unfold Kg84.spec
    dsimp only
    split
    · exact Ok.num _ _
    · refine Ok.onHand fun p x => ?_
      split
      · exact Ok.num _ _
      · exact Ok.done _ _ _
  | stand => exact Ok.onHand fun p x => Ok.done _ _ _
  | double c =>
    unfold Kg84.spec
    dsimp only
    split
    · exact Ok.num _ _
    · refine Ok.onHand fun p x => ?_
      split
      · exact Ok.num _ _
      · split
        · exact Ok.num _ _
        · exact Ok.done _ _ _
  | split c d =>
    unfold Kg84.spec
    dsimp only
    split
    · exact Ok.num _ _
    · refine Ok.onHand fun p x => ?_
      split
      · exact Ok.num _ _
      · split
        · exact Ok.num _ _
        · exact Ok.done _ _ 2
  | give =>
    refine Ok.onHand fun p x => ?_
    split
    · exact Ok.num _ _
    · exact Ok.done _ _ 0
  | dealer l =>
    unfold Kg84.spec
    dsimp only
    split
    · exact Ok.num _ _
    · split
      · exact Ok.num _ _
      · split
        · exact Ok.num _ _
        · split
          · exact Ok.num _ _
          · exact Ok.done _ _ _
  | shuffle d =>
    unfold Kg84.spec
    dsimp only
    split
    · exact Ok.num _ _
    · rename_i h
      simp only [Bool.not_eq_false, within_iff] at h
      split
      · exact Ok.num _ _
      · split
        · exact Ok.num _ _
        · exact Ok.pos (by show 0 ≤ 52 * d; omega)
  | now => exact Ok.pos (Int.natCast_nonneg _)
  | seat i =>
    unfold Kg84.spec
    dsimp only
    split
    · exact Ok.num _ _
    · exact Ok.pos (Int.natCast_nonneg _)
  | shoe => exact Ok.pos (Int.natCast_nonneg _)
end Bj
namespace Bj
open PySem PySem.Spec PyProof.Rows L2
def sp_answer (C : Adr) : Sp := fun vs H Q _ => ∃ (H0 : Hp) (t pn pr : Addr) (T : TabL) (k : Int) (ns : List Int) (rs : List (List Int)) (c : Kg84.Call), vs = [.ref t, .int k, .ref pn, .ref pr] ∧ Tab C H0 H t T ∧ Side T ∧ Is k ns rs c ∧ H0 pn = some (.lst (ns.map V.int)) ∧ RowAt H0 pr rs ∧
  ∀ T', T'.abs = (Kg84.spec T.abs c).1 → Gives C H0 t T' ((Kg84.spec T.abs c).2.value :: (Kg84.spec T.abs c).2.out) Q
section
variable {P : Program} {w : World} {K : PySem.W.Frag} {mg : Str → Option Value} {base : Heap} {C : Adr}
theorem ok_Table_answer (T : Txt K mg C) : MethOk P w K mg base CX0 15 C.T "answer" P_Table_answer (sp_answer C) := by
  refine T.m_Table_answer.ok sc_Table_answer (fun _ _ F => b_Table_answer F) ?_ ?_
  · rintro vs H Q E ⟨H0, t, pn, pr, B, k, ns, rs, c, rfl, _⟩
    rfl
  · intro f cdv A outer sh H vs Q E hr h
    obtain ⟨H0, t, pn, pr, B, k, ns, rs, c, rfl, hB, hS, hI, hn, hR, q⟩ := h
    refine ⟨_, pss_one (ps_try_as (i := 4) (tb := fun W => tRet (tMethS C.T "by_call" (sp_by_call C) (WE W) (tVar 0) (tCons (tVar 1) (tCons (tVar 2) (tCons (tVar 3) tNil))))) (ts := fun a cls d => tRet (tLst (tCons (tByNum C.R a cls d (tVar 4)) tNil))) (Wout := fun _ _ _ _ => False) rfl rfl sc_Table_answer.nd rfl rfl ⟨rfl, by decide, Or.inl T.ref.gC⟩ takes0
      (fun W pn xe tk _ => pss_one (ps_ret (by exact (pe_cMS (ok_Table_by_call T) hr (by decide) T.clT (fun σ => passAt tk σ) (pv 0) (by exact (pa_cons (pv 1) (pa_cons (pv 2) (pa_cons (pv 3) pa_nil))))))))
      (fun a oe cls d pn hz hf => pss_one (ps_ret (by exact (pe_lst (pa_cons (pe_byNum T.ref hz hf (pv 4)) pa_nil)))))), ?_⟩
    refine ⟨_, rfl, t, B.d, _, rfl, hB.obj, tabF_no_by_call, _, rfl, _, rfl, _, rfl, H0, t, pn, pr, B, k, ns, rs, c, rfl, hB, hS, hI, hn, hR, ⟨fun hneg => ?_, fun hpos T' e => q T' e⟩⟩
    intro H1 d hd s1 e1
    refine ⟨true, T.ref.te, (fun _ a ha => ?_), (fun z => Bool.noConfusion z)⟩
    obtain ⟨eo, es⟩ := spec_ok B.abs c hneg
    refine ⟨_, rfl, rfl, rfl, d, _, rfl, e1, (by show 1 ≤ sizeLine; decide), fun p hp => ?_⟩
    have hB1 := hB.sameR s1
    have n0 : H0 p = none := hB1.own.free hp
    have g := q B es.symm
    rw [eo] at g
    exact g _ p n0 (hB1.frame hp)
end
end Bj
namespace Bj
open Kg84
structure Core (n : Nat) (s : State) : Prop where
  most : s.rules.most ≤ 4
  hands : ∀ x ∈ s.seats, x.hands.length ≤ 5 + n ∧ ∀ h ∈ x.hands, h.cards.length ≤ 2 + n
  dealer : s.dealer.length ≤ 2 + 20 * n
def Free (s : State) : Prop := ∀ x ∈ s.seats, ∀ h ∈ x.hands, h.state = 0 → h.aces = false
structure Good (n : Nat) (s : State) : Prop where
  core : Core n s
  p0 : s.phase = 0 → ∀ x ∈ s.seats, x.insured = 0 ∧ x.hands = []
  p1 : s.phase = 1 → ∀ x ∈ s.seats, ∀ h ∈ x.hands, h.state = 0 ∧ h.aces = false
  p2 : s.phase = 2 → s.turn ≠ none ∧ Free s
theorem Core.more {n : Nat} {s : State} (h : Core n s) : Core (n + 1) s :=
  ⟨h.most, fun x hx => ⟨by have := (h.hands x hx).1; omega, fun y hy => by have := (h.hands x hx).2 y hy; omega⟩, by have := h.dealer; omega⟩
theorem Good.more {n : Nat} {s : State} (h : Good n s) : Good (n + 1) s := ⟨h.core.more, h.p0, h.p1, h.p2⟩
theorem Good.four {n : Nat} {s : State} (h : Core n s) (p : s.phase = 4) : Good n s :=
  ⟨h, fun z => by omega, fun z => by omega, fun z => by omega⟩
theorem Core.paid {n : Nat} {s : State} (h : Core n s) : Good n s.paid := Good.four ⟨h.most, h.hands, h.dealer⟩ rfl
theorem good_settle {n : Nat} {s : State} (h : Core n s) (f : Free s) (p : s.phase = 2 ∨ s.phase = 4) : Good n s.settle := by
  unfold State.settle
  split
  · split
    · exact ⟨⟨h.most, h.hands, h.dealer⟩, (fun z => by cases z), (fun z => by cases z), (fun z => by cases z)⟩
    · exact h.paid
  · rename_i k
    refine ⟨h, fun z => by omega, fun z => by omega, fun z => ⟨fun t => k ⟨z, t⟩, f⟩⟩
theorem ready_cards (h : Hand) : h.ready.cards = h.cards := by
  unfold Hand.ready
  split
  · rfl
  · split <;> rfl
theorem ready_aces (h : Hand) : h.ready.aces = h.aces := by
  unfold Hand.ready
  split
  · rfl
  · split <;> rfl
theorem ready_state {h : Hand} (z : h.ready.state = 0) : h.state = 0 ∧ ¬ (h.aces = true ∧ h.cards.length = 2) := by
  unfold Hand.ready at z
  split at z
  · cases z
  · rename_i k
    split at z
    · cases z
    · exact ⟨z, fun a => k ⟨z, .inr a⟩⟩
theorem good_peeked {n : Nat} {s : State} (h : Core n s) (f : Free s) : Good n s.peeked.settle := by
  have hm : ∀ x ∈ s.seats.map (fun x => ({ x with hands := x.hands.map Hand.ready } : Seat)), x.hands.length ≤ 5 + n ∧ ∀ h ∈ x.hands, h.cards.length ≤ 2 + n := by
    intro x hx
    obtain ⟨y, hy, rfl⟩ := List.mem_map.mp hx
    have := h.hands y hy
    refine ⟨by show (y.hands.map Hand.ready).length ≤ _; rw [List.length_map]; exact this.1, fun g hg => ?_⟩
    obtain ⟨k, hk, rfl⟩ := List.mem_map.mp hg
    rw [ready_cards]
    exact this.2 k hk
  have fm : ∀ x ∈ s.seats.map (fun x => ({ x with hands := x.hands.map Hand.ready } : Seat)), ∀ h ∈ x.hands, h.state = 0 → h.aces = false := by
    intro x hx g hg z
    obtain ⟨y, hy, rfl⟩ := List.mem_map.mp hx
    obtain ⟨k, hk, rfl⟩ := List.mem_map.mp hg
    rw [ready_aces]
    exact f y hy k hk (ready_state z).1
  unfold State.peeked
  dsimp only
  split
  · refine good_settle ⟨h.most, hm, h.dealer⟩ fm (.inr rfl)
  · refine good_settle ⟨h.most, hm, h.dealer⟩ fm (.inl rfl)
theorem mem_put {s : State} {p : Nat × Nat} {l : List Hand} {x : Seat} (h : x ∈ (putHand s p l).seats) : x ∈ s.seats ∨ ∃ y, s.seats[p.1]? = some y ∧ x = { y with hands := y.hands.take p.2 ++ (l ++ y.hands.drop (p.2 + 1)) } := by
  unfold putHand at h
  obtain ⟨⟨y, i⟩, hy, e⟩ := List.mem_map.mp h
  have hy' := List.mem_zipIdx_iff_getElem?.mp hy
  dsimp only at e hy'
  split at e
  · rename_i hp
    right
    refine ⟨y, ?_, e.symm⟩
    rw [← hp]
    exact hy'
  · left
    rw [← e]
    exact List.mem_of_getElem? hy'
theorem core_put {n : Nat} {s : State} {p : Nat × Nat} {l : List Hand} (h : Core n s) (hl : ∀ g ∈ l, g.cards.length ≤ 3 + n) (hn : l.length ≤ 1 ∨ (l.length ≤ 2 ∧ (s.seats.getD p.1 ⟨0, 0, []⟩).hands.length < 4)) : Core (n + 1) (putHand s p l) := by
  refine ⟨h.most, fun x hx => ?_, by have := h.dealer; show s.dealer.length ≤ _; omega⟩
  rcases mem_put hx with k | ⟨y, ey, rfl⟩
  · have := h.hands x k
    exact ⟨by omega, fun g hg => by have := this.2 g hg; omega⟩
  · have hy := h.hands y (List.mem_of_getElem? ey)
    have ed : s.seats.getD p.1 ⟨0, 0, []⟩ = y := by
      rw [List.getD_eq_getElem?_getD, ey]
      rfl
    refine ⟨?_, fun g hg => ?_⟩
    · show (y.hands.take p.2 ++ (l ++ y.hands.drop (p.2 + 1))).length ≤ _
      rw [List.length_append, List.length_append, List.length_take, List.length_drop]
      rcases hn with k | ⟨k, k2⟩
      · omega
      · rw [ed] at k2
        omega
    · rcases List.mem_append.mp (show g ∈ y.hands.take p.2 ++ (l ++ y.hands.drop (p.2 + 1)) from hg) with z | z
      · have := hy.2 g (List.mem_of_mem_take z)
        omega
      · rcases List.mem_append.mp z with z | z
        · have := hl g z
          omega
        · have := hy.2 g (List.mem_of_mem_drop z)
          omega
theorem free_put {s : State} {p : Nat × Nat} {l : List Hand} (h : Free s) (hl : ∀ g ∈ l, g.state = 0 → g.aces = false) : Free (putHand s p l) := by
  intro x hx g hg z
  rcases mem_put hx with k | ⟨y, ey, rfl⟩
  · exact h x k g hg z
  · have hy := h y (List.mem_of_getElem? ey)
    rcases List.mem_append.mp (show g ∈ y.hands.take p.2 ++ (l ++ y.hands.drop (p.2 + 1)) from hg) with k | k
    · exact hy g (List.mem_of_mem_take k) z
    · rcases List.mem_append.mp k with k | k
      · exact hl g k z
      · exact hy g (List.mem_of_mem_drop k) z
theorem hand_mem (s : State) (p : Nat × Nat) : s.hand p = ⟨[], 0, 1, false, false, false⟩ ∨ ∃ x ∈ s.seats, s.hand p ∈ x.hands := by
  unfold State.hand
  rw [List.getD_eq_getElem?_getD, List.getD_eq_getElem?_getD]
  cases h1 : s.seats[p.1]? with
  | none => exact .inl rfl
  | some x =>
    show (x.hands[p.2]?).getD _ = _ ∨ ∃ y ∈ s.seats, (x.hands[p.2]?).getD _ ∈ y.hands
    cases h2 : x.hands[p.2]? with
    | none => exact .inl rfl
    | some y => exact .inr ⟨x, List.mem_of_getElem? h1, List.mem_of_getElem? h2⟩
theorem hand_core {n : Nat} {s : State} (h : Core n s) (p : Nat × Nat) : (s.hand p).cards.length ≤ 2 + n := by
  rcases hand_mem s p with e | ⟨x, hx, hh⟩
  · rw [e]
    exact Nat.zero_le _
  · exact (h.hands x hx).2 _ hh
theorem hand_free {s : State} (h : Free s) (p : Nat × Nat) (z : (s.hand p).state = 0) : (s.hand p).aces = false := by
  rcases hand_mem s p with e | ⟨x, hx, hh⟩
  · rw [e]
  · exact h x hx _ hh z
theorem good_onHand {n : Nat} {s : State} {f : Nat × Nat → Hand → State × Ans} (h : Good n s) (k : s.phase = 2 → Free s → ∀ p, Good (n + 1) (f p (s.hand p)).1) : Good (n + 1) (onHand s f).1 := by
  unfold onHand
  split
  · exact h.more
  · rename_i hp
    have hp : s.phase = 2 := by omega
    split
    · exact k hp (h.p2 hp).2 _
    · exact h.more
theorem good_put {n : Nat} {s : State} {p : Nat × Nat} {l : List Hand} {z : List Nat} (h : Core n s) (f : Free s) (hp : s.phase = 2) (hl : ∀ g ∈ l, g.cards.length ≤ 3 + n ∧ (g.state = 0 → g.aces = false)) (hn : l.length ≤ 1 ∨ (l.length ≤ 2 ∧ (s.seats.getD p.1 ⟨0, 0, []⟩).hands.length < 4)) (k : Nat) :
    Good (n + 1) (done ({ (putHand s p l) with shoe := z } : State).settle k).1 := by
  have c := core_put (p := p) h (fun g hg => (hl g hg).1) hn
  have f' := free_put (p := p) f (fun g hg => (hl g hg).2)
  exact good_settle (s := { (putHand s p l) with shoe := z }) ⟨c.most, c.hands, c.dealer⟩ f' (.inl hp)
theorem good_put' {n : Nat} {s : State} {p : Nat × Nat} {l : List Hand} (h : Core n s) (f : Free s) (hp : s.phase = 2) (hl : ∀ g ∈ l, g.cards.length ≤ 3 + n ∧ (g.state = 0 → g.aces = false)) (hn : l.length ≤ 1) (k : Nat) :
    Good (n + 1) (done (putHand s p l).settle k).1 := by
  have c := core_put (p := p) h (fun g hg => (hl g hg).1) (.inl hn)
  have f' := free_put (p := p) f (fun g hg => (hl g hg).2)
  exact good_settle (s := putHand s p l) ⟨c.most, c.hands, c.dealer⟩ f' (.inl hp)
def Short : Call → Prop
  | .deal l => l.length ≤ 20
  | .dealer l => l.length ≤ 20
  | _ => True
theorem good_spec {n : Nat} {s : State} (h : Good n s) (c : Call) (hc : Short c) : Good (n + 1) (Kg84.spec s c).1 := by
  cases c with
  | begin_ a b c d e m =>
    unfold Kg84.spec
    dsimp only
    split
    · exact h.more
    · rename_i k
      simp only [Bool.not_eq_false, Bool.and_eq_true, within_iff] at k
      have hr : ∀ x ∈ List.replicate a.toNat (⟨0, 0, []⟩ : Seat), x = ⟨0, 0, []⟩ := fun x hx => List.eq_of_mem_replicate hx
      refine ⟨⟨by show m.toNat ≤ 4; omega, fun x hx => ?_, Nat.zero_le _⟩, fun _ x hx => ?_, fun z => by (have z' : (0 : Nat) = 1 := z); omega, fun z => by (have z' : (0 : Nat) = 2 := z); omega⟩
      · rw [hr x hx]
        exact ⟨Nat.zero_le _, fun g hg => by cases hg⟩
      · rw [hr x hx]
        exact ⟨rfl, rfl⟩
  | stake i k =>
    unfold Kg84.spec
    dsimp only
    split
    · exact h.more
    · split
      · exact h.more
      · rename_i hp
        have hall : ∀ x ∈ (if s.phase = 4 then ({ s with phase := 0, dealer := [], seats := s.seats.map fun _ => ⟨0, 0, []⟩ } : State) else s).seats.set i.toNat ⟨k.toNat, 0, []⟩, x.insured = 0 ∧ x.hands = [] := by
          intro x hx
          rcases List.mem_or_eq_of_mem_set hx with z | z
          · split at z
            · obtain ⟨y, _, rfl⟩ := List.mem_map.mp z
              exact ⟨rfl, rfl⟩
            · exact h.p0 (by omega) x z
          · rw [z]
            exact ⟨rfl, rfl⟩
        have hph : (if s.phase = 4 then ({ s with phase := 0, dealer := [], seats := s.seats.map fun _ => ⟨0, 0, []⟩ } : State) else s).phase = 0 := by
          split
          · rfl
          · omega
        have hd : (if s.phase = 4 then ({ s with phase := 0, dealer := [], seats := s.seats.map fun _ => ⟨0, 0, []⟩ } : State) else s).dealer.length ≤ 2 + 20 * (n + 1) := by
          split
          · exact Nat.zero_le _
          · have := h.core.dealer
            omega
        have hm : (if s.phase = 4 then ({ s with phase := 0, dealer := [], seats := s.seats.map fun _ => ⟨0, 0, []⟩ } : State) else s).rules.most ≤ 4 := by
          split
          · exact h.core.most
          · exact h.core.most
        refine ⟨⟨hm, fun x hx => ?_, hd⟩, fun _ => hall, fun z => ?_, fun z => ?_⟩
        · rw [(hall x hx).2]
          exact ⟨Nat.zero_le _, fun g hg => by cases hg⟩
        · have z' : _ = 1 := hph.symm.trans z
          omega
        · have z' : _ = 2 := hph.symm.trans z
          omega
  | deal l =>
    unfold Kg84.spec
    dsimp only
    split
    · exact h.more
    · split
      · exact h.more
      · rename_i hp
        have hp : s.phase = 0 := by omega
        split
        · exact h.more
        · split
          · exact h.more
          · rename_i z _
            show Good (n + 1) (if (nats l).getD s.staked.length 0 = 1 then dealtS s (nats l) z else (dealtS s (nats l) z).peeked.settle)
            have fr : ∀ y ∈ (dealtS s (nats l) z).seats, y.hands = [] ∨ ∃ j st, y.hands = [freshH (nats l) s.staked.length j st] := by
              rw [dealt_seats]
              exact fresh_of _ _ _ _ fun x hx => (h.p0 hp x hx).2
            have co : Core (n + 1) (dealtS s (nats l) z) := by
              refine ⟨h.core.most, fun x hx => ?_, by show 2 ≤ _; omega⟩
              rcases fr x hx with e | ⟨j, st, e⟩
              · rw [e]
                exact ⟨Nat.zero_le _, fun g hg => by cases hg⟩
              · rw [e]
                refine ⟨by show 1 ≤ _; omega, fun g hg => ?_⟩
                rw [List.mem_singleton] at hg
                subst hg
                show 2 ≤ _
                omega
            have f1 : ∀ x ∈ (dealtS s (nats l) z).seats, ∀ h ∈ x.hands, h.state = 0 ∧ h.aces = false := by
              intro x hx g hg
              rcases fr x hx with e | ⟨j, st, e⟩
              · rw [e] at hg
                cases hg
              · rw [e, List.mem_singleton] at hg
                subst hg
                exact ⟨rfl, rfl⟩
            split
            · exact ⟨co, (fun z => by cases z), fun _ => f1, (fun z => by cases z)⟩
            · exact good_peeked co fun x hx g hg _ => (f1 x hx g hg).2
  | insure i y =>
    unfold Kg84.spec
    dsimp only
    split
    · exact h.more
    · split
      · exact h.more
      · rename_i hp
        have hp : s.phase = 1 := by omega
        split
        · exact good_peeked h.core.more fun x hx g hg _ => (h.p1 hp x hx g hg).2
        · split
          · exact h.more
          · have hx : (s.seats.getD i.toNat ⟨0, 0, []⟩).hands = [] ∨ s.seats.getD i.toNat ⟨0, 0, []⟩ ∈ s.seats := by
              rw [List.getD_eq_getElem?_getD]
              cases e : s.seats[i.toNat]? with
              | none => exact .inl rfl
              | some x => exact .inr (List.mem_of_getElem? e)
            generalize s.seats.getD i.toNat ⟨0, 0, []⟩ = x at hx
            have g1 := h.core.more
            refine ⟨⟨g1.most, fun u hu => ?_, g1.dealer⟩, (fun z => absurd (show s.phase = 0 from z) (by omega)), fun _ u hu g hg => ?_, (fun z => absurd (show s.phase = 2 from z) (by omega))⟩
            · rcases List.mem_or_eq_of_mem_set (show u ∈ s.seats.set i.toNat { x with insured := if y = 1 then x.stake else 0 } from hu) with k | k
              · exact g1.hands u k
              · subst k
                rcases hx with e | e
                · show x.hands.length ≤ _ ∧ ∀ h ∈ x.hands, _
                  rw [e]
                  exact ⟨Nat.zero_le _, fun g hg => by cases hg⟩
                · exact g1.hands x e
            · rcases List.mem_or_eq_of_mem_set (show u ∈ s.seats.set i.toNat { x with insured := if y = 1 then x.stake else 0 } from hu) with k | k
              · exact h.p1 hp u k g hg
              · subst k
                have hg' : g ∈ x.hands := hg
                rcases hx with e | e
                · rw [e] at hg'
                  cases hg'
                · exact h.p1 hp x e g hg'
  | hit c =>
    unfold Kg84.spec
    dsimp only
    split
    · exact h.more
    · refine good_onHand h fun hp f p => ?_
      split
      · exact h.more
      · refine good_put h.core f hp (fun g hg => ?_) (.inl (Nat.le_refl _)) _
        rw [List.mem_singleton] at hg
        subst hg
        rw [ready_cards, ready_aces]
        refine ⟨?_, fun z => hand_free f p (ready_state z).1⟩
        have := hand_core h.core p
        show ((s.hand p).cards ++ [c.toNat]).length ≤ _
        rw [List.length_append]
        show _ + 1 ≤ _
        omega
  | stand =>
    refine good_onHand h fun hp f p => ?_
    refine good_put' h.core f hp (fun g hg => ?_) (Nat.le_refl _) _
    rw [List.mem_singleton] at hg
    subst hg
    have := hand_core h.core p
    exact ⟨by show (s.hand p).cards.length ≤ _; omega, fun z => by cases z⟩
  | double c =>
    unfold Kg84.spec
    dsimp only
    split
    · exact h.more
    · refine good_onHand h fun hp f p => ?_
      split
      · exact h.more
      · split
        · exact h.more
        · refine good_put h.core f hp (fun g hg => ?_) (.inl (Nat.le_refl _)) _
          rw [List.mem_singleton] at hg
          subst hg
          refine ⟨?_, fun z => ?_⟩
          · have := hand_core h.core p
            show ((s.hand p).cards ++ [c.toNat]).length ≤ _
            rw [List.length_append]
            show _ + 1 ≤ _
            omega
          · have z' : (if 21 < total ((s.hand p).cards ++ [c.toNat]) then 2 else 1) = 0 := z
            split at z' <;> cases z'
  | split c d =>
    unfold Kg84.spec
    dsimp only
    split
    · exact h.more
    · refine good_onHand h fun hp f p => ?_
      split
      · exact h.more
      · rename_i k
        split
        · exact h.more
        · refine good_put h.core f hp (fun g hg => ?_) (.inr ⟨Nat.le_refl _, ?_⟩) 2
          · rcases List.mem_cons.mp hg with hg | hg
            rotate_left
            · rcases List.mem_singleton.mp hg with rfl
              rw [ready_cards]
              exact ⟨by show 2 ≤ _; omega, fun z => by
                have := (ready_state z).2
                rw [ready_aces]
                cases e : (s.hand p).cards.getD 0 0 == 1 with
                | false => rfl
                | true => exact absurd ⟨e, rfl⟩ this⟩
            subst hg
            rw [ready_cards]
            exact ⟨by show 2 ≤ _; omega, fun z => by
              have := (ready_state z).2
              rw [ready_aces]
              cases e : (s.hand p).cards.getD 0 0 == 1 with
              | false => rfl
              | true => exact absurd ⟨e, rfl⟩ this⟩
          · have := h.core.most
            omega
  | give =>
    refine good_onHand h fun hp f p => ?_
    split
    · exact h.more
    · refine good_put' h.core f hp (fun g hg => ?_) (Nat.le_refl _) _
      rw [List.mem_singleton] at hg
      subst hg
      have := hand_core h.core p
      exact ⟨by show (s.hand p).cards.length ≤ _; omega, fun z => by cases z⟩
  | dealer l =>
    unfold Kg84.spec
    dsimp only
    split
    · exact h.more
    · split
      · exact h.more
      · split
        · exact h.more
        · split
          · exact h.more
          · refine Core.paid ⟨h.core.most, fun x hx => ?_, ?_⟩
            · have := h.core.more.hands x hx
              exact this
            · show (s.dealer ++ nats l).length ≤ _
              have h1 := h.core.dealer
              have h2 : l.length ≤ 20 := hc
              have h3 : (nats l).length = l.length := List.length_map _
              rw [List.length_append]
              omega
  | shuffle d =>
    unfold Kg84.spec
    dsimp only
    split
    · exact h.more
    · split
      · exact h.more
      · split
        · exact h.more
        · have g := h.more
          exact ⟨⟨g.core.most, g.core.hands, g.core.dealer⟩, g.p0, g.p1, g.p2⟩
  | now => exact h.more
  | seat i =>
    unfold Kg84.spec
    dsimp only
    split
    · exact h.more
    · exact h.more
  | shoe => exact h.more
end Bj
namespace Bj
open Kg84
def init0' : State := ⟨⟨false, false, false, 0⟩, fullShoe 0, [], [], 0, []⟩
def Sim (s s' : State) : Prop := s' = s ∨ (s = init0' ∧ s' = Kg84.init)
def Same2 (r r' : State × Ans) : Prop := r.2 = r'.2 ∧ Sim r.1 r'.1
theorem same_no {a b : State} {n : Int} {r r' : State × Ans} (h : Sim a b) (e : r = (a, Kg84.num n)) (e' : r' = (b, Kg84.num n)) : Same2 r r' := by
  subst e
  subst e'
  exact ⟨rfl, h⟩
theorem sim_first (c : Call) : Same2 (Kg84.spec init0' c) (Kg84.spec Kg84.init c) := by
  have S : Sim init0' Kg84.init := .inr ⟨rfl, rfl⟩
  cases c with
  | begin_ a b c d e m =>
    unfold Kg84.spec
    dsimp only
    split
    · exact ⟨rfl, S⟩
    · exact ⟨rfl, .inl rfl⟩
  | stake i n =>
    have k : ∀ s : State, s.seats = [] → ¬ ((0 ≤ i ∧ i ≤ (s.seats.length : Int) - 1) ∧ (0 ≤ n ∧ n ≤ 1000)) := by
      intro s e
      rw [e]
      show ¬ ((0 ≤ i ∧ i ≤ ((0 : Nat) : Int) - 1) ∧ _)
      omega
    exact same_no S (stake_1 (k _ rfl)) (stake_1 (k _ rfl))
  | deal l =>
    cases h : l.all (fun z => Kg84.within z 1 13) with
    | false => exact same_no S (deal_1 h) (deal_1 h)
    | true => exact same_no S (deal_4 h rfl (.inl rfl)) (deal_4 h rfl (.inl rfl))
  | insure i y =>
    have k : ∀ s : State, s.seats = [] → s.phase = 0 → (Kg84.spec s (.insure i y)) = (s, Kg84.num (if (Kg84.within i (-1) (-1) && Kg84.within y 0 1) = false then -1 else -3)) := by
      intro s e p
      unfold Kg84.spec
      dsimp only
      rw [e]
      show (if (Kg84.within i (-1) (-1) && Kg84.within y 0 1) = false then (s, Kg84.num (-1)) else _) = _
      split
      · rfl
      · rw [if_pos (by omega)]
    exact same_no S (k _ rfl rfl) (k _ rfl rfl)
  | hit c =>
    by_cases h : 1 ≤ c ∧ c ≤ 13
    · exact same_no S (hit_3 h (by decide)) (hit_3 h (by decide))
    · exact same_no S (hit_1 h) (hit_1 h)
  | stand => exact same_no S (stand_3 (by decide)) (stand_3 (by decide))
  | double c =>
    by_cases h : 1 ≤ c ∧ c ≤ 13
    · exact same_no S (double_3 h (by decide)) (double_3 h (by decide))
    · exact same_no S (double_1 h) (double_1 h)
  | split c d =>
    by_cases h : (1 ≤ c ∧ c ≤ 13) ∧ (1 ≤ d ∧ d ≤ 13)
    · exact same_no S (split_3 h (by decide)) (split_3 h (by decide))
    · exact same_no S (split_1 h) (split_1 h)
  | give => exact same_no S (give_3 (by decide)) (give_3 (by decide))
  | dealer l =>
    cases h : l.all (fun z => Kg84.within z 1 13) with
    | false => exact same_no S (dealer_1 h) (dealer_1 h)
    | true => exact same_no S (dealer_3 h (by decide)) (dealer_3 h (by decide))
  | shuffle d =>
    by_cases h : 1 ≤ d ∧ d ≤ 8
    · exact same_no S (shuffle_2 h rfl) (shuffle_2 h rfl)
    · exact same_no S (shuffle_1 h) (shuffle_1 h)
  | now => exact ⟨rfl, S⟩
  | seat i =>
    have k : ∀ s : State, s.seats = [] → (Kg84.spec s (.seat i)) = (s, Kg84.num (-1)) := by
      intro s e
      unfold Kg84.spec
      dsimp only
      rw [e]
      refine if_pos (within_not.mpr ?_)
      show ¬ (0 ≤ i ∧ i ≤ ((0 : Nat) : Int) - 1)
      omega
    exact same_no S (k _ rfl) (k _ rfl)
  | shoe => exact ⟨by decide, S⟩
theorem sim_spec {s s' : State} (h : Sim s s') (c : Call) : Same2 (Kg84.spec s c) (Kg84.spec s' c) := by
  rcases h with rfl | ⟨rfl, rfl⟩
  · exact ⟨rfl, .inl rfl⟩
  · exact sim_first c
theorem good_first : Good 0 init0' :=
  ⟨⟨Nat.zero_le _, fun x hx => (by cases hx), Nat.zero_le _⟩, fun _ x hx => (by cases hx), fun z => (by cases z), fun z => (by cases z)⟩
end Bj
namespace Bj
open PySem PySem.Spec PyProof.Rows L2
theorem asked_is {c : Kg84Neutral.Call} (h : Kg84Neutral.asked1 c = true) : ∃ p ns rs k, c = (p :: ns) :: rs ∧ Kg84Neutral.callOf c = some k ∧ Is p ns rs k ∧ Short k ∧ ∀ l ∈ rs, l.length ≤ 20 := by
  unfold Kg84Neutral.asked1 at h
  have no : ∀ l ∈ ([] : List (List Int)), l.length ≤ 20 := fun l hl => (nomatch hl)
  have row : ∀ {l : List Int}, Kg84Neutral.row l 20 = true → l.length ≤ 20 := fun {l} hr => by
    unfold Kg84Neutral.row at hr
    rw [Bool.and_eq_true] at hr
    exact of_decide_eq_true hr.2
  split at h
  · exact ⟨_, _, _, _, rfl, rfl, Is.begin _ _ _ _ _ _, trivial, no⟩
  · exact ⟨_, _, _, _, rfl, rfl, Is.stake _ _, trivial, no⟩
  · exact ⟨_, _, _, _, rfl, rfl, Is.deal _, row h, fun l hl => by rw [List.mem_singleton] at hl; subst hl; exact row h⟩
  · exact ⟨_, _, _, _, rfl, rfl, Is.insure _ _, trivial, no⟩
  · exact ⟨_, _, _, _, rfl, rfl, Is.hit _, trivial, no⟩
  · exact ⟨_, _, _, _, rfl, rfl, Is.stand, trivial, no⟩
  · exact ⟨_, _, _, _, rfl, rfl, Is.double _, trivial, no⟩
  · exact ⟨_, _, _, _, rfl, rfl, Is.split _ _, trivial, no⟩
  · exact ⟨_, _, _, _, rfl, rfl, Is.give, trivial, no⟩
  · exact ⟨_, _, _, _, rfl, rfl, Is.dealer _, row h, fun l hl => by rw [List.mem_singleton] at hl; subst hl; exact row h⟩
  · exact ⟨_, _, _, _, rfl, rfl, Is.shuffle _, trivial, no⟩
  · exact ⟨_, _, _, _, rfl, rfl, Is.now, trivial, no⟩
  · exact ⟨_, _, _, _, rfl, rfl, Is.seat _, trivial, no⟩
  · exact ⟨_, _, _, _, rfl, rfl, Is.shoe, trivial, no⟩
  · cases h
theorem Is.shape {p : Int} {ns : List Int} {rs : List (List Int)} {k : Kg84.Call} (h : Is p ns rs k) : ∃ i : Nat, p = i ∧ 1 ≤ i ∧ i ≤ 14 ∧ shapeN i = ns.length ∧ shapeR i = rs.length ∧ (rs = [] ∨ ∃ l, rs = [l]) := by
  cases h
  · exact ⟨1, rfl, by decide, by decide, rfl, rfl, .inl rfl⟩
  · exact ⟨2, rfl, by decide, by decide, rfl, rfl, .inl rfl⟩
  · exact ⟨3, rfl, by decide, by decide, rfl, rfl, .inr ⟨_, rfl⟩⟩
  · exact ⟨4, rfl, by decide, by decide, rfl, rfl, .inl rfl⟩
  · exact ⟨5, rfl, by decide, by decide, rfl, rfl, .inl rfl⟩
  · exact ⟨6, rfl, by decide, by decide, rfl, rfl, .inl rfl⟩
  · exact ⟨7, rfl, by decide, by decide, rfl, rfl, .inl rfl⟩
  · exact ⟨8, rfl, by decide, by decide, rfl, rfl, .inl rfl⟩
  · exact ⟨9, rfl, by decide, by decide, rfl, rfl, .inl rfl⟩
  · exact ⟨10, rfl, by decide, by decide, rfl, rfl, .inr ⟨_, rfl⟩⟩
  · exact ⟨11, rfl, by decide, by decide, rfl, rfl, .inl rfl⟩
  · exact ⟨12, rfl, by decide, by decide, rfl, rfl, .inl rfl⟩
  · exact ⟨13, rfl, by decide, by decide, rfl, rfl, .inl rfl⟩
  · exact ⟨14, rfl, by decide, by decide, rfl, rfl, .inl rfl⟩
theorem put_app : ∀ (a b : List Kg84Neutral.Call), PyFlat.put (a ++ b) = PyFlat.put a ++ PyFlat.put b
  | [], _ => rfl
  | c :: a, b => by
    show PyFlat.put1 c ++ PyFlat.put (a ++ b) = (PyFlat.put1 c ++ PyFlat.put a) ++ PyFlat.put b
    rw [put_app a b, List.append_assoc]
def toldOf (s : Kg84.State) (cs : List Kg84Neutral.Call) : List Int := PyFlat.told (PyFlat.played Kg84Neutral.step s cs)
theorem toldOf_cons {s : Kg84.State} {c : Kg84Neutral.Call} {k : Kg84.Call} (h : Kg84Neutral.callOf c = some k) (r : List Kg84Neutral.Call) :
    toldOf s (c :: r) = (((Kg84.spec s k).2.value :: (Kg84.spec s k).2.out).length : Int) :: (((Kg84.spec s k).2.value :: (Kg84.spec s k).2.out) ++ toldOf (Kg84.spec s k).1 r) := by
  have e : Kg84Neutral.step s c = ((Kg84.spec s k).1, (Kg84.spec s k).2.value :: (Kg84.spec s k).2.out) := by
    unfold Kg84Neutral.step
    rw [h]
  unfold toldOf
  show PyFlat.told ((Kg84Neutral.step s c).2 :: PyFlat.played Kg84Neutral.step (Kg84Neutral.step s c).1 r) = _
  rw [e]
  rfl
theorem cut_mid {A B D : List Int} {i j : Int} (hi : i = A.length) (hj : j = (A.length : Int) + B.length) : cutV ((A ++ (B ++ D)).map V.int) (some i) (some j) = B.map V.int := by
  subst hi
  have ej : j = ((A.length + B.length : Nat) : Int) := by omega
  rw [ej]
  unfold cutV
  rw [HT.sIx_nat, HT.sIx_nat, List.length_map, List.length_append, List.length_append, Nat.min_eq_left (by omega), Nat.min_eq_left (by omega), ← List.map_drop, ← List.map_take, List.drop_left, show A.length + B.length - A.length = B.length by omega, List.take_left]
theorem at_mid {A D : List Int} {x i : Int} (hi : i = A.length) : atI ((A ++ x :: D).map V.int) i = some (V.int x) := by
  subst hi
  apply atI_nat
  rw [List.getElem?_map, List.getElem?_append_right (Nat.le_refl _), Nat.sub_self]
  rfl
theorem side_of {n : Nat} {T : TabL} (h : Good n T.abs) (hn : n ≤ 250) : Side T := by
  have m1 : ∀ s ∈ T.seats, s.x ∈ T.abs.seats := fun s hs => List.mem_map_of_mem hs
  have m2 : ∀ s ∈ T.seats, ∀ x ∈ s.hs, x.h ∈ s.x.hands := fun s hs x hx => List.mem_map_of_mem hx
  refine ⟨⟨fun p => (h.p2 p).1, fun p s hs x hx z => (h.p2 p).2 _ (m1 s hs) _ (m2 s hs x hx) z, fun s hs => ?_⟩, fun p s hs => ?_, fun p s hs x hx => h.p1 p _ (m1 s hs) _ (m2 s hs x hx), ?_⟩
  · have k := h.core.hands _ (m1 s hs)
    refine ⟨?_, fun x hx => ?_⟩
    · have := k.1
      rw [show s.x.hands.length = s.hs.length from List.length_map _] at this
      omega
    · have := k.2 _ (m2 s hs x hx)
      omega
  · have k := h.p0 p _ (m1 s hs)
    refine ⟨k.1, ?_⟩
    have : s.hs.map (·.h) = [] := k.2
    exact List.map_eq_nil_iff.mp this
  · have := h.core.dealer
    show T.abs.dealer.length ≤ 8000
    omega
def sp_answers (K : PySem.W.Frag) : Sp := fun vs H Q _ => ∃ (ca : Addr) (cs : List Kg84Neutral.Call), vs = [.ref ca] ∧ SqL K H ca ((PyFlat.put cs).map V.int) ∧ (∀ c ∈ cs, Kg84Neutral.asked1 c = true) ∧ cs.length ≤ 250 ∧ (toldOf Kg84.init cs).length ≤ 10000000 ∧
  ∀ H' p, H' p = some (.lst ((toldOf Kg84.init cs).map V.int)) → Q (.ref p) H'
structure Lp (C : Adr) (Hi : Hp) (fa t : Addr) (cs : List Kg84Neutral.Call) (H : Hp) (dn rest : List Kg84Neutral.Call) (out : List Int) : Prop where
  all : cs = dn ++ rest
  ex : ∃ (H0 : Hp) (T : TabL) (s : Kg84.State), Tab C H0 H t T ∧ Same Hi H0 ∧ H0 fa = some (.lst (out.map V.int)) ∧ Good dn.length T.abs ∧ Sim T.abs s ∧ toldOf Kg84.init cs = out ++ toldOf s rest
section
variable {P : Program} {w : World} {K : PySem.W.Frag} {mg : Str → Option Value} {base : Heap} {C : Adr}
theorem fn_answers (T : Txt K mg C) {f : Addr} {fd : FuncData} (F : Fun K "answers" "answers" s_answers f fd) : FnOk P w K mg base CX0 16 f fd P_answers (sp_answers K) := by
  refine F.ok sc_answers ?_ ?_
  · rintro vs H Q E ⟨ca, cs, rfl, _⟩
    rfl
  · intro cdv A outer sh H vs Q E hr h
    obtain ⟨ca, cs, rfl, hca, hask, hlen, hsh, q⟩ := h
    refine ⟨_, (pss_cons (ps_set (i := 1) sc_answers.nd rfl (Or.inl rfl) (pe_cK0 (ok_Table_init T) hr (by decide)))
      (pss_cons (ps_set (i := 2) sc_answers.nd rfl (Or.inl rfl) (pe_lst pa_nil))
      (pss_cons (ps_set (i := 3) sc_answers.nd rfl (Or.inl rfl) pe_int)
      (pss_cons (ps_while PassesOwn.never (pt_cmp (pc_lt (pv 3) (pe_callB call_len_seq (by rfl) T.z_len PySem.boot_len (pa_cons (pv 0) pa_nil)))) (pss_cons (ps_set (i := 4) sc_answers.nd rfl (Or.inl rfl) (pe_ix ix_list (pv 0) (pv 3) (fun _ _ => rfl)))
      (pss_cons (ps_asg (pe_ix ix_tup (pe_glob (v := .ref C.SH) rfl T.g_SHAPES rfl) (pv 4) (fun _ _ => rfl)) (pg_tup (by rfl) (pgs_cons (pg_name (i := 5) sc_answers.nd rfl (Or.inl rfl)) (pgs_cons (pg_name (i := 6) sc_answers.nd rfl (Or.inl rfl)) pgs_nil))))
      (pss_cons (ps_set (i := 7) sc_answers.nd rfl (Or.inl rfl) (pe_slice sl_list (pv 0) (po_some (pe_op op_add (pv 3) pe_int)) (po_some (pe_op op_add (pe_op op_add (pv 3) pe_int) (pv 5)))))
      (pss_cons (ps_set (i := 3) sc_answers.nd rfl (Or.inl rfl) (pe_op op_add (pe_op op_add (pv 3) pe_int) (pv 5)))
      (pss_cons (ps_set (i := 8) sc_answers.nd rfl (Or.inl rfl) (pe_lst pa_nil))
      (pss_cons (ps_for PassesOwn.never rfl (pi_range1 rfl T.z_range (pa_cons (pv 6) pa_nil)) (pg_name (i := 9) sc_answers.nd rfl (Or.inl rfl)) (pss_cons (ps_expr (by exact (pe_bm PySem.F.plainAttrs_list PySem.F.slot_list_append PySem.F.type_list_append mt_append (pv 8) (pa_cons (pe_slice sl_list (pv 0) (po_some (pe_op op_add (pv 3) pe_int)) (po_some (pe_op op_add (pe_op op_add (pv 3) pe_int) (pe_ix ix_list (pv 0) (pv 3) (fun _ _ => rfl))))) pa_nil))))
      (pss_one (ps_set (i := 3) sc_answers.nd rfl (Or.inl rfl) (pe_op op_add (pe_op op_add (pv 3) pe_int) (pe_ix ix_list (pv 0) (pv 3) (fun _ _ => rfl)))))))
      (pss_cons (ps_set (i := 10) sc_answers.nd rfl (Or.inl rfl) (pe_cM (ok_Table_answer T) hr (by decide) T.clT pass0 (pv 1) (pa_cons (pv 4) (pa_cons (pv 7) (pa_cons (pv 8) pa_nil)))))
      (pss_cons (ps_expr (by exact (pe_bm PySem.F.plainAttrs_list PySem.F.slot_list_append PySem.F.type_list_append mt_append (pv 2) (pa_cons (pe_callB call_len_seq (by rfl) T.z_len PySem.boot_len (pa_cons (pv 10) pa_nil)) pa_nil))))
      (pss_one (ps_expr (by exact (pe_bm PySem.F.plainAttrs_list PySem.F.slot_list_extend PySem.F.type_list_extend mt_extend (pv 2) (pa_cons (pv 10) pa_nil))))))))))))))
      (pss_one (ps_ret (pv 2))))))), ?_⟩
    intro t dx nt nd ne
    have ot : Own (upd H dx (.own t)) (upd (upd H dx (.own t)) t (.ins C.T dx [])) [(t, .ins C.T dx [])] := by
      have n1 : upd H dx (.own t) t = none := by
        rw [upd_ne (Ne.symm ne)]
        exact nt
      exact Own.new ⟨Same.refl _, fun p hp => (nomatch hp), List.nodup_nil, fun p hp => (nomatch hp)⟩ n1
    refine ⟨_, t, dx, rfl, ot, fun H1 B hB eB => ⟨rfl, ?_⟩⟩
    refine ⟨Nat.zero_le _, fun fa hfa => ?_⟩
    have hi : H fa = none := (same_new nd).free (hB.own.free hfa)
    refine while_by (fun σ H' => ∃ (v4 v5 v6 v7 v8 v9 v10 : Option V) (dn rest : List Kg84Neutral.Call) (out : List Int), σ = [some (.ref ca), some (.ref t), some (.ref fa), some (.int ((PyFlat.put dn).length : Nat)), v4, v5, v6, v7, v8, v9, v10] ∧ Lp C H fa t cs H' dn rest out)
      (fun σ _ => match σ with | _ :: _ :: _ :: some (.int z) :: _ => (((PyFlat.put cs).length : Int) - z).toNat | _ => 0)
      ⟨none, none, none, none, none, none, none, [], cs, [], rfl, rfl, _, B, Kg84.init, hB.frame hfa, ?_, upd_same, ?_, ?_, rfl⟩ ?_ ?_
    · exact Same.upd (same_new nd) hi
    · rw [eB]
      exact good_first
    · exact .inr ⟨eB, rfl⟩
    · rintro σ H2 ⟨v4, v5, v6, v7, v8, v9, v10, dn, rest, out, rfl, eall, H0, B2, s, hB2, sI, efa, hG, hSim, eT⟩
      have sI2 : Same H H2 := sI.trans hB2.own.same
      have hca2 : SqL K H2 ca ((PyFlat.put cs).map V.int) := sI2.seq hca
      have eput : PyFlat.put cs = PyFlat.put dn ++ PyFlat.put rest := by rw [eall, put_app]
      refine ⟨_, rfl, _, rfl, ca, _, rfl, .inl hca2, _, _, rfl, rfl, _, rfl, ?_⟩
      refine ifB (b := decide (((PyFlat.put dn).length : Int) < (((PyFlat.put cs).map V.int).length : Nat))) rfl (fun e => ?_) (fun e => ?_)
      rotate_left
      · cases rest with
        | nil =>
          have eT' : toldOf Kg84.init cs = out := by
            rw [eT]
            exact List.append_nil out
          exact ⟨_, rfl, q H2 fa (by rw [eT']; exact hB2.own.same _ _ efa)⟩
        | cons c r =>
          exfalso
          obtain ⟨p, ns, rs, k, ec, _⟩ := asked_is (hask c (by rw [eall]; simp))
          have := of_decide_eq_false e
          rw [List.length_map, eput, ec, List.length_append] at this
          have h2 : (PyFlat.put (((p :: ns) :: rs) :: r)).length = ((p :: (ns ++ PyFlat.putRows rs)) ++ PyFlat.put r).length := rfl
          rw [h2, List.length_append, List.length_cons] at this
          omega
      cases rest with
      | nil =>
        exfalso
        have := of_decide_eq_true e
        rw [List.length_map, eput, show PyFlat.put ([] : List Kg84Neutral.Call) = [] from rfl, List.append_nil] at this
        omega
      | cons c r =>
        obtain ⟨p, ns, rs, k, ec, hk, hIs, hShort, h20⟩ := asked_is (hask c (by rw [eall]; simp))
        obtain ⟨i, rfl, i1, i14, sN, sR, hrs⟩ := hIs.shape
        have eL : PyFlat.put cs = PyFlat.put dn ++ ((i : Int) :: (ns ++ (PyFlat.putRows rs ++ PyFlat.put r))) := by
          rw [eput, ec]
          show _ ++ (((i : Int) :: (ns ++ PyFlat.putRows rs)) ++ PyFlat.put r) = _
          simp
        have hcaX : ∀ {H'}, Same H H' → SqL K H' ca ((PyFlat.put dn ++ ((i : Int) :: (ns ++ (PyFlat.putRows rs ++ PyFlat.put r)))).map V.int) := fun s' => by
          rw [← eL]
          exact s'.seq hca
        refine ⟨_, rfl, _, rfl, ca, _, _, _, rfl, rfl, hcaX sI2, at_mid rfl, ?_⟩
        obtain ⟨xs, pp, hT1, hx, hT2⟩ := T.SHAPES H2 i i1 i14
        rw [sN, sR] at hT2
        refine ⟨_, rfl, C.SH, xs, _, _, rfl, rfl, hT1, atI_nat' hx, pp, _, rfl, hT2, rfl, _, _, rfl, _, _, rfl, rfl, ?_⟩
        refine ⟨_, rfl, _, rfl, _, _, rfl, rfl, _, rfl, _, rfl, _, _, rfl, rfl, _, rfl, _, _, rfl, rfl, _, rfl, ca, _, rfl, hcaX sI2, fun pn hpn => ?_⟩
        have ecut : cutV ((PyFlat.put dn ++ ((i : Int) :: (ns ++ (PyFlat.putRows rs ++ PyFlat.put r)))).map V.int) (some (((PyFlat.put dn).length : Int) + 1)) (some (((PyFlat.put dn).length : Int) + 1 + ns.length)) = ns.map V.int := by
          rw [show PyFlat.put dn ++ ((i : Int) :: (ns ++ (PyFlat.putRows rs ++ PyFlat.put r))) = (PyFlat.put dn ++ [(i : Int)]) ++ (ns ++ (PyFlat.putRows rs ++ PyFlat.put r)) by simp]
          exact cut_mid (by simp) (by simp)
        rw [ecut]
        have hB3 := hB2.frame (o := .lst (ns.map V.int)) hpn
        have n3 : H0 pn = none := hB2.own.free hpn
        have sI3 : Same H (upd H0 pn (.lst (ns.map V.int))) := Same.upd sI (sI.free n3)
        refine ⟨_, rfl, _, _, rfl, rfl, _, rfl, _, _, rfl, rfl, ?_⟩
        refine ⟨Nat.zero_le _, fun pr hpr => ?_⟩
        have hB4 := hB3.frame (o := .lst []) hpr
        have n4 : upd H0 pn (.lst (ns.map V.int)) pr = none := hB3.own.free hpr
        have sI4 := Same.upd (o := .lst []) sI3 (sI3.free n4)
        have efa4 : upd (upd H0 pn (.lst (ns.map V.int))) pr (.lst []) fa = some (.lst (out.map V.int)) := same_new n4 _ _ (same_new n3 _ _ efa)
        have epn4 : upd (upd H0 pn (.lst (ns.map V.int))) pr (.lst []) pn = some (.lst (ns.map V.int)) := same_new n4 _ _ upd_same
        have l1 : rs.length ≤ 1 := by
          rcases hrs with rfl | ⟨l, rfl⟩
          · exact Nat.zero_le _
          · exact Nat.le_refl _
        refine ⟨_, rfl, (rs.length : Int), rfl, by omega, by omega, ?_⟩
        rw [Int.toNat_natCast]
        have ne1 : fa ≠ pr := ne_of_none (same_new (o := .lst (ns.map V.int)) n3 _ _ efa) n4
        have ne2 : pn ≠ pr := ne_of_none (H := upd H0 pn (.lst (ns.map V.int))) upd_same n4
        refine for_range (fun j σ H' => ∃ (v9 : Option V) (z : Int) (H0' : Hp), σ = [some (.ref ca), some (.ref t), some (.ref fa), some (.int z), some (.int (i : Nat)), some (.int (ns.length : Nat)), some (.int (rs.length : Nat)), some (.ref pn), some (.ref pr), v9, v10] ∧
            Tab C H0' H' t B2 ∧ Same H H0' ∧ H0' fa = some (.lst (out.map V.int)) ∧ H0' pn = some (.lst (ns.map V.int)) ∧
            ((j = 0 ∧ z = ((PyFlat.put dn).length : Int) + 1 + ns.length ∧ H0' pr = some (.lst [])) ∨ (j = 1 ∧ ∃ l a, rs = [l] ∧ z = ((PyFlat.put dn).length : Int) + 1 + ns.length + 1 + l.length ∧ H0' pr = some (.lst [.ref a]) ∧ H0' a = some (.lst (l.map V.int)))))
          ⟨v9, _, _, rfl, hB4, sI4, efa4, epn4, .inl ⟨rfl, rfl, upd_same⟩⟩ ?_ ?_
        · rintro j σ H5 hj ⟨v9, z, H0', rfl, hB5, sI5, efa5, epn5, h5⟩
          have j0 : j = 0 := by omega
          subst j0
          rcases h5 with ⟨_, rfl, epr⟩ | ⟨z, _⟩
          rotate_left
          · cases z
          obtain ⟨l, rfl⟩ : ∃ l, rs = [l] := by
            rcases hrs with rfl | h
            · cases hj
            · exact h
          have sI5' : Same H H5 := sI5.trans hB5.own.same
          have hca5 := hcaX sI5'
          have eshape : PyFlat.put dn ++ ((i : Int) :: (ns ++ (PyFlat.putRows [l] ++ PyFlat.put r))) = (PyFlat.put dn ++ (i : Int) :: ns) ++ ((l.length : Int) :: (l ++ PyFlat.put r)) := by
            rw [show PyFlat.putRows [l] = (l.length : Int) :: l ++ [] from rfl]
            simp
          rw [eshape] at hca5
          have hat : atI (((PyFlat.put dn ++ (i : Int) :: ns) ++ ((l.length : Int) :: (l ++ PyFlat.put r))).map V.int) (((PyFlat.put dn).length : Int) + 1 + ns.length) = some (V.int l.length) := at_mid (by simp; omega)
          refine ⟨_, rfl, .inl ⟨rfl, _, SqL.of (hB5.own.same _ _ epr)⟩, _, rfl, _, rfl, _, _, rfl, rfl, _, rfl, _, rfl, _, _, rfl, rfl, _, rfl, _, rfl, ca, _, _, _, rfl, rfl, hca5, hat, _, _, rfl, rfl, _, rfl, ca, _, rfl, hca5, fun a ha => ?_⟩
          have ecut2 : cutV (((PyFlat.put dn ++ (i : Int) :: ns) ++ ((l.length : Int) :: (l ++ PyFlat.put r))).map V.int) (some (((PyFlat.put dn).length : Int) + 1 + ns.length + 1)) (some (((PyFlat.put dn).length : Int) + 1 + ns.length + 1 + l.length)) = l.map V.int := by
            rw [show (PyFlat.put dn ++ (i : Int) :: ns) ++ ((l.length : Int) :: (l ++ PyFlat.put r)) = (PyFlat.put dn ++ (i : Int) :: (ns ++ [(l.length : Int)])) ++ (l ++ PyFlat.put r) by simp]
            exact cut_mid (by simp; omega) (by simp; omega)
          rw [ecut2]
          have hB6 := hB5.frame (o := .lst (l.map V.int)) ha
          have n6 : H0' a = none := hB5.own.free ha
          have epr6 := same_new (o := .lst (l.map V.int)) n6 _ _ epr
          have npa : pr ≠ a := ne_of_none epr n6
          have npr : H pr = none := sI3.free n4
          have hB7 : Tab C (upd (upd H0' a (.lst (l.map V.int))) pr (.lst [.ref a])) (upd (upd H5 a (.lst (l.map V.int))) pr (.lst ([] ++ [.ref a]))) t B2 := ⟨hB6.own.frame_put epr6 (.lst [.ref a]), hB6.fit⟩
          refine ⟨pr, _, _, rfl, rfl, hB6.own.same _ _ epr6, (by show 0 < sizeLine; decide), ?_⟩
          have sI6 : Same H (upd H0' a (.lst (l.map V.int))) := Same.upd sI5 (sI5.free n6)
          have sI7 : Same H (upd (upd H0' a (.lst (l.map V.int))) pr (.lst [.ref a])) := Same.upd sI6 npr
          have hca7 := hcaX (sI7.trans hB7.own.same)
          rw [eshape] at hca7
          refine ⟨_, rfl, _, _, rfl, rfl, _, rfl, _, rfl, ca, _, _, _, rfl, rfl, hca7, hat, _, _, rfl, rfl, ?_⟩
          refine ⟨_, _, _, rfl, hB7, sI7, ?_, ?_, .inr ⟨rfl, l, a, rfl, rfl, upd_same, ?_⟩⟩
          · rw [upd_ne ne1]
            exact same_new n6 _ _ efa5
          · rw [upd_ne ne2]
            exact same_new n6 _ _ epn5
          · rw [upd_ne (Ne.symm npa)]
            exact upd_same
        · rintro σ H5 ⟨v9, z, H0', rfl, hB5, sI5, efa5, epn5, h5⟩
          have lenc : (PyFlat.put (dn ++ [c])).length = (PyFlat.put dn).length + (1 + (ns.length + (PyFlat.putRows rs).length)) := by
            rw [put_app, List.length_append, ec, show PyFlat.put [((i : Int) :: ns) :: rs] = ((i : Int) :: (ns ++ PyFlat.putRows rs)) ++ [] from rfl, List.append_nil, List.length_cons, List.length_append]
            omega
          have hrow : RowAt H0' pr rs ∧ z = ((PyFlat.put (dn ++ [c])).length : Nat) := by
            rw [lenc]
            rcases h5 with ⟨e0, rfl, epr⟩ | ⟨_, l, a, rfl, rfl, epr, ea⟩
            · have : rs = [] := List.length_eq_zero_iff.mp e0
              subst this
              refine ⟨trivial, ?_⟩
              rw [show PyFlat.putRows [] = [] from rfl, List.length_nil]
              omega
            · refine ⟨⟨h20 l (List.mem_singleton.mpr rfl), a, epr, ea⟩, ?_⟩
              rw [show PyFlat.putRows [l] = (l.length : Int) :: (l ++ []) from rfl, List.append_nil, List.length_cons]
              omega
          obtain ⟨hrow, rfl⟩ := hrow
          have dnl : dn.length ≤ 250 := by
            rw [eall, List.length_append, List.length_cons] at hlen
            omega
          refine ⟨_, rfl, t, B2.d, _, rfl, hB5.obj, tabF_no_answer, _, rfl, _, rfl, _, rfl, H0', t, pn, pr, B2, i, ns, rs, k, rfl, hB5, side_of hG dnl, hIs, epn5, hrow, fun T' eT' H6 p6 n6 hB6 => ?_⟩
          obtain ⟨ea, es⟩ := sim_spec hSim k
          rw [← eT'] at es
          generalize hans : (Kg84.spec B2.abs k).2.value :: (Kg84.spec B2.abs k).2.out = ans at hB6
          have etold : toldOf s (c :: r) = (ans.length : Int) :: (ans ++ toldOf (Kg84.spec s k).1 r) := by
            rw [toldOf_cons hk, ← hans, ea]
          rw [etold] at eT
          have hlen2 : out.length + (1 + ans.length) ≤ 10000000 := by
            have := congrArg List.length eT
            rw [List.length_append, List.length_cons, List.length_append] at this
            omega
          have ans6 : H6 p6 = some (.lst (ans.map V.int)) := hB6.own.same _ _ upd_same
          have fa6 : H6 fa = some (.lst (out.map V.int)) := hB6.own.same _ _ (same_new n6 _ _ efa5)
          have np6 : fa ≠ p6 := ne_of_none efa5 n6
          have big : 10000000 < sizeLine := by
            unfold sizeLine
            decide
          refine ⟨_, rfl, .inl ⟨rfl, _, SqL.of fa6⟩, _, rfl, p6, _, rfl, .inl (SqL.of ans6), fa, _, _, rfl, rfl, fa6, by rw [List.length_map]; omega, ?_⟩
          rw [List.length_map]
          have fa7 : upd H6 fa (.lst (out.map V.int ++ [V.int (ans.length : Nat)])) fa = some (.lst (out.map V.int ++ [V.int (ans.length : Nat)])) := upd_same
          have ans7 : upd H6 fa (.lst (out.map V.int ++ [V.int (ans.length : Nat)])) p6 = some (.lst (ans.map V.int)) := by
            rw [upd_ne (Ne.symm np6)]
            exact ans6
          have hB7 : Tab C (upd (upd H0' p6 (.lst (ans.map V.int))) fa (.lst (out.map V.int ++ [V.int (ans.length : Nat)]))) (upd H6 fa (.lst (out.map V.int ++ [V.int (ans.length : Nat)]))) t T' := ⟨hB6.own.frame_put (same_new n6 _ _ efa5) _, hB6.fit⟩
          refine ⟨_, rfl, .inl ⟨rfl, _, SqL.of fa7⟩, _, rfl, fa, p6, _, _, rfl, rfl, fa7, ans7, by rw [List.length_append, List.length_map, List.length_map, List.length_singleton]; omega, ?_⟩
          have eout : out.map V.int ++ [V.int (ans.length : Nat)] ++ ans.map V.int = (out ++ (ans.length : Int) :: ans).map V.int := by simp
          rw [eout]
          have hB8 : Tab C (upd (upd (upd H0' p6 (.lst (ans.map V.int))) fa (.lst (out.map V.int ++ [V.int (ans.length : Nat)]))) fa (.lst ((out ++ (ans.length : Int) :: ans).map V.int))) (upd (upd H6 fa (.lst (out.map V.int ++ [V.int (ans.length : Nat)]))) fa (.lst ((out ++ (ans.length : Int) :: ans).map V.int))) t T' := ⟨hB7.own.frame_put upd_same _, hB7.fit⟩
          refine ⟨⟨_, _, _, _, _, _, _, dn ++ [c], r, out ++ (ans.length : Int) :: ans, rfl, by rw [eall]; simp, _, T', _, hB8, ?_, upd_same, ?_, es, ?_⟩, ?_⟩
          · exact Same.upd (Same.upd (Same.upd sI5 (sI5.free n6)) hi) hi
          · rw [List.length_append, eT']
            exact good_spec hG k hShort
          · rw [eT]
            simp
          · show (((PyFlat.put cs).length : Int) - ((PyFlat.put (dn ++ [c])).length : Nat)).toNat < (((PyFlat.put cs).length : Int) - ((PyFlat.put dn).length : Nat)).toNat
            have h9 : (PyFlat.put cs).length = (PyFlat.put dn).length + ((PyFlat.putRows rs).length + ns.length + 1 + (PyFlat.put r).length) := by
              rw [eL]
              simp
              omega
            omega
    · intro σ H Q Q' hm h
      obtain ⟨v, e1, u, e2, p, ys, e3, e4, i, j, e5, e6, b, e7, e8⟩ := h
      exact ⟨v, e1, u, e2, p, ys, e3, e4, i, j, e5, e6, b, e7, hm _ _ e8⟩
end
end Bj
namespace Bj
open PySem PySem.Spec PyProof.Rows L2
theorem whole_id (c : List (List Int)) : PyKg84.whole c = c := by
  unfold PyKg84.whole
  split <;> rfl
theorem map_whole (cs : List (List (List Int))) : cs.map PyKg84.whole = cs := by
  rw [show PyKg84.whole = id from funext whole_id, List.map_id]
theorem asked_calls {l : List Int} (h : PyKg84.answers_asked l = true) : ∃ cs : List Kg84Neutral.Call, PyFlat.put cs = l ∧ (∀ c ∈ cs, Kg84Neutral.asked1 c = true) ∧ cs.length ≤ 250 ∧ PyKg84.answers l = toldOf Kg84.init cs ∧ (toldOf Kg84.init cs).length ≤ 10000000 := by
  unfold PyKg84.answers_asked at h
  cases hc : PyFlat.calls PyKg84.shape l.length l with
  | none =>
    rw [hc] at h
    cases h
  | some cs =>
    rw [hc] at h
    dsimp only at h
    rw [Bool.and_eq_true, Bool.and_eq_true, map_whole] at h
    obtain ⟨⟨_, h1⟩, h2⟩ := h
    unfold Kg84Neutral.asked at h1
    rw [Bool.and_eq_true, Bool.and_eq_true] at h1
    have ea : PyKg84.answers l = toldOf Kg84.init cs := by
      unfold PyKg84.answers PyKg84.calls
      rw [hc]
      dsimp only
      rw [map_whole]
      rfl
    refine ⟨cs, (PyFlat.put_calls _ _ _ hc).1.symm, List.all_eq_true.mp h1.1, of_decide_eq_true h1.2.2, ea, ?_⟩
    rw [← ea]
    exact of_decide_eq_true h2
section
variable {K : PySem.W.Frag} {h : Heap} {mg : Str → Option Value} {C f : Addr} {x m qual : Str} {st : Stmt} {oc kV dc pm cd ct : Value} {od an : Option Addr} {sl : Array (Option Value)}
theorem mk_def (X : K.In h) (G : h.Ns mainGlobals mg) (a : PySem.W.nsIn K mainGlobals x = some (some (.ref f))) (l : K.lookup f = some ⟨oc, od, .func (PySem.W.fnOf x x (defArgs st) (defBody st) (defScope st) .none kV dc pm an cd ct), sl⟩) (c : PySem.W.codeIn K cd x = true) (k : PySem.W.keepIn K (.ref f) = true) : DefAt K mg x st :=
  ⟨f, _, fun_mk (st := st) l c k, PySem.W.mg_of X G a⟩
theorem mk_meth (a : PySem.W.findIn K (.ref C) m = some (some (.ref f))) (i : PySem.W.isFn K (.ref f) = true) (l : K.lookup f = some ⟨oc, od, .func (PySem.W.fnOf m qual (defArgs st) (defBody st) (defScope st) .none kV dc pm an cd ct), sl⟩) (c : PySem.W.codeIn K cd qual = true) (k : PySem.W.keepIn K (.ref f) = true) : MethAt K C m qual st :=
  ⟨f, _, fun_mk (st := st) l c k, ⟨a, i, k⟩⟩
theorem mk_make (X : K.In h) (G : h.Ns mainGlobals mg) (n : PySem.W.nsIn K mainGlobals x = some (some (.ref C))) (a : PySem.W.findIn K (.ref C) "__init__" = some (some (.ref f))) (i : PySem.W.isFn K (.ref f) = true) (l : K.lookup f = some ⟨oc, od, .func (PySem.W.fnOf "__init__" qual (defArgs st) (defBody st) (defScope st) .none kV dc pm an cd ct), sl⟩) (c : PySem.W.codeIn K cd qual = true) (k : PySem.W.keepIn K (.ref f) = true) (mk : PySem.W.makesIn K C = true) (kc : PySem.W.keepIn K (.ref C) = true) : MakeAt K mg C x qual st :=
  ⟨f, _, fun_mk (st := st) l c k, ⟨mk, a, i, kc⟩, PySem.W.mg_of X G n⟩
theorem exm_self {S : Addr} (h1 : PySem.W.subIn K (.ref S) (.type "BaseException") = some true) (h2 : PySem.W.isClsIn K S = true) (h3 : PySem.W.typeIn K (.ref S) = some (.type "type")) (h4 : PySem.W.subIn K (.ref S) (.ref S) = some true) :
    PySem.W.exmOne K (.ref S) (.ref S) = some true := by
  have e1 : (PySem.W.subIn K (.ref S) (.type "BaseException") == some true) = true := by rw [h1] <;> rfl
  have e2 : ((PySem.W.clsIn K S).isSome && PySem.W.typeIn K (.ref S) == some (.type "type")) = true := by
    have h2' : (PySem.W.clsIn K S).isSome = true := h2
    rw [h2', h3] <;> rfl
  show (if (PySem.W.subIn K (.ref S) (.type "BaseException") == some true) = true then (if ((PySem.W.clsIn K S).isSome && PySem.W.typeIn K (.ref S) == some (.type "type")) = true then PySem.W.subIn K (.ref S) (.ref S) else none) else none) = some true
  rw [if_pos e1, if_pos e2]
  exact h4
theorem mk_ref {nm q : Str} {N : Addr} {bs : List Value} {sn : List Str} {sub : List Value} {ab : Bool} {col : Option Bool} {dd : Option Addr} {m0 m1 m2 m3 m5 : Option Value} (X : K.In h) (G : h.Ns mainGlobals mg)
    (aC : PySem.W.nsIn K mainGlobals "Refused" = some (some (.ref C))) (gE : PySem.W.nsIn K mainGlobals "Exception" = some none)
    (xL : K.lookup C = some (PySem.excClassObj nm q C N bs PySem.ESX.exTail true sn sub ab col dd m0 m1 m2 m3 m5 "Exception.__new__"))
    (sa : PySem.W.findIn K (.ref C) "__setattr__" = some (some (.builtin "object.__setattr__"))) (ga : PySem.W.findIn K (.ref C) "__getattribute__" = some (some (.builtin "BaseException.__getattribute__"))) (gg : PySem.W.findIn K (.ref C) "__getattr__" = some none) (nn : PySem.W.findIn K (.ref C) "number" = some none)
    (iC : PySem.W.findIn K (.ref C) "__init__" = some (some (.ref f))) (tC : PySem.W.typeIn K (.ref f) = some (.type "function")) (vE : PySem.W.findCls K (.type "Exception") (.type "type") "__init__" = some (.val (.builtin "Exception.__init__")))
    (kC : PySem.W.keepIn K (.ref C) = true) (exC : PySem.W.subIn K (.ref C) (.type "BaseException") = some true) (tyC : PySem.W.typeIn K (.ref C) = some (.type "type")) (hdC : PySem.W.hasDictIn K C = true) (iS : PySem.W.isClsIn K C = true) (sC : PySem.W.subIn K (.ref C) (.ref C) = some true)
    (l : K.lookup f = some ⟨oc, od, .func (PySem.W.fnOf "__init__" "Refused.__init__" (defArgs sRefInit) (defBody sRefInit) (defScope sRefInit) .none kV dc pm an cd ct), sl⟩) (c : PySem.W.codeIn K cd "Refused.__init__" = true) : PySem.RefX.RefTxt K mg C f :=
  { gC := PySem.W.mg_of X G aC, gE := PySem.W.mg_none_of X G gE, cls := ⟨nm, q, N, bs, sn, sub, ab, col, dd, m0, m1, m2, m3, m5, xL⟩, sa := sa, ga := ga, gg := gg, noN := nn, iC := iC, tC := tC, vE := vE, kC := kC, exC := exC, tyC := tyC, hdC := hdC, te := exm_self exC iS tyC sC, fn := ⟨_, _, _, _, _, _, _, _, _, l, c⟩ }
end
theorem mk_pair {K : PySem.W.Frag} {p : Addr} {a b : Int} {dd : Option Addr} {ta tb n : Nat} {sl : Array (Option Value)} (l : K.lookup p = some ⟨.type "tuple", dd, .seq #[.int a ta, .int b tb] n, sl⟩) (H : Hp) : SqT K H p [.int a, .int b] :=
  .inr ⟨_, _, _, l, rfl, rfl, (by show 2 ≤ sizeLine; decide), .cons ⟨_, rfl⟩ (.cons ⟨_, rfl⟩ .nil)⟩
theorem mk_int {K : PySem.W.Frag} {h : Heap} {mg : Str → Option Value} {x : Str} {n : Int} {t : Nat} (X : K.In h) (G : h.Ns mainGlobals mg) (a : PySem.W.nsIn K mainGlobals x = some (some (.int n t))) : ∃ t, mg x = some (.int n t) := ⟨t, PySem.W.mg_of X G a⟩
theorem mk_no {K : PySem.W.Frag} {C : Addr} {f : Str} (n : PySem.W.findIn K (.ref C) f = some none) : NoAttr K C f := n
theorem mk_cls {K : PySem.W.Frag} {C : Addr} (pg : PySem.W.plainGet K C Str.empty = true) (hd : PySem.W.hasDictIn K C = true) (po : PySem.W.plainOver K C = true) (sa : PySem.W.findIn K (.ref C) "__setattr__" = some (some (.builtin "object.__setattr__"))) : Cls K C := ⟨pg, hd, po, sa⟩
theorem all_end {P : Program} {w : World} {K : PySem.W.Frag} {mg : Str → Option Value} {fa : Addr} {C : Adr} (hfa : mg "answers" = some (.ref fa)) (T : Txt K mg C) :
    ∃ fd : FuncData, (∀ (s : Shared) (us : List Value), us.length = (["calls"] : List Str).length → BindsTo s fd ⟨us, []⟩ ((["calls"] : List Str).zip us)) ∧ ∀ base : Heap, K.In base → base.Ns mainGlobals mg → FnOk P w K mg base CX0 16 fa fd ["calls"] (sp_answers K) := by
  obtain ⟨f, fd, F, hm⟩ := T.d_answers.ex
  have e := hfa.symm.trans hm
  cases e
  refine ⟨fd, ?_, fun base _ _ => fn_answers T F⟩
  obtain ⟨oc, od, kV, doc, pm, an, cdv, ct, osl, rfl, _, _⟩ := F.ex
  exact fun s us hu => match us, hu with | [_], _ => .of_eq rfl
end Bj
namespace Bj
open PySem PySem.Spec PyProof.Rows L2
section
variable {K : PySem.W.Frag} {h : Heap} {mg : Str → Option Value}
theorem mk_shapes {SH p0 p1 p2 p3 p4 p5 p6 p7 p8 p9 p10 p11 p12 p13 p14 : Addr} {dd : Option Addr} {n : Nat} {sl : Array (Option Value)} (l : K.lookup SH = some ⟨.type "tuple", dd, .seq #[.ref p0, .ref p1, .ref p2, .ref p3, .ref p4, .ref p5, .ref p6, .ref p7, .ref p8, .ref p9, .ref p10, .ref p11, .ref p12, .ref p13, .ref p14] n, sl⟩)
    (h1 : ∀ H, SqT K H p1 [.int 6, .int 0]) (h2 : ∀ H, SqT K H p2 [.int 2, .int 0]) (h3 : ∀ H, SqT K H p3 [.int 0, .int 1]) (h4 : ∀ H, SqT K H p4 [.int 2, .int 0]) (h5 : ∀ H, SqT K H p5 [.int 1, .int 0]) (h6 : ∀ H, SqT K H p6 [.int 0, .int 0]) (h7 : ∀ H, SqT K H p7 [.int 1, .int 0]) (h8 : ∀ H, SqT K H p8 [.int 2, .int 0]) (h9 : ∀ H, SqT K H p9 [.int 0, .int 0]) (h10 : ∀ H, SqT K H p10 [.int 0, .int 1]) (h11 : ∀ H, SqT K H p11 [.int 1, .int 0]) (h12 : ∀ H, SqT K H p12 [.int 0, .int 0]) (h13 : ∀ H, SqT K H p13 [.int 1, .int 0]) (h14 : ∀ H, SqT K H p14 [.int 0, .int 0]) :
    ∀ (H : Hp) (i : Nat), 1 ≤ i → i ≤ 14 → ∃ (xs : List V) (p : Addr), SqT K H SH xs ∧ xs[i]? = some (.ref p) ∧ SqT K H p [.int (shapeN i), .int (shapeR i)] := by
  intro H i a b
  have t : SqT K H SH [.ref p0, .ref p1, .ref p2, .ref p3, .ref p4, .ref p5, .ref p6, .ref p7, .ref p8, .ref p9, .ref p10, .ref p11, .ref p12, .ref p13, .ref p14] := .inr ⟨_, _, _, l, rfl, rfl, (by show 15 ≤ sizeLine; decide), .cons rfl (.cons rfl (.cons rfl (.cons rfl (.cons rfl (.cons rfl (.cons rfl (.cons rfl (.cons rfl (.cons rfl (.cons rfl (.cons rfl (.cons rfl (.cons rfl (.cons rfl .nil))))))))))))))⟩
  match i, a, b with
  | 1, _, _ => exact ⟨_, p1, t, rfl, h1 H⟩
  | 2, _, _ => exact ⟨_, p2, t, rfl, h2 H⟩
  | 3, _, _ => exact ⟨_, p3, t, rfl, h3 H⟩
  | 4, _, _ => exact ⟨_, p4, t, rfl, h4 H⟩
  | 5, _, _ => exact ⟨_, p5, t, rfl, h5 H⟩
  | 6, _, _ => exact ⟨_, p6, t, rfl, h6 H⟩
  | 7, _, _ => exact ⟨_, p7, t, rfl, h7 H⟩
  | 8, _, _ => exact ⟨_, p8, t, rfl, h8 H⟩
  | 9, _, _ => exact ⟨_, p9, t, rfl, h9 H⟩
  | 10, _, _ => exact ⟨_, p10, t, rfl, h10 H⟩
  | 11, _, _ => exact ⟨_, p11, t, rfl, h11 H⟩
  | 12, _, _ => exact ⟨_, p12, t, rfl, h12 H⟩
  | 13, _, _ => exact ⟨_, p13, t, rfl, h13 H⟩
  | 14, _, _ => exact ⟨_, p14, t, rfl, h14 H⟩
  | 0, a, _ => exact absurd a (by decide)
  | i + 15, _, b => exact absurd b (by omega)
theorem txt_end {P : Program} {w : World} {fa H S O T R FR SH : Addr} (X : K.In h) (G : h.Ns mainGlobals mg) (hfa : mg "answers" = some (.ref fa))
    (aH : PySem.W.nsIn K mainGlobals "Hand" = some (some (.ref H)))
    (aS : PySem.W.nsIn K mainGlobals "Seat" = some (some (.ref S)))
    (aO : PySem.W.nsIn K mainGlobals "Shoe" = some (some (.ref O)))
    (aT : PySem.W.nsIn K mainGlobals "Table" = some (some (.ref T)))
    (aR : PySem.W.nsIn K mainGlobals "Refused" = some (some (.ref R)))
    (aY : PySem.W.nsIn K mainGlobals "SHAPES" = some (some (.ref SH)))
    (aI : PySem.W.findIn K (.ref R) "__init__" = some (some (.ref FR)))
    (ref : PySem.RefX.RefTxt K mg R FR)
    (clH : Cls K H)
    (nH_cards : NoAttr K H "cards")
    (nH_stake : NoAttr K H "stake")
    (nH_of_split : NoAttr K H "of_split")
    (nH_state : NoAttr K H "state")
    (clS : Cls K S)
    (nS_stake : NoAttr K S "stake")
    (nS_insured : NoAttr K S "insured")
    (nS_won : NoAttr K S "won")
    (nS_hands : NoAttr K S "hands")
    (clO : Cls K O)
    (nO_left : NoAttr K O "left")
    (clT : Cls K T)
    (nT_seats : NoAttr K T "seats")
    (nT_shoe : NoAttr K T "shoe")
    (nT_dealer : NoAttr K T "dealer")
    (nT_phase : NoAttr K T "phase")
    (nT_draws_soft : NoAttr K T "draws_soft")
    (nT_doubles_split : NoAttr K T "doubles_split")
    (nT_gives : NoAttr K T "gives")
    (nT_most_hands : NoAttr K T "most_hands")
    (g_ACE : ∃ t, mg "ACE" = some (.int 1 t))
    (g_SORTS : ∃ t, mg "SORTS" = some (.int 13 t))
    (g_MOST_WORTH : ∃ t, mg "MOST_WORTH" = some (.int 10 t))
    (g_MOST_SOFT : ∃ t, mg "MOST_SOFT" = some (.int 11 t))
    (g_GOAL : ∃ t, mg "GOAL" = some (.int 21 t))
    (g_IN_PLAY : ∃ t, mg "IN_PLAY" = some (.int 0 t))
    (g_STANDS : ∃ t, mg "STANDS" = some (.int 1 t))
    (g_BEYOND : ∃ t, mg "BEYOND" = some (.int 2 t))
    (g_GIVEN_UP : ∃ t, mg "GIVEN_UP" = some (.int 3 t))
    (g_IN_DECK : ∃ t, mg "IN_DECK" = some (.int 4 t))
    (g_STAKES : ∃ t, mg "STAKES" = some (.int 0 t))
    (g_INSURANCE : ∃ t, mg "INSURANCE" = some (.int 1 t))
    (g_HANDS : ∃ t, mg "HANDS" = some (.int 2 t))
    (g_DEALER : ∃ t, mg "DEALER" = some (.int 3 t))
    (g_PAID : ∃ t, mg "PAID" = some (.int 4 t))
    (g_MOST_SEATS : ∃ t, mg "MOST_SEATS" = some (.int 7 t))
    (g_MOST_DECKS : ∃ t, mg "MOST_DECKS" = some (.int 8 t))
    (g_MOST_HANDS : ∃ t, mg "MOST_HANDS" = some (.int 4 t))
    (g_MOST_STAKE : ∃ t, mg "MOST_STAKE" = some (.int 1000 t))
    (g_DEALER_STANDS : ∃ t, mg "DEALER_STANDS" = some (.int 17 t))
    (SHAPES : ∀ (H : Hp) (i : Nat), 1 ≤ i → i ≤ 14 → ∃ (xs : List V) (p : Addr), SqT K H SH xs ∧ xs[i]? = some (.ref p) ∧ SqT K H p [.int (shapeN i), .int (shapeR i)])
    (z_all : PySem.W.nsIn K mainGlobals "all" = some none)
    (z_sum : PySem.W.nsIn K mainGlobals "sum" = some none)
    (z_min : PySem.W.nsIn K mainGlobals "min" = some none)
    (z_len : PySem.W.nsIn K mainGlobals "len" = some none)
    (z_any : PySem.W.nsIn K mainGlobals "any" = some none)
    (z_zip : PySem.W.nsIn K mainGlobals "zip" = some none)
    (z_int : PySem.W.nsIn K mainGlobals "int" = some none)
    (z_range : PySem.W.nsIn K mainGlobals "range" = some none)
    (z_list : PySem.W.nsIn K mainGlobals "list" = some none)
    (z_enumerate : PySem.W.nsIn K mainGlobals "enumerate" = some none)
    (d_is_card : DefAt K mg "is_card" s_is_card)
    (d_are_cards : DefAt K mg "are_cards" s_are_cards)
    (d_worth_of : DefAt K mg "worth_of" s_worth_of)
    (d_hard_count : DefAt K mg "hard_count" s_hard_count)
    (d_is_soft : DefAt K mg "is_soft" s_is_soft)
    (d_count_of : DefAt K mg "count_of" s_count_of)
    (d_is_natural : DefAt K mg "is_natural" s_is_natural)
    (d_must : DefAt K mg "must" s_must)
    (k_Hand_init : MakeAt K mg H "Hand" "Hand.__init__" s_Hand_init)
    (m_Hand_settle : MethAt K H "settle" "Hand.settle" s_Hand_settle)
    (m_Hand_end : MethAt K H "end" "Hand.end" s_Hand_end)
    (m_Hand_is_pair : MethAt K H "is_pair" "Hand.is_pair" s_Hand_is_pair)
    (m_Hand_wins_more : MethAt K H "wins_more" "Hand.wins_more" s_Hand_wins_more)
    (m_Hand_asks_dealer : MethAt K H "asks_dealer" "Hand.asks_dealer" s_Hand_asks_dealer)
    (m_Hand_paid : MethAt K H "paid" "Hand.paid" s_Hand_paid)
    (m_Hand_paid_by_count : MethAt K H "paid_by_count" "Hand.paid_by_count" s_Hand_paid_by_count)
    (m_Hand_told : MethAt K H "told" "Hand.told" s_Hand_told)
    (d_split_hands : DefAt K mg "split_hands" s_split_hands)
    (k_Seat_init : MakeAt K mg S "Seat" "Seat.__init__" s_Seat_init)
    (m_Seat_clear_round : MethAt K S "clear_round" "Seat.clear_round" s_Seat_clear_round)
    (m_Seat_pay : MethAt K S "pay" "Seat.pay" s_Seat_pay)
    (m_Seat_numbers : MethAt K S "numbers" "Seat.numbers" s_Seat_numbers)
    (k_Shoe_init : MakeAt K mg O "Shoe" "Shoe.__init__" s_Shoe_init)
    (m_Shoe_many : MethAt K O "many" "Shoe.many" s_Shoe_many)
    (m_Shoe_has_all : MethAt K O "has_all" "Shoe.has_all" s_Shoe_has_all)
    (m_Shoe_take : MethAt K O "take" "Shoe.take" s_Shoe_take)
    (d_is_flag : DefAt K mg "is_flag" s_is_flag)
    (k_Table_init : MakeAt K mg T "Table" "Table.__init__" s_Table_init)
    (m_Table_is_seat : MethAt K T "is_seat" "Table.is_seat" s_Table_is_seat)
    (m_Table_playing : MethAt K T "playing" "Table.playing" s_Table_playing)
    (m_Table_all_hands : MethAt K T "all_hands" "Table.all_hands" s_Table_all_hands)
    (m_Table_turn : MethAt K T "turn" "Table.turn" s_Table_turn)
    (m_Table_stands : MethAt K T "stands" "Table.stands" s_Table_stands)
    (m_Table_must_phase : MethAt K T "must_phase" "Table.must_phase" s_Table_must_phase)
    (m_Table_take : MethAt K T "take" "Table.take" s_Table_take)
    (m_Table_begin : MethAt K T "begin" "Table.begin" s_Table_begin)
    (m_Table_lay_stake : MethAt K T "lay_stake" "Table.lay_stake" s_Table_lay_stake)
    (m_Table_deal : MethAt K T "deal" "Table.deal" s_Table_deal)
    (m_Table_look : MethAt K T "look" "Table.look" s_Table_look)
    (m_Table_go_on : MethAt K T "go_on" "Table.go_on" s_Table_go_on)
    (m_Table_must_draw : MethAt K T "must_draw" "Table.must_draw" s_Table_must_draw)
    (m_Table_pay : MethAt K T "pay" "Table.pay" s_Table_pay)
    (m_Table_insure : MethAt K T "insure" "Table.insure" s_Table_insure)
    (m_Table_asked : MethAt K T "asked" "Table.asked" s_Table_asked)
    (m_Table_counted : MethAt K T "counted" "Table.counted" s_Table_counted)
    (m_Table_hit : MethAt K T "hit" "Table.hit" s_Table_hit)
    (m_Table_stand : MethAt K T "stand" "Table.stand" s_Table_stand)
    (m_Table_double : MethAt K T "double" "Table.double" s_Table_double)
    (m_Table_part : MethAt K T "part" "Table.part" s_Table_part)
    (m_Table_give : MethAt K T "give" "Table.give" s_Table_give)
    (m_Table_are_due : MethAt K T "are_due" "Table.are_due" s_Table_are_due)
    (m_Table_draw : MethAt K T "draw" "Table.draw" s_Table_draw)
    (m_Table_shuffle : MethAt K T "shuffle" "Table.shuffle" s_Table_shuffle)
    (m_Table_tell_seat : MethAt K T "tell_seat" "Table.tell_seat" s_Table_tell_seat)
    (m_Table_of_hand : MethAt K T "of_hand" "Table.of_hand" s_Table_of_hand)
    (m_Table_telling : MethAt K T "telling" "Table.telling" s_Table_telling)
    (m_Table_by_call : MethAt K T "by_call" "Table.by_call" s_Table_by_call)
    (m_Table_answer : MethAt K T "answer" "Table.answer" s_Table_answer)
    (d_answers : DefAt K mg "answers" s_answers) :
    ∃ fd : FuncData, (∀ (s : Shared) (us : List Value), us.length = (["calls"] : List Str).length → BindsTo s fd ⟨us, []⟩ ((["calls"] : List Str).zip us)) ∧ ∀ base : Heap, K.In base → base.Ns mainGlobals mg → FnOk P w K mg base CX0 16 fa fd ["calls"] (sp_answers K) :=
  all_end (C := ⟨H, S, O, T, R, FR, SH⟩) hfa { ref := ref, g_SHAPES := PySem.W.mg_of X G aY, clH := clH, nH_cards := nH_cards, nH_stake := nH_stake, nH_of_split := nH_of_split, nH_state := nH_state, clS := clS, nS_stake := nS_stake, nS_insured := nS_insured, nS_won := nS_won, nS_hands := nS_hands, clO := clO, nO_left := nO_left, clT := clT, nT_seats := nT_seats, nT_shoe := nT_shoe, nT_dealer := nT_dealer, nT_phase := nT_phase, nT_draws_soft := nT_draws_soft, nT_doubles_split := nT_doubles_split, nT_gives := nT_gives, nT_most_hands := nT_most_hands, g_ACE := g_ACE, g_SORTS := g_SORTS, g_MOST_WORTH := g_MOST_WORTH, g_MOST_SOFT := g_MOST_SOFT, g_GOAL := g_GOAL, g_IN_PLAY := g_IN_PLAY, g_STANDS := g_STANDS, g_BEYOND := g_BEYOND, g_GIVEN_UP := g_GIVEN_UP, g_IN_DECK := g_IN_DECK, g_STAKES := g_STAKES, g_INSURANCE := g_INSURANCE, g_HANDS := g_HANDS, g_DEALER := g_DEALER, g_PAID := g_PAID, g_MOST_SEATS := g_MOST_SEATS, g_MOST_DECKS := g_MOST_DECKS, g_MOST_HANDS := g_MOST_HANDS, g_MOST_STAKE := g_MOST_STAKE, g_DEALER_STANDS := g_DEALER_STANDS, SHAPES := SHAPES, z_all := PySem.W.mg_none_of X G z_all, z_sum := PySem.W.mg_none_of X G z_sum, z_min := PySem.W.mg_none_of X G z_min, z_len := PySem.W.mg_none_of X G z_len, z_any := PySem.W.mg_none_of X G z_any, z_zip := PySem.W.mg_none_of X G z_zip, z_int := PySem.W.mg_none_of X G z_int, z_range := PySem.W.mg_none_of X G z_range, z_list := PySem.W.mg_none_of X G z_list, z_enumerate := PySem.W.mg_none_of X G z_enumerate, d_is_card := d_is_card, d_are_cards := d_are_cards, d_worth_of := d_worth_of, d_hard_count := d_hard_count, d_is_soft := d_is_soft, d_count_of := d_count_of, d_is_natural := d_is_natural, d_must := d_must, k_Hand_init := k_Hand_init, m_Hand_settle := m_Hand_settle, m_Hand_end := m_Hand_end, m_Hand_is_pair := m_Hand_is_pair, m_Hand_wins_more := m_Hand_wins_more, m_Hand_asks_dealer := m_Hand_asks_dealer, m_Hand_paid := m_Hand_paid, m_Hand_paid_by_count := m_Hand_paid_by_count, m_Hand_told := m_Hand_told, d_split_hands := d_split_hands, k_Seat_init := k_Seat_init, m_Seat_clear_round := m_Seat_clear_round, m_Seat_pay := m_Seat_pay, m_Seat_numbers := m_Seat_numbers, k_Shoe_init := k_Shoe_init, m_Shoe_many := m_Shoe_many, m_Shoe_has_all := m_Shoe_has_all, m_Shoe_take := m_Shoe_take, d_is_flag := d_is_flag, k_Table_init := k_Table_init, m_Table_is_seat := m_Table_is_seat, m_Table_playing := m_Table_playing, m_Table_all_hands := m_Table_all_hands, m_Table_turn := m_Table_turn, m_Table_stands := m_Table_stands, m_Table_must_phase := m_Table_must_phase, m_Table_take := m_Table_take, m_Table_begin := m_Table_begin, m_Table_lay_stake := m_Table_lay_stake, m_Table_deal := m_Table_deal, m_Table_look := m_Table_look, m_Table_go_on := m_Table_go_on, m_Table_must_draw := m_Table_must_draw, m_Table_pay := m_Table_pay, m_Table_insure := m_Table_insure, m_Table_asked := m_Table_asked, m_Table_counted := m_Table_counted, m_Table_hit := m_Table_hit, m_Table_stand := m_Table_stand, m_Table_double := m_Table_double, m_Table_part := m_Table_part, m_Table_give := m_Table_give, m_Table_are_due := m_Table_are_due, m_Table_draw := m_Table_draw, m_Table_shuffle := m_Table_shuffle, m_Table_tell_seat := m_Table_tell_seat, m_Table_of_hand := m_Table_of_hand, m_Table_telling := m_Table_telling, m_Table_by_call := m_Table_by_call, m_Table_answer := m_Table_answer, d_answers := d_answers }
end
end Bj
open PySem PySem.W PyProof.Rows
set_option maxRecDepth 100000 in
set_option maxHeartbeats 0 in
theorem PySem.Challenge.cw_cardtable_s01_answers_holds : PySem.Challenge.rw_cardtable_s01_answers.Holds := by
  w_on; k_headS; (case hw => exact ⟨[.list [.int 12]], by decide +kernel, by decide +kernel⟩)
  k_fillS
  refine L2.walk_specK (r := PySem.Challenge.rw_cardtable_s01_answers) (k := 16) (CX := L2.CX0) (ps := ["calls"]) (sp := Bj.sp_answers) (by decide +kernel) rfl rfl ⟨rfl, by decide, by decide⟩ (fun w h Y => PySem.W.kIn_of Y) ?F ?S (fun _ _ _ _ z => z)
  case F =>
    intro w mg fa h Y KX G hmg
    clear Y
    refine' Bj.txt_end KX G hmg ?aH ?aS ?aO ?aT ?aR ?aY ?aI ?ref ?clH ?nH_cards ?nH_stake ?nH_of_split ?nH_state ?clS ?nS_stake ?nS_insured ?nS_won ?nS_hands ?clO ?nO_left ?clT ?nT_seats ?nT_shoe ?nT_dealer ?nT_phase ?nT_draws_soft ?nT_doubles_split ?nT_gives ?nT_most_hands ?g_ACE ?g_SORTS ?g_MOST_WORTH ?g_MOST_SOFT ?g_GOAL ?g_IN_PLAY ?g_STANDS ?g_BEYOND ?g_GIVEN_UP ?g_IN_DECK ?g_STAKES ?g_INSURANCE ?g_HANDS ?g_DEALER ?g_PAID ?g_MOST_SEATS ?g_MOST_DECKS ?g_MOST_HANDS ?g_MOST_STAKE ?g_DEALER_STANDS ?SHAPES ?z_all ?z_sum ?z_min ?z_len ?z_any ?z_zip ?z_int ?z_range ?z_list ?z_enumerate ?d_is_card ?d_are_cards ?d_worth_of ?d_hard_count ?d_is_soft ?d_count_of ?d_is_natural ?d_must ?k_Hand_init ?m_Hand_settle ?m_Hand_end ?m_Hand_is_pair ?m_Hand_wins_more ?m_Hand_asks_dealer ?m_Hand_paid ?m_Hand_paid_by_count ?m_Hand_told ?d_split_hands ?k_Seat_init ?m_Seat_clear_round ?m_Seat_pay ?m_Seat_numbers ?k_Shoe_init ?m_Shoe_many ?m_Shoe_has_all ?m_Shoe_take ?d_is_flag ?k_Table_init ?m_Table_is_seat ?m_Table_playing ?m_Table_all_hands ?m_Table_turn ?m_Table_stands ?m_Table_must_phase ?m_Table_take ?m_Table_begin ?m_Table_lay_stake ?m_Table_deal ?m_Table_look ?m_Table_go_on ?m_Table_must_draw ?m_Table_pay ?m_Table_insure ?m_Table_asked ?m_Table_counted ?m_Table_hit ?m_Table_stand ?m_Table_double ?m_Table_part ?m_Table_give ?m_Table_are_due ?m_Table_draw ?m_Table_shuffle ?m_Table_tell_seat ?m_Table_of_hand ?m_Table_telling ?m_Table_by_call ?m_Table_answer ?d_answers
    (case aH => k_is)
    (case aS => k_is)
    (case aO => k_is)
    (case aT => k_is)
    (case aR => k_is)
    (case aY => k_is)
    (case aI => k_is)
    case ref =>
      clear hmg
      refine' Bj.mk_ref KX G ?rf0 ?rf1 ?rf2 ?rf3 ?rf4 ?rf5 ?rf6 ?rf7 ?rf8 ?rf9 ?rf10 ?rf11 ?rf12 ?rf13 ?rf14 ?rf15 ?rf16 ?rf17
      (case rf0 => k_is)
      (case rf1 => k_is)
      (case rf2 => k_is)
      (case rf3 => k_is)
      (case rf4 => k_is)
      (case rf5 => k_is)
      (case rf6 => k_is)
      (case rf7 => k_is)
      (case rf8 => k_is)
      (case rf9 => k_is)
      (case rf10 => k_is)
      (case rf11 => k_is)
      (case rf12 => k_is)
      (case rf13 => k_is)
      (case rf14 => k_is)
      (case rf15 => first | rfl | k_is)
      (case rf16 => k_is)
      (case rf17 => k_is)
    case clH =>
      clear hmg
      refine' Bj.mk_cls ?clH_0 ?clH_1 ?clH_2 ?clH_3
      (case clH_0 => k_is); (case clH_1 => k_is); (case clH_2 => k_is); (case clH_3 => k_is)
    case nH_cards =>
      clear hmg
      refine' Bj.mk_no ?nH_cards_0
      (case nH_cards_0 => k_is)
    case nH_stake =>
      clear hmg
      refine' Bj.mk_no ?nH_stake_0
      (case nH_stake_0 => k_is)
    case nH_of_split =>
      clear hmg
      refine' Bj.mk_no ?nH_of_split_0
      (case nH_of_split_0 => k_is)
    case nH_state =>
      clear hmg
      refine' Bj.mk_no ?nH_state_0
      (case nH_state_0 => k_is)
    case clS =>
      clear hmg
      refine' Bj.mk_cls ?clS_0 ?clS_1 ?clS_2 ?clS_3
      (case clS_0 => k_is); (case clS_1 => k_is); (case clS_2 => k_is); (case clS_3 => k_is)
    case nS_stake =>
      clear hmg
      refine' Bj.mk_no ?nS_stake_0
      (case nS_stake_0 => k_is)
    case nS_insured =>
      clear hmg
      refine' Bj.mk_no ?nS_insured_0
      (case nS_insured_0 => k_is)
    case nS_won =>
      clear hmg
      refine' Bj.mk_no ?nS_won_0
      (case nS_won_0 => k_is)
    case nS_hands =>
      clear hmg
      refine' Bj.mk_no ?nS_hands_0
      (case nS_hands_0 => k_is)
    case clO =>
      clear hmg
      refine' Bj.mk_cls ?clO_0 ?clO_1 ?clO_2 ?clO_3
      (case clO_0 => k_is); (case clO_1 => k_is); (case clO_2 => k_is); (case clO_3 => k_is)
    case nO_left =>
      clear hmg
      refine' Bj.mk_no ?nO_left_0
      (case nO_left_0 => k_is)
    case clT =>
      clear hmg
      refine' Bj.mk_cls ?clT_0 ?clT_1 ?clT_2 ?clT_3
      (case clT_0 => k_is); (case clT_1 => k_is); (case clT_2 => k_is); (case clT_3 => k_is)
    case nT_seats =>
      clear hmg
      refine' Bj.mk_no ?nT_seats_0
      (case nT_seats_0 => k_is)
    case nT_shoe =>
      clear hmg
      refine' Bj.mk_no ?nT_shoe_0
      (case nT_shoe_0 => k_is)
    case nT_dealer =>
      clear hmg
      refine' Bj.mk_no ?nT_dealer_0
      (case nT_dealer_0 => k_is)
    case nT_phase =>
      clear hmg
      refine' Bj.mk_no ?nT_phase_0
      (case nT_phase_0 => k_is)
    case nT_draws_soft =>
      clear hmg
      refine' Bj.mk_no ?nT_draws_soft_0
      (case nT_draws_soft_0 => k_is)
    case nT_doubles_split =>
      clear hmg
      refine' Bj.mk_no ?nT_doubles_split_0
      (case nT_doubles_split_0 => k_is)
    case nT_gives =>
      clear hmg
      refine' Bj.mk_no ?nT_gives_0
      (case nT_gives_0 => k_is)
    case nT_most_hands =>
      clear hmg
      refine' Bj.mk_no ?nT_most_hands_0
      (case nT_most_hands_0 => k_is)
    case g_ACE =>
      clear hmg
      refine' Bj.mk_int KX G ?g_ACE_0
      (case g_ACE_0 => k_is)
    case g_SORTS =>
      clear hmg
      refine' Bj.mk_int KX G ?g_SORTS_0
      (case g_SORTS_0 => k_is)
    case g_MOST_WORTH =>
      clear hmg
      refine' Bj.mk_int KX G ?g_MOST_WORTH_0
      (case g_MOST_WORTH_0 => k_is)
    case g_MOST_SOFT =>
      clear hmg
      refine' Bj.mk_int KX G ?g_MOST_SOFT_0
      (case g_MOST_SOFT_0 => k_is)
    case g_GOAL =>
      clear hmg
      refine' Bj.mk_int KX G ?g_GOAL_0
      (case g_GOAL_0 => k_is)
    case g_IN_PLAY =>
      clear hmg
      refine' Bj.mk_int KX G ?g_IN_PLAY_0
      (case g_IN_PLAY_0 => k_is)
    case g_STANDS =>
      clear hmg
      refine' Bj.mk_int KX G ?g_STANDS_0
      (case g_STANDS_0 => k_is)
    case g_BEYOND =>
      clear hmg
      refine' Bj.mk_int KX G ?g_BEYOND_0
      (case g_BEYOND_0 => k_is)
    case g_GIVEN_UP =>
      clear hmg
      refine' Bj.mk_int KX G ?g_GIVEN_UP_0
      (case g_GIVEN_UP_0 => k_is)
    case g_IN_DECK =>
      clear hmg
      refine' Bj.mk_int KX G ?g_IN_DECK_0
      (case g_IN_DECK_0 => k_is)
    case g_STAKES =>
      clear hmg
      refine' Bj.mk_int KX G ?g_STAKES_0
      (case g_STAKES_0 => k_is)
    case g_INSURANCE =>
      clear hmg
      refine' Bj.mk_int KX G ?g_INSURANCE_0
      (case g_INSURANCE_0 => k_is)
    case g_HANDS =>
      clear hmg
      refine' Bj.mk_int KX G ?g_HANDS_0
      (case g_HANDS_0 => k_is)
    case g_DEALER =>
      clear hmg
      refine' Bj.mk_int KX G ?g_DEALER_0
      (case g_DEALER_0 => k_is)
    case g_PAID =>
      clear hmg
      refine' Bj.mk_int KX G ?g_PAID_0
      (case g_PAID_0 => k_is)
    case g_MOST_SEATS =>
      clear hmg
      refine' Bj.mk_int KX G ?g_MOST_SEATS_0
      (case g_MOST_SEATS_0 => k_is)
    case g_MOST_DECKS =>
      clear hmg
      refine' Bj.mk_int KX G ?g_MOST_DECKS_0
      (case g_MOST_DECKS_0 => k_is)
    case g_MOST_HANDS =>
      clear hmg
      refine' Bj.mk_int KX G ?g_MOST_HANDS_0
      (case g_MOST_HANDS_0 => k_is)
    case g_MOST_STAKE =>
      clear hmg
      refine' Bj.mk_int KX G ?g_MOST_STAKE_0
      (case g_MOST_STAKE_0 => k_is)
    case g_DEALER_STANDS =>
      clear hmg
      refine' Bj.mk_int KX G ?g_DEALER_STANDS_0
      (case g_DEALER_STANDS_0 => k_is)
    case SHAPES =>
      clear hmg G
      refine' Bj.mk_shapes ?sl ?sh1 ?sh2 ?sh3 ?sh4 ?sh5 ?sh6 ?sh7 ?sh8 ?sh9 ?sh10 ?sh11 ?sh12 ?sh13 ?sh14
      (case sl => k_is)
      (case sh1 => refine' Bj.mk_pair ?sq1; (case sq1 => k_is))
      (case sh2 => refine' Bj.mk_pair ?sq2; (case sq2 => k_is))
      (case sh3 => refine' Bj.mk_pair ?sq3; (case sq3 => k_is))
      (case sh4 => refine' Bj.mk_pair ?sq4; (case sq4 => k_is))
      (case sh5 => refine' Bj.mk_pair ?sq5; (case sq5 => k_is))
      (case sh6 => refine' Bj.mk_pair ?sq6; (case sq6 => k_is))
      (case sh7 => refine' Bj.mk_pair ?sq7; (case sq7 => k_is))
      (case sh8 => refine' Bj.mk_pair ?sq8; (case sq8 => k_is))
      (case sh9 => refine' Bj.mk_pair ?sq9; (case sq9 => k_is))
      (case sh10 => refine' Bj.mk_pair ?sq10; (case sq10 => k_is))
      (case sh11 => refine' Bj.mk_pair ?sq11; (case sq11 => k_is))
      (case sh12 => refine' Bj.mk_pair ?sq12; (case sq12 => k_is))
      (case sh13 => refine' Bj.mk_pair ?sq13; (case sq13 => k_is))
      (case sh14 => refine' Bj.mk_pair ?sq14; (case sq14 => k_is))
    (case z_all => k_is)
    (case z_sum => k_is)
    (case z_min => k_is)
    (case z_len => k_is)
    (case z_any => k_is)
    (case z_zip => k_is)
    (case z_int => k_is)
    (case z_range => k_is)
    (case z_list => k_is)
    (case z_enumerate => k_is)
    case d_is_card =>
      clear hmg
      refine' Bj.mk_def KX G ?d_is_card_0 ?d_is_card_1 ?d_is_card_2 ?d_is_card_3
      (case d_is_card_0 => k_is); (case d_is_card_1 => k_is); (case d_is_card_2 => k_is); (case d_is_card_3 => k_is)
    case d_are_cards =>
      clear hmg
      refine' Bj.mk_def KX G ?d_are_cards_0 ?d_are_cards_1 ?d_are_cards_2 ?d_are_cards_3
      (case d_are_cards_0 => k_is); (case d_are_cards_1 => k_is); (case d_are_cards_2 => k_is); (case d_are_cards_3 => k_is)
    case d_worth_of =>
      clear hmg
      refine' Bj.mk_def KX G ?d_worth_of_0 ?d_worth_of_1 ?d_worth_of_2 ?d_worth_of_3
      (case d_worth_of_0 => k_is); (case d_worth_of_1 => k_is); (case d_worth_of_2 => k_is); (case d_worth_of_3 => k_is)
    case d_hard_count =>
      clear hmg
      refine' Bj.mk_def KX G ?d_hard_count_0 ?d_hard_count_1 ?d_hard_count_2 ?d_hard_count_3
      (case d_hard_count_0 => k_is); (case d_hard_count_1 => k_is); (case d_hard_count_2 => k_is); (case d_hard_count_3 => k_is)
    case d_is_soft =>
      clear hmg
      refine' Bj.mk_def KX G ?d_is_soft_0 ?d_is_soft_1 ?d_is_soft_2 ?d_is_soft_3
      (case d_is_soft_0 => k_is); (case d_is_soft_1 => k_is); (case d_is_soft_2 => k_is); (case d_is_soft_3 => k_is)
    case d_count_of =>
      clear hmg
      refine' Bj.mk_def KX G ?d_count_of_0 ?d_count_of_1 ?d_count_of_2 ?d_count_of_3
      (case d_count_of_0 => k_is); (case d_count_of_1 => k_is); (case d_count_of_2 => k_is); (case d_count_of_3 => k_is)
    case d_is_natural =>
      clear hmg
      refine' Bj.mk_def KX G ?d_is_natural_0 ?d_is_natural_1 ?d_is_natural_2 ?d_is_natural_3
      (case d_is_natural_0 => k_is); (case d_is_natural_1 => k_is); (case d_is_natural_2 => k_is); (case d_is_natural_3 => k_is)
    case d_must =>
      clear hmg
      refine' Bj.mk_def KX G ?d_must_0 ?d_must_1 ?d_must_2 ?d_must_3
      (case d_must_0 => k_is); (case d_must_1 => k_is); (case d_must_2 => k_is); (case d_must_3 => k_is)
    case k_Hand_init =>
      clear hmg
      refine' Bj.mk_make KX G ?k_Hand_init_0 ?k_Hand_init_1 ?k_Hand_init_2 ?k_Hand_init_3 ?k_Hand_init_4 ?k_Hand_init_5 ?k_Hand_init_6 ?k_Hand_init_7
      (case k_Hand_init_0 => k_is); (case k_Hand_init_1 => k_is); (case k_Hand_init_2 => k_is); (case k_Hand_init_3 => k_is); (case k_Hand_init_4 => k_is); (case k_Hand_init_5 => k_is); (case k_Hand_init_6 => k_is); (case k_Hand_init_7 => k_is)
    case m_Hand_settle =>
      clear hmg
      refine' Bj.mk_meth ?m_Hand_settle_0 ?m_Hand_settle_1 ?m_Hand_settle_2 ?m_Hand_settle_3 ?m_Hand_settle_4
      (case m_Hand_settle_0 => k_is); (case m_Hand_settle_1 => k_is); (case m_Hand_settle_2 => k_is); (case m_Hand_settle_3 => k_is); (case m_Hand_settle_4 => k_is)
    case m_Hand_end =>
      clear hmg
      refine' Bj.mk_meth ?m_Hand_end_0 ?m_Hand_end_1 ?m_Hand_end_2 ?m_Hand_end_3 ?m_Hand_end_4
      (case m_Hand_end_0 => k_is); (case m_Hand_end_1 => k_is); (case m_Hand_end_2 => k_is); (case m_Hand_end_3 => k_is); (case m_Hand_end_4 => k_is)
    case m_Hand_is_pair =>
      clear hmg
      refine' Bj.mk_meth ?m_Hand_is_pair_0 ?m_Hand_is_pair_1 ?m_Hand_is_pair_2 ?m_Hand_is_pair_3 ?m_Hand_is_pair_4
      (case m_Hand_is_pair_0 => k_is); (case m_Hand_is_pair_1 => k_is); (case m_Hand_is_pair_2 => k_is); (case m_Hand_is_pair_3 => k_is); (case m_Hand_is_pair_4 => k_is)
    case m_Hand_wins_more =>
      clear hmg
      refine' Bj.mk_meth ?m_Hand_wins_more_0 ?m_Hand_wins_more_1 ?m_Hand_wins_more_2 ?m_Hand_wins_more_3 ?m_Hand_wins_more_4
      (case m_Hand_wins_more_0 => k_is); (case m_Hand_wins_more_1 => k_is); (case m_Hand_wins_more_2 => k_is); (case m_Hand_wins_more_3 => k_is); (case m_Hand_wins_more_4 => k_is)
    case m_Hand_asks_dealer =>
      clear hmg
      refine' Bj.mk_meth ?m_Hand_asks_dealer_0 ?m_Hand_asks_dealer_1 ?m_Hand_asks_dealer_2 ?m_Hand_asks_dealer_3 ?m_Hand_asks_dealer_4
      (case m_Hand_asks_dealer_0 => k_is); (case m_Hand_asks_dealer_1 => k_is); (case m_Hand_asks_dealer_2 => k_is); (case m_Hand_asks_dealer_3 => k_is); (case m_Hand_asks_dealer_4 => k_is)
    case m_Hand_paid =>
      clear hmg
      refine' Bj.mk_meth ?m_Hand_paid_0 ?m_Hand_paid_1 ?m_Hand_paid_2 ?m_Hand_paid_3 ?m_Hand_paid_4
      (case m_Hand_paid_0 => k_is); (case m_Hand_paid_1 => k_is); (case m_Hand_paid_2 => k_is); (case m_Hand_paid_3 => k_is); (case m_Hand_paid_4 => k_is)
    case m_Hand_paid_by_count =>
      clear hmg
      refine' Bj.mk_meth ?m_Hand_paid_by_count_0 ?m_Hand_paid_by_count_1 ?m_Hand_paid_by_count_2 ?m_Hand_paid_by_count_3 ?m_Hand_paid_by_count_4
      (case m_Hand_paid_by_count_0 => k_is); (case m_Hand_paid_by_count_1 => k_is); (case m_Hand_paid_by_count_2 => k_is); (case m_Hand_paid_by_count_3 => k_is); (case m_Hand_paid_by_count_4 => k_is)
    case m_Hand_told =>
      clear hmg
      refine' Bj.mk_meth ?m_Hand_told_0 ?m_Hand_told_1 ?m_Hand_told_2 ?m_Hand_told_3 ?m_Hand_told_4
      (case m_Hand_told_0 => k_is); (case m_Hand_told_1 => k_is); (case m_Hand_told_2 => k_is); (case m_Hand_told_3 => k_is); (case m_Hand_told_4 => k_is)
    case d_split_hands =>
      clear hmg
      refine' Bj.mk_def KX G ?d_split_hands_0 ?d_split_hands_1 ?d_split_hands_2 ?d_split_hands_3
      (case d_split_hands_0 => k_is); (case d_split_hands_1 => k_is); (case d_split_hands_2 => k_is); (case d_split_hands_3 => k_is)
    case k_Seat_init =>
      clear hmg
      refine' Bj.mk_make KX G ?k_Seat_init_0 ?k_Seat_init_1 ?k_Seat_init_2 ?k_Seat_init_3 ?k_Seat_init_4 ?k_Seat_init_5 ?k_Seat_init_6 ?k_Seat_init_7
      (case k_Seat_init_0 => k_is); (case k_Seat_init_1 => k_is); (case k_Seat_init_2 => k_is); (case k_Seat_init_3 => k_is); (case k_Seat_init_4 => k_is); (case k_Seat_init_5 => k_is); (case k_Seat_init_6 => k_is); (case k_Seat_init_7 => k_is)
    case m_Seat_clear_round =>
      clear hmg
      refine' Bj.mk_meth ?m_Seat_clear_round_0 ?m_Seat_clear_round_1 ?m_Seat_clear_round_2 ?m_Seat_clear_round_3 ?m_Seat_clear_round_4
      (case m_Seat_clear_round_0 => k_is); (case m_Seat_clear_round_1 => k_is); (case m_Seat_clear_round_2 => k_is); (case m_Seat_clear_round_3 => k_is); (case m_Seat_clear_round_4 => k_is)
    case m_Seat_pay =>
      clear hmg
      refine' Bj.mk_meth ?m_Seat_pay_0 ?m_Seat_pay_1 ?m_Seat_pay_2 ?m_Seat_pay_3 ?m_Seat_pay_4
      (case m_Seat_pay_0 => k_is); (case m_Seat_pay_1 => k_is); (case m_Seat_pay_2 => k_is); (case m_Seat_pay_3 => k_is); (case m_Seat_pay_4 => k_is)
    case m_Seat_numbers =>
      clear hmg
      refine' Bj.mk_meth ?m_Seat_numbers_0 ?m_Seat_numbers_1 ?m_Seat_numbers_2 ?m_Seat_numbers_3 ?m_Seat_numbers_4
      (case m_Seat_numbers_0 => k_is); (case m_Seat_numbers_1 => k_is); (case m_Seat_numbers_2 => k_is); (case m_Seat_numbers_3 => k_is); (case m_Seat_numbers_4 => k_is)
    case k_Shoe_init =>
      clear hmg
      refine' Bj.mk_make KX G ?k_Shoe_init_0 ?k_Shoe_init_1 ?k_Shoe_init_2 ?k_Shoe_init_3 ?k_Shoe_init_4 ?k_Shoe_init_5 ?k_Shoe_init_6 ?k_Shoe_init_7
      (case k_Shoe_init_0 => k_is); (case k_Shoe_init_1 => k_is); (case k_Shoe_init_2 => k_is); (case k_Shoe_init_3 => k_is); (case k_Shoe_init_4 => k_is); (case k_Shoe_init_5 => k_is); (case k_Shoe_init_6 => k_is); (case k_Shoe_init_7 => k_is)
    case m_Shoe_many =>
      clear hmg
      refine' Bj.mk_meth ?m_Shoe_many_0 ?m_Shoe_many_1 ?m_Shoe_many_2 ?m_Shoe_many_3 ?m_Shoe_many_4
      (case m_Shoe_many_0 => k_is); (case m_Shoe_many_1 => k_is); (case m_Shoe_many_2 => k_is); (case m_Shoe_many_3 => k_is); (case m_Shoe_many_4 => k_is)
    case m_Shoe_has_all =>
      clear hmg
      refine' Bj.mk_meth ?m_Shoe_has_all_0 ?m_Shoe_has_all_1 ?m_Shoe_has_all_2 ?m_Shoe_has_all_3 ?m_Shoe_has_all_4
      (case m_Shoe_has_all_0 => k_is); (case m_Shoe_has_all_1 => k_is); (case m_Shoe_has_all_2 => k_is); (case m_Shoe_has_all_3 => k_is); (case m_Shoe_has_all_4 => k_is)
    case m_Shoe_take =>
      clear hmg
      refine' Bj.mk_meth ?m_Shoe_take_0 ?m_Shoe_take_1 ?m_Shoe_take_2 ?m_Shoe_take_3 ?m_Shoe_take_4
      (case m_Shoe_take_0 => k_is); (case m_Shoe_take_1 => k_is); (case m_Shoe_take_2 => k_is); (case m_Shoe_take_3 => k_is); (case m_Shoe_take_4 => k_is)
    case d_is_flag =>
      clear hmg
      refine' Bj.mk_def KX G ?d_is_flag_0 ?d_is_flag_1 ?d_is_flag_2 ?d_is_flag_3
      (case d_is_flag_0 => k_is); (case d_is_flag_1 => k_is); (case d_is_flag_2 => k_is); (case d_is_flag_3 => k_is)
    case k_Table_init =>
      clear hmg
      refine' Bj.mk_make KX G ?k_Table_init_0 ?k_Table_init_1 ?k_Table_init_2 ?k_Table_init_3 ?k_Table_init_4 ?k_Table_init_5 ?k_Table_init_6 ?k_Table_init_7
      (case k_Table_init_0 => k_is); (case k_Table_init_1 => k_is); (case k_Table_init_2 => k_is); (case k_Table_init_3 => k_is); (case k_Table_init_4 => k_is); (case k_Table_init_5 => k_is); (case k_Table_init_6 => k_is); (case k_Table_init_7 => k_is)
    case m_Table_is_seat =>
      clear hmg
      refine' Bj.mk_meth ?m_Table_is_seat_0 ?m_Table_is_seat_1 ?m_Table_is_seat_2 ?m_Table_is_seat_3 ?m_Table_is_seat_4
      (case m_Table_is_seat_0 => k_is); (case m_Table_is_seat_1 => k_is); (case m_Table_is_seat_2 => k_is); (case m_Table_is_seat_3 => k_is); (case m_Table_is_seat_4 => k_is)
    case m_Table_playing =>
      clear hmg
      refine' Bj.mk_meth ?m_Table_playing_0 ?m_Table_playing_1 ?m_Table_playing_2 ?m_Table_playing_3 ?m_Table_playing_4
      (case m_Table_playing_0 => k_is); (case m_Table_playing_1 => k_is); (case m_Table_playing_2 => k_is); (case m_Table_playing_3 => k_is); (case m_Table_playing_4 => k_is)
    case m_Table_all_hands =>
      clear hmg
      refine' Bj.mk_meth ?m_Table_all_hands_0 ?m_Table_all_hands_1 ?m_Table_all_hands_2 ?m_Table_all_hands_3 ?m_Table_all_hands_4
      (case m_Table_all_hands_0 => k_is); (case m_Table_all_hands_1 => k_is); (case m_Table_all_hands_2 => k_is); (case m_Table_all_hands_3 => k_is); (case m_Table_all_hands_4 => k_is)
    case m_Table_turn =>
      clear hmg
      refine' Bj.mk_meth ?m_Table_turn_0 ?m_Table_turn_1 ?m_Table_turn_2 ?m_Table_turn_3 ?m_Table_turn_4
      (case m_Table_turn_0 => k_is); (case m_Table_turn_1 => k_is); (case m_Table_turn_2 => k_is); (case m_Table_turn_3 => k_is); (case m_Table_turn_4 => k_is)
    case m_Table_stands =>
      clear hmg
      refine' Bj.mk_meth ?m_Table_stands_0 ?m_Table_stands_1 ?m_Table_stands_2 ?m_Table_stands_3 ?m_Table_stands_4
      (case m_Table_stands_0 => k_is); (case m_Table_stands_1 => k_is); (case m_Table_stands_2 => k_is); (case m_Table_stands_3 => k_is); (case m_Table_stands_4 => k_is)
    case m_Table_must_phase =>
      clear hmg
      refine' Bj.mk_meth ?m_Table_must_phase_0 ?m_Table_must_phase_1 ?m_Table_must_phase_2 ?m_Table_must_phase_3 ?m_Table_must_phase_4
      (case m_Table_must_phase_0 => k_is); (case m_Table_must_phase_1 => k_is); (case m_Table_must_phase_2 => k_is); (case m_Table_must_phase_3 => k_is); (case m_Table_must_phase_4 => k_is)
    case m_Table_take =>
      clear hmg
      refine' Bj.mk_meth ?m_Table_take_0 ?m_Table_take_1 ?m_Table_take_2 ?m_Table_take_3 ?m_Table_take_4
      (case m_Table_take_0 => k_is); (case m_Table_take_1 => k_is); (case m_Table_take_2 => k_is); (case m_Table_take_3 => k_is); (case m_Table_take_4 => k_is)
    case m_Table_begin =>
      clear hmg
      refine' Bj.mk_meth ?m_Table_begin_0 ?m_Table_begin_1 ?m_Table_begin_2 ?m_Table_begin_3 ?m_Table_begin_4
      (case m_Table_begin_0 => k_is); (case m_Table_begin_1 => k_is); (case m_Table_begin_2 => k_is); (case m_Table_begin_3 => k_is); (case m_Table_begin_4 => k_is)
    case m_Table_lay_stake =>
      clear hmg
      refine' Bj.mk_meth ?m_Table_lay_stake_0 ?m_Table_lay_stake_1 ?m_Table_lay_stake_2 ?m_Table_lay_stake_3 ?m_Table_lay_stake_4
      (case m_Table_lay_stake_0 => k_is); (case m_Table_lay_stake_1 => k_is); (case m_Table_lay_stake_2 => k_is); (case m_Table_lay_stake_3 => k_is); (case m_Table_lay_stake_4 => k_is)
    case m_Table_deal =>
      clear hmg
      refine' Bj.mk_meth ?m_Table_deal_0 ?m_Table_deal_1 ?m_Table_deal_2 ?m_Table_deal_3 ?m_Table_deal_4
      (case m_Table_deal_0 => k_is); (case m_Table_deal_1 => k_is); (case m_Table_deal_2 => k_is); (case m_Table_deal_3 => k_is); (case m_Table_deal_4 => k_is)
    case m_Table_look =>
      clear hmg
      refine' Bj.mk_meth ?m_Table_look_0 ?m_Table_look_1 ?m_Table_look_2 ?m_Table_look_3 ?m_Table_look_4
      (case m_Table_look_0 => k_is); (case m_Table_look_1 => k_is); (case m_Table_look_2 => k_is); (case m_Table_look_3 => k_is); (case m_Table_look_4 => k_is)
    case m_Table_go_on =>
      clear hmg
      refine' Bj.mk_meth ?m_Table_go_on_0 ?m_Table_go_on_1 ?m_Table_go_on_2 ?m_Table_go_on_3 ?m_Table_go_on_4
      (case m_Table_go_on_0 => k_is); (case m_Table_go_on_1 => k_is); (case m_Table_go_on_2 => k_is); (case m_Table_go_on_3 => k_is); (case m_Table_go_on_4 => k_is)
    case m_Table_must_draw =>
      clear hmg
      refine' Bj.mk_meth ?m_Table_must_draw_0 ?m_Table_must_draw_1 ?m_Table_must_draw_2 ?m_Table_must_draw_3 ?m_Table_must_draw_4
      (case m_Table_must_draw_0 => k_is); (case m_Table_must_draw_1 => k_is); (case m_Table_must_draw_2 => k_is); (case m_Table_must_draw_3 => k_is); (case m_Table_must_draw_4 => k_is)
    case m_Table_pay =>
      clear hmg
      refine' Bj.mk_meth ?m_Table_pay_0 ?m_Table_pay_1 ?m_Table_pay_2 ?m_Table_pay_3 ?m_Table_pay_4
      (case m_Table_pay_0 => k_is); (case m_Table_pay_1 => k_is); (case m_Table_pay_2 => k_is); (case m_Table_pay_3 => k_is); (case m_Table_pay_4 => k_is)
    case m_Table_insure =>
      clear hmg
      refine' Bj.mk_meth ?m_Table_insure_0 ?m_Table_insure_1 ?m_Table_insure_2 ?m_Table_insure_3 ?m_Table_insure_4
      (case m_Table_insure_0 => k_is); (case m_Table_insure_1 => k_is); (case m_Table_insure_2 => k_is); (case m_Table_insure_3 => k_is); (case m_Table_insure_4 => k_is)
    case m_Table_asked =>
      clear hmg
      refine' Bj.mk_meth ?m_Table_asked_0 ?m_Table_asked_1 ?m_Table_asked_2 ?m_Table_asked_3 ?m_Table_asked_4
      (case m_Table_asked_0 => k_is); (case m_Table_asked_1 => k_is); (case m_Table_asked_2 => k_is); (case m_Table_asked_3 => k_is); (case m_Table_asked_4 => k_is)
    case m_Table_counted =>
      clear hmg
      refine' Bj.mk_meth ?m_Table_counted_0 ?m_Table_counted_1 ?m_Table_counted_2 ?m_Table_counted_3 ?m_Table_counted_4
      (case m_Table_counted_0 => k_is); (case m_Table_counted_1 => k_is); (case m_Table_counted_2 => k_is); (case m_Table_counted_3 => k_is); (case m_Table_counted_4 => k_is)
    case m_Table_hit =>
      clear hmg
      refine' Bj.mk_meth ?m_Table_hit_0 ?m_Table_hit_1 ?m_Table_hit_2 ?m_Table_hit_3 ?m_Table_hit_4
      (case m_Table_hit_0 => k_is); (case m_Table_hit_1 => k_is); (case m_Table_hit_2 => k_is); (case m_Table_hit_3 => k_is); (case m_Table_hit_4 => k_is)
    case m_Table_stand =>
      clear hmg
      refine' Bj.mk_meth ?m_Table_stand_0 ?m_Table_stand_1 ?m_Table_stand_2 ?m_Table_stand_3 ?m_Table_stand_4
      (case m_Table_stand_0 => k_is); (case m_Table_stand_1 => k_is); (case m_Table_stand_2 => k_is); (case m_Table_stand_3 => k_is); (case m_Table_stand_4 => k_is)
    case m_Table_double =>
      clear hmg
      refine' Bj.mk_meth ?m_Table_double_0 ?m_Table_double_1 ?m_Table_double_2 ?m_Table_double_3 ?m_Table_double_4
      (case m_Table_double_0 => k_is); (case m_Table_double_1 => k_is); (case m_Table_double_2 => k_is); (case m_Table_double_3 => k_is); (case m_Table_double_4 => k_is)
    case m_Table_part =>
      clear hmg
      refine' Bj.mk_meth ?m_Table_part_0 ?m_Table_part_1 ?m_Table_part_2 ?m_Table_part_3 ?m_Table_part_4
      (case m_Table_part_0 => k_is); (case m_Table_part_1 => k_is); (case m_Table_part_2 => k_is); (case m_Table_part_3 => k_is); (case m_Table_part_4 => k_is)
    case m_Table_give =>
      clear hmg
      refine' Bj.mk_meth ?m_Table_give_0 ?m_Table_give_1 ?m_Table_give_2 ?m_Table_give_3 ?m_Table_give_4
      (case m_Table_give_0 => k_is); (case m_Table_give_1 => k_is); (case m_Table_give_2 => k_is); (case m_Table_give_3 => k_is); (case m_Table_give_4 => k_is)
    case m_Table_are_due =>
      clear hmg
      refine' Bj.mk_meth ?m_Table_are_due_0 ?m_Table_are_due_1 ?m_Table_are_due_2 ?m_Table_are_due_3 ?m_Table_are_due_4
      (case m_Table_are_due_0 => k_is); (case m_Table_are_due_1 => k_is); (case m_Table_are_due_2 => k_is); (case m_Table_are_due_3 => k_is); (case m_Table_are_due_4 => k_is)
    case m_Table_draw =>
      clear hmg
      refine' Bj.mk_meth ?m_Table_draw_0 ?m_Table_draw_1 ?m_Table_draw_2 ?m_Table_draw_3 ?m_Table_draw_4
      (case m_Table_draw_0 => k_is); (case m_Table_draw_1 => k_is); (case m_Table_draw_2 => k_is); (case m_Table_draw_3 => k_is); (case m_Table_draw_4 => k_is)
    case m_Table_shuffle =>
      clear hmg
      refine' Bj.mk_meth ?m_Table_shuffle_0 ?m_Table_shuffle_1 ?m_Table_shuffle_2 ?m_Table_shuffle_3 ?m_Table_shuffle_4
      (case m_Table_shuffle_0 => k_is); (case m_Table_shuffle_1 => k_is); (case m_Table_shuffle_2 => k_is); (case m_Table_shuffle_3 => k_is); (case m_Table_shuffle_4 => k_is)
    case m_Table_tell_seat =>
      clear hmg
      refine' Bj.mk_meth ?m_Table_tell_seat_0 ?m_Table_tell_seat_1 ?m_Table_tell_seat_2 ?m_Table_tell_seat_3 ?m_Table_tell_seat_4
      (case m_Table_tell_seat_0 => k_is); (case m_Table_tell_seat_1 => k_is); (case m_Table_tell_seat_2 => k_is); (case m_Table_tell_seat_3 => k_is); (case m_Table_tell_seat_4 => k_is)
    case m_Table_of_hand =>
      clear hmg
      refine' Bj.mk_meth ?m_Table_of_hand_0 ?m_Table_of_hand_1 ?m_Table_of_hand_2 ?m_Table_of_hand_3 ?m_Table_of_hand_4
      (case m_Table_of_hand_0 => k_is); (case m_Table_of_hand_1 => k_is); (case m_Table_of_hand_2 => k_is); (case m_Table_of_hand_3 => k_is); (case m_Table_of_hand_4 => k_is)
    case m_Table_telling =>
      clear hmg
      refine' Bj.mk_meth ?m_Table_telling_0 ?m_Table_telling_1 ?m_Table_telling_2 ?m_Table_telling_3 ?m_Table_telling_4
      (case m_Table_telling_0 => k_is); (case m_Table_telling_1 => k_is); (case m_Table_telling_2 => k_is); (case m_Table_telling_3 => k_is); (case m_Table_telling_4 => k_is)
    case m_Table_by_call =>
      clear hmg
      refine' Bj.mk_meth ?m_Table_by_call_0 ?m_Table_by_call_1 ?m_Table_by_call_2 ?m_Table_by_call_3 ?m_Table_by_call_4
      (case m_Table_by_call_0 => k_is); (case m_Table_by_call_1 => k_is); (case m_Table_by_call_2 => k_is); (case m_Table_by_call_3 => k_is); (case m_Table_by_call_4 => k_is)
    case m_Table_answer =>
      clear hmg
      refine' Bj.mk_meth ?m_Table_answer_0 ?m_Table_answer_1 ?m_Table_answer_2 ?m_Table_answer_3 ?m_Table_answer_4
      (case m_Table_answer_0 => k_is); (case m_Table_answer_1 => k_is); (case m_Table_answer_2 => k_is); (case m_Table_answer_3 => k_is); (case m_Table_answer_4 => k_is)
    case d_answers =>
      clear hmg
      refine' Bj.mk_def KX G ?d_answers_0 ?d_answers_1 ?d_answers_2 ?d_answers_3
      (case d_answers_0 => k_is); (case d_answers_1 => k_is); (case d_answers_2 => k_is); (case d_answers_3 => k_is)
  case S =>
    intro K H xs a hO hwi hask hx
    cases hx with
    | cons h1 h2 =>
      cases h2
      cases h1 with
      | lst hs ha =>
        have e := L2.ints_dw a.1 _ ha
        subst e
        obtain ⟨cs, e1, e2, e3, e4, e5⟩ := Bj.asked_calls (l := a.1) hask
        refine ⟨_, cs, rfl, by rw [e1]; exact hs, e2, e3, e5, fun H' p hp => ?_⟩
        have hq := hp
        rw [← e4] at hq
        exact .lst (L2.SqL.of hq) (L2.dw_ints _)
