import PyProof.Rows.All
import Wide.All
import OpenK.AllK
import Wide.FinOn
import PyProof.EqAt
import PyProof.EqKinds
import PyProof.TupleCall
import KE.KFromBytes
import KE.KExcInit
import HandS.Base
import HandS.Call
import HandS.List
import HandS.Ends
import HandS.Exc
import HandS.ExcInit
import PyProof.ExcBaseAll.ValueError
import PyProof.ExcBaseAll.RuntimeError
import PyProof.ExcBaseAll.ArithmeticError
import HandS.ExcField
import HandS.Defaults
import HandS.HeadHook1
import KE.KStateDown
import HandS.More
import HandS.Words
import HandS.WordsExc
import HandS.Head0
import HandS.Head1
import HandS.Head2
import HandS.HeadEnd
import HandS.HeadHook2
import HandS.Codes
import HandS.ExcIs
import PySem.Challenge.RW_leadrules_k83_whole_plans_otherwise
import HandS.ForMost
import HandS.ExcOwn
import HandS.Wide
import HandS.WideBits
import HandS.IsInst
import HandS.RaiseMore
import HandS.Flow
import HandS.Style
import HandS.TupAny
import PyProof.ReprRoads
import HandS.Finally
import HandS.Remove
import HandS.ListItems
import HandS.Small
import HandS.Iter
import HandS.Zip
import HandS.Comp
import OpenK.KMore
import HandS.Strs
import HandS.Set
import HandS.SetFor
import HandS.SetTxtIn
import PyProof.StrOps2
import HandS.EndBits

section
set_option Elab.async false
set_option linter.all false
set_option maxRecDepth 100000
set_option maxHeartbeats 4000000
/-! an own exception class over any of the built-in bases, whose __init__ stores one or two fields -/
namespace PySem
namespace XcG
open PySem.W PySem.Calls PyProof.Rows PySem.HandSPX
/-- own classes, then a base's line tl -/
def refsT (tl : List Value) : List Value → Bool
  | .ref _ :: r => refsT tl r
  | l => l == tl
theorem refsT_form {tl : List Value} : ∀ {l : List Value}, refsT tl l = true → ∃ cs : List Addr, l = cs.map Value.ref ++ tl
  | [], e => ⟨[], beq_iff_eq.mp e⟩
  | .ref c :: r, e => by
    obtain ⟨cs, q⟩ := refsT_form (l := r) e
    exact ⟨c :: cs, by rw [q]; rfl⟩
  | .none :: _, e => ⟨[], beq_iff_eq.mp e⟩
  | .ellipsis :: _, e => ⟨[], beq_iff_eq.mp e⟩
  | .notImplemented :: _, e => ⟨[], beq_iff_eq.mp e⟩
  | .bool _ :: _, e => ⟨[], beq_iff_eq.mp e⟩
  | .int _ _ :: _, e => ⟨[], beq_iff_eq.mp e⟩
  | .float _ _ :: _, e => ⟨[], beq_iff_eq.mp e⟩
  | .str _ _ :: _, e => ⟨[], beq_iff_eq.mp e⟩
  | .bytes _ _ :: _, e => ⟨[], beq_iff_eq.mp e⟩
  | .type _ :: _, e => ⟨[], beq_iff_eq.mp e⟩
  | .builtin _ :: _, e => ⟨[], beq_iff_eq.mp e⟩
theorem refs_pass {tl : List Value} {self : Value} (h : refuseLoop self "__setattr__" tl = pure ()) : ∀ cs : List Addr, refuseLoop self "__setattr__" (cs.map Value.ref ++ tl) = pure ()
  | [] => h
  | c :: cs => by rw [List.map_cons, List.cons_append, refuseLoop_ref]; exact refs_pass h cs
theorem refs_has {tl : List Value} (T : String) : ∀ cs : List Addr, (cs.map Value.ref ++ tl).contains (.type T) = tl.contains (.type T)
  | [] => rfl
  | c :: cs => by rw [List.map_cons, List.cons_append, List.contains_cons, refs_has T cs]; rfl
section
open Builtin Builtin.ObjectAttr
variable {prog : Program} {w : World} {A : Around} {E : Value → Shared → Prop} {R : Result → Shared → Prop} {hp : Heap} {g : Array GenState} {dr : Drawn} {t : Nat} {os : OsState}
variable {K : W.Frag} {name : Str} {tk : Tok} {v : Value} {x C dx : Addr} {fv : Array Value} {cd : ClassData} {B : String} {tl : List Value}
theorem set0 (SF : StoreFacts B tl "object.__setattr__" "object") (inK : K.In hp) (hx : hp.get? x = some { cls := .ref C, data := .fields fv })
    (hcd : W.clsIn K C = some cd) (hm : refsT tl cd.mro = true) (hh : cd.hasDict = true) (ha : W.findIn K (.ref C) name = some none)
    (hq : ∀ h' tk' dx, (∀ b o, b ≠ x → hp.get? b = some o → h'.get? b = some o) → hp.objs.size ≤ dx → dx ≠ x → h'.get? x = some { cls := .ref C, dict := some dx, data := .fields fv } →
      h'.Ns1 dx (fun y => if y = name then some v else none) → R (.ok (.ret .none)) ⟨h', g, dr, tk', os⟩) :
    codeAny (model prog w) A (.call (.builtin "object.__setattr__") ⟨[.ref x, .str name tk, v], []⟩) R
      ⟨hp, g, dr, t, os⟩ := by
  have I : W.InstAt hp x { cls := .ref C, data := .fields fv } C none := ⟨hx, rfl, rfl, trivial⟩
  have apart : x ≠ hp.objs.size := Nat.ne_of_lt (Heap.lt_size hx)
  have O := F.store_object
  obtain ⟨cs, line⟩ := refsT_form hm
  have hasO : cd.mro.contains (.type "object") = true := by rw [line, refs_has, SF.hasOwner]
  have full : cd.mro.isEmpty = false := by
    cases q : cd.mro with
    | nil => rw [q] at hasO; cases hasO
    | cons _ _ => rfl
  have looksO : W.Looks (model prog w) hp (isInstance (.ref x) (.type "object")) true :=
    I.type.andThen (W.looks_mroIn inK (by
      unfold W.mroIn
      rw [hcd, Option.bind_some, if_neg (by rw [full]; decide), hasO]))
  refine codeAny_call_builtin O.slot.plain O.entry
    (@W.check_slot (model prog w) _ _ ⟨hp, g, dr, t, os⟩ "object.__setattr__" "object" "__setattr__" (.ref x) [.str name tk, v] [] _
      O.kind O.split looksO (O.args (.ref x) (.str name tk) v) ?_)
  have cls := W.looks_clsIn (M := model prog w) inK hcd
  have mro : W.Looks (model prog w) hp (mroOf (.ref C)) cd.mro := cls.andThen .now
  have none : W.Looks (model prog w) hp (storeTaker? none) none := .now
  rw [W.osa_eq, refuse_eq]
  refine wpAny_bind (wpAny_bind (I.type.at (wpAny_bind (mro.at ?_))))
  rw [line, refs_pass (SF.passes _)]
  refine wpAny_pure (wpAny_bind (I.type.at (wpAny_bind ((W.looks_findIn inK ha).at
    (wpAny_bind (none.at ?_))))))
  show wpAny _ _ (storeInOwnDict (.ref x) (.ref C) (.str name tk) name v false) _ _
    ⟨hp, g, dr, t, os⟩
  obtain ⟨nm, bs, mr, ns, qn, hd, sn, sb, ab, col, del⟩ := cd
  dsimp only at hh
  subst hh
  unfold storeInOwnDict ownDictForStores
  repeat (first
    | with_reducible refine store_in_new ?_ ?_
    | with_reducible refine wpAny_loadPart_at hx ?_
    | with_reducible refine cls.at ?_
    | wp_step)
  · exact ⟨_, #[], _, (Heap.get?_update_ne _ _ _ _ apart.symm).trans (Heap.get?_push_at rfl rfl), rfl,
      fun e he => absurd he (by simp), fun _ => rfl⟩
  · intro h1 tk1 hn1 same
    have there : (hp.push { cls := .type "dict", data := .dict #[] }).get? x = some { cls := .ref C, data := .fields fv } :=
      Heap.get?_push_of_some _ hx
    refine hq h1 tk1 hp.objs.size (fun b o hb ho => ?_) (Nat.le_refl _) apart.symm ?_ hn1
    · exact (same.2 b (Nat.ne_of_lt (Heap.lt_size ho))).trans
        ((Heap.get?_update_ne _ _ _ _ hb).trans (Heap.get?_push_of_some _ ho))
    · exact (same.2 x apart).trans (Heap.get?_update_self _ there rfl)
theorem set1 (SF : StoreFacts B tl "object.__setattr__" "object") (inK : K.In hp) {m0 : Str → Option Value} {nl : List Str} (hx : hp.get? x = some { cls := .ref C, dict := some dx, data := .fields fv }) (hns : hp.Ns1 dx m0) (hw : Within m0 nl) (hz : nl.length ≤ 1000)
    (hcd : W.clsIn K C = some cd) (hm : refsT tl cd.mro = true) (hh : cd.hasDict = true) (ha : W.findIn K (.ref C) name = some none)
    (hq : ∀ h' tk', (∀ b o, b ≠ dx → hp.get? b = some o → h'.get? b = some o) → h'.Ns1 dx (fun y => if y = name then some v else m0 y) → R (.ok (.ret .none)) ⟨h', g, dr, tk', os⟩) :
    codeAny (model prog w) A (.call (.builtin "object.__setattr__") ⟨[.ref x, .str name tk, v], []⟩) R
      ⟨hp, g, dr, t, os⟩ := by
  obtain ⟨oD, esD, epD, hoD, hdD, _⟩ := hns.count hw
  have I : W.InstAt hp x { cls := .ref C, dict := some dx, data := .fields fv } C (some oD) := ⟨hx, rfl, rfl, hoD⟩
  have O := F.store_object
  obtain ⟨cs, line⟩ := refsT_form hm
  have hasO : cd.mro.contains (.type "object") = true := by rw [line, refs_has, SF.hasOwner]
  have full : cd.mro.isEmpty = false := by
    cases q : cd.mro with
    | nil => rw [q] at hasO; cases hasO
    | cons _ _ => rfl
  have looksO : W.Looks (model prog w) hp (isInstance (.ref x) (.type "object")) true :=
    I.type.andThen (W.looks_mroIn inK (by
      unfold W.mroIn
      rw [hcd, Option.bind_some, if_neg (by rw [full]; decide), hasO]))
  refine codeAny_call_builtin O.slot.plain O.entry
    (@W.check_slot (model prog w) _ _ ⟨hp, g, dr, t, os⟩ "object.__setattr__" "object" "__setattr__" (.ref x) [.str name tk, v] [] _
      O.kind O.split looksO (O.args (.ref x) (.str name tk) v) ?_)
  have cls := W.looks_clsIn (M := model prog w) inK hcd
  have mro : W.Looks (model prog w) hp (mroOf (.ref C)) cd.mro := cls.andThen .now
  have none : W.Looks (model prog w) hp (storeTaker? none) none := .now
  rw [W.osa_eq, refuse_eq]
  refine wpAny_bind (wpAny_bind (I.type.at (wpAny_bind (mro.at ?_))))
  rw [line, refs_pass (SF.passes _)]
  refine wpAny_pure (wpAny_bind (I.type.at (wpAny_bind ((W.looks_findIn inK ha).at
    (wpAny_bind (none.at ?_))))))
  show wpAny _ _ (storeInOwnDict (.ref x) (.ref C) (.str name tk) name v false) _ _
    ⟨hp, g, dr, t, os⟩
  obtain ⟨nm, bs, mr, ns, qn, hd, sn, sb, ab, col, del⟩ := cd
  dsimp only at hh
  subst hh
  unfold storeInOwnDict ownDictForStores
  repeat (first
    | with_reducible refine OEX.store_in_old hns hw hz ?_
    | with_reducible refine wpAny_loadPart_at hx ?_
    | with_reducible refine cls.at ?_
    | wp_step)
  intro h1 tk1 hn1 same
  exact hq h1 tk1 (fun b o hb ho => (same.2 b hb).trans ho) hn1
end
end XcG
end PySem
end

section
set_option Elab.async false
set_option linter.all false
set_option maxRecDepth 100000
set_option maxHeartbeats 4000000
namespace PySem
namespace XcG
open PySem.W PySem.Calls PyProof.Rows PySem.HandSPX
/-- what the written part says of such a class, at C, and of its __init__, at fI; ns: its fields -/
structure XT (K : Frag) (C fI : Addr) (tl : List Value) (newId : String) (ns : List Str) : Prop where
  made : excInitIn K C tl newId = true
  cd : ∃ cd, clsIn K C = some cd ∧ refsT tl cd.mro = true ∧ cd.hasDict = true
  sa : findIn K (.ref C) "__setattr__" = some (some (.builtin "object.__setattr__"))
  ga : findIn K (.ref C) "__getattribute__" = some (some (.builtin "BaseException.__getattribute__"))
  gg : findIn K (.ref C) "__getattr__" = some none
  noN : ∀ n ∈ ns, findIn K (.ref C) n = some none
  iC : findIn K (.ref C) "__init__" = some (some (.ref fI))
  tC : typeIn K (.ref fI) = some (.type "function")
  kC : keepIn K (.ref C) = true
  exC : subIn K (.ref C) (.type "BaseException") = some true
  tyC : typeIn K (.ref C) = some (.type "type")
  hdC : hasDictIn K C = true
  te : exmOne K (.ref C) (.ref C) = some true
/-- what __init__ leaves of a fresh exception at x -/
structure IEnd (h h' : Heap) (x C dx t1 : Addr) (mA : Str → Option Value) : Prop where
  keep : ∀ b o, b ≠ x → h.get? b = some o → h'.get? b = some o
  obj : h'.get? x = some { cls := .ref C, dict := some dx, data := .fields #[.ref t1, .none, .none, .none, .bool false, .none] }
  dbig : h.objs.size ≤ dx
  dne : dx ≠ x
  ns : h'.Ns1 dx mA
/-- a made one -/
structure XMade (h h' : Heap) (e C d : Addr) (mA : Str → Option Value) : Prop where
  keep : ∀ b o, h.get? b = some o → h'.get? b = some o
  new : h.objs.size ≤ e
  obj : ∃ oe vs, h'.get? e = some oe ∧ oe.cls = .ref C ∧ oe.dict = some d ∧ oe.data = .fields vs ∧ vs[1]? = some .none
  dbig : h.objs.size ≤ d
  dne : d ≠ e
  ns : h'.Ns1 d mA
section
variable {prog : Program} {w : World} {A : Around} {R : Result → Shared → Prop} {s : Shared} {K : Frag} {C fI : Addr} {tl : List Value} {newId initId B : String} {ns : List Str} {mA : Str → Option Value}
/-- what a walk of __init__ shows -/
def InitGo (prog : Program) (w : World) (K : Frag) (C fI : Addr) (vs : List Value) (mA : Str → Option Value) : Prop :=
  ∀ (A : Around) (R : Result → Shared → Prop) (s : Shared) (x t0 : Addr), K.In s.heap → s.heap.NoLimit → s.heap.get? x = some (excO C t0) → K.lookup x = none → A.depth < recursionLimit →
    (∀ h' tk dx, IEnd s.heap h' x C dx t0 mA → R (.ok (.ret .none)) { s with heap := h', toks := tk }) → codeAny (model prog w) A (.call (.ref fI) ⟨.ref x :: vs, []⟩) R s
theorem made_go (T : XT K C fI tl newId ns) (F : ExcBaseFacts B newId initId tl) {vs : List Value} (go : InitGo prog w K C fI vs mA) (inK : K.In s.heap) (nolim : s.heap.NoLimit) (room : A.depth + 1 < recursionLimit) (few : vs.length ≤ sizeLine)
    (hq : ∀ h' tk e d, XMade s.heap h' e C d mA → R (.ok (.ret (.ref e))) { s with heap := h', toks := tk }) : codeAny (model prog w) A (.call (.ref C) ⟨vs, []⟩) R s := by
  obtain ⟨nm, N, qn, bs, bm, hdct, sn, sub, ab, col, dd, k0, k1, k2, k3, k5, hC, hT⟩ := excInit_of inK T.made
  obtain ⟨hp, g, dr, tk, os⟩ := s
  have k : ∀ b o, hp.get? b = some o → ((hp.push (kdv_tup vs)).push (excO C hp.objs.size)).get? b = some o := fun b o e => Heap.get?_push_of_some _ (Heap.get?_push_of_some _ e)
  have hget : ((hp.push (kdv_tup vs)).push (excO C hp.objs.size)).get? (hp.objs.size + 1) = some (excO C hp.objs.size) := by heap_get
  have hnx : K.lookup (hp.objs.size + 1) = none := by
    cases e : K.lookup (hp.objs.size + 1) with
    | none => rfl
    | some o =>
      have z : hp.get? (hp.objs.size + 1) = some o := inK _ _ e
      exact absurd (Nat.lt_of_succ_lt (Heap.lt_size z)) (Nat.lt_irrefl _)
  refine call_own F hT hC (looks_findIn inK T.iC) (fun self => bind_fn inK self T.tC) few ?_
  refine go _ _ ⟨(hp.push (kdv_tup vs)).push (excO C hp.objs.size), g, dr, tk, os⟩ _ _ (inK.keeps k) (nolim.keeps k) hget hnx ?_ fun h' tk' dx ⟨k', hx, dn, dne, hns⟩ => ?_
  · show A.depth + 1 < recursionLimit
    exact room
  · have old : ∀ b o, hp.get? b = some o → h'.get? b = some o := fun b o e => k' b o (Nat.ne_of_lt (Nat.lt_succ_of_lt (Heap.lt_size e))) (k b o e)
    have z : hp.objs.size + 1 + 1 ≤ dx := by
      first
        | (simpa only [Heap.size_push] using dn)
        | exact dn
        | (have q := dn; rw [Heap.size_push, Heap.size_push] at q; exact q)
    exact ⟨rfl, hq h' tk' (hp.objs.size + 1) dx ⟨old, Nat.le_succ _, ⟨_, _, hx, rfl, rfl, rfl, rfl⟩, Nat.le_trans (Nat.le_trans (Nat.le_succ _) (Nat.le_succ _)) z, dne, hns⟩⟩
end
end XcG
end PySem
namespace L2
open PySem PySem.Spec PyProof.Rows
section
variable {X : Cx} {C fI : Addr} {tl : List Value} {newId initId B : String} {ns : List Str}
/-- C(e, ..), an exception; fs: its fields by the arguments' values -/
def tMkX (C : Addr) (n : Nat) (fs : List V → List (Str × V)) (ta : TA) : St → Hp → XK → Prop := fun σ H Q => ta σ H fun vs H1 => vs.length = n ∧ ∀ d, H1 d = none → Q (.ref C) (some d) (upd H1 d (.xd (fs vs)))
theorem pmk_x {a : Expr} {es : List Expr} {ta : TA} {x : Str} {p pos : Pos} {k n : Nat} {fs : List V → List (Str × V)} {mA : List Value → Str → Option Value} (T : PySem.XcG.XT X.K C fI tl newId ns) (F : ExcBaseFacts B newId initId tl) (hn : n ≤ 10)
    (go : ∀ vs : List Value, vs.length = n → PySem.XcG.InitGo X.prog X.w X.K C fI vs (mA vs)) (rl : ∀ {vs : List V} {us : List Value}, vs.length = n → Vals vs us → ∀ f, RelO ((fs vs).lookup f) (mA us f)) (hm : X.mg x = some (.ref C)) (hr : Room k X.A) (ha : PA X (a :: es) ta) (hg : Gl X x := by rfl)
    (hdb : (x == ("__debug__" : Str)) = false := by decide) (he : starEach (a :: es) X.env = (false, eval a X.env) :: starEach es X.env := by rfl) (hpl : (backTo pos (starEach es X.env)).any (·.1) = false := by rfl) :
    PMk X (.Call (.Name x p) (a :: es) [] pos) (tMkX C n fs ta) := by
  intro pins s σ H Q I h
  refine wpAny_Call_Name_kw (ld_glob I hg hm ?_ hdb)
  refine PySem.W.callWith_K (h₀ := X.base) I.ok.mod.kin T.kC (thn (ha.run pos pins s σ H _ I h) fun us s1 hh => ?_) he hpl
  obtain ⟨vs, H1, I1, r1, hl, q1⟩ := hh
  refine ⟨I1.kIn, ?_⟩
  have hlu : us.length = n := by rw [← r1.length]; exact hl
  have hlim := I1.nolimit
  obtain ⟨hp, g, dr, tk, os⟩ := s1
  refine wpAny_call (PySem.XcG.made_go T F (go us hlu) I1.kIn hlim (by have := hr.dp; omega) (by rw [List.nil_append, hlu, sizeLine_eq]; omega) fun h' tk' e d M => ?_)
  show MkP X pins σ Q (.ref e) ⟨h', g, dr, tk', os⟩
  obtain ⟨oe, fv, hoe, hc, hd, hdat, h1⟩ := M.obj
  have hns := M.ns
  obtain ⟨G', g1, g2⟩ := restrict h' fun b => decide (b ≠ e)
  have gk : ∀ b, b ≠ e → G'.get? b = h'.get? b := fun b hb => g1 b (decide_eq_true hb)
  have ge : G'.get? e = none := g2 e (by simp)
  have old : ∀ b o, hp.get? b = some o → G'.get? b = some o := fun b o q => (gk b (Nat.ne_of_lt (Nat.lt_of_lt_of_le (Heap.lt_size q) M.new))).trans (M.keep b o q)
  have ob : ObjOk X.prog X.w (upd H1 d (.xd (fs vs))) G' d (.xd (fs vs)) :=
    ⟨_, hns.at (fun o q => (gk d M.dne).trans q), fun f => rl hl r1 f⟩
  have J : Inv X pins σ (upd H1 d (.xd (fs vs))) ⟨G', g, dr, tk', os⟩ := I1.laid (t' := tk') old M.dbig ob
  refine ⟨e, oe, fv, ⟨G', g, dr, tk', os⟩, _, .ref C, some d, rfl, J, fun b o q => ?_, ge, hoe, ⟨hc, hd⟩, hdat, h1, ?_, rfl, I1.bare, raises_own T.exC T.tyC, q1 d (I1.hok.fresh M.dbig)⟩
  · by_cases hb : b = e
    · have q' : G'.get? b = some o := q
      rw [hb, ge] at q'; cases q'
    · exact (gk b hb).symm.trans q
  · rw [upd_ne (Ne.symm M.dne)]
    exact I1.hok.fresh M.new
end
end L2
end

section
set_option Elab.async false
set_option linter.all false
set_option maxRecDepth 100000
set_option maxHeartbeats 0
namespace Hd
open PySem PySem.Spec PyProof.Rows L2
def top (i : Nat) : Stmt := PySem.Challenge.pw_leadrules_k83_whole_plans_otherwise.main.body.getD i (.Pass ⟨0, 0, 0, 0⟩)
def st_is_integer : Stmt := top 20
def st_is_list : Stmt := top 21
def st_is_day : Stmt := top 22
def st_is_count : Stmt := top 23
def st_is_letter_of : Stmt := top 24
def st_is_rule : Stmt := top 25
def st_want_day : Stmt := top 26
def st_want_count : Stmt := top 27
def st_want_at_most : Stmt := top 28
def st_floor_part : Stmt := top 31
def st_is_table : Stmt := top 32
def st_is_world : Stmt := top 34
def st_want_world : Stmt := top 35
def st_is_part : Stmt := top 40
def st_are_needs : Stmt := top 41
def st_is_step : Stmt := top 42
def st_has_form : Stmt := top 43
def st_comes_to : Stmt := top 44
def st_ringed : Stmt := top 45
def st_is_plan : Stmt := top 46
def st_want_plan : Stmt := top 47
def st_want_part : Stmt := top 48
def st_want_there : Stmt := top 49
def st_want_part_of : Stmt := top 50
def st_parts_in : Stmt := top 51
def st_next_part : Stmt := top 52
def st_sequence : Stmt := top 53
def st_sequence_in : Stmt := top 54
def st_rules_in_parts : Stmt := top 55
def st_want_rules : Stmt := top 56
def st_ready_days : Stmt := top 57
def st_want_begun : Stmt := top 58
def st_ready : Stmt := top 59
def st_all_ready : Stmt := top 60
def st_needs_without : Stmt := top 61
def st_left_out : Stmt := top 62
def st_without_part : Stmt := top 63
def st_delayed : Stmt := top 64
def st_with_delay : Stmt := top 65
def st_followed : Stmt := top 66
def st_l_pot : Stmt := top 68
def st_l_draw : Stmt := top 69
def st_l_pick : Stmt := top 70
def st_l_mixed : Stmt := top 71
def st_l_rule : Stmt := top 72
def st_l_on : Stmt := top 73
def st_l_leads : Stmt := top 74
def st_l_by : Stmt := top 75
def st_l_til : Stmt := top 76
def st_l_plan : Stmt := top 77
def st_l_said : Stmt := top 78
def st_l_taken : Stmt := top 79
def st_l_formula : Stmt := top 80
def st_l_ready : Stmt := top 81
def st_l_told : Stmt := top 82
def st_l_without : Stmt := top 83
def st_l_delayed : Stmt := top 84
def st_l_renamed : Stmt := top 85
def st_l_followed : Stmt := top 86
def st_l_same_ready : Stmt := top 87
def st_l_one_right : Stmt := top 88
def st_l_fewer_right : Stmt := top 89
def st_l_followed_right : Stmt := top 90
def st_l_most_right : Stmt := top 91
def st_l_right : Stmt := top 92
def st_law : Stmt := top 93
def st_InvalidDay_ddinitdd : Stmt := inClass (top 6) 0
def st_InvalidCount_ddinitdd : Stmt := inClass (top 7) 0
def st_InvalidWorld_ddinitdd : Stmt := inClass (top 8) 0
def st_InvalidPart_ddinitdd : Stmt := inClass (top 9) 0
def st_InvalidPlan_ddinitdd : Stmt := inClass (top 10) 0
def st_InvalidTable_ddinitdd : Stmt := inClass (top 11) 0
def st_RingOfParts_ddinitdd : Stmt := inClass (top 12) 0
def st_SharedPart_ddinitdd : Stmt := inClass (top 13) 0
def st_MissingRule_ddinitdd : Stmt := inClass (top 14) 0
def st_MissingPart_ddinitdd : Stmt := inClass (top 15) 0
def st_LastPart_ddinitdd : Stmt := inClass (top 16) 0
def st_TooMany_ddinitdd : Stmt := inClass (top 17) 0
def st_Table_ddinitdd : Stmt := inClass (top 33) 1
def st_Table_days : Stmt := inClass (top 33) 4
def st_Table_on : Stmt := inClass (top 33) 6
def st_Table_served : Stmt := inClass (top 33) 7
def st_Table_ddcalldd : Stmt := inClass (top 33) 8
def st_Table_first_by : Stmt := inClass (top 33) 9
def st_Table_by : Stmt := inClass (top 33) 10
def st_Table_ddeqdd : Stmt := inClass (top 33) 25
def st_Table_ddreprdd : Stmt := inClass (top 33) 26
def dd_is_integer : He.DefD := ⟨("is_integer", none), "is_integer", "is_integer", defArgs (top 20), defBody (top 20), defScope (top 20), [], []⟩
def dd_is_list : He.DefD := ⟨("is_list", none), "is_list", "is_list", defArgs (top 21), defBody (top 21), defScope (top 21), [], []⟩
def dd_is_day : He.DefD := ⟨("is_day", none), "is_day", "is_day", defArgs (top 22), defBody (top 22), defScope (top 22), [], []⟩
def dd_is_count : He.DefD := ⟨("is_count", none), "is_count", "is_count", defArgs (top 23), defBody (top 23), defScope (top 23), [], []⟩
def dd_is_letter_of : He.DefD := ⟨("is_letter_of", none), "is_letter_of", "is_letter_of", defArgs (top 24), defBody (top 24), defScope (top 24), [], []⟩
def dd_is_rule : He.DefD := ⟨("is_rule", none), "is_rule", "is_rule", defArgs (top 25), defBody (top 25), defScope (top 25), [], []⟩
def dd_want_day : He.DefD := ⟨("want_day", none), "want_day", "want_day", defArgs (top 26), defBody (top 26), defScope (top 26), [], []⟩
def dd_want_count : He.DefD := ⟨("want_count", none), "want_count", "want_count", defArgs (top 27), defBody (top 27), defScope (top 27), [], []⟩
def dd_want_at_most : He.DefD := ⟨("want_at_most", none), "want_at_most", "want_at_most", defArgs (top 28), defBody (top 28), defScope (top 28), [], []⟩
def dd_floor_part : He.DefD := ⟨("floor_part", none), "floor_part", "floor_part", defArgs (top 31), defBody (top 31), defScope (top 31), [], []⟩
def dd_is_table : He.DefD := ⟨("is_table", none), "is_table", "is_table", defArgs (top 32), defBody (top 32), defScope (top 32), [], []⟩
def dd_is_world : He.DefD := ⟨("is_world", none), "is_world", "is_world", defArgs (top 34), defBody (top 34), defScope (top 34), [], []⟩
def dd_want_world : He.DefD := ⟨("want_world", none), "want_world", "want_world", defArgs (top 35), defBody (top 35), defScope (top 35), [], []⟩
def dd_is_part : He.DefD := ⟨("is_part", none), "is_part", "is_part", defArgs (top 40), defBody (top 40), defScope (top 40), [], []⟩
def dd_are_needs : He.DefD := ⟨("are_needs", none), "are_needs", "are_needs", defArgs (top 41), defBody (top 41), defScope (top 41), [], []⟩
def dd_is_step : He.DefD := ⟨("is_step", none), "is_step", "is_step", defArgs (top 42), defBody (top 42), defScope (top 42), [], []⟩
def dd_has_form : He.DefD := ⟨("has_form", none), "has_form", "has_form", defArgs (top 43), defBody (top 43), defScope (top 43), [], []⟩
def dd_comes_to : He.DefD := ⟨("comes_to", none), "comes_to", "comes_to", defArgs (top 44), defBody (top 44), defScope (top 44), [], []⟩
def dd_ringed : He.DefD := ⟨("ringed", none), "ringed", "ringed", defArgs (top 45), defBody (top 45), defScope (top 45), [], []⟩
def dd_is_plan : He.DefD := ⟨("is_plan", none), "is_plan", "is_plan", defArgs (top 46), defBody (top 46), defScope (top 46), [], []⟩
def dd_want_plan : He.DefD := ⟨("want_plan", none), "want_plan", "want_plan", defArgs (top 47), defBody (top 47), defScope (top 47), [], []⟩
def dd_want_part : He.DefD := ⟨("want_part", none), "want_part", "want_part", defArgs (top 48), defBody (top 48), defScope (top 48), [], []⟩
def dd_want_there : He.DefD := ⟨("want_there", none), "want_there", "want_there", defArgs (top 49), defBody (top 49), defScope (top 49), [], []⟩
def dd_want_part_of : He.DefD := ⟨("want_part_of", none), "want_part_of", "want_part_of", defArgs (top 50), defBody (top 50), defScope (top 50), [], []⟩
def dd_parts_in : He.DefD := ⟨("parts_in", none), "parts_in", "parts_in", defArgs (top 51), defBody (top 51), defScope (top 51), [], []⟩
def dd_next_part : He.DefD := ⟨("next_part", none), "next_part", "next_part", defArgs (top 52), defBody (top 52), defScope (top 52), [], []⟩
def dd_sequence : He.DefD := ⟨("sequence", none), "sequence", "sequence", defArgs (top 53), defBody (top 53), defScope (top 53), [], []⟩
def dd_sequence_in : He.DefD := ⟨("sequence_in", none), "sequence_in", "sequence_in", defArgs (top 54), defBody (top 54), defScope (top 54), [], []⟩
def dd_rules_in_parts : He.DefD := ⟨("rules_in_parts", none), "rules_in_parts", "rules_in_parts", defArgs (top 55), defBody (top 55), defScope (top 55), [], []⟩
def dd_want_rules : He.DefD := ⟨("want_rules", none), "want_rules", "want_rules", defArgs (top 56), defBody (top 56), defScope (top 56), [], []⟩
def dd_ready_days : He.DefD := ⟨("ready_days", none), "ready_days", "ready_days", defArgs (top 57), defBody (top 57), defScope (top 57), [], []⟩
def dd_want_begun : He.DefD := ⟨("want_begun", none), "want_begun", "want_begun", defArgs (top 58), defBody (top 58), defScope (top 58), [], []⟩
def dd_ready : He.DefD := ⟨("ready", none), "ready", "ready", defArgs (top 59), defBody (top 59), defScope (top 59), [], []⟩
def dd_all_ready : He.DefD := ⟨("all_ready", none), "all_ready", "all_ready", defArgs (top 60), defBody (top 60), defScope (top 60), [], []⟩
def dd_needs_without : He.DefD := ⟨("needs_without", none), "needs_without", "needs_without", defArgs (top 61), defBody (top 61), defScope (top 61), [], []⟩
def dd_left_out : He.DefD := ⟨("left_out", none), "left_out", "left_out", defArgs (top 62), defBody (top 62), defScope (top 62), [], []⟩
def dd_without_part : He.DefD := ⟨("without_part", none), "without_part", "without_part", defArgs (top 63), defBody (top 63), defScope (top 63), [], []⟩
def dd_delayed : He.DefD := ⟨("delayed", none), "delayed", "delayed", defArgs (top 64), defBody (top 64), defScope (top 64), [], []⟩
def dd_with_delay : He.DefD := ⟨("with_delay", none), "with_delay", "with_delay", defArgs (top 65), defBody (top 65), defScope (top 65), [], []⟩
def dd_followed : He.DefD := ⟨("followed", none), "followed", "followed", defArgs (top 66), defBody (top 66), defScope (top 66), [], []⟩
def dd_l_pot : He.DefD := ⟨("_law_pot", none), "_law_pot", "_law_pot", defArgs (top 68), defBody (top 68), defScope (top 68), [], []⟩
def dd_l_draw : He.DefD := ⟨("_law_draw", none), "_law_draw", "_law_draw", defArgs (top 69), defBody (top 69), defScope (top 69), [], []⟩
def dd_l_pick : He.DefD := ⟨("_law_pick", none), "_law_pick", "_law_pick", defArgs (top 70), defBody (top 70), defScope (top 70), [], []⟩
def dd_l_mixed : He.DefD := ⟨("_law_mixed", none), "_law_mixed", "_law_mixed", defArgs (top 71), defBody (top 71), defScope (top 71), [], []⟩
def dd_l_rule : He.DefD := ⟨("_law_rule", none), "_law_rule", "_law_rule", defArgs (top 72), defBody (top 72), defScope (top 72), [], []⟩
def dd_l_on : He.DefD := ⟨("_law_on", none), "_law_on", "_law_on", defArgs (top 73), defBody (top 73), defScope (top 73), [], []⟩
def dd_l_leads : He.DefD := ⟨("_law_leads", none), "_law_leads", "_law_leads", defArgs (top 74), defBody (top 74), defScope (top 74), [], []⟩
def dd_l_by : He.DefD := ⟨("_law_by", none), "_law_by", "_law_by", defArgs (top 75), defBody (top 75), defScope (top 75), [], []⟩
def dd_l_til : He.DefD := ⟨("_law_til", none), "_law_til", "_law_til", defArgs (top 76), defBody (top 76), defScope (top 76), [], []⟩
def dd_l_plan : He.DefD := ⟨("_law_plan", none), "_law_plan", "_law_plan", defArgs (top 77), defBody (top 77), defScope (top 77), [], []⟩
def dd_l_said : He.DefD := ⟨("_law_said", none), "_law_said", "_law_said", defArgs (top 78), defBody (top 78), defScope (top 78), [], []⟩
def dd_l_taken : He.DefD := ⟨("_law_taken", none), "_law_taken", "_law_taken", defArgs (top 79), defBody (top 79), defScope (top 79), [], []⟩
def dd_l_formula : He.DefD := ⟨("_law_formula", none), "_law_formula", "_law_formula", defArgs (top 80), defBody (top 80), defScope (top 80), [], []⟩
def dd_l_ready : He.DefD := ⟨("_law_ready", none), "_law_ready", "_law_ready", defArgs (top 81), defBody (top 81), defScope (top 81), [], []⟩
def dd_l_told : He.DefD := ⟨("_law_told", none), "_law_told", "_law_told", defArgs (top 82), defBody (top 82), defScope (top 82), [], []⟩
def dd_l_without : He.DefD := ⟨("_law_without", none), "_law_without", "_law_without", defArgs (top 83), defBody (top 83), defScope (top 83), [], []⟩
def dd_l_delayed : He.DefD := ⟨("_law_delayed", none), "_law_delayed", "_law_delayed", defArgs (top 84), defBody (top 84), defScope (top 84), [], []⟩
def dd_l_renamed : He.DefD := ⟨("_law_renamed", none), "_law_renamed", "_law_renamed", defArgs (top 85), defBody (top 85), defScope (top 85), [], []⟩
def dd_l_followed : He.DefD := ⟨("_law_followed", none), "_law_followed", "_law_followed", defArgs (top 86), defBody (top 86), defScope (top 86), [], []⟩
def dd_l_same_ready : He.DefD := ⟨("_law_same_ready", none), "_law_same_ready", "_law_same_ready", defArgs (top 87), defBody (top 87), defScope (top 87), [], []⟩
def dd_l_one_right : He.DefD := ⟨("_law_one_right", none), "_law_one_right", "_law_one_right", defArgs (top 88), defBody (top 88), defScope (top 88), [], []⟩
def dd_l_fewer_right : He.DefD := ⟨("_law_fewer_right", none), "_law_fewer_right", "_law_fewer_right", defArgs (top 89), defBody (top 89), defScope (top 89), [], []⟩
def dd_l_followed_right : He.DefD := ⟨("_law_followed_right", none), "_law_followed_right", "_law_followed_right", defArgs (top 90), defBody (top 90), defScope (top 90), [], []⟩
def dd_l_most_right : He.DefD := ⟨("_law_most_right", none), "_law_most_right", "_law_most_right", defArgs (top 91), defBody (top 91), defScope (top 91), [], []⟩
def dd_l_right : He.DefD := ⟨("_law_right", none), "_law_right", "_law_right", defArgs (top 92), defBody (top 92), defScope (top 92), [], []⟩
def dd_law : He.DefD := ⟨("law", none), "law", "law", defArgs (top 93), defBody (top 93), defScope (top 93), [], []⟩
def dd_InvalidDay_ddinitdd : He.DefD := ⟨("InvalidDay", some "__init__"), "__init__", "InvalidDay.__init__", defArgs (inClass (top 6) 0), defBody (inClass (top 6) 0), defScope (inClass (top 6) 0), [], []⟩
def dd_InvalidCount_ddinitdd : He.DefD := ⟨("InvalidCount", some "__init__"), "__init__", "InvalidCount.__init__", defArgs (inClass (top 7) 0), defBody (inClass (top 7) 0), defScope (inClass (top 7) 0), [], []⟩
def dd_InvalidWorld_ddinitdd : He.DefD := ⟨("InvalidWorld", some "__init__"), "__init__", "InvalidWorld.__init__", defArgs (inClass (top 8) 0), defBody (inClass (top 8) 0), defScope (inClass (top 8) 0), [], []⟩
def dd_InvalidPart_ddinitdd : He.DefD := ⟨("InvalidPart", some "__init__"), "__init__", "InvalidPart.__init__", defArgs (inClass (top 9) 0), defBody (inClass (top 9) 0), defScope (inClass (top 9) 0), [], []⟩
def dd_InvalidPlan_ddinitdd : He.DefD := ⟨("InvalidPlan", some "__init__"), "__init__", "InvalidPlan.__init__", defArgs (inClass (top 10) 0), defBody (inClass (top 10) 0), defScope (inClass (top 10) 0), [], []⟩
def dd_InvalidTable_ddinitdd : He.DefD := ⟨("InvalidTable", some "__init__"), "__init__", "InvalidTable.__init__", defArgs (inClass (top 11) 0), defBody (inClass (top 11) 0), defScope (inClass (top 11) 0), [], []⟩
def dd_RingOfParts_ddinitdd : He.DefD := ⟨("RingOfParts", some "__init__"), "__init__", "RingOfParts.__init__", defArgs (inClass (top 12) 0), defBody (inClass (top 12) 0), defScope (inClass (top 12) 0), [], []⟩
def dd_SharedPart_ddinitdd : He.DefD := ⟨("SharedPart", some "__init__"), "__init__", "SharedPart.__init__", defArgs (inClass (top 13) 0), defBody (inClass (top 13) 0), defScope (inClass (top 13) 0), [], []⟩
def dd_MissingRule_ddinitdd : He.DefD := ⟨("MissingRule", some "__init__"), "__init__", "MissingRule.__init__", defArgs (inClass (top 14) 0), defBody (inClass (top 14) 0), defScope (inClass (top 14) 0), [], []⟩
def dd_MissingPart_ddinitdd : He.DefD := ⟨("MissingPart", some "__init__"), "__init__", "MissingPart.__init__", defArgs (inClass (top 15) 0), defBody (inClass (top 15) 0), defScope (inClass (top 15) 0), [], []⟩
def dd_LastPart_ddinitdd : He.DefD := ⟨("LastPart", some "__init__"), "__init__", "LastPart.__init__", defArgs (inClass (top 16) 0), defBody (inClass (top 16) 0), defScope (inClass (top 16) 0), [], []⟩
def dd_TooMany_ddinitdd : He.DefD := ⟨("TooMany", some "__init__"), "__init__", "TooMany.__init__", defArgs (inClass (top 17) 0), defBody (inClass (top 17) 0), defScope (inClass (top 17) 0), [], []⟩
def dd_Table_ddinitdd : He.DefD := ⟨("Table", some "__init__"), "__init__", "Table.__init__", defArgs (inClass (top 33) 1), defBody (inClass (top 33) 1), defScope (inClass (top 33) 1), [], []⟩
def dd_Table_days : He.DefD := ⟨("Table", some "days"), "days", "Table.days", defArgs (inClass (top 33) 4), defBody (inClass (top 33) 4), defScope (inClass (top 33) 4), [], []⟩
def dd_Table_on : He.DefD := ⟨("Table", some "on"), "on", "Table.on", defArgs (inClass (top 33) 6), defBody (inClass (top 33) 6), defScope (inClass (top 33) 6), [], []⟩
def dd_Table_served : He.DefD := ⟨("Table", some "served"), "served", "Table.served", defArgs (inClass (top 33) 7), defBody (inClass (top 33) 7), defScope (inClass (top 33) 7), [], []⟩
def dd_Table_ddcalldd : He.DefD := ⟨("Table", some "__call__"), "__call__", "Table.__call__", defArgs (inClass (top 33) 8), defBody (inClass (top 33) 8), defScope (inClass (top 33) 8), [], []⟩
def dd_Table_first_by : He.DefD := ⟨("Table", some "first_by"), "first_by", "Table.first_by", defArgs (inClass (top 33) 9), defBody (inClass (top 33) 9), defScope (inClass (top 33) 9), [], []⟩
def dd_Table_by : He.DefD := ⟨("Table", some "by"), "by", "Table.by", defArgs (inClass (top 33) 10), defBody (inClass (top 33) 10), defScope (inClass (top 33) 10), [], []⟩
def dd_Table_ddeqdd : He.DefD := ⟨("Table", some "__eq__"), "__eq__", "Table.__eq__", defArgs (inClass (top 33) 25), defBody (inClass (top 33) 25), defScope (inClass (top 33) 25), [], []⟩
def dd_Table_ddreprdd : He.DefD := ⟨("Table", some "__repr__"), "__repr__", "Table.__repr__", defArgs (inClass (top 33) 26), defBody (inClass (top 33) 26), defScope (inClass (top 33) 26), [], []⟩
def fnl : List He.DefD := [dd_is_integer, dd_is_list, dd_is_day, dd_is_count, dd_is_letter_of, dd_is_rule, dd_want_day, dd_want_count, dd_want_at_most, dd_floor_part, dd_is_table, dd_is_world, dd_want_world, dd_is_part, dd_are_needs, dd_is_step, dd_has_form, dd_comes_to, dd_ringed, dd_is_plan, dd_want_plan, dd_want_part, dd_want_there, dd_want_part_of, dd_parts_in, dd_next_part, dd_sequence, dd_sequence_in, dd_rules_in_parts, dd_want_rules, dd_ready_days, dd_want_begun, dd_ready, dd_all_ready, dd_needs_without, dd_left_out, dd_without_part, dd_delayed, dd_with_delay, dd_followed, dd_l_pot, dd_l_draw, dd_l_pick, dd_l_mixed, dd_l_rule, dd_l_on, dd_l_leads, dd_l_by, dd_l_til, dd_l_plan, dd_l_said, dd_l_taken, dd_l_formula, dd_l_ready, dd_l_told, dd_l_without, dd_l_delayed, dd_l_renamed, dd_l_followed, dd_l_same_ready, dd_l_one_right, dd_l_fewer_right, dd_l_followed_right, dd_l_most_right, dd_l_right, dd_law, dd_InvalidDay_ddinitdd, dd_InvalidCount_ddinitdd, dd_InvalidWorld_ddinitdd, dd_InvalidPart_ddinitdd, dd_InvalidPlan_ddinitdd, dd_InvalidTable_ddinitdd, dd_RingOfParts_ddinitdd, dd_SharedPart_ddinitdd, dd_MissingRule_ddinitdd, dd_MissingPart_ddinitdd, dd_LastPart_ddinitdd, dd_TooMany_ddinitdd, dd_Table_ddinitdd, dd_Table_days, dd_Table_on, dd_Table_served, dd_Table_ddcalldd, dd_Table_first_by, dd_Table_by, dd_Table_ddeqdd, dd_Table_ddreprdd]
def fal : List He.Fa := [.glo "is_integer", .glo "is_list", .glo "is_day", .glo "is_count", .glo "is_letter_of", .glo "is_rule", .glo "want_day", .glo "want_count", .glo "want_at_most", .glo "floor_part", .glo "is_table", .glo "is_world", .glo "want_world", .glo "is_part", .glo "are_needs", .glo "is_step", .glo "has_form", .glo "comes_to", .glo "ringed", .glo "is_plan", .glo "want_plan", .glo "want_part", .glo "want_there", .glo "want_part_of", .glo "parts_in", .glo "next_part", .glo "sequence", .glo "sequence_in", .glo "rules_in_parts", .glo "want_rules", .glo "ready_days", .glo "want_begun", .glo "ready", .glo "all_ready", .glo "needs_without", .glo "left_out", .glo "without_part", .glo "delayed", .glo "with_delay", .glo "followed", .glo "_law_pot", .glo "_law_draw", .glo "_law_pick", .glo "_law_mixed", .glo "_law_rule", .glo "_law_on", .glo "_law_leads", .glo "_law_by", .glo "_law_til", .glo "_law_plan", .glo "_law_said", .glo "_law_taken", .glo "_law_formula", .glo "_law_ready", .glo "_law_told", .glo "_law_without", .glo "_law_delayed", .glo "_law_renamed", .glo "_law_followed", .glo "_law_same_ready", .glo "_law_one_right", .glo "_law_fewer_right", .glo "_law_followed_right", .glo "_law_most_right", .glo "_law_right", .glo "law", .glo "LeadError", .glo "MissingError", .glo "StateError", .glo "LimitError", .glo "InvalidDay", .glo "InvalidCount", .glo "InvalidWorld", .glo "InvalidPart", .glo "InvalidPlan", .glo "InvalidTable", .glo "RingOfParts", .glo "SharedPart", .glo "MissingRule", .glo "MissingPart", .glo "LastPart", .glo "TooMany", .glo "Table", .free "ArithmeticError", .free "LookupError", .free "RuntimeError", .free "ValueError", .free "abs", .free "all", .free "bool", .free "classmethod", .free "dict", .free "divmod", .free "enumerate", .free "int", .free "isinstance", .free "len", .free "list", .free "max", .free "min", .free "property", .free "range", .free "repr", .free "set", .free "sorted", .free "str", .free "tuple", .free "zip", .str "RULES" "abcdefgh", .int "MOST" 600, .str "SMALL" "abcdefghijklmnopqrstuvwxyz", .int "MOST_SIGNS" 12, .int "MOST_PARTS" 12, .cls "Table", .noat "Table" "own_days", .noat "Table" "own_length", .meth "Table" "on", .meth "Table" "served", .mkr "Table"]
def nml0 : List PySem.Str := ["_wall", "LeadError", "MissingError", "StateError", "LimitError", "InvalidDay", "InvalidCount", "InvalidWorld", "InvalidPart", "InvalidPlan"]
def nml1 : List PySem.Str := ["InvalidTable", "RingOfParts", "SharedPart", "MissingRule", "MissingPart", "LastPart", "TooMany", "RULES", "is_integer", "is_list"]
def nml2 : List PySem.Str := ["is_day", "is_count", "is_letter_of", "is_rule", "want_day", "want_count", "want_at_most", "MOST", "floor_part", "is_table"]
def nml3 : List PySem.Str := ["Table", "is_world", "want_world", "SMALL", "MOST_SIGNS", "MOST_PARTS", "is_part", "are_needs", "is_step", "has_form"]
def nml4 : List PySem.Str := ["comes_to", "ringed", "is_plan", "want_plan", "want_part", "want_there", "want_part_of", "parts_in", "next_part", "sequence"]
def nml5 : List PySem.Str := ["sequence_in", "rules_in_parts", "want_rules", "ready_days", "want_begun", "ready", "all_ready", "needs_without", "left_out", "without_part"]
def nml6 : List PySem.Str := ["delayed", "with_delay", "followed", "_law_pot", "_law_draw", "_law_pick", "_law_mixed", "_law_rule", "_law_on", "_law_leads"]
def nml7 : List PySem.Str := ["_law_by", "_law_til", "_law_plan", "_law_said", "_law_taken", "_law_formula", "_law_ready", "_law_told", "_law_without", "_law_delayed"]
def nml8 : List PySem.Str := ["_law_renamed", "_law_followed", "_law_same_ready", "_law_one_right", "_law_fewer_right", "_law_followed_right", "_law_most_right", "_law_right"]
def nml : List PySem.Str := nml0 ++ nml1 ++ nml2 ++ nml3 ++ nml4 ++ nml5 ++ nml6 ++ nml7 ++ nml8
def clsN : Nat → PySem.Str
  | 0 => "LeadError"
  | 1 => "MissingError"
  | 2 => "StateError"
  | 3 => "LimitError"
  | 4 => "InvalidDay"
  | 5 => "InvalidCount"
  | 6 => "InvalidWorld"
  | 7 => "InvalidPart"
  | 8 => "InvalidPlan"
  | 9 => "InvalidTable"
  | 10 => "RingOfParts"
  | 11 => "SharedPart"
  | 12 => "MissingRule"
  | 13 => "MissingPart"
  | 14 => "LastPart"
  | 15 => "TooMany"
  | 16 => "Table"
  | _ => ""
def clK (K : PySem.W.Frag) : Nat → Addr := fun n => He.ga K (clsN n)
abbrev R : PySem.W.OpenRow := PySem.W.OpenLaw.row PySem.Challenge.rw_leadrules_k83_whole_plans_otherwise

/-! my own Hook: the written part is all objects up to a bound, one Bool and the defs' texts one by one -/
def upto : Nat → List Addr
  | 0 => []
  | n + 1 => n :: upto n
def fnsO (K : PySem.W.Frag) : List He.DefD → List He.FnW
  | [] => []
  | d :: r => He.fnW K d.at_ :: fnsO K r
def fnsV : List He.DefD → List He.FnW
  | [] => []
  | d :: r => d.val :: fnsV r
def allFa (K : PySem.W.Frag) : List He.Fa → Bool
  | [] => true
  | f :: r => match f.ok K with
    | true => allFa K r
    | false => false
def allFn (K : PySem.W.Frag) : List He.DefD → Bool
  | [] => true
  | d :: r => match d.ok K with
    | true => allFn K r
    | false => false
def insB (K : PySem.W.Frag) (C : Addr) : Bool :=
  match decide (PySem.W.findIn K (.ref C) "__class__" = some (some (.builtin "object.__class__"))) with
  | false => false
  | true => match decide (PySem.W.specialIn K (.builtin "object.__class__") "__get__" = some (some (.builtin "getset_descriptor.__get__"))) with
    | false => false
    | true => match decide (PySem.W.takesIn K (.builtin "object.__class__") = some true) with
      | false => false
      | true => match decide (PySem.W.mroIn K C (.type "object") = some true) with
        | false => false
        | true => decide (PySem.W.kitOne K (.ref C) (.ref C) = some true)
def xtB (K : PySem.W.Frag) (x : PySem.Str) (tl : List Value) (newId : String) (ns : List PySem.Str) : Bool :=
  PySem.W.excInitIn K (He.ga K x) tl newId && (((PySem.W.clsIn K (He.ga K x)).any fun cd => PySem.XcG.refsT tl cd.mro && cd.hasDict) &&
  (decide (PySem.W.findIn K (.ref (He.ga K x)) "__setattr__" = some (some (.builtin "object.__setattr__"))) &&
  (decide (PySem.W.findIn K (.ref (He.ga K x)) "__getattribute__" = some (some (.builtin "BaseException.__getattribute__"))) &&
  (decide (PySem.W.findIn K (.ref (He.ga K x)) "__getattr__" = some none) &&
  (ns.all (fun n => decide (PySem.W.findIn K (.ref (He.ga K x)) n = some none)) &&
  (decide (PySem.W.findIn K (.ref (He.ga K x)) "__init__" = some (some (.ref (He.ma K (He.ga K x) "__init__")))) &&
  (decide (PySem.W.typeIn K (.ref (He.ma K (He.ga K x) "__init__")) = some (.type "function")) &&
  (PySem.W.keepIn K (.ref (He.ga K x)) &&
  (decide (PySem.W.subIn K (.ref (He.ga K x)) (.type "BaseException") = some true) &&
  (decide (PySem.W.typeIn K (.ref (He.ga K x)) = some (.type "type")) &&
  (PySem.W.hasDictIn K (He.ga K x) && decide (PySem.W.exmOne K (.ref (He.ga K x)) (.ref (He.ga K x)) = some true))))))))))))
def exB (K : PySem.W.Frag) (C : Addr) : Bool :=
  decide (PySem.W.findIn K (.ref C) "__class__" = some (some (.builtin "object.__class__"))) &&
  (decide (PySem.W.specialIn K (.builtin "object.__class__") "__get__" = some (some (.builtin "getset_descriptor.__get__"))) &&
  (decide (PySem.W.takesIn K (.builtin "object.__class__") = some true) && decide (PySem.W.mroIn K C (.type "object") = some true)))
def tlR : List Value := [.type "RuntimeError", .type "Exception", .type "BaseException", .type "object"]
def tlV : List Value := [.type "ValueError", .type "Exception", .type "BaseException", .type "object"]
def tlA : List Value := [.type "ArithmeticError", .type "Exception", .type "BaseException", .type "object"]
def xcB (K : PySem.W.Frag) : Bool :=
  xtB K "LastPart" tlR "RuntimeError.__new__" ["part"] && (xtB K "SharedPart" tlV "ValueError.__new__" ["part"] && (xtB K "TooMany" tlA "ArithmeticError.__new__" ["what", "limit"] &&
  (exB K (He.ga K "LastPart") && decide (PySem.W.kitOne K (.ref (He.ga K "LastPart")) (.ref (He.ga K "StateError")) = some true))))
def xB (K : PySem.W.Frag) : Bool := match (K.lookup sysModules).isSome with
  | true => match insB K (He.ga K "Table") with
    | true => xcB K
    | false => false
  | false => false
def allB (fa : List He.Fa) (fn : List He.DefD) (K : PySem.W.Frag) : Bool := match xB K with
  | false => false
  | true => match allFa K fa with
    | true => allFn K fn
    | false => false
def obsR (fa : List He.Fa) (fn : List He.DefD) (K : PySem.W.Frag) : Bool × List He.FnW := (allB fa fn K, fnsO K fn)
def valR (fn : List He.DefD) : Bool × List He.FnW := (true, fnsV fn)
def SaysR (fa : List He.Fa) (fn : List He.DefD) (K : PySem.W.Frag) : Prop := obsR fa fn K = valR fn
def hookR (fa : List He.Fa) (fn : List He.DefD) : PySem.W.Hook where
  α := Bool × List He.FnW
  obs := fun s => obsR fa fn (He.frG s.heap.get? (upto s.heap.objs.size))
  val := fun _ => valR fn
  says := fun _ h => ∃ K : PySem.W.Frag, K.In h ∧ SaysR fa fn K
  of := fun _ _ e => ⟨_, He.frG_in, e⟩
  keeps := fun _ _ _ ⟨K, hK, c⟩ k => ⟨K, PySem.W.Frag.In.keeps hK k, c⟩
abbrev hk : PySem.W.Hook := hookR fal fnl
def ob (s : PySem.W.SharedT) : Bool × List He.FnW := obsR fal fnl (He.frG (HandSHeadRun.getT s) (upto s.n))
theorem ob_eq (s : PySem.W.SharedT) : ob s = hk.obs s.abs := by
  have e : HandSHeadRun.getT s = s.abs.heap.get? := funext (HandSHeadRun.getT_eq s)
  have e2 : s.n = s.abs.heap.objs.size := (PySem.W.absHeap_size s.tree s.n s.life).symm
  unfold ob
  rw [e, e2]
  rfl
/-! what it says -/
section
variable {fa : List He.Fa} {fn : List He.DefD} {K : PySem.W.Frag}
theorem allFa_at : ∀ {fa : List He.Fa}, allFa K fa = true → ∀ {i : Nat} {f : He.Fa}, fa[i]? = some f → f.ok K = true
  | [], _, i, f, h => by cases h
  | g :: r, c, i, f, h => by
    unfold allFa at c
    cases e : g.ok K with
    | false => rw [e] at c; cases c
    | true =>
      rw [e] at c
      cases i with
      | zero => cases h; exact e
      | succ i => exact allFa_at (fa := r) c h
theorem allFn_at : ∀ {fn : List He.DefD}, allFn K fn = true → ∀ {i : Nat} {d : He.DefD}, fn[i]? = some d → d.ok K = true
  | [], _, i, f, h => by cases h
  | g :: r, c, i, f, h => by
    unfold allFn at c
    cases e : g.ok K with
    | false => rw [e] at c; cases c
    | true =>
      rw [e] at c
      cases i with
      | zero => cases h; exact e
      | succ i => exact allFn_at (fn := r) c h
theorem fns_at : ∀ {fn : List He.DefD}, fnsO K fn = fnsV fn → ∀ {i : Nat} {d : He.DefD}, fn[i]? = some d → He.fnW K d.at_ = d.val
  | [], _, i, f, h => by cases h
  | g :: r, c, i, f, h => by
    have c' : He.fnW K g.at_ :: fnsO K r = g.val :: fnsV r := c
    injection c' with c1 c2
    cases i with
    | zero => cases h; exact c1
    | succ i => exact fns_at (fn := r) c2 h
theorem SaysR.parts (c : SaysR fa fn K) : xB K = true ∧ allFa K fa = true ∧ allFn K fn = true ∧ fnsO K fn = fnsV fn := by
  have c1 : allB fa fn K = true := congrArg (·.1) c
  have c2 : fnsO K fn = fnsV fn := congrArg (·.2) c
  unfold allB at c1
  cases e : xB K with
  | false => rw [e] at c1; cases c1
  | true =>
    rw [e] at c1
    have c1' : (match allFa K fa with | true => allFn K fn | false => false) = true := c1
    cases e2 : allFa K fa with
    | false => rw [e2] at c1'; cases c1'
    | true => rw [e2] at c1'; exact ⟨rfl, rfl, c1', c2⟩
end
/-- all that the walks take of the text -/
structure Pg (K : PySem.W.Frag) (mg : PySem.Str → Option Value) (base : Heap) : Prop where
  says : SaysR fal fnl K
  inB : K.In base
  ns : base.Ns mainGlobals mg
section
variable {K : PySem.W.Frag} {mg : PySem.Str → Option Value} {base : Heap} {x z f m : PySem.Str}
theorem Pg.fact (pg : Pg K mg base) (i : Nat) {f : He.Fa} (h : fal[i]? = some f) : f.ok K = true := allFa_at pg.says.parts.2.1 h
theorem Pg.glo (pg : Pg K mg base) (i : Nat) (h : fal[i]? = some (.glo x) := by rfl) : mg x = some (.ref (He.ga K x)) := He.glo_ok pg.inB pg.ns (pg.fact i h)
theorem Pg.free (pg : Pg K mg base) (i : Nat) (h : fal[i]? = some (.free x) := by rfl) : mg x = none := He.free_ok pg.inB pg.ns (pg.fact i h)
theorem Pg.int (pg : Pg K mg base) (i : Nat) {n : Int} (h : fal[i]? = some (.int x n) := by rfl) : ∃ t, mg x = some (.int n t) := He.int_ok pg.inB pg.ns (pg.fact i h)
theorem Pg.str (pg : Pg K mg base) (i : Nat) (h : fal[i]? = some (.str x z) := by rfl) : ∃ t, mg x = some (.str z t) := He.str_ok pg.inB pg.ns (pg.fact i h)
theorem Pg.cls (pg : Pg K mg base) (i : Nat) (h : fal[i]? = some (.cls x) := by rfl) : Cls K (He.ga K x) := He.cls_ok (pg.fact i h)
theorem Pg.noat (pg : Pg K mg base) (i : Nat) (h : fal[i]? = some (.noat x f) := by rfl) : NoAttr K (He.ga K x) f := He.noat_ok (pg.fact i h)
theorem Pg.meth (pg : Pg K mg base) (i : Nat) (h : fal[i]? = some (.meth x m) := by rfl) : Meth K (He.ga K x) m (He.ma K (He.ga K x) m) := He.meth_ok (pg.fact i h)
theorem Pg.mkr (pg : Pg K mg base) (i : Nat) (h : fal[i]? = some (.mkr x) := by rfl) : Mk K (He.ga K x) (He.ma K (He.ga K x) "__init__") := He.mkr_ok (pg.fact i h)
theorem Pg.def_ (pg : Pg K mg base) (i : Nat) {d : He.DefD} (h : fnl[i]? = some d := by rfl) : ∃ fd, FunD K d.name d.qual d.params d.body d.scope (d.dvs K) (d.kws K) (He.fAd K d.at_) fd :=
  He.DefD.funD (fns_at pg.says.parts.2.2.2 h) (allFn_at pg.says.parts.2.2.1 h)
theorem Pg.sys (pg : Pg K mg base) : ∃ o, K.lookup sysModules = some o := by
  have c := pg.says.parts.1
  unfold xB at c
  cases e : K.lookup sysModules with
  | some o => exact ⟨o, rfl⟩
  | none => rw [e] at c; cases c
theorem insB_ok {C : Addr} (hc : Cls K C) (h : insB K C = true) : C8.InsC K C := by
  unfold insB at h
  split at h
  · cases h
  next h1 =>
  split at h
  · cases h
  next h2 =>
  split at h
  · cases h
  next h3 =>
  split at h
  · cases h
  next h4 =>
  exact ⟨hc, of_decide_eq_true h1, of_decide_eq_true h2, of_decide_eq_true h3, of_decide_eq_true h4, of_decide_eq_true h⟩
theorem Pg.insT (pg : Pg K mg base) : C8.InsC K (He.ga K "Table") := by
  have c := pg.says.parts.1
  unfold xB at c
  split at c
  · split at c
    · next h => exact insB_ok (pg.cls 113) h
    · cases c
  · cases c
theorem xtB_ok {tl : List Value} {newId : String} {ns : List PySem.Str} (h : xtB K x tl newId ns = true) : PySem.XcG.XT K (He.ga K x) (He.ma K (He.ga K x) "__init__") tl newId ns := by
  simp only [xtB, Bool.and_eq_true, decide_eq_true_eq] at h
  obtain ⟨h1, h2, h3, h4, h5, h6, h7, h8, h9, h10, h11, h12, h13⟩ := h
  refine ⟨h1, ?_, h3, h4, h5, fun n hn => of_decide_eq_true (List.all_eq_true.mp h6 n hn), h7, h8, h9, h10, h11, h12, h13⟩
  cases q : PySem.W.clsIn K (He.ga K x) with
  | none => rw [q] at h2; cases h2
  | some cd =>
    rw [q] at h2
    have h2' : (PySem.XcG.refsT tl cd.mro && cd.hasDict) = true := h2
    rw [Bool.and_eq_true] at h2'
    exact ⟨cd, rfl, h2'.1, h2'.2⟩
theorem Pg.xc (pg : Pg K mg base) : xcB K = true := by
  have c := pg.says.parts.1
  unfold xB at c
  split at c
  · split at c
    · exact c
    · cases c
  · cases c
theorem Pg.xLast (pg : Pg K mg base) : PySem.XcG.XT K (He.ga K "LastPart") (He.ma K (He.ga K "LastPart") "__init__") tlR "RuntimeError.__new__" ["part"] := by
  have c := pg.xc
  simp only [xcB, Bool.and_eq_true] at c
  exact xtB_ok c.1
theorem Pg.xShared (pg : Pg K mg base) : PySem.XcG.XT K (He.ga K "SharedPart") (He.ma K (He.ga K "SharedPart") "__init__") tlV "ValueError.__new__" ["part"] := by
  have c := pg.xc
  simp only [xcB, Bool.and_eq_true] at c
  exact xtB_ok c.2.1
theorem Pg.xMany (pg : Pg K mg base) : PySem.XcG.XT K (He.ga K "TooMany") (He.ma K (He.ga K "TooMany") "__init__") tlA "ArithmeticError.__new__" ["what", "limit"] := by
  have c := pg.xc
  simp only [xcB, Bool.and_eq_true] at c
  exact xtB_ok c.2.2.1
theorem Pg.exLast (pg : Pg K mg base) : ExcC K (He.ga K "LastPart") := by
  have c := pg.xc
  simp only [xcB, exB, Bool.and_eq_true, decide_eq_true_eq] at c
  have T := pg.xLast
  exact ⟨T.ga, T.gg, T.exC, T.hdC, c.2.2.2.1.1, c.2.2.2.1.2.1, c.2.2.2.1.2.2.1, c.2.2.2.1.2.2.2⟩
theorem Pg.kitLast (pg : Pg K mg base) : PySem.W.kitOne K (.ref (He.ga K "LastPart")) (.ref (He.ga K "StateError")) = some true := by
  have c := pg.xc
  simp only [xcB, Bool.and_eq_true, decide_eq_true_eq] at c
  exact c.2.2.2.2
end
end Hd
end

section
set_option Elab.async false
set_option linter.all false
set_option maxRecDepth 100000
set_option maxHeartbeats 0
namespace Hd
open PySem PySem.Spec PyProof.Rows L2 HandSHeadRun PySem.W
theorem allFn_app {K : Frag} : ∀ {a b : List He.DefD}, allFn K a = true → allFn K b = true → allFn K (a ++ b) = true
  | [], _, _, h => h
  | d :: r, b, h, g => by
    unfold allFn at h
    show (match d.ok K with | true => allFn K (r ++ b) | false => false) = true
    cases e : d.ok K with
    | false => rw [e] at h; cases h
    | true => rw [e] at h; exact allFn_app h g
def fnl1 : List He.DefD := fnl.take 40
def fnl2 : List He.DefD := fnl.drop 40
theorem allB_of {K : Frag} {fa : List He.Fa} {fn : List He.DefD} (h1 : xB K = true) (h2 : allFa K fa = true) (h3 : allFn K fn = true) : allB fa fn K = true := by
  unfold allB
  rw [h1, h2]
  exact h3
theorem map_five {α β γ ε : Type} {o : Option α} {A B C : α → Bool} {G H J : α → Bool} {S : α → β} {F : α → γ} {gd : β} {v : γ} (h1 : o.map (fun s => (A s, S s, B s, C s)) = some (true, gd, true, true)) (h2 : o.map G = some true) (h3 : o.map H = some true) (h4 : o.map F = some v) (k : ∀ s, B s = true → C s = true → G s = true → H s = true → J s = true) :
    o.map (fun s => (A s, S s, (J s, F s))) = some (true, gd, (true, v)) := by
  cases o with
  | none => cases h4
  | some s =>
    have e1 := Option.some.inj h1
    have e2 := Option.some.inj h2
    have e3 := Option.some.inj h3
    have e4 := Option.some.inj h4
    have a := congrArg Prod.fst e1
    have b := congrArg Prod.fst (congrArg Prod.snd e1)
    have c := congrArg Prod.fst (congrArg Prod.snd (congrArg Prod.snd e1))
    have d := congrArg Prod.snd (congrArg Prod.snd (congrArg Prod.snd e1))
    exact congrArg some (Prod.ext a (Prod.ext b (Prod.ext (k s c d e2 e3) e4)))
theorem run1 (w : World) (os : OsState) : (endF (stepQ (denQ tabQ) R.prog w) 7100 R.prog w os).map (fun s => (looksF R.prog (boot_heap w.params) s.abs, seenQ (PySem.W.view R.prog [93]) nml (importedModules R.prog.main.body) (fun s => xlAt (PySem.W.view R.prog [93]) [] s && recOk R.toRowW.records s) s.abs, xB (He.frG (getT s) (upto s.n)), allFa (He.frG (getT s) (upto s.n)) fal)) = some (true, openGood (PySem.W.view R.prog [93]) nml, true, true) := by
  kernel_rfl
theorem run2 (w : World) (os : OsState) : (endF (stepQ (denQ tabQ) R.prog w) 7100 R.prog w os).map (fun s => allFn (He.frG (getT s) (upto s.n)) fnl1) = some true := by
  kernel_rfl
theorem run3 (w : World) (os : OsState) : (endF (stepQ (denQ tabQ) R.prog w) 7100 R.prog w os).map (fun s => allFn (He.frG (getT s) (upto s.n)) fnl2) = some true := by
  kernel_rfl
theorem run4 (w : World) (os : OsState) : (endF (stepQ (denQ tabQ) R.prog w) 7100 R.prog w os).map (fun s => fnsO (He.frG (getT s) (upto s.n)) fnl) = some (fnsV fnl) := by
  kernel_rfl
theorem fnl_app : fnl1 ++ fnl2 = fnl := List.take_append_drop 40 fnl
theorem run (w : World) : RunEq R (PySem.W.view R.prog [93]) hk ob 7100 nml w := fun os =>
  map_five (ε := Unit) (J := fun s => allB fal fnl (He.frG (getT s) (upto s.n))) (run1 w os) (run2 w os) (run3 w os) (run4 w os) fun s h1 h2 h3 h4 => allB_of h1 h2 (fnl_app ▸ allFn_app h3 h4)
end Hd
end

section
set_option Elab.async false
set_option linter.all false
set_option maxRecDepth 100000
set_option maxHeartbeats 2000000
namespace DL
open PySem PySem.Spec PyProof.Rows L2

/-! ## plain data, and how a value of the abstract heap bears it -/
inductive D where
  | non
  | bl (b : Bool)
  | int (i : Int)
  | str (x : PySem.Str)
  | lst (xs : List D)
  | tup (xs : List D)
  | dic (kvs : List (Key × D))
  | obj (c : Nat) (fs : List (PySem.Str × D))
  | scr (ns : List Int)
  deriving Inhabited

/-- the classes' addresses, by number -/
abbrev ClA := Nat → Addr

mutual
inductive Den (K : PySem.W.Frag) (cl : ClA) (H : Hp) : V → D → Prop
  | non : Den K cl H .non .non
  | bl (b : Bool) : Den K cl H (.bl b) (.bl b)
  | int (i : Int) : Den K cl H (.int i) (.int i)
  | str (x : PySem.Str) : Den K cl H (.str x) (.str x)
  | lst {a : Addr} {vs : List V} {ds : List D} : H a = some (.lst vs) → DenL K cl H vs ds → Den K cl H (.ref a) (.lst ds)
  | tup {a : Addr} {vs : List V} {ds : List D} : SqT K H a vs → DenL K cl H vs ds → Den K cl H (.ref a) (.tup ds)
  | dic {a : Addr} {kvs : List (Key × V)} {ds : List (Key × D)} : Rd H a (.dK kvs) → DenK K cl H kvs ds → Den K cl H (.ref a) (.dic ds)
  | obj {a dx : Addr} {c : Nat} {fs : List (PySem.Str × V)} {ds : List (PySem.Str × D)} : H a = some (.ins (cl c) dx fs) → DenF K cl H fs ds → Den K cl H (.ref a) (.obj c ds)
  | scr {a : Addr} {ns : List Int} : SqL K H a (ns.map V.int) → Den K cl H (.ref a) (.scr ns)
inductive DenL (K : PySem.W.Frag) (cl : ClA) (H : Hp) : List V → List D → Prop
  | nil : DenL K cl H [] []
  | cons {v : V} {d : D} {vs : List V} {ds : List D} : Den K cl H v d → DenL K cl H vs ds → DenL K cl H (v :: vs) (d :: ds)
inductive DenK (K : PySem.W.Frag) (cl : ClA) (H : Hp) : List (Key × V) → List (Key × D) → Prop
  | nil : DenK K cl H [] []
  | cons {k : Key} {v : V} {d : D} {vs : List (Key × V)} {ds : List (Key × D)} : Den K cl H v d → DenK K cl H vs ds → DenK K cl H ((k, v) :: vs) ((k, d) :: ds)
inductive DenF (K : PySem.W.Frag) (cl : ClA) (H : Hp) : List (PySem.Str × V) → List (PySem.Str × D) → Prop
  | nil : DenF K cl H [] []
  | cons {k : PySem.Str} {v : V} {d : D} {vs : List (PySem.Str × V)} {ds : List (PySem.Str × D)} : Den K cl H v d → DenF K cl H vs ds → DenF K cl H ((k, v) :: vs) ((k, d) :: ds)
end

/-! ## heaps -/
/-- what is read stays (a dict may be locked or unlocked) -/
def Le (H H' : Hp) : Prop := ∀ a u, H a = some u → H' a = some u ∨ ∃ kvs o, (u = .dK kvs ∧ H' a = some (.frz o (.dK kvs))) ∨ (u = .frz o (.dK kvs) ∧ (H' a = some (.dK kvs) ∨ ∃ o', H' a = some (.frz o' (.dK kvs))))
theorem Le.refl (H : Hp) : Le H H := fun _ _ h => .inl h
theorem Le.of_same {H H' : Hp} (h : ∀ a u, H a = some u → H' a = some u) : Le H H' := fun a u e => .inl (h a u e)
theorem Le.trans {H H1 H2 : Hp} (x : Le H H1) (y : Le H1 H2) : Le H H2 := fun a u e => by
  rcases x a u e with h | ⟨kvs, o, ⟨rfl, h⟩ | ⟨rfl, h | ⟨o', h⟩⟩⟩
  · exact y a u h
  · rcases y a _ h with g | ⟨kvs', o', ⟨e1, g⟩ | ⟨e1, g⟩⟩
    · exact .inr ⟨kvs, o, .inl ⟨rfl, g⟩⟩
    · cases e1
    · cases e1
      rcases g with g | ⟨o2, g⟩
      · exact .inl g
      · exact .inr ⟨kvs, o2, .inl ⟨rfl, g⟩⟩
  · rcases y a _ h with g | ⟨kvs', o', ⟨e1, g⟩ | ⟨e1, g⟩⟩
    · exact .inr ⟨kvs, o, .inr ⟨rfl, .inl g⟩⟩
    · cases e1
      exact .inr ⟨kvs, o, .inr ⟨rfl, .inr ⟨o', g⟩⟩⟩
    · cases e1
  · rcases y a _ h with g | ⟨kvs', o2, ⟨e1, g⟩ | ⟨e1, g⟩⟩
    · exact .inr ⟨kvs, o, .inr ⟨rfl, .inr ⟨_, g⟩⟩⟩
    · cases e1
    · cases e1
      exact .inr ⟨kvs, o, .inr ⟨rfl, g⟩⟩
theorem Le.lst {H H' : Hp} (x : Le H H') {a : Addr} {vs : List V} (h : H a = some (.lst vs)) : H' a = some (.lst vs) := by
  rcases x a _ h with g | ⟨_, _, ⟨e, _⟩ | ⟨e, _⟩⟩
  · exact g
  · cases e
  · cases e
theorem Le.ins {H H' : Hp} (x : Le H H') {a C dx : Addr} {fs : List (PySem.Str × V)} (h : H a = some (.ins C dx fs)) : H' a = some (.ins C dx fs) := by
  rcases x a _ h with g | ⟨_, _, ⟨e, _⟩ | ⟨e, _⟩⟩
  · exact g
  · cases e
  · cases e
theorem Le.sqt {K : PySem.W.Frag} {H H' : Hp} (x : Le H H') {a : Addr} {vs : List V} (h : SqT K H a vs) : SqT K H' a vs := by
  rcases h with (h | ⟨o, h⟩) | h
  · rcases x a _ h with g | ⟨_, _, ⟨e, _⟩ | ⟨e, _⟩⟩
    · exact .inl (.inl g)
    · cases e
    · cases e
  · rcases x a _ h with g | ⟨_, _, ⟨e, _⟩ | ⟨e, _⟩⟩
    · exact .inl (.inr ⟨o, g⟩)
    · cases e
    · cases e
  · exact .inr h
theorem Le.sql {K : PySem.W.Frag} {H H' : Hp} (x : Le H H') {a : Addr} {vs : List V} (h : SqL K H a vs) : SqL K H' a vs := by
  rcases h with (h | ⟨o, h⟩) | h
  · exact .inl (.inl (x.lst h))
  · rcases x a _ h with g | ⟨_, _, ⟨e, _⟩ | ⟨e, _⟩⟩
    · exact .inl (.inr ⟨o, g⟩)
    · cases e
    · cases e
  · exact .inr h
theorem Le.rdk {H H' : Hp} (x : Le H H') {a : Addr} {kvs : List (Key × V)} (h : Rd H a (.dK kvs)) : Rd H' a (.dK kvs) := by
  rcases h with h | ⟨o, h⟩
  · rcases x a _ h with g | ⟨k2, o2, ⟨e, g⟩ | ⟨e, _⟩⟩
    · exact .inl g
    · cases e; exact .inr ⟨o2, g⟩
    · cases e
  · rcases x a _ h with g | ⟨k2, o2, ⟨e, g⟩ | ⟨e, g⟩⟩
    · exact .inr ⟨o, g⟩
    · cases e
    · cases e
      rcases g with g | ⟨o3, g⟩
      · exact .inl g
      · exact .inr ⟨o3, g⟩
theorem Le.nn {H H' : Hp} (x : Le H H') {a : Addr} {u : HO} (h : H a = some u) : H' a ≠ none := by
  rcases x a _ h with g | ⟨k2, o2, ⟨e, g⟩ | ⟨e, g | ⟨o3, g⟩⟩⟩ <;> rw [g] <;> exact fun z => nomatch z
theorem Le.no {H H' : Hp} (x : Le H H') {a : Addr} (h : H' a = none) : H a = none := by
  cases e : H a with
  | none => rfl
  | some u => exact absurd h (x.nn e)
theorem Le.new {H : Hp} {a : Addr} {o : HO} (h : H a = none) : Le H (upd H a o) := .of_same fun b u e => by rw [upd_ne (ne_of_none e h)]; exact e

section
variable {K : PySem.W.Frag} {cl : ClA} {H H' : Hp}
mutual
theorem Den.mono (l : Le H H') : ∀ {d : D} {v : V}, Den K cl H v d → Den K cl H' v d
  | .non, _, h => by cases h; exact .non
  | .bl _, _, h => by cases h; exact .bl _
  | .int _, _, h => by cases h; exact .int _
  | .str _, _, h => by cases h; exact .str _
  | .lst _, _, h => by
    cases h with
    | lst h1 h2 => exact .lst (l.lst h1) (DenL.mono l h2)
  | .tup _, _, h => by
    cases h with
    | tup h1 h2 => exact .tup (l.sqt h1) (DenL.mono l h2)
  | .dic _, _, h => by
    cases h with
    | dic h1 h2 => exact .dic (l.rdk h1) (DenK.mono l h2)
  | .obj _ _, _, h => by
    cases h with
    | obj h1 h2 => exact .obj (l.ins h1) (DenF.mono l h2)
  | .scr _, _, h => by
    cases h with
    | scr h1 => exact .scr (l.sql h1)
theorem DenL.mono (l : Le H H') : ∀ {ds : List D} {vs : List V}, DenL K cl H vs ds → DenL K cl H' vs ds
  | [], _, h => by cases h; exact .nil
  | _ :: _, _, h => by
    cases h with
    | cons h1 h2 => exact .cons (Den.mono l h1) (DenL.mono l h2)
theorem DenK.mono (l : Le H H') : ∀ {ds : List (Key × D)} {vs : List (Key × V)}, DenK K cl H vs ds → DenK K cl H' vs ds
  | [], _, h => by cases h; exact .nil
  | (_, _) :: _, _, h => by
    cases h with
    | cons h1 h2 => exact .cons (Den.mono l h1) (DenK.mono l h2)
theorem DenF.mono (l : Le H H') : ∀ {ds : List (PySem.Str × D)} {vs : List (PySem.Str × V)}, DenF K cl H vs ds → DenF K cl H' vs ds
  | [], _, h => by cases h; exact .nil
  | (_, _) :: _, _, h => by
    cases h with
    | cons h1 h2 => exact .cons (Den.mono l h1) (DenF.mono l h2)
end
theorem DenL.length : ∀ {ds : List D} {vs : List V}, DenL K cl H vs ds → vs.length = ds.length
  | [], _, h => by cases h; rfl
  | _ :: _, _, h => by
    cases h with
    | cons _ h2 => exact congrArg Nat.succ (DenL.length h2)
theorem DenL.get : ∀ {ds : List D} {vs : List V} {i : Nat} {d : D}, DenL K cl H vs ds → ds[i]? = some d → ∃ v, vs[i]? = some v ∧ Den K cl H v d
  | [], _, _, _, _, e => by simp at e
  | _ :: _, _, 0, _, h, e => by
    cases h with
    | cons h1 _ => simp at e; subst e; exact ⟨_, rfl, h1⟩
  | _ :: _, _, i + 1, _, h, e => by
    cases h with
    | cons _ h2 =>
      obtain ⟨v, e1, e2⟩ := DenL.get (i := i) h2 (by simpa using e)
      exact ⟨v, by simpa using e1, e2⟩
theorem DenL.get' : ∀ {ds : List D} {vs : List V} {i : Nat} {v : V}, DenL K cl H vs ds → vs[i]? = some v → ∃ d, ds[i]? = some d ∧ Den K cl H v d
  | [], _, _, _, h, e => by cases h; simp at e
  | _ :: _, _, 0, _, h, e => by
    cases h with
    | cons h1 _ => simp at e; subst e; exact ⟨_, rfl, h1⟩
  | _ :: _, _, i + 1, _, h, e => by
    cases h with
    | cons _ h2 =>
      obtain ⟨v, e1, e2⟩ := DenL.get' (i := i) h2 (by simpa using e)
      exact ⟨v, by simpa using e1, e2⟩
theorem DenL.append : ∀ {ds es : List D} {vs ws : List V}, DenL K cl H vs ds → DenL K cl H ws es → DenL K cl H (vs ++ ws) (ds ++ es)
  | [], _, _, _, h, g => by cases h; exact g
  | _ :: _, _, _, _, h, g => by
    cases h with
    | cons h1 h2 => exact .cons h1 (DenL.append h2 g)
theorem DenL.one {v : V} {d : D} (h : Den K cl H v d) : DenL K cl H [v] [d] := .cons h .nil
theorem DenL.take : ∀ (n : Nat) {ds : List D} {vs : List V}, DenL K cl H vs ds → DenL K cl H (vs.take n) (ds.take n)
  | 0, _, _, _ => .nil
  | _ + 1, [], _, h => by cases h; exact .nil
  | n + 1, _ :: _, _, h => by
    cases h with
    | cons h1 h2 => exact .cons h1 (DenL.take n h2)
theorem DenL.drop : ∀ (n : Nat) {ds : List D} {vs : List V}, DenL K cl H vs ds → DenL K cl H (vs.drop n) (ds.drop n)
  | 0, _, _, h => h
  | _ + 1, [], _, h => by cases h; exact .nil
  | n + 1, _ :: _, _, h => by
    cases h with
    | cons _ h2 => exact DenL.drop n h2
theorem DenL.dropLast {ds : List D} {vs : List V} (h : DenL K cl H vs ds) : DenL K cl H vs.dropLast ds.dropLast := by
  rw [List.dropLast_eq_take, List.dropLast_eq_take, h.length]
  exact h.take _
theorem DenL.eraseIdx : ∀ (n : Nat) {ds : List D} {vs : List V}, DenL K cl H vs ds → DenL K cl H (vs.eraseIdx n) (ds.eraseIdx n)
  | _, [], _, h => by cases h; exact .nil
  | 0, _ :: _, _, h => by
    cases h with
    | cons _ h2 => exact h2
  | n + 1, _ :: _, _, h => by
    cases h with
    | cons h1 h2 => exact .cons h1 (DenL.eraseIdx n h2)
theorem DenL.set : ∀ (n : Nat) {ds : List D} {vs : List V} {v : V} {d : D}, DenL K cl H vs ds → Den K cl H v d → DenL K cl H (vs.set n v) (ds.set n d)
  | _, [], _, _, _, h, _ => by cases h; exact .nil
  | 0, _ :: _, _, _, _, h, g => by
    cases h with
    | cons _ h2 => exact .cons g h2
  | n + 1, _ :: _, _, _, _, h, g => by
    cases h with
    | cons h1 h2 => exact .cons h1 (DenL.set n h2 g)
theorem DenL.reverse : ∀ {ds : List D} {vs : List V}, DenL K cl H vs ds → DenL K cl H vs.reverse ds.reverse
  | [], _, h => by cases h; exact .nil
  | _ :: _, _, h => by
    cases h with
    | cons h1 h2 =>
      rw [List.reverse_cons, List.reverse_cons]
      exact (DenL.reverse h2).append (.one h1)
theorem DenL.strs : ∀ {xs : List PySem.Str}, DenL K cl H (xs.map V.str) (xs.map D.str)
  | [] => .nil
  | x :: _ => .cons (.str x) DenL.strs
theorem DenL.ints : ∀ {xs : List Int}, DenL K cl H (xs.map V.int) (xs.map D.int)
  | [] => .nil
  | x :: _ => .cons (.int x) DenL.ints
theorem DenL.of_strs : ∀ {xs : List PySem.Str} {vs : List V}, DenL K cl H vs (xs.map D.str) → vs = xs.map V.str
  | [], _, h => by cases h; rfl
  | _ :: _, _, h => by
    cases h with
    | cons h1 h2 => cases h1; rw [DenL.of_strs h2]; rfl
theorem DenL.of_ints : ∀ {xs : List Int} {vs : List V}, DenL K cl H vs (xs.map D.int) → vs = xs.map V.int
  | [], _, h => by cases h; rfl
  | _ :: _, _, h => by
    cases h with
    | cons h1 h2 => cases h1; rw [DenL.of_ints h2]; rfl
theorem DenL.of_bls : ∀ {xs : List Bool} {vs : List V}, DenL K cl H vs (xs.map D.bl) → vs = xs.map V.bl
  | [], _, h => by cases h; rfl
  | _ :: _, _, h => by
    cases h with
    | cons h1 h2 => cases h1; rw [DenL.of_bls h2]; rfl
theorem DenK.keys : ∀ {ds : List (Key × D)} {vs : List (Key × V)}, DenK K cl H vs ds → vs.map (·.1) = ds.map (·.1)
  | [], _, h => by cases h; rfl
  | (_, _) :: _, _, h => by
    cases h with
    | cons _ h2 => simp [DenK.keys h2]
theorem DenK.length {ds : List (Key × D)} {vs : List (Key × V)} (h : DenK K cl H vs ds) : vs.length = ds.length := by
  have := congrArg List.length h.keys
  simpa using this
/-- a dict's look-up, store, on data -/
def getD (ds : List (Key × D)) (k : Key) : Option D := (ds.find? fun kv => decide (kv.1 = k)).map (·.2)
def putD (ds : List (Key × D)) (k : Key) (d : D) : List (Key × D) :=
  if ds.any fun kv => decide (kv.1 = k) then ds.map fun kv => if kv.1 = k then (kv.1, d) else kv else ds ++ [(k, d)]
theorem DenK.get : ∀ {ds : List (Key × D)} {vs : List (Key × V)} (k : Key), DenK K cl H vs ds →
    (∀ d, getD ds k = some d → ∃ v, valV vs k = some v ∧ Den K cl H v d) ∧ (getD ds k = none → valV vs k = none)
  | [], _, _, h => by
    cases h
    exact ⟨fun d e => by simp [getD] at e, fun _ => rfl⟩
  | (k1, d1) :: r, _, k, h => by
    cases h with
    | @cons _ v1 _ vs _ h1 h2 =>
      by_cases e : k1 = k
      · refine ⟨fun d q => ⟨v1, valV_pos (p := (k1, v1)) e, ?_⟩, fun q => ?_⟩
        · simp [getD, List.find?_cons, e] at q
          subst q; exact h1
        · simp [getD, List.find?_cons, e] at q
      · have g : getD ((k1, d1) :: r) k = getD r k := by simp [getD, List.find?_cons, e]
        have g2 : valV ((k1, v1) :: vs) k = valV vs k := valV_neg (p := (k1, v1)) e
        rw [g, g2]
        exact DenK.get k h2
theorem DenK.mapput : ∀ {ds : List (Key × D)} {vs : List (Key × V)} (k : Key) {v : V} {d : D}, DenK K cl H vs ds → Den K cl H v d →
    DenK K cl H (vs.map fun kv => if kv.1 = k then (kv.1, v) else kv) (ds.map fun kv => if kv.1 = k then (kv.1, d) else kv)
  | [], _, _, _, _, h, _ => by cases h; exact .nil
  | (k1, d1) :: r, _, k, v, d, h, g => by
    cases h with
    | @cons _ v1 _ vs _ h1 h2 =>
      rw [List.map_cons, List.map_cons]
      by_cases e : k1 = k
      · rw [if_pos e, if_pos e]; exact .cons g (DenK.mapput k h2 g)
      · rw [if_neg e, if_neg e]; exact .cons h1 (DenK.mapput k h2 g)
theorem DenK.snoc : ∀ {ds : List (Key × D)} {vs : List (Key × V)} (k : Key) {v : V} {d : D}, DenK K cl H vs ds → Den K cl H v d → DenK K cl H (vs ++ [(k, v)]) (ds ++ [(k, d)])
  | [], _, _, _, _, h, g => by cases h; exact .cons g .nil
  | (_, _) :: _, _, k, _, _, h, g => by
    cases h with
    | cons h1 h2 => exact .cons h1 (DenK.snoc k h2 g)
theorem any_keys {α β : Type} {l : List (Key × α)} {m : List (Key × β)} (h : l.map (·.1) = m.map (·.1)) (k : Key) : (l.any fun kv => decide (kv.1 = k)) = m.any fun kv => decide (kv.1 = k) := by
  have e1 : (l.any fun kv => decide (kv.1 = k)) = (l.map (·.1)).any fun x => decide (x = k) := by rw [List.any_map]; rfl
  have e2 : (m.any fun kv => decide (kv.1 = k)) = (m.map (·.1)).any fun x => decide (x = k) := by rw [List.any_map]; rfl
  rw [e1, e2, h]
theorem DenK.put {ds : List (Key × D)} {vs : List (Key × V)} (k : Key) {v : V} {d : D} (h : DenK K cl H vs ds) (g : Den K cl H v d) : DenK K cl H (putK vs k v) (putD ds k d) := by
  unfold putK putD
  rw [any_keys h.keys k]
  split
  · exact h.mapput k g
  · exact h.snoc k g
theorem DenK.drop : ∀ {ds : List (Key × D)} {vs : List (Key × V)} (k : Key), DenK K cl H vs ds → DenK K cl H (dropK vs k) (ds.filter fun kv => decide (kv.1 ≠ k))
  | [], _, _, h => by cases h; exact .nil
  | (k1, d1) :: r, _, k, h => by
    cases h with
    | @cons _ v1 _ vs _ h1 h2 =>
      unfold dropK
      rw [List.filter_cons, List.filter_cons]
      by_cases e : k1 = k
      · rw [if_neg (by simp [e]), if_neg (by simp [e])]; exact DenK.drop k h2
      · rw [if_pos (by simp [e]), if_pos (by simp [e])]; exact .cons h1 (DenK.drop k h2)
theorem DenF.lookup : ∀ {ds : List (PySem.Str × D)} {vs : List (PySem.Str × V)} {f : PySem.Str} {d : D}, DenF K cl H vs ds → ds.lookup f = some d → ∃ v, vs.lookup f = some v ∧ Den K cl H v d
  | [], _, _, _, h, e => by cases h; simp at e
  | (k1, d1) :: r, _, f, d, h, e => by
    cases h with
    | @cons _ v1 _ vs _ h1 h2 =>
      rw [List.lookup_cons] at e
      rw [List.lookup_cons]
      cases q : f == k1 with
      | true => rw [q] at e; simp at e; subst e; exact ⟨_, rfl, h1⟩
      | false => rw [q] at e; exact DenF.lookup h2 e
theorem DenF.no : ∀ {ds : List (PySem.Str × D)} {vs : List (PySem.Str × V)} {f : PySem.Str}, DenF K cl H vs ds → ds.lookup f = none → vs.lookup f = none
  | [], _, _, h, e => by cases h; rfl
  | (k1, d1) :: r, _, f, h, e => by
    cases h with
    | @cons _ v1 _ vs _ h1 h2 =>
      rw [List.lookup_cons] at e
      rw [List.lookup_cons]
      cases q : f == k1 with
      | true => rw [q] at e; simp at e
      | false => rw [q] at e; exact DenF.no h2 e
def putFD (f : PySem.Str) (v : D) : List (PySem.Str × D) → List (PySem.Str × D)
  | [] => [(f, v)]
  | (g, y) :: r => if g = f then (g, v) :: r else (g, y) :: putFD f v r
end
end DL
end

section
set_option Elab.async false
set_option linter.all false
set_option maxRecDepth 100000
set_option maxHeartbeats 2000000
namespace DL
open PySem PySem.Spec PyProof.Rows L2

/-! ## slots, states -/
/-- own: made here, changed here; brw: a caller's, changed here; lok: a caller's, read here -/
inductive Kd where
  | own | brw | lok
  deriving DecidableEq
/-- what a slot (a value) is: plain data that nobody changes any more, or a cell -/
inductive Sv where
  | dat (d : D)
  | cel (k : Kd) (d : D)
abbrev SE := List (Option Sv)

/-- a cell's content -/
inductive Cell (K : PySem.W.Frag) (cl : ClA) (Hf H : Hp) (p : Addr) : D → Prop
  | lst {vs : List V} {ds : List D} : H p = some (.lst vs) → DenL K cl Hf vs ds → Cell K cl Hf H p (.lst ds)
  | dic {kvs : List (Key × V)} {ds : List (Key × D)} : H p = some (.dK kvs) → DenK K cl Hf kvs ds → Cell K cl Hf H p (.dic ds)
  | obj {dx : Addr} {c : Nat} {fs : List (PySem.Str × V)} {ds : List (PySem.Str × D)} : H p = some (.ins (cl c) dx fs) → DenF K cl Hf fs ds → Cell K cl Hf H p (.obj c ds)
def SlotOk (K : PySem.W.Frag) (cl : ClA) (Hf H : Hp) (v : V) : Sv → Prop
  | .dat d => Den K cl Hf v d
  | .cel _ d => ∃ p, v = .ref p ∧ Hf p = none ∧ Cell K cl Hf H p d

section
variable {K : PySem.W.Frag} {cl : ClA} {Hf Hf' H H' : Hp} {p : Addr} {d : D} {v : V}
theorem Cell.there (c : Cell K cl Hf H p d) : ∃ o, H p = some o := by
  cases c with
  | lst h _ => exact ⟨_, h⟩
  | dic h _ => exact ⟨_, h⟩
  | obj h _ => exact ⟨_, h⟩
/-- the cell's object as it stands, more is known -/
theorem Cell.mono (c : Cell K cl Hf H p d) (l : Le Hf Hf') (e : ∀ o, H p = some o → H' p = some o) : Cell K cl Hf' H' p d := by
  cases c with
  | lst h g => exact .lst (e _ h) (g.mono l)
  | dic h g => exact .dic (e _ h) (g.mono l)
  | obj h g => exact .obj (e _ h) (g.mono l)
/-- a cell becomes plain data -/
theorem Cell.frozen (c : Cell K cl Hf H p d) (n : Hf p = none) : ∃ o, H p = some o ∧ Den K cl (upd Hf p o) (.ref p) d := by
  have l := fun o => Le.new (H := Hf) (a := p) (o := o) n
  cases c with
  | lst h g => exact ⟨_, h, .lst upd_same (g.mono (l _))⟩
  | dic h g => exact ⟨_, h, .dic (.inl upd_same) (g.mono (l _))⟩
  | obj h g => exact ⟨_, h, .obj upd_same (g.mono (l _))⟩
end

/-- the data Γ as the slots σ and the heap H bear it; Hf: what nobody changes any more -/
structure Rel (K : PySem.W.Frag) (cl : ClA) (Γ : SE) (Hf : Hp) (σ : L2.St) (H : Hp) : Prop where
  le : Le Hf H
  len : Γ.length = σ.length
  at_ : ∀ (i : Nat) (s : Sv), Γ[i]? = some (some s) → ∃ v, σ[i]? = some (some v) ∧ SlotOk K cl Hf H v s
  dis : ∀ (i j : Nat) (k k' : Kd) (d d' : D) (v : V), Γ[i]? = some (some (.cel k d)) → Γ[j]? = some (some (.cel k' d')) → σ[i]? = some (some v) → σ[j]? = some (some v) → i = j
/-- a cell of Γ stands at p -/
def IsCel (Γ : SE) (σ : L2.St) (p : Addr) : Prop := ∃ (i : Nat) (k : Kd) (d : D), Γ[i]? = some (some (.cel k d)) ∧ σ[i]? = some (some (.ref p))
/-- .. that may be changed -/
def IsOwn (Γ : SE) (σ : L2.St) (p : Addr) : Prop := ∃ (i : Nat) (k : Kd) (d : D), Γ[i]? = some (some (.cel k d)) ∧ k ≠ .lok ∧ σ[i]? = some (some (.ref p))
theorem IsOwn.cel {Γ : SE} {σ : L2.St} {p : Addr} (h : IsOwn Γ σ p) : IsCel Γ σ p := let ⟨i, k, d, a, _, b⟩ := h; ⟨i, k, d, a, b⟩

structure Step (K : PySem.W.Frag) (cl : ClA) (Γ : SE) (Hf : Hp) (σ : L2.St) (H : Hp) (Γ' : SE) (Hf' : Hp) (σ' : L2.St) (H' : Hp) : Prop where
  rel : Rel K cl Γ' Hf' σ' H'
  le : Le Hf Hf'
  fr : ∀ b o, H b = some o → ¬ IsOwn Γ σ b → H' b = some o
  av : ∀ b o, H b = some o → Hf b = none → ¬ IsOwn Γ σ b → Hf' b = none
  sub : ∀ p, IsOwn Γ' σ' p → IsOwn Γ σ p ∨ H p = none
  there : ∀ b, H b ≠ none → H' b ≠ none
  brw : ∀ (i : Nat) (k : Kd) (d : D), Γ[i]? = some (some (.cel k d)) → k ≠ .own → ∃ d', Γ'[i]? = some (some (.cel k d')) ∧ σ'[i]? = σ[i]? ∧ (k = .lok → d' = d)
  subc : ∀ p, IsCel Γ' σ' p → IsCel Γ σ p ∨ H p = none

section
variable {K : PySem.W.Frag} {cl : ClA} {Γ Γ1 Γ' : SE} {Hf Hf1 Hf' H H1 H' : Hp} {σ σ1 σ' : L2.St} {p : Addr} {d : D} {v : V} {s : Sv}
theorem Rel.lt (r : Rel K cl Γ Hf σ H) {p : Addr} (c : IsCel Γ σ p) : Hf p = none ∧ ∃ o, H p = some o := by
  obtain ⟨i, k, d, h1, h2⟩ := c
  obtain ⟨v, e, q, rfl, n, c⟩ := r.at_ i _ h1
  rw [h2] at e; cases e
  exact ⟨n, c.there⟩
theorem Rel.notOwn (r : Rel K cl Γ Hf σ H) {p : Addr} {o : HO} (h : Hf p = some o) : ¬ IsOwn Γ σ p := fun q => by
  rw [(r.lt q.cel).1] at h; cases h
theorem Step.refl (r : Rel K cl Γ Hf σ H) : Step K cl Γ Hf σ H Γ Hf σ H :=
  ⟨r, .refl _, fun _ _ h _ => h, fun _ _ _ h _ => h, fun _ h => .inl h, fun _ h => h, fun _ k d h _ => ⟨d, h, rfl, fun _ => rfl⟩, fun _ h => .inl h⟩
theorem Step.trans (a : Step K cl Γ Hf σ H Γ1 Hf1 σ1 H1) (b : Step K cl Γ1 Hf1 σ1 H1 Γ' Hf' σ' H') : Step K cl Γ Hf σ H Γ' Hf' σ' H' where
  rel := b.rel
  le := a.le.trans b.le
  fr := fun c o h n => b.fr c o (a.fr c o h n) fun q => by
    rcases a.sub c q with z | z
    · exact n z
    · rw [h] at z; cases z
  av := fun c o h m n => b.av c o (a.fr c o h n) (a.av c o h m n) fun q => by
    rcases a.sub c q with z | z
    · exact n z
    · rw [h] at z; cases z
  sub := fun q h => by
    rcases b.sub q h with z | z
    · exact a.sub q z
    · refine .inr ?_
      cases e : H q with
      | none => rfl
      | some o => exact absurd z (a.there q (by rw [e]; exact fun z => nomatch z))
  there := fun c h => b.there c (a.there c h)
  brw := fun i k d h n => by
    obtain ⟨d1, e1, e2, e3⟩ := a.brw i k d h n
    obtain ⟨d2, g1, g2, g3⟩ := b.brw i k d1 e1 n
    exact ⟨d2, g1, g2.trans e2, fun q => (g3 q).trans (e3 q)⟩
  subc := fun q h => by
    rcases b.subc q h with z | z
    · exact a.subc q z
    · refine .inr ?_
      cases e : H q with
      | none => rfl
      | some o => exact absurd z (a.there q (by rw [e]; exact fun z => nomatch z))
/-- a value that was just reckoned: plain data, or a cell that no slot holds -/
def TmpOk (K : PySem.W.Frag) (cl : ClA) (Γ : SE) (σ : L2.St) (H : Hp) (Γ' : SE) (Hf' : Hp) (σ' : L2.St) (H' : Hp) (v : V) : Sv → Prop
  | .dat d => Den K cl Hf' v d
  | .cel k d => k = .own ∧ ∃ p, v = .ref p ∧ Hf' p = none ∧ Cell K cl Hf' H' p d ∧ ¬ IsCel Γ' σ' p ∧ (IsOwn Γ σ p ∨ H p = none)

/-- more is frozen: an object that is no cell -/
theorem Rel.freeze (r : Rel K cl Γ Hf σ H) {p : Addr} {o : HO} (h : H p = some o) (n : Hf p = none) (c : ¬ IsCel Γ σ p) : Rel K cl Γ (upd Hf p o) σ H where
  le := fun a u e => by
    by_cases ha : a = p
    · subst ha; rw [upd_same] at e; cases e; exact .inl h
    · rw [upd_ne ha] at e; exact r.le a u e
  len := r.len
  at_ := fun i s hs => by
    obtain ⟨v, e, q⟩ := r.at_ i s hs
    refine ⟨v, e, ?_⟩
    cases s with
    | dat d => exact q.mono (.new n)
    | cel k d =>
      obtain ⟨b, rfl, n2, q⟩ := q
      have nb : b ≠ p := fun z => c ⟨i, k, d, hs, z ▸ e⟩
      exact ⟨b, rfl, by rw [upd_ne nb]; exact n2, q.mono (.new n) fun _ h => h⟩
  dis := r.dis
theorem Step.freeze (a : Step K cl Γ Hf σ H Γ' Hf' σ' H') {p : Addr} {o : HO} (h : H' p = some o) (n : Hf' p = none) (c : ¬ IsCel Γ' σ' p) (f : IsOwn Γ σ p ∨ H p = none) :
    Step K cl Γ Hf σ H Γ' (upd Hf' p o) σ' H' where
  rel := a.rel.freeze h n c
  le := a.le.trans (.new n)
  fr := a.fr
  av := fun b u hb m nb => by
    have hne : b ≠ p := fun z => by
      subst z
      rcases f with f | f
      · exact nb f
      · rw [hb] at f; cases f
    rw [upd_ne hne]
    exact a.av b u hb m nb
  sub := a.sub
  there := a.there
  brw := a.brw
  subc := a.subc
/-- a value as plain data -/
theorem TmpOk.dat (a : Step K cl Γ Hf σ H Γ' Hf' σ' H') {k : Kd} (t : TmpOk K cl Γ σ H Γ' Hf' σ' H' v (.cel k d)) :
    ∃ Hf2, Step K cl Γ Hf σ H Γ' Hf2 σ' H' ∧ Le Hf' Hf2 ∧ Den K cl Hf2 v d := by
  obtain ⟨_, p, rfl, n, c, nc, f⟩ := t
  obtain ⟨o, e, q⟩ := c.frozen n
  exact ⟨_, a.freeze e n nc f, .new n, q⟩
/-- a slot forgotten -/
theorem Rel.forget (r : Rel K cl Γ Hf σ H) (i : Nat) : Rel K cl (Γ.set i none) Hf σ H where
  le := r.le
  len := by rw [List.length_set]; exact r.len
  at_ := fun j s hs => by
    by_cases h : i = j
    · subst h
      by_cases hi : i < Γ.length
      · rw [List.getElem?_set_self hi] at hs; cases hs
      · rw [List.getElem?_eq_none (by simpa using hi)] at hs; cases hs
    · rw [List.getElem?_set_ne h] at hs; exact r.at_ j s hs
  dis := fun i1 j k k' d d' v h1 h2 e1 e2 => by
    have go : ∀ {j : Nat} {k : Kd} {d : D}, (Γ.set i none)[j]? = some (some (.cel k d)) → Γ[j]? = some (some (.cel k d)) := fun {j k d} hs => by
      by_cases h : i = j
      · subst h
        by_cases hi : i < Γ.length
        · rw [List.getElem?_set_self hi] at hs; cases hs
        · rw [List.getElem?_eq_none (by simpa using hi)] at hs; cases hs
      · rw [List.getElem?_set_ne h] at hs; exact hs
    exact r.dis i1 j k k' d d' v (go h1) (go h2) e1 e2
theorem get_forget {Γ : SE} {i j : Nat} {s : Sv} (hs : (Γ.set i none)[j]? = some (some s)) : Γ[j]? = some (some s) ∧ j ≠ i := by
  by_cases h : i = j
  · subst h
    by_cases hi : i < Γ.length
    · rw [List.getElem?_set_self hi] at hs; cases hs
    · rw [List.getElem?_eq_none (by simpa using hi)] at hs; cases hs
  · rw [List.getElem?_set_ne h] at hs; exact ⟨hs, Ne.symm h⟩
/-- an own slot's cell taken out of the slot -/
theorem Rel.moved (r : Rel K cl Γ Hf σ H) {i : Nat} (h : Γ[i]? = some (some (.cel .own d))) (e : σ[i]? = some (some v)) :
    Step K cl Γ Hf σ H (Γ.set i none) Hf σ H ∧ TmpOk K cl Γ σ H (Γ.set i none) Hf σ H v (.cel .own d) := by
  obtain ⟨v', e', p, ev, n, c⟩ := r.at_ i _ h
  rw [e] at e'; cases e'
  subst ev
  refine ⟨⟨r.forget i, .refl _, fun _ _ h _ => h, fun _ _ _ h _ => h, fun q ⟨j, k, d', g1, g2, g3⟩ => .inl ⟨j, k, d', (get_forget g1).1, g2, g3⟩, fun _ h => h, fun j k d' g nk => ?_, fun q ⟨j, k, d', g1, g2⟩ => .inl ⟨j, k, d', (get_forget g1).1, g2⟩⟩, rfl, p, rfl, n, c, ?_, .inl ⟨i, .own, d, h, (by decide), e⟩⟩
  · refine ⟨d', ?_, rfl, fun _ => rfl⟩
    by_cases hj : i = j
    · subst hj; rw [h] at g; cases g; exact absurd rfl nk
    · rw [List.getElem?_set_ne hj]; exact g
  · rintro ⟨j, k, d', g1, g2⟩
    obtain ⟨g1, g3⟩ := get_forget g1
    exact g3 (r.dis j i k .own d' d _ g1 h g2 e)
/-- a slot is stored -/
theorem Step.store (a : Step K cl Γ Hf σ H Γ' Hf' σ' H') (t : TmpOk K cl Γ σ H Γ' Hf' σ' H' v s) {i : Nat} (hi : i < Γ'.length) (hn : ∀ k d, Γ'[i]? = some (some (.cel k d)) → k = .own) :
    Step K cl Γ Hf σ H (Γ'.set i (some s)) Hf' (σ'.set i (some v)) H' := by
  have r := a.rel
  have hi' : i < σ'.length := by rw [← r.len]; exact hi
  have slot : SlotOk K cl Hf' H' v s := by
    cases s with
    | dat d => exact t
    | cel k d => obtain ⟨_, p, e, n, c, _⟩ := t; exact ⟨p, e, n, c⟩
  have old : ∀ {j : Nat} {k : Kd} {d : D} {w : V}, j ≠ i → (Γ'.set i (some s))[j]? = some (some (.cel k d)) → (σ'.set i (some v))[j]? = some (some w) → Γ'[j]? = some (some (.cel k d)) ∧ σ'[j]? = some (some w) := fun {j k d w} hj h1 h2 => by
    rw [List.getElem?_set_ne (Ne.symm hj)] at h1 h2; exact ⟨h1, h2⟩
  have new : ∀ {k : Kd} {d : D} {w : V}, (Γ'.set i (some s))[i]? = some (some (.cel k d)) → (σ'.set i (some v))[i]? = some (some w) → s = .cel k d ∧ w = v := fun {k d w} h1 h2 => by
    rw [List.getElem?_set_self hi] at h1; rw [List.getElem?_set_self hi'] at h2
    cases h1; cases h2; exact ⟨rfl, rfl⟩
  have clash : ∀ {j : Nat} {k k' : Kd} {d d' : D} {w : V}, j ≠ i → (Γ'.set i (some s))[i]? = some (some (.cel k d)) → (σ'.set i (some v))[i]? = some (some w) → (Γ'.set i (some s))[j]? = some (some (.cel k' d')) → (σ'.set i (some v))[j]? = some (some w) → False := fun {j k k' d d' w} hj h1 h2 h3 h4 => by
    obtain ⟨rfl, rfl⟩ := new h1 h2
    obtain ⟨_, p, e, n, c, nc, _⟩ := t
    obtain ⟨g1, g2⟩ := old hj h3 h4
    subst e
    exact nc ⟨j, k', d', g1, g2⟩
  refine ⟨⟨r.le, by rw [List.length_set, List.length_set]; exact r.len, fun j s2 hs => ?_, fun j1 j2 k k' d d' w h1 h2 e1 e2 => ?_⟩, a.le, a.fr, a.av, fun p ⟨j, k, d, h1, h2, h3⟩ => ?_, a.there, fun j k d h nk => ?_, fun p ⟨j, k, d, h1, h3⟩ => ?_⟩
  · by_cases hj : j = i
    · subst hj
      rw [List.getElem?_set_self hi] at hs; cases hs
      exact ⟨v, by rw [List.getElem?_set_self hi'], slot⟩
    · rw [List.getElem?_set_ne (Ne.symm hj)] at hs
      obtain ⟨w, e, q⟩ := r.at_ j s2 hs
      exact ⟨w, by rw [List.getElem?_set_ne (Ne.symm hj)]; exact e, q⟩
  · by_cases hj1 : j1 = i
    · by_cases hj2 : j2 = i
      · rw [hj1, hj2]
      · subst hj1; exact (clash hj2 h1 e1 h2 e2).elim
    · by_cases hj2 : j2 = i
      · subst hj2; exact (clash hj1 h2 e2 h1 e1).elim
      · obtain ⟨g1, g2⟩ := old hj1 h1 e1
        obtain ⟨g3, g4⟩ := old hj2 h2 e2
        exact r.dis j1 j2 k k' d d' w g1 g3 g2 g4
  · by_cases hj : j = i
    · subst hj
      obtain ⟨rfl, ev⟩ := new h1 h3
      obtain ⟨_, q, e, n, c, nc, f⟩ := t
      rw [← ev] at e; cases e
      exact f
    · obtain ⟨g1, g2⟩ := old hj h1 h3
      exact a.sub p ⟨j, k, d, g1, h2, g2⟩
  · obtain ⟨d', e1, e2, e3⟩ := a.brw j k d h nk
    have hj : j ≠ i := fun z => by subst z; exact nk (hn k d' e1)
    exact ⟨d', by rw [List.getElem?_set_ne (Ne.symm hj)]; exact e1, by rw [List.getElem?_set_ne (Ne.symm hj)]; exact e2, e3⟩
  · by_cases hj : j = i
    · subst hj
      obtain ⟨rfl, ev⟩ := new h1 h3
      obtain ⟨_, q, e, n, c, nc, f⟩ := t
      rw [← ev] at e; cases e
      exact f.imp (fun z => z.cel) id
    · obtain ⟨g1, g2⟩ := old hj h1 h3
      exact a.subc p ⟨j, k, d, g1, g2⟩
/-- a new object is laid, nothing else -/
theorem Rel.grown (r : Rel K cl Γ Hf σ H) {p : Addr} {o : HO} (n : H p = none) : Step K cl Γ Hf σ H Γ Hf σ (upd H p o) := by
  have same : ∀ b u, H b = some u → upd H p o b = some u := fun b u e => by rw [upd_ne (ne_of_none e n)]; exact e
  refine ⟨⟨r.le.trans (.new n), r.len, fun i s hs => ?_, r.dis⟩, .refl _, fun b u e _ => same b u e, fun _ _ _ h _ => h, fun _ h => .inl h, fun b hb => ?_, fun _ k d h _ => ⟨d, h, rfl, fun _ => rfl⟩, fun _ h => .inl h⟩
  · obtain ⟨v, e, q⟩ := r.at_ i s hs
    refine ⟨v, e, ?_⟩
    cases s with
    | dat d => exact q
    | cel k d => obtain ⟨b, rfl, n2, c⟩ := q; exact ⟨b, rfl, n2, c.mono (.refl _) fun u e => same b u e⟩
  · cases e : H b with
    | none => exact absurd e hb
    | some u => rw [same b u e]; exact fun z => nomatch z
/-- .. as a cell of one's own, that no slot holds yet -/
theorem Rel.newCell (r : Rel K cl Γ Hf σ H) {p : Addr} {o : HO} (n : H p = none) (c : Cell K cl Hf (upd H p o) p d) :
    Step K cl Γ Hf σ H Γ Hf σ (upd H p o) ∧ TmpOk K cl Γ σ H Γ Hf σ (upd H p o) (.ref p) (.cel .own d) :=
  ⟨r.grown n, rfl, p, rfl, r.le.no n, c, (fun q => by
    obtain ⟨_, o, e⟩ := r.lt q
    rw [n] at e; cases e), .inr n⟩
/-- .. as plain data -/
theorem Rel.newDat (r : Rel K cl Γ Hf σ H) {p : Addr} {o : HO} (n : H p = none) : Step K cl Γ Hf σ H Γ (upd Hf p o) σ (upd H p o) := by
  have nf := r.le.no n
  refine (r.grown n).freeze (o := o) upd_same nf (fun q => ?_) (.inr n)
  obtain ⟨_, o, e⟩ := r.lt q
  rw [n] at e; cases e
/-- an own cell is changed -/
theorem Rel.change (r : Rel K cl Γ Hf σ H) {i : Nat} {k : Kd} {d d' : D} {p : Addr} {o : HO} (h : Γ[i]? = some (some (.cel k d))) (e : σ[i]? = some (some (.ref p))) (hk : k ≠ .lok) (c : Cell K cl Hf (upd H p o) p d') :
    Step K cl Γ Hf σ H (Γ.set i (some (.cel k d'))) Hf σ (upd H p o) := by
  have hi : i < Γ.length := (List.getElem?_eq_some_iff.mp h).1
  have ho : IsOwn Γ σ p := ⟨i, k, d, h, hk, e⟩
  obtain ⟨nf, o0, ep⟩ := r.lt ho.cel
  have other : ∀ {j : Nat} {k2 : Kd} {d2 : D} {b : Addr}, j ≠ i → Γ[j]? = some (some (.cel k2 d2)) → σ[j]? = some (some (.ref b)) → b ≠ p := fun {j k2 d2 b} hj g1 g2 z => by
    subst z; exact hj (r.dis j i k2 k d2 d _ g1 h g2 e)
  have cel : ∀ {j : Nat} {k2 : Kd} {d2 : D}, (Γ.set i (some (.cel k d')))[j]? = some (some (.cel k2 d2)) → ∃ d3, Γ[j]? = some (some (.cel k2 d3)) := fun {j k2 d2} g => by
    by_cases hj : i = j
    · subst hj; rw [List.getElem?_set_self hi] at g; cases g; exact ⟨d, h⟩
    · rw [List.getElem?_set_ne hj] at g; exact ⟨d2, g⟩
  refine ⟨⟨fun a u ea => ?_, by rw [List.length_set]; exact r.len, fun j s hs => ?_, fun j1 j2 k1 k2 d1 d2 v h1 h2 e1 e2 => ?_⟩, .refl _, fun b u eb nb => ?_, fun _ _ _ q _ => q, fun q ⟨j, k2, d2, g1, g2, g3⟩ => ?_, fun b hb => ?_, fun j k2 d2 g nk => ?_, fun q ⟨j, k2, d2, g1, g3⟩ => ?_⟩
  · have : a ≠ p := fun z => by subst z; rw [nf] at ea; cases ea
    rw [upd_ne this]; exact r.le a u ea
  · by_cases hj : i = j
    · subst hj
      rw [List.getElem?_set_self hi] at hs; cases hs
      exact ⟨_, e, p, rfl, nf, c⟩
    · rw [List.getElem?_set_ne hj] at hs
      obtain ⟨v, ev, q⟩ := r.at_ j s hs
      refine ⟨v, ev, ?_⟩
      cases s with
      | dat d2 => exact q
      | cel k2 d2 =>
        obtain ⟨b, rfl, n2, c2⟩ := q
        have hb := other (Ne.symm hj) hs ev
        exact ⟨b, rfl, n2, c2.mono (.refl _) fun u eu => by rw [upd_ne hb]; exact eu⟩
  · obtain ⟨d3, g1⟩ := cel h1
    obtain ⟨d4, g2⟩ := cel h2
    exact r.dis j1 j2 k1 k2 d3 d4 v g1 g2 e1 e2
  · have : b ≠ p := fun z => by subst z; exact nb ho
    rw [upd_ne this]; exact eb
  · obtain ⟨d3, g⟩ := cel g1
    exact .inl ⟨j, k2, d3, g, g2, g3⟩
  · by_cases hbp : b = p
    · subst hbp; rw [upd_same]; exact fun z => nomatch z
    · rw [upd_ne hbp]; exact hb
  · by_cases hj : i = j
    · subst hj
      rw [h] at g; cases g
      exact ⟨d', by rw [List.getElem?_set_self hi], rfl, fun z => absurd z hk⟩
    · exact ⟨d2, by rw [List.getElem?_set_ne hj]; exact g, rfl, fun _ => rfl⟩
  · obtain ⟨d3, g⟩ := cel g1
    exact .inl ⟨j, k2, d3, g, g3⟩
end

/-! ## outcomes, judgements -/
inductive Res (α : Type) where
  | ok (a : α) (Γ : SE)
  | exc (c : Nat) (as : List (PySem.Str × D)) (Γ : SE)
  | bad
def Res.bnd {α β : Type} (r : Res α) (f : α → SE → Res β) : Res β := match r with
  | .ok a Γ => f a Γ
  | .exc c as Γ => .exc c as Γ
  | .bad => .bad
abbrev ME := SE → Res Sv
abbrev MD := SE → Res D
abbrev MT := SE → Res Bool
inductive RS where
  | nx (Γ : SE)
  | rt (s : Sv) (Γ : SE)
  | bk (Γ : SE)
  | ct (Γ : SE)
  | ex (c : Nat) (as : List (PySem.Str × D)) (Γ : SE)
  | bad
abbrev MS := SE → RS

/-- a raised exception's own dict -/
def ExcAt (K : PySem.W.Frag) (cl : ClA) (Hf H : Hp) (d : Addr) (as : List (PySem.Str × D)) : Prop := ∃ fs, H d = some (.xd fs) ∧ DenF K cl Hf fs as
/-- what an expression's outcome asks of those who wait for it -/
structure Wants (K : PySem.W.Frag) (cl : ClA) (Γ : SE) (Hf : Hp) (σ : L2.St) (H : Hp) {α υ : Type} (P : SE → Hp → Hp → α → υ → Prop) (E : Value → Option Addr → Hp → Prop) (r : Res α) (Q : υ → Hp → Prop) : Prop where
  rel : Rel K cl Γ Hf σ H
  ok : ∀ a Γ', r = .ok a Γ' → ∀ v Hf' H', Step K cl Γ Hf σ H Γ' Hf' σ H' → P Γ' Hf' H' a v → Q v H'
  exc : ∀ c as Γ', r = .exc c as Γ' → ∀ d Hf' H', Step K cl Γ Hf σ H Γ' Hf' σ H' → ExcAt K cl Hf' H' d as → E (.ref (cl c)) (some d) H'
  nb : r ≠ .bad
abbrev PSv (K : PySem.W.Frag) (cl : ClA) (Γ : SE) (σ : L2.St) (H : Hp) : SE → Hp → Hp → Sv → V → Prop := fun Γ' Hf' H' s v => TmpOk K cl Γ σ H Γ' Hf' σ H' v s
abbrev PD (K : PySem.W.Frag) (cl : ClA) : SE → Hp → Hp → D → V → Prop := fun _ Hf' _ d v => Den K cl Hf' v d
def WE (K : PySem.W.Frag) (cl : ClA) (te : TE) (W : WX) (m : ME) : Prop := ∀ Γ Hf σ H Q, Wants K cl Γ Hf σ H (PSv K cl Γ σ H) (fun c d H' => W c d σ H') (m Γ) Q → te σ H Q
def WD (K : PySem.W.Frag) (cl : ClA) (te : TE) (W : WX) (m : MD) : Prop := ∀ Γ Hf σ H Q, Wants K cl Γ Hf σ H (PD K cl) (fun c d H' => W c d σ H') (m Γ) Q → te σ H Q
structure WantsT (K : PySem.W.Frag) (cl : ClA) (Γ : SE) (Hf : Hp) (σ : L2.St) (H : Hp) {α : Type} (E : Value → Option Addr → Hp → Prop) (r : Res α) (Q : α → SE → Hp → Hp → Prop) : Prop where
  rel : Rel K cl Γ Hf σ H
  ok : ∀ a Γ', r = .ok a Γ' → ∀ Hf' H', Step K cl Γ Hf σ H Γ' Hf' σ H' → Q a Γ' Hf' H'
  exc : ∀ c as Γ', r = .exc c as Γ' → ∀ d Hf' H', Step K cl Γ Hf σ H Γ' Hf' σ H' → ExcAt K cl Hf' H' d as → E (.ref (cl c)) (some d) H'
  nb : r ≠ .bad
def WT (K : PySem.W.Frag) (cl : ClA) (tt : TT) (W : WX) (m : MT) : Prop := ∀ Γ Hf σ H (Q : Bool → Hp → Prop), WantsT K cl Γ Hf σ H (fun c d H' => W c d σ H') (m Γ) (fun b _ _ H' => Q b H') → tt σ H Q
structure WantsS (K : PySem.W.Frag) (cl : ClA) (Γ : SE) (Hf : Hp) (σ : L2.St) (H : Hp) (W : WX) (r : RS) (D : Ends) : Prop where
  rel : Rel K cl Γ Hf σ H
  nx : ∀ Γ', r = .nx Γ' → ∀ Hf' σ' H', Step K cl Γ Hf σ H Γ' Hf' σ' H' → D.nx σ' H'
  rt : ∀ s Γ', r = .rt s Γ' → ∀ v Hf' σ' H', Step K cl Γ Hf σ H Γ' Hf' σ' H' → TmpOk K cl Γ σ H Γ' Hf' σ' H' v s → D.rt v H'
  bk : ∀ Γ', r = .bk Γ' → ∀ Hf' σ' H', Step K cl Γ Hf σ H Γ' Hf' σ' H' → D.bk σ' H'
  ct : ∀ Γ', r = .ct Γ' → ∀ Hf' σ' H', Step K cl Γ Hf σ H Γ' Hf' σ' H' → D.ct σ' H'
  ex : ∀ c as Γ', r = .ex c as Γ' → ∀ d Hf' σ' H', Step K cl Γ Hf σ H Γ' Hf' σ' H' → ExcAt K cl Hf' H' d as → W (.ref (cl c)) (some d) σ' H'
  nb : r ≠ .bad
def WS (K : PySem.W.Frag) (cl : ClA) (ts : TS) (W : WX) (m : MS) : Prop := ∀ Γ Hf σ H D, WantsS K cl Γ Hf σ H W (m Γ) D → ts D σ H

structure DE (X : Cx) (cl : ClA) (W : WX) (e : Expr) (m : ME) : Prop where
  ex : ∃ te, PE X e te ∧ WE X.K cl te W m
structure DD (X : Cx) (cl : ClA) (W : WX) (e : Expr) (m : MD) : Prop where
  ex : ∃ te, PE X e te ∧ WD X.K cl te W m
structure DT (X : Cx) (cl : ClA) (W : WX) (e : Expr) (m : MT) : Prop where
  ex : ∃ tt, PT X e tt ∧ WT X.K cl tt W m
structure DS (X : Cx) (cl : ClA) (W : WX) (s : Stmt) (m : MS) : Prop where
  ex : ∃ ts, PS X s ts ∧ WS X.K cl ts W m
structure DSs (X : Cx) (cl : ClA) (W : WX) (s : List Stmt) (m : MS) : Prop where
  ex : ∃ ts, PSs X s ts ∧ WS X.K cl ts W m

/-- one thing behind another -/
theorem Wants.bind {K : PySem.W.Frag} {cl : ClA} {Γ : SE} {Hf : Hp} {σ : L2.St} {H : Hp} {α β υ υ' : Type} {P : SE → Hp → Hp → β → υ → Prop} {E : Value → Option Addr → Hp → Prop} {r : Res α} {f : α → SE → Res β} {Q : υ → Hp → Prop} {PA : SE → Hp → Hp → α → υ' → Prop} {Q' : υ' → Hp → Prop}
    (w : Wants K cl Γ Hf σ H P E (r.bnd f) Q) (h : ∀ a Γ', r = .ok a Γ' → ∀ v Hf' H', Step K cl Γ Hf σ H Γ' Hf' σ H' → PA Γ' Hf' H' a v → Q' v H') : Wants K cl Γ Hf σ H PA E r Q' where
  rel := w.rel
  ok := h
  exc := fun c as Γ' e => w.exc c as Γ' (by rw [e]; rfl)
  nb := fun e => w.nb (by rw [e]; rfl)
theorem WantsT.bind {K : PySem.W.Frag} {cl : ClA} {Γ : SE} {Hf : Hp} {σ : L2.St} {H : Hp} {α β υ' : Type} {E : Value → Option Addr → Hp → Prop} {r : Res α} {f : α → SE → Res β} {Q : β → SE → Hp → Hp → Prop} {PA : SE → Hp → Hp → α → υ' → Prop} {Q' : υ' → Hp → Prop}
    (w : WantsT K cl Γ Hf σ H E (r.bnd f) Q) (h : ∀ a Γ', r = .ok a Γ' → ∀ v Hf' H', Step K cl Γ Hf σ H Γ' Hf' σ H' → PA Γ' Hf' H' a v → Q' v H') : Wants K cl Γ Hf σ H PA E r Q' where
  rel := w.rel
  ok := h
  exc := fun c as Γ' e => w.exc c as Γ' (by rw [e]; rfl)
  nb := fun e => w.nb (by rw [e]; rfl)

section
variable {K : PySem.W.Frag} {cl : ClA} {Γ Γ1 Γ2 : SE} {Hf Hf1 Hf2 H H1 H2 : Hp} {σ σ1 σ2 : L2.St} {v : V} {s : Sv} {E : Value → Option Addr → Hp → Prop} {W : WX}
theorem TmpOk.back (a : Step K cl Γ Hf σ H Γ1 Hf1 σ1 H1) (t : TmpOk K cl Γ1 σ1 H1 Γ2 Hf2 σ2 H2 v s) : TmpOk K cl Γ σ H Γ2 Hf2 σ2 H2 v s := by
  cases s with
  | dat d => exact t
  | cel k d =>
    obtain ⟨e, p, ev, n, c, nc, f⟩ := t
    refine ⟨e, p, ev, n, c, nc, ?_⟩
    rcases f with f | f
    · exact a.sub p f
    · refine .inr ?_
      cases q : H p with
      | none => rfl
      | some o => exact absurd f (a.there p (by rw [q]; exact fun z => nomatch z))
/-- what is wanted behind the first of two things -/
theorem Wants.next {α : Type} {r : Res α} {f : α → SE → Res Sv} {Q : VK} {a : α} (w : Wants K cl Γ Hf σ H (PSv K cl Γ σ H) E (r.bnd f) Q) (e : r = .ok a Γ1) (st : Step K cl Γ Hf σ H Γ1 Hf1 σ H1) : Wants K cl Γ1 Hf1 σ H1 (PSv K cl Γ1 σ H1) E (f a Γ1) Q where
  rel := st.rel
  ok := fun b Γ2 q v Hf2 H2 st2 p => w.ok b Γ2 (by rw [e]; exact q) v Hf2 H2 (st.trans st2) (TmpOk.back st p)
  exc := fun c as Γ2 q d Hf2 H2 st2 x => w.exc c as Γ2 (by rw [e]; exact q) d Hf2 H2 (st.trans st2) x
  nb := fun q => w.nb (by rw [e]; exact q)
theorem Wants.nextD {α : Type} {r : Res α} {f : α → SE → Res D} {Q : VK} {a : α} (w : Wants K cl Γ Hf σ H (PD K cl) E (r.bnd f) Q) (e : r = .ok a Γ1) (st : Step K cl Γ Hf σ H Γ1 Hf1 σ H1) : Wants K cl Γ1 Hf1 σ H1 (PD K cl) E (f a Γ1) Q where
  rel := st.rel
  ok := fun b Γ2 q v Hf2 H2 st2 p => w.ok b Γ2 (by rw [e]; exact q) v Hf2 H2 (st.trans st2) p
  exc := fun c as Γ2 q d Hf2 H2 st2 x => w.exc c as Γ2 (by rw [e]; exact q) d Hf2 H2 (st.trans st2) x
  nb := fun q => w.nb (by rw [e]; exact q)
theorem WantsT.next {α β : Type} {r : Res α} {f : α → SE → Res β} {Q : β → SE → Hp → Hp → Prop} {a : α} (w : WantsT K cl Γ Hf σ H E (r.bnd f) Q) (e : r = .ok a Γ1) (st : Step K cl Γ Hf σ H Γ1 Hf1 σ H1) : WantsT K cl Γ1 Hf1 σ H1 E (f a Γ1) Q where
  rel := st.rel
  ok := fun b Γ2 q Hf2 H2 st2 => w.ok b Γ2 (by rw [e]; exact q) Hf2 H2 (st.trans st2)
  exc := fun c as Γ2 q d Hf2 H2 st2 x => w.exc c as Γ2 (by rw [e]; exact q) d Hf2 H2 (st.trans st2) x
  nb := fun q => w.nb (by rw [e]; exact q)
/-- .. where what is told speaks of the end alone -/
theorem Wants.nextE {α β υ : Type} {P : SE → Hp → Hp → β → υ → Prop} {r : Res α} {f : α → SE → Res β} {Q : υ → Hp → Prop} {a : α} (w : Wants K cl Γ Hf σ H P E (r.bnd f) Q) (e : r = .ok a Γ1) (st : Step K cl Γ Hf σ H Γ1 Hf1 σ H1) : Wants K cl Γ1 Hf1 σ H1 P E (f a Γ1) Q where
  rel := st.rel
  ok := fun b Γ2 q v Hf2 H2 st2 p => w.ok b Γ2 (by rw [e]; exact q) v Hf2 H2 (st.trans st2) p
  exc := fun c as Γ2 q d Hf2 H2 st2 x => w.exc c as Γ2 (by rw [e]; exact q) d Hf2 H2 (st.trans st2) x
  nb := fun q => w.nb (by rw [e]; exact q)
/-- a plain outcome -/
theorem Wants.done {α υ : Type} {v : υ} {P : SE → Hp → Hp → α → υ → Prop} {a : α} {Q : υ → Hp → Prop} (w : Wants K cl Γ Hf σ H P E (.ok a Γ) Q) (p : P Γ Hf H a v) : Q v H := w.ok a Γ rfl v Hf H (.refl w.rel) p
theorem Wants.end_ {α υ : Type} {v : υ} {P : SE → Hp → Hp → α → υ → Prop} {a : α} {Q : υ → Hp → Prop} (w : Wants K cl Γ Hf σ H P E (.ok a Γ1) Q) (st : Step K cl Γ Hf σ H Γ1 Hf1 σ H1) (p : P Γ1 Hf1 H1 a v) : Q v H1 := w.ok a Γ1 rfl v Hf1 H1 st p
end

/-! ## values as plain data -/
def toD : ME → MD := fun m Γ => (m Γ).bnd fun s Γ' => match s with
  | .dat d => .ok d Γ'
  | .cel _ d => .ok d Γ'
def ofD : MD → ME := fun m Γ => (m Γ).bnd fun d Γ' => .ok (.dat d) Γ'
theorem WE.toD {K : PySem.W.Frag} {cl : ClA} {te : TE} {W : WX} {m : ME} (h : WE K cl te W m) : WD K cl te W (toD m) := fun Γ Hf σ H Q w => by
  refine h Γ Hf σ H Q (w.bind fun s Γ' e v Hf' H' st p => ?_)
  cases s with
  | dat d => exact w.ok d Γ' (by show (m Γ).bnd _ = _; rw [e]; rfl) v Hf' H' st p
  | cel k d =>
    obtain ⟨Hf2, st2, _, q⟩ := TmpOk.dat st p
    exact w.ok d Γ' (by show (m Γ).bnd _ = _; rw [e]; rfl) v Hf2 H' st2 q
theorem WD.toE {K : PySem.W.Frag} {cl : ClA} {te : TE} {W : WX} {m : MD} (h : WD K cl te W m) : WE K cl te W (ofD m) := fun Γ Hf σ H Q w =>
  h Γ Hf σ H Q (w.bind fun d Γ' e v Hf' H' st p => w.ok (.dat d) Γ' (by show (m Γ).bnd _ = _; rw [e]; rfl) v Hf' H' st p)
theorem DE.toD {X : Cx} {cl : ClA} {W : WX} {e : Expr} {m : ME} (h : DE X cl W e m) : DD X cl W e (toD m) := let ⟨te, a, b⟩ := h.ex; ⟨te, a, b.toD⟩
theorem DD.toE {X : Cx} {cl : ClA} {W : WX} {e : Expr} {m : MD} (h : DD X cl W e m) : DE X cl W e (ofD m) := let ⟨te, a, b⟩ := h.ex; ⟨te, a, b.toE⟩
end DL
end

section
set_option Elab.async false
set_option linter.all false
set_option maxRecDepth 100000
set_option maxHeartbeats 2000000
namespace DL
open PySem PySem.Spec PyProof.Rows L2

/-! ## reading a value: plain data, or a cell as it stands -/
def Rdd (K : PySem.W.Frag) (cl : ClA) (Hf H : Hp) (v : V) (d : D) : Prop := Den K cl Hf v d ∨ ∃ p, v = .ref p ∧ Cell K cl Hf H p d
abbrev PR (K : PySem.W.Frag) (cl : ClA) : SE → Hp → Hp → D → V → Prop := fun _ Hf' H' d v => Rdd K cl Hf' H' v d
def WR (K : PySem.W.Frag) (cl : ClA) (te : TE) (W : WX) (m : MD) : Prop := ∀ Γ Hf σ H Q, Wants K cl Γ Hf σ H (PR K cl) (fun c d H' => W c d σ H') (m Γ) Q → te σ H Q
structure DR (X : Cx) (cl : ClA) (W : WX) (e : Expr) (m : MD) : Prop where
  ex : ∃ te, PE X e te ∧ WR X.K cl te W m
section
variable {K : PySem.W.Frag} {cl : ClA} {Hf H : Hp} {v : V} {W : WX} {te : TE}
theorem WD.toR {m : MD} (h : WD K cl te W m) : WR K cl te W m := fun Γ Hf σ H Q w => h Γ Hf σ H Q ⟨w.rel, fun d Γ' e v Hf' H' st p => w.ok d Γ' e v Hf' H' st (.inl p), w.exc, w.nb⟩
theorem Rdd.lst (h : Rdd K cl Hf H v (.lst ds)) (l : Le Hf H) : ∃ a vs, v = .ref a ∧ H a = some (.lst vs) ∧ DenL K cl Hf vs ds := by
  rcases h with h | ⟨p, rfl, c⟩
  · cases h with
    | lst h1 h2 => exact ⟨_, _, rfl, l.lst h1, h2⟩
  · cases c with
    | lst h1 h2 => exact ⟨_, _, rfl, h1, h2⟩
theorem Rdd.tup (h : Rdd K cl Hf H v (.tup ds)) (l : Le Hf H) : ∃ a vs, v = .ref a ∧ SqT K H a vs ∧ DenL K cl Hf vs ds := by
  rcases h with h | ⟨p, rfl, c⟩
  · cases h with
    | tup h1 h2 => exact ⟨_, _, rfl, l.sqt h1, h2⟩
  · cases c
theorem Rdd.dic (h : Rdd K cl Hf H v (.dic ds)) (l : Le Hf H) : ∃ a vs, v = .ref a ∧ Rd H a (.dK vs) ∧ DenK K cl Hf vs ds := by
  rcases h with h | ⟨p, rfl, c⟩
  · cases h with
    | dic h1 h2 => exact ⟨_, _, rfl, l.rdk h1, h2⟩
  · cases c with
    | dic h1 h2 => exact ⟨_, _, rfl, .inl h1, h2⟩
theorem Rdd.obj {c : Nat} (h : Rdd K cl Hf H v (.obj c ds)) (l : Le Hf H) : ∃ a dx fs, v = .ref a ∧ H a = some (.ins (cl c) dx fs) ∧ DenF K cl Hf fs ds := by
  rcases h with h | ⟨p, rfl, c⟩
  · cases h with
    | obj h1 h2 => exact ⟨_, _, _, rfl, l.ins h1, h2⟩
  · cases c with
    | obj h1 h2 => exact ⟨_, _, _, rfl, h1, h2⟩
theorem Rdd.scr {ns : List Int} (h : Rdd K cl Hf H v (.scr ns)) (l : Le Hf H) : ∃ a, v = .ref a ∧ SqL K H a (ns.map V.int) := by
  rcases h with h | ⟨p, rfl, c⟩
  · cases h with
    | scr h1 => exact ⟨_, rfl, l.sql h1⟩
  · cases c
theorem Rdd.int {i : Int} (h : Rdd K cl Hf H v (.int i)) : v = .int i := by
  rcases h with h | ⟨p, rfl, c⟩
  · cases h; rfl
  · cases c
theorem Rdd.str {x : PySem.Str} (h : Rdd K cl Hf H v (.str x)) : v = .str x := by
  rcases h with h | ⟨p, rfl, c⟩
  · cases h; rfl
  · cases c
theorem Rdd.bl {b : Bool} (h : Rdd K cl Hf H v (.bl b)) : v = .bl b := by
  rcases h with h | ⟨p, rfl, c⟩
  · cases h; rfl
  · cases c
theorem Rdd.non (h : Rdd K cl Hf H v .non) : v = .non := by
  rcases h with h | ⟨p, rfl, c⟩
  · cases h; rfl
  · cases c
end
theorem DD.toR {X : Cx} {cl : ClA} {W : WX} {e : Expr} {m : MD} (h : DD X cl W e m) : DR X cl W e m := let ⟨te, a, b⟩ := h.ex; ⟨te, a, b.toR⟩
theorem DE.toR {X : Cx} {cl : ClA} {W : WX} {e : Expr} {m : ME} (h : DE X cl W e m) : DR X cl W e (DL.toD m) := h.toD.toR

/-! ## constants, names -/
def mC (d : D) : MD := fun Γ => .ok d Γ
theorem wd_c {K : PySem.W.Frag} {cl : ClA} {W : WX} {v : V} {d : D} (h : ∀ H, Den K cl H v d) : WD K cl (tC v) W (mC d) := fun Γ Hf σ H Q w => w.done (h Hf)
section
variable {X : Cx} {cl : ClA} {W : WX}
theorem dd_int {i : Int} {j pos} : DD X cl W (.Constant (.int i) j pos) (mC (.int i)) := ⟨_, pe_int, wd_c fun _ => .int i⟩
theorem dd_bl {b : Bool} {j pos} : DD X cl W (.Constant (.bool b) j pos) (mC (.bl b)) := ⟨_, pe_bl, wd_c fun _ => .bl b⟩
theorem dd_non {j pos} : DD X cl W (.Constant .none j pos) (mC .non) := ⟨_, pe_non, wd_c fun _ => .non⟩
theorem dd_str {x : PySem.Str} {j pos} : DD X cl W (.Constant (.str x) j pos) (mC (.str x)) := ⟨_, pe_str, wd_c fun _ => .str x⟩
theorem dd_gint {x : PySem.Str} {i : Int} {pos : Pos} (hg : Gl X x) (hm : ∃ t, X.mg x = some (.int i t)) (hd : (x == ("__debug__" : PySem.Str)) = false := by decide) : DD X cl W (.Name x pos) (mC (.int i)) :=
  let ⟨t, e⟩ := hm; ⟨_, pe_glob (v := .int i) hg e ⟨t, rfl⟩ hd, wd_c fun _ => .int i⟩
theorem dd_gstr {x z : PySem.Str} {pos : Pos} (hg : Gl X x) (hm : ∃ t, X.mg x = some (.str z t)) (hd : (x == ("__debug__" : PySem.Str)) = false := by decide) : DD X cl W (.Name x pos) (mC (.str z)) :=
  let ⟨t, e⟩ := hm; ⟨_, pe_glob (v := .str z) hg e ⟨t, rfl⟩ hd, wd_c fun _ => .str z⟩
/-- a module's own object: d by what the written part tells -/
theorem dd_gobj {x : PySem.Str} {a : Addr} {d : D} {pos : Pos} (hg : Gl X x) (hm : X.mg x = some (.ref a)) (h : ∀ H, Den X.K cl H (.ref a) d) (hd : (x == ("__debug__" : PySem.Str)) = false := by decide) : DD X cl W (.Name x pos) (mC d) :=
  ⟨_, pe_glob (v := .ref a) hg hm rfl hd, wd_c h⟩
end
/-- a slot's content -/
def peek (Γ : SE) (i : Nat) : Option D := match Γ[i]? with
  | some (some (.dat d)) => some d
  | some (some (.cel _ d)) => some d
  | _ => none
def mPk (i : Nat) : MD := fun Γ => match peek Γ i with
  | some d => .ok d Γ
  | none => .bad
/-- a name whose value goes on: its cell is frozen -/
def mVar (i : Nat) : MD := fun Γ => match Γ[i]? with
  | some (some (.dat d)) => .ok d Γ
  | some (some (.cel .own d)) => .ok d (Γ.set i (some (.dat d)))
  | _ => .bad
/-- a name that is not used any more -/
def mMv (i : Nat) : ME := fun Γ => match Γ[i]? with
  | some (some (.dat d)) => .ok (.dat d) Γ
  | some (some (.cel .own d)) => .ok (.cel .own d) (Γ.set i none)
  | _ => .bad
section
variable {K : PySem.W.Frag} {cl : ClA} {Γ : SE} {Hf H : Hp} {σ : L2.St} {W : WX} {i : Nat} {d : D}
theorem Rel.peek (r : Rel K cl Γ Hf σ H) (h : peek Γ i = some d) : ∃ v, σ[i]? = some (some v) ∧ Rdd K cl Hf H v d := by
  unfold DL.peek at h
  split at h
  · next d' e =>
    cases h
    obtain ⟨v, e2, q⟩ := r.at_ i _ e
    exact ⟨v, e2, .inl q⟩
  · next k d' e =>
    cases h
    obtain ⟨v, e2, p, rfl, n, c⟩ := r.at_ i _ e
    exact ⟨_, e2, .inr ⟨p, rfl, c⟩⟩
  · cases h
theorem wr_pk : WR K cl (tVar i) W (mPk i) := fun Γ Hf σ H Q w => by
  have hb := w.nb
  cases e : DL.peek Γ i with
  | none => exact absurd (by unfold mPk; rw [e]) hb
  | some d =>
    obtain ⟨v, e2, q⟩ := w.rel.peek e
    exact ⟨v, e2, w.ok d Γ (by unfold mPk; rw [e]) v Hf H (.refl w.rel) q⟩
theorem wd_var : WD K cl (tVar i) W (mVar i) := fun Γ Hf σ H Q w => by
  have hb := w.nb
  unfold mVar at hb
  split at hb
  · next d e =>
    obtain ⟨v, e2, q⟩ := w.rel.at_ i _ e
    exact ⟨v, e2, w.ok d Γ (by unfold mVar; rw [e]) v Hf H (.refl w.rel) q⟩
  · next d e =>
    obtain ⟨v, e2, _⟩ := w.rel.at_ i _ e
    obtain ⟨st, t⟩ := w.rel.moved e e2
    obtain ⟨Hf2, st2, _, q⟩ := TmpOk.dat st t
    have hi : i < (Γ.set i none).length := by rw [List.length_set]; exact (List.getElem?_eq_some_iff.mp e).1
    have st3 := st2.store (s := .dat d) (v := v) (i := i) q hi fun k d' z => by
      rw [List.getElem?_set_self (by rw [List.length_set] at hi; exact hi)] at z; cases z
    have es : σ.set i (some v) = σ := by
      obtain ⟨h1, h2⟩ := List.getElem?_eq_some_iff.mp e2
      rw [← h2]; exact List.set_getElem_self h1
    rw [es, List.set_set] at st3
    exact ⟨v, e2, w.ok d _ (by unfold mVar; rw [e]) v Hf2 H st3 q⟩
  · exact absurd rfl hb
theorem we_mv : WE K cl (tVar i) W (mMv i) := fun Γ Hf σ H Q w => by
  have hb := w.nb
  unfold mMv at hb
  split at hb
  · next d e =>
    obtain ⟨v, e2, q⟩ := w.rel.at_ i _ e
    exact ⟨v, e2, w.ok (.dat d) Γ (by unfold mMv; rw [e]) v Hf H (.refl w.rel) q⟩
  · next d e =>
    obtain ⟨v, e2, _⟩ := w.rel.at_ i _ e
    obtain ⟨st, t⟩ := w.rel.moved e e2
    exact ⟨v, e2, w.ok _ _ (by unfold mMv; rw [e]) v Hf H st t⟩
  · exact absurd rfl hb
end
section
variable {X : Cx} {cl : ClA} {W : WX} {x : PySem.Str} {pos : Pos}
theorem dr_pk (i : Nat) (hN : X.N[i]? = some x := by rfl) (hv : Vis X.env.scope x := by first | exact Or.inl rfl | exact Or.inr (Or.inl rfl) | exact Or.inr (Or.inr rfl)) (hd : (x == ("__debug__" : PySem.Str)) = false := by decide) (hcd : (x == ("__classdict__" : PySem.Str)) = false := by decide) :
    DR X cl W (.Name x pos) (mPk i) := ⟨_, pe_var hN hv hd hcd, wr_pk⟩
theorem dd_var (i : Nat) (hN : X.N[i]? = some x := by rfl) (hv : Vis X.env.scope x := by first | exact Or.inl rfl | exact Or.inr (Or.inl rfl) | exact Or.inr (Or.inr rfl)) (hd : (x == ("__debug__" : PySem.Str)) = false := by decide) (hcd : (x == ("__classdict__" : PySem.Str)) = false := by decide) :
    DD X cl W (.Name x pos) (mVar i) := ⟨_, pe_var hN hv hd hcd, wd_var⟩
theorem de_mv (i : Nat) (hN : X.N[i]? = some x := by rfl) (hv : Vis X.env.scope x := by first | exact Or.inl rfl | exact Or.inr (Or.inl rfl) | exact Or.inr (Or.inr rfl)) (hd : (x == ("__debug__" : PySem.Str)) = false := by decide) (hcd : (x == ("__classdict__" : PySem.Str)) = false := by decide) :
    DE X cl W (.Name x pos) (mMv i) := ⟨_, pe_var hN hv hd hcd, we_mv⟩
end

/-! ## operators on values -/
/-- a two-place reading by data -/
def OpD (K : PySem.W.Frag) (cl : ClA) (r : R2) (f : D → D → Option Sv) : Prop := ∀ (Γ : SE) (Hf : Hp) (σ : L2.St) (H : Hp) (x y : V) (d e : D) (s : Sv) (Q : VK), Rel K cl Γ Hf σ H → f d e = some s → Den K cl Hf x d → Rdd K cl Hf H y e →
  (∀ v Hf' H', Step K cl Γ Hf σ H Γ Hf' σ H' → TmpOk K cl Γ σ H Γ Hf' σ H' v s → Q v H') → r x y H Q
def mBin (f : D → D → Option Sv) (ma mb : MD) : ME := fun Γ => (ma Γ).bnd fun a Γ1 => (mb Γ1).bnd fun b Γ2 => match f a b with
  | some s => .ok s Γ2
  | none => .bad
theorem Wants.opt {K : PySem.W.Frag} {cl : ClA} {Γ : SE} {Hf : Hp} {σ : L2.St} {H : Hp} {E : Value → Option Addr → Hp → Prop} {o : Option Sv} {Q : VK} (w : Wants K cl Γ Hf σ H (PSv K cl Γ σ H) E (match o with | some s => .ok s Γ | none => .bad) Q) :
    ∃ s, o = some s ∧ ∀ v Hf' H', Step K cl Γ Hf σ H Γ Hf' σ H' → TmpOk K cl Γ σ H Γ Hf' σ H' v s → Q v H' := by
  cases o with
  | none => exact absurd rfl w.nb
  | some s => exact ⟨s, rfl, fun v Hf' H' st t => w.ok s Γ rfl v Hf' H' st t⟩
theorem we_op {K : PySem.W.Frag} {cl : ClA} {W : WX} {r : R2} {f : D → D → Option Sv} {ta tb : TE} {ma mb : MD} (hr : OpD K cl r f) (ha : WD K cl ta W ma) (hb : WR K cl tb W mb) : WE K cl (tOp r ta tb) W (mBin f ma mb) := fun Γ Hf σ H Q w => by
  refine ha Γ Hf σ H _ (w.bind fun d Γ1 e1 x Hf1 H1 st1 p1 => ?_)
  have w1 := w.next e1 st1
  refine hb Γ1 Hf1 σ H1 _ (w1.bind fun e Γ2 e2 y Hf2 H2 st2 p2 => ?_)
  have w2 := w1.next e2 st2
  obtain ⟨s, es, k⟩ := w2.opt
  exact hr Γ2 Hf2 σ H2 x y d e s Q w2.rel es (p1.mono st2.le) p2 k
section
variable {X : Cx} {cl : ClA} {W : WX} {a b : Expr} {pos : Pos} {ma mb : MD}
theorem de_bin {op : Operator} {r : R2} {f : D → D → Option Sv} (ho : OpR X (binaryOp op) r) (hr : OpD X.K cl r f) (ha : DD X cl W a ma) (hb : DR X cl W b mb) : DE X cl W (.BinOp a op b pos) (mBin f ma mb) := by
  obtain ⟨ta, pa, wa⟩ := ha.ex
  obtain ⟨tb, pb, wb⟩ := hb.ex
  exact ⟨_, pe_op ho pa pb, we_op hr wa wb⟩
theorem de_cmp {op : CmpOp} {r : R2} {f : D → D → Option Sv} (ho : OpR X (compareOp op) r) (hr : OpD X.K cl r f) (ha : DD X cl W a ma) (hb : DR X cl W b mb) (hm : behindInMarks op b = false) : DE X cl W (.Compare a [op] [b] pos) (mBin f ma mb) := by
  obtain ⟨ta, pa, wa⟩ := ha.ex
  obtain ⟨tb, pb, wb⟩ := hb.ex
  exact ⟨_, pe_cmpR ho pa pb hm, we_op hr wa wb⟩
end
/-- results that need no heap -/
theorem OpD.flat {K : PySem.W.Frag} {cl : ClA} {r : R2} {f : D → D → Option Sv} (h : ∀ (Hf H : Hp) (x y : V) (d e : D) (s : Sv) (Q : VK), Le Hf H → f d e = some s → Den K cl Hf x d → Rdd K cl Hf H y e → (∃ v d', s = .dat d' ∧ (∀ H', Den K cl H' v d') ∧ (Q v H → r x y H Q))) : OpD K cl r f :=
  fun Γ Hf σ H x y d e s Q rel es hx hy k => by
    obtain ⟨v, d', rfl, hd, go⟩ := h Hf H x y d e s Q rel.le es hx hy
    exact go (k v Hf H (.refl rel) (hd Hf))
def dInt (f : Int → Int → Int) : D → D → Option Sv
  | .int i, .int j => some (.dat (.int (f i j)))
  | _, _ => none
theorem opD_int {K : PySem.W.Frag} {cl : ClA} {f : Int → Int → Int} : OpD K cl (rI0 fun i j => .int (f i j)) (dInt f) := .flat fun Hf H x y d e s Q _ es hx hy => by
  unfold dInt at es
  split at es
  · next i j =>
    cases es
    cases hx
    cases hy.int
    exact ⟨_, _, rfl, fun _ => .int _, fun q => ⟨i, j, rfl, rfl, q⟩⟩
  · cases es
/-- with a condition -/
def dIntC (C : Int → Int → Prop) [∀ i j, Decidable (C i j)] (f : Int → Int → Int) : D → D → Option Sv
  | .int i, .int j => if C i j then some (.dat (.int (f i j))) else none
  | _, _ => none
theorem opD_intC {K : PySem.W.Frag} {cl : ClA} {C : Int → Int → Prop} [∀ i j, Decidable (C i j)] {f : Int → Int → Int} : OpD K cl (rI C fun i j => .int (f i j)) (dIntC C f) := .flat fun Hf H x y d e s Q _ es hx hy => by
  unfold dIntC at es
  split at es
  · next i j =>
    split at es
    · next hc =>
      cases es
      cases hx
      cases hy.int
      exact ⟨_, _, rfl, fun _ => .int _, fun q => ⟨i, j, rfl, rfl, hc, q⟩⟩
    · cases es
  · cases es
def dIntB (f : Int → Int → Bool) : D → D → Option Sv
  | .int i, .int j => some (.dat (.bl (f i j)))
  | _, _ => none
theorem opD_intB {K : PySem.W.Frag} {cl : ClA} {f : Int → Int → Bool} : OpD K cl (rI0 fun i j => .bl (f i j)) (dIntB f) := .flat fun Hf H x y d e s Q _ es hx hy => by
  unfold dIntB at es
  split at es
  · next i j =>
    cases es
    cases hx
    cases hy.int
    exact ⟨_, _, rfl, fun _ => .bl _, fun q => ⟨i, j, rfl, rfl, q⟩⟩
  · cases es
/-- an operation that has two forms -/
theorem OpD.or {K : PySem.W.Frag} {cl : ClA} {r r' : R2} {f g : D → D → Option Sv} (h : OpD K cl r f) (h' : OpD K cl r' g) : OpD K cl (fun x y H Q => r x y H Q ∨ r' x y H Q) (fun d e => (f d e).or (g d e)) :=
  fun Γ Hf σ H x y d e s Q rel es hx hy k => by
    replace es : (f d e).or (g d e) = some s := es
    cases q : f d e with
    | some s' => rw [q] at es; cases es; exact .inl (h Γ Hf σ H x y d e _ Q rel q hx hy k)
    | none => rw [q] at es; exact .inr (h' Γ Hf σ H x y d e s Q rel (by simpa using es) hx hy k)

instance {i j : Int} : Decidable (CDiv i j) := inferInstanceAs (Decidable (_ ∧ _))
instance {i j : Int} : Decidable (CPow i j) := inferInstanceAs (Decidable (_ ∧ _))
instance {i j : Int} : Decidable (CMul i j) := inferInstanceAs (Decidable (_ ∨ _))
abbrev dAddI : D → D → Option Sv := dInt (· + ·)
abbrev dSub : D → D → Option Sv := dInt (· - ·)
abbrev dMul : D → D → Option Sv := dIntC CMul (· * ·)
abbrev dDiv : D → D → Option Sv := dIntC CDiv (· / ·)
abbrev dMod : D → D → Option Sv := dIntC (fun _ j => 0 < j) (· % ·)
abbrev dPow : D → D → Option Sv := dIntC CPow fun i j => i ^ j.toNat
def dAddS : D → D → Option Sv
  | .str x, .str y => if x.length + y.length ≤ sizeLine then some (.dat (.str (x ++ y))) else none
  | _, _ => none
def dCat : D → D → Option Sv
  | .lst xs, .lst ys => if xs.length + ys.length ≤ sizeLine then some (.cel .own (.lst (xs ++ ys))) else none
  | _, _ => none
section
variable {K : PySem.W.Frag} {cl : ClA}
theorem opD_addS : OpD K cl (fun x y H Q => ∃ i j, x = V.str i ∧ y = V.str j ∧ i.length + j.length ≤ sizeLine ∧ Q (.str (i ++ j)) H) dAddS := .flat fun Hf H x y d e s Q _ es hx hy => by
  unfold dAddS at es
  split at es
  · next i j =>
    split at es
    · next hc =>
      cases es
      cases hx
      cases hy.str
      exact ⟨_, _, rfl, fun _ => .str _, fun q => ⟨i, j, rfl, rfl, hc, q⟩⟩
    · cases es
  · cases es
theorem opD_cat : OpD K cl rCat dCat := fun Γ Hf σ H x y d e s Q rel es hx hy k => by
  unfold dCat at es
  split at es
  · next xs ys =>
    split at es
    · next hc =>
      cases es
      obtain ⟨a, vs, rfl, ha, hl⟩ := Rdd.lst (.inl hx) rel.le
      obtain ⟨b, ws, rfl, hb, hm⟩ := hy.lst rel.le
      refine ⟨a, b, vs, ws, rfl, rfl, ha, hb, by rw [hl.length, hm.length]; exact hc, fun p hp => ?_⟩
      obtain ⟨st, t⟩ := rel.newCell (o := .lst (vs ++ ws)) hp (.lst upd_same (hl.append hm))
      exact k _ _ _ st t
    · cases es
  · cases es
end
/-- + of ints, of texts, of lists -/
abbrev dAdd : D → D → Option Sv := fun d e => (dAddI d e).or ((dAddS d e).or (dCat d e))
section
variable {X : Cx} {cl : ClA} {W : WX} {a b : Expr} {pos : Pos} {ma mb : MD}
theorem de_add (ha : DD X cl W a ma) (hb : DR X cl W b mb) : DE X cl W (.BinOp a .Add b pos) (mBin dAdd ma mb) := de_bin (op_add.or (op_add_str.or op_cat)) (opD_int.or (opD_addS.or opD_cat)) ha hb
theorem de_sub (ha : DD X cl W a ma) (hb : DR X cl W b mb) : DE X cl W (.BinOp a .Sub b pos) (mBin dSub ma mb) := de_bin op_sub opD_int ha hb
theorem de_mul (ha : DD X cl W a ma) (hb : DR X cl W b mb) : DE X cl W (.BinOp a .Mult b pos) (mBin dMul ma mb) := de_bin op_mul opD_intC ha hb
theorem de_div (ha : DD X cl W a ma) (hb : DR X cl W b mb) : DE X cl W (.BinOp a .FloorDiv b pos) (mBin dDiv ma mb) := de_bin op_fdiv opD_intC ha hb
theorem de_mod (ha : DD X cl W a ma) (hb : DR X cl W b mb) : DE X cl W (.BinOp a .Mod b pos) (mBin dMod ma mb) := de_bin op_mod opD_intC ha hb
theorem de_pow (ha : DD X cl W a ma) (hb : DR X cl W b mb) : DE X cl W (.BinOp a .Pow b pos) (mBin dPow ma mb) := de_bin op_pow opD_intC ha hb
end

/-! ## data at any depth: ==, repr -/
mutual
def D.py : D → PyData
  | .non => .none
  | .bl b => .bool b
  | .int i => .int i
  | .str x => .str x
  | .lst xs => .list (D.pyL xs)
  | .tup xs => .tuple (D.pyL xs)
  | .dic kvs => .dict (D.pyK kvs)
  | .obj _ _ => .none
  | .scr ns => .list (ns.map PyData.int)
def D.pyL : List D → List PyData
  | [] => []
  | d :: r => d.py :: D.pyL r
def D.pyK : List (Key × D) → List (PyData × PyData)
  | [] => []
  | (.inl i, d) :: r => (.int i, d.py) :: D.pyK r
  | (.inr x, d) :: r => (.str x, d.py) :: D.pyK r
end
mutual
/-- no instance within -/
def D.plain : D → Bool
  | .obj _ _ => false
  | .scr _ => false
  | .lst xs => D.plainL xs
  | .tup xs => D.plainL xs
  | .dic kvs => D.plainK kvs
  | _ => true
def D.plainL : List D → Bool
  | [] => true
  | d :: r => d.plain && D.plainL r
def D.plainK : List (Key × D) → Bool
  | [] => true
  | (_, d) :: r => d.plain && D.plainK r
end
/-- what the written part holds of the interpreter's own table -/
def Sys (K : PySem.W.Frag) : Prop := ∃ o, K.lookup sysModules = some o
theorem RelV.refd {a : Addr} {u : Value} (r : RelV (.ref a) u) : u = Value.ref a := r
theorem Inv.sysNo {X : Cx} {pins : List (Addr × Obj)} {σ : L2.St} {H : Hp} {s : Shared} (I : Inv X pins σ H s) (sy : Sys X.K) : H sysModules = none := by
  obtain ⟨o, e⟩ := sy
  exact (I.bs _ o (I.mod.kin _ _ e)).2
theorem key_reads {P : Program} {w : World} {h : Heap} : ∀ {ds : List (Key × D)} {es : List DictEntry} {vs : List (Key × Value)}, vs.map (·.1) = ds.map (·.1) → PySem.Pairs (mixKind P w) es vs →
    ReadsAll h (es.map (·.key)) ((D.pyK ds).map (·.1)) []
  | [], _, _, e, p => by
    cases p with
    | nil => exact .nil
    | cons _ _ _ => cases e
  | (k, d) :: r, _, _, e, p => by
    cases p with
    | nil => cases e
    | @cons en kv es kvs h1 h2 h3 =>
      obtain ⟨k2, v2⟩ := kv
      rw [List.map_cons, List.map_cons] at e
      injection e with e1 e2
      have e1 : k2 = k := e1
      subst e1
      have ih := key_reads (h := h) e2 h3
      rcases keyIs_shape (k := k2) (v := en.key) h1 with ⟨i, t, ek, ev⟩ | ⟨x, t, ek, ev⟩
      · subst ek
        show ReadsAll h (en.key :: es.map (·.key)) (.int i :: (D.pyK r).map (·.1)) []
        rw [ev]
        exact ReadsAll.cons (as := []) (Reads.int i t) ih
      · subst ek
        show ReadsAll h (en.key :: es.map (·.key)) (.str x :: (D.pyK r).map (·.1)) []
        rw [ev]
        exact ReadsAll.cons (as := []) (Reads.str x t) ih
theorem pair_vals {P : Program} {w : World} : ∀ {vs : List (Key × V)} {us : List (Key × Value)} {es : List DictEntry}, KV vs us → PySem.Pairs (mixKind P w) es us → Vals (vs.map (·.2)) (es.map (·.val))
  | _, _, _, .nil, p => by cases p; exact .nil
  | _, _, _, .cons r t, p => by
    cases p with
    | cons h1 h2 h3 =>
      refine .cons ?_ (pair_vals t h3)
      exact (by rw [h2]; exact r.2 : RelV _ (DictEntry.val _))
section
variable {X : Cx} {cl : ClA} {pins : List (Addr × Obj)} {σ : L2.St} {H : Hp} {s : Shared}
mutual
theorem Den.reads (I : Inv X pins σ H s) (sy : Sys X.K) : ∀ (d : D) (v : V) (u : Value), Den X.K cl H v d → d.plain = true → RelV v u → ∃ as, Reads s.heap u d.py as ∧ sysModules ∉ as
  | .non, _, _, h, _, r => by cases h; cases r; exact ⟨_, Reads.none, List.not_mem_nil⟩
  | .bl b, _, _, h, _, r => by cases h; cases r; exact ⟨_, Reads.bool b, List.not_mem_nil⟩
  | .int i, _, _, h, _, r => by cases h; obtain ⟨t, rfl⟩ := r; exact ⟨_, Reads.int i t, List.not_mem_nil⟩
  | .str x, _, _, h, _, r => by cases h; obtain ⟨t, rfl⟩ := r; exact ⟨_, Reads.str x t, List.not_mem_nil⟩
  | .obj _ _, _, _, _, p, _ => by cases p
  | .scr _, _, _, _, p, _ => by cases p
  | .lst ds, _, _, h, p, r => by
    cases h with
    | @lst a vs _ h1 h2 =>
      cases RelV.refd r
      obtain ⟨its, rv, ⟨o, n, ho, hc, _, hd⟩, _⟩ := I.list (SqL.of h1)
      obtain ⟨as, q, na⟩ := DenL.reads I sy ds vs its h2 p rv
      refine ⟨_, Reads.list ho hc hd (by simpa using q), fun m => ?_⟩
      rcases List.mem_cons.mp m with m | m
      · rw [← m, Inv.sysNo I sy] at h1; cases h1
      · exact na m
  | .tup ds, _, _, h, p, r => by
    cases h with
    | @tup a vs _ h1 h2 =>
      cases RelV.refd r
      obtain ⟨its, rv, ⟨o, ho, hc, n, hd⟩, _⟩ := I.tuple h1
      obtain ⟨as, q, na⟩ := DenL.reads I sy ds vs its h2 p rv
      exact ⟨_, Reads.tuple ho hc hd (by simpa using q), na⟩
  | .dic ds, _, _, h, p, r => by
    cases h with
    | @dic a kvs _ h1 h2 =>
      cases RelV.refd r
      obtain ⟨_, hy, us, rv, o, es, ep, ho, hc, hd, _, hp, _⟩ := dk_rd I.hok h1
      obtain ⟨as, q, na⟩ := DenK.reads I sy ds kvs (es.toList.map (·.val)) h2 p (pair_vals rv hp)
      have kr := key_reads (h := s.heap) (ds := ds) (by rw [← rv.keys, h2.keys]) hp
      refine ⟨_, Reads.dict ho hc.1 hd kr q, fun m => ?_⟩
      rcases List.mem_cons.mp (show sysModules ∈ a :: as from m) with m | m
      · rw [← m] at hy; simp at hy
      · exact na m
theorem DenL.reads (I : Inv X pins σ H s) (sy : Sys X.K) : ∀ (ds : List D) (vs : List V) (us : List Value), DenL X.K cl H vs ds → D.plainL ds = true → Vals vs us → ∃ as, ReadsAll s.heap us (D.pyL ds) as ∧ sysModules ∉ as
  | [], _, _, h, _, r => by cases h; cases r; exact ⟨_, ReadsAll.nil, List.not_mem_nil⟩
  | d :: ds, _, _, h, p, r => by
    obtain ⟨p1, p2⟩ := Bool.and_eq_true_iff.mp (show (d.plain && D.plainL ds) = true from p)
    cases h with
    | cons h1 h2 =>
      cases r with
      | cons r1 r2 =>
        obtain ⟨as, q1, n1⟩ := Den.reads I sy d _ _ h1 p1 r1
        obtain ⟨bs, q2, n2⟩ := DenL.reads I sy ds _ _ h2 p2 r2
        exact ⟨_, ReadsAll.cons q1 q2, fun m => (List.mem_append.mp m).elim n1 n2⟩
theorem DenK.reads (I : Inv X pins σ H s) (sy : Sys X.K) : ∀ (ds : List (Key × D)) (vs : List (Key × V)) (us : List Value), DenK X.K cl H vs ds → D.plainK ds = true → Vals (vs.map (·.2)) us → ∃ as, ReadsAll s.heap us ((D.pyK ds).map (·.2)) as ∧ sysModules ∉ as
  | [], _, _, h, _, r => by cases h; cases r; exact ⟨_, ReadsAll.nil, List.not_mem_nil⟩
  | (k, d) :: ds, _, _, h, p, r => by
    obtain ⟨p1, p2⟩ := Bool.and_eq_true_iff.mp (show (d.plain && D.plainK ds) = true from p)
    cases h with
    | cons h1 h2 =>
      cases r with
      | cons r1 r2 =>
        obtain ⟨as, q1, n1⟩ := Den.reads I sy d _ _ h1 p1 r1
        obtain ⟨bs, q2, n2⟩ := DenK.reads I sy ds _ _ h2 p2 r2
        have e : (D.pyK ((k, d) :: ds)).map (·.2) = d.py :: (D.pyK ds).map (·.2) := by cases k <;> rfl
        rw [e]
        exact ⟨_, ReadsAll.cons q1 q2, fun m => (List.mem_append.mp m).elim n1 n2⟩
end
end
/-- .. of what is read -/
theorem Rdd.den {K : PySem.W.Frag} {cl : ClA} {Hf H : Hp} {v : V} {d : D} (h : Rdd K cl Hf H v d) (l : Le Hf H) : Den K cl H v d := by
  rcases h with h | ⟨p, rfl, c⟩
  · exact h.mono l
  · cases c with
    | lst h g => exact .lst h (g.mono l)
    | dic h g => exact .dic (.inl h) (g.mono l)
    | obj h g => exact .obj h (g.mono l)
/-! ### == -/
def dEqS : D → D → Option Bool
  | .str x, .str y => some (x == y)
  | _, _ => none
def dEqv (d e : D) : Option Bool := (dEqS d e).or <| if (d.plain && e.plain && SeqAt.shaped d.py && SeqAt.shaped e.py) then some (PyData.eqv d.py e.py) else none
def dEq : D → D → Option Sv := fun d e => (dEqv d e).map fun b => .dat (.bl b)
def dNe : D → D → Option Sv := fun d e => (dEqv d e).map fun b => .dat (.bl (!b))
def rEqW (K : PySem.W.Frag) (cl : ClA) (neg : Bool) : R2 := fun x y H Q => ∃ d e b, Den K cl H x d ∧ Den K cl H y e ∧ dEqv d e = some b ∧ Q (.bl (if neg then !b else b)) H
section
variable {X : Cx} {cl : ClA}
theorem dEqv_cases {d e : D} {b : Bool} (h : dEqv d e = some b) : (∃ x y, d = .str x ∧ e = .str y ∧ b = (x == y)) ∨ ((d.plain && e.plain && SeqAt.shaped d.py && SeqAt.shaped e.py) = true ∧ b = PyData.eqv d.py e.py) := by
  unfold dEqv at h
  cases q : dEqS d e with
  | some b' =>
    rw [q] at h
    unfold dEqS at q
    split at q
    · next x y => cases q; cases h; exact .inl ⟨x, y, rfl, rfl, rfl⟩
    · cases q
  | none =>
    rw [q] at h
    dsimp only [Option.or] at h
    split at h
    · next hc => cases h; exact .inr ⟨hc, rfl⟩
    · cases h
theorem op_eqW (sy : Sys X.K) (hu : X.A.units + 64 < cLine) : OpR X (compareOp .Eq) (rEqW X.K cl false) := by
  intro pins s σ H x y v u Q I rx ry h
  obtain ⟨d, e, b, hd, he, hb, q⟩ := h
  rcases dEqv_cases hb with ⟨x', y', rfl, rfl, rfl⟩ | ⟨hc, rfl⟩
  · cases hd
    cases he
    exact op_eq pins s σ H _ _ v u Q I rx ry ⟨rfl, by rw [dec_str]; exact q⟩
  · simp only [Bool.and_eq_true] at hc
    obtain ⟨⟨⟨p1, p2⟩, s1⟩, s2⟩ := hc
    obtain ⟨as, r1, _⟩ := Den.reads I sy d x v hd p1 rx
    obtain ⟨bs, r2, _⟩ := Den.reads I sy e y u he p2 ry
    exact SeqAt.compareEq_shaped r1 r2 s1 s2 hu ⟨.bl _, H, I, rfl, q⟩
theorem op_neW (sy : Sys X.K) (hu : X.A.units + 64 < cLine) : OpR X (compareOp .NotEq) (rEqW X.K cl true) := by
  intro pins s σ H x y v u Q I rx ry h
  obtain ⟨d, e, b, hd, he, hb, q⟩ := h
  rcases dEqv_cases hb with ⟨x', y', rfl, rfl, rfl⟩ | ⟨hc, rfl⟩
  · cases hd
    cases he
    exact op_ne pins s σ H _ _ v u Q I rx ry ⟨rfl, by rw [dec_str]; exact q⟩
  · simp only [Bool.and_eq_true] at hc
    obtain ⟨⟨⟨p1, p2⟩, s1⟩, s2⟩ := hc
    obtain ⟨as, r1, _⟩ := Den.reads I sy d x v hd p1 rx
    obtain ⟨bs, r2, _⟩ := Den.reads I sy e y u he p2 ry
    exact SeqAt.compareNe_shaped r1 r2 s1 s2 hu ⟨.bl _, H, I, rfl, q⟩
theorem opD_eqW {K : PySem.W.Frag} : OpD K cl (rEqW K cl false) dEq := fun Γ Hf σ H x y d e s Q rel es hx hy k => by
  cases q : dEqv d e with
  | none => unfold dEq at es; rw [q] at es; cases es
  | some b =>
    unfold dEq at es; rw [q] at es; cases es
    exact ⟨d, e, b, hx.mono rel.le, hy.den rel.le, q, k _ Hf H (.refl rel) (.bl _)⟩
theorem opD_neW {K : PySem.W.Frag} : OpD K cl (rEqW K cl true) dNe := fun Γ Hf σ H x y d e s Q rel es hx hy k => by
  cases q : dEqv d e with
  | none => unfold dNe at es; rw [q] at es; cases es
  | some b =>
    unfold dNe at es; rw [q] at es; cases es
    exact ⟨d, e, b, hx.mono rel.le, hy.den rel.le, q, k _ Hf H (.refl rel) (.bl _)⟩
end
section
variable {X : Cx} {cl : ClA} {W : WX} {a b : Expr} {pos : Pos} {ma mb : MD}
theorem de_eq (sy : Sys X.K) (hu : X.A.units + 64 < cLine) (ha : DD X cl W a ma) (hb : DR X cl W b mb) : DE X cl W (.Compare a [.Eq] [b] pos) (mBin dEq ma mb) := de_cmp (op_eqW sy hu) opD_eqW ha hb (nomark b)
theorem de_ne (sy : Sys X.K) (hu : X.A.units + 64 < cLine) (ha : DD X cl W a ma) (hb : DR X cl W b mb) : DE X cl W (.Compare a [.NotEq] [b] pos) (mBin dNe ma mb) := de_cmp (op_neW sy hu) opD_neW ha hb (nomark b)
end
def dLtS : D → D → Option Sv
  | .str x, .str y => some (.dat (.bl (decide (x.cps.toList < y.cps.toList))))
  | _, _ => none
theorem opD_ltS {K : PySem.W.Frag} {cl : ClA} : OpD K cl (fun x y H Q => ∃ i j, x = V.str i ∧ y = V.str j ∧ Q (.bl (decide (i.cps.toList < j.cps.toList))) H) dLtS := .flat fun Hf H x y d e s Q _ es hx hy => by
  unfold dLtS at es
  split at es
  · next i j =>
    cases es
    cases hx
    cases hy.str
    exact ⟨_, _, rfl, fun _ => .bl _, fun q => ⟨i, j, rfl, rfl, q⟩⟩
  · cases es
abbrev dLt : D → D → Option Sv := fun d e => (dIntB (fun i j => decide (i < j)) d e).or (dLtS d e)
abbrev dLe : D → D → Option Sv := dIntB (fun i j => decide (i ≤ j))
abbrev dGt : D → D → Option Sv := dIntB (fun i j => decide (j < i))
abbrev dGe : D → D → Option Sv := dIntB (fun i j => decide (j ≤ i))
def D.isN : D → Bool
  | .non => true
  | _ => false
def dIsN : D → D → Option Sv
  | d, .non => some (.dat (.bl d.isN))
  | _, _ => none
def dNotN : D → D → Option Sv
  | d, .non => some (.dat (.bl (!d.isN)))
  | _, _ => none
theorem Den.isN {K : PySem.W.Frag} {cl : ClA} {H : Hp} {v : V} {d : D} (h : Den K cl H v d) : decide (v = .non) = d.isN := by
  cases h <;> first | rfl | exact decide_eq_false (fun z => nomatch z)
section
variable {X : Cx} {cl : ClA} {W : WX} {a b : Expr} {pos : Pos} {ma mb : MD}
theorem de_lt (ha : DD X cl W a ma) (hb : DR X cl W b mb) : DE X cl W (.Compare a [.Lt] [b] pos) (mBin dLt ma mb) := de_cmp (op_lt.or op_lt_str) (opD_intB.or opD_ltS) ha hb (nomark b)
theorem de_le (ha : DD X cl W a ma) (hb : DR X cl W b mb) : DE X cl W (.Compare a [.LtE] [b] pos) (mBin dLe ma mb) := de_cmp op_le opD_intB ha hb (nomark b)
theorem de_gt (ha : DD X cl W a ma) (hb : DR X cl W b mb) : DE X cl W (.Compare a [.Gt] [b] pos) (mBin dGt ma mb) := de_cmp op_gt opD_intB ha hb (nomark b)
theorem de_ge (ha : DD X cl W a ma) (hb : DR X cl W b mb) : DE X cl W (.Compare a [.GtE] [b] pos) (mBin dGe ma mb) := de_cmp op_ge opD_intB ha hb (nomark b)
theorem de_isN (ha : DD X cl W a ma) (hb : DR X cl W b mb) : DE X cl W (.Compare a [.Is] [b] pos) (mBin dIsN ma mb) := de_cmp op_isN (fun Γ Hf σ H x y d e s Q rel es hx hy k => by
  unfold dIsN at es
  split at es
  · cases es
    cases hy.non
    refine ⟨rfl, ?_⟩
    rw [hx.isN]
    exact k _ Hf H (.refl rel) (.bl _)
  · cases es) ha hb (nomark b)
theorem de_notN (ha : DD X cl W a ma) (hb : DR X cl W b mb) : DE X cl W (.Compare a [.IsNot] [b] pos) (mBin dNotN ma mb) := de_cmp op_notN (fun Γ Hf σ H x y d e s Q rel es hx hy k => by
  unfold dNotN at es
  split at es
  · cases es
    cases hy.non
    refine ⟨rfl, ?_⟩
    rw [hx.isN]
    exact k _ Hf H (.refl rel) (.bl _)
  · cases es) ha hb (nomark b)
end
end DL
end

section
set_option Elab.async false
set_option linter.all false
set_option maxRecDepth 100000
set_option maxHeartbeats 2000000
namespace DL
open PySem PySem.Spec PyProof.Rows L2

/-! ## truth, tests -/
def truD : D → Option Bool
  | .non => some false
  | .bl b => some b
  | .int i => some (i != 0)
  | .str x => if x.length ≤ sizeLine then some ((x.length : Int) != 0) else none
  | .lst xs => some (!xs.isEmpty)
  | .tup xs => some (!xs.isEmpty)
  | _ => none
theorem DenL.isEmpty {K : PySem.W.Frag} {cl : ClA} {H : Hp} {vs : List V} {ds : List D} (h : DenL K cl H vs ds) : vs.isEmpty = ds.isEmpty := by
  cases h <;> rfl
theorem Rdd.truth {K : PySem.W.Frag} {cl : ClA} {Hf H : Hp} {v : V} {d : D} {k : Bool} (h : Rdd K cl Hf H v d) (l : Le Hf H) (e : truD d = some k) : TruV K v H k := by
  cases d with
  | non => cases h.non; cases e; rfl
  | bl b => cases h.bl; cases e; rfl
  | int i => cases h.int; cases e; rfl
  | str x =>
    cases h.str
    replace e : (if x.length ≤ sizeLine then some ((x.length : Int) != 0) else none) = some k := e
    split at e
    · next hc => cases e; exact ⟨hc, rfl⟩
    · cases e
  | lst xs =>
    cases e
    obtain ⟨a, vs, rfl, h1, h2⟩ := h.lst l
    exact .inl ⟨vs, SqL.of h1, by rw [h2.isEmpty]⟩
  | tup xs =>
    cases e
    obtain ⟨a, vs, rfl, h1, h2⟩ := h.tup l
    exact .inr (.inl ⟨vs, h1, by rw [h2.isEmpty]⟩)
  | _ => cases e
def mTru (m : MD) : MT := fun Γ => (m Γ).bnd fun d Γ1 => match truD d with
  | some b => .ok b Γ1
  | none => .bad
def mBl (m : MD) : MT := fun Γ => (m Γ).bnd fun d Γ1 => match d with
  | .bl b => .ok b Γ1
  | _ => .bad
section
variable {X : Cx} {cl : ClA} {W : WX} {e a b : Expr} {pos : Pos} {m ma mb : MD} {ta tb : MT}
theorem dt_tru (h : DR X cl W e m) (he : ∀ whole, isTrue e X.env whole = (do let v ← whole; standAt e.pos; holding [v] (truthy v)) := by intro _; rfl) : DT X cl W e (mTru m) := by
  obtain ⟨te, p, w⟩ := h.ex
  refine ⟨_, pt_truth p he, fun Γ Hf σ H Q wt => w Γ Hf σ H _ (wt.bind fun d Γ1 e1 v Hf1 H1 st p1 => ?_)⟩
  have w1 := wt.next e1 st
  cases q : truD d with
  | none => rw [q] at w1; exact absurd rfl w1.nb
  | some k => rw [q] at w1; exact ⟨k, p1.truth st.rel.le q, w1.ok k Γ1 rfl Hf1 H1 (.refl st.rel)⟩
/-- a test that is a comparison -/
theorem dt_val (h : DR X cl W e m) (he : ∀ whole, isTrue e X.env whole = (do let v ← whole; standAt e.pos; holding [v] (truthy v)) := by intro _; rfl) : DT X cl W e (mBl m) := by
  obtain ⟨te, p, w⟩ := h.ex
  refine ⟨_, pt_val p he, fun Γ Hf σ H Q wt => w Γ Hf σ H _ (wt.bind fun d Γ1 e1 v Hf1 H1 st p1 => ?_)⟩
  have w1 := wt.next e1 st
  cases d with
  | bl b => cases p1.bl; exact ⟨b, rfl, w1.ok b Γ1 rfl Hf1 H1 (.refl st.rel)⟩
  | _ => exact absurd rfl w1.nb
/-- and, or, not in tests -/
structure DW (X : Cx) (cl : ClA) (W : WX) (e : Expr) (m : MT) : Prop where
  ex : ∃ tt, PW X e tt ∧ WT X.K cl tt W m
theorem DW.dt (h : DW X cl W e ta) : DT X cl W e ta := let ⟨t, p, w⟩ := h.ex; ⟨t, p.pt, w⟩
def mAndT (ta tb : MT) : MT := fun Γ => (ta Γ).bnd fun a Γ1 => if a = true then tb Γ1 else .ok false Γ1
def mOrT (ta tb : MT) : MT := fun Γ => (ta Γ).bnd fun a Γ1 => if a = true then .ok true Γ1 else tb Γ1
def mNotT (ta : MT) : MT := fun Γ => (ta Γ).bnd fun a Γ1 => .ok (!a) Γ1
theorem WantsT.bindT {K : PySem.W.Frag} {cl : ClA} {Γ : SE} {Hf : Hp} {σ : L2.St} {H : Hp} {α β : Type} {E : Value → Option Addr → Hp → Prop} {r : Res α} {f : α → SE → Res β} {Q : β → SE → Hp → Hp → Prop} {Q' : α → SE → Hp → Hp → Prop}
    (w : WantsT K cl Γ Hf σ H E (r.bnd f) Q) (h : ∀ a Γ', r = .ok a Γ' → ∀ Hf' H', Step K cl Γ Hf σ H Γ' Hf' σ H' → Q' a Γ' Hf' H') : WantsT K cl Γ Hf σ H E r Q' where
  rel := w.rel
  ok := h
  exc := fun c as Γ' e => w.exc c as Γ' (by rw [e]; rfl)
  nb := fun e => w.nb (by rw [e]; rfl)
theorem Wants.bindT {K : PySem.W.Frag} {cl : ClA} {Γ : SE} {Hf : Hp} {σ : L2.St} {H : Hp} {α β : Type} {P : SE → Hp → Hp → β → V → Prop} {E : Value → Option Addr → Hp → Prop} {r : Res α} {f : α → SE → Res β} {Q : VK} {Q' : α → SE → Hp → Hp → Prop}
    (w : Wants K cl Γ Hf σ H P E (r.bnd f) Q) (h : ∀ a Γ', r = .ok a Γ' → ∀ Hf' H', Step K cl Γ Hf σ H Γ' Hf' σ H' → Q' a Γ' Hf' H') : WantsT K cl Γ Hf σ H E r Q' where
  rel := w.rel
  ok := h
  exc := fun c as Γ' e => w.exc c as Γ' (by rw [e]; rfl)
  nb := fun e => w.nb (by rw [e]; rfl)
theorem wt_exists {K : PySem.W.Frag} {tt : TT} {W : WX} {m : MT} (h : WT K cl tt W m) {Γ : SE} {Hf : Hp} {σ : L2.St} {H : Hp} {Q : Bool → Hp → Prop} (w : WantsT K cl Γ Hf σ H (fun c d H' => W c d σ H') (m Γ) (fun b _ _ H' => Q b H')) : tt σ H Q := h Γ Hf σ H Q w
theorem dw_and1 (ha : DT X cl W a ta) : DW X cl W (.BoolOp .And [a] pos) ta := let ⟨t, p, w⟩ := ha.ex; ⟨t, pw_and1 p, w⟩
theorem dw_or1 (ha : DT X cl W a ta) : DW X cl W (.BoolOp .Or [a] pos) ta := let ⟨t, p, w⟩ := ha.ex; ⟨t, pw_or1 p, w⟩
/-- a test's outcome is one: what is told of it by its data -/
theorem WT.run {K : PySem.W.Frag} {tt : TT} {W : WX} {m : MT} (h : WT K cl tt W m) {Γ : SE} {Hf : Hp} {σ : L2.St} {H : Hp} {Q : Bool → Hp → Prop} (rel : Rel K cl Γ Hf σ H) (nb : m Γ ≠ .bad)
    (ok : ∀ b Γ', m Γ = .ok b Γ' → ∀ Hf' H', Step K cl Γ Hf σ H Γ' Hf' σ H' → Q b H') (exc : ∀ c as Γ', m Γ = .exc c as Γ' → ∀ d Hf' H', Step K cl Γ Hf σ H Γ' Hf' σ H' → ExcAt K cl Hf' H' d as → W (.ref (cl c)) (some d) σ H') : tt σ H Q := h Γ Hf σ H Q ⟨rel, ok, exc, nb⟩
theorem dw_and {rest : List Expr} (ha : DT X cl W a ta) (hb : DW X cl W (.BoolOp .And (b :: rest) pos) tb) : DW X cl W (.BoolOp .And (a :: b :: rest) pos) (mAndT ta tb) := by
  obtain ⟨t, p, w⟩ := ha.ex
  obtain ⟨u, q, v⟩ := hb.ex
  refine ⟨_, pw_and p q, fun Γ Hf σ H Q wt => ?_⟩
  refine w.run wt.rel (fun e => wt.nb (by show (ta Γ).bnd _ = _; rw [e]; rfl)) (fun c Γ1 e1 Hf1 H1 st => ?_) fun c as Γ' e => wt.exc c as Γ' (by show (ta Γ).bnd _ = _; rw [e]; rfl)
  have w1 := wt.next e1 st
  cases c with
  | true => exact iteT (v Γ1 Hf1 σ H1 Q w1)
  | false => exact iteF (w1.ok false Γ1 rfl Hf1 H1 (.refl st.rel))
theorem dw_or {rest : List Expr} (ha : DT X cl W a ta) (hb : DW X cl W (.BoolOp .Or (b :: rest) pos) tb) : DW X cl W (.BoolOp .Or (a :: b :: rest) pos) (mOrT ta tb) := by
  obtain ⟨t, p, w⟩ := ha.ex
  obtain ⟨u, q, v⟩ := hb.ex
  refine ⟨_, pw_or p q, fun Γ Hf σ H Q wt => ?_⟩
  refine w.run wt.rel (fun e => wt.nb (by show (ta Γ).bnd _ = _; rw [e]; rfl)) (fun c Γ1 e1 Hf1 H1 st => ?_) fun c as Γ' e => wt.exc c as Γ' (by show (ta Γ).bnd _ = _; rw [e]; rfl)
  have w1 := wt.next e1 st
  cases c with
  | true => exact iteT (w1.ok true Γ1 rfl Hf1 H1 (.refl st.rel))
  | false => exact iteF (v Γ1 Hf1 σ H1 Q w1)
theorem dt_not (ha : DT X cl W a ta) : DT X cl W (.UnaryOp .Not a pos) (mNotT ta) := by
  obtain ⟨t, p, w⟩ := ha.ex
  refine ⟨_, pt_not p, fun Γ Hf σ H Q wt => ?_⟩
  refine w.run wt.rel (fun e => wt.nb (by show (ta Γ).bnd _ = _; rw [e]; rfl)) (fun c Γ1 e1 Hf1 H1 st => ?_) fun c as Γ' e => wt.exc c as Γ' (by show (ta Γ).bnd _ = _; rw [e]; rfl)
  exact (wt.next e1 st).ok _ Γ1 rfl Hf1 H1 (.refl st.rel)
/-- a if t else b -/
def mIf {α : Type} (t : MT) (ma mb : SE → Res α) : SE → Res α := fun Γ => (t Γ).bnd fun c Γ1 => if c = true then ma Γ1 else mb Γ1
theorem de_if {c : Expr} {ma mb : ME} (hc : DT X cl W c ta) (ha : DE X cl W a ma) (hb : DE X cl W b mb) : DE X cl W (.IfExp c a b pos) (mIf ta ma mb) := by
  obtain ⟨t, p, w⟩ := hc.ex
  obtain ⟨ua, qa, va⟩ := ha.ex
  obtain ⟨ub, qb, vb⟩ := hb.ex
  refine ⟨_, pe_ifExp p qa qb, fun Γ Hf σ H Q wt => ?_⟩
  refine w.run wt.rel (fun e => wt.nb (by show (ta Γ).bnd _ = _; rw [e]; rfl)) (fun c Γ1 e1 Hf1 H1 st => ?_) fun c as Γ' e => wt.exc c as Γ' (by show (ta Γ).bnd _ = _; rw [e]; rfl)
  have w1 := wt.next e1 st
  cases c with
  | true => exact iteT (va Γ1 Hf1 σ H1 Q w1)
  | false => exact iteF (vb Γ1 Hf1 σ H1 Q w1)
/-- and, or, not as values, by truth -/
def mAndV (ma mb : MD) : MD := fun Γ => (ma Γ).bnd fun a Γ1 => match truD a with
  | some true => mb Γ1
  | some false => .ok a Γ1
  | none => .bad
def mOrV (ma mb : MD) : MD := fun Γ => (ma Γ).bnd fun a Γ1 => match truD a with
  | some true => .ok a Γ1
  | some false => mb Γ1
  | none => .bad
def mNotV (ma : MD) : MD := fun Γ => (ma Γ).bnd fun a Γ1 => match truD a with
  | some b => .ok (.bl (!b)) Γ1
  | none => .bad
theorem dd_one {op} (h : DD X cl W a ma) : DD X cl W (.BoolOp op [a] pos) ma := let ⟨t, p, w⟩ := h.ex; ⟨t, pe_one p, w⟩
theorem dd_and {rest : List Expr} (ha : DD X cl W a ma) (hb : DD X cl W (.BoolOp .And (b :: rest) pos) mb) : DD X cl W (.BoolOp .And (a :: b :: rest) pos) (mAndV ma mb) := by
  obtain ⟨t, p, w⟩ := ha.ex
  obtain ⟨u, q, v⟩ := hb.ex
  refine ⟨_, pe_andT p q, fun Γ Hf σ H Q wt => w Γ Hf σ H _ (wt.bind fun d Γ1 e1 x Hf1 H1 st p1 => ?_)⟩
  have w1 := wt.nextD e1 st
  cases e : truD d with
  | none => rw [e] at w1; exact absurd rfl w1.nb
  | some k =>
    refine ⟨k, Rdd.truth (.inl p1) st.rel.le e, ?_⟩
    rw [e] at w1
    cases k with
    | true => exact iteT (v Γ1 Hf1 σ H1 Q w1)
    | false => exact iteF (w1.ok d Γ1 rfl x Hf1 H1 (.refl st.rel) p1)
theorem dd_or {rest : List Expr} (ha : DD X cl W a ma) (hb : DD X cl W (.BoolOp .Or (b :: rest) pos) mb) : DD X cl W (.BoolOp .Or (a :: b :: rest) pos) (mOrV ma mb) := by
  obtain ⟨t, p, w⟩ := ha.ex
  obtain ⟨u, q, v⟩ := hb.ex
  refine ⟨_, pe_orT p q, fun Γ Hf σ H Q wt => w Γ Hf σ H _ (wt.bind fun d Γ1 e1 x Hf1 H1 st p1 => ?_)⟩
  have w1 := wt.nextD e1 st
  cases e : truD d with
  | none => rw [e] at w1; exact absurd rfl w1.nb
  | some k =>
    refine ⟨k, Rdd.truth (.inl p1) st.rel.le e, ?_⟩
    rw [e] at w1
    cases k with
    | true => exact iteT (w1.ok d Γ1 rfl x Hf1 H1 (.refl st.rel) p1)
    | false => exact iteF (v Γ1 Hf1 σ H1 Q w1)
theorem dd_not (ha : DR X cl W a ma) : DD X cl W (.UnaryOp .Not a pos) (mNotV ma) := by
  obtain ⟨t, p, w⟩ := ha.ex
  refine ⟨_, pe_notT p, fun Γ Hf σ H Q wt => w Γ Hf σ H _ (wt.bind fun d Γ1 e1 x Hf1 H1 st p1 => ?_)⟩
  have w1 := wt.nextD e1 st
  cases e : truD d with
  | none => rw [e] at w1; exact absurd rfl w1.nb
  | some k =>
    rw [e] at w1
    exact ⟨k, p1.truth st.rel.le e, w1.ok _ Γ1 rfl _ Hf1 H1 (.refl st.rel) (.bl _)⟩
def mNeg (ma : MD) : MD := fun Γ => (ma Γ).bnd fun a Γ1 => match a with
  | .int i => .ok (.int (-i)) Γ1
  | _ => .bad
theorem dd_neg (ha : DR X cl W a ma) : DD X cl W (.UnaryOp .USub a pos) (mNeg ma) := by
  obtain ⟨t, p, w⟩ := ha.ex
  refine ⟨_, pe_un un_neg p, fun Γ Hf σ H Q wt => w Γ Hf σ H _ (wt.bind fun d Γ1 e1 x Hf1 H1 st p1 => ?_)⟩
  have w1 := wt.nextD e1 st
  cases d with
  | int i => cases p1.int; exact ⟨i, rfl, w1.ok _ Γ1 rfl _ Hf1 H1 (.refl st.rel) (.int _)⟩
  | _ => exact absurd rfl w1.nb
end

/-! ## in -/
def D.flat : D → Bool
  | .non => true
  | .bl _ => true
  | .int _ => true
  | .str _ => true
  | _ => false
def eqF : D → D → Bool
  | .non, .non => true
  | .bl a, .bl b => a == b
  | .bl a, .int b => (if a then 1 else 0) == b
  | .int a, .bl b => a == (if b then 1 else 0)
  | .int a, .int b => a == b
  | .str a, .str b => a == b
  | _, _ => false
theorem Den.flat {K : PySem.W.Frag} {cl : ClA} {H : Hp} {v : V} {d : D} (h : Den K cl H v d) (f : d.flat = true) : flatV v = true := by
  cases h <;> first | rfl | cases f
theorem Den.eqf {K : PySem.W.Frag} {cl : ClA} {H : Hp} {v w : V} {d e : D} (h : Den K cl H v d) (g : Den K cl H w e) (f : d.flat = true) (f2 : e.flat = true) : eqV v w = eqF d e := by
  cases h <;> first | exact (Bool.false_ne_true f).elim | (cases g <;> first | exact (Bool.false_ne_true f2).elim | rfl)
theorem DenL.flat {K : PySem.W.Frag} {cl : ClA} {H : Hp} : ∀ {ds : List D} {vs : List V}, DenL K cl H vs ds → ds.all D.flat = true → vs.all flatV = true
  | [], _, h, _ => by cases h; rfl
  | d :: ds, _, h, f => by
    cases h with
    | cons h1 h2 =>
      rw [List.all_cons, Bool.and_eq_true] at f ⊢
      exact ⟨h1.flat f.1, DenL.flat h2 f.2⟩
theorem DenL.inv {K : PySem.W.Frag} {cl : ClA} {H : Hp} {w : V} {e : D} (g : Den K cl H w e) (f2 : e.flat = true) : ∀ {ds : List D} {vs : List V}, DenL K cl H vs ds → ds.all D.flat = true → inV w vs = ds.any fun y => eqF y e
  | [], _, h, _ => by cases h; rfl
  | d :: ds, _, h, f => by
    cases h with
    | cons h1 h2 =>
      rw [List.all_cons, Bool.and_eq_true] at f
      show (eqV _ w || inV w _) = (eqF d e || ds.any fun y => eqF y e)
      rw [h1.eqf g f.1 f2, DenL.inv g f2 h2 f.2]
def keyOf : D → Option Key
  | .int i => some (.inl i)
  | .str x => some (.inr x)
  | _ => none
theorem Den.key {K : PySem.W.Frag} {cl : ClA} {H : Hp} {v : V} {d : D} {k : Key} (h : Den K cl H v d) (e : keyOf d = some k) : v = kV k := by
  cases h <;> first | (cases e; rfl) | cases e
def inD : D → D → Option Bool
  | x, .lst ys => if x.flat && ys.all D.flat then some (ys.any fun y => eqF y x) else none
  | x, .tup ys => if x.flat && ys.all D.flat then some (ys.any fun y => eqF y x) else none
  | x, .dic kvs => (keyOf x).map fun k => (getD kvs k).isSome
  | .str x, .str y => some (!(Builtin.Str.occurrences y x 0 y.length 1).isEmpty)
  | _, _ => none
def dIn : D → D → Option Sv := fun d e => (inD d e).map fun b => .dat (.bl b)
def dNotIn : D → D → Option Sv := fun d e => (inD d e).map fun b => .dat (.bl (!b))
def rInW (K : PySem.W.Frag) (neg : Bool) : R2 := fun x y H Q =>
  (∃ p xs, y = .ref p ∧ (SqL K H p xs ∨ SqT K H p xs) ∧ flatV x = true ∧ xs.all flatV = true ∧ Q (.bl (if neg then !inV x xs else inV x xs)) H) ∨
  ((∃ a kvs k, y = .ref a ∧ x = kV k ∧ Rd H a (.dK kvs) ∧ Q (.bl (if neg then !(valV kvs k).isSome else (valV kvs k).isSome)) H) ∨
  (∃ i j, x = .str i ∧ y = .str j ∧ Q (.bl (if neg then !(!(Builtin.Str.occurrences j i 0 j.length 1).isEmpty) else !(Builtin.Str.occurrences j i 0 j.length 1).isEmpty)) H))
section
variable {X : Cx} {cl : ClA} {K : PySem.W.Frag}
theorem op_inW (hu : X.A.units + 1 < cLine) : OpR X (compareOp .In) (rInW X.K false) := op_in_seq.or (OpR.or (fun pins s σ H x y v u Q I rx ry h => by
  obtain ⟨a, kvs, k, rfl, rfl, hr, q⟩ := h
  obtain rfl : u = Value.ref a := ry
  exact d_in (o := valV kvs k) hu I (.inl ⟨kvs, k, hr, rfl, rfl⟩) rx fun s' I' => ⟨.bl _, H, I', rfl, q⟩) op_in_str)
theorem op_notInW (hu : X.A.units + 1 < cLine) : OpR X (compareOp .NotIn) (rInW X.K true) := op_notIn_seq.or (OpR.or (fun pins s σ H x y v u Q I rx ry h => by
  obtain ⟨a, kvs, k, rfl, rfl, hr, q⟩ := h
  obtain rfl : u = Value.ref a := ry
  exact d_notIn (o := valV kvs k) hu I (.inl ⟨kvs, k, hr, rfl, rfl⟩) rx fun s' I' => ⟨.bl _, H, I', rfl, q⟩) op_notin_str)
theorem opD_inW {neg : Bool} : OpD K cl (rInW K neg) (fun d e => (inD d e).map fun b => .dat (.bl (if neg then !b else b))) := fun Γ Hf σ H x y d e s Q rel es hx hy k => by
  have fin : ∀ {b : Bool}, Q (.bl (if neg then !b else b)) H ↔ Q (.bl (if neg then !b else b)) H := Iff.rfl
  cases q : inD d e with
  | none => simp [q] at es
  | some b =>
    simp only [q, Option.map_some, Option.some.injEq] at es
    subst es
    have k2 : Q (.bl (if neg then !b else b)) H := k _ Hf H (.refl rel) (.bl _)
    unfold inD at q
    split at q
    · next x' ys =>
      split at q
      · next hc =>
        obtain ⟨c1, c2⟩ := Bool.and_eq_true_iff.mp hc
        cases q
        obtain ⟨a, vs, rfl, h1, h2⟩ := hy.lst rel.le
        exact .inl ⟨a, vs, rfl, .inl (SqL.of h1), hx.flat c1, h2.flat c2, by rw [DenL.inv hx c1 h2 c2]; exact k2⟩
      · cases q
    · next x' ys =>
      split at q
      · next hc =>
        obtain ⟨c1, c2⟩ := Bool.and_eq_true_iff.mp hc
        cases q
        obtain ⟨a, vs, rfl, h1, h2⟩ := hy.tup rel.le
        exact .inl ⟨a, vs, rfl, .inr h1, hx.flat c1, h2.flat c2, by rw [DenL.inv hx c1 h2 c2]; exact k2⟩
      · cases q
    · next x' kvs =>
      cases ek : keyOf d with
      | none => rw [ek] at q; cases q
      | some key =>
        rw [ek] at q; cases q
        obtain ⟨a, vs, rfl, h1, h2⟩ := hy.dic rel.le
        refine .inr (.inl ⟨a, vs, key, rfl, hx.key ek, h1, ?_⟩)
        have es : (valV vs key).isSome = (getD kvs key).isSome := by
          obtain ⟨g1, g2⟩ := h2.get key
          cases eg : getD kvs key with
          | none => rw [g2 eg]; rfl
          | some d' => obtain ⟨v', e', _⟩ := g1 d' eg; rw [e']; rfl
        rw [es]; exact k2
    · next i j =>
      cases q
      cases hx
      cases hy.str
      exact .inr (.inr ⟨i, j, rfl, rfl, k2⟩)
    · cases q
end
section
variable {X : Cx} {cl : ClA} {W : WX} {a b : Expr} {pos : Pos} {ma mb : MD}
theorem de_in (hu : X.A.units + 1 < cLine) (ha : DD X cl W a ma) (hb : DR X cl W b mb) (hm : behindInMarks .In b = false := by rfl) : DE X cl W (.Compare a [.In] [b] pos) (mBin dIn ma mb) := de_cmp (op_inW hu) (opD_inW (neg := false)) ha hb hm
theorem de_notIn (hu : X.A.units + 1 < cLine) (ha : DD X cl W a ma) (hb : DR X cl W b mb) (hm : behindInMarks .NotIn b = false := by rfl) : DE X cl W (.Compare a [.NotIn] [b] pos) (mBin dNotIn ma mb) := de_cmp (op_notInW hu) (opD_inW (neg := true)) ha hb hm
/-- a <= b <= c -/
def mChain (f g : D → D → Option Sv) (ma mb mc : MD) : ME := fun Γ => (ma Γ).bnd fun a Γ1 => (mb Γ1).bnd fun b Γ2 => match f a b with
  | some (.dat (.bl true)) => (mc Γ2).bnd fun c Γ3 => match g b c with
    | some s => .ok s Γ3
    | none => .bad
  | some (.dat (.bl false)) => .ok (.dat (.bl false)) Γ2
  | _ => .bad
theorem we_chainR {K : PySem.W.Frag} {ta tb tc : TE} {mc : MD} {r r' : R2} {f g : D → D → Option Sv} (hr : OpD K cl r f) (hr' : OpD K cl r' g) (wa : WD K cl ta W ma) (wb : WD K cl tb W mb) (wc : WR K cl tc W mc) : WE K cl (tChain r r' ta tb tc) W (mChain f g ma mb mc) := fun Γ Hf σ H Q w => by
  refine wa Γ Hf σ H _ (w.bind fun d Γ1 e1 x Hf1 H1 st1 p1 => ?_)
  have w1 := w.next e1 st1
  refine wb Γ1 Hf1 σ H1 _ (w1.bind fun e Γ2 e2 y Hf2 H2 st2 p2 => ?_)
  have w2 := w1.next e2 st2
  split at w2
  · next q =>
    refine hr Γ2 Hf2 σ H2 x y d e _ _ w2.rel q (p1.mono st2.le) (.inl p2) fun v Hf3 H3 st3 t3 => ?_
    cases (show Den K cl Hf3 v (.bl true) from t3)
    refine ⟨true, rfl, iteT ?_⟩
    have w3 : Wants K cl Γ2 Hf3 σ H3 (PSv K cl Γ2 σ H3) (fun c d H' => W c d σ H') ((mc Γ2).bnd fun c Γ3 => match g e c with | some s => .ok s Γ3 | none => .bad) Q :=
      ⟨st3.rel, fun s Γ' q v Hf' H' st t => w2.ok s Γ' q v Hf' H' (st3.trans st) (TmpOk.back st3 t), fun c as Γ' q d Hf' H' st => w2.exc c as Γ' q d Hf' H' (st3.trans st), w2.nb⟩
    refine wc Γ2 Hf3 σ H3 _ (w3.bind fun z Γ3 e3 v3 Hf4 H4 st4 p4 => ?_)
    have w4 := w3.next e3 st4
    obtain ⟨s, es, k⟩ := w4.opt
    exact hr' Γ3 Hf4 σ H4 y v3 e z s Q w4.rel es ((p2.mono st3.le).mono st4.le) p4 k
  · next q =>
    refine hr Γ2 Hf2 σ H2 x y d e _ _ w2.rel q (p1.mono st2.le) (.inl p2) fun v Hf3 H3 st3 t3 => ?_
    cases (show Den K cl Hf3 v (.bl false) from t3)
    exact ⟨false, rfl, iteF (w2.ok _ Γ2 rfl _ Hf3 H3 st3 (.bl false))⟩
  · exact absurd rfl w2.nb
theorem de_chain {c : Expr} {mc : MD} {op op' : CmpOp} {r r' : R2} {f g : D → D → Option Sv} (ho : OpR X (compareOp op) r) (ho' : OpR X (compareOp op') r') (hr : OpD X.K cl r f) (hr' : OpD X.K cl r' g) (ha : DD X cl W a ma) (hb : DD X cl W b mb) (hc : DR X cl W c mc)
    (hm : lastMarks [op, op'] [b, c] = false := by with_unfolding_all rfl) : DE X cl W (.Compare a [op, op'] [b, c] pos) (mChain f g ma mb mc) := by
  obtain ⟨ta, pa, wa⟩ := ha.ex
  obtain ⟨tb, pb, wb⟩ := hb.ex
  obtain ⟨tc, pc, wc⟩ := hc.ex
  exact ⟨_, pe_chain ho ho' pa pb pc hm, we_chainR hr hr' wa wb wc⟩
theorem we_chain {K : PySem.W.Frag} {ta tb tc : TE} {mc : MD} (wa : WD K cl ta W ma) (wb : WD K cl tb W mb) (wc : WR K cl tc W mc) : WE K cl (tChain (rI0 fun i j => .bl (decide (i ≤ j))) (rI0 fun i j => .bl (decide (i ≤ j))) ta tb tc) W (mChain dLe dLe ma mb mc) := we_chainR opD_intB opD_intB wa wb wc
theorem de_leLe {c : Expr} {mc : MD} (ha : DD X cl W a ma) (hb : DD X cl W b mb) (hc : DR X cl W c mc) (hm : lastMarks [.LtE, .LtE] [b, c] = false := by with_unfolding_all rfl) : DE X cl W (.Compare a [.LtE, .LtE] [b, c] pos) (mChain dLe dLe ma mb mc) := de_chain op_le op_le opD_intB opD_intB ha hb hc hm
end
end DL
end

section
set_option Elab.async false
set_option linter.all false
set_option maxRecDepth 100000
set_option maxHeartbeats 2000000
namespace DL
open PySem PySem.Spec PyProof.Rows L2

/-! ## subscripts -/
theorem PE.or {X : Cx} {e : Expr} {t t' : TE} (h : PE X e t) (h' : PE X e t') : PE X e (fun σ H Q => t σ H Q ∨ t' σ H Q) := ⟨fun pins s σ H Q I q => q.elim (h.run pins s σ H Q I) (h'.run pins s σ H Q I)⟩
theorem PS.or {X : Cx} {e : Stmt} {t t' : TS} (h : PS X e t) (h' : PS X e t') : PS X e (fun D σ H => t D σ H ∨ t' D σ H) := ⟨fun pins s σ H Q I q => q.elim (h.run pins s σ H Q I) (h'.run pins s σ H Q I)⟩
def ixD : D → D → Option D
  | .lst xs, .int i => atI xs i
  | .tup xs, .int i => atI xs i
  | .scr ns, .int i => (atI ns i).map D.int
  | .str x, .int i => if x.length ≤ sizeLine then (atI x.cps.toList i).map fun c => D.str ⟨#[c]⟩ else none
  | .dic kvs, k => (keyOf k).bind (getD kvs)
  | _, _ => none
theorem DenL.at {K : PySem.W.Frag} {cl : ClA} {H : Hp} {ds : List D} {vs : List V} {i : Int} {d : D} (h : DenL K cl H vs ds) (e : atI ds i = some d) : ∃ v, atI vs i = some v ∧ Den K cl H v d := by
  unfold atI at e ⊢
  rw [h.length]
  cases q : ixN ds.length i with
  | none => rw [q] at e; cases e
  | some j => rw [q] at e; exact h.get e
theorem atI_map {α β : Type} (f : α → β) (xs : List α) (i : Int) : atI (xs.map f) i = (atI xs i).map f := by
  unfold atI
  rw [List.length_map]
  cases ixN xs.length i with
  | none => rfl
  | some j => simp
def D.isDic : D → Bool
  | .dic _ => true
  | _ => false
/-- the value-level reading of a[b] where a is read at the end -/
theorem ix_run {K : PySem.W.Frag} {cl : ClA} {Hf H : Hp} {x y : V} {d e f : D} {Q : VK} (l : Le Hf H) (hx : Rdd K cl Hf H x d) (hy : Den K cl Hf y e) (q : ixD d e = some f) (k : ∀ v, Den K cl Hf v f → Q v H) :
    (d.isDic = false → rIx K x y H Q) ∧ (d.isDic = true → ∃ a v, x = .ref a ∧ DGet H a y (some v) ∧ Q v H) := by
  unfold ixD at q
  split at q
  · next xs i =>
    cases hy
    obtain ⟨a, vs, rfl, h1, h2⟩ := hx.lst l
    obtain ⟨v, e1, g⟩ := h2.at q
    exact ⟨fun _ => .inl ⟨a, vs, i, v, rfl, rfl, SqL.of h1, e1, k v g⟩, fun z => nomatch z⟩
  · next xs i =>
    cases hy
    obtain ⟨a, vs, rfl, h1, h2⟩ := hx.tup l
    obtain ⟨v, e1, g⟩ := h2.at q
    exact ⟨fun _ => .inr (.inl ⟨a, vs, i, v, rfl, rfl, h1, e1, k v g⟩), fun z => nomatch z⟩
  · next ns i =>
    cases hy
    obtain ⟨a, rfl, h1⟩ := hx.scr l
    obtain ⟨n, e1, rfl⟩ := Option.map_eq_some_iff.mp q
    exact ⟨fun _ => .inl ⟨a, ns.map V.int, i, .int n, rfl, rfl, h1, by rw [atI_map, e1]; rfl, k _ (.int n)⟩, fun z => nomatch z⟩
  · next z i =>
    split at q
    · next hc =>
      cases hy
      cases hx.str
      obtain ⟨c, e1, rfl⟩ := Option.map_eq_some_iff.mp q
      exact ⟨fun _ => .inr (.inr ⟨z, i, c, rfl, rfl, hc, e1, k _ (.str _)⟩), fun z => nomatch z⟩
    · cases q
  · next kvs =>
    cases ek : keyOf e with
    | none => rw [ek] at q; cases q
    | some key =>
      rw [ek] at q
      obtain ⟨a, vs, rfl, h1, h2⟩ := hx.dic l
      obtain ⟨v, e1, g⟩ := (h2.get key).1 f q
      exact ⟨(fun z => nomatch z), fun _ => ⟨a, v, rfl, .inl ⟨vs, key, h1, hy.key ek, e1.symm⟩, k v g⟩⟩
  · cases q
def mIx (ma mb : MD) : MD := fun Γ => (ma Γ).bnd fun a Γ1 => (mb Γ1).bnd fun b Γ2 => match ixD a b with
  | some d => .ok d Γ2
  | none => .bad
/-- a name subscripted: its content behind the index -/
def mIxN (i : Nat) (mb : MD) : MD := fun Γ => match peek Γ i with
  | none => .bad
  | some _ => (mb Γ).bnd fun b Γ1 => match (peek Γ1 i).bind fun a => ixD a b with
    | some d => .ok d Γ1
    | none => .bad
theorem Wants.optD {K : PySem.W.Frag} {cl : ClA} {Γ : SE} {Hf : Hp} {σ : L2.St} {H : Hp} {E : Value → Option Addr → Hp → Prop} {o : Option D} {Q : VK} (w : Wants K cl Γ Hf σ H (PD K cl) E (match o with | some d => .ok d Γ | none => .bad) Q) :
    ∃ d, o = some d ∧ ∀ v Hf' H', Step K cl Γ Hf σ H Γ Hf' σ H' → Den K cl Hf' v d → Q v H' := by
  cases o with
  | none => exact absurd rfl w.nb
  | some d => exact ⟨d, rfl, fun v Hf' H' st t => w.ok d Γ rfl v Hf' H' st t⟩
section
variable {X : Cx} {cl : ClA} {W : WX} {a b : Expr} {pos : Pos} {ma mb : MD}
theorem dd_ix (hu : X.A.units + 1 < cLine) (ha : DD X cl W a ma) (hb : DD X cl W b mb) (hs : PlainIx b := by exact fun _ _ => rfl) : DD X cl W (.Subscript a b pos) (mIx ma mb) := by
  obtain ⟨ta, pa, wa⟩ := ha.ex
  obtain ⟨tb, pb, wb⟩ := hb.ex
  refine ⟨_, PE.or (pe_ix ix_seq pa pb hs) (pe_dget hu pa pb hs), fun Γ Hf σ H Q w => ?_⟩
  cases hd : (match ma Γ with | .ok d _ => d.isDic | _ => false) with
  | true =>
    refine .inr (wa Γ Hf σ H _ (w.bind fun d Γ1 e1 x Hf1 H1 st1 p1 => ?_))
    have w1 := w.nextD e1 st1
    refine wb Γ1 Hf1 σ H1 _ (w1.bind fun e Γ2 e2 y Hf2 H2 st2 p2 => ?_)
    have w2 := w1.nextD e2 st2
    obtain ⟨f, q, k⟩ := w2.optD
    rw [e1] at hd
    exact (ix_run w2.rel.le (.inl (p1.mono st2.le)) p2 q (Q := Q) fun v g => k v Hf2 H2 (.refl w2.rel) g).2 hd
  | false =>
    refine .inl (wa Γ Hf σ H _ (w.bind fun d Γ1 e1 x Hf1 H1 st1 p1 => ?_))
    have w1 := w.nextD e1 st1
    refine wb Γ1 Hf1 σ H1 _ (w1.bind fun e Γ2 e2 y Hf2 H2 st2 p2 => ?_)
    have w2 := w1.nextD e2 st2
    obtain ⟨f, q, k⟩ := w2.optD
    rw [e1] at hd
    exact (ix_run w2.rel.le (.inl (p1.mono st2.le)) p2 q (Q := Q) fun v g => k v Hf2 H2 (.refl w2.rel) g).1 hd
theorem dd_ixN {x : PySem.Str} {p : Pos} (hu : X.A.units + 1 < cLine) (i : Nat) (hb : DD X cl W b mb) (hN : X.N[i]? = some x := by rfl) (hv : Vis X.env.scope x := by first | exact Or.inl rfl | exact Or.inr (Or.inl rfl) | exact Or.inr (Or.inr rfl))
    (hd : (x == ("__debug__" : PySem.Str)) = false := by decide) (hcd : (x == ("__classdict__" : PySem.Str)) = false := by decide) (hs : PlainIx b := by exact fun _ _ => rfl) : DD X cl W (.Subscript (.Name x p) b pos) (mIxN i mb) := by
  obtain ⟨tb, pb, wb⟩ := hb.ex
  have pa : PE X (.Name x p) (tVar i) := pe_var hN hv hd hcd
  refine ⟨_, PE.or (pe_ix ix_seq pa pb hs) (pe_dget hu pa pb hs), fun Γ Hf σ H Q w => ?_⟩
  unfold mIxN at w
  cases e0 : peek Γ i with
  | none => rw [e0] at w; exact absurd rfl w.nb
  | some d0 =>
    rw [e0] at w
    obtain ⟨v, ev, _⟩ := w.rel.peek e0
    cases hd : (match mb Γ with | .ok _ Γ1 => ((peek Γ1 i).map D.isDic).getD false | _ => false) with
    | true =>
      refine .inr ⟨v, ev, wb Γ Hf σ H _ (w.bind fun e Γ2 e2 y Hf2 H2 st2 p2 => ?_)⟩
      have w2 := w.nextD e2 st2
      obtain ⟨f, q, k⟩ := w2.optD
      simp only [e2] at hd
      cases ep : peek Γ2 i with
      | none => rw [ep] at q; cases q
      | some d =>
        rw [ep] at q hd
        obtain ⟨v', ev', r⟩ := w2.rel.peek ep
        rw [ev] at ev'; cases ev'
        exact (ix_run w2.rel.le r p2 q (Q := Q) fun v g => k v Hf2 H2 (.refl w2.rel) g).2 hd
    | false =>
      refine .inl ⟨v, ev, wb Γ Hf σ H _ (w.bind fun e Γ2 e2 y Hf2 H2 st2 p2 => ?_)⟩
      have w2 := w.nextD e2 st2
      obtain ⟨f, q, k⟩ := w2.optD
      simp only [e2] at hd
      cases ep : peek Γ2 i with
      | none => rw [ep] at q; cases q
      | some d =>
        rw [ep] at q hd
        obtain ⟨v', ev', r⟩ := w2.rel.peek ep
        rw [ev] at ev'; cases ev'
        exact (ix_run w2.rel.le r p2 q (Q := Q) fun v g => k v Hf2 H2 (.refl w2.rel) g).1 hd
end

/-! ## slices -/
abbrev MO := SE → Res (Option Int)
def WO (K : PySem.W.Frag) (cl : ClA) (to : TO) (W : WX) (m : MO) : Prop := ∀ Γ Hf σ H (Q : Option Int → Hp → Prop), WantsT K cl Γ Hf σ H (fun c d H' => W c d σ H') (m Γ) (fun b _ _ H' => Q b H') → to σ H Q
structure DO (X : Cx) (cl : ClA) (W : WX) (e : Option Expr) (m : MO) : Prop where
  ex : ∃ t, PO X e t ∧ WO X.K cl t W m
def mON : MO := fun Γ => .ok none Γ
def mOS (m : MD) : MO := fun Γ => (m Γ).bnd fun d Γ1 => match d with
  | .int i => .ok (some i) Γ1
  | _ => .bad
section
variable {X : Cx} {cl : ClA} {W : WX} {a b : Expr} {pos p2 : Pos} {ma mb m : MD} {lo hi : Option Expr} {ml mh : MO}
theorem do_none : DO X cl W none mON := ⟨_, po_none, fun Γ Hf σ H Q w => w.ok none Γ rfl Hf H (.refl w.rel)⟩
theorem do_some (h : DR X cl W a m) : DO X cl W (some a) (mOS m) := by
  obtain ⟨t, p, w⟩ := h.ex
  refine ⟨_, po_some p, fun Γ Hf σ H Q wt => w Γ Hf σ H _ (wt.bind fun d Γ1 e1 x Hf1 H1 st p1 => ?_)⟩
  have w1 := wt.next e1 st
  cases d with
  | int i => cases p1.int; exact ⟨i, rfl, w1.ok (some i) Γ1 rfl Hf1 H1 (.refl st.rel)⟩
  | _ => exact absurd rfl w1.nb
def cutL {α : Type} (xs : List α) (lo hi : Option Int) : List α := (xs.drop (HT.sIx xs.length 0 lo)).take (HT.sIx xs.length xs.length hi - HT.sIx xs.length 0 lo)
theorem DenL.cut {K : PySem.W.Frag} {H : Hp} {ds : List D} {vs : List V} (lo hi : Option Int) (h : DenL K cl H vs ds) : DenL K cl H (cutV vs lo hi) (cutL ds lo hi) := by
  unfold cutV cutL
  rw [h.length]
  exact (h.drop _).take _
def slD (d : D) (lo hi : Option Int) : Option Sv := match d with
  | .lst xs => some (.cel .own (.lst (cutL xs lo hi)))
  | .scr ns => some (.cel .own (.lst ((cutL ns lo hi).map D.int)))
  | .tup xs => some (.dat (.tup (cutL xs lo hi)))
  | .str x => if x.length ≤ sizeLine then some (.dat (.str (cutS x lo hi))) else none
  | _ => none
theorem cutL_map {α β : Type} (f : α → β) (xs : List α) (lo hi : Option Int) : cutL (xs.map f) lo hi = (cutL xs lo hi).map f := by
  unfold cutL
  rw [List.length_map, List.map_take, List.map_drop]
theorem cutL_whole {α : Type} (xs : List α) (lo hi : Option Int) (h : HT.sIx xs.length 0 lo = 0 ∧ HT.sIx xs.length xs.length hi = xs.length) : cutL xs lo hi = xs := by
  unfold cutL
  rw [h.1, h.2]; simp
abbrev rSlW (K : PySem.W.Frag) : V → Option Int → Option Int → Hp → VK → Prop := fun x lo hi H Q => rSlL K x lo hi H Q ∨ (rSlA K x lo hi H Q ∨ rSlS x lo hi H Q)
theorem sl_run {K : PySem.W.Frag} {Γ : SE} {Hf H : Hp} {σ : L2.St} {x : V} {d : D} {lo hi : Option Int} {s : Sv} {Q : VK} (rel : Rel K cl Γ Hf σ H) (hx : Rdd K cl Hf H x d) (q : slD d lo hi = some s)
    (k : ∀ v Hf' H', Step K cl Γ Hf σ H Γ Hf' σ H' → TmpOk K cl Γ σ H Γ Hf' σ H' v s → Q v H') : rSlW K x lo hi H Q := by
  unfold slD at q
  split at q
  · next xs =>
    cases q
    obtain ⟨a, vs, rfl, h1, h2⟩ := hx.lst rel.le
    refine .inl ⟨a, vs, rfl, SqL.of h1, fun p hp => ?_⟩
    obtain ⟨st, t⟩ := rel.newCell (o := .lst (cutV vs lo hi)) hp (.lst upd_same (h2.cut lo hi))
    exact k _ _ _ st t
  · next ns =>
    cases q
    obtain ⟨a, rfl, h1⟩ := hx.scr rel.le
    refine .inl ⟨a, _, rfl, h1, fun p hp => ?_⟩
    have e : cutV (ns.map V.int) lo hi = (cutL ns lo hi).map V.int := cutL_map V.int ns lo hi
    rw [e]
    obtain ⟨st, t⟩ := rel.newCell (o := .lst ((cutL ns lo hi).map V.int)) hp (.lst upd_same DenL.ints)
    exact k _ _ _ st t
  · next xs =>
    cases q
    obtain ⟨a, vs, rfl, h1, h2⟩ := hx.tup rel.le
    refine .inr (.inl ⟨a, vs, rfl, h1, fun hw => ?_, fun _ p hp => ?_⟩)
    · rw [h2.length] at hw
      rw [cutL_whole xs lo hi hw] at k
      rcases hx with hx | ⟨_, _, c⟩
      · exact k _ Hf H (.refl rel) hx
      · cases c
    · have st := rel.newDat (o := .tup (cutV vs lo hi)) hp
      exact k _ _ _ st (.tup (.inl (.inl upd_same)) ((h2.cut lo hi).mono (.new (rel.le.no hp))))
  · next z =>
    split at q
    · next hc => cases q; cases hx.str; exact .inr (.inr ⟨z, rfl, hc, k _ Hf H (.refl rel) (.str _)⟩)
    · cases q
  · cases q
def mSl (ma : MD) (ml mh : MO) : ME := fun Γ => (ma Γ).bnd fun d Γ1 => (ml Γ1).bnd fun lo Γ2 => (mh Γ2).bnd fun hi Γ3 => match slD d lo hi with
  | some s => .ok s Γ3
  | none => .bad
def mSlN (i : Nat) (ml mh : MO) : ME := fun Γ => match peek Γ i with
  | none => .bad
  | some _ => (ml Γ).bnd fun lo Γ2 => (mh Γ2).bnd fun hi Γ3 => match (peek Γ3 i).bind fun d => slD d lo hi with
    | some s => .ok s Γ3
    | none => .bad
theorem sl_any : SlR X (rSlW X.K) := sl_list.or (sl_tupA.or sl_str)
theorem de_sl (ha : DD X cl W a ma) (hl : DO X cl W lo ml) (hh : DO X cl W hi mh) : DE X cl W (.Subscript a (.Slice lo hi none p2) pos) (mSl ma ml mh) := by
  obtain ⟨ta, pa, wa⟩ := ha.ex
  obtain ⟨tl, pl, wl⟩ := hl.ex
  obtain ⟨th, ph, wh⟩ := hh.ex
  refine ⟨_, pe_slice sl_any pa pl ph, fun Γ Hf σ H Q w => wa Γ Hf σ H _ (w.bind fun d Γ1 e1 x Hf1 H1 st1 p1 => ?_)⟩
  have w1 := w.next e1 st1
  refine wl Γ1 Hf1 σ H1 _ (w1.bindT (Q' := fun l Γ2 Hf2 H2 => th σ H2 fun u H3 => rSlW X.K x l u H3 Q) fun l Γ2 e2 Hf2 H2 st2 => ?_)
  have w2 := w1.next e2 st2
  refine wh Γ2 Hf2 σ H2 _ (w2.bindT (Q' := fun u Γ3 Hf3 H3 => rSlW X.K x l u H3 Q) fun u Γ3 e3 Hf3 H3 st3 => ?_)
  have w3 := w2.next e3 st3
  obtain ⟨s, es, k⟩ := w3.opt
  exact sl_run w3.rel (.inl ((p1.mono st2.le).mono st3.le)) es k
theorem de_slN {x : PySem.Str} {p : Pos} (i : Nat) (hl : DO X cl W lo ml) (hh : DO X cl W hi mh) (hN : X.N[i]? = some x := by rfl) (hv : Vis X.env.scope x := by first | exact Or.inl rfl | exact Or.inr (Or.inl rfl) | exact Or.inr (Or.inr rfl))
    (hd : (x == ("__debug__" : PySem.Str)) = false := by decide) (hcd : (x == ("__classdict__" : PySem.Str)) = false := by decide) : DE X cl W (.Subscript (.Name x p) (.Slice lo hi none p2) pos) (mSlN i ml mh) := by
  obtain ⟨tl, pl, wl⟩ := hl.ex
  obtain ⟨th, ph, wh⟩ := hh.ex
  refine ⟨_, pe_slice sl_any (pe_var (i := i) hN hv hd hcd) pl ph, fun Γ Hf σ H Q w => ?_⟩
  unfold mSlN at w
  cases e0 : peek Γ i with
  | none => rw [e0] at w; exact absurd rfl w.nb
  | some d0 =>
    rw [e0] at w
    obtain ⟨v, ev, _⟩ := w.rel.peek e0
    refine ⟨v, ev, ?_⟩
    refine wl Γ Hf σ H _ (w.bindT (Q' := fun l Γ2 Hf2 H2 => th σ H2 fun u H3 => rSlW X.K v l u H3 Q) fun l Γ2 e2 Hf2 H2 st2 => ?_)
    have w2 := w.next e2 st2
    refine wh Γ2 Hf2 σ H2 _ (w2.bindT (Q' := fun u Γ3 Hf3 H3 => rSlW X.K v l u H3 Q) fun u Γ3 e3 Hf3 H3 st3 => ?_)
    have w3 := w2.next e3 st3
    obtain ⟨s, es, k⟩ := w3.opt
    cases ep : peek Γ3 i with
    | none => rw [ep] at es; cases es
    | some d =>
      rw [ep] at es
      obtain ⟨v', ev', r⟩ := w3.rel.peek ep
      rw [ev] at ev'; cases ev'
      exact sl_run w3.rel r es k
/-- xs[::-1] -/
def mRevL (ma : MD) : ME := fun Γ => (ma Γ).bnd fun d Γ1 => match d with
  | .lst xs => .ok (.cel .own (.lst xs.reverse)) Γ1
  | _ => .bad
theorem de_revL {k : Nat} {p1 p3 : Pos} (ha : DR X cl W a ma) : DE X cl W (.Subscript a (.Slice none none (some (.UnaryOp .USub (.Constant (.int 1) k p1) p2)) p3) pos) (mRevL ma) := by
  obtain ⟨ta, pa, wa⟩ := ha.ex
  refine ⟨_, pe_revL pa, fun Γ Hf σ H Q w => wa Γ Hf σ H _ (w.bind fun d Γ1 e1 x Hf1 H1 st1 p1 => ?_)⟩
  have w1 := w.next e1 st1
  cases d with
  | lst xs =>
    obtain ⟨a, vs, rfl, h1, h2⟩ := p1.lst st1.rel.le
    refine ⟨a, vs, rfl, SqL.of h1, fun p hp => ?_⟩
    obtain ⟨st, t⟩ := st1.rel.newCell (o := .lst vs.reverse) hp (.lst upd_same h2.reverse)
    exact w1.ok _ Γ1 rfl _ _ _ st t
  | _ => exact absurd rfl w1.nb
end
end DL
end

section
set_option Elab.async false
set_option linter.all false
set_option maxRecDepth 100000
set_option maxHeartbeats 2000000
namespace DL
open PySem PySem.Spec PyProof.Rows L2

/-! ## lists of arguments -/
abbrev MDs := SE → Res (List D)
abbrev PDs (K : PySem.W.Frag) (cl : ClA) : SE → Hp → Hp → List D → List V → Prop := fun _ Hf' _ ds vs => DenL K cl Hf' vs ds
def WDs (K : PySem.W.Frag) (cl : ClA) (ta : TA) (W : WX) (m : MDs) : Prop := ∀ Γ Hf σ H (Q : List V → Hp → Prop), Wants K cl Γ Hf σ H (PDs K cl) (fun c d H' => W c d σ H') (m Γ) Q → ta σ H Q
structure DAs (X : Cx) (cl : ClA) (W : WX) (es : List Expr) (m : MDs) : Prop where
  ex : ∃ ta, PA X es ta ∧ WDs X.K cl ta W m
def mNil : MDs := fun Γ => .ok [] Γ
def mCons (m : MD) (r : MDs) : MDs := fun Γ => (m Γ).bnd fun d Γ1 => (r Γ1).bnd fun ds Γ2 => .ok (d :: ds) Γ2
section
variable {X : Cx} {cl : ClA} {W : WX} {e : Expr} {es : List Expr} {pos : Pos} {m : MD} {r : MDs}
theorem das_nil : DAs X cl W [] mNil := ⟨_, pa_nil, fun Γ Hf σ H Q w => w.done .nil⟩
theorem das_cons (he : DD X cl W e m) (hr : DAs X cl W es r) (hs : starEach (e :: es) X.env = (false, eval e X.env) :: starEach es X.env := by rfl) : DAs X cl W (e :: es) (mCons m r) := by
  obtain ⟨te, pe, we⟩ := he.ex
  obtain ⟨ta, pa, wa⟩ := hr.ex
  refine ⟨_, pa_cons pe pa hs, fun Γ Hf σ H Q w => we Γ Hf σ H _ (w.bind fun d Γ1 e1 x Hf1 H1 st1 p1 => ?_)⟩
  have w1 := w.nextE e1 st1
  refine wa Γ1 Hf1 σ H1 _ (w1.bind fun ds Γ2 e2 xs Hf2 H2 st2 p2 => ?_)
  have w2 := w1.nextE e2 st2
  exact w2.ok _ Γ2 rfl _ Hf2 H2 (.refl w2.rel) (.cons (p1.mono st2.le) p2)

/-! ## displays -/
def mTup (r : MDs) : MD := fun Γ => (r Γ).bnd fun ds Γ1 => if ds.length ≤ sizeLine then .ok (.tup ds) Γ1 else .bad
def mLst (r : MDs) : ME := fun Γ => (r Γ).bnd fun ds Γ1 => if ds.length ≤ sizeLine then .ok (.cel .own (.lst ds)) Γ1 else .bad
theorem dd_tup {x1} (h : DAs X cl W es r) : DD X cl W (.Tuple es x1 pos) (mTup r) := by
  obtain ⟨ta, pa, wa⟩ := h.ex
  refine ⟨_, pe_tup pa, fun Γ Hf σ H Q w => wa Γ Hf σ H _ (w.bind fun ds Γ1 e1 xs Hf1 H1 st1 p1 => ?_)⟩
  have w1 := w.nextE e1 st1
  split at w1
  · next hc =>
    refine ⟨by rw [p1.length]; exact hc, fun p hp => ?_⟩
    have st := st1.rel.newDat (o := .tup xs) hp
    exact w1.ok _ Γ1 rfl _ _ _ st (.tup (.inl (.inl upd_same)) (p1.mono (.new (st1.rel.le.no hp))))
  · exact absurd rfl w1.nb
theorem de_lst (h : DAs X cl W es r) : DE X cl W (.List es pos) (mLst r) := by
  obtain ⟨ta, pa, wa⟩ := h.ex
  refine ⟨_, pe_lst pa, fun Γ Hf σ H Q w => wa Γ Hf σ H _ (w.bind fun ds Γ1 e1 xs Hf1 H1 st1 p1 => ?_)⟩
  have w1 := w.next e1 st1
  split at w1
  · next hc =>
    refine ⟨by rw [p1.length]; exact hc, fun p hp => ?_⟩
    obtain ⟨st, t⟩ := st1.rel.newCell (o := .lst xs) hp (.lst upd_same p1)
    exact w1.ok _ Γ1 rfl _ _ _ st t
  · exact absurd rfl w1.nb
def mDic0 : ME := fun Γ => .ok (.cel .own (.dic [])) Γ
theorem de_dic0 : DE X cl W (.Dict [] [] pos) mDic0 := ⟨_, pe_dnewK, fun Γ Hf σ H Q w p hp => by
  obtain ⟨st, t⟩ := w.rel.newCell (o := .dK []) hp (.dic upd_same .nil)
  exact w.ok _ Γ rfl _ _ _ st t⟩
end

/-! ## calls of built-ins, one argument that is read -/
/-- a call's reading by data -/
def Ca1 (K : PySem.W.Frag) (cl : ClA) (r : List V → Hp → VK → Prop) (f : D → Option Sv) : Prop := ∀ (Γ : SE) (Hf : Hp) (σ : L2.St) (H : Hp) (x : V) (d : D) (s : Sv) (Q : VK), Rel K cl Γ Hf σ H → f d = some s → Rdd K cl Hf H x d →
  (∀ v Hf' H', Step K cl Γ Hf σ H Γ Hf' σ H' → TmpOk K cl Γ σ H Γ Hf' σ H' v s → Q v H') → r [x] H Q
def mC1 (f : D → Option Sv) (m : MD) : ME := fun Γ => (m Γ).bnd fun d Γ1 => match f d with
  | some s => .ok s Γ1
  | none => .bad
section
variable {X : Cx} {cl : ClA} {W : WX} {e : Expr} {x : PySem.Str} {pos p : Pos} {m : MD} {r : List V → Hp → VK → Prop} {f : D → Option Sv} {id T : String}
theorem we_c1 {te : TE} (hr : Ca1 X.K cl r f) (we : WR X.K cl te W m) : WE X.K cl (tCB r (tCons te tNil)) W (mC1 f m) := fun Γ Hf σ H Q w => we Γ Hf σ H _ (w.bind fun d Γ1 e1 x Hf1 H1 st1 p1 => by
  have w1 := w.next e1 st1
  obtain ⟨s, es, k⟩ := w1.opt
  exact hr Γ1 Hf1 σ H1 x d s Q w1.rel es p1 k)
theorem de_b1 (hc : CallR X (.builtin id) r) (hr : Ca1 X.K cl r f) (he : DR X cl W e m) (hg : Gl X x) (hm : X.mg x = none) (hv : bootBuiltins x = some (.builtin id)) (hn : x ≠ "__name__" := by decide) (hdb : (x == ("__debug__" : PySem.Str)) = false := by decide)
    (hs : starEach [e] X.env = (false, eval e X.env) :: starEach [] X.env := by rfl) (hpl : (backTo pos (starEach [] X.env)).any (·.1) = false := by rfl) : DE X cl W (.Call (.Name x p) [e] [] pos) (mC1 f m) := by
  obtain ⟨te, pe, we⟩ := he.ex
  exact ⟨_, pe_callB hc hg hm hv (pa_cons pe pa_nil hs) hn hdb hs hpl, we_c1 hr we⟩
theorem de_t1 (hc : CallR X (.type T) r) (hr : Ca1 X.K cl r f) (he : DR X cl W e m) (hg : Gl X x) (hm : X.mg x = none) (hv : bootBuiltins x = some (.type T)) (hn : x ≠ "__name__" := by decide) (hdb : (x == ("__debug__" : PySem.Str)) = false := by decide)
    (hs : starEach [e] X.env = (false, eval e X.env) :: starEach [] X.env := by rfl) (hpl : (backTo pos (starEach [] X.env)).any (·.1) = false := by rfl) : DE X cl W (.Call (.Name x p) [e] [] pos) (mC1 f m) := by
  obtain ⟨te, pe, we⟩ := he.ex
  exact ⟨_, pe_callTy hc hg hm hv (pa_cons pe pa_nil hs) hn hdb hs hpl, we_c1 hr we⟩
end
theorem Ca1.or {K : PySem.W.Frag} {cl : ClA} {r r' : List V → Hp → VK → Prop} {f g : D → Option Sv} (h : Ca1 K cl r f) (h' : Ca1 K cl r' g) : Ca1 K cl (fun xs H Q => r xs H Q ∨ r' xs H Q) (fun d => (f d).or (g d)) :=
  fun Γ Hf σ H x d s Q rel es hx k => by
    replace es : (f d).or (g d) = some s := es
    cases q : f d with
    | some s' => rw [q] at es; cases es; exact .inl (h Γ Hf σ H x d _ Q rel q hx k)
    | none => rw [q] at es; exact .inr (h' Γ Hf σ H x d s Q rel (by simpa using es) hx k)
/-- len -/
def dLen : D → Option Sv
  | .lst xs => some (.dat (.int xs.length))
  | .tup xs => some (.dat (.int xs.length))
  | .scr xs => some (.dat (.int xs.length))
  | .str x => if x.length ≤ sizeLine then some (.dat (.int x.length)) else none
  | .dic kvs => some (.dat (.int kvs.length))
  | _ => none
/-- list -/
def dList : D → Option Sv
  | .lst xs => some (.cel .own (.lst xs))
  | .tup xs => some (.cel .own (.lst xs))
  | .scr xs => some (.cel .own (.lst (xs.map D.int)))
  | .dic kvs => some (.cel .own (.lst (kvs.map fun kv => match kv.1 with | .inl i => D.int i | .inr x => D.str x)))
  | _ => none
def dTuple : D → Option Sv
  | .lst xs => some (.dat (.tup xs))
  | .tup xs => some (.dat (.tup xs))
  | _ => none
def kD : Key → D
  | .inl i => .int i
  | .inr x => .str x
theorem den_key {K : PySem.W.Frag} {cl : ClA} {H : Hp} (k : Key) : Den K cl H (kV k) (kD k) := by
  cases k with
  | inl i => exact .int i
  | inr x => exact .str x
theorem DenK.keysL {K : PySem.W.Frag} {cl : ClA} {H : Hp} : ∀ {ds : List (Key × D)} {vs : List (Key × V)}, DenK K cl H vs ds → DenL K cl H (vs.map fun kv => kV kv.1) (ds.map fun kv => kD kv.1)
  | [], _, h => by cases h; exact .nil
  | (k, d) :: r, _, h => by
    cases h with
    | cons _ h2 => exact .cons (den_key k) (DenK.keysL h2)
section
variable {X : Cx} {cl : ClA} {K : PySem.W.Frag}
theorem ca_len : Ca1 K cl (fun xs H Q => (∃ x n, xs = [x] ∧ LenV K x H n ∧ Q (.int n) H) ∨ ∃ a kvs, xs = [V.ref a] ∧ Rd H a (.dK kvs) ∧ Q (.int kvs.length) H) dLen := fun Γ Hf σ H x d s Q rel es hx k => by
  unfold dLen at es
  split at es
  · next xs =>
    cases es
    obtain ⟨a, vs, rfl, h1, h2⟩ := hx.lst rel.le
    exact .inl ⟨_, vs.length, rfl, .inl ⟨vs, SqL.of h1, rfl⟩, by rw [h2.length]; exact k _ Hf H (.refl rel) (.int _)⟩
  · next xs =>
    cases es
    obtain ⟨a, vs, rfl, h1, h2⟩ := hx.tup rel.le
    exact .inl ⟨_, vs.length, rfl, .inr ⟨vs, h1, rfl⟩, by rw [h2.length]; exact k _ Hf H (.refl rel) (.int _)⟩
  · next xs =>
    cases es
    obtain ⟨a, rfl, h1⟩ := hx.scr rel.le
    exact .inl ⟨_, (xs.map V.int).length, rfl, .inl ⟨_, h1, rfl⟩, by rw [List.length_map]; exact k _ Hf H (.refl rel) (.int _)⟩
  · next z =>
    split at es
    · next hc => cases es; cases hx.str; exact .inl ⟨_, z.length, rfl, ⟨hc, rfl⟩, k _ Hf H (.refl rel) (.int _)⟩
    · cases es
  · next kvs =>
    cases es
    obtain ⟨a, vs, rfl, h1, h2⟩ := hx.dic rel.le
    exact .inr ⟨a, vs, rfl, h1, by rw [h2.length]; exact k _ Hf H (.refl rel) (.int _)⟩
  · cases es
theorem call_lenW : CallR X (.builtin "len") (fun xs H Q => (∃ x n, xs = [x] ∧ LenV X.K x H n ∧ Q (.int n) H) ∨ ∃ a kvs, xs = [V.ref a] ∧ Rd H a (.dK kvs) ∧ Q (.int kvs.length) H) := CallR.or call_len fun pins s σ H xs us Q I r h => by
  obtain ⟨a, kvs, rfl, ha, q⟩ := h
  obtain ⟨u, rfl, ru⟩ := vals1 r
  obtain rfl : u = Value.ref a := ru
  exact d_len I ha fun t s' I' => ⟨.int kvs.length, H, I', ⟨t, rfl⟩, q⟩
theorem ca_list : Ca1 K cl (fun xs H Q => (∃ p ys, xs = [.ref p] ∧ (SqL K H p ys ∨ SqT K H p ys) ∧ ∀ l, H l = none → Q (.ref l) (upd H l (.lst ys))) ∨
    (∃ (a : Addr) (kvs : List (Key × V)), xs = [.ref a] ∧ Rd H a (.dK kvs) ∧ ∀ p, H p = none → Q (.ref p) (upd H p (.lst (kvs.map fun kv => kV kv.1))))) dList := fun Γ Hf σ H x d s Q rel es hx k => by
  unfold dList at es
  split at es
  · next xs =>
    cases es
    obtain ⟨a, vs, rfl, h1, h2⟩ := hx.lst rel.le
    refine .inl ⟨a, vs, rfl, .inl (SqL.of h1), fun p hp => ?_⟩
    obtain ⟨st, t⟩ := rel.newCell (o := .lst vs) hp (.lst upd_same h2)
    exact k _ _ _ st t
  · next xs =>
    cases es
    obtain ⟨a, vs, rfl, h1, h2⟩ := hx.tup rel.le
    refine .inl ⟨a, vs, rfl, .inr h1, fun p hp => ?_⟩
    obtain ⟨st, t⟩ := rel.newCell (o := .lst vs) hp (.lst upd_same h2)
    exact k _ _ _ st t
  · next ns =>
    cases es
    obtain ⟨a, rfl, h1⟩ := hx.scr rel.le
    refine .inl ⟨a, _, rfl, .inl h1, fun p hp => ?_⟩
    obtain ⟨st, t⟩ := rel.newCell (o := .lst (ns.map V.int)) hp (.lst upd_same DenL.ints)
    exact k _ _ _ st t
  · next kvs =>
    cases es
    obtain ⟨a, vs, rfl, h1, h2⟩ := hx.dic rel.le
    refine .inr ⟨a, vs, rfl, h1, fun p hp => ?_⟩
    obtain ⟨st, t⟩ := rel.newCell (o := .lst (vs.map fun kv => kV kv.1)) hp (.lst upd_same h2.keysL)
    exact k _ _ _ st t
  · cases es
theorem ca_tuple : Ca1 K cl (fun xs H Q => ∃ p ys, xs = [.ref p] ∧ ((SqL K H p ys ∧ ∀ l, H l = none → Q (.ref l) (upd H l (.tup ys))) ∨ (SqT K H p ys ∧ Q (.ref p) H))) dTuple := fun Γ Hf σ H x d s Q rel es hx k => by
  unfold dTuple at es
  split at es
  · next xs =>
    cases es
    obtain ⟨a, vs, rfl, h1, h2⟩ := hx.lst rel.le
    refine ⟨a, vs, rfl, .inl ⟨SqL.of h1, fun p hp => ?_⟩⟩
    have st := rel.newDat (o := .tup vs) hp
    exact k _ _ _ st (.tup (.inl (.inl upd_same)) (h2.mono (.new (rel.le.no hp))))
  · next xs =>
    cases es
    have hx' := hx
    obtain ⟨a, vs, rfl, h1, h2⟩ := hx.tup rel.le
    refine ⟨a, vs, rfl, .inr ⟨h1, ?_⟩⟩
    rcases hx' with hx' | ⟨_, _, c⟩
    · exact k _ Hf H (.refl rel) hx'
    · cases c
  · cases es
end

/-! ### sorted -/
def leS (x y : PySem.Str) : Bool := !PySem.Spec.ltCps y.cps.toList x.cps.toList
theorem ltCps_irrefl : ∀ l : List Nat, PySem.Spec.ltCps l l = false
  | [] => rfl
  | a :: r => by simp [PySem.Spec.ltCps, ltCps_irrefl r]
theorem ltCps_trans : ∀ {a b c : List Nat}, PySem.Spec.ltCps a b = false → PySem.Spec.ltCps b c = false → PySem.Spec.ltCps a c = false
  | [], [], [], _, _ => rfl
  | [], [], _ :: _, _, h => by cases h
  | [], _ :: _, _, h, _ => by cases h
  | _ :: _, [], [], _, _ => rfl
  | _ :: _, [], _ :: _, _, h => by cases h
  | _ :: _, _ :: _, [], _, _ => rfl
  | a :: r, b :: s, c :: t, h1, h2 => by
    simp only [PySem.Spec.ltCps, Bool.or_eq_false_iff, decide_eq_false_iff_not, Bool.and_eq_false_iff, beq_eq_false_iff_ne] at h1 h2 ⊢
    refine ⟨by omega, ?_⟩
    by_cases e : a = c
    · subst e
      have eb : a = b := by omega
      subst eb
      refine .inr (ltCps_trans (b := s) ?_ ?_)
      · rcases h1.2 with h | h
        · exact absurd rfl h
        · exact h
      · rcases h2.2 with h | h
        · exact absurd rfl h
        · exact h
    · exact .inl e
theorem ltCps_anti : ∀ {a b : List Nat}, PySem.Spec.ltCps a b = false → PySem.Spec.ltCps b a = false → a = b
  | [], [], _, _ => rfl
  | [], _ :: _, h, _ => by cases h
  | _ :: _, [], _, h => by cases h
  | a :: r, b :: s, h1, h2 => by
    simp only [PySem.Spec.ltCps, Bool.or_eq_false_iff, decide_eq_false_iff_not, Bool.and_eq_false_iff, beq_eq_false_iff_ne] at h1 h2
    have e : a = b := by omega
    subst e
    rw [ltCps_anti (a := r) (b := s)]
    · rcases h1.2 with h | h
      · exact absurd rfl h
      · exact h
    · rcases h2.2 with h | h
      · exact absurd rfl h
      · exact h
theorem ltCps_total : ∀ a b : List Nat, PySem.Spec.ltCps a b = false ∨ PySem.Spec.ltCps b a = false
  | [], _ => .inr (by cases ‹List Nat› <;> rfl)
  | _ :: _, [] => .inl rfl
  | a :: r, b :: s => by
    simp only [PySem.Spec.ltCps, Bool.or_eq_false_iff, decide_eq_false_iff_not, Bool.and_eq_false_iff, beq_eq_false_iff_ne]
    rcases ltCps_total r s with h | h
    · by_cases e : a ≤ b
      · by_cases e2 : a = b
        · exact .inl ⟨by omega, .inr h⟩
        · exact .inr ⟨by omega, .inl (by omega)⟩
      · exact .inl ⟨by omega, .inl (by omega)⟩
    · by_cases e : b ≤ a
      · by_cases e2 : a = b
        · exact .inr ⟨by omega, .inr h⟩
        · exact .inl ⟨by omega, .inl (by omega)⟩
      · exact .inr ⟨by omega, .inl (by omega)⟩
end DL
end

section
set_option Elab.async false
set_option linter.all false
set_option maxRecDepth 100000
set_option maxHeartbeats 2000000
namespace DL
open PySem PySem.Spec PyProof.Rows L2

/-! ### insertion sort -/
def ins {α : Type} (le : α → α → Bool) (x : α) : List α → List α
  | [] => [x]
  | y :: r => if le x y then x :: y :: r else y :: ins le x r
def isort {α : Type} (le : α → α → Bool) : List α → List α
  | [] => []
  | x :: r => ins le x (isort le r)
theorem ins_perm {α : Type} (le : α → α → Bool) (x : α) : ∀ l : List α, (ins le x l).Perm (x :: l)
  | [] => .refl _
  | y :: r => by
    unfold ins
    split
    · exact .refl _
    · exact ((ins_perm le x r).cons y).trans (.swap x y r)
theorem isort_perm {α : Type} (le : α → α → Bool) : ∀ l : List α, (isort le l).Perm l
  | [] => .refl _
  | x :: r => (ins_perm le x _).trans ((isort_perm le r).cons x)
theorem ins_sorted {α : Type} {le : α → α → Bool} (tot : ∀ a b, le a b = true ∨ le b a = true) (tr : ∀ a b c, le a b = true → le b c = true → le a c = true) (x : α) : ∀ l : List α, l.Pairwise (fun a b => le a b = true) → (ins le x l).Pairwise fun a b => le a b = true
  | [], _ => List.pairwise_cons.mpr ⟨(fun _ h => nomatch h), .nil⟩
  | y :: r, h => by
    obtain ⟨h1, h2⟩ := List.pairwise_cons.mp h
    unfold ins
    split
    · next e =>
      refine List.pairwise_cons.mpr ⟨fun z hz => ?_, h⟩
      rcases List.mem_cons.mp hz with rfl | hz
      · exact e
      · exact tr _ _ _ e (h1 z hz)
    · next e =>
      have e2 : le y x = true := (tot x y).resolve_left e
      refine List.pairwise_cons.mpr ⟨fun z hz => ?_, ins_sorted tot tr x r h2⟩
      rcases List.mem_cons.mp ((ins_perm le x r).subset hz) with rfl | hz
      · exact e2
      · exact h1 z hz
theorem isort_sorted {α : Type} {le : α → α → Bool} (tot : ∀ a b, le a b = true ∨ le b a = true) (tr : ∀ a b c, le a b = true → le b c = true → le a c = true) : ∀ l : List α, (isort le l).Pairwise fun a b => le a b = true
  | [] => .nil
  | x :: r => ins_sorted tot tr x _ (isort_sorted tot tr r)
theorem isort_unique {α : Type} {le : α → α → Bool} (tot : ∀ a b, le a b = true ∨ le b a = true) (tr : ∀ a b c, le a b = true → le b c = true → le a c = true) (an : ∀ a b, le a b = true → le b a = true → a = b) {l m : List α} (p : m.Perm l) (s : m.Pairwise fun a b => le a b = true) : m = isort le l :=
  List.Perm.eq_of_pairwise (fun a b _ _ h1 h2 => an a b h1 h2) s (isort_sorted tot tr l) (p.trans (isort_perm le l).symm)
theorem leS_tot (a b : PySem.Str) : leS a b = true ∨ leS b a = true := by
  unfold leS
  rcases ltCps_total a.cps.toList b.cps.toList with h | h
  · exact .inr (by rw [h]; rfl)
  · exact .inl (by rw [h]; rfl)
theorem leS_tr (a b c : PySem.Str) (h1 : leS a b = true) (h2 : leS b c = true) : leS a c = true := by
  unfold leS at *
  rw [Bool.not_eq_true'] at *
  exact ltCps_trans h2 h1
theorem leS_an (a b : PySem.Str) (h1 : leS a b = true) (h2 : leS b a = true) : a = b := by
  unfold leS at *
  rw [Bool.not_eq_true'] at *
  have e := ltCps_anti h2 h1
  obtain ⟨⟨a⟩⟩ := a
  obtain ⟨⟨b⟩⟩ := b
  simp at e
  rw [e]
theorem rising_pw : ∀ (r : List PySem.Str) (x : PySem.Str), risingS x r = true → (x :: r).Pairwise fun a b => leS a b = true
  | [], x, _ => List.pairwise_cons.mpr ⟨(fun _ h => nomatch h), .nil⟩
  | y :: r, x, h => by
    obtain ⟨h1, h2⟩ := Bool.and_eq_true_iff.mp (show (leS x y && risingS y r) = true from h)
    have q := rising_pw r y h2
    refine List.pairwise_cons.mpr ⟨fun z hz => ?_, q⟩
    rcases List.mem_cons.mp hz with rfl | hz
    · exact h1
    · exact leS_tr _ _ _ h1 ((List.pairwise_cons.mp q).1 z hz)
theorem sortedS_pw : ∀ l : List PySem.Str, sortedS l = true → l.Pairwise fun a b => leS a b = true
  | [], _ => .nil
  | x :: r, h => rising_pw r x h
abbrev sortS : List PySem.Str → List PySem.Str := isort leS
abbrev leI (a b : Int) : Bool := decide (a ≤ b)
abbrev sortI : List Int → List Int := isort leI
theorem sortS_of {l m : List PySem.Str} (p : m.Perm l) (s : sortedS m = true) : m = sortS l := isort_unique leS_tot leS_tr leS_an p (sortedS_pw m s)
theorem sortI_of {l m : List Int} (p : m.Perm l) (s : m.Pairwise (· ≤ ·)) : m = sortI l :=
  isort_unique (le := leI) (fun a b => by simp only [leI, decide_eq_true_eq]; omega) (fun a b c => by simp only [leI, decide_eq_true_eq]; omega) (fun a b => by simp only [leI, decide_eq_true_eq]; omega) p (s.imp fun h => by simpa [leI] using h)
/-- the texts, the ints of a list -/
def strsOf : List D → Option (List PySem.Str)
  | [] => some []
  | .str x :: r => (strsOf r).map (x :: ·)
  | _ => none
def intsOf : List D → Option (List Int)
  | [] => some []
  | .int x :: r => (intsOf r).map (x :: ·)
  | _ => none
def blsOf : List D → Option (List Bool)
  | [] => some []
  | .bl x :: r => (blsOf r).map (x :: ·)
  | _ => none
theorem strsOf_eq : ∀ {ds : List D} {xs : List PySem.Str}, strsOf ds = some xs → ds = xs.map D.str
  | [], _, h => by cases h; rfl
  | .str x :: r, _, h => by
    obtain ⟨ys, e, rfl⟩ := Option.map_eq_some_iff.mp h
    rw [strsOf_eq e]; rfl
  | .non :: _, _, h => by cases h
  | .bl _ :: _, _, h => by cases h
  | .int _ :: _, _, h => by cases h
  | .lst _ :: _, _, h => by cases h
  | .tup _ :: _, _, h => by cases h
  | .dic _ :: _, _, h => by cases h
  | .obj _ _ :: _, _, h => by cases h
  | .scr _ :: _, _, h => by cases h
theorem intsOf_eq : ∀ {ds : List D} {xs : List Int}, intsOf ds = some xs → ds = xs.map D.int
  | [], _, h => by cases h; rfl
  | .int x :: r, _, h => by
    obtain ⟨ys, e, rfl⟩ := Option.map_eq_some_iff.mp h
    rw [intsOf_eq e]; rfl
  | .non :: _, _, h => by cases h
  | .bl _ :: _, _, h => by cases h
  | .str _ :: _, _, h => by cases h
  | .lst _ :: _, _, h => by cases h
  | .tup _ :: _, _, h => by cases h
  | .dic _ :: _, _, h => by cases h
  | .obj _ _ :: _, _, h => by cases h
  | .scr _ :: _, _, h => by cases h
theorem blsOf_eq : ∀ {ds : List D} {xs : List Bool}, blsOf ds = some xs → ds = xs.map D.bl
  | [], _, h => by cases h; rfl
  | .bl x :: r, _, h => by
    obtain ⟨ys, e, rfl⟩ := Option.map_eq_some_iff.mp h
    rw [blsOf_eq e]; rfl
  | .non :: _, _, h => by cases h
  | .int _ :: _, _, h => by cases h
  | .str _ :: _, _, h => by cases h
  | .lst _ :: _, _, h => by cases h
  | .tup _ :: _, _, h => by cases h
  | .dic _ :: _, _, h => by cases h
  | .obj _ _ :: _, _, h => by cases h
  | .scr _ :: _, _, h => by cases h
theorem strsOf_map : ∀ xs : List PySem.Str, strsOf (xs.map D.str) = some xs
  | [] => rfl
  | x :: r => by show (strsOf (r.map D.str)).map _ = _; rw [strsOf_map r]; rfl
theorem intsOf_map : ∀ xs : List Int, intsOf (xs.map D.int) = some xs
  | [] => rfl
  | x :: r => by show (intsOf (r.map D.int)).map _ = _; rw [intsOf_map r]; rfl
theorem blsOf_map : ∀ xs : List Bool, blsOf (xs.map D.bl) = some xs
  | [] => rfl
  | x :: r => by show (blsOf (r.map D.bl)).map _ = _; rw [blsOf_map r]; rfl
def keysStr : List (Key × D) → Option (List PySem.Str)
  | [] => some []
  | (.inr x, _) :: r => (keysStr r).map (x :: ·)
  | _ => none
theorem keysStr_eq : ∀ {ds : List (Key × D)} {xs : List PySem.Str}, keysStr ds = some xs → ds.map (·.1) = xs.map Sum.inr
  | [], _, h => by cases h; rfl
  | (.inr x, _) :: r, _, h => by
    obtain ⟨ys, e, rfl⟩ := Option.map_eq_some_iff.mp h
    rw [List.map_cons, keysStr_eq e]; rfl
  | (.inl _, _) :: _, _, h => by cases h
def dSorted : D → Option Sv
  | .lst ds => if ds.length < 64 then (match strsOf ds with
    | some xs => some (.cel .own (.lst ((sortS xs).map D.str)))
    | none => (intsOf ds).map fun xs => .cel .own (.lst ((sortI xs).map D.int))) else none
  | .dic kvs => if kvs.length < 64 then (keysStr kvs).map fun xs => .cel .own (.lst ((sortS xs).map D.str)) else none
  | _ => none
def maxL : List Int → Int
  | [] => 0
  | [x] => x
  | x :: r => max x (maxL r)
def minL : List Int → Int
  | [] => 0
  | [x] => x
  | x :: r => min x (minL r)
theorem maxL_mem : ∀ {l : List Int}, l ≠ [] → maxL l ∈ l ∧ ∀ y ∈ l, y ≤ maxL l
  | [], h => absurd rfl h
  | [x], _ => ⟨List.mem_cons_self, fun y hy => by simp at hy; subst hy; exact Int.le_refl _⟩
  | x :: y :: r, _ => by
    obtain ⟨h1, h2⟩ := maxL_mem (l := y :: r) (by simp)
    show max x (maxL (y :: r)) ∈ _ ∧ ∀ z ∈ x :: y :: r, z ≤ max x (maxL (y :: r))
    refine ⟨?_, fun z hz => ?_⟩
    · by_cases e : x ≤ maxL (y :: r)
      · rw [show max x (maxL (y :: r)) = maxL (y :: r) by omega]; exact List.mem_cons_of_mem _ h1
      · rw [show max x (maxL (y :: r)) = x by omega]; exact List.mem_cons_self
    · rcases List.mem_cons.mp hz with rfl | hz
      · omega
      · have := h2 z hz; omega
theorem minL_mem : ∀ {l : List Int}, l ≠ [] → minL l ∈ l ∧ ∀ y ∈ l, minL l ≤ y
  | [], h => absurd rfl h
  | [x], _ => ⟨List.mem_cons_self, fun y hy => by simp at hy; subst hy; exact Int.le_refl _⟩
  | x :: y :: r, _ => by
    obtain ⟨h1, h2⟩ := minL_mem (l := y :: r) (by simp)
    show min x (minL (y :: r)) ∈ _ ∧ ∀ z ∈ x :: y :: r, min x (minL (y :: r)) ≤ z
    refine ⟨?_, fun z hz => ?_⟩
    · by_cases e : minL (y :: r) ≤ x
      · rw [show min x (minL (y :: r)) = minL (y :: r) by omega]; exact List.mem_cons_of_mem _ h1
      · rw [show min x (minL (y :: r)) = x by omega]; exact List.mem_cons_self
    · rcases List.mem_cons.mp hz with rfl | hz
      · omega
      · have := h2 z hz; omega
def dMax1 : D → Option Sv
  | .lst ds => (intsOf ds).bind fun xs => if xs = [] then none else some (.dat (.int (maxL xs)))
  | _ => none
def dMin1 : D → Option Sv
  | .lst ds => (intsOf ds).bind fun xs => if xs = [] then none else some (.dat (.int (minL xs)))
  | _ => none
def dSum : D → Option Sv
  | .lst ds => (intsOf ds).map fun xs => .dat (.int xs.sum)
  | .scr xs => some (.dat (.int xs.sum))
  | _ => none
def dAll : D → Option Sv
  | .lst ds => (blsOf ds).map fun xs => .dat (.bl (xs.all id))
  | _ => none
def dAny : D → Option Sv
  | .lst ds => (blsOf ds).map fun xs => .dat (.bl (xs.any id))
  | _ => none
section
variable {X : Cx} {cl : ClA} {K : PySem.W.Frag}
abbrev rSortedW (K : PySem.W.Frag) : List V → Hp → VK → Prop := fun xs H Q => rSortedS K xs H Q ∨ (rSorted K xs H Q ∨ (∃ (a : Addr) (kvs : List (Key × V)) (ks : List PySem.Str), xs = [V.ref a] ∧ Rd H a (.dK kvs) ∧ kvs.map (·.1) = ks.map Sum.inr ∧ ks.length < 64 ∧
    ∀ ys p, ys.Perm ks → sortedS ys = true → H p = none → Q (.ref p) (upd H p (.lst (ys.map V.str)))))
theorem ca_sorted : Ca1 K cl (rSortedW K) dSorted := fun Γ Hf σ H x d s Q rel es hx k => by
  unfold dSorted at es
  split at es
  · next ds =>
    split at es
    · next hc =>
      obtain ⟨a, vs, rfl, h1, h2⟩ := hx.lst rel.le
      split at es
      · next xs e =>
        cases es
        rw [strsOf_eq e] at h2 hc
        rw [List.length_map] at hc
        refine .inl ⟨a, xs, rfl, by rw [← h2.of_strs]; exact SqL.of h1, hc, fun ys p hp hs hn => ?_⟩
        rw [sortS_of hp hs]
        obtain ⟨st, t⟩ := rel.newCell (o := .lst ((sortS xs).map V.str)) hn (.lst upd_same DenL.strs)
        exact k _ _ _ st t
      · obtain ⟨xs, e, e2⟩ := Option.map_eq_some_iff.mp es
        cases e2
        rw [intsOf_eq e] at h2 hc
        rw [List.length_map] at hc
        refine .inr (.inl ⟨a, xs, rfl, by rw [← h2.of_ints]; exact SqL.of h1, hc, fun ys p hp hs hn => ?_⟩)
        rw [sortI_of hp hs]
        obtain ⟨st, t⟩ := rel.newCell (o := .lst ((sortI xs).map V.int)) hn (.lst upd_same DenL.ints)
        exact k _ _ _ st t
    · cases es
  · next kvs =>
    split at es
    · next hc =>
      obtain ⟨xs, e, e2⟩ := Option.map_eq_some_iff.mp es
      cases e2
      obtain ⟨a, vs, rfl, h1, h2⟩ := hx.dic rel.le
      have ek := keysStr_eq e
      have el : xs.length < 64 := by
        have := congrArg List.length ek
        simp at this
        omega
      refine .inr (.inr ⟨a, vs, xs, rfl, h1, by rw [h2.keys, ek], el, fun ys p hp hs hn => ?_⟩)
      rw [sortS_of hp hs]
      obtain ⟨st, t⟩ := rel.newCell (o := .lst ((sortS xs).map V.str)) hn (.lst upd_same DenL.strs)
      exact k _ _ _ st t
    · cases es
  · cases es
theorem call_sortedW (hc : X.calm = true) : CallR X (.builtin "sorted") (rSortedW X.K) := cr_sortedS.or (cr_sorted.or (call_sortedD hc))
theorem ca_max : Ca1 K cl (rMax K) dMax1 := fun Γ Hf σ H x d s Q rel es hx k => by
  unfold dMax1 at es
  split at es
  · next ds =>
    obtain ⟨xs, e, e2⟩ := Option.bind_eq_some_iff.mp es
    split at e2
    · cases e2
    · next hne =>
      cases e2
      obtain ⟨a, vs, rfl, h1, h2⟩ := hx.lst rel.le
      rw [intsOf_eq e] at h2
      refine ⟨a, xs, rfl, by rw [← h2.of_ints]; exact SqL.of h1, List.length_pos_iff.mpr hne, fun m hm hy => ?_⟩
      obtain ⟨g1, g2⟩ := maxL_mem hne
      rw [show m = maxL xs from Int.le_antisymm (g2 m hm) (hy _ g1)]
      exact k _ Hf H (.refl rel) (.int _)
  · cases es
theorem ca_min : Ca1 K cl (rMin K) dMin1 := fun Γ Hf σ H x d s Q rel es hx k => by
  unfold dMin1 at es
  split at es
  · next ds =>
    obtain ⟨xs, e, e2⟩ := Option.bind_eq_some_iff.mp es
    split at e2
    · cases e2
    · next hne =>
      cases e2
      obtain ⟨a, vs, rfl, h1, h2⟩ := hx.lst rel.le
      rw [intsOf_eq e] at h2
      refine ⟨a, xs, rfl, by rw [← h2.of_ints]; exact SqL.of h1, List.length_pos_iff.mpr hne, fun m hm hy => ?_⟩
      obtain ⟨g1, g2⟩ := minL_mem hne
      rw [show m = minL xs from Int.le_antisymm (hy _ g1) (g2 m hm)]
      exact k _ Hf H (.refl rel) (.int _)
  · cases es
theorem ca_sum : Ca1 K cl (rSum K) dSum := fun Γ Hf σ H x d s Q rel es hx k => by
  unfold dSum at es
  split at es
  · next ds =>
    obtain ⟨xs, e, e2⟩ := Option.map_eq_some_iff.mp es
    cases e2
    obtain ⟨a, vs, rfl, h1, h2⟩ := hx.lst rel.le
    rw [intsOf_eq e] at h2
    exact ⟨a, xs, rfl, by rw [← h2.of_ints]; exact SqL.of h1, k _ Hf H (.refl rel) (.int _)⟩
  · next xs =>
    cases es
    obtain ⟨a, rfl, h1⟩ := hx.scr rel.le
    exact ⟨a, xs, rfl, h1, k _ Hf H (.refl rel) (.int _)⟩
  · cases es
theorem ca_all : Ca1 K cl (rAll K) dAll := fun Γ Hf σ H x d s Q rel es hx k => by
  unfold dAll at es
  split at es
  · next ds =>
    obtain ⟨xs, e, e2⟩ := Option.map_eq_some_iff.mp es
    cases e2
    obtain ⟨a, vs, rfl, h1, h2⟩ := hx.lst rel.le
    rw [blsOf_eq e] at h2
    exact ⟨a, xs, rfl, by rw [← h2.of_bls]; exact SqL.of h1, k _ Hf H (.refl rel) (.bl _)⟩
  · cases es
theorem ca_any : Ca1 K cl (rAny K) dAny := fun Γ Hf σ H x d s Q rel es hx k => by
  unfold dAny at es
  split at es
  · next ds =>
    obtain ⟨xs, e, e2⟩ := Option.map_eq_some_iff.mp es
    cases e2
    obtain ⟨a, vs, rfl, h1, h2⟩ := hx.lst rel.le
    rw [blsOf_eq e] at h2
    exact ⟨a, xs, rfl, by rw [← h2.of_bls]; exact SqL.of h1, k _ Hf H (.refl rel) (.bl _)⟩
  · cases es

/-! ### dict(pairs) -/
def pairsOf : List D → Option (List (Key × D))
  | [] => some []
  | .tup [k, d] :: r => (keyOf k).bind fun k => (pairsOf r).map ((k, d) :: ·)
  | _ => none
def mergeD (kvs more : List (Key × D)) : List (Key × D) := more.foldl (fun acc kv => putD acc kv.1 kv.2) kvs
theorem DenK.merge {H : Hp} : ∀ {ms : List (Key × D)} {ws : List (Key × V)} {ds : List (Key × D)} {vs : List (Key × V)}, DenK K cl H ws ms → DenK K cl H vs ds → DenK K cl H (mergeK vs ws) (mergeD ds ms)
  | [], _, _, _, h, g => by cases h; exact g
  | (k, d) :: r, _, _, _, h, g => by
    cases h with
    | @cons _ v _ ws _ h1 h2 =>
      show DenK K cl H (mergeK (putK _ k v) ws) (mergeD (putD _ k d) r)
      exact DenK.merge h2 (g.put k h1)
theorem pairs_den {Hf H : Hp} (l : Le Hf H) : ∀ {ds : List D} {vs : List V} {kds : List (Key × D)}, DenL K cl Hf vs ds → pairsOf ds = some kds → ∃ (ps : List Addr) (kvs : List (Key × V)), vs = ps.map V.ref ∧ Paired (fun p kv => SqT K H p [kV kv.1, kv.2]) ps kvs ∧ DenK K cl Hf kvs kds
  | [], _, _, h, e => by cases h; cases e; exact ⟨[], [], rfl, .nil, .nil⟩
  | d :: r, _, _, h, e => by
    cases h with
    | @cons v _ vs _ h1 h2 =>
      unfold pairsOf at e
      split at e
      · next e0 => cases e0
      · next k d' r' e0 =>
        cases e0
        obtain ⟨key, ek, e2⟩ := Option.bind_eq_some_iff.mp e
        obtain ⟨kds, e3, rfl⟩ := Option.map_eq_some_iff.mp e2
        obtain ⟨ps, kvs, rfl, g1, g2⟩ := pairs_den l h2 e3
        cases h1 with
        | @tup a ws _ hs hl =>
          cases hl with
          | @cons w1 _ _ _ q1 q2 =>
            cases q2 with
            | @cons w2 _ _ _ q3 q4 =>
              cases q4
              refine ⟨a :: ps, (key, w2) :: kvs, rfl, .cons ?_ g1, .cons q3 g2⟩
              rw [← q1.key ek]
              exact l.sqt hs
      · cases e
def dDict : D → Option Sv
  | .lst ds => (pairsOf ds).map fun kds => .cel .own (.dic (mergeD [] kds))
  | .dic kvs => some (.cel .own (.dic kvs))
  | _ => none
abbrev rDictW (K : PySem.W.Frag) : List V → Hp → VK → Prop := fun xs H Q => (∃ (a : Addr) (ps : List Addr) (kvs : List (Key × V)), xs = [.ref a] ∧ SqL K H a (ps.map V.ref) ∧ Paired (fun p kv => SqT K H p [kV kv.1, kv.2]) ps kvs ∧ ∀ p, H p = none → Q (.ref p) (upd H p (.dK (mergeK [] kvs)))) ∨
  (∃ (a : Addr) (kvs : List (Key × V)), xs = [.ref a] ∧ Rd H a (.dK kvs) ∧ ∀ p, H p = none → Q (.ref p) (upd H p (.dK kvs)))
theorem ca_dict : Ca1 K cl (rDictW K) dDict := fun Γ Hf σ H x d s Q rel es hx k => by
  unfold dDict at es
  split at es
  · next ds =>
    obtain ⟨kds, e, e2⟩ := Option.map_eq_some_iff.mp es
    cases e2
    obtain ⟨a, vs, rfl, h1, h2⟩ := hx.lst rel.le
    obtain ⟨ps, kvs, rfl, g1, g2⟩ := pairs_den rel.le h2 e
    refine .inl ⟨a, ps, kvs, rfl, SqL.of h1, g1, fun p hp => ?_⟩
    obtain ⟨st, t⟩ := rel.newCell (o := .dK (mergeK [] kvs)) hp (.dic upd_same (g2.merge .nil))
    exact k _ _ _ st t
  · next kds =>
    cases es
    obtain ⟨a, vs, rfl, h1, h2⟩ := hx.dic rel.le
    refine .inr ⟨a, vs, rfl, h1, fun p hp => ?_⟩
    obtain ⟨st, t⟩ := rel.newCell (o := .dK vs) hp (.dic upd_same h2)
    exact k _ _ _ st t
  · cases es
theorem call_dictW (hc : X.calm = true) : CallR X (.type "dict") (rDictW X.K) := (call_dictP hc).or call_dictD

/-! ### repr -/
def dRepr (d : D) : Option Sv := match d with
  | .lst _ | .tup _ | .dic _ => if d.plain && d.py.showable && decide (d.py.depth ≤ 60) && decide (d.py.shown.length ≤ sizeLine) then some (.dat (.str d.py.shown)) else none
  | .int i => if i.natAbs.log2 < 1920 then some (.dat (.str (toString i))) else none
  | _ => none
def rReprW (K : PySem.W.Frag) (cl : ClA) : List V → Hp → VK → Prop := fun xs H Q => (∃ a d z, xs = [.ref a] ∧ Den K cl H (.ref a) d ∧ dRepr d = some (.dat (.str z)) ∧ Q (.str z) H) ∨ (∃ i, xs = [.int i] ∧ i.natAbs.log2 < 1920 ∧ Q (.str (toString i)) H)
theorem call_reprW (sy : Sys X.K) (hu : X.A.units + 64 < cLine) (gg : X.A.guards = some []) : CallR X (.builtin "repr") (rReprW X.K cl) := CallR.or (fun pins s σ H xs us Q I r h => by
  obtain ⟨a, d, z, rfl, hd, e, q⟩ := h
  obtain ⟨u, rfl, ru⟩ := vals1 r
  obtain rfl : u = Value.ref a := ru
  have hc : d.plain = true ∧ d.py.showable = true ∧ d.py.depth ≤ 60 ∧ d.py.shown.length ≤ sizeLine ∧ z = d.py.shown := by
    unfold dRepr at e
    split at e
    · split at e
      · next hc => simp only [Bool.and_eq_true, decide_eq_true_eq] at hc; cases e; exact ⟨hc.1.1.1, hc.1.1.2, hc.1.2, hc.2, rfl⟩
      · cases e
    · split at e
      · next hc => simp only [Bool.and_eq_true, decide_eq_true_eq] at hc; cases e; exact ⟨hc.1.1.1, hc.1.1.2, hc.1.2, hc.2, rfl⟩
      · cases e
    · split at e
      · next hc => simp only [Bool.and_eq_true, decide_eq_true_eq] at hc; cases e; exact ⟨hc.1.1.1, hc.1.1.2, hc.1.2, hc.2, rfl⟩
      · cases e
    · cases hd
    · cases e
  obtain ⟨p1, p2, p3, p4, rfl⟩ := hc
  obtain ⟨as, rd, na⟩ := Den.reads I sy d _ _ hd p1 rfl
  refine repr_of_reads' rd p2 (fun _ => na) gg (by omega) (fun _ _ e => e) (fun h' u tk hk => ?_) p4
  exact ⟨.str _, H, I.kept (t' := tk) hk, ⟨u, rfl⟩, q⟩) SkE.call_repr_int
theorem ca_repr : Ca1 K cl (rReprW K cl) dRepr := fun Γ Hf σ H x d s Q rel es hx k => by
  have es' := es
  unfold dRepr at es'
  split at es'
  · next xs =>
    split at es'
    · cases es'
      obtain ⟨a, vs, rfl, _, _⟩ := hx.lst rel.le
      exact .inl ⟨a, _, _, rfl, hx.den rel.le, es, k _ Hf H (.refl rel) (.str _)⟩
    · cases es'
  · next xs =>
    split at es'
    · cases es'
      obtain ⟨a, vs, rfl, _, _⟩ := hx.tup rel.le
      exact .inl ⟨a, _, _, rfl, hx.den rel.le, es, k _ Hf H (.refl rel) (.str _)⟩
    · cases es'
  · next xs =>
    split at es'
    · cases es'
      obtain ⟨a, vs, rfl, _, _⟩ := hx.dic rel.le
      exact .inl ⟨a, _, _, rfl, hx.den rel.le, es, k _ Hf H (.refl rel) (.str _)⟩
    · cases es'
  · next i =>
    split at es'
    · next hc => cases es'; cases hx.int; exact .inr ⟨i, rfl, hc, k _ Hf H (.refl rel) (.str _)⟩
    · cases es'
  · cases es'
end
end DL
end

section
set_option Elab.async false
set_option linter.all false
set_option maxRecDepth 100000
set_option maxHeartbeats 2000000
namespace DLx
open PySem PySem.AutoSeq1 PySem.MeetsSeq PySem.MeetsSeq2 PySem.MeetsSeq3
/-- xs.extend(t), t a tuple object of any form -/
theorem ext_tup (l : Addr) (vs : Array Value) (n : Nat) (b : Addr) (ws : Array Value) (n2 : Nat) (dd : Option Addr) (sl : Array (Option Value)) (long : ¬ (!vs.isEmpty && Builtin.List.listTooLong (vs.size + ws.size)) = true) (z1 : vs.size ≤ sizeLine) (z2 : vs.size + ws.size ≤ sizeLine + 1) :
    Meets (Builtin.«list.extend» ⟨[.ref l, .ref b], []⟩) (fun _ R s => s.heap.get? l = some { cls := .type "list", dict := none, data := .seq vs n, slots := #[] } ∧
      s.heap.get? b = some { cls := .type "tuple", dict := dd, data := .seq ws n2, slots := sl } ∧ R (.ok (.ret Value.none)) { s with heap := s.heap.update l (Obj.mapSeq fun x => x ++ ws), toks := s.toks }) :=
  .of_wp fun P w A R s h => by
    obtain ⟨hp, g, d, tk, os⟩ := s
    obtain ⟨hl, hb, h⟩ := h
    have e1 := idx_int
    have e2 := sub_tuple_tuple
    have e3 := sub_list_list
    have e4 := sub_tuple_list
    have e5 := sub_list_tuple
    have z3 : (vs ++ ws).size ≤ sizeLine + 1 := by
      rw [Array.size_append]
      exact z2
    wp_walk using (wpAny_updateSeq hl rfl (hz := z1) (_hz' := z3)), wpAny_loadPart' hl, wpAny_loadPart' hb
    exact ⟨_, rfl, h⟩
end DLx
namespace DL
open PySem PySem.Spec PyProof.Rows L2
section
variable {X : Cx}
abbrev rExtT (K : PySem.W.Frag) : V → List V → Hp → VK → Prop := fun x vs H Q => ∃ l b xs zs, x = .ref l ∧ vs = [.ref b] ∧ H l = some (.lst xs) ∧ SqT K H b zs ∧ xs.length + zs.length ≤ sizeLine ∧ Q .non (upd H l (.lst (xs ++ zs)))
theorem mt_extT : MtM X "list.extend" (rExtT X.K) := by
  intro pins s σ H x vs v us Q I rx rv h
  obtain ⟨l, b, xs, zs, rfl, rfl, hH, hB, hz, q⟩ := h
  cases rx
  obtain ⟨u, rfl, ru⟩ := rv.one
  cases ru
  obtain ⟨z, its, n, r, hl, e⟩ := I.lstM hH
  obtain ⟨ws, rw', ⟨o, ho, hc, n2, hd⟩, hz2⟩ := I.tuple hB
  obtain ⟨oc, od, dt, sl⟩ := o
  simp only at hc hd
  subst hc hd
  have hl2 := rw'.length
  have zz : its.toArray.size + ws.toArray.size ≤ sizeLine := by
    rw [List.size_toArray, List.size_toArray]
    omega
  refine call_meets F.slot_list_extend ⟨_, e, rfl⟩ F.entry_list_extend (F.args_list_extend_2 _ _) (DLx.ext_tup l its.toArray n b ws.toArray n2 od sl ?_ ?_ ?_) ⟨e, ho, ?_⟩
  · rw [notLongL zz, Bool.and_false]; exact Bool.false_ne_true
  · rw [List.size_toArray]; omega
  · omega
  · refine ⟨.non, _, I.lset (its' := its ++ ws) hH e (by simp) (r.append rw') ?_, rfl, q⟩
    rw [List.length_append]; omega
end

/-! ## isinstance -/
/-- the built-in type of data -/
def tyD : D → Option String
  | .non => some "NoneType"
  | .bl _ => some "bool"
  | .int _ => some "int"
  | .str _ => some "str"
  | .lst _ => some "list"
  | .tup _ => some "tuple"
  | .dic _ => some "dict"
  | .scr _ => some "list"
  | .obj _ _ => none
theorem Rdd.tyx {K : PySem.W.Frag} {cl : ClA} {Hf H : Hp} {v : V} {d : D} {t : String} (h : Rdd K cl Hf H v d) (l : Le Hf H) (e : tyD d = some t) : TyX K H v (.type t) := by
  cases d with
  | non => cases h.non; cases e; exact .base .non
  | bl b => cases h.bl; cases e; exact .base (.bl b)
  | int i => cases h.int; cases e; exact .base (.int i)
  | str x => cases h.str; cases e; exact .base (.str x)
  | lst xs => cases e; obtain ⟨a, vs, rfl, h1, _⟩ := h.lst l; exact .base (.lst h1)
  | tup xs =>
    cases e
    obtain ⟨a, vs, rfl, h1, _⟩ := h.tup l
    rcases h1 with (h1 | ⟨o, h1⟩) | ⟨o, its, n, h1, h2, _⟩
    · exact .base (.tup h1)
    · exact .fTuple h1
    · exact .kTuple h1 h2
  | dic xs =>
    cases e
    obtain ⟨a, vs, rfl, h1, _⟩ := h.dic l
    rcases h1 with h1 | ⟨o, h1⟩
    · exact .base (.dK h1)
    · exact .fDict h1
  | scr xs =>
    cases e
    obtain ⟨a, rfl, h1⟩ := h.scr l
    rcases h1 with (h1 | ⟨o, h1⟩) | ⟨o, its, n, h1, h2, _⟩
    · exact .base (.lst h1)
    · exact .base (.frz h1)
    · exact .kList h1 h2
  | obj c fs => cases e
def dIsi (T : String) : D → Option Sv := fun d => (tyD d).bind fun t => (kitB t T).map fun b => .dat (.bl b)
def dIsi2 (T T' : String) : D → Option Sv := fun d => (tyD d).bind fun t => (kitB t T).bind fun b => (kitB t T').map fun b' => .dat (.bl (b || b'))
def dIsO (c : Nat) : D → Option Sv
  | .obj c' _ => if c' = c then some (.dat (.bl true)) else none
  | _ => none
section
variable {X : Cx} {cl : ClA} {W : WX} {e : Expr} {pos p p2 p3 : Pos} {m : MD} {T T' : PySem.Str} {t t' : String}
theorem de_isi (he : DR X cl W e m) (hg : Gl X "isinstance") (hm : X.mg "isinstance" = none) (hgT : Gl X T) (hmT : X.mg T = none) (hv : bootBuiltins T = some (.type t)) (hn : T ≠ "__name__" := by decide) (hd : (T == ("__debug__" : PySem.Str)) = false := by decide)
    (hs : starEach [e, .Name T p2] X.env = (false, eval e X.env) :: starEach [.Name T p2] X.env := by rfl) (hs2 : starEach [.Name T p2] X.env = (false, eval (.Name T p2) X.env) :: starEach [] X.env := by rfl)
    (hpl : (backTo pos (starEach [.Name T p2] X.env)).any (·.1) = false := by rfl) : DE X cl W (.Call (.Name "isinstance" p) [e, .Name T p2] [] pos) (mC1 (dIsi t) m) := by
  obtain ⟨te, pe, we⟩ := he.ex
  refine ⟨_, pe_callB call_isi hg hm (by decide +kernel) (pa_cons pe (pa_cons (pe_bltn (v := .ty t) hgT hmT hv rfl hn hd) pa_nil hs2) hs) (by decide) (by decide) hs hpl, fun Γ Hf σ H Q w => we Γ Hf σ H _ (w.bind fun d Γ1 e1 x Hf1 H1 st1 p1 => ?_)⟩
  have w1 := w.next e1 st1
  obtain ⟨s, es, k⟩ := w1.opt
  obtain ⟨ty, e2, es⟩ := Option.bind_eq_some_iff.mp es
  obtain ⟨b, e3, es⟩ := Option.map_eq_some_iff.mp es
  cases es
  exact ⟨x, .ty t, .type ty, .type t, b, rfl, .ty t, p1.tyx st1.rel.le e2, kit_ty e3, k _ Hf1 H1 (.refl st1.rel) (.bl b)⟩
theorem de_isi2 {x1} {p0 : Pos} (he : DR X cl W e m) (hg : Gl X "isinstance") (hm : X.mg "isinstance" = none) (hgT : Gl X T) (hmT : X.mg T = none) (hv : bootBuiltins T = some (.type t)) (hgT' : Gl X T') (hmT' : X.mg T' = none) (hv' : bootBuiltins T' = some (.type t'))
    (hn : T ≠ "__name__" := by decide) (hd : (T == ("__debug__" : PySem.Str)) = false := by decide) (hn' : T' ≠ "__name__" := by decide) (hd' : (T' == ("__debug__" : PySem.Str)) = false := by decide)
    (hs : starEach [e, .Tuple [.Name T p2, .Name T' p3] x1 p] X.env = (false, eval e X.env) :: starEach [.Tuple [.Name T p2, .Name T' p3] x1 p] X.env := by rfl) (hs2 : starEach [.Tuple [.Name T p2, .Name T' p3] x1 p] X.env = (false, eval (.Tuple [.Name T p2, .Name T' p3] x1 p) X.env) :: starEach [] X.env := by rfl)
    (hs3 : starEach [.Name T p2, .Name T' p3] X.env = (false, eval (.Name T p2) X.env) :: starEach [.Name T' p3] X.env := by rfl) (hs4 : starEach [.Name T' p3] X.env = (false, eval (.Name T' p3) X.env) :: starEach [] X.env := by rfl)
    (hpl : (backTo pos (starEach [.Tuple [.Name T p2, .Name T' p3] x1 p] X.env)).any (·.1) = false := by rfl) : DE X cl W (.Call (.Name "isinstance" p0) [e, .Tuple [.Name T p2, .Name T' p3] x1 p] [] pos) (mC1 (dIsi2 t t') m) := by
  obtain ⟨te, pe, we⟩ := he.ex
  refine ⟨_, pe_callB call_isiT hg hm (by decide +kernel) (pa_cons pe (pa_cons (pe_tup (pa_cons (pe_bltn (v := .ty t) hgT hmT hv rfl hn hd) (pa_cons (pe_bltn (v := .ty t') hgT' hmT' hv' rfl hn' hd') pa_nil hs4) hs3)) pa_nil hs2) hs) (by decide) (by decide) hs hpl, fun Γ Hf σ H Q w => we Γ Hf σ H _ (w.bind fun d Γ1 e1 x Hf1 H1 st1 p1 => ?_)⟩
  have w1 := w.next e1 st1
  obtain ⟨s, es, k⟩ := w1.opt
  obtain ⟨ty, e2, es⟩ := Option.bind_eq_some_iff.mp es
  obtain ⟨b, e3, es⟩ := Option.bind_eq_some_iff.mp es
  obtain ⟨b', e4, es⟩ := Option.map_eq_some_iff.mp es
  cases es
  refine ⟨by show 2 ≤ sizeLine; rw [sizeLine_eq]; omega, fun tp htp => ?_⟩
  have stp : Step X.K cl Γ1 Hf1 σ H1 Γ1 Hf1 σ (upd H1 tp (.tup [.ty t, .ty t'])) := st1.rel.grown htp
  have p1' : Rdd X.K cl Hf1 (upd H1 tp (.tup [.ty t, .ty t'])) x d := by
    rcases p1 with p1 | ⟨q, rfl, c⟩
    · exact .inl p1
    · exact .inr ⟨q, rfl, c.mono (.refl _) fun o ho => by rw [upd_ne (ne_of_none ho htp)]; exact ho⟩
  refine ⟨x, tp, [.ty t, .ty t'], .type ty, [.type t, .type t'], b || b', rfl, upd_same, .cons (.ty t) (.cons (.ty t') .nil), p1'.tyx stp.rel.le e2, ?_, k _ Hf1 _ stp (.bl _)⟩
  refine kitAny_cons (kit_ty e3) (fun hb => ?_) fun hb => by rw [hb]; rfl
  subst hb
  refine kitAny_cons (kit_ty e4) (fun hb => ?_) fun hb => by rw [hb]; rfl
  rw [hb]; exact kitAny_nil
theorem de_isO {c : Nat} {C : PySem.Str} (he : DR X cl W e m) (ic : C8.InsC X.K (cl c)) (hg : Gl X "isinstance") (hm : X.mg "isinstance" = none) (hgT : Gl X C) (hmT : X.mg C = some (.ref (cl c))) (hd : (C == ("__debug__" : PySem.Str)) = false := by decide)
    (hs : starEach [e, .Name C p2] X.env = (false, eval e X.env) :: starEach [.Name C p2] X.env := by rfl) (hs2 : starEach [.Name C p2] X.env = (false, eval (.Name C p2) X.env) :: starEach [] X.env := by rfl)
    (hpl : (backTo pos (starEach [.Name C p2] X.env)).any (·.1) = false := by rfl) : DE X cl W (.Call (.Name "isinstance" p) [e, .Name C p2] [] pos) (mC1 (dIsO c) m) := by
  obtain ⟨te, pe, we⟩ := he.ex
  refine ⟨_, pe_callB (C8.call_isC ic) hg hm (by decide +kernel) (pa_cons pe (pa_cons (pe_glob (v := .ref (cl c)) hgT hmT rfl hd) pa_nil hs2) hs) (by decide) (by decide) hs hpl, fun Γ Hf σ H Q w => we Γ Hf σ H _ (w.bind fun d Γ1 e1 x Hf1 H1 st1 p1 => ?_)⟩
  have w1 := w.next e1 st1
  obtain ⟨s, es, k⟩ := w1.opt
  unfold dIsO at es
  split at es
  · split at es
    · next hc =>
      subst hc
      cases es
      obtain ⟨a, dx, fs, rfl, h1, _⟩ := p1.obj st1.rel.le
      exact ⟨a, dx, fs, rfl, h1, k _ Hf1 H1 (.refl st1.rel) (.bl _)⟩
    · cases es
  · cases es
end

/-! ## two ints -/
def Ca2 (K : PySem.W.Frag) (cl : ClA) (r : List V → Hp → VK → Prop) (f : D → D → Option Sv) : Prop := ∀ (Γ : SE) (Hf : Hp) (σ : L2.St) (H : Hp) (x y : V) (d e : D) (s : Sv) (Q : VK), Rel K cl Γ Hf σ H → f d e = some s → Den K cl Hf x d → Rdd K cl Hf H y e →
  (∀ v Hf' H', Step K cl Γ Hf σ H Γ Hf' σ H' → TmpOk K cl Γ σ H Γ Hf' σ H' v s → Q v H') → r [x, y] H Q
section
variable {X : Cx} {cl : ClA} {W : WX} {a b : Expr} {x : PySem.Str} {pos p : Pos} {ma mb : MD} {r : List V → Hp → VK → Prop} {f : D → D → Option Sv} {id : String}
theorem de_b2 (hc : CallR X (.builtin id) r) (hr : Ca2 X.K cl r f) (ha : DD X cl W a ma) (hb : DR X cl W b mb) (hg : Gl X x) (hm : X.mg x = none) (hv : bootBuiltins x = some (.builtin id)) (hn : x ≠ "__name__" := by decide) (hdb : (x == ("__debug__" : PySem.Str)) = false := by decide)
    (hs : starEach [a, b] X.env = (false, eval a X.env) :: starEach [b] X.env := by rfl) (hs2 : starEach [b] X.env = (false, eval b X.env) :: starEach [] X.env := by rfl) (hpl : (backTo pos (starEach [b] X.env)).any (·.1) = false := by rfl) : DE X cl W (.Call (.Name x p) [a, b] [] pos) (mBin f ma mb) := by
  obtain ⟨ta, pa, wa⟩ := ha.ex
  obtain ⟨tb, pb, wb⟩ := hb.ex
  refine ⟨_, pe_callB hc hg hm hv (pa_cons pa (pa_cons pb pa_nil hs2) hs) hn hdb hs hpl, fun Γ Hf σ H Q w => wa Γ Hf σ H _ (w.bind fun d Γ1 e1 x Hf1 H1 st1 p1 => ?_)⟩
  have w1 := w.next e1 st1
  refine wb Γ1 Hf1 σ H1 _ (w1.bind fun e Γ2 e2 y Hf2 H2 st2 p2 => ?_)
  have w2 := w1.next e2 st2
  obtain ⟨s, es, k⟩ := w2.opt
  exact hr Γ2 Hf2 σ H2 x y d e s Q w2.rel es (p1.mono st2.le) p2 k
end
def dMax2 : D → D → Option Sv := dInt fun i j => if j > i then j else i
def dMin2 : D → D → Option Sv := dInt fun i j => if j < i then j else i
def dDivmod : D → D → Option Sv
  | .int i, .int j => if CDiv i j then some (.dat (.tup [.int (i / j), .int (i % j)])) else none
  | _, _ => none
section
variable {K : PySem.W.Frag} {cl : ClA}
theorem ca_max2 : Ca2 K cl (fun xs H Q => ∃ i j, xs = [V.int i, V.int j] ∧ Q (.int (if j > i then j else i)) H) dMax2 := fun Γ Hf σ H x y d e s Q rel es hx hy k => by
  unfold dMax2 dInt at es
  split at es
  · next i j => cases es; cases hx; cases hy.int; exact ⟨i, j, rfl, k _ Hf H (.refl rel) (.int _)⟩
  · cases es
theorem ca_min2 : Ca2 K cl (fun xs H Q => ∃ i j, xs = [V.int i, V.int j] ∧ Q (.int (if j < i then j else i)) H) dMin2 := fun Γ Hf σ H x y d e s Q rel es hx hy k => by
  unfold dMin2 dInt at es
  split at es
  · next i j => cases es; cases hx; cases hy.int; exact ⟨i, j, rfl, k _ Hf H (.refl rel) (.int _)⟩
  · cases es
theorem ca_divmod : Ca2 K cl (fun xs H Q => ∃ i j, xs = [V.int i, V.int j] ∧ CDiv i j ∧ ∀ p, H p = none → Q (.ref p) (upd H p (.tup [.int (i / j), .int (i % j)]))) dDivmod := fun Γ Hf σ H x y d e s Q rel es hx hy k => by
  unfold dDivmod at es
  split at es
  · next i j =>
    split at es
    · next hc =>
      cases es; cases hx; cases hy.int
      refine ⟨i, j, rfl, hc, fun p hp => ?_⟩
      have st := rel.newDat (o := .tup [.int (i / j), .int (i % j)]) hp
      exact k _ _ _ st (.tup (.inl (.inl upd_same)) (.cons (.int _) (.cons (.int _) .nil)))
    · cases es
  · cases es
end
def dAbs : D → Option Sv
  | .int i => some (.dat (.int (if i < 0 then -i else i)))
  | _ => none
def dIntC1 : D → Option Sv
  | .int i => some (.dat (.int i))
  | .bl k => some (.dat (.int (if k then 1 else 0)))
  | _ => none
def dStr : D → Option Sv
  | .int i => if i.natAbs.log2 < 1920 then some (.dat (.str (toString i))) else none
  | .str x => some (.dat (.str x))
  | _ => none
section
variable {K : PySem.W.Frag} {cl : ClA}
theorem ca_abs : Ca1 K cl (fun xs H Q => ∃ i, xs = [V.int i] ∧ Q (.int (if i < 0 then -i else i)) H) dAbs := fun Γ Hf σ H x d s Q rel es hx k => by
  unfold dAbs at es
  split at es
  · next i => cases es; cases hx.int; exact ⟨i, rfl, k _ Hf H (.refl rel) (.int _)⟩
  · cases es
theorem ca_int : Ca1 K cl (fun xs H Q => (∃ i, xs = [V.int i] ∧ Q (.int i) H) ∨ ∃ k, xs = [V.bl k] ∧ Q (.int (if k then 1 else 0)) H) dIntC1 := fun Γ Hf σ H x d s Q rel es hx k => by
  unfold dIntC1 at es
  split at es
  · next i => cases es; cases hx.int; exact .inl ⟨i, rfl, k _ Hf H (.refl rel) (.int _)⟩
  · next b => cases es; cases hx.bl; exact .inr ⟨b, rfl, k _ Hf H (.refl rel) (.int _)⟩
  · cases es
theorem ca_str : Ca1 K cl (fun xs H Q => (∃ i, xs = [V.int i] ∧ i.natAbs.log2 < 1920 ∧ Q (.str (toString i)) H) ∨ ∃ a, xs = [V.str a] ∧ Q (.str a) H) dStr := fun Γ Hf σ H x d s Q rel es hx k => by
  unfold dStr at es
  split at es
  · next i =>
    split at es
    · next hc => cases es; cases hx.int; exact .inl ⟨i, rfl, hc, k _ Hf H (.refl rel) (.str _)⟩
    · cases es
  · next z => cases es; cases hx.str; exact .inr ⟨z, rfl, k _ Hf H (.refl rel) (.str _)⟩
  · cases es
end
end DL
end

section
set_option Elab.async false
set_option linter.all false
set_option maxRecDepth 100000
set_option maxHeartbeats 2000000
namespace DL
open PySem PySem.Spec PyProof.Rows L2

/-! ## values in hand, and what is done meanwhile -/
section
variable {K : PySem.W.Frag} {cl : ClA} {Γ0 Γ Γ1 Γ2 : SE} {Hf0 Hf Hf1 Hf2 H0 H H1 H2 : Hp} {σ0 σ σ1 σ2 : L2.St} {v w : V} {s s' : Sv} {vs : List V} {ss : List Sv} {ds : List D}
theorem TmpOk.carry (t : TmpOk K cl Γ0 σ0 H0 Γ1 Hf1 σ1 H1 v s) (b : Step K cl Γ1 Hf1 σ1 H1 Γ2 Hf2 σ2 H2) : TmpOk K cl Γ0 σ0 H0 Γ2 Hf2 σ2 H2 v s := by
  cases s with
  | dat d => exact Den.mono b.le t
  | cel k d =>
    obtain ⟨e, p, ev, n, c, nc, f⟩ := t
    obtain ⟨o, ho⟩ := c.there
    have no : ¬ IsOwn Γ1 σ1 p := fun z => nc z.cel
    refine ⟨e, p, ev, b.av p o ho n no, c.mono b.le fun o h => b.fr p o h no, fun z => ?_, f⟩
    rcases b.subc p z with z | z
    · exact nc z
    · rw [ho] at z; cases z
/-- two cells are two -/
def Apart (v w : V) : Sv → Sv → Prop
  | .cel _ _, .cel _ _ => w ≠ v
  | _, _ => True
inductive TmpsOk (K : PySem.W.Frag) (cl : ClA) (Γ0 : SE) (σ0 : L2.St) (H0 : Hp) (Γ : SE) (Hf : Hp) (σ : L2.St) (H : Hp) : List V → List Sv → Prop
  | nil : TmpsOk K cl Γ0 σ0 H0 Γ Hf σ H [] []
  | cons {v : V} {s : Sv} {vs : List V} {ss : List Sv} : TmpOk K cl Γ0 σ0 H0 Γ Hf σ H v s → (∀ (i : Nat) (w : V) (s' : Sv), vs[i]? = some w → ss[i]? = some s' → Apart v w s s') → TmpsOk K cl Γ0 σ0 H0 Γ Hf σ H vs ss → TmpsOk K cl Γ0 σ0 H0 Γ Hf σ H (v :: vs) (s :: ss)
theorem TmpsOk.carry (t : TmpsOk K cl Γ0 σ0 H0 Γ1 Hf1 σ1 H1 vs ss) (b : Step K cl Γ1 Hf1 σ1 H1 Γ2 Hf2 σ2 H2) : TmpsOk K cl Γ0 σ0 H0 Γ2 Hf2 σ2 H2 vs ss := by
  induction t with
  | nil => exact .nil
  | cons h a _ ih => exact .cons (h.carry b) a ih
theorem TmpsOk.dats : ∀ {vs : List V} {ds : List D}, DenL K cl Hf vs ds → TmpsOk K cl Γ0 σ0 H0 Γ Hf σ H vs (ds.map Sv.dat)
  | _, _, .nil => .nil
  | _, _, .cons h r => .cons h (fun _ _ _ _ _ => by trivial) (TmpsOk.dats r)
theorem TmpsOk.length : TmpsOk K cl Γ0 σ0 H0 Γ Hf σ H vs ss → vs.length = ss.length := fun t => by
  induction t with
  | nil => rfl
  | cons _ _ _ ih => simp [ih]
/-- the first one becomes plain data, the others stay -/
theorem TmpsOk.freeze (a : Step K cl Γ0 Hf0 σ0 H0 Γ Hf σ H) (t : TmpsOk K cl Γ0 σ0 H0 Γ Hf σ H (v :: vs) (s :: ss)) :
    ∃ Hf2, Step K cl Γ0 Hf0 σ0 H0 Γ Hf2 σ H ∧ Le Hf Hf2 ∧ Den K cl Hf2 v (match s with | .dat d => d | .cel _ d => d) ∧ TmpsOk K cl Γ0 σ0 H0 Γ Hf2 σ H vs ss := by
  cases t with
  | cons h ap r =>
    cases s with
    | dat d => exact ⟨Hf, a, .refl _, h, r⟩
    | cel k d =>
      obtain ⟨_, p, rfl, n, c, nc, f⟩ := h
      obtain ⟨o, e, q⟩ := c.frozen n
      refine ⟨_, a.freeze e n nc f, .new n, q, ?_⟩
      have go : ∀ {vs : List V} {ss : List Sv}, TmpsOk K cl Γ0 σ0 H0 Γ Hf σ H vs ss → (∀ (i : Nat) (w : V) (s' : Sv), vs[i]? = some w → ss[i]? = some s' → Apart (.ref p) w (.cel k d) s') → TmpsOk K cl Γ0 σ0 H0 Γ (upd Hf p o) σ H vs ss := fun {vs ss} r ap => by
        induction r with
        | nil => exact .nil
        | @cons w s' vs ss h a2 _ ih =>
          refine .cons ?_ a2 (ih fun i w s' e1 e2 => ap (i + 1) w s' e1 e2)
          have ap0 := ap 0 w s' rfl rfl
          cases s' with
          | dat d' => exact Den.mono (.new n) h
          | cel k' d' =>
            obtain ⟨e1, q, rfl, n', c', nc', f'⟩ := h
            have hne : q ≠ p := fun z => ap0 (by rw [z])
            exact ⟨e1, q, rfl, by rw [upd_ne hne]; exact n', c'.mono (.new n) (fun _ h => h), nc', f'⟩
      exact go r ap
theorem TmpOk.stored (t : TmpOk K cl Γ0 σ0 H0 Γ Hf σ H w s') {i : Nat} (hi : i < Γ.length) (hi' : i < σ.length) (ap : Apart v w s s') : TmpOk K cl Γ0 σ0 H0 (Γ.set i (some s)) Hf (σ.set i (some v)) H w s' := by
  cases s' with
  | dat d => exact t
  | cel k d =>
    obtain ⟨e, p, rfl, n, c, nc, f⟩ := t
    refine ⟨e, p, rfl, n, c, ?_, f⟩
    rintro ⟨j, k', d', h1, h2⟩
    by_cases hj : j = i
    · subst hj
      rw [List.getElem?_set_self hi] at h1; rw [List.getElem?_set_self hi'] at h2
      cases h1; cases h2
      exact ap rfl
    · rw [List.getElem?_set_ne (Ne.symm hj)] at h1 h2
      exact nc ⟨j, k', d', h1, h2⟩
theorem TmpsOk.stored (t : TmpsOk K cl Γ0 σ0 H0 Γ Hf σ H (v :: vs) (s :: ss)) {i : Nat} (hi : i < Γ.length) (hi' : i < σ.length) : TmpsOk K cl Γ0 σ0 H0 (Γ.set i (some s)) Hf (σ.set i (some v)) H vs ss := by
  cases t with
  | cons h ap r =>
    have go : ∀ {vs : List V} {ss : List Sv}, TmpsOk K cl Γ0 σ0 H0 Γ Hf σ H vs ss → (∀ (i : Nat) (w : V) (s' : Sv), vs[i]? = some w → ss[i]? = some s' → Apart v w s s') → TmpsOk K cl Γ0 σ0 H0 (Γ.set i (some s)) Hf (σ.set i (some v)) H vs ss := fun {vs ss} r ap => by
      induction r with
      | nil => exact .nil
      | @cons w s' vs ss h a2 _ ih => exact .cons (h.stored hi hi' (ap 0 w s' rfl rfl)) a2 (ih fun i w s' e1 e2 => ap (i + 1) w s' e1 e2)
    exact go r ap
end

/-! ## targets -/
def svD : Sv → D
  | .dat d => d
  | .cel _ d => d
abbrev MG := Sv → SE → Option SE
abbrev MGs := List Sv → SE → Option SE
structure DG (X : Cx) (cl : ClA) (tg : Expr) (g : MG) : Prop where
  ex : ∃ t, PG X tg t ∧ ∀ (Γ0 : SE) (Hf0 : Hp) (σ0 : L2.St) (H0 : Hp) (Γ : SE) (Hf : Hp) (σ : L2.St) (H : Hp) (v : V) (s : Sv) (vs : List V) (ss : List Sv) (Γ' : SE) (Q : L2.St → Hp → Prop), Step X.K cl Γ0 Hf0 σ0 H0 Γ Hf σ H → TmpsOk X.K cl Γ0 σ0 H0 Γ Hf σ H (v :: vs) (s :: ss) → g s Γ = some Γ' →
    (∀ Hf' σ' H', Step X.K cl Γ0 Hf0 σ0 H0 Γ' Hf' σ' H' → TmpsOk X.K cl Γ0 σ0 H0 Γ' Hf' σ' H' vs ss → Q σ' H') → t v σ H Q
structure DGs (X : Cx) (cl : ClA) (tgs : List Expr) (g : MGs) : Prop where
  ex : ∃ t, PGs X tgs t ∧ ∀ (Γ0 : SE) (Hf0 : Hp) (σ0 : L2.St) (H0 : Hp) (Γ : SE) (Hf : Hp) (σ : L2.St) (H : Hp) (vs : List V) (ss : List Sv) (Γ' : SE) (Q : L2.St → Hp → Prop), Step X.K cl Γ0 Hf0 σ0 H0 Γ Hf σ H → TmpsOk X.K cl Γ0 σ0 H0 Γ Hf σ H vs ss → g ss Γ = some Γ' →
    (∀ Hf' σ' H', Step X.K cl Γ0 Hf0 σ0 H0 Γ' Hf' σ' H' → Q σ' H') → t vs σ H Q
/-- a target that stands alone -/
structure DGt (X : Cx) (cl : ClA) (tg : Expr) (g : MG) : Prop where
  ex : ∃ t, PG X tg t ∧ ∀ (Γ0 : SE) (Hf0 : Hp) (σ0 : L2.St) (H0 : Hp) (Γ : SE) (Hf : Hp) (σ : L2.St) (H : Hp) (v : V) (s : Sv) (Γ' : SE) (Q : L2.St → Hp → Prop), Step X.K cl Γ0 Hf0 σ0 H0 Γ Hf σ H → TmpOk X.K cl Γ0 σ0 H0 Γ Hf σ H v s → g s Γ = some Γ' →
    (∀ Hf' σ' H', Step X.K cl Γ0 Hf0 σ0 H0 Γ' Hf' σ' H' → Q σ' H') → t v σ H Q
theorem DG.top {X : Cx} {cl : ClA} {tg : Expr} {g : MG} (h : DG X cl tg g) : DGt X cl tg g := by
  obtain ⟨t, p, w⟩ := h.ex
  exact ⟨t, p, fun Γ0 Hf0 σ0 H0 Γ Hf σ H v s Γ' Q st ts e k => w Γ0 Hf0 σ0 H0 Γ Hf σ H v s [] [] Γ' Q st (.cons ts (fun _ _ _ h _ => by cases h) .nil) e fun Hf' σ' H' st' _ => k Hf' σ' H' st'⟩
def gNm (i : Nat) : MG := fun s Γ => match Γ[i]? with
  | some (some (.cel k _)) => if k = .own then some (Γ.set i (some s)) else none
  | some _ => some (Γ.set i (some s))
  | none => none
def gNil : MGs := fun ss Γ => if ss.isEmpty then some Γ else none
def gCons (g : MG) (gs : MGs) : MGs := fun ss Γ => match ss with
  | s :: r => (g s Γ).bind (gs r)
  | [] => none
def gTp (n : Nat) (gs : MGs) : MG := fun s Γ => match s with
  | .dat (.tup ds) => if ds.length = n then gs (ds.map Sv.dat) Γ else none
  | _ => none
section
variable {X : Cx} {cl : ClA} {pos : Pos}
theorem gNm_some {i : Nat} {s : Sv} {Γ Γ' : SE} (h : gNm i s Γ = some Γ') : i < Γ.length ∧ Γ' = Γ.set i (some s) ∧ ∀ k d, Γ[i]? = some (some (.cel k d)) → k = .own := by
  unfold gNm at h
  split at h
  · next k d e =>
    split at h
    · next hk => cases h; exact ⟨(List.getElem?_eq_some_iff.mp e).1, rfl, fun k' d' e' => by rw [e] at e'; cases e'; exact hk⟩
    · cases h
  · next o hne e => cases h; exact ⟨(List.getElem?_eq_some_iff.mp e).1, rfl, fun k' d' e' => (hne k' d' (Option.some.inj (e.symm.trans e'))).elim⟩
  · cases h
theorem dg_name (i : Nat) {x : PySem.Str} (hN : X.N.Nodup) (hi : X.N[i]? = some x := by rfl) (hx : Loc X.env.scope x := by first | exact .inl rfl | exact .inr rfl) (hf : X.fn x = true ∨ X.env.scope.names.lookup x = some .local := by first | exact .inl rfl | exact .inr rfl | assumption) :
    DG X cl (.Name x pos) (gNm i) := by
  refine ⟨_, pg_name hN hi hx hf, fun Γ0 Hf0 σ0 H0 Γ Hf σ H v s vs ss Γ' Q st t e k => ?_⟩
  obtain ⟨hl, rfl, hn⟩ := gNm_some e
  have hl' : i < σ.length := by rw [← st.rel.len]; exact hl
  refine k Hf _ H (st.store ?_ hl hn) (t.stored hl hl')
  cases t with
  | cons h _ _ => exact h
theorem dgs_nil : DGs X cl [] gNil := by
  refine ⟨_, pgs_nil, fun Γ0 Hf0 σ0 H0 Γ Hf σ H vs ss Γ' Q st t e k => ?_⟩
  unfold gNil at e
  split at e
  · next hs =>
    cases e
    cases t with
    | nil => exact ⟨rfl, k Hf σ H st⟩
    | cons _ _ _ => cases hs
  · cases e
theorem dgs_cons {e : Expr} {es : List Expr} {g : MG} {gs : MGs} (h1 : DG X cl e g) (h2 : DGs X cl es gs) (hs : (assignEach (e :: es) X.env).map (·.2) = assign e X.env :: (assignEach es X.env).map (·.2) := by rfl) : DGs X cl (e :: es) (gCons g gs) := by
  obtain ⟨t1, p1, w1⟩ := h1.ex
  obtain ⟨t2, p2, w2⟩ := h2.ex
  refine ⟨_, pgs_cons p1 p2 hs, fun Γ0 Hf0 σ0 H0 Γ Hf σ H vs ss Γ' Q st t e k => ?_⟩
  unfold gCons at e
  cases t with
  | nil => cases e
  | @cons v s vs ss h ap r =>
    obtain ⟨Γ1, e1, e2⟩ := Option.bind_eq_some_iff.mp e
    exact ⟨v, vs, rfl, w1 Γ0 Hf0 σ0 H0 Γ Hf σ H v s vs ss Γ1 _ st (.cons h ap r) e1 fun Hf' σ' H' st' t' => w2 Γ0 Hf0 σ0 H0 Γ1 Hf' σ' H' vs ss Γ' Q st' t' e2 k⟩
theorem dg_tup {es : List Expr} {k : Nat} {gs : MGs} {n : Nat} (hc : X.calm = true) (h : DGs X cl es gs) (hn : (assignEach es X.env).length = n := by rfl) (hst : (assignEach es X.env).findIdx? (·.1) = none := by rfl) : DGt X cl (.Tuple es k pos) (gTp n gs) := by
  obtain ⟨t, p, w⟩ := h.ex
  refine ⟨_, pg_tup hc p hn hst, fun Γ0 Hf0 σ0 H0 Γ Hf σ H v s Γ' Q st h0 e kk => ?_⟩
  unfold gTp at e
  split at e
  · next ds =>
    split at e
    · next hl =>
      cases (show Den X.K cl Hf v (.tup ds) from h0) with
      | @tup a xs _ h1 h2 => exact ⟨a, xs, rfl, st.rel.le.sqt h1, by rw [h2.length]; exact hl, w Γ0 Hf0 σ0 H0 Γ Hf σ H xs (ds.map Sv.dat) Γ' Q st (.dats h2) e kk⟩
    · cases e
  · cases e
/-- o[i] = .., o a name -/
def setI (ds : List D) (e d : D) : Option (List D) := match e with
  | .int i => (ixN ds.length i).map fun j => ds.set j d
  | _ => none
def setSv (s : Sv) (e d : D) : Option Sv := match s with
  | .cel k (.lst ds) => if k = .lok then none else (setI ds e d).map fun r => .cel k (.lst r)
  | .cel k (.dic ds) => if k = .lok then none else if ds.length < sizeLine then (keyOf e).map fun key => .cel k (.dic (putD ds key d)) else none
  | _ => none
def gSb (k : Nat) (mi : MD) : MG := fun s Γ => if (peek Γ k).isNone then none else match mi Γ with
  | .ok e Γ1 => (Γ1[k]?.bind id).bind fun s' => (setSv s' e (svD s)).map fun r => Γ1.set k (some r)
  | _ => none
theorem PSet.or {t u : TSet} (h1 : PSet X t) (h2 : PSet X u) : PSet X (fun o i v H Q => t o i v H Q ∨ u o i v H Q) := fun pins s σ H o i v ov iv w Q I r1 r2 r3 h => h.elim (h1 pins s σ H o i v ov iv w Q I r1 r2 r3) (h2 pins s σ H o i v ov iv w Q I r1 r2 r3)
theorem dg_sub (k : Nat) {x : PySem.Str} {p : Pos} {i : Expr} {mi : MD} {W : WX} (hu : X.A.units + 1 < cLine) (hi : DD X cl W i mi) (hN : X.N[k]? = some x := by rfl) (hv : Vis X.env.scope x := by first | exact Or.inl rfl | exact Or.inr (Or.inl rfl) | exact Or.inr (Or.inr rfl))
    (hd : (x == ("__debug__" : PySem.Str)) = false := by decide) (hcd : (x == ("__classdict__" : PySem.Str)) = false := by decide)
    (ha : ∀ v, assign (.Subscript (.Name x p) i pos) X.env v = (do
      let ov ← holding [v] (eval (.Name x p) X.env)
      let iv ← holding [v, ov] (eval i X.env)
      standAt pos
      holding [v, ov, iv] (setItem ov iv v)
      release [v, ov, iv] []) := by intro _; rfl) : DG X cl (.Subscript (.Name x p) i pos) (gSb k mi) := by
  obtain ⟨ti, pi, wi⟩ := hi.ex
  refine ⟨_, pg_sub (pe_var hN hv hd hcd) pi (PSet.or set_list (set_dict hu)) ha, fun Γ0 Hf0 σ0 H0 Γ Hf σ H v s vs ss Γ' Q st ts e kk => ?_⟩
  obtain ⟨Hf2, st2, l2, hv2, ts2⟩ := ts.freeze st
  unfold gSb at e
  split at e
  · cases e
  next hpk =>
  obtain ⟨d00, hpk⟩ : ∃ d, peek Γ k = some d := by
    cases q : peek Γ k with
    | none => rw [q] at hpk; exact absurd rfl hpk
    | some d => exact ⟨d, rfl⟩
  obtain ⟨v0, ev0, _⟩ := st2.rel.peek hpk
  cases em : mi Γ with
  | exc c as Γ1 => rw [em] at e; cases e
  | bad => rw [em] at e; cases e
  | ok d Γ1 =>
    rw [em] at e
    obtain ⟨s', e1, e2⟩ := Option.bind_eq_some_iff.mp e
    obtain ⟨s0, e0, e1'⟩ := Option.bind_eq_some_iff.mp e1
    cases (show s0 = some s' from e1')
    obtain ⟨r, e3, e4⟩ := Option.map_eq_some_iff.mp e2
    subst e4
    refine ⟨v0, ev0, wi Γ Hf2 σ H _ ⟨st2.rel, fun a Γ' ea y Hf3 H3 st3 py => ?_, fun c as Γ' ea => (by rw [em] at ea; cases ea), (by rw [em]; exact fun z => nomatch z)⟩⟩
    rw [em] at ea; cases ea
    have st' := st2.trans st3
    have ts' := ts2.carry st3
    have dv : Den X.K cl Hf3 v (svD s) := by
      cases s with
      | dat d => exact Den.mono st3.le hv2
      | cel kk d => exact Den.mono st3.le hv2
    obtain ⟨u, eu, so⟩ := st3.rel.at_ k s' e0
    rw [ev0] at eu; cases eu
    unfold setSv at e3
    split at e3
    · next kd ds =>
      split at e3
      · cases e3
      next hk =>
      obtain ⟨q, rfl, nq, c⟩ := so
      obtain ⟨ds', e5, rfl⟩ := Option.map_eq_some_iff.mp e3
      unfold setI at e5
      split at e5
      · next ii =>
        obtain ⟨j, e6, rfl⟩ := Option.map_eq_some_iff.mp e5
        cases py
        cases c with
        | @lst xs _ h1 h2 =>
          have stc := st3.rel.change (o := .lst (xs.set j v)) (d' := .lst (ds.set j (svD s))) e0 ev0 hk (.lst upd_same (h2.set j dv))
          exact .inl ⟨q, xs, ii, j, rfl, rfl, h1, by rw [h2.length]; exact e6, kk _ _ _ (st'.trans stc) (ts'.carry stc)⟩
      · cases e5
    · next kd ds =>
      split at e3
      · cases e3
      next hk =>
      split at e3
      next hl =>
        obtain ⟨q, rfl, nq, c⟩ := so
        obtain ⟨key, e5, rfl⟩ := Option.map_eq_some_iff.mp e3
        cases c with
        | @dic kvs _ h1 h2 =>
          have stc := st3.rel.change (o := .dK (putK kvs key v)) (d' := .dic (putD ds key (svD s))) e0 ev0 hk (.dic upd_same (h2.put key dv))
          have ey := py.key e5
          refine .inr ⟨q, _, rfl, .inl ⟨kvs, key, h1, ey, by rw [h2.length]; exact hl, rfl⟩, kk _ _ _ (st'.trans stc) (ts'.carry stc)⟩
      · cases e3
    · cases e3
end
end DL
end

section
set_option Elab.async false
set_option linter.all false
set_option maxRecDepth 100000
set_option maxHeartbeats 2000000
namespace DL
open PySem PySem.Spec PyProof.Rows L2


/-! ## statements -/
def Res.bndS {α : Type} (r : Res α) (f : α → SE → RS) : RS := match r with
  | .ok a Γ => f a Γ
  | .exc c as Γ => .ex c as Γ
  | .bad => .bad
def RS.thn (r : RS) (f : SE → RS) : RS := match r with
  | .nx Γ => f Γ
  | .rt s Γ => .rt s Γ
  | .bk Γ => .bk Γ
  | .ct Γ => .ct Γ
  | .ex c as Γ => .ex c as Γ
  | .bad => .bad
section
variable {K : PySem.W.Frag} {cl : ClA} {Γ Γ1 Γ2 : SE} {Hf Hf1 Hf2 H H1 H2 : Hp} {σ σ1 σ2 : L2.St} {W : WX} {r : RS} {D : Ends}
theorem WantsS.after (w : WantsS K cl Γ Hf σ H W r D) (st : Step K cl Γ Hf σ H Γ1 Hf1 σ1 H1) : WantsS K cl Γ1 Hf1 σ1 H1 W r D where
  rel := st.rel
  nx := fun Γ' e Hf' σ' H' st2 => w.nx Γ' e Hf' σ' H' (st.trans st2)
  rt := fun s Γ' e v Hf' σ' H' st2 t => w.rt s Γ' e v Hf' σ' H' (st.trans st2) (TmpOk.back st t)
  bk := fun Γ' e Hf' σ' H' st2 => w.bk Γ' e Hf' σ' H' (st.trans st2)
  ct := fun Γ' e Hf' σ' H' st2 => w.ct Γ' e Hf' σ' H' (st.trans st2)
  ex := fun c as Γ' e d Hf' σ' H' st2 x => w.ex c as Γ' e d Hf' σ' H' (st.trans st2) x
  nb := w.nb
theorem WantsS.bind {α υ : Type} {r : Res α} {f : α → SE → RS} {PA : SE → Hp → Hp → α → υ → Prop} {Q' : υ → Hp → Prop} (w : WantsS K cl Γ Hf σ H W (r.bndS f) D)
    (h : ∀ a Γ', r = .ok a Γ' → ∀ v Hf' H', Step K cl Γ Hf σ H Γ' Hf' σ H' → PA Γ' Hf' H' a v → Q' v H') : Wants K cl Γ Hf σ H PA (fun c d H' => W c d σ H') r Q' where
  rel := w.rel
  ok := h
  exc := fun c as Γ' e d Hf' H' st x => w.ex c as Γ' (by rw [e]; rfl) d Hf' σ H' st x
  nb := fun e => w.nb (by rw [e]; rfl)
theorem WantsS.bindT {α : Type} {r : Res α} {f : α → SE → RS} {Q' : α → Hp → Prop} (w : WantsS K cl Γ Hf σ H W (r.bndS f) D)
    (h : ∀ a Γ', r = .ok a Γ' → ∀ Hf' H', Step K cl Γ Hf σ H Γ' Hf' σ H' → Q' a H') : WantsT K cl Γ Hf σ H (fun c d H' => W c d σ H') r (fun b _ _ H' => Q' b H') where
  rel := w.rel
  ok := h
  exc := fun c as Γ' e d Hf' H' st x => w.ex c as Γ' (by rw [e]; rfl) d Hf' σ H' st x
  nb := fun e => w.nb (by rw [e]; rfl)
theorem WantsS.of {α : Type} {r : Res α} {f : α → SE → RS} {a : α} (w : WantsS K cl Γ Hf σ H W (r.bndS f) D) (e : r = .ok a Γ1) : WantsS K cl Γ Hf σ H W (f a Γ1) D := by rw [e] at w; exact w
theorem WantsS.opt {o : Option SE} (w : WantsS K cl Γ Hf σ H W (match o with | some Γ' => .nx Γ' | none => .bad) D) : ∃ Γ', o = some Γ' ∧ ∀ Hf' σ' H', Step K cl Γ Hf σ H Γ' Hf' σ' H' → D.nx σ' H' := by
  cases o with
  | none => exact (w.nb rfl).elim
  | some Γ' => exact ⟨Γ', rfl, w.nx Γ' rfl⟩
end
def optS : Option SE → RS
  | some Γ' => .nx Γ'
  | none => .bad
theorem WantsS.optS {K : PySem.W.Frag} {cl : ClA} {Γ : SE} {Hf H : Hp} {σ : L2.St} {W : WX} {D : Ends} {o : Option SE} (w : WantsS K cl Γ Hf σ H W (optS o) D) : ∃ Γ', o = some Γ' ∧ ∀ Hf' σ' H', Step K cl Γ Hf σ H Γ' Hf' σ' H' → D.nx σ' H' := by
  cases o with
  | none => exact (w.nb rfl).elim
  | some Γ' => exact ⟨Γ', rfl, w.nx Γ' rfl⟩
abbrev MEs := SE → Res (List Sv)
abbrev PSvs (K : PySem.W.Frag) (cl : ClA) (Γ : SE) (σ : L2.St) (H : Hp) : SE → Hp → Hp → List Sv → List V → Prop := fun Γ' Hf' H' ss vs => TmpsOk K cl Γ σ H Γ' Hf' σ H' vs ss
def WEs (K : PySem.W.Frag) (cl : ClA) (ta : TA) (W : WX) (m : MEs) : Prop := ∀ Γ Hf σ H (Q : List V → Hp → Prop), Wants K cl Γ Hf σ H (PSvs K cl Γ σ H) (fun c d H' => W c d σ H') (m Γ) Q → ta σ H Q
structure DEs (X : Cx) (cl : ClA) (W : WX) (es : List Expr) (m : MEs) : Prop where
  ex : ∃ ta, PA X es ta ∧ WEs X.K cl ta W m
def mENil : MEs := fun Γ => .ok [] Γ
def mECons (m : ME) (r : MEs) : MEs := fun Γ => (m Γ).bnd fun s Γ1 => (r Γ1).bnd fun ss Γ2 => .ok (s :: ss) Γ2
section
variable {K : PySem.W.Frag} {cl : ClA} {Γ0 Γ Γ1 Γ2 : SE} {Hf Hf1 Hf2 H0 H H1 H2 : Hp} {σ0 σ σ1 σ2 : L2.St} {v : V} {s : Sv} {vs : List V} {ss : List Sv}
theorem TmpsOk.back (a : Step K cl Γ Hf σ H Γ1 Hf1 σ1 H1) (t : TmpsOk K cl Γ1 σ1 H1 Γ2 Hf2 σ2 H2 vs ss) : TmpsOk K cl Γ σ H Γ2 Hf2 σ2 H2 vs ss := by
  induction t with
  | nil => exact .nil
  | cons h ap _ ih => exact .cons (TmpOk.back a h) ap ih
theorem TmpsOk.at_ (t : TmpsOk K cl Γ0 σ0 H0 Γ Hf σ H vs ss) : ∀ {i : Nat} {w : V} {s' : Sv}, vs[i]? = some w → ss[i]? = some s' → TmpOk K cl Γ0 σ0 H0 Γ Hf σ H w s' := by
  induction t with
  | nil => intro i w s' h; cases h
  | cons h ap _ ih =>
    intro i w s' h1 h2
    cases i with
    | zero => cases h1; cases h2; exact h
    | succ i => exact ih h1 h2
theorem TmpsOk.push (t1 : TmpOk K cl Γ σ H Γ1 Hf1 σ1 H1 v s) (a : Step K cl Γ Hf σ H Γ1 Hf1 σ1 H1) (st : Step K cl Γ1 Hf1 σ1 H1 Γ2 Hf2 σ2 H2) (t2 : TmpsOk K cl Γ1 σ1 H1 Γ2 Hf2 σ2 H2 vs ss) : TmpsOk K cl Γ σ H Γ2 Hf2 σ2 H2 (v :: vs) (s :: ss) := by
  refine .cons (t1.carry st) (fun i w s' h1 h2 => ?_) (t2.back a)
  have q := t2.at_ h1 h2
  cases s with
  | dat d => trivial
  | cel k d =>
    cases s' with
    | dat d' => trivial
    | cel k' d' =>
      obtain ⟨_, p, rfl, n, c, nc, f⟩ := t1
      obtain ⟨_, p', rfl, n', c', nc', f'⟩ := q
      intro z
      cases z
      rcases f' with f' | f'
      · exact nc f'.cel
      · obtain ⟨o, ho⟩ := c.there
        rw [ho] at f'; cases f'
end
section
variable {X : Cx} {cl : ClA} {W : WX} {e tg : Expr} {es tgs : List Expr} {st : Stmt} {rest : List Stmt} {pos : Pos} {m : ME} {r : MEs}
theorem des_nil : DEs X cl W [] mENil := ⟨_, pa_nil, fun Γ Hf σ H Q w => w.done .nil⟩
theorem des_cons (he : DE X cl W e m) (hr : DEs X cl W es r) (hs : starEach (e :: es) X.env = (false, eval e X.env) :: starEach es X.env := by rfl) : DEs X cl W (e :: es) (mECons m r) := by
  obtain ⟨te, p1, w1⟩ := he.ex
  obtain ⟨ta, p2, w2⟩ := hr.ex
  refine ⟨_, pa_cons p1 p2 hs, fun Γ Hf σ H Q w => w1 Γ Hf σ H _ (w.bind fun s Γ1 e1 x Hf1 H1 st1 t1 => ?_)⟩
  have wa := w.nextE e1 st1
  refine w2 Γ1 Hf1 σ H1 _ ⟨st1.rel, fun ss Γ2 e2 vs Hf2 H2 st2 t2 => ?_, fun c as Γ2 e2 => w.exc c as Γ2 (by unfold mECons; rw [e1]; show (r Γ1).bnd _ = _; rw [e2]; rfl) |> fun z d Hf2 H2 st2 x => z d Hf2 H2 (st1.trans st2) x, fun e2 => w.nb (by unfold mECons; rw [e1]; show (r Γ1).bnd _ = _; rw [e2]; rfl)⟩
  exact w.ok (s :: ss) Γ2 (by unfold mECons; rw [e1]; show (r Γ1).bnd _ = _; rw [e2]; rfl) (x :: vs) Hf2 H2 (st1.trans st2) (.push t1 st1 st2 t2)
/-- target = value -/
def mAsg (m : ME) (g : MG) : MS := fun Γ => (m Γ).bndS fun s Γ1 => optS (g s Γ1)
theorem ds_asg {g : MG} (he : DE X cl W e m) (hg : DGt X cl tg g) (hs : swapsWithSole [tg] e pos.line X.env = pure false := by rfl) (hw : swappedStores [tg] e X.env = pure none := by rfl)
    (h1 : (assignEach [tg] X.env).map (·.2) = [assign tg X.env] := by rfl) : DS X cl W (.Assign [tg] e pos) (mAsg m g) := by
  obtain ⟨te, pe, we⟩ := he.ex
  obtain ⟨t, pg, wg⟩ := hg.ex
  refine ⟨_, ps_asg pe pg hs hw h1, fun Γ Hf σ H D w => we Γ Hf σ H _ (w.bind fun s Γ1 e1 x Hf1 H1 st1 t1 => ?_)⟩
  obtain ⟨Γ2, e2, k⟩ := (w.of e1).optS
  exact wg Γ Hf σ H Γ1 Hf1 σ H1 x s Γ2 _ st1 t1 e2 k
theorem ds_set (i : Nat) {x : PySem.Str} {pos' : Pos} (hN : X.N.Nodup) (he : DE X cl W e m) (hi : X.N[i]? = some x := by rfl) (hx : Loc X.env.scope x := by first | exact .inl rfl | exact .inr rfl) (hs : swapsWith e (some (.Name x pos')) pos.line X.env = pure false := by rfl) (hf : X.fn x = true ∨ X.env.scope.names.lookup x = some .local := by first | exact .inl rfl | exact .inr rfl | assumption) :
    DS X cl W (.Assign [.Name x pos'] e pos) (mAsg m (gNm i)) := by
  obtain ⟨te, pe, we⟩ := he.ex
  refine ⟨_, ps_set hN hi hx pe hs hf, fun Γ Hf σ H D w => we Γ Hf σ H _ (w.bind fun s Γ1 e1 x Hf1 H1 st1 t1 => ?_)⟩
  obtain ⟨Γ2, e2, k⟩ := (w.of e1).optS
  obtain ⟨hl, rfl, hn⟩ := gNm_some e2
  exact k Hf1 _ H1 (st1.store t1 hl hn)
/-- a, b = x, y: stored without a tuple -/
def mPar (i j : Nat) (r : MEs) : MS := fun Γ => (r Γ).bndS fun ss Γ1 => match ss with
  | [a, b] => optS ((gNm i a Γ1).bind (gNm j b))
  | _ => .bad
theorem ds_par (i j : Nat) {x y : PySem.Str} {a b : Expr} {px py pt : Pos} {kt k2 pt2} (hc : X.calm = true) (hN : X.N.Nodup) (ha : DEs X cl W [a, b] r) (hij : i ≠ j := by decide) (hi : X.N[i]? = some x := by rfl) (hj : X.N[j]? = some y := by rfl)
    (hx : X.env.scope.names.lookup x = some .local := by rfl) (hy : X.env.scope.names.lookup y = some .local := by rfl)
    (hw : swappedStores [.Tuple [.Name x px, .Name y py] kt pt] (.Tuple [a, b] k2 pt2) X.env = pure (some [x, y]) := by rfl)
    (hs : swapsWithSole [.Tuple [.Name x px, .Name y py] kt pt] (.Tuple [a, b] k2 pt2) pos.line X.env = pure false := by rfl) :
    DS X cl W (.Assign [.Tuple [.Name x px, .Name y py] kt pt] (.Tuple [a, b] k2 pt2) pos) (mPar i j r) := by
  obtain ⟨ta, pa, wa⟩ := ha.ex
  refine ⟨_, ps_par hc hN hi hj hij hx hy pa hw hs, fun Γ Hf σ H D w => wa Γ Hf σ H _ (w.bind fun ss Γ1 e1 vs Hf1 H1 st1 t1 => ?_)⟩
  have w1 := w.of e1
  match ss, t1, w1 with
  | [s1, s2], .cons (v := v) (vs := [u]) h1 ap (.cons h2 _ .nil), w1 =>
    obtain ⟨Γ2, e2, k⟩ := w1.optS
    obtain ⟨Γ3, e3, e4⟩ := Option.bind_eq_some_iff.mp e2
    obtain ⟨hl, rfl, hn⟩ := gNm_some e3
    obtain ⟨hl2, rfl, hn2⟩ := gNm_some e4
    have hl' : i < σ.length := by rw [← st1.rel.len]; exact hl
    exact ⟨v, u, rfl, k Hf1 _ H1 ((st1.store h1 hl hn).store (h2.stored hl hl' (ap 0 u s2 rfl rfl)) hl2 hn2)⟩
  | [], _, w1 => exact (w1.nb rfl).elim
  | [_], _, w1 => exact (w1.nb rfl).elim
  | _ :: _ :: _ :: _, _, w1 => exact (w1.nb rfl).elim
def mPar3 (i j l : Nat) (r : MEs) : MS := fun Γ => (r Γ).bndS fun ss Γ1 => match ss with
  | [a, b, c] => optS (((gNm i a Γ1).bind (gNm j b)).bind (gNm l c))
  | _ => .bad
theorem ds_par3 (i j l : Nat) {x y z : PySem.Str} {a b c : Expr} {px py pz pt : Pos} {kt k2 pt2} (hc : X.calm = true) (hN : X.N.Nodup) (ha : DEs X cl W [a, b, c] r) (hij : i ≠ j := by decide) (hil : i ≠ l := by decide) (hjl : j ≠ l := by decide) (hi : X.N[i]? = some x := by rfl) (hj : X.N[j]? = some y := by rfl) (hl : X.N[l]? = some z := by rfl)
    (hx : X.env.scope.names.lookup x = some .local := by rfl) (hy : X.env.scope.names.lookup y = some .local := by rfl) (hz : X.env.scope.names.lookup z = some .local := by rfl)
    (hw : swappedStores [.Tuple [.Name x px, .Name y py, .Name z pz] kt pt] (.Tuple [a, b, c] k2 pt2) X.env = pure (some [x, y, z]) := by rfl)
    (hs : swapsWithSole [.Tuple [.Name x px, .Name y py, .Name z pz] kt pt] (.Tuple [a, b, c] k2 pt2) pos.line X.env = pure false := by rfl) :
    DS X cl W (.Assign [.Tuple [.Name x px, .Name y py, .Name z pz] kt pt] (.Tuple [a, b, c] k2 pt2) pos) (mPar3 i j l r) := by
  obtain ⟨ta, pa, wa⟩ := ha.ex
  refine ⟨_, L2.ps_par3 hc hN hi hj hl hij hil hjl hx hy hz pa hw hs, fun Γ Hf σ H D w => wa Γ Hf σ H _ (w.bind fun ss Γ1 e1 vs Hf1 H1 st1 t1 => ?_)⟩
  have w1 := w.of e1
  match ss, t1, w1 with
  | [s1, s2, s3], .cons (v := v) (vs := [u1, u2]) h1 ap (.cons h2 ap2 (.cons h3 _ .nil)), w1 =>
    obtain ⟨Γ2, e2, k⟩ := w1.optS
    obtain ⟨Γ3, e3, e4⟩ := Option.bind_eq_some_iff.mp e2
    obtain ⟨Γ4, e5, e6⟩ := Option.bind_eq_some_iff.mp e3
    obtain ⟨hl, rfl, hn⟩ := gNm_some e5
    obtain ⟨hl2, rfl, hn2⟩ := gNm_some e6
    obtain ⟨hl3, rfl, hn3⟩ := gNm_some e4
    have hl' : i < σ.length := by rw [← st1.rel.len]; exact hl
    have st2 := st1.store h1 hl hn
    have h2' := h2.stored hl hl' (ap 0 u1 s2 rfl rfl)
    have h3' := h3.stored hl hl' (ap 1 u2 s3 rfl rfl)
    have hl2' : j < (σ.set i (some v)).length := by rw [← st2.rel.len]; exact hl2
    exact ⟨v, u1, u2, rfl, k Hf1 _ H1 ((st2.store h2' hl2 hn2).store (h3'.stored hl2 hl2' (ap2 0 u2 s3 rfl rfl)) hl3 hn3)⟩
  | [], _, w1 => exact (w1.nb rfl).elim
  | [_], _, w1 => exact (w1.nb rfl).elim
  | [_, _], _, w1 => exact (w1.nb rfl).elim
  | _ :: _ :: _ :: _ :: _, _, w1 => exact (w1.nb rfl).elim
/-- targets = a tuple written out, through a tuple -/
def mAsgT (n : Nat) (r : MEs) (gs : MGs) : MS := fun Γ => (r Γ).bndS fun ss Γ1 => if ss.length = n ∧ n ≤ sizeLine then optS (gs ss Γ1) else .bad
theorem ds_asgT {gs : MGs} {k k2 : Nat} {p1 p2 : Pos} {n : Nat} (hc : X.calm = true) (he : DEs X cl W es r) (hg : DGs X cl tgs gs) (hn : (assignEach tgs X.env).length = n := by rfl) (hst : (assignEach tgs X.env).findIdx? (·.1) = none := by rfl)
    (hs : swapsWithSole [.Tuple tgs k p1] (.Tuple es k2 p2) pos.line X.env = pure false := by rfl) (hw : swappedStores [.Tuple tgs k p1] (.Tuple es k2 p2) X.env = pure none := by rfl)
    (h1 : (assignEach [.Tuple tgs k p1] X.env).map (·.2) = [assign (.Tuple tgs k p1) X.env] := by rfl) : DS X cl W (.Assign [.Tuple tgs k p1] (.Tuple es k2 p2) pos) (mAsgT n r gs) := by
  obtain ⟨ta, pa, wa⟩ := he.ex
  obtain ⟨t, pg, wg⟩ := hg.ex
  refine ⟨_, ps_asg (pe_tup pa) (pg_tup hc pg hn hst) hs hw h1, fun Γ Hf σ H D w => wa Γ Hf σ H _ (w.bind fun ss Γ1 e1 vs Hf1 H1 st1 t1 => ?_)⟩
  have w1 := w.of e1
  split at w1
  · next hc =>
    obtain ⟨Γ2, e2, k⟩ := w1.optS
    have hl := t1.length
    refine ⟨by omega, fun p hp => ⟨p, vs, rfl, .inl (.inl upd_same), by omega, ?_⟩⟩
    have stg := st1.rel.grown (o := .tup vs) hp
    exact wg Γ Hf σ H Γ1 Hf1 σ _ vs ss Γ2 _ (st1.trans stg) (t1.carry stg) e2 k
  · exact (w1.nb rfl).elim
def mDrop (m : ME) : MS := fun Γ => (m Γ).bndS fun _ Γ1 => .nx Γ1
theorem ds_expr (he : DE X cl W e m) (hs : swapsWith e none pos.line X.env = pure false := by rfl) : DS X cl W (.Expr e pos) (mDrop m) := by
  obtain ⟨te, pe, we⟩ := he.ex
  exact ⟨_, ps_expr pe hs, fun Γ Hf σ H D w => we Γ Hf σ H _ (w.bind fun s Γ1 e1 x Hf1 H1 st1 t1 => (w.of e1).nx Γ1 rfl Hf1 σ H1 st1)⟩
def mRet (m : ME) : MS := fun Γ => (m Γ).bndS fun s Γ1 => .rt s Γ1
theorem ds_ret (he : DE X cl W e m) : DS X cl W (.Return (some e) pos) (mRet m) := by
  obtain ⟨te, pe, we⟩ := he.ex
  exact ⟨_, ps_ret pe, fun Γ Hf σ H D w => we Γ Hf σ H _ (w.bind fun s Γ1 e1 x Hf1 H1 st1 t1 => (w.of e1).rt s Γ1 rfl x Hf1 σ H1 st1 t1)⟩
def mRetN : MS := fun Γ => .rt (.dat .non) Γ
theorem ds_retN : DS X cl W (.Return none pos) mRetN := ⟨_, ps_retN, fun Γ Hf σ H D w => w.rt _ Γ rfl .non Hf σ H (.refl w.rel) Den.non⟩
def mNx : MS := fun Γ => .nx Γ
theorem ds_pass : DS X cl W (.Pass pos) mNx := ⟨_, ps_pass, fun Γ Hf σ H D w => w.nx Γ rfl Hf σ H (.refl w.rel)⟩
theorem ds_brk : DS X cl W (.Break pos) (fun Γ => .bk Γ) := ⟨_, ps_break, fun Γ Hf σ H D w => w.bk Γ rfl Hf σ H (.refl w.rel)⟩
theorem ds_cont : DS X cl W (.Continue pos) (fun Γ => .ct Γ) := ⟨_, ps_continue, fun Γ Hf σ H D w => w.ct Γ rfl Hf σ H (.refl w.rel)⟩
def mIfS (c : MT) (a b : MS) : MS := fun Γ => (c Γ).bndS fun t Γ1 => if t then a Γ1 else b Γ1
theorem ds_if {c : Expr} {a b : List Stmt} {mc : MT} {ma mb : MS} (hc : DT X cl W c mc) (ha : DSs X cl W a ma) (hb : DSs X cl W b mb) : DS X cl W (.If c a b pos) (mIfS mc ma mb) := by
  obtain ⟨tc, pc, wc⟩ := hc.ex
  obtain ⟨ta, pa, wa⟩ := ha.ex
  obtain ⟨tb, pb, wb⟩ := hb.ex
  refine ⟨_, ps_if pc pa pb, fun Γ Hf σ H D w => wc Γ Hf σ H _ (w.bindT fun t Γ1 e1 Hf1 H1 st1 => ?_)⟩
  have w1 := (w.of e1).after st1
  cases t with
  | true => exact wa Γ1 Hf1 σ H1 D w1
  | false => exact wb Γ1 Hf1 σ H1 D w1
def mSq (m r : MS) : MS := fun Γ => (m Γ).thn r
theorem dss_nil : DSs X cl W [] mNx := ⟨_, pss_nil, fun Γ Hf σ H D w => w.nx Γ rfl Hf σ H (.refl w.rel)⟩
theorem dss_cons {m r : MS} (h : DS X cl W st m) (hr : DSs X cl W rest r) : DSs X cl W (st :: rest) (mSq m r) := by
  obtain ⟨t, p, w1⟩ := h.ex
  obtain ⟨u, q, w2⟩ := hr.ex
  refine ⟨_, pss_cons p q, fun Γ Hf σ H D w => w1 Γ Hf σ H _ ⟨w.rel, fun Γ' e Hf' σ' H' st => ?_, fun s Γ' e => ?_, fun Γ' e => ?_, fun Γ' e => ?_, fun c as Γ' e => ?_, fun e => ?_⟩⟩
  · exact w2 Γ' Hf' σ' H' D (WantsS.after (by unfold mSq at w; rw [e] at w; exact w) st)
  · exact w.rt s Γ' (by unfold mSq; rw [e]; rfl)
  · exact w.bk Γ' (by unfold mSq; rw [e]; rfl)
  · exact w.ct Γ' (by unfold mSq; rw [e]; rfl)
  · exact w.ex c as Γ' (by unfold mSq; rw [e]; rfl)
  · exact w.nb (by unfold mSq; rw [e]; rfl)
theorem dss_one {m : MS} (h : DS X cl W st m) : DSs X cl W [st] m := let ⟨t, p, w⟩ := h.ex; ⟨t, pss_one p, w⟩
/-- while, with fuel -/
def RS.lp (r : RS) (f : SE → RS) : RS := match r with
  | .nx Γ => f Γ
  | .ct Γ => f Γ
  | .bk Γ => .nx Γ
  | .rt s Γ => .rt s Γ
  | .ex c as Γ => .ex c as Γ
  | .bad => .bad
def mWhile (c : MT) (b : MS) : Nat → MS
  | 0 => fun _ => .bad
  | n + 1 => fun Γ => (c Γ).bndS fun t Γ1 => if t then (b Γ1).lp (mWhile c b n) else .nx Γ1
section
variable {K : PySem.W.Frag} {Γ : SE} {Hf H : Hp} {σ : L2.St} {D : Ends} {r : RS} {f : SE → RS} {N : L2.St → Hp → Prop}
theorem WantsS.turn (w : WantsS K cl Γ Hf σ H W (r.lp f) D) (hN : ∀ Γ' Hf' σ' H', WantsS K cl Γ' Hf' σ' H' W (f Γ') D → N σ' H') : WantsS K cl Γ Hf σ H W r { D with nx := N, ct := N, bk := D.nx } where
  rel := w.rel
  nx := fun Γ' e Hf' σ' H' st => hN Γ' Hf' σ' H' (WantsS.after (by rw [e] at w; exact w) st)
  ct := fun Γ' e Hf' σ' H' st => hN Γ' Hf' σ' H' (WantsS.after (by rw [e] at w; exact w) st)
  bk := fun Γ' e => w.nx Γ' (by rw [e]; rfl)
  rt := fun s Γ' e => w.rt s Γ' (by rw [e]; rfl)
  ex := fun c as Γ' e => w.ex c as Γ' (by rw [e]; rfl)
  nb := fun e => w.nb (by rw [e]; rfl)
end
theorem ds_while (n : Nat) {c : Expr} {b : List Stmt} {mc : MT} {mb : MS} (hp : PassesOwn (model X.prog X.w) X.A X.env X.xe) (hc : DT X cl W c mc) (hb : DSs X cl W b mb) : DS X cl W (.While c b [] pos) (mWhile mc mb n) := by
  obtain ⟨tc, pc, wc⟩ := hc.ex
  obtain ⟨tb, pb, wb⟩ := hb.ex
  refine ⟨_, ps_while hp pc pb, fun Γ Hf σ H D w => ⟨fun m σ' H' => ∃ Γ' Hf', WantsS X.K cl Γ' Hf' σ' H' W (mWhile mc mb m Γ') D, ⟨n, Γ, Hf, w⟩, fun m σ H ⟨Γ, Hf, w⟩ => ?_⟩⟩
  cases m with
  | zero => exact (w.nb rfl).elim
  | succ m =>
    have w' : WantsS X.K cl Γ Hf σ H W ((mc Γ).bndS fun t Γ1 => if t then (mb Γ1).lp (mWhile mc mb m) else .nx Γ1) D := w
    refine wc Γ Hf σ H _ (w'.bindT fun t Γ1 e1 Hf1 H1 st1 => ?_)
    have w1 := (w'.of e1).after st1
    cases t with
    | true => exact ⟨fun σ' H' => ∃ Γ' Hf', WantsS X.K cl Γ' Hf' σ' H' W (mWhile mc mb m Γ') D, fun σ' H' h => ⟨m, Nat.lt_succ_self m, h⟩, wb Γ1 Hf1 σ H1 _ (WantsS.turn w1 fun Γ' Hf' σ' H' h => ⟨Γ', Hf', h⟩)⟩
    | false => exact w1.nx Γ1 rfl Hf1 σ H1 (.refl w1.rel)
end
end DL
end

section
set_option Elab.async false
set_option linter.all false
set_option maxRecDepth 100000
set_option maxHeartbeats 2000000
namespace DL
open PySem PySem.Spec PyProof.Rows L2


/-! ## one word for each of m -/
section
variable (K : PySem.W.Frag) (cl : ClA) (W : WX)
def tE (m : ME) : TE := fun σ H Q => ∃ Γ Hf, Wants K cl Γ Hf σ H (PSv K cl Γ σ H) (fun c d H' => W c d σ H') (m Γ) Q
def tD (m : MD) : TE := fun σ H Q => ∃ Γ Hf, Wants K cl Γ Hf σ H (PD K cl) (fun c d H' => W c d σ H') (m Γ) Q
def tT (m : MT) : TT := fun σ H Q => ∃ Γ Hf, WantsT K cl Γ Hf σ H (fun c d H' => W c d σ H') (m Γ) (fun b _ _ H' => Q b H')
def tS (m : MS) : TS := fun D σ H => ∃ Γ Hf, WantsS K cl Γ Hf σ H W (m Γ) D
end
theorem DE.pe {X : Cx} {cl : ClA} {W : WX} {e : Expr} {m : ME} (h : DE X cl W e m) : PE X e (tE X.K cl W m) := by
  obtain ⟨te, p, w⟩ := h.ex
  exact ⟨fun pins s σ H Q I ⟨Γ, Hf, q⟩ => p.run pins s σ H Q I (w Γ Hf σ H Q q)⟩
theorem DD.pe {X : Cx} {cl : ClA} {W : WX} {e : Expr} {m : MD} (h : DD X cl W e m) : PE X e (tD X.K cl W m) := by
  obtain ⟨te, p, w⟩ := h.ex
  exact ⟨fun pins s σ H Q I ⟨Γ, Hf, q⟩ => p.run pins s σ H Q I (w Γ Hf σ H Q q)⟩
theorem DT.pt {X : Cx} {cl : ClA} {W : WX} {e : Expr} {m : MT} (h : DT X cl W e m) : PT X e (tT X.K cl W m) := by
  obtain ⟨te, p, w⟩ := h.ex
  exact ⟨fun pins s σ H Q I ⟨Γ, Hf, q⟩ => p.run pins s σ H Q I (w Γ Hf σ H Q q)⟩
theorem DSs.pss {X : Cx} {cl : ClA} {W : WX} {e : List Stmt} {m : MS} (h : DSs X cl W e m) : PSs X e (tS X.K cl W m) := by
  obtain ⟨te, p, w⟩ := h.ex
  exact ⟨fun pins s σ H D I ⟨Γ, Hf, q⟩ => p.run pins s σ H D I (w Γ Hf σ H D q)⟩

/-! ## what a loop walks -/
/-- what a turn hands out -/
def Yl (K : PySem.W.Frag) (cl : ClA) (Hf H : Hp) (x : V) (H' : Hp) (d : D) : Prop := (H' = H ∧ Den K cl Hf x d) ∨ ∃ T o, H T = none ∧ H' = upd H T o ∧ Den K cl (upd Hf T o) x d
structure ItOk (K : PySem.W.Frag) (cl : ClA) (Hf H : Hp) (J : It) (items : List D) : Prop where
  go : ∀ i d Hf' H', items[i]? = some d → Le Hf Hf' → Le Hf' H' → (∀ b o u, Hf b = some u → H b = some o → H' b = some o) → J.go i H' ∧ ∀ x H'', J.yld i H' x H'' → Yl K cl Hf' H' x H'' d
  stop : ∀ Hf' H', Le Hf Hf' → Le Hf' H' → (∀ b o u, Hf b = some u → H b = some o → H' b = some o) → J.stop items.length H'
abbrev PIt (K : PySem.W.Frag) (cl : ClA) : SE → Hp → Hp → List D → It → Prop := fun _ Hf' H' items J => ItOk K cl Hf' H' J items
def WI (K : PySem.W.Frag) (cl : ClA) (wi : TI) (W : WX) (m : MDs) : Prop := ∀ Γ Hf σ H (R : It → Hp → Prop), Wants K cl Γ Hf σ H (PIt K cl) (fun c d H' => W c d σ H') (m Γ) R → wi σ H R
structure DI (X : Cx) (cl : ClA) (W : WX) (tg e : Expr) (m : MDs) : Prop where
  ex : ∃ wi, PI X tg e wi ∧ WI X.K cl wi W m
theorem PI.or {X : Cx} {tg e : Expr} {t u : TI} (h1 : PI X tg e t) (h2 : PI X tg e u) : PI X tg e (fun σ H R => t σ H R ∨ u σ H R) := ⟨fun pins s σ H R I q => q.elim (h1.run pins s σ H R I) (h2.run pins s σ H R I)⟩
section
variable {K : PySem.W.Frag} {cl : ClA} {Hf H : Hp} {a b : Addr} {ds es : List D}
theorem itOk_list {vs : List V} (h : SqL K Hf a vs) (g : DenL K cl Hf vs ds) : ItOk K cl Hf H (Itl K a) ds where
  go := fun i d Hf' H' e l1 l2 _ => by
    obtain ⟨v, ev, gv⟩ := g.get e
    have q := l2.sql (l1.sql h)
    exact ⟨⟨vs, v, q, ev⟩, fun x H'' ⟨e1, e2⟩ => .inl ⟨e1, by have z := e2 vs q; rw [ev] at z; cases z; exact gv.mono l1⟩⟩
  stop := fun Hf' H' l1 l2 _ => ⟨vs, l2.sql (l1.sql h), by rw [g.length]; exact Nat.le_refl _⟩
theorem itOk_tup {vs : List V} (h : SqT K Hf a vs) (g : DenL K cl Hf vs ds) : ItOk K cl Hf H (Itt K a) ds where
  go := fun i d Hf' H' e l1 l2 _ => by
    obtain ⟨v, ev, gv⟩ := g.get e
    have q := l2.sqt (l1.sqt h)
    exact ⟨⟨vs, v, q, ev⟩, fun x H'' ⟨e1, e2⟩ => .inl ⟨e1, by have z := e2 vs q; rw [ev] at z; cases z; exact gv.mono l1⟩⟩
  stop := fun Hf' H' l1 l2 _ => ⟨vs, l2.sqt (l1.sqt h), by rw [g.length]; exact Nat.le_refl _⟩
def charsD (x : PySem.Str) : List D := x.cps.toList.map fun c => D.str ⟨#[c]⟩
theorem itOk_str {x : PySem.Str} : ItOk K cl Hf H (Its x) (charsD x) where
  go := fun i d Hf' H' e l1 l2 _ => by
    unfold charsD at e
    rw [List.getElem?_map] at e
    obtain ⟨c, ec, rfl⟩ := Option.map_eq_some_iff.mp e
    have hi : i < x.cps.size := by simpa using (List.getElem?_eq_some_iff.mp ec).1
    exact ⟨hi, fun v H'' ⟨e1, c', e2, e3⟩ => .inl ⟨e1, by
      have : c' = c := by
        rw [← Array.getElem?_toList] at e2
        rw [e2] at ec; cases ec; rfl
      subst this e3; exact .str _⟩⟩
  stop := fun Hf' H' l1 l2 _ => by show x.cps.size ≤ (charsD x).length; unfold charsD; simp
theorem itOk_range {lo : Int} {n : Nat} : ItOk K cl Hf H (Itr lo n) ((List.range n).map fun i : Nat => D.int (lo + (i : Int))) where
  go := fun i d Hf' H' e l1 l2 _ => by
    rw [List.getElem?_map] at e
    obtain ⟨j, ej, rfl⟩ := Option.map_eq_some_iff.mp e
    obtain ⟨hj, ej'⟩ := List.getElem?_eq_some_iff.mp ej
    have hi : i < n := by simpa using hj
    have : j = i := by rw [← ej']; simp
    subst this
    exact ⟨hi, fun v H'' ⟨e1, e2⟩ => .inl ⟨e1, by rw [e2]; exact .int _⟩⟩
  stop := fun Hf' H' l1 l2 _ => by show n ≤ _; simp
def enumD (ds : List D) : List D := (List.range ds.length).zipWith (fun i d => D.tup [.int (i : Nat), d]) ds
theorem enumD_get {i : Nat} {d : D} (h : (enumD ds)[i]? = some d) : ∃ e, ds[i]? = some e ∧ d = .tup [.int (i : Nat), e] := by
  unfold enumD at h
  rw [List.getElem?_zipWith] at h
  cases e1 : ds[i]? with
  | none => rw [e1] at h; cases q : (List.range ds.length)[i]? <;> rw [q] at h <;> cases h
  | some e =>
    have hi := (List.getElem?_eq_some_iff.mp e1).1
    have q : (List.range ds.length)[i]? = some i := by rw [List.getElem?_range hi]
    rw [q, e1] at h
    exact ⟨e, rfl, by cases h; rfl⟩
theorem itOk_enum {vs : List V} (h : SqL K Hf a vs) (g : DenL K cl Hf vs ds) : ItOk K cl Hf H (Ite K a) (enumD ds) where
  go := fun i d Hf' H' e l1 l2 _ => by
    obtain ⟨d0, e0, rfl⟩ := enumD_get e
    obtain ⟨v, ev, gv⟩ := g.get e0
    have q := l2.sql (l1.sql h)
    refine ⟨⟨vs, v, q, ev⟩, fun x H'' ⟨T, y, e1, e2, e3, e4⟩ => .inr ⟨T, _, e2, e3, ?_⟩⟩
    have z := e4 vs q; rw [ev] at z; cases z
    have l3 : Le Hf' (upd Hf' T (.tup [.int (i : Nat), v])) := .new (l2.no e2)
    rw [e1]
    exact .tup (.inl (.inl upd_same)) (.cons (.int _) (.cons ((gv.mono l1).mono l3) .nil))
  stop := fun Hf' H' l1 l2 _ => ⟨vs, l2.sql (l1.sql h), by unfold enumD; rw [g.length]; simp⟩
def zipD (ds es : List D) : List D := ds.zipWith (fun d e => D.tup [d, e]) es
theorem zipD_get {i : Nat} {d : D} (h : (zipD ds es)[i]? = some d) : ∃ x y, ds[i]? = some x ∧ es[i]? = some y ∧ d = .tup [x, y] := by
  unfold zipD at h
  rw [List.getElem?_zipWith] at h
  cases e1 : ds[i]? with
  | none => rw [e1] at h; cases h
  | some x =>
    cases e2 : es[i]? with
    | none => rw [e1, e2] at h; cases h
    | some y => rw [e1, e2] at h; exact ⟨x, y, rfl, rfl, by cases h; rfl⟩
theorem itOk_zip {vs ws : List V} (h : SqL K Hf a vs) (g : DenL K cl Hf vs ds) (h' : SqL K Hf b ws) (g' : DenL K cl Hf ws es) : ItOk K cl Hf H (Itz K a b) (zipD ds es) where
  go := fun i d Hf' H' e l1 l2 _ => by
    obtain ⟨x0, y0, ex, ey, rfl⟩ := zipD_get e
    obtain ⟨v, ev, gv⟩ := g.get ex
    obtain ⟨w, ew, gw⟩ := g'.get ey
    have q := l2.sql (l1.sql h)
    have q' := l2.sql (l1.sql h')
    refine ⟨⟨vs, ws, v, w, q, q', ev, ew⟩, fun x H'' ⟨T, x1, y1, e1, e2, e3, e4, e5⟩ => .inr ⟨T, _, e2, e3, ?_⟩⟩
    have z := e4 vs q; rw [ev] at z; cases z
    have z := e5 ws q'; rw [ew] at z; cases z
    have l3 : Le Hf' (upd Hf' T (.tup [v, w])) := .new (l2.no e2)
    rw [e1]
    exact .tup (.inl (.inl upd_same)) (.cons ((gv.mono l1).mono l3) (.cons ((gw.mono l1).mono l3) .nil))
  stop := fun Hf' H' l1 l2 _ => ⟨vs, ws, l2.sql (l1.sql h), l2.sql (l1.sql h'), by rw [g.length, g'.length]; unfold zipD; rw [List.length_zipWith]; omega⟩
theorem itOk_zipT {vs ws : List V} (h : SqT K Hf a vs) (g : DenL K cl Hf vs ds) (h' : SqT K Hf b ws) (g' : DenL K cl Hf ws es) : ItOk K cl Hf H (RZ.ItzT K a b) (zipD ds es) where
  go := fun i d Hf' H' e l1 l2 _ => by
    obtain ⟨x0, y0, ex, ey, rfl⟩ := zipD_get e
    obtain ⟨v, ev, gv⟩ := g.get ex
    obtain ⟨w, ew, gw⟩ := g'.get ey
    have q := l2.sqt (l1.sqt h)
    have q' := l2.sqt (l1.sqt h')
    refine ⟨⟨vs, ws, v, w, q, q', ev, ew⟩, fun x H'' ⟨T, x1, y1, e1, e2, e3, e4, e5⟩ => .inr ⟨T, _, e2, e3, ?_⟩⟩
    have z := e4 vs q; rw [ev] at z; cases z
    have z := e5 ws q'; rw [ew] at z; cases z
    have l3 : Le Hf' (upd Hf' T (.tup [v, w])) := .new (l2.no e2)
    rw [e1]
    exact .tup (.inl (.inl upd_same)) (.cons ((gv.mono l1).mono l3) (.cons ((gw.mono l1).mono l3) .nil))
  stop := fun Hf' H' l1 l2 _ => ⟨vs, ws, l2.sqt (l1.sqt h), l2.sqt (l1.sqt h'), by rw [g.length, g'.length]; unfold zipD; rw [List.length_zipWith]; omega⟩
theorem itOk_keys {o : Obj} {kvs : List (Key × V)} {dk : List (Key × D)} {u : HO} (hf : Hf a = some u) (h : H a = some (.frz o (.dK kvs))) (g : DenK K cl Hf kvs dk) : ItOk K cl Hf H (Itk a o kvs) (dk.map fun kv => kD kv.1) where
  go := fun i d Hf' H' e l1 l2 ke => by
    have q := ke a _ u hf h
    rw [List.getElem?_map] at e
    obtain ⟨kv, ek, rfl⟩ := Option.map_eq_some_iff.mp e
    have hi : i < kvs.length := by rw [g.length]; exact (List.getElem?_eq_some_iff.mp ek).1
    refine ⟨⟨q, hi⟩, fun x H'' ⟨e1, k, v, e2, e3⟩ => .inl ⟨e1, ?_⟩⟩
    have hk : (kvs.map (·.1))[i]? = (dk.map (·.1))[i]? := by rw [g.keys]
    rw [List.getElem?_map, List.getElem?_map, e2, ek] at hk
    have hk' : k = kv.1 := by simpa using hk
    rw [e3, hk']
    exact den_key _
  stop := fun Hf' H' l1 l2 ke => ⟨ke a _ u hf h, by rw [g.length]; simp⟩
theorem itOk_items {o : Obj} {kvs : List (Key × V)} {dk : List (Key × D)} {u : HO} (hf : Hf a = some u) (h : H a = some (.frz o (.dK kvs))) (g : DenK K cl Hf kvs dk) : ItOk K cl Hf H (Iti a o kvs) (dk.map fun kv => D.tup [kD kv.1, kv.2]) where
  go := fun i d Hf' H' e l1 l2 ke => by
    have q := ke a _ u hf h
    rw [List.getElem?_map] at e
    obtain ⟨kv, ek, rfl⟩ := Option.map_eq_some_iff.mp e
    have hi : i < kvs.length := by rw [g.length]; exact (List.getElem?_eq_some_iff.mp ek).1
    refine ⟨⟨q, hi⟩, fun x H'' ⟨T, k, v, e2, e3, e4, e5⟩ => .inr ⟨T, _, e4, e5, ?_⟩⟩
    have go : ∀ {kvs : List (Key × V)} {dk : List (Key × D)} {i : Nat}, DenK K cl Hf kvs dk → kvs[i]? = some (k, v) → dk[i]? = some kv → k = kv.1 ∧ Den K cl Hf v kv.2 := fun {kvs dk i} g => by
      induction i generalizing kvs dk with
      | zero =>
        intro e1 e2
        cases g with
        | nil => cases e1
        | cons h _ => cases e1; cases e2; exact ⟨rfl, h⟩
      | succ i ih =>
        intro e1 e2
        cases g with
        | nil => cases e1
        | cons _ r => exact ih r e1 e2
    obtain ⟨e6, gv⟩ := go g e2 ek
    have l3 : Le Hf' (upd Hf' T (.tup [kV k, v])) := .new (l2.no e4)
    rw [e3]
    refine .tup (.inl (.inl upd_same)) (.cons ?_ (.cons ((gv.mono l1).mono l3) .nil))
    rw [e6]; exact den_key _
  stop := fun Hf' H' l1 l2 ke => ⟨ke a _ u hf h, by rw [g.length]; simp⟩
end
def itemsOf : D → Option (List D)
  | .lst ds => some ds
  | .tup ds => some ds
  | .scr ns => some (ns.map D.int)
  | .str x => some (charsD x)
  | _ => none
def mSeq (m : MD) : MDs := fun Γ => (m Γ).bnd fun d Γ1 => match itemsOf d with
  | some ds => .ok ds Γ1
  | none => .bad
section
variable {X : Cx} {cl : ClA} {W : WX} {e e2 tg : Expr} {pos : Pos} {m m2 : MD}
theorem di_seq (he : DD X cl W e m) : DI X cl W tg e (mSeq m) := by
  obtain ⟨te, pe, we⟩ := he.ex
  refine ⟨_, PI.or (pi_list pe) (PI.or (pi_tup pe) (pi_str pe)), fun Γ Hf σ H R w => ?_⟩
  have key : (mSeq m Γ) = (m Γ).bnd fun d Γ1 => match itemsOf d with | some ds => .ok ds Γ1 | none => .bad := rfl
  rw [key] at w
  -- which of them: by the data
  cases em : m Γ with
  | bad => rw [em] at w; exact (w.nb rfl).elim
  | exc c as Γ1 => exact .inl (we Γ Hf σ H _ (w.bind fun d Γ1 e1 => by rw [em] at e1; cases e1))
  | ok d Γ1 =>
    have w' := w
    rw [em] at w'
    have w2 : Wants X.K cl Γ Hf σ H (PIt X.K cl) (fun c d H' => W c d σ H') (match itemsOf d with | some ds => Res.ok ds Γ1 | none => .bad) R := w'
    cases d with
    | lst ds => exact .inl (we Γ Hf σ H _ (w.bind fun d' Γ1' e1 x Hf1 H1 st p => by
        rw [em] at e1; cases e1
        cases (show Den X.K cl Hf1 x (.lst ds) from p) with
        | @lst a vs _ h g => exact ⟨a, rfl, ⟨vs, st.rel.le.sql (SqL.of h)⟩, w2.end_ st (itOk_list (SqL.of h) g)⟩))
    | scr ns => exact .inl (we Γ Hf σ H _ (w.bind fun d' Γ1' e1 x Hf1 H1 st p => by
        rw [em] at e1; cases e1
        cases (show Den X.K cl Hf1 x (.scr ns) from p) with
        | @scr a _ h => exact ⟨a, rfl, ⟨_, st.rel.le.sql h⟩, w2.end_ st (itOk_list h DenL.ints)⟩))
    | tup ds => exact .inr (.inl (we Γ Hf σ H _ (w.bind fun d' Γ1' e1 x Hf1 H1 st p => by
        rw [em] at e1; cases e1
        cases (show Den X.K cl Hf1 x (.tup ds) from p) with
        | @tup a vs _ h g => exact ⟨a, rfl, ⟨vs, st.rel.le.sqt h⟩, w2.end_ st (itOk_tup h g)⟩)))
    | str z => exact .inr (.inr (we Γ Hf σ H _ (w.bind fun d' Γ1' e1 x Hf1 H1 st p => by
        rw [em] at e1; cases e1
        cases (show Den X.K cl Hf1 x (.str z) from p)
        exact ⟨z, rfl, w2.end_ st itOk_str⟩)))
    | _ => exact (w2.nb rfl).elim
def mRng1 (r : MDs) : MDs := fun Γ => (r Γ).bnd fun ds Γ1 => match ds with
  | [.int j] => if -(2 ^ 62) ≤ j ∧ j < 2 ^ 62 then .ok ((List.range j.toNat).map fun i : Nat => D.int (0 + (i : Int))) Γ1 else .bad
  | _ => .bad
theorem di_range1 {p : Pos} {a : Expr} {r : MDs} (hg : Gl X "range") (hm : X.mg "range" = none) (ha : DAs X cl W [a] r) (hs : starEach [a] X.env = [(false, eval a X.env)] := by rfl) : DI X cl W tg (.Call (.Name "range" p) [a] [] pos) (mRng1 r) := by
  obtain ⟨ta, pa, wa⟩ := ha.ex
  refine ⟨_, pi_range1 hg hm pa hs, fun Γ Hf σ H R w => wa Γ Hf σ H _ (w.bind fun ds Γ1 e1 vs Hf1 H1 st1 p1 => ?_)⟩
  have w1 := w.nextE e1 st1
  have w2 : ∀ i, ds = [.int i] → vs = [V.int i] := fun i e => by
    subst e
    cases p1 with
    | cons h r => cases r; cases h; rfl
  split at w1
  · next j =>
    by_cases hc : -(2 ^ 62) ≤ j ∧ j < 2 ^ 62
    · rw [if_pos hc] at w1
      exact ⟨j, w2 j rfl, hc.1, hc.2, w1.done itOk_range⟩
    · rw [if_neg hc] at w1; exact (w1.nb rfl).elim
  · exact (w1.nb rfl).elim
def mRng2 (r : MDs) : MDs := fun Γ => (r Γ).bnd fun ds Γ1 => match ds with
  | [.int i, .int j] => if -(2 ^ 62) ≤ i ∧ i < 2 ^ 62 ∧ -(2 ^ 62) ≤ j ∧ j < 2 ^ 62 then .ok ((List.range (j - i).toNat).map fun k : Nat => D.int (i + (k : Int))) Γ1 else .bad
  | _ => .bad
theorem di_range2 {p : Pos} {a b : Expr} {r : MDs} (hg : Gl X "range") (hm : X.mg "range" = none) (ha : DAs X cl W [a, b] r) (hs : starEach [a, b] X.env = [(false, eval a X.env), (false, eval b X.env)] := by rfl) (hs2 : starEach [b] X.env = [(false, eval b X.env)] := by rfl) : DI X cl W tg (.Call (.Name "range" p) [a, b] [] pos) (mRng2 r) := by
  obtain ⟨ta, pa, wa⟩ := ha.ex
  refine ⟨_, pi_range2 hg hm pa hs hs2, fun Γ Hf σ H R w => wa Γ Hf σ H _ (w.bind fun ds Γ1 e1 vs Hf1 H1 st1 p1 => ?_)⟩
  have w1 := w.nextE e1 st1
  have w2 : ∀ i j, ds = [.int i, .int j] → vs = [V.int i, V.int j] := fun i j e => by
    subst e
    cases p1 with
    | cons h r => cases r with
      | cons h' r' => cases r'; cases h; cases h'; rfl
  split at w1
  · next i j =>
    by_cases hc : -(2 ^ 62) ≤ i ∧ i < 2 ^ 62 ∧ -(2 ^ 62) ≤ j ∧ j < 2 ^ 62
    · rw [if_pos hc] at w1
      exact ⟨i, j, w2 i j rfl, hc, w1.done itOk_range⟩
    · rw [if_neg hc] at w1; exact (w1.nb rfl).elim
  · exact (w1.nb rfl).elim
def mEnum (m : MD) : MDs := fun Γ => (m Γ).bnd fun d Γ1 => match d with
  | .lst ds => .ok (enumD ds) Γ1
  | .scr ns => .ok (enumD (ns.map D.int)) Γ1
  | _ => .bad
theorem di_enum {p tpos : Pos} {elts : List Expr} {kk : Nat} (hg : Gl X "enumerate") (hm : X.mg "enumerate" = none) (he : DD X cl W e m) (hs : starEach [e] X.env = [(false, eval e X.env)] := by rfl) : DI X cl W (.Tuple elts kk tpos) (.Call (.Name "enumerate" p) [e] [] pos) (mEnum m) := by
  obtain ⟨te, pe, we⟩ := he.ex
  refine ⟨_, pi_enum hg hm (pa_cons pe pa_nil hs) hs, fun Γ Hf σ H R w => we Γ Hf σ H _ (w.bind fun d Γ1 e1 x Hf1 H1 st1 p1 => ?_)⟩
  have w1 := w.nextE e1 st1
  split at w1
  · next ds =>
    cases (show Den X.K cl Hf1 x (.lst ds) from p1) with
    | @lst a vs _ h g => exact ⟨a, vs, rfl, st1.rel.le.sql (SqL.of h), w1.done (itOk_enum (SqL.of h) g)⟩
  · next ns =>
    cases (show Den X.K cl Hf1 x (.scr ns) from p1) with
    | @scr a _ h => exact ⟨a, _, rfl, st1.rel.le.sql h, w1.done (itOk_enum h DenL.ints)⟩
  · exact (w1.nb rfl).elim
def mZip (m m2 : MD) : MDs := fun Γ => (m Γ).bnd fun d Γ1 => (m2 Γ1).bnd fun d2 Γ2 => match d, d2 with
  | .lst ds, .lst es => .ok (zipD ds es) Γ2
  | .tup ds, .tup es => .ok (zipD ds es) Γ2
  | .scr ns, .scr ks => .ok (zipD (ns.map D.int) (ks.map D.int)) Γ2
  | .scr ns, .lst es => .ok (zipD (ns.map D.int) es) Γ2
  | _, _ => .bad
theorem di_zip {p tpos : Pos} {elts : List Expr} {kk : Nat} (hg : Gl X "zip") (hm : X.mg "zip" = none) (he : DD X cl W e m) (he2 : DD X cl W e2 m2) (hs : starEach [e, e2] X.env = (false, eval e X.env) :: starEach [e2] X.env := by rfl) (hs2 : starEach [e2] X.env = [(false, eval e2 X.env)] := by rfl) :
    DI X cl W (.Tuple elts kk tpos) (.Call (.Name "zip" p) [e, e2] [] pos) (mZip m m2) := by
  obtain ⟨te, pe, we⟩ := he.ex
  obtain ⟨te2, pe2, we2⟩ := he2.ex
  refine ⟨_, RZ.pi_zipA hg hm (pa_cons pe (pa_cons pe2 pa_nil hs2) hs) hs (by rw [hs2]; rfl), fun Γ Hf σ H R w => we Γ Hf σ H _ (w.bind fun d Γ1 e1 x Hf1 H1 st1 p1 => we2 Γ1 Hf1 σ H1 _ ((w.nextE e1 st1).bind fun d2 Γ2 e2 y Hf2 H2 st2 p2 => ?_))⟩
  have w1 := (w.nextE e1 st1).nextE e2 st2
  have p1' := Den.mono st2.le p1
  split at w1
  · next ds es =>
    cases (show Den X.K cl Hf2 x (.lst ds) from p1') with
    | @lst a vs _ h g =>
      cases (show Den X.K cl Hf2 y (.lst es) from p2) with
      | @lst b ws _ h' g' => exact ⟨a, b, vs, ws, rfl, .inl ⟨st2.rel.le.sql (SqL.of h), st2.rel.le.sql (SqL.of h'), w1.done (itOk_zip (SqL.of h) g (SqL.of h') g')⟩⟩
  · next ds es =>
    cases (show Den X.K cl Hf2 x (.tup ds) from p1') with
    | @tup a vs _ h g =>
      cases (show Den X.K cl Hf2 y (.tup es) from p2) with
      | @tup b ws _ h' g' => exact ⟨a, b, vs, ws, rfl, .inr ⟨st2.rel.le.sqt h, st2.rel.le.sqt h', w1.done (itOk_zipT h g h' g')⟩⟩
  · next ns ks =>
    cases (show Den X.K cl Hf2 x (.scr ns) from p1') with
    | @scr a _ h =>
      cases (show Den X.K cl Hf2 y (.scr ks) from p2) with
      | @scr b _ h' => exact ⟨a, b, _, _, rfl, .inl ⟨st2.rel.le.sql h, st2.rel.le.sql h', w1.done (itOk_zip h DenL.ints h' DenL.ints)⟩⟩
  · next ns es =>
    cases (show Den X.K cl Hf2 x (.scr ns) from p1') with
    | @scr a _ h =>
      cases (show Den X.K cl Hf2 y (.lst es) from p2) with
      | @lst b ws _ h' g' => exact ⟨a, b, _, ws, rfl, .inl ⟨st2.rel.le.sql h, st2.rel.le.sql (SqL.of h'), w1.done (itOk_zip h DenL.ints (SqL.of h') g')⟩⟩
  · exact (w1.nb rfl).elim
end
end DL
end

section
set_option Elab.async false
set_option linter.all false
set_option maxRecDepth 100000
set_option maxHeartbeats 2000000
namespace DL
open PySem PySem.Spec PyProof.Rows L2


/-! ## for -/
def mForL (g : MG) (b : MS) : List D → MS
  | [] => fun Γ => .nx Γ
  | d :: ds => fun Γ => match g (.dat d) Γ with
    | some Γ1 => (b Γ1).lp (mForL g b ds)
    | none => .bad
def mFor (mi : MDs) (g : MG) (b : MS) : MS := fun Γ => (mi Γ).bndS fun items Γ1 => mForL g b items Γ1
/-- what stands frozen stands -/
def Kept (Hf H H' : Hp) : Prop := ∀ b o u, Hf b = some u → H b = some o → H' b = some o
section
variable {K : PySem.W.Frag} {cl : ClA} {Γ Γ0 Γ1 Γ2 : SE} {Hf Hf0 Hf1 Hf2 H H0 H1 H2 : Hp} {σ σ0 σ1 σ2 : L2.St} {W : WX} {r : RS} {En : Ends} {f : SE → RS} {N : L2.St → Hp → Prop}
theorem Le.has (l : Le Hf Hf1) {b : Addr} {u : HO} (h : Hf b = some u) : ∃ u', Hf1 b = some u' := by
  cases e : Hf1 b with
  | none => rw [l.no e] at h; cases h
  | some u' => exact ⟨u', rfl⟩
theorem Kept.refl : Kept Hf H H := fun _ _ _ _ h => h
theorem Kept.step (k : Kept Hf0 H0 H) (l : Le Hf0 Hf) (rel : Rel K cl Γ Hf σ H) (st : Step K cl Γ Hf σ H Γ1 Hf1 σ1 H1) : Kept Hf0 H0 H1 := fun b o u h1 h2 => by
  obtain ⟨u', h3⟩ := l.has h1
  exact st.fr b o (k b o u h1 h2) (rel.notOwn h3)
theorem WantsS.turnS (w : WantsS K cl Γ Hf σ H W (r.lp f) En) (hN : ∀ Γ' Hf' σ' H', Step K cl Γ Hf σ H Γ' Hf' σ' H' → WantsS K cl Γ' Hf' σ' H' W (f Γ') En → N σ' H') : WantsS K cl Γ Hf σ H W r { En with nx := N, ct := N, bk := En.nx } where
  rel := w.rel
  nx := fun Γ' e Hf' σ' H' st => hN Γ' Hf' σ' H' st (WantsS.after (by rw [e] at w; exact w) st)
  ct := fun Γ' e Hf' σ' H' st => hN Γ' Hf' σ' H' st (WantsS.after (by rw [e] at w; exact w) st)
  bk := fun Γ' e => w.nx Γ' (by rw [e]; rfl)
  rt := fun s Γ' e => w.rt s Γ' (by rw [e]; rfl)
  ex := fun c as Γ' e => w.ex c as Γ' (by rw [e]; rfl)
  nb := fun e => w.nb (by rw [e]; rfl)
theorem Yl.step {x : V} {d : D} (rel : Rel K cl Γ Hf σ H) (y : Yl K cl Hf H x H1 d) : ∃ Hf1, Step K cl Γ Hf σ H Γ Hf1 σ H1 ∧ Den K cl Hf1 x d := by
  rcases y with ⟨rfl, h⟩ | ⟨T, o, h1, rfl, h⟩
  · exact ⟨Hf, .refl rel, h⟩
  · exact ⟨_, rel.newDat h1, h⟩
theorem for_core {g : MG} {b : MS} {t : TG} {tb : TS} {J : It} {items : List D}
    (wg : ∀ (Γ0 : SE) (Hf0 : Hp) (σ0 : L2.St) (H0 : Hp) (Γ : SE) (Hf : Hp) (σ : L2.St) (H : Hp) (v : V) (s : Sv) (Γ' : SE) (Q : L2.St → Hp → Prop), Step K cl Γ0 Hf0 σ0 H0 Γ Hf σ H → TmpOk K cl Γ0 σ0 H0 Γ Hf σ H v s → g s Γ = some Γ' → (∀ Hf' σ' H', Step K cl Γ0 Hf0 σ0 H0 Γ' Hf' σ' H' → Q σ' H') → t v σ H Q)
    (wb : WS K cl tb W b) (it : ItOk K cl Hf H J items) (w : WantsS K cl Γ Hf σ H W (mForL g b items Γ) En) :
    ∃ W : Nat → Nat → L2.St → Hp → Prop, (∃ m, W 0 m σ H) ∧ ∀ i m σ H, W i m σ H →
      (J.stop i H ∧ En.nx σ H) ∨ (J.go i H ∧ ∃ N : L2.St → Hp → Prop, (∀ σ' H', N σ' H' → ∃ m', m' < m ∧ W (i + 1) m' σ' H') ∧ ∀ x H', J.yld i H x H' → t x σ H' fun σ2 H2 => tb { En with nx := N, ct := N, bk := En.nx } σ2 H2) := by
  refine ⟨fun i m σ' H' => ∃ Γ' Hf', i ≤ items.length ∧ m = items.length - i ∧ Le Hf Hf' ∧ Kept Hf H H' ∧ WantsS K cl Γ' Hf' σ' H' W (mForL g b (items.drop i) Γ') En, ⟨items.length, Γ, Hf, Nat.zero_le _, by simp, .refl _, .refl, w⟩, ?_⟩
  rintro i m σ' H' ⟨Γ', Hf', hi, rfl, l, k, w⟩
  by_cases hlt : i < items.length
  · refine .inr ?_
    obtain ⟨go, yl⟩ := it.go i items[i] Hf' H' (by simp [hlt]) l w.rel.le k
    have w' : WantsS K cl Γ' Hf' σ' H' W (match g (.dat items[i]) Γ' with | some Γ1 => (b Γ1).lp (mForL g b (items.drop (i + 1))) | none => .bad) En := by
      rw [List.drop_eq_getElem_cons hlt] at w
      exact w
    refine ⟨go, fun σ2 H2 => ∃ m', m' < items.length - i ∧ ∃ Γ' Hf', i + 1 ≤ items.length ∧ m' = items.length - (i + 1) ∧ Le Hf Hf' ∧ Kept Hf H H2 ∧ WantsS K cl Γ' Hf' σ2 H2 W (mForL g b (items.drop (i + 1)) Γ') En, fun σ2 H2 h => h, fun x H2 y => ?_⟩
    obtain ⟨Hf2, st, hx⟩ := (yl x H2 y).step w.rel
    cases eg : g (.dat items[i]) Γ' with
    | none => rw [eg] at w'; exact (w'.nb rfl).elim
    | some Γ1 =>
      rw [eg] at w'
      refine wg Γ' Hf' σ' H' Γ' Hf2 σ' H2 x (.dat items[i]) Γ1 _ st hx eg fun Hf3 σ3 H3 st3 => wb Γ1 Hf3 σ3 H3 _ (WantsS.turnS (w'.after st3) fun Γ4 Hf4 σ4 H4 st4 w4 => ?_)
      have st5 := st3.trans st4
      exact ⟨items.length - (i + 1), by omega, Γ4, Hf4, hlt, rfl, l.trans st5.le, k.step l w.rel st5, w4⟩
  · have e : i = items.length := by omega
    subst e
    have w' : WantsS K cl Γ' Hf' σ' H' W (.nx Γ') En := by
      rw [List.drop_length] at w
      exact w
    exact .inl ⟨it.stop Hf' H' l w.rel.le k, w'.nx Γ' rfl Hf' σ' H' (.refl w.rel)⟩
end
section
variable {X : Cx} {cl : ClA} {W : WX} {tg iter : Expr} {body : List Stmt} {pos : Pos}
theorem ds_for {mi : MDs} {g : MG} {b : MS} (hp : PassesOwn (model X.prog X.w) X.A X.env X.xe) (hc : X.calm = true) (hi : DI X cl W tg iter mi) (hg : DGt X cl tg g) (hb : DSs X cl W body b) (hs : ∀ x, foldedSetIterable iter X.env x = pure x := by intro _; rfl) :
    DS X cl W (.For tg iter body [] pos) (mFor mi g b) := by
  obtain ⟨wi, pi, wI⟩ := hi.ex
  obtain ⟨t, pg, wg⟩ := hg.ex
  obtain ⟨tb, pb, wb⟩ := hb.ex
  refine ⟨_, ps_for hp hc pi pg pb hs, fun Γ Hf σ H D w => wI Γ Hf σ H _ (w.bind fun items Γ1 e1 J Hf1 H1 st1 it => ?_)⟩
  exact for_core wg wb it ((w.of e1).after st1)
end

/-! ## a dict, locked meanwhile -/
def RS.nox (r : RS) : RS := match r with
  | .ex _ _ _ => .bad
  | r => r
def Res.nox {α : Type} (r : Res α) : Res α := match r with
  | .exc _ _ _ => .bad
  | r => r
section
variable {K : PySem.W.Frag} {cl : ClA} {Γ Γ0 Γ1 Γ2 Γ' : SE} {Hf Hf0 Hf1 Hf2 Hf' H H0 H1 H2 H' : Hp} {σ σ0 σ1 σ2 σ' : L2.St} {W W' : WX} {r : RS} {En : Ends} {a : Addr} {od : Obj} {kvs : List (Key × V)} {u : HO}
theorem Rel.lock (rel : Rel K cl Γ Hf σ H) (h : H a = some (.dK kvs)) (hf : Hf a = some u) : Rel K cl Γ Hf σ (upd H a (.frz od (.dK kvs))) := by
  refine ⟨fun b o e => ?_, rel.len, fun i s hs => ?_, rel.dis⟩
  · by_cases hb : b = a
    · subst hb
      rw [upd_same]
      rcases rel.le b o e with q | ⟨kv, o', ⟨rfl, q⟩ | ⟨rfl, q⟩⟩
      · rw [h] at q; cases q; exact .inr ⟨kvs, od, .inl ⟨rfl, rfl⟩⟩
      · rw [h] at q; cases q
      · rcases q with q | ⟨o2, q⟩
        · rw [h] at q; cases q; exact .inr ⟨kvs, o', .inr ⟨rfl, .inr ⟨od, rfl⟩⟩⟩
        · rw [h] at q; cases q
    · rw [upd_ne hb]; exact rel.le b o e
  · obtain ⟨v, e, q⟩ := rel.at_ i s hs
    refine ⟨v, e, ?_⟩
    cases s with
    | dat d => exact q
    | cel k d =>
      obtain ⟨p, rfl, n, c⟩ := q
      have hne : p ≠ a := fun z => by rw [z, hf] at n; cases n
      exact ⟨p, rfl, n, c.mono (.refl _) fun o ho => by rw [upd_ne hne]; exact ho⟩
theorem Step.unlock (rel : Rel K cl Γ Hf σ H) (h : H a = some (.dK kvs)) (hf : Hf a = some u) (st : Step K cl Γ Hf σ (upd H a (.frz od (.dK kvs))) Γ' Hf' σ' H') :
    H' a = some (.frz od (.dK kvs)) ∧ Step K cl Γ Hf σ H Γ' Hf' σ' (upd H' a (.dK kvs)) := by
  have na : ¬ IsOwn Γ σ a := rel.notOwn hf
  have ha : H' a = some (.frz od (.dK kvs)) := st.fr a _ upd_same na
  obtain ⟨u', hf'⟩ := st.le.has hf
  refine ⟨ha, ⟨?_, st.rel.len, fun i s hs => ?_, st.rel.dis⟩, st.le, fun b o e n => ?_, fun b o e n no => ?_, fun p hp => ?_, fun b hb => ?_, st.brw, fun p hp => ?_⟩
  · intro b o e
    by_cases hb : b = a
    · subst hb
      rw [upd_same]
      rcases st.rel.le b o e with q | ⟨kv, o', ⟨rfl, q⟩ | ⟨rfl, q⟩⟩
      · rw [ha] at q; cases q; exact .inr ⟨kvs, od, .inr ⟨rfl, .inl rfl⟩⟩
      · rw [ha] at q; cases q; exact .inl rfl
      · rcases q with q | ⟨o2, q⟩
        · rw [ha] at q; cases q
        · rw [ha] at q; cases q; exact .inr ⟨kvs, o', .inr ⟨rfl, .inl rfl⟩⟩
    · rw [upd_ne hb]; exact st.rel.le b o e
  · obtain ⟨v, e, q⟩ := st.rel.at_ i s hs
    refine ⟨v, e, ?_⟩
    cases s with
    | dat d => exact q
    | cel k d =>
      obtain ⟨p, rfl, n, c⟩ := q
      have hne : p ≠ a := fun z => by rw [z, hf'] at n; cases n
      exact ⟨p, rfl, n, c.mono (.refl _) fun o ho => by rw [upd_ne hne]; exact ho⟩
  · by_cases hb : b = a
    · subst hb; rw [h] at e; cases e; exact upd_same
    · rw [upd_ne hb]; exact st.fr b o (by rw [upd_ne hb]; exact e) n
  · by_cases hb : b = a
    · subst hb; rw [hf] at n; cases n
    · exact st.av b o (by rw [upd_ne hb]; exact e) n no
  · rcases st.sub p hp with z | z
    · exact .inl z
    · by_cases hb : p = a
      · subst hb; rw [upd_same] at z; cases z
      · rw [upd_ne hb] at z; exact .inr z
  · by_cases hb' : b = a
    · subst hb'; rw [upd_same]; exact fun z => nomatch z
    · rw [upd_ne hb']; exact st.there b (by rw [upd_ne hb']; exact hb)
  · rcases st.subc p hp with z | z
    · exact .inl z
    · by_cases hb : p = a
      · subst hb; rw [upd_same] at z; cases z
      · rw [upd_ne hb] at z; exact .inr z
theorem TmpOk.unlock {v : V} {s : Sv} (rel : Rel K cl Γ Hf σ H) (hf : Hf a = some u) (h : H a = some (.dK kvs)) (st : Step K cl Γ Hf σ (upd H a (.frz od (.dK kvs))) Γ' Hf' σ' H') (t : TmpOk K cl Γ σ (upd H a (.frz od (.dK kvs))) Γ' Hf' σ' H' v s) : TmpOk K cl Γ σ H Γ' Hf' σ' (upd H' a (.dK kvs)) v s := by
  cases s with
  | dat d => exact t
  | cel k d =>
    obtain ⟨e, p, rfl, n, c, nc, f⟩ := t
    obtain ⟨u', hf'⟩ := st.le.has hf
    have hne : p ≠ a := fun z => by rw [z, hf'] at n; cases n
    refine ⟨e, p, rfl, n, c.mono (.refl _) (fun o ho => by rw [upd_ne hne]; exact ho), nc, f.imp id fun z => ?_⟩
    rw [upd_ne hne] at z; exact z
theorem WantsS.lock (w : WantsS K cl Γ Hf σ H W r.nox En) (h : H a = some (.dK kvs)) (hf : Hf a = some u) : WantsS K cl Γ Hf σ (upd H a (.frz od (.dK kvs))) W r
    ⟨fun σ' H' => H' a = some (.frz od (.dK kvs)) ∧ En.nx σ' (upd H' a (.dK kvs)), fun v H' => H' a = some (.frz od (.dK kvs)) ∧ En.rt v (upd H' a (.dK kvs)), fun σ' H' => H' a = some (.frz od (.dK kvs)) ∧ En.bk σ' (upd H' a (.dK kvs)), fun σ' H' => H' a = some (.frz od (.dK kvs)) ∧ En.ct σ' (upd H' a (.dK kvs))⟩ where
  rel := w.rel.lock h hf
  nx := fun Γ' e Hf' σ' H' st => let ⟨x, y⟩ := Step.unlock w.rel h hf st; ⟨x, w.nx Γ' (by rw [e]; rfl) Hf' σ' _ y⟩
  rt := fun s Γ' e v Hf' σ' H' st t => let ⟨x, y⟩ := Step.unlock w.rel h hf st; ⟨x, w.rt s Γ' (by rw [e]; rfl) v Hf' σ' _ y (TmpOk.unlock w.rel hf h st t)⟩
  bk := fun Γ' e Hf' σ' H' st => let ⟨x, y⟩ := Step.unlock w.rel h hf st; ⟨x, w.bk Γ' (by rw [e]; rfl) Hf' σ' _ y⟩
  ct := fun Γ' e Hf' σ' H' st => let ⟨x, y⟩ := Step.unlock w.rel h hf st; ⟨x, w.ct Γ' (by rw [e]; rfl) Hf' σ' _ y⟩
  ex := fun c as Γ' e => (w.nb (by rw [e]; rfl)).elim
  nb := fun e => w.nb (by rw [e]; rfl)
theorem Wants.lock {m : Res Sv} {E E' : Value → Option Addr → Hp → Prop} {Q : VK} (w : Wants K cl Γ Hf σ H (PSv K cl Γ σ H) E m.nox Q) (h : H a = some (.dK kvs)) (hf : Hf a = some u) :
    Wants K cl Γ Hf σ (upd H a (.frz od (.dK kvs))) (PSv K cl Γ σ (upd H a (.frz od (.dK kvs)))) E' m (fun v H' => H' a = some (.frz od (.dK kvs)) ∧ Q v (upd H' a (.dK kvs))) where
  rel := w.rel.lock h hf
  ok := fun s Γ' e v Hf' H' st t => let ⟨x, y⟩ := Step.unlock w.rel h hf st; ⟨x, w.ok s Γ' (by rw [e]; rfl) v Hf' _ y (TmpOk.unlock w.rel hf h st t)⟩
  exc := fun c as Γ' e => (w.nb (by rw [e]; rfl)).elim
  nb := fun e => w.nb (by rw [e]; rfl)
theorem Rel.var {i : Nat} {d : D} (rel : Rel K cl Γ Hf σ H) (e : mVar i Γ = .ok d Γ1) : ∃ v Hf1, σ[i]? = some (some v) ∧ Step K cl Γ Hf σ H Γ1 Hf1 σ H ∧ Den K cl Hf1 v d := by
  obtain ⟨v, e1, Hf1, st, hd⟩ := wd_var (K := K) (cl := cl) (i := i) (W := fun _ _ _ _ => True) Γ Hf σ H (fun v H' => ∃ Hf1, Step K cl Γ Hf σ H Γ1 Hf1 σ H' ∧ Den K cl Hf1 v d)
    ⟨rel, fun a Γ' ea v Hf' H' st p => by rw [e] at ea; cases ea; exact ⟨Hf', st, p⟩, fun c as Γ' ea => (by rw [e] at ea; cases ea), (by rw [e]; exact fun z => nomatch z)⟩
  exact ⟨v, Hf1, e1, st, hd⟩
end
/-- for name in a name that holds a dict -/
def keysD (ds : List (Key × D)) : List D := ds.map fun kv => kD kv.1
def mForK (i : Nat) (g : MG) (b : MS) : MS := fun Γ => (mVar i Γ).bndS fun d Γ1 => match d with
  | .dic ds => (mForL g b (keysD ds) Γ1).nox
  | _ => .bad
section
variable {X : Cx} {cl : ClA} {W : WX} {tg : Expr} {body : List Stmt} {pos p : Pos} {x : PySem.Str}
theorem RS.nox_of {K : PySem.W.Frag} {Γ : SE} {Hf H : Hp} {σ : L2.St} {En : Ends} {r : RS} (w : WantsS K cl Γ Hf σ H W r.nox En) : WantsS K cl Γ Hf σ H W r En where
  rel := w.rel
  nx := fun Γ' e => w.nx Γ' (by rw [e]; rfl)
  rt := fun s Γ' e => w.rt s Γ' (by rw [e]; rfl)
  bk := fun Γ' e => w.bk Γ' (by rw [e]; rfl)
  ct := fun Γ' e => w.ct Γ' (by rw [e]; rfl)
  ex := fun c as Γ' e => (w.nb (by rw [e]; rfl)).elim
  nb := fun e => w.nb (by rw [e]; rfl)
theorem ds_forK (i : Nat) {g : MG} {b : MS} (hp : PassesOwn (model X.prog X.w) X.A X.env X.xe) (hc : X.calm = true) (hg : DGt X cl tg g) (hb : DSs X cl W body b) (hN : X.N[i]? = some x := by rfl) (hv : Vis X.env.scope x := by first | exact Or.inl rfl | exact Or.inr (Or.inl rfl) | exact Or.inr (Or.inr rfl)) (hd : (x == ("__debug__" : PySem.Str)) = false := by decide) (hcd : (x == ("__classdict__" : PySem.Str)) = false := by decide)
    (hs : ∀ y, foldedSetIterable (.Name x p) X.env y = pure y := by intro _; rfl) :
    DS X cl W (.For tg (.Name x p) body [] pos) (mForK i g b) := by
  obtain ⟨t, pg, wg⟩ := hg.ex
  obtain ⟨tb, pb, wb⟩ := hb.ex
  have P := ps_for (pos := pos) hp hc (pi_keys (tg := tg) (pe_var (pos := p) hN hv hd hcd)) pg pb hs
  refine ⟨_, PS.or P (ps_lock P), fun Γ Hf σ H D w => ?_⟩
  cases em : mVar i Γ with
  | bad => exact (w.nb (by unfold mForK; rw [em]; rfl)).elim
  | exc c as Γ1 => unfold mVar at em; split at em <;> cases em
  | ok d Γ1 =>
    have w1 := w.of (f := fun d Γ1 => match d with | .dic ds => (mForL g b (keysD ds) Γ1).nox | _ => .bad) em
    obtain ⟨v, Hf1, ev, st, hv⟩ := w.rel.var em
    cases d with
    | dic ds =>
      have w2 : WantsS X.K cl Γ1 Hf1 σ H W (mForL g b (keysD ds) Γ1).nox D := w1.after st
      cases hv with
      | @dic a kvs _ hr hk =>
        obtain ⟨u, hu⟩ : ∃ u, Hf1 a = some u := by
          rcases hr with q | ⟨o, q⟩
          · exact ⟨_, q⟩
          · exact ⟨_, q⟩
        have hH := st.rel.le.rdk hr
        rcases hH with q | ⟨od, q⟩
        · refine .inr ⟨a, .dK kvs, q, trivial, fun od => ?_⟩
          refine ⟨.ref a, ev, a, od, rfl, .inl ⟨kvs, upd_same, ?_⟩⟩
          exact for_core wg wb (itOk_keys hu upd_same hk) (w2.lock q hu)
        · refine .inl ⟨.ref a, ev, a, od, rfl, .inl ⟨kvs, q, ?_⟩⟩
          exact for_core wg wb (itOk_keys hu q hk) (RS.nox_of w2)
    | _ => exact (w1.nb rfl).elim
end
end DL
end

section
set_option Elab.async false
set_option linter.all false
set_option maxRecDepth 100000
set_option maxHeartbeats 2000000
namespace DL
open PySem PySem.Spec PyProof.Rows L2


/-! ## comprehensions -/
def wipeE (Γ : SE) : List Nat → SE
  | [] => Γ
  | v :: vs => (wipeE Γ vs).set v none
theorem wipe_get (σ : L2.St) : ∀ (vs : List Nat) (j : Nat), (wipe σ vs)[j]? = if j ∈ vs then σ[j]?.map (fun _ => none) else σ[j]?
  | [], j => by simp [wipe]
  | v :: vs, j => by
    unfold wipe
    by_cases h : v = j
    · subst h
      rw [if_pos (List.mem_cons_self ..)]
      by_cases hl : v < (wipe σ vs).length
      · rw [List.getElem?_set_self hl]
        rw [wipe_length] at hl
        rw [List.getElem?_eq_getElem hl]; rfl
      · rw [List.getElem?_eq_none (by rw [List.length_set]; exact Nat.le_of_not_lt hl)]
        rw [wipe_length] at hl
        rw [List.getElem?_eq_none (Nat.le_of_not_lt hl)]; rfl
    · rw [List.getElem?_set_ne h, wipe_get σ vs j]
      by_cases hm : j ∈ vs
      · rw [if_pos hm, if_pos (List.mem_cons_of_mem _ hm)]
      · rw [if_neg hm, if_neg (by simp [hm, Ne.symm h])]
theorem wipeE_length (Γ : SE) : ∀ vs : List Nat, (wipeE Γ vs).length = Γ.length
  | [] => rfl
  | v :: vs => by unfold wipeE; rw [List.length_set, wipeE_length Γ vs]
theorem wipeE_get (Γ : SE) : ∀ (vs : List Nat) (j : Nat), (wipeE Γ vs)[j]? = if j ∈ vs then Γ[j]?.map (fun _ => none) else Γ[j]?
  | [], j => by simp [wipeE]
  | v :: vs, j => by
    unfold wipeE
    by_cases h : v = j
    · subst h
      rw [if_pos (List.mem_cons_self ..)]
      by_cases hl : v < (wipeE Γ vs).length
      · rw [List.getElem?_set_self hl]
        rw [wipeE_length] at hl
        rw [List.getElem?_eq_getElem hl]; rfl
      · rw [List.getElem?_eq_none (by rw [List.length_set]; exact Nat.le_of_not_lt hl)]
        rw [wipeE_length] at hl
        rw [List.getElem?_eq_none (Nat.le_of_not_lt hl)]; rfl
    · rw [List.getElem?_set_ne h, wipeE_get Γ vs j]
      by_cases hm : j ∈ vs
      · rw [if_pos hm, if_pos (List.mem_cons_of_mem _ hm)]
      · rw [if_neg hm, if_neg (by simp [hm, Ne.symm h])]
theorem wipe_set {σ : L2.St} {vs : List Nat} {i : Nat} {x : Option V} (h : i ∈ vs) : wipe (σ.set i x) vs = wipe σ vs := by
  refine List.ext_getElem? fun j => ?_
  rw [wipe_get, wipe_get]
  by_cases hj : j ∈ vs
  · rw [if_pos hj, if_pos hj]
    by_cases e : i = j
    · subst e
      by_cases hl : i < σ.length
      · rw [List.getElem?_set_self hl, List.getElem?_eq_getElem hl]; rfl
      · rw [List.getElem?_eq_none (by rw [List.length_set]; exact Nat.le_of_not_lt hl), List.getElem?_eq_none (Nat.le_of_not_lt hl)]
    · rw [List.getElem?_set_ne e]
  · rw [if_neg hj, if_neg hj, List.getElem?_set_ne (fun e : i = j => hj (by rw [← e]; exact h))]
theorem wipe_idem {σ : L2.St} {vs : List Nat} : wipe (wipe σ vs) vs = wipe σ vs := by
  refine List.ext_getElem? fun j => ?_
  rw [wipe_get, wipe_get]
  by_cases hj : j ∈ vs
  · rw [if_pos hj, if_pos hj]; cases σ[j]? <;> rfl
  · rw [if_neg hj, if_neg hj]
def Clear (Γ : SE) (vs : List Nat) : Prop := ∀ (i : Nat) (s : Sv), Γ[i]? = some (some s) → i ∉ vs
theorem wipeE_clear (Γ : SE) (vs : List Nat) : Clear (wipeE Γ vs) vs := fun i s h hm => by
  rw [wipeE_get, if_pos hm] at h
  cases e : Γ[i]? <;> rw [e] at h <;> cases h
theorem wipeE_some {Γ : SE} {vs : List Nat} {i : Nat} {s : Sv} (h : (wipeE Γ vs)[i]? = some (some s)) : Γ[i]? = some (some s) ∧ i ∉ vs := by
  have hm := wipeE_clear Γ vs i s h
  rw [wipeE_get, if_neg hm] at h
  exact ⟨h, hm⟩
def wipeOk (Γ : SE) (vs : List Nat) : Bool := vs.all fun v => match Γ[v]? with
  | some (some (.cel _ _)) => false
  | _ => true
section
variable {K : PySem.W.Frag} {cl : ClA} {Γ Γ0 Γ1 Γ2 Γ' : SE} {Hf Hf0 Hf1 Hf2 Hf' H H0 H1 H2 H' : Hp} {σ σ0 σ1 σ2 σ' : L2.St} {vs : List Nat} {p : Addr} {o : HO}
theorem Rel.wipe2 (r : Rel K cl Γ Hf σ H) (vs : List Nat) : Rel K cl (wipeE Γ vs) Hf (wipe σ vs) H where
  le := r.le
  len := by rw [wipeE_length, wipe_length]; exact r.len
  at_ := fun i s hs => by
    obtain ⟨h, hm⟩ := wipeE_some hs
    obtain ⟨v, e, q⟩ := r.at_ i s h
    exact ⟨v, by rw [wipe_get, if_neg hm]; exact e, q⟩
  dis := fun i j k k' d d' v h1 h2 e1 e2 => by
    obtain ⟨h1, m1⟩ := wipeE_some h1
    obtain ⟨h2, m2⟩ := wipeE_some h2
    rw [wipe_get, if_neg m1] at e1
    rw [wipe_get, if_neg m2] at e2
    exact r.dis i j k k' d d' v h1 h2 e1 e2
theorem wipe_cel (h : IsCel (wipeE Γ vs) (wipe σ vs) p) : IsCel Γ σ p := by
  obtain ⟨i, k, d, h1, h2⟩ := h
  obtain ⟨h1, m⟩ := wipeE_some h1
  rw [wipe_get, if_neg m] at h2
  exact ⟨i, k, d, h1, h2⟩
theorem wipe_own (h : IsOwn (wipeE Γ vs) (wipe σ vs) p) : IsOwn Γ σ p := by
  obtain ⟨i, k, d, h1, nk, h2⟩ := h
  obtain ⟨h1, m⟩ := wipeE_some h1
  rw [wipe_get, if_neg m] at h2
  exact ⟨i, k, d, h1, nk, h2⟩
/-- the block's names forgotten behind a step -/
theorem Step.wipe2 (st : Step K cl Γ0 Hf0 σ0 H0 Γ Hf σ H) (hk : ∀ i k d, Γ0[i]? = some (some (.cel k d)) → i ∉ vs) : Step K cl Γ0 Hf0 σ0 H0 (wipeE Γ vs) Hf (wipe σ vs) H where
  rel := st.rel.wipe2 vs
  le := st.le
  fr := st.fr
  av := st.av
  sub := fun p h => st.sub p (wipe_own h)
  there := st.there
  brw := fun i k d h nk => by
    obtain ⟨d', e1, e2, e3⟩ := st.brw i k d h nk
    have hm := hk i k d h
    exact ⟨d', by rw [wipeE_get, if_neg hm]; exact e1, by rw [wipe_get, if_neg hm]; exact e2, e3⟩
  subc := fun p h => st.subc p (wipe_cel h)
theorem clear_cel (hc : Clear Γ vs) : IsCel Γ (wipe σ vs) p ↔ IsCel Γ σ p := by
  constructor
  · rintro ⟨i, k, d, h1, h2⟩
    rw [wipe_get, if_neg (hc i _ h1)] at h2
    exact ⟨i, k, d, h1, h2⟩
  · rintro ⟨i, k, d, h1, h2⟩
    exact ⟨i, k, d, h1, by rw [wipe_get, if_neg (hc i _ h1)]; exact h2⟩
theorem clear_own (hc : Clear Γ vs) : IsOwn Γ (wipe σ vs) p ↔ IsOwn Γ σ p := by
  constructor
  · rintro ⟨i, k, d, h1, nk, h2⟩
    rw [wipe_get, if_neg (hc i _ h1)] at h2
    exact ⟨i, k, d, h1, nk, h2⟩
  · rintro ⟨i, k, d, h1, nk, h2⟩
    exact ⟨i, k, d, h1, nk, by rw [wipe_get, if_neg (hc i _ h1)]; exact h2⟩
theorem Rel.reslot (r : Rel K cl Γ Hf (wipe σ vs) H) (hc : Clear Γ vs) : Rel K cl Γ Hf σ H where
  le := r.le
  len := by rw [r.len, wipe_length]
  at_ := fun i s hs => by
    obtain ⟨v, e, q⟩ := r.at_ i s hs
    rw [wipe_get, if_neg (hc i s hs)] at e
    exact ⟨v, e, q⟩
  dis := fun i j k k' d d' v h1 h2 e1 e2 => r.dis i j k k' d d' v h1 h2 (by rw [wipe_get, if_neg (hc i _ h1)]; exact e1) (by rw [wipe_get, if_neg (hc j _ h2)]; exact e2)
/-- the slots stand as before -/
theorem Step.reslot (st : Step K cl Γ Hf (wipe σ vs) H Γ' Hf' (wipe σ vs) H') (hc : Clear Γ vs) (hc' : Clear Γ' vs) : Step K cl Γ Hf σ H Γ' Hf' σ H' where
  rel := st.rel.reslot hc'
  le := st.le
  fr := fun b o h n => st.fr b o h fun z => n ((clear_own hc).mp z)
  av := fun b o h h2 n => st.av b o h h2 fun z => n ((clear_own hc).mp z)
  sub := fun p h => (st.sub p ((clear_own hc').mpr h)).imp (clear_own hc).mp id
  there := st.there
  brw := fun i k d h nk => by
    obtain ⟨d', e1, _, e3⟩ := st.brw i k d h nk
    exact ⟨d', e1, rfl, e3⟩
  subc := fun p h => (st.subc p ((clear_cel hc').mpr h)).imp (clear_cel hc).mp id
theorem Step.reslotEnd (st : Step K cl Γ0 Hf0 σ0 H0 Γ Hf (wipe σ0 vs) H) (hc : Clear Γ vs) : Step K cl Γ0 Hf0 σ0 H0 Γ Hf σ0 H where
  rel := st.rel.reslot hc
  le := st.le
  fr := st.fr
  av := st.av
  sub := fun p h => st.sub p ((clear_own hc).mpr h)
  there := st.there
  brw := fun i k d h nk => by
    obtain ⟨d', e1, _, e3⟩ := st.brw i k d h nk
    exact ⟨d', e1, rfl, e3⟩
  subc := fun p h => st.subc p ((clear_cel hc).mpr h)
/-- what stands nowhere in Γ, and was not there, is written -/
theorem Step.poke (st : Step K cl Γ0 Hf0 σ0 H0 Γ Hf σ H) (h0 : H0 p = none) (hf : Hf p = none) (nc : ¬ IsCel Γ σ p) : Step K cl Γ0 Hf0 σ0 H0 Γ Hf σ (upd H p o) where
  rel := ⟨fun b u e => by
    have : b ≠ p := fun z => by rw [z, hf] at e; cases e
    rw [upd_ne this]; exact st.rel.le b u e, st.rel.len, fun i s hs => by
    obtain ⟨v, e, q⟩ := st.rel.at_ i s hs
    refine ⟨v, e, ?_⟩
    cases s with
    | dat d => exact q
    | cel k d =>
      obtain ⟨b, rfl, n, c⟩ := q
      have hb : b ≠ p := fun z => nc ⟨i, k, d, hs, by rw [e, z]⟩
      exact ⟨b, rfl, n, c.mono (.refl _) fun u eu => by rw [upd_ne hb]; exact eu⟩, st.rel.dis⟩
  le := st.le
  fr := fun b u e n => by
    have : b ≠ p := fun z => by rw [z, h0] at e; cases e
    rw [upd_ne this]; exact st.fr b u e n
  av := st.av
  sub := st.sub
  there := fun b hb => by
    by_cases e : b = p
    · rw [e, upd_same]; exact fun z => nomatch z
    · rw [upd_ne e]; exact st.there b hb
  brw := st.brw
  subc := st.subc
end
structure DGc (X : Cx) (cl : ClA) (vs : List Nat) (tg : Expr) (g : MG) : Prop where
  ex : ∃ t, PG X tg t ∧ ∀ (Γ0 : SE) (Hf0 : Hp) (σ0 : L2.St) (H0 : Hp) (Γ : SE) (Hf : Hp) (σ : L2.St) (H : Hp) (v : V) (s : Sv) (Γ' : SE) (Q : L2.St → Hp → Prop), Step X.K cl Γ0 Hf0 σ0 H0 Γ Hf σ H → TmpOk X.K cl Γ0 σ0 H0 Γ Hf σ H v s → g s Γ = some Γ' →
    (∀ Hf' σ' H', Step X.K cl Γ0 Hf0 σ0 H0 Γ' Hf' σ' H' → wipe σ' vs = wipe σ vs → Q σ' H') → t v σ H Q
structure DGcs (X : Cx) (cl : ClA) (vs : List Nat) (tgs : List Expr) (g : MGs) : Prop where
  ex : ∃ t, PGs X tgs t ∧ ∀ (Γ0 : SE) (Hf0 : Hp) (σ0 : L2.St) (H0 : Hp) (Γ : SE) (Hf : Hp) (σ : L2.St) (H : Hp) (us : List V) (ss : List Sv) (Γ' : SE) (Q : L2.St → Hp → Prop), Step X.K cl Γ0 Hf0 σ0 H0 Γ Hf σ H → TmpsOk X.K cl Γ0 σ0 H0 Γ Hf σ H us ss → g ss Γ = some Γ' →
    (∀ Hf' σ' H', Step X.K cl Γ0 Hf0 σ0 H0 Γ' Hf' σ' H' → wipe σ' vs = wipe σ vs → Q σ' H') → t us σ H Q
/-- one word for each g -/
def tGc (K : PySem.W.Frag) (cl : ClA) (vs : List Nat) (g : MG) : TG := fun v σ H Q => ∃ Γ0 Hf0 σ0 H0 Γ Hf s Γ', Step K cl Γ0 Hf0 σ0 H0 Γ Hf σ H ∧ TmpOk K cl Γ0 σ0 H0 Γ Hf σ H v s ∧ g s Γ = some Γ' ∧ ∀ Hf' σ' H', Step K cl Γ0 Hf0 σ0 H0 Γ' Hf' σ' H' → wipe σ' vs = wipe σ vs → Q σ' H'
structure DTs (X : Cx) (cl : ClA) (W : WX) (ifs : List Expr) (m : MT) : Prop where
  run : PTs X ifs (tT X.K cl W m)
def mYes : MT := fun Γ => .ok true Γ
section
variable {X : Cx} {cl : ClA} {W : WX} {tg : Expr} {pos : Pos} {vs : List Nat}
theorem DGc.pg {g : MG} (h : DGc X cl vs tg g) : PG X tg (tGc X.K cl vs g) := by
  obtain ⟨t, p, w⟩ := h.ex
  exact ⟨fun pins s σ H v u Q I r ⟨Γ0, Hf0, σ0, H0, Γ, Hf, s', Γ', st, ts, e, k⟩ => p.run pins s σ H v u Q I r (w Γ0 Hf0 σ0 H0 Γ Hf σ H v s' Γ' Q st ts e k)⟩
theorem dgc_name (i : Nat) {x : PySem.Str} (hN : X.N.Nodup) (hm : i ∈ vs := by decide) (hi : X.N[i]? = some x := by rfl) (hx : Loc X.env.scope x := by first | exact .inl rfl | exact .inr rfl) (hf : X.fn x = true ∨ X.env.scope.names.lookup x = some .local := by first | exact .inl rfl | exact .inr rfl | assumption) :
    DGc X cl vs (.Name x pos) (gNm i) := by
  refine ⟨_, pg_name hN hi hx hf, fun Γ0 Hf0 σ0 H0 Γ Hf σ H v s Γ' Q st t e k => ?_⟩
  obtain ⟨hl, rfl, hn⟩ := gNm_some e
  exact k Hf _ H (st.store t hl hn) (wipe_set hm)
theorem dgcs_nil : DGcs X cl vs [] gNil := by
  refine ⟨_, pgs_nil, fun Γ0 Hf0 σ0 H0 Γ Hf σ H us ss Γ' Q st t e k => ?_⟩
  unfold gNil at e
  split at e
  · next hs =>
    cases e
    cases t with
    | nil => exact ⟨rfl, k Hf σ H st rfl⟩
    | cons _ _ _ => cases hs
  · cases e
theorem dgcs_cons (i : Nat) {x : PySem.Str} {es : List Expr} {gs : MGs} (hN : X.N.Nodup) (h2 : DGcs X cl vs es gs) (hm : i ∈ vs := by decide) (hi : X.N[i]? = some x := by rfl) (hx : Loc X.env.scope x := by first | exact .inl rfl | exact .inr rfl) (hf : X.fn x = true ∨ X.env.scope.names.lookup x = some .local := by first | exact .inl rfl | exact .inr rfl | assumption)
    (hs : (assignEach (.Name x pos :: es) X.env).map (·.2) = assign (.Name x pos) X.env :: (assignEach es X.env).map (·.2) := by rfl) : DGcs X cl vs (.Name x pos :: es) (gCons (gNm i) gs) := by
  obtain ⟨t2, p2, w2⟩ := h2.ex
  refine ⟨_, pgs_cons (pg_name hN hi hx hf) p2 hs, fun Γ0 Hf0 σ0 H0 Γ Hf σ H us ss Γ' Q st t e k => ?_⟩
  unfold gCons at e
  cases t with
  | nil => cases e
  | @cons v s us ss h ap r =>
    obtain ⟨Γ1, e1, e2⟩ := Option.bind_eq_some_iff.mp e
    obtain ⟨hl, rfl, hn⟩ := gNm_some e1
    have hl' : i < σ.length := by rw [← st.rel.len]; exact hl
    exact ⟨v, us, rfl, w2 Γ0 Hf0 σ0 H0 _ Hf _ H us ss Γ' Q (st.store h hl hn) ((TmpsOk.cons h ap r).stored hl hl') e2 fun Hf' σ' H' st' hw => k Hf' σ' H' st' (hw.trans (wipe_set hm))⟩
theorem dgc_tup {es : List Expr} {k : Nat} {gs : MGs} {n : Nat} (hc : X.calm = true) (h : DGcs X cl vs es gs) (hn : (assignEach es X.env).length = n := by rfl) (hst : (assignEach es X.env).findIdx? (·.1) = none := by rfl) : DGc X cl vs (.Tuple es k pos) (gTp n gs) := by
  obtain ⟨t, p, w⟩ := h.ex
  refine ⟨_, pg_tup hc p hn hst, fun Γ0 Hf0 σ0 H0 Γ Hf σ H v s Γ' Q st h0 e kk => ?_⟩
  unfold gTp at e
  split at e
  · next ds =>
    split at e
    · next hl =>
      cases (show Den X.K cl Hf v (.tup ds) from h0) with
      | @tup a xs _ h1 h2 => exact ⟨a, xs, rfl, st.rel.le.sqt h1, by rw [h2.length]; exact hl, w Γ0 Hf0 σ0 H0 Γ Hf σ H xs (ds.map Sv.dat) Γ' Q st (.dats h2) e kk⟩
    · cases e
  · cases e
theorem dts_nil : DTs X cl W [] mYes := ⟨⟨fun pins s σ H Q I ⟨Γ, Hf, w⟩ => pts_nil.run pins s σ H Q I (w.ok true Γ rfl Hf H (.refl w.rel))⟩⟩
theorem dts_one {c : Expr} {m : MT} (h : DT X cl W c m) : DTs X cl W [c] m := ⟨pts_one h.pt⟩
end
def mLcL (g : MG) (mt : MT) (me : MD) (vs : List Nat) : List D → SE → Res (List D)
  | [] => fun Γ => .ok [] Γ
  | d :: ds => fun Γ => match g (.dat d) Γ with
    | some Γ1 => (mt Γ1).bnd fun b Γ2 => if b then (me Γ2).bnd fun e Γ3 => (mLcL g mt me vs ds (wipeE Γ3 vs)).bnd fun es Γ4 => .ok (e :: es) Γ4 else mLcL g mt me vs ds (wipeE Γ2 vs)
    | none => .bad
def lcEnd (r : Res (List D)) : Res Sv := match r with
  | .ok ds Γ => if ds.length ≤ sizeLine then .ok (.cel .own (.lst ds)) Γ else .bad
  | _ => .bad
def mLc (mi : MDs) (g : MG) (mt : MT) (me : MD) (vs : List Nat) : ME := fun Γ => (mi Γ).bnd fun items Γ1 => if wipeOk Γ1 vs then lcEnd (mLcL g mt me vs items (wipeE Γ1 vs)) else .bad
def W0 : WX := fun _ _ _ _ => False
theorem Res.bnd_ok {α β : Type} {r : Res α} {f : α → SE → Res β} {b : β} {Γ' : SE} (h : r.bnd f = .ok b Γ') : ∃ a Γ1, r = .ok a Γ1 ∧ f a Γ1 = .ok b Γ' := by
  cases r with
  | ok a Γ1 => exact ⟨a, Γ1, rfl, h⟩
  | exc _ _ _ => cases h
  | bad => cases h
theorem wipeOk_no {Γ : SE} {vs : List Nat} (h : wipeOk Γ vs = true) (i : Nat) (k : Kd) (d : D) (e : Γ[i]? = some (some (.cel k d))) : i ∉ vs := fun hm => by
  have q := List.all_eq_true.mp h i hm
  rw [e] at q; cases q
section
variable {K : PySem.W.Frag} {cl : ClA} {Γ Γ1 Γe : SE} {Hf Hf1 H H1 : Hp} {σ : L2.St} {vs : List Nat} {g : MG} {mt : MT} {me : MD} {items total : List D} {J : It} {Q : VK}
theorem lc_data (rel1 : Rel K cl Γ1 Hf1 σ H1) (hw : wipeOk Γ1 vs = true) (it : ItOk K cl Hf1 H1 J items) (st0 : Step K cl Γ Hf σ H Γ1 Hf1 σ H1) (eL : mLcL g mt me vs items (wipeE Γ1 vs) = .ok total Γe) (hlen : total.length ≤ sizeLine)
    (k : ∀ D Hf' H', Step K cl Γ Hf σ H Γe Hf' σ H' → TmpOk K cl Γ σ H Γe Hf' σ H' (.ref D) (.cel .own (.lst total)) → Q (.ref D) H') :
    ∀ D, H1 D = none → ∃ W : Nat → Nat → Hp → Prop, (∃ m, W 0 m (upd H1 D (.lst []))) ∧ ∀ i m H, W i m H →
      (J.stop i H ∧ Q (.ref D) H) ∨ (J.go i H ∧ ∃ Nx : Hp → Prop, (∀ H', Nx H' → ∃ m', m' < m ∧ W (i + 1) m' H') ∧ ∀ x H', J.yld i H x H' → tGc K cl vs g x (wipe σ vs) H' fun σ2 H2 => wipe σ2 vs = wipe σ vs ∧ tT K cl W0 mt σ2 H2 fun b H3 =>
        if b = true then tD K cl W0 me σ2 H3 fun y H4 => ∃ acc, H4 D = some (.lst acc) ∧ acc.length < sizeLine ∧ Nx (upd H4 D (.lst (acc ++ [y]))) else Nx H3) := by
  intro P hP
  have hk := wipeOk_no hw
  have hPf : Hf1 P = none := rel1.le.no hP
  have ncel : ∀ {Γ' : SE} {σ' : L2.St}, (∀ p, IsCel Γ' σ' p → IsCel Γ1 σ p) → ¬ IsCel Γ' σ' P := fun h z => by
    obtain ⟨_, o, e⟩ := rel1.lt (h P z)
    rw [hP] at e; cases e
  refine ⟨fun i m H' => ∃ Γ' Hf' acc accD rest, i ≤ items.length ∧ m = items.length - i ∧ Step K cl Γ1 Hf1 σ H1 Γ' Hf' (wipe σ vs) H' ∧ Clear Γ' vs ∧ H' P = some (.lst acc) ∧ Hf' P = none ∧ ¬ IsCel Γ' (wipe σ vs) P ∧ DenL K cl Hf' acc accD ∧ mLcL g mt me vs (items.drop i) Γ' = .ok rest Γe ∧ accD ++ rest = total,
    ⟨items.length, wipeE Γ1 vs, Hf1, [], [], total, Nat.zero_le _, by simp, ((Step.refl rel1).wipe2 hk).poke hP hPf (ncel fun p => wipe_cel), wipeE_clear _ _, upd_same, hPf, ncel fun p => wipe_cel, .nil, eL, rfl⟩, ?_⟩
  rintro i m H' ⟨Γ', Hf', acc, accD, rest, hi, rfl, st, hc, hPl, hPn, nc, hd, er, et⟩
  have kept : Kept Hf1 H1 H' := fun b o u h1 h2 => st.fr b o h2 (rel1.notOwn h1)
  by_cases hlt : i < items.length
  · refine .inr ?_
    obtain ⟨go, yl⟩ := it.go i items[i] Hf' H' (by simp [hlt]) st.le st.rel.le kept
    rw [List.drop_eq_getElem_cons hlt] at er
    have no : ¬ IsOwn Γ' (wipe σ vs) P := fun z => nc z.cel
    refine ⟨go, fun H'' => ∃ m', m' < items.length - i ∧ ∃ Γ' Hf' acc accD rest, i + 1 ≤ items.length ∧ m' = items.length - (i + 1) ∧ Step K cl Γ1 Hf1 σ H1 Γ' Hf' (wipe σ vs) H'' ∧ Clear Γ' vs ∧ H'' P = some (.lst acc) ∧ Hf' P = none ∧ ¬ IsCel Γ' (wipe σ vs) P ∧ DenL K cl Hf' acc accD ∧ mLcL g mt me vs (items.drop (i + 1)) Γ' = .ok rest Γe ∧ accD ++ rest = total, fun H'' h => h, fun x H2 y => ?_⟩
    obtain ⟨Hf2, sty, hx⟩ := (yl x H2 y).step st.rel
    cases eg : g (.dat items[i]) Γ' with
    | none =>
      have er' : (match g (.dat items[i]) Γ' with | some Γ1 => (mt Γ1).bnd fun b Γ2 => if b then (me Γ2).bnd fun e Γ3 => (mLcL g mt me vs (items.drop (i + 1)) (wipeE Γ3 vs)).bnd fun es Γ4 => .ok (e :: es) Γ4 else mLcL g mt me vs (items.drop (i + 1)) (wipeE Γ2 vs) | none => .bad) = Res.ok rest Γe := er
      rw [eg] at er'; cases er'
    | some Γ2 =>
      have er' : (match g (.dat items[i]) Γ' with | some Γ1 => (mt Γ1).bnd fun b Γ2 => if b then (me Γ2).bnd fun e Γ3 => (mLcL g mt me vs (items.drop (i + 1)) (wipeE Γ3 vs)).bnd fun es Γ4 => .ok (e :: es) Γ4 else mLcL g mt me vs (items.drop (i + 1)) (wipeE Γ2 vs) | none => .bad) = Res.ok rest Γe := er
      rw [eg] at er'
      obtain ⟨b, Γ3, eb, er2⟩ := Res.bnd_ok (show (mt Γ2).bnd _ = _ from er')
      refine ⟨Γ', Hf', wipe σ vs, H', Γ', Hf2, .dat items[i], Γ2, sty, hx, eg, fun Hf3 σ3 H3 st3 hw3 => ⟨hw3.trans wipe_idem, Γ2, Hf3, st3.rel, fun b' Γ3' e Hf4 H4 st4 => ?_, fun c as Γ3' e => (by rw [eb] at e; cases e), (by rw [eb]; exact fun z => nomatch z)⟩⟩
      rw [eb] at e; cases e
      have ew : wipe σ3 vs = wipe σ vs := hw3.trans wipe_idem
      cases b with
      | true =>
        rw [if_pos rfl]
        rw [if_pos rfl] at er2
        obtain ⟨d, Γ4, ed, er3⟩ := Res.bnd_ok er2
        obtain ⟨es, Γ5, ees, er4⟩ := Res.bnd_ok er3
        cases er4
        refine ⟨Γ3, Hf4, st4.rel, fun d' Γ4' e y Hf5 H5 st5 hy => ?_, fun c as Γ4' e => (by rw [ed] at e; cases e), (by rw [ed]; exact fun z => nomatch z)⟩
        rw [ed] at e; cases e
        have sc := st3.trans (st4.trans st5)
        have p1 := sc.fr P _ hPl no
        have p2 := sc.av P _ hPl hPn no
        have p3 : ¬ IsCel Γ4 σ3 P := fun z => by
          rcases sc.subc P z with z | z
          · exact nc z
          · rw [hPl] at z; cases z
        have sf := (st.trans sc).wipe2 hk
        rw [ew] at sf
        have p4 : ¬ IsCel (wipeE Γ4 vs) (wipe σ vs) P := fun z => by rw [← ew] at z; exact p3 (wipe_cel z)
        have hl : acc.length = accD.length := hd.length
        refine ⟨acc, p1, ?_, items.length - (i + 1), by omega, wipeE Γ4 vs, Hf5, acc ++ [y], accD ++ [d], es, hlt, rfl, sf.poke hP p2 p4, wipeE_clear _ _, upd_same, p2, p4, (hd.mono sc.le).append (.one hy), ees, by rw [List.append_assoc]; exact et⟩
        rw [hl]
        have : total.length = accD.length + (es.length + 1) := by rw [← et]; simp
        omega
      | false =>
        rw [if_neg Bool.false_ne_true]
        rw [if_neg Bool.false_ne_true] at er2
        have sc := st3.trans st4
        have p1 := sc.fr P _ hPl no
        have p2 := sc.av P _ hPl hPn no
        have p3 : ¬ IsCel Γ3 σ3 P := fun z => by
          rcases sc.subc P z with z | z
          · exact nc z
          · rw [hPl] at z; cases z
        have sf := (st.trans sc).wipe2 hk
        rw [ew] at sf
        have p4 : ¬ IsCel (wipeE Γ3 vs) (wipe σ vs) P := fun z => by rw [← ew] at z; exact p3 (wipe_cel z)
        exact ⟨items.length - (i + 1), by omega, wipeE Γ3 vs, Hf4, acc, accD, rest, hlt, rfl, sf, wipeE_clear _ _, p1, p2, p4, hd.mono sc.le, er2, et⟩
  · have e : i = items.length := by omega
    subst e
    rw [List.drop_length] at er
    cases er
    rw [List.append_nil] at et
    subst et
    have sE := st.reslotEnd hc
    refine .inl ⟨it.stop Hf' H' st.le st.rel.le kept, k P Hf' H' (st0.trans sE) ⟨rfl, P, rfl, hPn, .lst hPl hd, fun z => nc ((clear_cel hc).mpr z), .inr ?_⟩⟩
    cases e : H P with
    | none => rfl
    | some o => exact absurd hP (st0.there P (by rw [e]; exact fun z => nomatch z))
end
section
variable {X : Cx} {cl : ClA} {W : WX} {elt tg iter : Expr} {ifs : List Expr} {scope : Scope} {own : List (PySem.Str × Nat)} {pos : Pos} {mi : MDs} {g : MG} {mt : MT} {me : MD}
theorem lcEnd_ok {r : Res (List D)} {s : Sv} {Γ : SE} (h : lcEnd r = .ok s Γ) : ∃ ds, r = .ok ds Γ ∧ s = .cel .own (.lst ds) ∧ ds.length ≤ sizeLine := by
  unfold lcEnd at h
  split at h
  · next ds Γ' =>
    split at h
    · next hl => cases h; exact ⟨ds, rfl, rfl, hl⟩
    · cases h
  · cases h
theorem lcEnd_nx {r : Res (List D)} (h : lcEnd r ≠ .bad) : ∃ ds Γ, r = .ok ds Γ ∧ ds.length ≤ sizeLine ∧ lcEnd r = .ok (.cel .own (.lst ds)) Γ := by
  cases r with
  | ok ds Γ =>
    by_cases hl : ds.length ≤ sizeLine
    · exact ⟨ds, Γ, rfl, hl, if_pos hl⟩
    · exact absurd (if_neg hl) h
  | exc _ _ _ => exact absurd rfl h
  | bad => exact absurd rfl h
theorem wi_lc {K : PySem.W.Frag} {vs : List Nat} {wi : TI} (w : WI K cl wi W mi) : WE K cl (tLc wi (tGc K cl vs g) (tT K cl W0 mt) (tD K cl W0 me) vs) W (mLc mi g mt me vs) := fun Γ Hf σ H Q wq => by
  refine w Γ Hf σ H _ (wq.bind fun items Γ1 e1 J Hf1 H1 st1 it => ?_)
  have w1 := wq.nextE e1 st1
  by_cases hw : wipeOk Γ1 vs = true
  · rw [if_pos hw] at w1
    obtain ⟨ds, Γe, eL, hl, eE⟩ := lcEnd_nx w1.nb
    refine lc_data st1.rel hw it st1 eL hl fun P Hf' H' st t => ?_
    exact wq.ok _ Γe (by show (mi Γ).bnd _ = _; rw [e1]; show (if wipeOk Γ1 vs then lcEnd _ else .bad) = _; rw [if_pos hw]; exact eE) _ Hf' H' st t
  · rw [if_neg hw] at w1; exact (w1.nb rfl).elim
theorem de_lc (hc : X.calm = true) (hN : X.N.Nodup) (hi : DI X cl W tg iter mi) (ok : BlkOk X.N X.env.scope scope own)
    (hg : ∀ (s : Shared) (H : Hp) (C : Addr) (cc : List (PySem.Str × Addr)) (fp : List Addr), DGc (X.blk s H scope (compEnvC scope cc C X.env) fp) cl (own.map (·.2)) tg g)
    (ht : ∀ (s : Shared) (H : Hp) (C : Addr) (cc : List (PySem.Str × Addr)) (fp : List Addr), DTs (X.blk s H scope (compEnvC scope cc C X.env) fp) cl W0 ifs mt)
    (he : ∀ (s : Shared) (H : Hp) (C : Addr) (cc : List (PySem.Str × Addr)) (fp : List Addr), DD (X.blk s H scope (compEnvC scope cc C X.env) fp) cl W0 elt me) (hs : ∀ x, foldedSetIterable iter X.env x = pure x := by intro _; rfl) :
    DE X cl W (.ListComp elt [⟨tg, iter, ifs, 0⟩] scope pos) (mLc mi g mt me (own.map (·.2))) := by
  obtain ⟨wi, pi, w⟩ := hi.ex
  exact ⟨_, pe_lc hc hN pi ok (fun s H C cc fp => (hg s H C cc fp).pg) (fun s H C cc fp => (ht s H C cc fp).run) (fun s H C cc fp => (he s H C cc fp).pe) hs, wi_lc w⟩
theorem ds_setLc (i : Nat) {y : PySem.Str} {py spos : Pos} (hc : X.calm = true) (hN : X.N.Nodup) (hi : DI X cl W tg iter mi) (ok : BlkOk X.N X.env.scope scope own)
    (hg : ∀ (s : Shared) (H : Hp) (C : Addr) (cc : List (PySem.Str × Addr)) (fp : List Addr), DGc (X.blk s H scope (compEnvC scope cc C X.env) fp) cl (own.map (·.2)) tg g)
    (ht : ∀ (s : Shared) (H : Hp) (C : Addr) (cc : List (PySem.Str × Addr)) (fp : List Addr), DTs (X.blk s H scope (compEnvC scope cc C X.env) fp) cl W0 ifs mt)
    (he : ∀ (s : Shared) (H : Hp) (C : Addr) (cc : List (PySem.Str × Addr)) (fp : List Addr), DD (X.blk s H scope (compEnvC scope cc C X.env) fp) cl W0 elt me)
    (hy : X.N[i]? = some y := by rfl) (hyl : X.env.scope.names.lookup y = some .local := by rfl) (hsw : swapsWith (.ListComp elt [⟨tg, iter, ifs, 0⟩] scope pos) (some (.Name y py)) spos.line X.env = pure true := by rfl) (hs : ∀ x, foldedSetIterable iter X.env x = pure x := by intro _; rfl) :
    DS X cl W (.Assign [.Name y py] (.ListComp elt [⟨tg, iter, ifs, 0⟩] scope pos) spos) (mAsg (mLc mi g mt me (own.map (·.2))) (gNm i)) := by
  obtain ⟨wi, pi, w⟩ := hi.ex
  refine ⟨_, L2.ps_setLc hc hN hy hyl hsw pi ok (fun s H C cc fp => (hg s H C cc fp).pg) (fun s H C cc fp => (ht s H C cc fp).run) (fun s H C cc fp => (he s H C cc fp).pe) hs, fun Γ Hf σ H D wq => wi_lc w Γ Hf σ H _ (wq.bind fun s Γ1 e1 x Hf1 H1 st1 t1 => ?_)⟩
  obtain ⟨Γ2, e2, k⟩ := (wq.of e1).optS
  obtain ⟨hl, rfl, hn⟩ := gNm_some e2
  exact k Hf1 _ H1 (st1.store t1 hl hn)
/-- over a name that holds a dict -/
def mLcK (i : Nat) (g : MG) (mt : MT) (me : MD) (vs : List Nat) : ME := fun Γ => (mVar i Γ).bnd fun d Γ1 => match d with
  | .dic ds => if wipeOk Γ1 vs then lcEnd (mLcL g mt me vs (keysD ds) (wipeE Γ1 vs)) else .bad
  | _ => .bad
theorem de_lcK (i : Nat) {x : PySem.Str} {p : Pos} (hc : X.calm = true) (hN : X.N.Nodup) (ok : BlkOk X.N X.env.scope scope own)
    (hg : ∀ (s : Shared) (H : Hp) (C : Addr) (cc : List (PySem.Str × Addr)) (fp : List Addr), DGc (X.blk s H scope (compEnvC scope cc C X.env) fp) cl (own.map (·.2)) tg g)
    (ht : ∀ (s : Shared) (H : Hp) (C : Addr) (cc : List (PySem.Str × Addr)) (fp : List Addr), DTs (X.blk s H scope (compEnvC scope cc C X.env) fp) cl W0 ifs mt)
    (he : ∀ (s : Shared) (H : Hp) (C : Addr) (cc : List (PySem.Str × Addr)) (fp : List Addr), DD (X.blk s H scope (compEnvC scope cc C X.env) fp) cl W0 elt me)
    (hNi : X.N[i]? = some x := by rfl) (hv : Vis X.env.scope x := by first | exact Or.inl rfl | exact Or.inr (Or.inl rfl) | exact Or.inr (Or.inr rfl)) (hd : (x == ("__debug__" : PySem.Str)) = false := by decide) (hcd : (x == ("__classdict__" : PySem.Str)) = false := by decide) (hs : ∀ y, foldedSetIterable (.Name x p) X.env y = pure y := by intro _; rfl) :
    DE X cl W (.ListComp elt [⟨tg, .Name x p, ifs, 0⟩] scope pos) (mLcK i g mt me (own.map (·.2))) := by
  have P := pe_lc (pos := pos) (elt := elt) (ifs := ifs) (g := tGc X.K cl (own.map (·.2)) g) (tt := tT X.K cl W0 mt) (te := tD X.K cl W0 me) hc hN (pi_keys (tg := tg) (pe_var (pos := p) hNi hv hd hcd)) ok (fun s H C cc fp => (hg s H C cc fp).pg) (fun s H C cc fp => (ht s H C cc fp).run) (fun s H C cc fp => (he s H C cc fp).pe) hs
  refine ⟨_, PE.or P (pe_lock P), fun Γ Hf σ H Q w => ?_⟩
  cases em : mVar i Γ with
  | bad => exact (w.nb (by unfold mLcK; rw [em]; rfl)).elim
  | exc c as Γ1 => unfold mVar at em; split at em <;> cases em
  | ok d Γ1 =>
    obtain ⟨v, Hf1, ev, st, hv⟩ := w.rel.var em
    have w1 := w.next (f := fun d Γ1 => match d with | .dic ds => if wipeOk Γ1 (own.map (·.2)) then lcEnd (mLcL g mt me (own.map (·.2)) (keysD ds) (wipeE Γ1 (own.map (·.2)))) else .bad | _ => .bad) em st
    cases d with
    | dic ds =>
      have w2 : Wants X.K cl Γ1 Hf1 σ H (PSv X.K cl Γ1 σ H) (fun c d H' => W c d σ H') (if wipeOk Γ1 (own.map (·.2)) then lcEnd (mLcL g mt me (own.map (·.2)) (keysD ds) (wipeE Γ1 (own.map (·.2)))) else .bad) Q := w1
      by_cases hw : wipeOk Γ1 (own.map (·.2)) = true
      · rw [if_pos hw] at w2
        obtain ⟨es, Γe, eL, hl, eE⟩ := lcEnd_nx w2.nb
        rw [eE] at w2
        cases hv with
        | @dic a kvs _ hr hk =>
          obtain ⟨u, hu⟩ : ∃ u, Hf1 a = some u := by
            rcases hr with q | ⟨o, q⟩
            · exact ⟨_, q⟩
            · exact ⟨_, q⟩
          have hH := st.rel.le.rdk hr
          rcases hH with q | ⟨od, q⟩
          · refine .inr ⟨a, .dK kvs, q, trivial, fun od => ?_⟩
            have w3 := Wants.lock (od := od) (E' := fun _ _ _ => False) (m := .ok (.cel .own (.lst es)) Γe) w2 q hu
            exact ⟨.ref a, ev, a, od, rfl, .inl ⟨kvs, upd_same, lc_data (Q := fun v H' => H' a = some (.frz od (.dK kvs)) ∧ Q v (upd H' a (.dK kvs))) w3.rel hw (itOk_keys hu upd_same hk) (.refl w3.rel) eL hl fun P Hf' H' st t => w3.ok _ Γe rfl _ Hf' H' st t⟩⟩
          · exact .inl ⟨.ref a, ev, a, od, rfl, .inl ⟨kvs, q, lc_data w2.rel hw (itOk_keys hu q hk) (.refl w2.rel) eL hl fun P Hf' H' st t => w2.ok _ Γe rfl _ Hf' H' st t⟩⟩
      · rw [if_neg hw] at w2; exact (w2.nb rfl).elim
    | _ => exact (w1.nb rfl).elim
end
end DL
end

section
set_option Elab.async false
set_option linter.all false
set_option maxRecDepth 100000
set_option maxHeartbeats 2000000
namespace DL
open PySem PySem.Spec PyProof.Rows L2


/-! ## methods of lists and dicts, on a name -/
def CaM (K : PySem.W.Frag) (cl : ClA) (r : V → List V → Hp → VK → Prop) (f : D → List D → Option (D × D)) : Prop :=
  ∀ (Hf H : Hp) (p : Addr) (d : D) (ds : List D) (vs : List V) (res d' : D) (Q : VK), Le Hf H → Hf p = none → Cell K cl Hf H p d → DenL K cl Hf vs ds → f d ds = some (res, d') →
    (∀ v o, Den K cl Hf v res → Cell K cl Hf (upd H p o) p d' → Q v (upd H p o)) → r (.ref p) vs H Q
def cellT (Γ : SE) (i : Nat) : Option String := match Γ[i]? with
  | some (some (.cel _ (.lst _))) => some "list"
  | some (some (.cel _ (.dic _))) => some "dict"
  | _ => none
def mM (T : String) (i : Nat) (f : D → List D → Option (D × D)) (r : MDs) : ME := fun Γ => if cellT Γ i = some T then (r Γ).bnd fun ds Γ1 => match Γ1[i]? with
  | some (some (.cel k d)) => if k = .lok then .bad else match f d ds with
    | some z => .ok (.dat z.1) (Γ1.set i (some (.cel k z.2)))
    | none => .bad
  | _ => .bad
  else .bad
section
variable {X : Cx} {cl : ClA} {W : WX} {x name : PySem.Str} {apos cpos p : Pos} {T id : String} {r : V → List V → Hp → VK → Prop} {f : D → List D → Option (D × D)} {e : Expr} {es : List Expr} {m : MDs}
theorem cellT_ty {K : PySem.W.Frag} {Γ : SE} {Hf H : Hp} {σ : L2.St} {i : Nat} (rel : Rel K cl Γ Hf σ H) (h : cellT Γ i = some T) : ∃ v, σ[i]? = some (some v) ∧ tyV K T v H := by
  unfold cellT at h
  split at h
  · next k ds e =>
    cases h
    obtain ⟨v, ev, q, rfl, n, c⟩ := rel.at_ i _ e
    cases c with
    | @lst vs _ h1 h2 => exact ⟨_, ev, .inl ⟨rfl, vs, SqL.of h1⟩⟩
  · next k ds e =>
    cases h
    obtain ⟨v, ev, q, rfl, n, c⟩ := rel.at_ i _ e
    cases c with
    | @dic kvs _ h1 h2 => exact ⟨_, ev, .inr (.inr (.inl ⟨rfl, .inl ⟨kvs, h1⟩⟩))⟩
  · cases h
theorem m_run {K : PySem.W.Frag} {Γ : SE} {Hf H : Hp} {σ : L2.St} {E : Value → Option Addr → Hp → Prop} {i : Nat} {v : V} {ds : List D} {vs : List V} {Q : VK} (hr : CaM K cl r f) (ev : σ[i]? = some (some v)) (hd : DenL K cl Hf vs ds)
    (w : Wants K cl Γ Hf σ H (PSv K cl Γ σ H) E (match Γ[i]? with
      | some (some (.cel k d)) => if k = .lok then .bad else match f d ds with
        | some z => .ok (.dat z.1) (Γ.set i (some (.cel k z.2)))
        | none => .bad
      | _ => .bad) Q) : r v vs H Q := by
  split at w
  · next k d e =>
    split at w
    · exact (w.nb rfl).elim
    next hk =>
    cases ef : f d ds with
    | none => rw [ef] at w; exact (w.nb rfl).elim
    | some z =>
      rw [ef] at w
      obtain ⟨u, eu, q, rfl, n, c⟩ := w.rel.at_ i _ e
      rw [ev] at eu; cases eu
      refine hr Hf H q d ds vs z.1 z.2 Q w.rel.le n c hd ef fun y o hy hc => ?_
      exact w.ok _ _ rfl y Hf _ (w.rel.change e ev hk hc) hy
  · exact (w.nb rfl).elim
theorem de_m0 (i : Nat) (pa : PlainAttrs T) (slot : Slot T name id) (hty : typeOf (.builtin id) = pure (.type "method_descriptor")) (hm : MtR X id r) (hr : CaM X.K cl r f)
    (hN : X.N[i]? = some x := by rfl) (hv : Vis X.env.scope x := by first | exact Or.inl rfl | exact Or.inr (Or.inl rfl) | exact Or.inr (Or.inr rfl)) (hd : (x == ("__debug__" : PySem.Str)) = false := by decide) (hcd : (x == ("__classdict__" : PySem.Str)) = false := by decide)
    (hbase : attributeBase (.Name x p) name X.env (eval (.Name x p) X.env) = eval (.Name x p) X.env := by rfl) (hline : (apos.endLine == cpos.line) = true := by rfl) :
    DE X cl W (.Call (.Attribute (.Name x p) name apos) [] [] cpos) (mM T i f mNil) := by
  refine ⟨_, pe_bm0 pa slot hty hm (pe_var (pos := p) hN hv hd hcd) hbase hline, fun Γ Hf σ H Q w => ?_⟩
  by_cases hc : cellT Γ i = some T
  · obtain ⟨v, ev, ty⟩ := cellT_ty w.rel hc
    have w1 : Wants X.K cl Γ Hf σ H (PSv X.K cl Γ σ H) (fun c d H' => W c d σ H') (match Γ[i]? with
      | some (some (.cel k d)) => if k = .lok then .bad else match f d [] with
        | some z => .ok (.dat z.1) (Γ.set i (some (.cel k z.2)))
        | none => .bad
      | _ => .bad) Q := by unfold mM at w; rw [if_pos hc] at w; exact w
    exact ⟨v, ev, ty, m_run hr ev .nil w1⟩
  · unfold mM at w; rw [if_neg hc] at w; exact (w.nb rfl).elim
theorem de_m (i : Nat) (pa : PlainAttrs T) (slot : Slot T name id) (hty : typeOf (.builtin id) = pure (.type "method_descriptor")) (hm : MtR X id r) (hr : CaM X.K cl r f) (ha : DAs X cl W (e :: es) m)
    (hN : X.N[i]? = some x := by rfl) (hv : Vis X.env.scope x := by first | exact Or.inl rfl | exact Or.inr (Or.inl rfl) | exact Or.inr (Or.inr rfl)) (hd : (x == ("__debug__" : PySem.Str)) = false := by decide) (hcd : (x == ("__classdict__" : PySem.Str)) = false := by decide)
    (hbase : attributeBase (.Name x p) name X.env (eval (.Name x p) X.env) = eval (.Name x p) X.env := by rfl)
    (hfew : ((backTo cpos (starEach (e :: es) X.env)).all (fun x => !x.1) && (backToKw cpos (keywordEach [] X.env)).all (fun x => x.1.isSome)
      && decide ((e :: es).length + ([] : List Keyword).length + (if ([] : List Keyword).isEmpty then 0 else 1) < 30)) = true := by rfl)
    (hline : (apos.endLine == cpos.line) = true := by rfl) (hs : starEach (e :: es) X.env = (false, eval e X.env) :: starEach es X.env := by rfl) (hplain : (backTo cpos (starEach es X.env)).any (·.1) = false := by rfl) :
    DE X cl W (.Call (.Attribute (.Name x p) name apos) (e :: es) [] cpos) (mM T i f m) := by
  obtain ⟨ta, pA, wA⟩ := ha.ex
  refine ⟨_, pe_bm pa slot hty hm (pe_var (pos := p) hN hv hd hcd) pA hbase hfew hline hs hplain, fun Γ Hf σ H Q w => ?_⟩
  by_cases hc : cellT Γ i = some T
  · obtain ⟨v, ev, ty⟩ := cellT_ty w.rel hc
    have w1 : Wants X.K cl Γ Hf σ H (PSv X.K cl Γ σ H) (fun c d H' => W c d σ H') ((m Γ).bnd fun ds Γ1 => match Γ1[i]? with
      | some (some (.cel k d)) => if k = .lok then .bad else match f d ds with
        | some z => .ok (.dat z.1) (Γ1.set i (some (.cel k z.2)))
        | none => .bad
      | _ => .bad) Q := by unfold mM at w; rw [if_pos hc] at w; exact w
    refine ⟨v, ev, ty, wA Γ Hf σ H _ (w1.bind fun ds Γ1 e1 vs Hf1 H1 st1 p1 => ?_)⟩
    exact m_run hr ev p1 (w1.next e1 st1)
  · unfold mM at w; rw [if_neg hc] at w; exact (w.nb rfl).elim
theorem MtR.or {r' : V → List V → Hp → VK → Prop} (h1 : MtR X id r) (h2 : MtR X id r') : MtR X id (fun x xs H Q => r x xs H Q ∨ r' x xs H Q) := fun pins s σ H x xs v us Q I r1 r2 h => h.elim (h1 pins s σ H x xs v us Q I r1 r2) (h2 pins s σ H x xs v us Q I r1 r2)
end
def fAppend : D → List D → Option (D × D)
  | .lst xs, [e] => if xs.length < sizeLine then some (.non, .lst (xs ++ [e])) else none
  | _, _ => none
def fPop : D → List D → Option (D × D)
  | .lst xs, [] => (xs[xs.length - 1]?).map fun y => (y, .lst xs.dropLast)
  | _, _ => none
def fPopAt : D → List D → Option (D × D)
  | .lst xs, [.int i] => if -(2 ^ 63) ≤ i ∧ i < 2 ^ 63 then (seqIndex? i xs.length).bind fun k => (xs[k]?).map fun y => (y, .lst (xs.eraseIdx k)) else none
  | _, _ => none
def fExtend : D → List D → Option (D × D)
  | .lst xs, [.lst ys] => if xs.length + ys.length ≤ sizeLine then some (.non, .lst (xs ++ ys)) else none
  | .lst xs, [.tup ys] => if xs.length + ys.length ≤ sizeLine then some (.non, .lst (xs ++ ys)) else none
  | _, _ => none
def fClear : D → List D → Option (D × D)
  | .lst _, [] => some (.non, .lst [])
  | _, _ => none
def fClearD : D → List D → Option (D × D)
  | .dic _, [] => some (.non, .dic [])
  | _, _ => none
section
variable {K : PySem.W.Frag} {cl : ClA}
theorem Cell.lstI {Hf H : Hp} {p : Addr} {ds : List D} (h : Cell K cl Hf H p (.lst ds)) : ∃ vs, H p = some (.lst vs) ∧ DenL K cl Hf vs ds := by
  cases h with
  | lst h g => exact ⟨_, h, g⟩
theorem Cell.dicI {Hf H : Hp} {p : Addr} {ds : List (Key × D)} (h : Cell K cl Hf H p (.dic ds)) : ∃ vs, H p = some (.dK vs) ∧ DenK K cl Hf vs ds := by
  cases h with
  | dic h g => exact ⟨_, h, g⟩
theorem cm_append : CaM K cl rAppend fAppend := fun Hf H p d ds vs res d' Q l n c hd ef k => by
  unfold fAppend at ef
  split at ef
  · next xs e =>
    split at ef
    · next hl =>
      cases ef
      obtain ⟨ws, h1, h2⟩ := c.lstI
      match vs, hd with
      | [v], .cons hv .nil => exact ⟨p, ws, v, rfl, rfl, h1, by rw [h2.length]; exact hl, k .non _ .non (.lst upd_same (h2.append (.one hv)))⟩
    · cases ef
  · cases ef
theorem cm_pop : CaM K cl rPop fPop := fun Hf H p d ds vs res d' Q l n c hd ef k => by
  unfold fPop at ef
  split at ef
  · next xs =>
    obtain ⟨y, ey, ez⟩ := Option.map_eq_some_iff.mp ef
    cases ez
    obtain ⟨ws, h1, h2⟩ := c.lstI
    obtain ⟨v, e2, hv⟩ := h2.get ey
    cases hd
    exact ⟨p, ws, v, rfl, rfl, h1, by rw [h2.length]; exact e2, k v _ hv (.lst upd_same h2.dropLast)⟩
  · cases ef
theorem cm_popAt : CaM K cl rPopAt fPopAt := fun Hf H p d ds vs res d' Q l n c hd ef k => by
  unfold fPopAt at ef
  split at ef
  · next xs i =>
    split at ef
    · next hl =>
      obtain ⟨j, ej, e2⟩ := Option.bind_eq_some_iff.mp ef
      obtain ⟨y, ey, ez⟩ := Option.map_eq_some_iff.mp e2
      cases ez
      obtain ⟨ws, h1, h2⟩ := c.lstI
      obtain ⟨v, e2, hv⟩ := h2.get ey
      match vs, hd with
      | [_], .cons (.int _) .nil => exact ⟨p, ws, i, j, v, rfl, rfl, h1, hl.1, hl.2, by rw [h2.length]; exact ej, e2, k v _ hv (.lst upd_same (h2.eraseIdx j))⟩
    · cases ef
  · cases ef
theorem cm_extend : CaM K cl (fun x xs H Q => rExtend x xs H Q ∨ rExtT K x xs H Q) fExtend := fun Hf H p d ds vs res d' Q l n c hd ef k => by
  unfold fExtend at ef
  split at ef
  · next xs ys =>
    split at ef
    · next hl =>
      cases ef
      obtain ⟨ws, h1, h2⟩ := c.lstI
      match vs, hd with
      | [_], .cons (.lst h3 h4) .nil => exact .inl ⟨p, _, ws, _, rfl, rfl, h1, l.lst h3, by rw [h2.length, h4.length]; exact hl, k .non _ .non (.lst upd_same (h2.append h4))⟩
    · cases ef
  · next xs ys =>
    split at ef
    · next hl =>
      cases ef
      obtain ⟨ws, h1, h2⟩ := c.lstI
      match vs, hd with
      | [_], .cons (.tup h3 h4) .nil => exact .inr ⟨p, _, ws, _, rfl, rfl, h1, l.sqt h3, by rw [h2.length, h4.length]; exact hl, k .non _ .non (.lst upd_same (h2.append h4))⟩
    · cases ef
  · cases ef
theorem cm_clear : CaM K cl rClear fClear := fun Hf H p d ds vs res d' Q l n c hd ef k => by
  unfold fClear at ef
  split at ef
  · next xs =>
    cases ef
    obtain ⟨ws, h1, h2⟩ := c.lstI
    cases hd
    exact ⟨p, ws, rfl, rfl, h1, k .non _ .non (.lst upd_same .nil)⟩
  · cases ef
def rClearD : V → List V → Hp → VK → Prop := fun x vs H Q => ∃ a kvs, x = .ref a ∧ vs = [] ∧ H a = some (.dK kvs) ∧ Q .non (upd H a (.dK []))
theorem mt_clearD {X : Cx} : MtR X "dict.clear" rClearD := by
  intro pins s σ H x vs v us Q I rx rv h
  obtain ⟨a, kvs, rfl, rfl, hH, q⟩ := h
  cases rx
  have hus := rv.zero
  subst hus
  exact d_clear I hH fun s' I' => ⟨.non, _, I', rfl, q⟩
theorem cm_clearD : CaM K cl rClearD fClearD := fun Hf H p d ds vs res d' Q l n c hd ef k => by
  unfold fClearD at ef
  split at ef
  · next xs =>
    cases ef
    obtain ⟨ws, h1, h2⟩ := c.dicI
    cases hd
    exact ⟨p, ws, rfl, rfl, h1, k .non _ .non (.dic upd_same .nil)⟩
  · cases ef
end
section
variable {X : Cx} {cl : ClA} {W : WX} {x : PySem.Str} {apos cpos p : Pos} {e : Expr} {m : MDs}
theorem de_append (i : Nat) (ha : DAs X cl W [e] m) (hN : X.N[i]? = some x := by rfl) (hv : Vis X.env.scope x := by first | exact Or.inl rfl | exact Or.inr (Or.inl rfl) | exact Or.inr (Or.inr rfl)) (hd : (x == ("__debug__" : PySem.Str)) = false := by decide) (hcd : (x == ("__classdict__" : PySem.Str)) = false := by decide)
    (hbase : attributeBase (.Name x p) "append" X.env (eval (.Name x p) X.env) = eval (.Name x p) X.env := by rfl)
    (hfew : ((backTo cpos (starEach [e] X.env)).all (fun x => !x.1) && (backToKw cpos (keywordEach [] X.env)).all (fun x => x.1.isSome)
      && decide ([e].length + ([] : List Keyword).length + (if ([] : List Keyword).isEmpty then 0 else 1) < 30)) = true := by rfl)
    (hline : (apos.endLine == cpos.line) = true := by rfl) (hs : starEach [e] X.env = (false, eval e X.env) :: starEach [] X.env := by rfl) (hplain : (backTo cpos (starEach [] X.env)).any (·.1) = false := by rfl) :
    DE X cl W (.Call (.Attribute (.Name x p) "append" apos) [e] [] cpos) (mM "list" i fAppend m) := de_m i PySem.F.plainAttrs_list PySem.F.slot_list_append PySem.F.type_list_append mt_append cm_append ha hN hv hd hcd hbase hfew hline hs hplain
theorem de_extend (i : Nat) (ha : DAs X cl W [e] m) (hN : X.N[i]? = some x := by rfl) (hv : Vis X.env.scope x := by first | exact Or.inl rfl | exact Or.inr (Or.inl rfl) | exact Or.inr (Or.inr rfl)) (hd : (x == ("__debug__" : PySem.Str)) = false := by decide) (hcd : (x == ("__classdict__" : PySem.Str)) = false := by decide)
    (hbase : attributeBase (.Name x p) "extend" X.env (eval (.Name x p) X.env) = eval (.Name x p) X.env := by rfl)
    (hfew : ((backTo cpos (starEach [e] X.env)).all (fun x => !x.1) && (backToKw cpos (keywordEach [] X.env)).all (fun x => x.1.isSome)
      && decide ([e].length + ([] : List Keyword).length + (if ([] : List Keyword).isEmpty then 0 else 1) < 30)) = true := by rfl)
    (hline : (apos.endLine == cpos.line) = true := by rfl) (hs : starEach [e] X.env = (false, eval e X.env) :: starEach [] X.env := by rfl) (hplain : (backTo cpos (starEach [] X.env)).any (·.1) = false := by rfl) :
    DE X cl W (.Call (.Attribute (.Name x p) "extend" apos) [e] [] cpos) (mM "list" i fExtend m) := de_m i PySem.F.plainAttrs_list PySem.F.slot_list_extend PySem.F.type_list_extend (MtR.or mt_extend mt_extT) cm_extend ha hN hv hd hcd hbase hfew hline hs hplain
theorem de_popAt (i : Nat) (ha : DAs X cl W [e] m) (hN : X.N[i]? = some x := by rfl) (hv : Vis X.env.scope x := by first | exact Or.inl rfl | exact Or.inr (Or.inl rfl) | exact Or.inr (Or.inr rfl)) (hd : (x == ("__debug__" : PySem.Str)) = false := by decide) (hcd : (x == ("__classdict__" : PySem.Str)) = false := by decide)
    (hbase : attributeBase (.Name x p) "pop" X.env (eval (.Name x p) X.env) = eval (.Name x p) X.env := by rfl)
    (hfew : ((backTo cpos (starEach [e] X.env)).all (fun x => !x.1) && (backToKw cpos (keywordEach [] X.env)).all (fun x => x.1.isSome)
      && decide ([e].length + ([] : List Keyword).length + (if ([] : List Keyword).isEmpty then 0 else 1) < 30)) = true := by rfl)
    (hline : (apos.endLine == cpos.line) = true := by rfl) (hs : starEach [e] X.env = (false, eval e X.env) :: starEach [] X.env := by rfl) (hplain : (backTo cpos (starEach [] X.env)).any (·.1) = false := by rfl) :
    DE X cl W (.Call (.Attribute (.Name x p) "pop" apos) [e] [] cpos) (mM "list" i fPopAt m) := de_m i PySem.F.plainAttrs_list PySem.F.slot_list_pop PySem.F.type_list_pop mt_popAt cm_popAt ha hN hv hd hcd hbase hfew hline hs hplain
theorem de_pop (i : Nat) (hN : X.N[i]? = some x := by rfl) (hv : Vis X.env.scope x := by first | exact Or.inl rfl | exact Or.inr (Or.inl rfl) | exact Or.inr (Or.inr rfl)) (hd : (x == ("__debug__" : PySem.Str)) = false := by decide) (hcd : (x == ("__classdict__" : PySem.Str)) = false := by decide)
    (hbase : attributeBase (.Name x p) "pop" X.env (eval (.Name x p) X.env) = eval (.Name x p) X.env := by rfl) (hline : (apos.endLine == cpos.line) = true := by rfl) :
    DE X cl W (.Call (.Attribute (.Name x p) "pop" apos) [] [] cpos) (mM "list" i fPop mNil) := de_m0 i PySem.F.plainAttrs_list PySem.F.slot_list_pop PySem.F.type_list_pop mt_pop cm_pop hN hv hd hcd hbase hline
theorem de_clearD (i : Nat) (hN : X.N[i]? = some x := by rfl) (hv : Vis X.env.scope x := by first | exact Or.inl rfl | exact Or.inr (Or.inl rfl) | exact Or.inr (Or.inr rfl)) (hd : (x == ("__debug__" : PySem.Str)) = false := by decide) (hcd : (x == ("__classdict__" : PySem.Str)) = false := by decide)
    (hbase : attributeBase (.Name x p) "clear" X.env (eval (.Name x p) X.env) = eval (.Name x p) X.env := by rfl) (hline : (apos.endLine == cpos.line) = true := by rfl) :
    DE X cl W (.Call (.Attribute (.Name x p) "clear" apos) [] [] cpos) (mM "dict" i fClearD mNil) := de_m0 i PySem.F.plainAttrs_dict PySem.F.slot_dict_clear PySem.F.type_dict_clear mt_clearD cm_clearD hN hv hd hcd hbase hline
end
end DL
end

section
set_option Elab.async false
set_option linter.all false
set_option maxRecDepth 100000
set_option maxHeartbeats 2000000
namespace DL
open PySem PySem.Spec PyProof.Rows L2


/-! ## defs -/
def padE (N : Nat) (Γ : SE) : SE := Γ ++ List.replicate (N - Γ.length) none
/-- what stays of a def's slots for its caller: the cells that are the caller's -/
def backSlot : Option Sv → Option Sv → Option Sv
  | some (.cel .brw _), g => g
  | some (.cel .lok _), g => g
  | _, _ => none
theorem backSlot_some {g g' : Option Sv} {s : Sv} (h : backSlot g g' = some s) : ∃ k d, g = some (.cel k d) ∧ k ≠ .own ∧ g' = some s := by
  unfold backSlot at h
  split at h
  · exact ⟨_, _, rfl, by decide, h⟩
  · exact ⟨_, _, rfl, by decide, h⟩
  · cases h
def backE : SE → SE → SE
  | [], _ => []
  | g :: Γ, Γ' => backSlot g (Γ'.headD none) :: backE Γ Γ'.tail
def fnEnd (Γ : SE) (r : RS) : Res Sv := match r with
  | .nx Γ' => .ok (.dat .non) (backE Γ Γ')
  | .rt s Γ' => .ok s (backE Γ Γ')
  | .ex c as Γ' => .exc c as (backE Γ Γ')
  | _ => .bad
def mFn (N : Nat) (b : MS) : ME := fun Γ => fnEnd Γ (b (padE N Γ))
theorem backE_length : ∀ (Γ Γ' : SE), (backE Γ Γ').length = Γ.length
  | [], _ => rfl
  | _ :: Γ, Γ' => by show (backE Γ Γ'.tail).length + 1 = _; rw [backE_length Γ]; rfl
theorem backE_some : ∀ {Γ Γ' : SE} {i : Nat} {s : Sv}, (backE Γ Γ')[i]? = some (some s) → ∃ k d, Γ[i]? = some (some (.cel k d)) ∧ k ≠ .own ∧ Γ'[i]? = some (some s)
  | [], _, i, s, h => by cases h
  | g :: Γ, Γ', 0, s, h => by
    obtain ⟨k, d, rfl, e2, e3⟩ := backSlot_some (show backSlot g (Γ'.headD none) = some s by simpa [backE] using h)
    refine ⟨k, d, rfl, e2, ?_⟩
    cases Γ' with
    | nil => cases e3
    | cons a r => show some a = _; rw [show a = some s from e3]
  | g :: Γ, Γ', i + 1, s, h => by
    obtain ⟨k, d, e1, e2, e3⟩ := backE_some (Γ := Γ) (Γ' := Γ'.tail) (i := i) h
    refine ⟨k, d, e1, e2, ?_⟩
    cases Γ' with
    | nil => cases e3
    | cons a r => exact e3
theorem backE_get : ∀ {Γ Γ' : SE} {i : Nat} {k : Kd} {d : D} {s : Sv}, Γ[i]? = some (some (.cel k d)) → k ≠ .own → Γ'[i]? = some (some s) → (backE Γ Γ')[i]? = some (some s)
  | [], _, i, k, d, s, h, _, _ => by cases h
  | g :: Γ, Γ', 0, k, d, s, h, hk, h' => by
    have hg : g = some (.cel k d) := by simpa using h
    subst hg
    cases Γ' with
    | nil => cases h'
    | cons a r =>
      have ha : a = some s := by simpa using h'
      subst ha
      cases k with
      | own => exact absurd rfl hk
      | brw => rfl
      | lok => rfl
  | g :: Γ, Γ', i + 1, k, d, s, h, hk, h' => by
    cases Γ' with
    | nil => cases h'
    | cons a r => exact backE_get (Γ := Γ) (Γ' := r) (i := i) h hk h'
section
variable {K : PySem.W.Frag} {cl : ClA} {Γ Γ' : SE} {Hf Hf' H H' : Hp} {σ' : L2.St} {vs : List V} {N : Nat} {p : Addr}
def padS (N : Nat) (vs : List V) : L2.St := vs.map some ++ List.replicate (N - vs.length) none
theorem padE_get (h : Γ.length = vs.length) {i : Nat} {s : Sv} : (padE N Γ)[i]? = some (some s) ↔ Γ[i]? = some (some s) := by
  unfold padE
  by_cases hi : i < Γ.length
  · rw [List.getElem?_append_left hi]
  · rw [List.getElem?_append_right (Nat.le_of_not_lt hi), List.getElem?_replicate, List.getElem?_eq_none (Nat.le_of_not_lt hi)]
    constructor
    · intro z; split at z <;> cases z
    · intro z; cases z
theorem padS_get {i : Nat} {v : V} : (padS N vs)[i]? = some (some v) ↔ (vs.map some)[i]? = some (some v) := by
  unfold padS
  by_cases hi : i < (vs.map some).length
  · rw [List.getElem?_append_left hi]
  · rw [List.getElem?_append_right (Nat.le_of_not_lt hi), List.getElem?_replicate, List.getElem?_eq_none (l := vs.map some) (Nat.le_of_not_lt hi)]
    constructor
    · intro z; split at z <;> cases z
    · intro z; cases z
theorem Rel.pad (r : Rel K cl Γ Hf (vs.map some) H) : Rel K cl (padE N Γ) Hf (padS N vs) H := by
  have hl : Γ.length = vs.length := by rw [r.len, List.length_map]
  refine ⟨r.le, ?_, fun i s hs => ?_, fun i j k k' d d' v h1 h2 e1 e2 => ?_⟩
  · unfold padE padS; rw [List.length_append, List.length_append, List.length_replicate, List.length_replicate, List.length_map, hl]
  · obtain ⟨v, e, q⟩ := r.at_ i s ((padE_get hl).mp hs)
    exact ⟨v, padS_get.mpr e, q⟩
  · exact r.dis i j k k' d d' v ((padE_get hl).mp h1) ((padE_get hl).mp h2) (padS_get.mp e1) (padS_get.mp e2)
theorem pad_own (hl : Γ.length = vs.length) : IsOwn (padE N Γ) (padS N vs) p ↔ IsOwn Γ (vs.map some) p := by
  constructor
  · rintro ⟨i, k, d, h1, h2, h3⟩; exact ⟨i, k, d, (padE_get hl).mp h1, h2, padS_get.mp h3⟩
  · rintro ⟨i, k, d, h1, h2, h3⟩; exact ⟨i, k, d, (padE_get hl).mpr h1, h2, padS_get.mpr h3⟩
theorem pad_cel (hl : Γ.length = vs.length) : IsCel (padE N Γ) (padS N vs) p ↔ IsCel Γ (vs.map some) p := by
  constructor
  · rintro ⟨i, k, d, h1, h3⟩; exact ⟨i, k, d, (padE_get hl).mp h1, padS_get.mp h3⟩
  · rintro ⟨i, k, d, h1, h3⟩; exact ⟨i, k, d, (padE_get hl).mpr h1, padS_get.mpr h3⟩
section
variable (r : Rel K cl Γ Hf (vs.map some) H) (st : Step K cl (padE N Γ) Hf (padS N vs) H Γ' Hf' σ' H')
include r st
/-- a caller's cell in the def's end -/
theorem back_at {i : Nat} {s : Sv} (h : (backE Γ Γ')[i]? = some (some s)) : ∃ k d d', Γ[i]? = some (some (.cel k d)) ∧ k ≠ .own ∧ s = .cel k d' ∧ Γ'[i]? = some (some (.cel k d')) ∧ σ'[i]? = (vs.map some)[i]? ∧ (k = .lok → d' = d) := by
  have hl : Γ.length = vs.length := by rw [r.len, List.length_map]
  obtain ⟨k, d, e1, e2, e3⟩ := backE_some h
  obtain ⟨d', f1, f2, f3⟩ := st.brw i k d ((padE_get hl).mpr e1) e2
  rw [e3] at f1
  have hs : s = .cel k d' := by simpa using f1
  subst hs
  refine ⟨k, d, d', e1, e2, rfl, e3, ?_, f3⟩
  obtain ⟨v, e, _⟩ := r.at_ i _ e1
  rw [f2, e]
  exact padS_get.mpr e
theorem back_cel (h : IsCel (backE Γ Γ') (vs.map some) p) : IsCel Γ' σ' p := by
  obtain ⟨i, k, d, h1, h2⟩ := h
  obtain ⟨k', d0, d', e1, e2, e3, e4, e5, _⟩ := back_at r st h1
  cases e3
  exact ⟨i, k, d, e4, e5.trans h2⟩
theorem back_own (h : IsOwn (backE Γ Γ') (vs.map some) p) : IsOwn Γ' σ' p := by
  obtain ⟨i, k, d, h1, hk, h2⟩ := h
  obtain ⟨k', d0, d', e1, e2, e3, e4, e5, _⟩ := back_at r st h1
  cases e3
  exact ⟨i, k, d, e4, hk, e5.trans h2⟩
theorem Step.back : Step K cl Γ Hf (vs.map some) H (backE Γ Γ') Hf' (vs.map some) H' := by
  have hl : Γ.length = vs.length := by rw [r.len, List.length_map]
  refine ⟨⟨st.rel.le, by rw [backE_length]; exact r.len, fun i s hs => ?_, fun i j k k' d d' v h1 h2 e1 e2 => ?_⟩, st.le, fun b o e n => st.fr b o e fun z => n ((pad_own hl).mp z), fun b o e e2 n => st.av b o e e2 fun z => n ((pad_own hl).mp z), fun p h => ?_, st.there, fun i k d h hk => ?_, fun p h => ?_⟩
  · obtain ⟨k, d, d', e1, e2, rfl, e4, e5, _⟩ := back_at r st hs
    obtain ⟨v, e, q⟩ := st.rel.at_ i _ e4
    exact ⟨v, e5.symm.trans e, q⟩
  · obtain ⟨k1, _, d1, _, _, a1, a2, a3, _⟩ := back_at r st h1
    obtain ⟨k2, _, d2, _, _, b1, b2, b3, _⟩ := back_at r st h2
    cases a1; cases b1
    exact st.rel.dis i j k k' d d' v a2 b2 (a3.trans e1) (b3.trans e2)
  · exact (st.sub p (back_own r st h)).imp (pad_own hl).mp id
  · obtain ⟨d', f1, f2, f3⟩ := st.brw i k d ((padE_get hl).mpr h) hk
    exact ⟨d', backE_get h hk f1, rfl, f3⟩
  · exact (st.subc p (back_cel r st h)).imp (pad_cel hl).mp id
theorem TmpOk.fnBack {v : V} {s : Sv} (t : TmpOk K cl (padE N Γ) (padS N vs) H Γ' Hf' σ' H' v s) : TmpOk K cl Γ (vs.map some) H (backE Γ Γ') Hf' (vs.map some) H' v s := by
  have hl : Γ.length = vs.length := by rw [r.len, List.length_map]
  cases s with
  | dat d => exact t
  | cel k d =>
    obtain ⟨e, p, e1, n, c, nc, f⟩ := t
    exact ⟨e, p, e1, n, c, fun z => nc (back_cel r st z), f.imp (pad_own hl).mp id⟩
end
end
/-- a def, by its plain outcome -/
structure FnG (P : Program) (w : World) (K : PySem.W.Frag) (cl : ClA) (mg : PySem.Str → Option Value) (base : Heap) (k : Nat) (f : Addr) (fd : FuncData) (ps : List PySem.Str) (m : ME) : Prop where
  run : ∀ (A : Around) (fr : List Env) (s : Shared) (H : Hp) (as : Args) (us : List Value) (vs : List V) (Γ : SE) (Hf : Hp) (Q : VK) (E : XK),
    Room k A → A.guards = some [] → Env0 P w K mg base A fr s H → BindsTo s fd as (ps.zip us) → Vals vs us → vs.length = ps.length →
    Wants K cl Γ Hf (vs.map some) H (PSv K cl Γ (vs.map some) H) E (m Γ) Q →
    codeAny (model P w) A (.call (.ref f) as) (CR (CX P w) fr P w H s Q E) s
theorem FnG.mono {P : Program} {w : World} {K : PySem.W.Frag} {cl : ClA} {mg : PySem.Str → Option Value} {base : Heap} {j k : Nat} {f : Addr} {fd : FuncData} {ps : List PySem.Str} {m : ME} (F : FnG P w K cl mg base j f fd ps m) (h : j ≤ k) : FnG P w K cl mg base k f fd ps m :=
  ⟨fun A fr s H as us vs Γ Hf Q E r => F.run A fr s H as us vs Γ Hf Q E (r.mono h)⟩
theorem FnG.of {P : Program} {w : World} {K : PySem.W.Frag} {cl : ClA} {mg : PySem.Str → Option Value} {base : Heap} {k : Nat} {f : Addr} {fd : FuncData} {x qual : PySem.Str} {params : Arguments} {body : List Stmt} {scope : Scope} {dvs : List V} {kws : List (PySem.Str × V)} {N ps : List PySem.Str} {b : MS}
    (F : FunD K x qual params body scope dvs kws f fd) (S : FnScope N ps scope)
    (hb : ∀ (cdv : Value) (A : Around) (fr : List Env) (s : Shared) (H : Hp) (E : XK), Room k (A.deeper (envOfC qual scope s.heap.objs.size f cdv)) → A.guards = some [] →
      DSs (cxOf (CX P w) P w K mg base N qual scope f cdv A fr s H E) cl (fun c d _ H' => E c d H') body b) : FnG P w K cl mg base (k + 1) f fd ps (mFn N.length b) := by
  obtain ⟨oc, od, dV, kV, doc, pm, an, cdv, ct, osl, rfl, at_f, code, _, _⟩ := F.ex
  refine ⟨fun A fr s H as us vs Γ Hf Q E room gds e0 bnd rv lv want => ?_⟩
  have inK : K.In s.heap := e0.mod.kin.keeps fun b o q => (e0.bs b o q).1
  have nolim : s.heap.NoLimit := e0.mod.nolimit.keeps fun b o q => (e0.bs b o q).1
  have kinds : ∀ y ∈ ps.zip us, scope.names.lookup y.1 = some .local ∨ (scope.names.lookup y.1 = some .cell ∧
      ((cellsFrom (s.heap.objs.size + 1) scope.names []).lookup y.1).isSome = true) := by
    rintro ⟨y, u⟩ hy
    exact (S.par y (List.of_mem_zip hy).1).imp id fun q => ⟨q, PySem.W.cellsFrom_some _ _ _ (.inl q)⟩
  refine codeAny_call_function room.depth (inK _ _ at_f) rfl S.co S.gen rfl
    (PySem.W.codeRec_of inK code) (bnd _ _ _ _ ?_)
  refine wpAny_newFunctionEnv_cells S.kind kinds fun env he s1 new => ?_
  subst he
  refine ⟨nolim.keeps new.toInCall.keep, codeAny_func ?_⟩
  obtain ⟨t, run, word⟩ := (hb cdv A fr s H E (room.deeper _) gds).ex
  have i0 := inv_start (CX := CX P w) (mg := mg) (E := E) S room.hd e0 lv rv new
  have rel := want.rel
  have hl : Γ.length = vs.length := by rw [rel.len, List.length_map]
  have ret : ∀ {σ' : L2.St} {H' : Hp} {v : V} {u : Value} {s' : Shared}, Inv (cxOf (CX P w) P w K mg base N qual scope f cdv A fr s H E) [] σ' H' s' → RelV v u → Q v H' → CE fr P w H s Q u s' :=
    fun {σ' H' v u s'} j r q => ⟨v, H', j.os, j.bare, j.base, j.hok, r, q⟩
  have word' := word (padE N.length Γ) Hf (padS N.length vs) H ⟨fun _ H' => Q .non H', Q, fun _ _ => False, fun _ _ => False⟩ ⟨rel.pad, fun Γ' e Hf' σ' H' st => ?_, fun z Γ' e v Hf' σ' H' st tm => ?_, fun Γ' e Hf' σ' H' st => ?_, fun Γ' e Hf' σ' H' st => ?_, fun c as Γ' e d Hf' σ' H' st x => ?_, fun e => ?_⟩
  · refine wpAny_mono (run.run [] s1 (start N vs) H _ i0 word') (fun fl s' hs => ?_) fun e s' hs => hs
    cases fl with
    | next => obtain ⟨σ', H', j, q⟩ := hs; exact ret (v := .non) (u := .none) j rfl q
    | ret u => obtain ⟨v, σ', H', j, r, q⟩ := hs; exact ret j r q
    | brk => obtain ⟨_, _, _, q⟩ := hs; exact q.elim
    | cont => obtain ⟨_, _, _, q⟩ := hs; exact q.elim
  · exact want.ok (.dat .non) _ (by show fnEnd Γ (b _) = _; rw [e]; rfl) .non Hf' H' (Step.back rel st) .non
  · exact want.ok z _ (by show fnEnd Γ (b _) = _; rw [e]; rfl) v Hf' H' (Step.back rel st) (TmpOk.fnBack rel st tm)
  · exact want.nb (by show fnEnd Γ (b _) = _; rw [e]; rfl)
  · exact want.nb (by show fnEnd Γ (b _) = _; rw [e]; rfl)
  · exact want.exc c as _ (by show fnEnd Γ (b _) = _; rw [e]; rfl) d Hf' H' (Step.back rel st) x
  · exact want.nb (by show fnEnd Γ (b _) = _; rw [e]; rfl)
end DL
end

section
set_option Elab.async false
set_option linter.all false
set_option maxRecDepth 100000
set_option maxHeartbeats 2000000
namespace DL
open PySem PySem.Spec PyProof.Rows L2


/-! ## calls of defs -/
/-- an argument: data, or the cell of a slot (brw: to be changed, lok: to be read) -/
inductive AV where
  | v (d : D)
  | r (j : Nat) (k : Kd)
abbrev MA := SE → Res (List AV)
inductive AVs (K : PySem.W.Frag) (cl : ClA) (Hf : Hp) (σ : L2.St) : List V → List AV → Prop
  | nil : AVs K cl Hf σ [] []
  | v {x : V} {d : D} {xs : List V} {as : List AV} : Den K cl Hf x d → AVs K cl Hf σ xs as → AVs K cl Hf σ (x :: xs) (.v d :: as)
  | r {x : V} {j : Nat} {k : Kd} {xs : List V} {as : List AV} : σ[j]? = some (some x) → AVs K cl Hf σ xs as → AVs K cl Hf σ (x :: xs) (.r j k :: as)
abbrev PAv (K : PySem.W.Frag) (cl : ClA) (σ : L2.St) : SE → Hp → Hp → List AV → List V → Prop := fun _ Hf' _ as vs => AVs K cl Hf' σ vs as
def WA (K : PySem.W.Frag) (cl : ClA) (ta : TA) (W : WX) (m : MA) : Prop := ∀ Γ Hf σ H (Q : List V → Hp → Prop), Wants K cl Γ Hf σ H (PAv K cl σ) (fun c d H' => W c d σ H') (m Γ) Q → ta σ H Q
structure DA (X : Cx) (cl : ClA) (W : WX) (es : List Expr) (m : MA) : Prop where
  ex : ∃ ta, PA X es ta ∧ WA X.K cl ta W m
def mAn : MA := fun Γ => .ok [] Γ
def mAv (m : MD) (r : MA) : MA := fun Γ => (m Γ).bnd fun d Γ1 => (r Γ1).bnd fun as Γ2 => .ok (.v d :: as) Γ2
def mAr (j : Nat) (k : Kd) (r : MA) : MA := fun Γ => if (peek Γ j).isSome then (r Γ).bnd fun as Γ2 => .ok (.r j k :: as) Γ2 else .bad
def isR (j : Nat) : AV → Bool
  | .r j' _ => j == j'
  | .v _ => false
def argE (Γ : SE) : List AV → Option SE
  | [] => some []
  | .v d :: as => (argE Γ as).map (some (.dat d) :: ·)
  | .r j k :: as => match Γ[j]? with
    | some (some (.cel kd d)) => if (k = .brw ∧ kd ≠ .lok ∨ k = .lok) ∧ as.any (isR j) = false then (argE Γ as).map (some (.cel k d) :: ·) else none
    | _ => none
def setC (Γ : SE) (j : Nat) (d : D) : SE := match Γ[j]? with
  | some (some (.cel k _)) => Γ.set j (some (.cel k d))
  | _ => Γ
def upB (Γ : SE) : List AV → SE → SE
  | .r j .brw :: as, some (.cel _ d) :: Γc => setC (upB Γ as Γc) j d
  | _ :: as, _ :: Γc => upB Γ as Γc
  | _, _ => Γ
def callR (Γ : SE) (as : List AV) : Res Sv → Res Sv
  | .ok s Γc => .ok s (upB Γ as Γc)
  | .exc c xs Γc => .exc c xs (upB Γ as Γc)
  | .bad => .bad
def mCall (f : ME) (ma : MA) : ME := fun Γ => (ma Γ).bnd fun as Γ1 => match argE Γ1 as with
  | some Γc => callR Γ1 as (f Γc)
  | none => .bad
theorem isR_any {j : Nat} {k : Kd} {as : List AV} {n : Nat} (h : as.any (isR j) = false) : as[n]? ≠ some (.r j k) := fun e => by
  have := List.any_eq_false.mp h _ (List.mem_of_getElem? e)
  exact this (by unfold isR; exact beq_self_eq_true j)
theorem argE_r {Γ Γc : SE} {j : Nat} {k : Kd} {as : List AV} (h : argE Γ (.r j k :: as) = some Γc) : ∃ kd d Γc', Γ[j]? = some (some (.cel kd d)) ∧ (k = .brw ∧ kd ≠ .lok ∨ k = .lok) ∧ as.any (isR j) = false ∧ argE Γ as = some Γc' ∧ Γc = some (.cel k d) :: Γc' := by
  unfold argE at h
  split at h
  · next kd d e =>
    split at h
    · next hc =>
      obtain ⟨Γc', e1, e2⟩ := Option.map_eq_some_iff.mp h
      exact ⟨kd, d, Γc', e, hc.1, hc.2, e1, e2.symm⟩
    · cases h
  · cases h
theorem argE_v {Γ Γc : SE} {d : D} {as : List AV} (h : argE Γ (.v d :: as) = some Γc) : ∃ Γc', argE Γ as = some Γc' ∧ Γc = some (.dat d) :: Γc' := by
  obtain ⟨Γc', e1, e2⟩ := Option.map_eq_some_iff.mp (show (argE Γ as).map _ = _ from h)
  exact ⟨Γc', e1, e2.symm⟩
theorem argE_len {Γ : SE} : ∀ {as : List AV} {Γc : SE}, argE Γ as = some Γc → Γc.length = as.length
  | [], _, h => by cases h; rfl
  | .v d :: as, _, h => by
    obtain ⟨Γc', e1, rfl⟩ := argE_v h
    show Γc'.length + 1 = _; rw [argE_len e1]; rfl
  | .r j k :: as, _, h => by
    obtain ⟨kd, d, Γc', _, _, _, e1, rfl⟩ := argE_r h
    show Γc'.length + 1 = _; rw [argE_len e1]; rfl
theorem argE_get {Γ : SE} : ∀ {as : List AV} {Γc : SE} {i : Nat} {s : Sv}, argE Γ as = some Γc → Γc[i]? = some (some s) →
    (∃ d, as[i]? = some (.v d) ∧ s = .dat d) ∨ ∃ j k kd d, as[i]? = some (.r j k) ∧ Γ[j]? = some (some (.cel kd d)) ∧ s = .cel k d ∧ (k = .brw ∧ kd ≠ .lok ∨ k = .lok)
  | [], _, i, s, h, e => by cases h; cases e
  | .v d :: as, _, i, s, h, e => by
    obtain ⟨Γc', e1, rfl⟩ := argE_v h
    cases i with
    | zero => cases e; exact .inl ⟨d, rfl, rfl⟩
    | succ i => exact argE_get (as := as) e1 e
  | .r j k :: as, _, i, s, h, e => by
    obtain ⟨kd, d, Γc', e0, hk, _, e1, rfl⟩ := argE_r h
    cases i with
    | zero => cases e; exact .inr ⟨j, k, kd, d, rfl, e0, rfl, hk⟩
    | succ i => exact argE_get (as := as) e1 e
theorem argE_inj {Γ : SE} : ∀ {as : List AV} {Γc : SE} {i i' j : Nat} {k k' : Kd}, argE Γ as = some Γc → as[i]? = some (.r j k) → as[i']? = some (.r j k') → i = i'
  | [], _, i, i', j, k, k', h, e, e' => by cases e
  | .v d :: as, _, i, i', j, k, k', h, e, e' => by
    obtain ⟨Γc', e1, rfl⟩ := argE_v h
    cases i with
    | zero => cases e
    | succ i =>
      cases i' with
      | zero => cases e'
      | succ i' => rw [argE_inj (as := as) e1 e e']
  | .r j0 k0 :: as, _, i, i', j, k, k', h, e, e' => by
    obtain ⟨kd, d, Γc', e0, hk, ha, e1, rfl⟩ := argE_r h
    cases i with
    | zero =>
      cases e
      cases i' with
      | zero => rfl
      | succ i' => exact absurd (show as[i']? = _ from e') (isR_any ha)
    | succ i =>
      cases i' with
      | zero => cases e'; exact absurd (show as[i]? = _ from e) (isR_any ha)
      | succ i' => rw [argE_inj (as := as) e1 e e']
theorem argE_of {Γ : SE} : ∀ {as : List AV} {Γc : SE} {i j : Nat} {k : Kd}, argE Γ as = some Γc → as[i]? = some (.r j k) → ∃ kd d, Γ[j]? = some (some (.cel kd d)) ∧ Γc[i]? = some (some (.cel k d)) ∧ (k = .brw ∧ kd ≠ .lok ∨ k = .lok)
  | [], _, i, j, k, h, e => by cases e
  | .v d :: as, _, i, j, k, h, e => by
    obtain ⟨Γc', e1, rfl⟩ := argE_v h
    cases i with
    | zero => cases e
    | succ i => exact argE_of (as := as) (i := i) e1 e
  | .r j0 k0 :: as, _, i, j, k, h, e => by
    obtain ⟨kd, d, Γc', e0, hk, ha, e1, rfl⟩ := argE_r h
    cases i with
    | zero => cases e; exact ⟨kd, d, e0, rfl, hk⟩
    | succ i => exact argE_of (as := as) (i := i) e1 e
theorem setC_length (Γ : SE) (j : Nat) (d : D) : (setC Γ j d).length = Γ.length := by
  unfold setC; split
  · rw [List.length_set]
  · rfl
theorem upB_length (Γ : SE) : ∀ (as : List AV) (Γc : SE), (upB Γ as Γc).length = Γ.length := fun as Γc => by
  fun_induction upB Γ as Γc with
  | case1 j as k d Γc ih => rw [setC_length, ih]
  | case2 => assumption
  | case3 => rfl
theorem setC_ne {Γ : SE} {i j : Nat} {d : D} (h : i ≠ j) : (setC Γ j d)[i]? = Γ[i]? := by
  unfold setC; split
  · rw [List.getElem?_set_ne (Ne.symm h)]
  · rfl
theorem setC_self {Γ : SE} {j : Nat} {d d0 : D} {k : Kd} (h : Γ[j]? = some (some (.cel k d0))) : (setC Γ j d)[j]? = some (some (.cel k d)) := by
  unfold setC; rw [h]
  exact List.getElem?_set_self (List.getElem?_eq_some_iff.mp h).1
theorem setC_not {Γ : SE} {i j : Nat} {d : D} (h : ∀ k d, Γ[i]? ≠ some (some (.cel k d))) : (setC Γ j d)[i]? = Γ[i]? := by
  by_cases e : i = j
  · subst e; unfold setC; split
    · next k d0 q => exact absurd q (h k d0)
    · rfl
  · exact setC_ne e
theorem upB_not {Γ : SE} {i : Nat} (h : ∀ k d, Γ[i]? ≠ some (some (.cel k d))) : ∀ (as : List AV) (Γc : SE), (upB Γ as Γc)[i]? = Γ[i]? := fun as Γc => by
  fun_induction upB Γ as Γc with
  | case1 j as k d Γc ih => rw [setC_not (by rw [ih]; exact h), ih]
  | case2 => assumption
  | case3 => rfl
theorem upB_get {Γ : SE} {i : Nat} {kd : Kd} {d0 : D} (h : Γ[i]? = some (some (.cel kd d0))) : ∀ (as : List AV) (Γc : SE),
    ((upB Γ as Γc)[i]? = some (some (.cel kd d0)) ∧ ∀ (n : Nat) (k' : Kd) (d' : D), as[n]? = some (AV.r i .brw) → Γc[n]? ≠ some (some (Sv.cel k' d'))) ∨
    ∃ (n : Nat) (k' : Kd) (d' : D), as[n]? = some (.r i .brw) ∧ Γc[n]? = some (some (.cel k' d')) ∧ (upB Γ as Γc)[i]? = some (some (.cel kd d')) := fun as Γc => by
  fun_induction upB Γ as Γc with
  | case1 j as k d Γc ih =>
    by_cases e : i = j
    · subst e
      refine .inr ⟨0, k, d, rfl, rfl, ?_⟩
      rcases ih with ⟨q, _⟩ | ⟨_, _, _, _, _, q⟩
      · exact setC_self q
      · exact setC_self q
    · rw [setC_ne e]
      rcases ih with ⟨q, q2⟩ | ⟨n, k', d', a, b, q⟩
      · refine .inl ⟨q, fun n k' d' e1 e2 => ?_⟩
        cases n with
        | zero => cases e1; exact e rfl
        | succ n => exact q2 n k' d' e1 e2
      · exact .inr ⟨n + 1, k', d', a, b, q⟩
  | case2 a as g Γc hne ih =>
    rcases ih with ⟨q, q2⟩ | ⟨n, k', d', e1, e2, q⟩
    · refine .inl ⟨q, fun n k' d' e1 e2 => ?_⟩
      cases n with
      | zero =>
        cases e1; cases e2
        exact hne i k' d' rfl rfl
      | succ n => exact q2 n k' d' e1 e2
    · exact .inr ⟨n + 1, k', d', e1, e2, q⟩
  | case3 as Γc hne =>
    refine .inl ⟨h, fun n k' d' e1 e2 => ?_⟩
    cases as with
    | nil => cases e1
    | cons a r =>
      cases Γc with
      | nil => cases e2
      | cons g r' => exact (by rename_i hne2; exact hne2 a r g r' rfl rfl)
theorem upB_back {Γ Γc : SE} {as : List AV} {i : Nat} {k : Kd} {d : D} (h : (upB Γ as Γc)[i]? = some (some (.cel k d))) : ∃ d0, Γ[i]? = some (some (.cel k d0)) := by
  by_cases c : ∃ kd d0, Γ[i]? = some (some (.cel kd d0))
  · obtain ⟨kd, d0, e⟩ := c
    rcases upB_get e as Γc with ⟨q, _⟩ | ⟨_, _, _, _, _, q⟩
    · rw [h] at q; cases q; exact ⟨_, e⟩
    · rw [h] at q; cases q; exact ⟨_, e⟩
  · rw [upB_not (fun k d z => c ⟨k, d, z⟩)] at h
    exact ⟨d, h⟩
section
variable {K : PySem.W.Frag} {cl : ClA} {Γ Γc Γc' : SE} {Hf Hf' H H' : Hp} {σ : L2.St} {vs : List V} {as : List AV} {p : Addr}
theorem AVs.get : ∀ {vs : List V} {as : List AV}, AVs K cl Hf σ vs as → ∀ {i : Nat} {a : AV}, as[i]? = some a → ∃ v, vs[i]? = some v ∧ match a with
    | .v d => Den K cl Hf v d
    | .r j _ => σ[j]? = some (some v)
  | _, _, .nil, i, a, h => by cases h
  | _, _, .v hd q, i, a, h => by
    cases i with
    | zero => cases h; exact ⟨_, rfl, hd⟩
    | succ i => exact AVs.get q (i := i) h
  | _, _, .r hd q, i, a, h => by
    cases i with
    | zero => cases h; exact ⟨_, rfl, hd⟩
    | succ i => exact AVs.get q (i := i) h
theorem AVs.length : ∀ {vs : List V} {as : List AV}, AVs K cl Hf σ vs as → vs.length = as.length
  | _, _, .nil => rfl
  | _, _, .v _ q => by simp [AVs.length q]
  | _, _, .r _ q => by simp [AVs.length q]
section
variable (rel : Rel K cl Γ Hf σ H) (av : AVs K cl Hf σ vs as) (ea : argE Γ as = some Γc)
include av ea
/-- a callee's cell, at the caller's -/
theorem arg_cel {n : Nat} {k : Kd} {d : D} {v : V} (h : Γc[n]? = some (some (.cel k d))) (hv : (vs.map some)[n]? = some (some v)) : ∃ j kd, as[n]? = some (.r j k) ∧ Γ[j]? = some (some (.cel kd d)) ∧ σ[j]? = some (some v) ∧ (k = .brw ∧ kd ≠ .lok ∨ k = .lok) := by
  rcases argE_get ea h with ⟨d', e, z⟩ | ⟨j, k', kd, d', e, e2, z, hk⟩
  · cases z
  · cases z
    obtain ⟨w, ew, q⟩ := av.get e
    rw [List.getElem?_map, ew] at hv
    cases hv
    exact ⟨j, kd, e, e2, q, hk⟩
theorem arg_own (h : IsOwn Γc (vs.map some) p) : IsOwn Γ σ p := by
  obtain ⟨n, k, d, h1, hk, h2⟩ := h
  obtain ⟨j, kd, e1, e2, e3, hc⟩ := arg_cel av ea h1 h2
  rcases hc with ⟨_, hc⟩ | hc
  · exact ⟨j, kd, d, e2, hc, e3⟩
  · exact absurd hc hk
theorem arg_isCel (h : IsCel Γc (vs.map some) p) : IsCel Γ σ p := by
  obtain ⟨n, k, d, h1, h2⟩ := h
  obtain ⟨j, kd, e1, e2, e3, hc⟩ := arg_cel av ea h1 h2
  exact ⟨j, kd, d, e2, e3⟩
include rel
theorem arg_rel : Rel K cl Γc Hf (vs.map some) H := by
  refine ⟨rel.le, by rw [argE_len ea, List.length_map, av.length], fun i s hs => ?_, fun i j k k' d d' v h1 h2 e1 e2 => ?_⟩
  · rcases argE_get ea hs with ⟨d, e, rfl⟩ | ⟨j, k, kd, d, e, e2, rfl, hk⟩
    · obtain ⟨v, ev, q⟩ := av.get e
      exact ⟨v, by rw [List.getElem?_map, ev]; rfl, q⟩
    · obtain ⟨v, ev, q⟩ := av.get e
      obtain ⟨u, eu, so⟩ := rel.at_ j _ e2
      rw [show σ[j]? = some (some v) from q] at eu; cases eu
      exact ⟨v, by rw [List.getElem?_map, ev]; rfl, so⟩
  · obtain ⟨j1, kd1, a1, b1, c1, _⟩ := arg_cel av ea h1 e1
    obtain ⟨j2, kd2, a2, b2, c2, _⟩ := arg_cel av ea h2 e2
    have := rel.dis j1 j2 _ _ _ _ _ b1 b2 c1 c2
    subst this
    exact argE_inj ea a1 a2
/-- behind the call -/
theorem call_step (st : Step K cl Γc Hf (vs.map some) H Γc' Hf' (vs.map some) H') : Step K cl Γ Hf σ H (upB Γ as Γc') Hf' σ H' := by
  -- the caller's cell i: unchanged, or as the callee leaves it
  have cels : ∀ {i : Nat} {kd : Kd} {d0 : D}, Γ[i]? = some (some (.cel kd d0)) → ∃ d' v, (upB Γ as Γc')[i]? = some (some (.cel kd d')) ∧ σ[i]? = some (some v) ∧ SlotOk K cl Hf' H' v (.cel kd d') ∧ (kd = .lok → d' = d0) := fun {i kd d0} hi => by
    obtain ⟨v, ev, q, rfl, n, c⟩ := rel.at_ i _ hi
    rcases upB_get hi as Γc' with ⟨e, no⟩ | ⟨m, k', d', e1, e2, e3⟩
    · refine ⟨d0, _, e, ev, ⟨q, rfl, ?_⟩, fun _ => rfl⟩
      obtain ⟨o, ho⟩ := c.there
      have nown : ¬ IsOwn Γc (vs.map some) q := by
        rintro ⟨m, k, d, h1, hk, h2⟩
        obtain ⟨j, kd', a1, a2, a3, hc⟩ := arg_cel av ea h1 h2
        have := rel.dis j i _ _ _ _ _ a2 hi a3 ev
        subst this
        have hb : k = .brw := by
          rcases hc with ⟨hc, _⟩ | hc
          · exact hc
          · exact absurd hc hk
        subst hb
        obtain ⟨d', f1, _, _⟩ := st.brw m _ d h1 (by decide)
        exact no m _ d' a1 f1
      exact ⟨st.av q o ho n nown, c.mono st.le fun o h => st.fr q o h nown⟩
    · obtain ⟨kd2, d2, f1, f2, hk⟩ := argE_of ea e1
      rw [hi] at f1; cases f1
      obtain ⟨w, ew, hw⟩ := av.get e1
      have hw' : σ[i]? = some (some w) := hw
      rw [ev] at hw'; cases hw'
      obtain ⟨u, eu, so⟩ := st.rel.at_ m _ e2
      rw [List.getElem?_map, ew] at eu; cases eu
      refine ⟨d', _, e3, ev, so, fun hl => ?_⟩
      rcases hk with ⟨_, hk⟩ | hk
      · exact absurd hl hk
      · cases hk
  have back : ∀ {i : Nat} {k : Kd} {d : D}, (upB Γ as Γc')[i]? = some (some (.cel k d)) → ∃ d0, Γ[i]? = some (some (.cel k d0)) := fun {i k d} h => upB_back h
  refine ⟨⟨st.rel.le, by rw [upB_length]; exact rel.len, fun i s hs => ?_, fun i j k k' d d' v h1 h2 e1 e2 => ?_⟩, st.le, fun b o e n => st.fr b o e fun z => n (arg_own av ea z), fun b o e e2 n => st.av b o e e2 fun z => n (arg_own av ea z), fun p h => ?_, st.there, fun i k d h hk => ?_, fun p h => ?_⟩
  · cases s with
    | dat d =>
      have no : ∀ k d0, Γ[i]? ≠ some (some (.cel k d0)) := fun k d0 z => by
        obtain ⟨d', v, e1, _⟩ := cels z
        rw [hs] at e1; cases e1
      rw [upB_not no] at hs
      obtain ⟨v, ev, q⟩ := rel.at_ i _ hs
      exact ⟨v, ev, Den.mono st.le q⟩
    | cel k d =>
      obtain ⟨d0, h0⟩ := back hs
      obtain ⟨d', v, e1, e2, so, _⟩ := cels h0
      rw [hs] at e1; cases e1
      exact ⟨v, e2, so⟩
  · obtain ⟨d1, g1⟩ := back h1
    obtain ⟨d2, g2⟩ := back h2
    exact rel.dis i j k k' d1 d2 v g1 g2 e1 e2
  · obtain ⟨i, k, d, h1, hk, h2⟩ := h
    obtain ⟨d1, g1⟩ := back h1
    exact .inl ⟨i, k, d1, g1, hk, h2⟩
  · obtain ⟨d', v, e1, e2, so, hl⟩ := cels h
    exact ⟨d', e1, rfl, hl⟩
  · obtain ⟨i, k, d, h1, h2⟩ := h
    obtain ⟨d1, g1⟩ := back h1
    exact .inl ⟨i, k, d1, g1, h2⟩
theorem call_tmp {v : V} {s : Sv} (st : Step K cl Γc Hf (vs.map some) H Γc' Hf' (vs.map some) H') (t : TmpOk K cl Γc (vs.map some) H Γc' Hf' (vs.map some) H' v s) : TmpOk K cl Γ σ H (upB Γ as Γc') Hf' σ H' v s := by
  cases s with
  | dat d => exact t
  | cel k d =>
    obtain ⟨e, p, e1, n, c, nc, f⟩ := t
    have fresh : H p = none := by
      rcases f with ⟨m, k', d', h1, hk, h2⟩ | f
      · exfalso
        obtain ⟨j, kd, a1, a2, a3, hc⟩ := arg_cel av ea h1 h2
        have hn : k' ≠ .own := by rcases hc with ⟨hc, _⟩ | hc <;> rw [hc] <;> decide
        obtain ⟨d2, f1, _, _⟩ := st.brw m k' d' h1 hn
        exact nc ⟨m, k', d2, f1, h2⟩
      · exact f
    refine ⟨e, p, e1, n, c, fun z => ?_, .inr fresh⟩
    obtain ⟨i, k2, d2, h1, h2⟩ := z
    obtain ⟨d0, h0⟩ := upB_back h1
    obtain ⟨_, o, ho⟩ := rel.lt ⟨i, k2, d0, h0, h2⟩
    rw [fresh] at ho; cases ho
end
end
section
variable {X : Cx} {cl : ClA} {W : WX} {e : Expr} {es : List Expr} {pos : Pos}
theorem da_nil : DA X cl W [] mAn := ⟨_, pa_nil, fun Γ Hf σ H Q w => w.done .nil⟩
theorem da_v {m : MD} {r : MA} (he : DD X cl W e m) (hr : DA X cl W es r) (hs : starEach (e :: es) X.env = (false, eval e X.env) :: starEach es X.env := by rfl) : DA X cl W (e :: es) (mAv m r) := by
  obtain ⟨te, p1, w1⟩ := he.ex
  obtain ⟨ta, p2, w2⟩ := hr.ex
  refine ⟨_, pa_cons p1 p2 hs, fun Γ Hf σ H Q w => w1 Γ Hf σ H _ (w.bind fun d Γ1 e1 x Hf1 H1 st1 t1 => ?_)⟩
  have wa := w.nextE e1 st1
  exact w2 Γ1 Hf1 σ H1 _ (wa.bind fun as Γ2 e2 vs Hf2 H2 st2 t2 => (wa.nextE e2 st2).done (.v (Den.mono st2.le t1) t2))
theorem da_r {x : PySem.Str} {r : MA} (j : Nat) (k : Kd) (hr : DA X cl W es r) (hN : X.N[j]? = some x := by rfl) (hv : Vis X.env.scope x := by first | exact Or.inl rfl | exact Or.inr (Or.inl rfl) | exact Or.inr (Or.inr rfl)) (hd : (x == ("__debug__" : PySem.Str)) = false := by decide) (hcd : (x == ("__classdict__" : PySem.Str)) = false := by decide)
    (hs : starEach (.Name x pos :: es) X.env = (false, eval (.Name x pos) X.env) :: starEach es X.env := by rfl) : DA X cl W (.Name x pos :: es) (mAr j k r) := by
  obtain ⟨ta, p2, w2⟩ := hr.ex
  refine ⟨_, pa_cons (pe_var hN hv hd hcd) p2 hs, fun Γ Hf σ H Q w => ?_⟩
  unfold mAr at w
  cases ep : peek Γ j with
  | none => rw [ep] at w; exact (w.nb rfl).elim
  | some d =>
    rw [ep] at w
    obtain ⟨v, ev, _⟩ := w.rel.peek ep
    have w' : Wants X.K cl Γ Hf σ H (PAv X.K cl σ) (fun c d H' => W c d σ H') ((r Γ).bnd fun as Γ2 => .ok (.r j k :: as) Γ2) Q := w
    exact ⟨v, ev, w2 Γ Hf σ H _ (w'.bind fun as Γ2 e2 vs Hf2 H2 st2 t2 => (w'.nextE e2 st2).done (.r ev t2))⟩
theorem takes0 {X : Cx} : Takes X W0 := fun u s' ⟨_, _, _, _, _, _, _, _, _, _, _, _, _, _, _, _, w⟩ => w.elim
variable {k : Nat} {f : Addr} {fd : FuncData} {ps : List PySem.Str} {m : ME} {x : PySem.Str} {p : Pos}
/-- the callee runs -/
theorem FnG.go {pins : List (Addr × Obj)} {σ : L2.St} {H : Hp} {s : Shared} {Q : VK} {us : List Value} {vs : List V} {Γ : SE} {Hf : Hp} {as : Args} (F : FnG X.prog X.w X.K cl X.mg X.base k f fd ps m) (hr : Room k X.A) (hG : X.A.guards = some []) (tk : Takes X W)
    (I : Inv X pins σ H s) (r : Vals vs us) (hb : BindsTo s fd as (ps.zip us)) (hl : vs.length = ps.length) (w : Wants X.K cl Γ Hf (vs.map some) H (PSv X.K cl Γ (vs.map some) H) (fun c d H' => W c d σ H') (m Γ) Q) :
    codeAny (model X.prog X.w) X.A (.call (.ref f) as) (fun r s' => match r with | .ok (.ret u) => EP X pins σ Q u s' | .ok _ => False | .error e => X.xe e s') s := by
  refine codeAny_mono (F.run X.A X.stack s H as us vs Γ Hf Q (fun c d H' => W c d σ H') hr hG I.env0 hb r hl w) fun r s' q => ?_
  cases r with
  | error e => exact tk e s' (XE.of_call I (fun _ _ _ z => z) q)
  | ok fl =>
    cases fl with
    | ret u => exact I.after q
    | next => exact q
    | brk => exact q
    | cont => exact q
/-- what a call asks at the arguments' values -/
def tGo (K : PySem.W.Frag) (cl : ClA) (W : WX) (n : Nat) (m : ME) (ta : TA) : TE := fun σ H Q => ta σ H fun vs H1 => vs.length = n ∧ ∃ Γ Hf, Wants K cl Γ Hf (vs.map some) H1 (PSv K cl Γ (vs.map some) H1) (fun c d H' => W c d σ H') (m Γ) Q
theorem pe_callG {ta : TA} (F : FnG X.prog X.w X.K cl X.mg X.base k f fd ps m) (hr : Room k X.A) (hG : X.A.guards = some []) (tk : Takes X W) (hg : Gl X x) (hm : X.mg x = some (.ref f)) (hk : PySem.W.keepIn X.K (.ref f) = true) (hb : Binds X.K fd ps [])
    (ha : PA X (e :: es) ta) (hdb : (x == ("__debug__" : PySem.Str)) = false := by decide) (he : starEach (e :: es) X.env = (false, eval e X.env) :: starEach es X.env := by rfl) (hpl : (backTo pos (starEach es X.env)).any (·.1) = false := by rfl) :
    PE X (.Call (.Name x p) (e :: es) [] pos) (tGo X.K cl W ps.length m ta) := by
  refine ⟨fun pins s σ H Q I h => wpAny_Call_Name_kw (ld_glob I hg hm ?_ hdb)⟩
  refine PySem.W.callWith_K (h₀ := X.base) I.ok.mod.kin hk (thn (ha.run pos pins s σ H _ I h) fun us s1 ⟨vs, H1, I1, r, hl, Γ, Hf, w⟩ => ⟨I1.kIn, ?_⟩) he hpl
  have hb' := hb s1 us I1.kIn (by rw [List.append_nil, ← r.length]; exact hl)
  rw [List.append_nil] at hb'
  refine wpAny_call (codeAny_mono (F.go hr hG tk I1 r hb' hl w) fun r s' q => ?_)
  cases r with
  | error e => exact q
  | ok fl => cases fl with
    | ret u => exact q
    | next => exact q.elim
    | brk => exact q.elim
    | cont => exact q.elim
/-- at the values: the plain outcome of the call -/
theorem wants_call {Γ : SE} {Hf H : Hp} {σ : L2.St} {Q : VK} {as : List AV} {vs : List V} (n : Nat) (hn : vs.length = n) (av : AVs X.K cl Hf σ vs as) (w : Wants X.K cl Γ Hf σ H (PSv X.K cl Γ σ H) (fun c d H' => W c d σ H') (match argE Γ as with | some Γc => callR Γ as (m Γc) | none => .bad) Q) :
    vs.length = n ∧ ∃ Γc Hf', Wants X.K cl Γc Hf' (vs.map some) H (PSv X.K cl Γc (vs.map some) H) (fun c d H' => W c d σ H') (m Γc) Q := by
  cases ea : argE Γ as with
  | none => rw [ea] at w; exact (w.nb rfl).elim
  | some Γc =>
    rw [ea] at w
    have w' : Wants X.K cl Γ Hf σ H (PSv X.K cl Γ σ H) (fun c d H' => W c d σ H') (callR Γ as (m Γc)) Q := w
    refine ⟨hn, Γc, Hf, arg_rel w.rel av ea, fun s Γc' e v Hf' H' st t => ?_, fun c xs Γc' e d Hf' H' st x => ?_, fun e => w'.nb (by rw [e]; rfl)⟩
    · exact w'.ok s _ (by rw [e]; rfl) v Hf' H' (call_step w.rel av ea st) (call_tmp w.rel av ea st t)
    · exact w'.exc c xs _ (by rw [e]; rfl) d Hf' H' (call_step w.rel av ea st) x
def mCallN (n : Nat) (f : ME) (ma : MA) : ME := fun Γ => (ma Γ).bnd fun as Γ1 => if as.length = n then (match argE Γ1 as with
  | some Γc => callR Γ1 as (f Γc)
  | none => .bad) else .bad
theorem de_call {ma : MA} (F : FnG X.prog X.w X.K cl X.mg X.base k f fd ps m) (hr : Room k X.A) (hG : X.A.guards = some []) (tk : Takes X W) (hg : Gl X x) (hm : X.mg x = some (.ref f)) (hk : PySem.W.keepIn X.K (.ref f) = true) (hb : Binds X.K fd ps [])
    (ha : DA X cl W (e :: es) ma) (hdb : (x == ("__debug__" : PySem.Str)) = false := by decide) (he : starEach (e :: es) X.env = (false, eval e X.env) :: starEach es X.env := by rfl) (hpl : (backTo pos (starEach es X.env)).any (·.1) = false := by rfl) :
    DE X cl W (.Call (.Name x p) (e :: es) [] pos) (mCallN ps.length m ma) := by
  obtain ⟨ta, pA, wA⟩ := ha.ex
  refine ⟨_, pe_callG F hr hG tk hg hm hk hb pA hdb he hpl, fun Γ Hf σ H Q w => wA Γ Hf σ H _ (w.bind fun as Γ1 e1 vs Hf1 H1 st1 av => ?_)⟩
  have w1 := w.next e1 st1
  by_cases hn : as.length = ps.length
  · rw [if_pos hn] at w1
    exact wants_call (X := X) (W := W) ps.length (by rw [av.length]; exact hn) av w1
  · rw [if_neg hn] at w1; exact (w1.nb rfl).elim
/-- f(e) of a cell made on the spot, that the def may change -/
def mCall1 (f : ME) (ma : ME) : ME := fun Γ => (ma Γ).bnd fun s Γ1 => match s with
  | .dat _ => .bad
  | .cel _ d => match f [some (.cel .brw d)] with
    | .ok s' _ => .ok s' Γ1
    | .exc c xs _ => .exc c xs Γ1
    | .bad => .bad
end
end DL
end

section
set_option Elab.async false
set_option linter.all false
set_option maxRecDepth 100000
set_option maxHeartbeats 2000000
namespace DL
open PySem PySem.Spec PyProof.Rows L2


/-! ## more of calls -/
section
variable {X : Cx} {cl : ClA} {W : WX} {st : Stmt} {e : Expr} {es : List Expr} {pos : Pos}
/-- what is never reached -/
def mBad : MS := fun _ => .bad
theorem ds_bad : DS X cl W st mBad := ⟨_, ps_never, fun Γ Hf σ H D w => (w.nb rfl).elim⟩
theorem dss_bad {sts : List Stmt} : DSs X cl W sts mBad := ⟨_, pss_never, fun Γ Hf σ H D w => (w.nb rfl).elim⟩
end
section
variable {K : PySem.W.Frag} {cl : ClA} {Γ Γ1 Γc' : SE} {Hf Hf1 Hf2 H H1 H2 : Hp} {σ : L2.St} {v : V} {d : D}
theorem one_slot {i : Nat} {k : Kd} {d' : D} (h : ([some (.cel .brw d)] : SE)[i]? = some (some (.cel k d'))) : i = 0 ∧ k = .brw ∧ d' = d := by
  cases i with
  | zero => cases h; exact ⟨rfl, rfl, rfl⟩
  | succ i => cases h
theorem tmp_rel (rel : Rel K cl Γ1 Hf1 σ H1) (t : TmpOk K cl Γ σ H Γ1 Hf1 σ H1 v (.cel .own d)) : Rel K cl [some (.cel .brw d)] Hf1 [some v] H1 := by
  obtain ⟨_, p, rfl, n, c, nc, f⟩ := t
  refine ⟨rel.le, rfl, fun i s hs => ?_, fun i j k k' d1 d2 w h1 h2 e1 e2 => ?_⟩
  · cases i with
    | zero => cases hs; exact ⟨_, rfl, p, rfl, n, c⟩
    | succ i => cases hs
  · rw [(one_slot h1).1, (one_slot h2).1]
theorem call1_step (st1 : Step K cl Γ Hf σ H Γ1 Hf1 σ H1) (t : TmpOk K cl Γ σ H Γ1 Hf1 σ H1 v (.cel .own d)) (st : Step K cl [some (.cel .brw d)] Hf1 [some v] H1 Γc' Hf2 [some v] H2) : Step K cl Γ Hf σ H Γ1 Hf2 σ H2 := by
  obtain ⟨_, p, rfl, n, c, nc, f⟩ := t
  have ownp : ∀ {b : Addr}, b ≠ p → ¬ IsOwn [some (.cel .brw d)] [some (.ref p)] b := fun {b} hb => by
    rintro ⟨i, k, d', h1, _, h2⟩
    obtain ⟨rfl, _, _⟩ := one_slot h1
    cases h2; exact hb rfl
  have celp : ∀ {i : Nat} {k : Kd} {d' : D} {q : Addr}, Γ1[i]? = some (some (.cel k d')) → σ[i]? = some (some (.ref q)) → q ≠ p := fun {i k d' q} h1 h2 z => nc ⟨i, k, d', h1, by rw [h2, z]⟩
  have nb : ∀ {b : Addr} {o : HO}, H b = some o → ¬ IsOwn Γ σ b → b ≠ p := fun {b o} hb no z => by
    subst z
    rcases f with f | f
    · exact no f
    · rw [hb] at f; cases f
  refine ⟨⟨st.rel.le, st1.rel.len, fun i s hs => ?_, st1.rel.dis⟩, st1.le.trans st.le, fun b o hb no => ?_, fun b o hb hn no => ?_, fun q h => ?_, fun b hb => st.there b (st1.there b hb), st1.brw, st1.subc⟩
  · obtain ⟨w, ew, q⟩ := st1.rel.at_ i s hs
    refine ⟨w, ew, ?_⟩
    cases s with
    | dat d' => exact Den.mono st.le q
    | cel k d' =>
      obtain ⟨q, rfl, nq, cq⟩ := q
      have hne := ownp (celp hs ew)
      obtain ⟨o, ho⟩ := cq.there
      exact ⟨q, rfl, st.av q o ho nq hne, cq.mono st.le fun o h => st.fr q o h hne⟩
  · exact st.fr b o (st1.fr b o hb no) (ownp (nb hb no))
  · exact st.av b o (st1.fr b o hb no) (st1.av b o hb hn no) (ownp (nb hb no))
  · exact st1.sub q h
theorem call1_tmp {w : V} {s : Sv} (rel1 : Rel K cl Γ1 Hf1 σ H1) (st1 : Step K cl Γ Hf σ H Γ1 Hf1 σ H1) (st : Step K cl [some (.cel .brw d)] Hf1 [some v] H1 Γc' Hf2 [some v] H2) (t2 : TmpOk K cl [some (.cel .brw d)] [some v] H1 Γc' Hf2 [some v] H2 w s) : TmpOk K cl Γ σ H Γ1 Hf2 σ H2 w s := by
  cases s with
  | dat d' => exact t2
  | cel k d' =>
    obtain ⟨e, q, rfl, n, c, nc, f⟩ := t2
    have fresh : H1 q = none := by
      rcases f with ⟨i, k', d2, h1, hk, h2⟩ | f
      · exfalso
        obtain ⟨rfl, rfl, rfl⟩ := one_slot h1
        obtain ⟨d3, g1, _, _⟩ := st.brw 0 .brw _ h1 (by decide)
        exact nc ⟨0, .brw, d3, g1, h2⟩
      · exact f
    refine ⟨e, q, rfl, n, c, fun z => ?_, .inr ?_⟩
    · obtain ⟨_, o, ho⟩ := rel1.lt z
      rw [fresh] at ho; cases ho
    · cases e2 : H q with
      | none => rfl
      | some o => exact absurd fresh (st1.there q (by rw [e2]; exact fun z => nomatch z))
end
section
variable {X : Cx} {cl : ClA} {W : WX} {e : Expr} {es : List Expr} {pos p : Pos} {k : Nat} {f : Addr} {fd : FuncData} {ps : List PySem.Str} {m ma : ME} {x : PySem.Str}
theorem de_call1 (F : FnG X.prog X.w X.K cl X.mg X.base k f fd ps m) (hr : Room k X.A) (hG : X.A.guards = some []) (tk : Takes X W) (hg : Gl X x) (hm : X.mg x = some (.ref f)) (hk : PySem.W.keepIn X.K (.ref f) = true) (hb : Binds X.K fd ps [])
    (ha : DE X cl W e ma) (hp : ps.length = 1 := by rfl) (hdb : (x == ("__debug__" : PySem.Str)) = false := by decide) (he : starEach [e] X.env = (false, eval e X.env) :: starEach [] X.env := by rfl) (hpl : (backTo pos (starEach [] X.env)).any (·.1) = false := by rfl) :
    DE X cl W (.Call (.Name x p) [e] [] pos) (mCall1 m ma) := by
  obtain ⟨te, pE, wE⟩ := ha.ex
  refine ⟨_, pe_callG F hr hG tk hg hm hk hb (pa_cons pE pa_nil he) hdb he hpl, fun Γ Hf σ H Q w => wE Γ Hf σ H _ (w.bind fun s Γ1 e1 v Hf1 H1 st1 t1 => ?_)⟩
  unfold mCall1 at w
  rw [e1] at w
  cases s with
  | dat d => exact (w.nb rfl).elim
  | cel kk d =>
    have w1 : Wants X.K cl Γ Hf σ H (PSv X.K cl Γ σ H) (fun c d H' => W c d σ H') (match m [some (.cel .brw d)] with
      | .ok s' _ => .ok s' Γ1
      | .exc c xs _ => .exc c xs Γ1
      | .bad => .bad) Q := w
    obtain ⟨rfl, _⟩ := id t1
    refine ⟨by rw [hp]; rfl, [some (.cel .brw d)], Hf1, tmp_rel st1.rel t1, fun s' Γc' e2 u Hf2 H2 st2 t2 => ?_, fun c xs Γc' e2 dx Hf2 H2 st2 xx => ?_, fun e2 => w1.nb (by show (match m [some (.cel .brw d)] with | .ok s' _ => Res.ok s' Γ1 | .exc c xs _ => .exc c xs Γ1 | .bad => .bad) = _; rw [e2])⟩
    · exact w1.ok s' Γ1 (by show (match m [some (.cel .brw d)] with | .ok s' _ => Res.ok s' Γ1 | .exc c xs _ => .exc c xs Γ1 | .bad => .bad) = _; rw [e2]) u Hf2 H2 (call1_step st1 t1 st2) (call1_tmp st1.rel st1 st2 t2)
    · exact w1.exc c xs Γ1 (by show (match m [some (.cel .brw d)] with | .ok s' _ => Res.ok s' Γ1 | .exc c xs _ => .exc c xs Γ1 | .bad => .bad) = _; rw [e2]) dx Hf2 H2 (call1_step st1 t1 st2) xx
/-! keywords: all arguments by name -/
def WKs (K : PySem.W.Frag) (cl : ClA) (ta : TA) (W : WX) (m : MDs) : Prop := WDs K cl ta W m
structure DKw (X : Cx) (cl : ClA) (W : WX) (kws : List Keyword) (m : MDs) : Prop where
  ex : ∃ ta, PK X kws ta ∧ WDs X.K cl ta W m
theorem dkw_nil : DKw X cl W [] mNil := ⟨_, pk_nil, fun Γ Hf σ H Q w => w.done .nil⟩
theorem dkw_cons {m : MD} {r : MDs} {kws : List Keyword} {nm : Option PySem.Str} {kpos : Pos} (he : DD X cl W e m) (hr : DKw X cl W kws r) : DKw X cl W (⟨nm, e, kpos⟩ :: kws) (mCons m r) := by
  obtain ⟨te, p1, w1⟩ := he.ex
  obtain ⟨ta, p2, w2⟩ := hr.ex
  refine ⟨_, pk_cons p1 p2, fun Γ Hf σ H Q w => w1 Γ Hf σ H _ (w.bind fun d Γ1 e1 x Hf1 H1 st1 t1 => ?_)⟩
  have wa := w.nextE e1 st1
  exact w2 Γ1 Hf1 σ H1 _ (wa.bind fun ds Γ2 e2 vs Hf2 H2 st2 t2 => (wa.nextE e2 st2).done (.cons (Den.mono st2.le t1) t2))
/-- g: the keywords' values in the parameters' order -/
def mCallK (n : Nat) (g : {α : Type} → List α → List α) (f : ME) (ma : MDs) : ME := fun Γ => (ma Γ).bnd fun ds Γ1 => if ds.length = n ∧ (g ds).length = n then callR Γ1 ((g ds).map .v) (f ((g ds).map fun d => some (.dat d))) else .bad
theorem AVs.dats {K : PySem.W.Frag} {Hf : Hp} {σ : L2.St} : ∀ {vs : List V} {ds : List D}, DenL K cl Hf vs ds → AVs K cl Hf σ vs (ds.map .v)
  | _, _, .nil => .nil
  | _, _, .cons h q => .v h (AVs.dats q)
theorem argE_dats {Γ : SE} : ∀ (ds : List D), argE Γ (ds.map .v) = some (ds.map fun d => some (.dat d))
  | [] => rfl
  | d :: ds => by show (argE Γ (ds.map .v)).map _ = _; rw [argE_dats ds]; rfl
theorem de_callK {kws : List Keyword} {ks : List PySem.Str} {g : {α : Type} → List α → List α} {ma : MDs} (F : FnG X.prog X.w X.K cl X.mg X.base k f fd ps m) (hr : Room k X.A) (hG : X.A.guards = some []) (tk : Takes X W) (hg : Gl X x) (hm : X.mg x = some (.ref f)) (hk : PySem.W.keepIn X.K (.ref f) = true)
    (hb : ∀ (s : Shared) (ws : List Value), X.K.In s.heap → ws.length = ps.length → BindsTo s fd ⟨[], ks.zip ws⟩ (ps.zip (g ws))) (hgr : ∀ {vs : List V} {us : List Value}, vs.length = ps.length → Vals vs us → Vals (g vs) (g us)) (hgd : ∀ {Hf : Hp} {vs : List V} {ds : List D}, vs.length = ps.length → DenL X.K cl Hf vs ds → DenL X.K cl Hf (g vs) (g ds))
    (ha : DKw X cl W kws ma) (hall : (backToKw pos (keywordEach kws X.env)).all (·.1.isSome) = true := by rfl) (hks : (backToKw pos (keywordEach kws X.env)).filterMap (·.1) = ks := by rfl) (hdb : (x == ("__debug__" : PySem.Str)) = false := by decide)
    (hpl : ((backTo pos (starEach [] X.env)).any (·.1) || (backToKw pos (keywordEach kws X.env)).any (·.1.isNone)) = false := by rfl) :
    DE X cl W (.Call (.Name x p) [] kws pos) (mCallK ps.length g m ma) := by
  obtain ⟨ta, pA, wA⟩ := ha.ex
  have P : PE X (.Call (.Name x p) [] kws pos) (fun σ H Q => ta σ H fun vs H1 => vs.length = ps.length ∧ (g vs).length = ps.length ∧ ∃ Γ Hf, Wants X.K cl Γ Hf ((g vs).map some) H1 (PSv X.K cl Γ ((g vs).map some) H1) (fun c d H' => W c d σ H') (m Γ) Q) := by
    refine ⟨fun pins s σ H Q I h => wpAny_Call_Name_kw (ld_glob I hg hm ?_ hdb)⟩
    refine PySem.W.callWith_KW0 (h₀ := X.base) I.ok.mod.kin hk hall (thn (pA.run pos pins s σ H _ I h) fun ws s1 ⟨vs, H1, I1, r, hl, hl2, Γ, Hf, w⟩ => ⟨I1.kIn, ?_⟩) hpl
    rw [hks]
    have hb' := hb s1 ws I1.kIn (by rw [← r.length]; exact hl)
    refine wpAny_call (codeAny_mono (F.go hr hG tk I1 (hgr hl r) hb' hl2 w) fun r s' q => ?_)
    cases r with
    | error e => exact q
    | ok fl => cases fl with
      | ret u => exact q
      | next => exact q.elim
      | brk => exact q.elim
      | cont => exact q.elim
  refine ⟨_, P, fun Γ Hf σ H Q w => wA Γ Hf σ H _ (w.bind fun ds Γ1 e1 vs Hf1 H1 st1 dn => ?_)⟩
  have w1 := w.next e1 st1
  by_cases hc : ds.length = ps.length ∧ (g ds).length = ps.length
  · rw [if_pos hc] at w1
    have hv : vs.length = ps.length := by rw [dn.length]; exact hc.1
    have dg := hgd hv dn
    have hv2 : (g vs).length = ps.length := by rw [dg.length]; exact hc.2
    have w2 := wants_call (X := X) (W := W) (m := m) (Q := Q) ps.length hv2 (AVs.dats dg) (by rw [argE_dats]; exact w1)
    exact ⟨hv, w2⟩
  · rw [if_neg hc] at w1; exact (w1.nb rfl).elim
end
end DL
end

section
set_option Elab.async false
set_option linter.all false
set_option maxRecDepth 100000
set_option maxHeartbeats 2000000
namespace DL
open PySem PySem.Spec PyProof.Rows L2


/-! ## fields -/
def fldD (c : Nat) (f : PySem.Str) : D → Option D
  | .obj c' fs => if c' = c then fs.lookup f else none
  | _ => none
def mFld (c : Nat) (f : PySem.Str) (m : MD) : MD := fun Γ => (m Γ).bnd fun d Γ1 => match fldD c f d with
  | some x => .ok x Γ1
  | none => .bad
section
variable {X : Cx} {cl : ClA} {W : WX} {e : Expr} {es : List Expr} {pos p pos' : Pos} {m : MD} {f : PySem.Str} {c : Nat}
theorem dd_fld (hc : Cls X.K (cl c)) (hn : NoAttr X.K (cl c) f) (he : DR X cl W e m) (hb : attributeBase e f X.env (eval e X.env) = eval e X.env := by rfl) : DD X cl W (.Attribute e f pos) (mFld c f m) := by
  obtain ⟨te, pE, wE⟩ := he.ex
  refine ⟨_, pe_fld pE hb, fun Γ Hf σ H Q w => wE Γ Hf σ H _ (w.bind fun d Γ1 e1 x Hf1 H1 st1 p1 => ?_)⟩
  have w1 := w.nextD e1 st1
  obtain ⟨y, ey, k⟩ := w1.optD
  unfold fldD at ey
  split at ey
  · next c' fs =>
    split at ey
    · next hcc =>
      subst hcc
      obtain ⟨a, dx, gs, rfl, h1, h2⟩ := p1.obj st1.rel.le
      obtain ⟨v, ev, hv⟩ := h2.lookup ey
      exact ⟨a, cl c', dx, gs, v, rfl, h1, hc, hn, ev, k v Hf1 H1 (.refl st1.rel) hv⟩
    · cases ey
  · cases ey
theorem putF_den {K : PySem.W.Frag} {Hf : Hp} {v : V} {d : D} (hv : Den K cl Hf v d) : ∀ {gs : List (PySem.Str × V)} {fs : List (PySem.Str × D)}, DenF K cl Hf gs fs → DenF K cl Hf (putF f v gs) (putFD f d fs)
  | _, _, .nil => .cons hv .nil
  | (g, x) :: gs, (_, y) :: fs, .cons h r => by
    by_cases hg : g = f
    · have e1 : putF f v ((g, x) :: gs) = (g, v) :: gs := if_pos hg
      have e2 : putFD f d ((g, y) :: fs) = (g, d) :: fs := if_pos hg
      rw [e1, e2]; exact .cons hv r
    · have e1 : putF f v ((g, x) :: gs) = (g, x) :: putF f v gs := if_neg hg
      have e2 : putFD f d ((g, y) :: fs) = (g, y) :: putFD f d fs := if_neg hg
      rw [e1, e2]; exact .cons h (putF_den hv r)
theorem denF_len {K : PySem.W.Frag} {Hf : Hp} : ∀ {gs : List (PySem.Str × V)} {fs : List (PySem.Str × D)}, DenF K cl Hf gs fs → gs.length = fs.length
  | _, _, .nil => rfl
  | _, _, .cons _ r => by simp [denF_len r]
def putFS (c : Nat) (f : PySem.Str) (d : D) : Option Sv → Option Sv
  | some (.cel k (.obj c' fs)) => if k ≠ .lok ∧ c' = c ∧ fs.length < 1000 then some (.cel k (.obj c' (putFD f d fs))) else none
  | _ => none
/-- self.f = e, self a name -/
def mFst (i c : Nat) (f : PySem.Str) (m : MD) : MS := fun Γ => (m Γ).bndS fun d Γ1 => optS ((putFS c f d (Γ1[i]?.bind id)).map fun s => Γ1.set i (some s))
theorem ds_fst (i : Nat) {x : PySem.Str} (hc : Cls X.K (cl c)) (hn : NoAttr X.K (cl c) f) (he : DD X cl W e m) (hN : X.N[i]? = some x := by rfl) (hv : Vis X.env.scope x := by first | exact Or.inl rfl | exact Or.inr (Or.inl rfl) | exact Or.inr (Or.inr rfl)) (hd : (x == ("__debug__" : PySem.Str)) = false := by decide) (hcd : (x == ("__classdict__" : PySem.Str)) = false := by decide)
    (hs : swapsWith e (some (.Attribute (.Name x p) f pos')) pos.line X.env = pure false := by rfl) : DS X cl W (.Assign [.Attribute (.Name x p) f pos'] e pos) (mFst i c f m) := by
  obtain ⟨te, pE, wE⟩ := he.ex
  refine ⟨_, ps_fld (pe_var (pos := p) hN hv hd hcd) pE hs, fun Γ Hf σ H D w => wE Γ Hf σ H _ (w.bind fun d Γ1 e1 y Hf1 H1 st1 p1 => ?_)⟩
  obtain ⟨Γ2, e2, k⟩ := (w.of e1).optS
  obtain ⟨s, e3, rfl⟩ := Option.map_eq_some_iff.mp e2
  unfold putFS at e3
  split at e3
  · next kd c' fs eg =>
    split at e3
    · next hcc =>
      obtain ⟨hk, rfl, hl⟩ := hcc
      cases e3
      have ei : Γ1[i]? = some (some (.cel kd (.obj c' fs))) := by
        cases q : Γ1[i]? with
        | none => rw [q] at eg; cases eg
        | some g => rw [q] at eg; exact congrArg some eg
      obtain ⟨v, ev, q, rfl, n, cc⟩ := st1.rel.at_ i _ ei
      cases cc with
      | @obj dx _ gs _ h1 h2 =>
        refine ⟨_, ev, q, cl c', dx, gs, rfl, h1, hc, hn, by rw [denF_len h2]; exact hl, ?_⟩
        have stc := st1.rel.change (o := .ins (cl c') dx (putF f y gs)) (d' := .obj c' (putFD f d fs)) ei ev hk (.obj upd_same (putF_den p1 h2))
        exact k Hf1 σ _ (st1.trans stc)
    · cases e3
  · cases e3
end

/-! ## methods of objects that are data -/
def noFld (c : Nat) (n : PySem.Str) : D → Bool
  | .obj c' fs => c' == c && (fs.lookup n).isNone
  | _ => false
def mMeth (c : Nat) (nm : PySem.Str) (n : Nat) (f : ME) (mo : MD) (ma : MDs) : ME := fun Γ => (mo Γ).bnd fun o Γ1 => if noFld c nm o then (ma Γ1).bnd fun ds Γ2 => if ds.length + 1 = n then callR Γ2 ((o :: ds).map .v) (f ((o :: ds).map fun d => some (.dat d))) else .bad else .bad
section
variable {X : Cx} {cl : ClA} {W : WX} {o e : Expr} {es : List Expr} {pos apos : Pos} {k : Nat} {f C : Addr} {fd : FuncData} {ps : List PySem.Str} {m : ME} {nm : PySem.Str} {mo : MD} {ma : MDs} {c : Nat}
theorem pe_methG {pl : Sem Bool} {to : TE} {ta : TA} (he : PE X o to) (hc : Cls X.K C) (hm : Meth X.K C nm f) (F : FnG X.prog X.w X.K cl X.mg X.base k f fd ps m) (hr : Room k X.A) (hG : X.A.guards = some []) (tk : Takes X W) (hb : Binds X.K fd ps []) (ha : PA X (e :: es) ta)
    (hst : starEach (e :: es) X.env = (false, eval e X.env) :: starEach es X.env := by rfl) (hpl : (backTo pos (starEach es X.env)).any (·.1) = false := by rfl)
    (ht : eval (.Call (.Attribute o nm apos) (e :: es) [] pos) X.env = (do
      let ov ← eval o X.env
      standAt apos.atName
      let (f, first) ← holding [ov] (getMethod ov nm pl)
      callWith pos f first (backTo pos (starEach (e :: es) X.env)) (backToKw pos (keywordEach [] X.env))) := by rfl) :
    PE X (.Call (.Attribute o nm apos) (e :: es) [] pos) (fun σ H Q => to σ H fun x H1 => ∃ a dx fs, x = .ref a ∧ H1 a = some (.ins C dx fs) ∧ fs.lookup nm = none ∧ tGo X.K cl W ps.length m (fun σ H R => ta σ H fun vs H2 => R (x :: vs) H2) σ H1 Q) := by
  refine ⟨fun pins s σ H Q I h => PySem.W.methodCall_KW (pl := pl) (thn (he.run pins s σ H _ I h) fun u s1 ⟨x, H1, I1, rx, a, dx, fs, ex, ea, l, q⟩ => ?_) ht⟩
  subst ex
  obtain rfl : u = Value.ref a := rx
  refine getmeth_ok I1 ea hc hm l ?_
  refine PySem.W.callWith_K (first := [.ref a]) (h₀ := X.base) I.ok.mod.kin hm.kp (thn (ha.run pos pins s1 σ H1 _ I1 q) fun us s2 ⟨vs, H2, I2, r, hl, Γ, Hf, w⟩ => ⟨I2.kIn, ?_⟩) hst hpl
  have hb' := hb s2 (.ref a :: us) I2.kIn (by rw [List.append_nil]; show us.length + 1 = _; rw [← r.length]; exact hl)
  rw [List.append_nil] at hb'
  refine wpAny_call (codeAny_mono (F.go hr hG tk I2 (us := .ref a :: us) (vs := .ref a :: vs) (.cons rfl r) hb' hl w) fun r s' q => ?_)
  cases r with
  | error e => exact q
  | ok fl => cases fl with
    | ret u => exact q
    | next => exact q.elim
    | brk => exact q.elim
    | cont => exact q.elim
theorem de_meth {pl : Sem Bool} (ho : DD X cl W o mo) (hc : Cls X.K (cl c)) (hm : Meth X.K (cl c) nm f) (F : FnG X.prog X.w X.K cl X.mg X.base k f fd ps m) (hr : Room k X.A) (hG : X.A.guards = some []) (tk : Takes X W) (hb : Binds X.K fd ps []) (ha : DAs X cl W (e :: es) ma)
    (hst : starEach (e :: es) X.env = (false, eval e X.env) :: starEach es X.env := by rfl) (hpl : (backTo pos (starEach es X.env)).any (·.1) = false := by rfl)
    (ht : eval (.Call (.Attribute o nm apos) (e :: es) [] pos) X.env = (do
      let ov ← eval o X.env
      standAt apos.atName
      let (f, first) ← holding [ov] (getMethod ov nm pl)
      callWith pos f first (backTo pos (starEach (e :: es) X.env)) (backToKw pos (keywordEach [] X.env))) := by rfl) :
    DE X cl W (.Call (.Attribute o nm apos) (e :: es) [] pos) (mMeth c nm ps.length m mo ma) := by
  obtain ⟨to, pO, wO⟩ := ho.ex
  obtain ⟨ta, pA, wA⟩ := ha.ex
  refine ⟨_, pe_methG pO hc hm F hr hG tk hb pA hst hpl ht, fun Γ Hf σ H Q w => wO Γ Hf σ H _ (w.bind fun d Γ1 e1 x Hf1 H1 st1 p1 => ?_)⟩
  have w1 := w.next e1 st1
  by_cases hn : noFld c nm d = true
  · rw [if_pos hn] at w1
    cases d with
    | obj c' fs =>
      have hn' : (c' == c && (fs.lookup nm).isNone) = true := hn
      rw [Bool.and_eq_true] at hn'
      have hcc : c' = c := by simpa using hn'.1
      subst hcc
      have hl : fs.lookup nm = none := by simpa using hn'.2
      obtain ⟨a, dx, gs, rfl, h1, h2⟩ := Rdd.obj (.inl p1) st1.rel.le
      refine ⟨a, dx, gs, rfl, h1, h2.no hl, wA Γ1 Hf1 σ H1 _ (w1.bind fun ds Γ2 e2 vs Hf2 H2 st2 p2 => ?_)⟩
      have w2 := w1.next e2 st2
      by_cases hlen : ds.length + 1 = ps.length
      · rw [if_pos hlen] at w2
        have dn : DenL X.K cl Hf2 (.ref a :: vs) (.obj c' fs :: ds) := .cons (Den.mono st2.le p1) p2
        exact wants_call (X := X) (W := W) (m := m) (Q := Q) ps.length (by rw [dn.length]; exact hlen) (AVs.dats dn) (by rw [argE_dats]; exact w2)
      · rw [if_neg hlen] at w2; exact (w2.nb rfl).elim
    | _ => cases hn
  · rw [if_neg hn] at w1; exact (w1.nb rfl).elim
end
end DL
end

section
set_option Elab.async false
set_option linter.all false
set_option maxRecDepth 100000
set_option maxHeartbeats 2000000
namespace DL
open PySem PySem.Spec PyProof.Rows L2


/-! ## C(..) -/
section
variable {K : PySem.W.Frag} {cl : ClA} {Γ1 Γc' : SE} {Hf1 Hf2 H1 H2 : Hp} {σ : L2.St} {c : Nat} {x dx : Addr} {vs : List V} {ds : List D}
def newO (H : Hp) (C x dx : Addr) : Hp := upd (upd H dx (.own x)) x (.ins C dx [])
def makeE (c : Nat) (ds : List D) : SE := some (.cel .brw (.obj c [])) :: ds.map fun d => some (.dat d)
theorem makeE_cel {i : Nat} {k : Kd} {d : D} (h : (makeE c ds)[i]? = some (some (.cel k d))) : i = 0 ∧ k = .brw ∧ d = .obj c [] := by
  cases i with
  | zero => cases h; exact ⟨rfl, rfl, rfl⟩
  | succ i =>
    have h' : (ds.map fun d => some (Sv.dat d))[i]? = some (some (.cel k d)) := h
    rw [List.getElem?_map] at h'
    obtain ⟨_, _, e⟩ := Option.map_eq_some_iff.mp h'
    cases e
theorem newO_old {C b : Addr} {o : HO} (h1 : H1 x = none) (h2 : H1 dx = none) (h : H1 b = some o) : newO H1 C x dx b = some o := by
  unfold newO
  rw [upd_ne (ne_of_none h h1), upd_ne (ne_of_none h h2)]; exact h
theorem make_rel (rel : Rel K cl Γ1 Hf1 σ H1) (h1 : H1 x = none) (h2 : H1 dx = none) (hd : DenL K cl Hf1 vs ds) : Rel K cl (makeE c ds) Hf1 ((V.ref x :: vs).map some) (newO H1 (cl c) x dx) := by
  refine ⟨rel.le.trans (.of_same fun b o h => newO_old h1 h2 h), ?_, fun i s hs => ?_, fun i j k k' d d' w a b e e' => ?_⟩
  · unfold makeE; simp [hd.length]
  · cases i with
    | zero => cases hs; exact ⟨_, rfl, x, rfl, rel.le.no h1, .obj (by unfold newO; exact upd_same) .nil⟩
    | succ i =>
      have h' : (ds.map fun d => some (Sv.dat d))[i]? = some (some s) := hs
      rw [List.getElem?_map] at h'
      obtain ⟨d, ed, e⟩ := Option.map_eq_some_iff.mp h'
      cases e
      obtain ⟨v, ev, q⟩ := hd.get ed
      refine ⟨v, ?_, q⟩
      show (vs.map some)[i]? = _
      rw [List.getElem?_map, ev]; rfl
  · rw [(makeE_cel a).1, (makeE_cel b).1]
theorem make_step (rel : Rel K cl Γ1 Hf1 σ H1) (h1 : H1 x = none) (h2 : H1 dx = none) (st : Step K cl (makeE c ds) Hf1 ((V.ref x :: vs).map some) (newO H1 (cl c) x dx) Γc' Hf2 ((V.ref x :: vs).map some) H2) : Step K cl Γ1 Hf1 σ H1 Γ1 Hf2 σ H2 := by
  have no : ∀ {b : Addr} {o : HO}, H1 b = some o → ¬ IsOwn (makeE c ds) ((V.ref x :: vs).map some) b := fun {b o} hb => by
    rintro ⟨i, k, d, e1, _, e2⟩
    obtain ⟨rfl, _, _⟩ := makeE_cel e1
    cases e2
    rw [h1] at hb; cases hb
  refine ⟨⟨st.rel.le, rel.len, fun i s hs => ?_, rel.dis⟩, st.le, fun b o hb _ => st.fr b o (newO_old h1 h2 hb) (no hb), fun b o hb hn _ => st.av b o (newO_old h1 h2 hb) hn (no hb), fun q h => .inl h, fun b hb => ?_, fun _ k d h _ => ⟨d, h, rfl, fun _ => rfl⟩, fun q h => .inl h⟩
  · obtain ⟨w, ew, q⟩ := rel.at_ i s hs
    refine ⟨w, ew, ?_⟩
    cases s with
    | dat d => exact Den.mono st.le q
    | cel k d =>
      obtain ⟨q, rfl, nq, cq⟩ := q
      obtain ⟨o, ho⟩ := cq.there
      exact ⟨q, rfl, st.av q o (newO_old h1 h2 ho) nq (no ho), cq.mono st.le fun o h => st.fr q o (newO_old h1 h2 h) (no h)⟩
  · cases e : H1 b with
    | none => exact absurd e hb
    | some o => exact st.there b (by rw [newO_old h1 h2 e]; exact fun z => nomatch z)
theorem make_tmp (rel : Rel K cl Γ1 Hf1 σ H1) (h1 : H1 x = none) (st : Step K cl (makeE c ds) Hf1 ((V.ref x :: vs).map some) (newO H1 (cl c) x dx) Γc' Hf2 ((V.ref x :: vs).map some) H2) : ∃ d, Γc'[0]? = some (some (.cel .brw d)) ∧ TmpOk K cl Γ1 σ H1 Γ1 Hf2 σ H2 (.ref x) (.cel .own d) := by
  obtain ⟨d, e1, e2, _⟩ := st.brw 0 .brw (.obj c []) rfl (by decide)
  obtain ⟨v, ev, q, rfl, n, cc⟩ := st.rel.at_ 0 _ e1
  cases ev
  have nc : ¬ IsCel Γ1 σ x := fun z => by
    obtain ⟨_, o, ho⟩ := rel.lt z
    rw [h1] at ho; cases ho
  exact ⟨d, e1, rfl, x, rfl, n, cc, nc, .inr h1⟩
end
def head0 (Γ1 : SE) : Option (Option Sv) → Res Sv
  | some (some (.cel _ d)) => .ok (.cel .own d) Γ1
  | _ => .bad
def makeEnd (Γ1 : SE) : Res Sv → Res Sv
  | .ok (.dat .non) Γc => head0 Γ1 Γc[0]?
  | .exc c xs _ => .exc c xs Γ1
  | _ => .bad
def mMake (c n : Nat) (f : ME) (ma : MDs) : ME := fun Γ => (ma Γ).bnd fun ds Γ1 => if ds.length + 1 = n then makeEnd Γ1 (f (makeE c ds)) else .bad
theorem make_guards {A : Around} {C : Addr} {us : List Value} {kw : List (PySem.Str × Value)} : (A.under (.builtin "type.__call__" ⟨.ref C :: us, kw⟩)).guards = A.guards := by
  first | rfl | simp [Around.under, Code.weight, Code.isCreation, Code.isGuard, Code.isCaller, Code.frames, Code.isFrame, guardIds]
section
variable {X : Cx} {cl : ClA} {W : WX} {e : Expr} {es : List Expr} {pos p : Pos} {k : Nat} {f C : Addr} {fd : FuncData} {ps : List PySem.Str} {m : ME} {x : PySem.Str} {ma : MDs} {c : Nat}
theorem pe_makeG {ta : TA} (M : Mk X.K C f) (F : FnG X.prog X.w X.K cl X.mg X.base k f fd ps m) (hr : Room (k + 1) X.A) (hG : X.A.guards = some []) (tk : Takes X W) (hg : Gl X x) (hm : X.mg x = some (.ref C)) (hb : Binds X.K fd ps [])
    (ha : PA X (e :: es) ta) (hdb : (x == ("__debug__" : PySem.Str)) = false := by decide) (he : starEach (e :: es) X.env = (false, eval e X.env) :: starEach es X.env := by rfl) (hpl : (backTo pos (starEach es X.env)).any (·.1) = false := by rfl) :
    PE X (.Call (.Name x p) (e :: es) [] pos) (fun σ H Q => ta σ H fun vs H1 => ∀ y dy, H1 y = none → H1 dy = none → dy ≠ y →
      vs.length + 1 = ps.length ∧ ∃ Γ Hf, Wants X.K cl Γ Hf ((V.ref y :: vs).map some) (newO H1 C y dy) (PSv X.K cl Γ ((V.ref y :: vs).map some) (newO H1 C y dy)) (fun c d H' => W c d σ H') (m Γ) (fun v H2 => v = .non ∧ Q (.ref y) H2)) := by
  refine ⟨fun pins s σ H Q I h => wpAny_Call_Name_kw (ld_glob I hg hm ?_ hdb)⟩
  refine PySem.W.callWith_K (h₀ := X.base) I.ok.mod.kin M.kp (thn (ha.run pos pins s σ H _ I h) fun us t ⟨vs, H1, J, r, q⟩ => ⟨J.kIn, ?_⟩) he hpl
  obtain ⟨hl, Γ, Hf, want⟩ := q (t.heap.objs.size + 1) t.heap.objs.size (J.hok.fresh (Nat.le_succ _)) (J.hok.fresh (Nat.le_refl _)) (Nat.ne_of_lt (Nat.lt_succ_self _))
  have made := Inv.made (C := C) J
  have vals : Vals (V.ref (t.heap.objs.size + 1) :: vs) (Value.ref (t.heap.objs.size + 1) :: us) := .cons rfl r
  have bound := hb _ (Value.ref (t.heap.objs.size + 1) :: us) made.kIn (by rw [List.append_nil]; show us.length + 1 = _; rw [← r.length]; exact hl)
  rw [List.append_nil] at bound
  refine wpAny_call (make_map (f := f) J.kIn M.makes M.init (beq_iff_eq.mp M.fn)
    (codeAny_mono (F.run _ X.stack _ _ ⟨Value.ref (t.heap.objs.size + 1) :: us, []⟩ _ _ Γ Hf _ (fun c d H' => W c d σ H')
      (hr.make C us []) (make_guards.trans hG) (made.env0.make C us []) bound vals hl want) fun z s' out => ?_))
  cases z with
  | error u => exact tk u s' (XE.of_call made (fun _ _ _ z => z) out)
  | ok fl =>
    cases fl with
    | ret u =>
      obtain ⟨v, H', J', rv, ev, q3⟩ := made.after out
      subst ev
      exact ⟨rv, ⟨V.ref (t.heap.objs.size + 1), H', J', rfl, q3⟩⟩
    | next => exact out.elim
    | brk => exact out.elim
    | cont => exact out.elim
theorem de_make (M : Mk X.K (cl c) f) (F : FnG X.prog X.w X.K cl X.mg X.base k f fd ps m) (hr : Room (k + 1) X.A) (hG : X.A.guards = some []) (tk : Takes X W) (hg : Gl X x) (hm : X.mg x = some (.ref (cl c))) (hb : Binds X.K fd ps [])
    (ha : DAs X cl W (e :: es) ma) (hdb : (x == ("__debug__" : PySem.Str)) = false := by decide) (he : starEach (e :: es) X.env = (false, eval e X.env) :: starEach es X.env := by rfl) (hpl : (backTo pos (starEach es X.env)).any (·.1) = false := by rfl) :
    DE X cl W (.Call (.Name x p) (e :: es) [] pos) (mMake c ps.length m ma) := by
  obtain ⟨ta, pA, wA⟩ := ha.ex
  refine ⟨_, pe_makeG M F hr hG tk hg hm hb pA hdb he hpl, fun Γ Hf σ H Q w => wA Γ Hf σ H _ (w.bind fun ds Γ1 e1 vs Hf1 H1 st1 dn => fun y dy hy hdy hne => ?_)⟩
  have w1 := w.next e1 st1
  by_cases hl : ds.length + 1 = ps.length
  · rw [if_pos hl] at w1
    refine ⟨by rw [dn.length]; exact hl, makeE c ds, Hf1, make_rel st1.rel hy hdy dn, fun s Γc' e2 v Hf2 H2 st2 t2 => ?_, fun cc xs Γc' e2 d Hf2 H2 st2 xx => ?_, fun e2 => w1.nb (by rw [e2]; rfl)⟩
    · obtain ⟨d, e3, t3⟩ := make_tmp st1.rel hy st2
      rw [e2] at w1
      cases s with
      | cel _ _ => exact (w1.nb rfl).elim
      | dat dd =>
        cases dd with
        | non =>
          have hv : v = .non := by cases t2; rfl
          have w2 : Wants X.K cl Γ1 Hf1 σ H1 (PSv X.K cl Γ1 σ H1) (fun c d H' => W c d σ H') (head0 Γ1 Γc'[0]?) Q := w1
          rw [e3] at w2
          exact ⟨hv, w2.ok _ Γ1 rfl _ Hf2 H2 (make_step st1.rel hy hdy st2) t3⟩
        | _ => exact (w1.nb rfl).elim
    · rw [e2] at w1
      exact w1.exc cc xs Γ1 rfl d Hf2 H2 (make_step st1.rel hy hdy st2) xx
  · rw [if_neg hl] at w1; exact (w1.nb rfl).elim
end
end DL
end

section
set_option Elab.async false
set_option linter.all false
set_option maxRecDepth 100000
set_option maxHeartbeats 2000000
namespace DL
open PySem PySem.Spec PyProof.Rows L2


/-! ## a def of the text, with all that its callers ask -/
section
variable (P : Program) (w : World) (K : PySem.W.Frag) (cl : ClA) (mg : PySem.Str → Option Value) (base : Heap) (k : Nat)
structure Df (x : PySem.Str) (ps : List PySem.Str) (m : ME) : Prop where
  ex : ∃ fd, FnG P w K cl mg base k (He.ga K x) fd ps m ∧ Binds K fd ps [] ∧ PySem.W.keepIn K (.ref (He.ga K x)) = true ∧ mg x = some (.ref (He.ga K x))
structure DfM (c : Nat) (nm : PySem.Str) (ps : List PySem.Str) (m : ME) : Prop where
  ex : ∃ fd, FnG P w K cl mg base k (He.ma K (cl c) nm) fd ps m ∧ Binds K fd ps [] ∧ Meth K (cl c) nm (He.ma K (cl c) nm)
structure DfI (c : Nat) (x : PySem.Str) (ps : List PySem.Str) (m : ME) : Prop where
  ex : ∃ fd, FnG P w K cl mg base k (He.ma K (cl c) "__init__") fd ps m ∧ Binds K fd ps [] ∧ Mk K (cl c) (He.ma K (cl c) "__init__") ∧ mg x = some (.ref (cl c))
end
section
variable {P : Program} {w : World} {K : PySem.W.Frag} {cl : ClA} {mg : PySem.Str → Option Value} {base : Heap} {j k : Nat} {x nm : PySem.Str} {ps : List PySem.Str} {m : ME} {c : Nat}
theorem Df.mono (D : Df P w K cl mg base j x ps m) (h : j ≤ k) : Df P w K cl mg base k x ps m := let ⟨fd, a, b⟩ := D.ex; ⟨fd, a.mono h, b⟩
theorem DfM.mono (D : DfM P w K cl mg base j c nm ps m) (h : j ≤ k) : DfM P w K cl mg base k c nm ps m := let ⟨fd, a, b⟩ := D.ex; ⟨fd, a.mono h, b⟩
theorem DfI.mono (D : DfI P w K cl mg base j c x ps m) (h : j ≤ k) : DfI P w K cl mg base k c x ps m := let ⟨fd, a, b⟩ := D.ex; ⟨fd, a.mono h, b⟩
end
section
variable {X : Cx} {cl : ClA} {W : WX} {e : Expr} {es : List Expr} {pos p : Pos} {k : Nat} {ps : List PySem.Str} {m : ME} {x nm : PySem.Str} {c : Nat}
theorem de_callF {ma : MA} (D : Df X.prog X.w X.K cl X.mg X.base k x ps m) (hr : Room k X.A) (hG : X.A.guards = some []) (tk : Takes X W) (ha : DA X cl W (e :: es) ma) (hg : Gl X x := by rfl)
    (hdb : (x == ("__debug__" : PySem.Str)) = false := by decide) (he : starEach (e :: es) X.env = (false, eval e X.env) :: starEach es X.env := by rfl) (hpl : (backTo pos (starEach es X.env)).any (·.1) = false := by rfl) :
    DE X cl W (.Call (.Name x p) (e :: es) [] pos) (mCallN ps.length m ma) := by
  obtain ⟨fd, F, b, kp, gm⟩ := D.ex
  exact de_call F hr hG tk hg gm kp b ha hdb he hpl
theorem de_call1F {ma : ME} (D : Df X.prog X.w X.K cl X.mg X.base k x ps m) (hr : Room k X.A) (hG : X.A.guards = some []) (tk : Takes X W) (ha : DE X cl W e ma) (hp : ps.length = 1 := by rfl) (hg : Gl X x := by rfl)
    (hdb : (x == ("__debug__" : PySem.Str)) = false := by decide) (he : starEach [e] X.env = (false, eval e X.env) :: starEach [] X.env := by rfl) (hpl : (backTo pos (starEach [] X.env)).any (·.1) = false := by rfl) :
    DE X cl W (.Call (.Name x p) [e] [] pos) (mCall1 m ma) := by
  obtain ⟨fd, F, b, kp, gm⟩ := D.ex
  exact de_call1 F hr hG tk hg gm kp b ha hp hdb he hpl
theorem de_makeF {ma : MDs} (D : DfI X.prog X.w X.K cl X.mg X.base k c x ps m) (hr : Room (k + 1) X.A) (hG : X.A.guards = some []) (tk : Takes X W) (ha : DAs X cl W (e :: es) ma) (hg : Gl X x := by rfl)
    (hdb : (x == ("__debug__" : PySem.Str)) = false := by decide) (he : starEach (e :: es) X.env = (false, eval e X.env) :: starEach es X.env := by rfl) (hpl : (backTo pos (starEach es X.env)).any (·.1) = false := by rfl) :
    DE X cl W (.Call (.Name x p) (e :: es) [] pos) (mMake c ps.length m ma) := by
  obtain ⟨fd, F, b, M, gm⟩ := D.ex
  exact de_make M F hr hG tk hg gm b ha hdb he hpl
theorem de_methF {o : Expr} {apos : Pos} {pl : Sem Bool} {mo : MD} {ma : MDs} (hc : Cls X.K (cl c)) (ho : DD X cl W o mo) (D : DfM X.prog X.w X.K cl X.mg X.base k c nm ps m) (hr : Room k X.A) (hG : X.A.guards = some []) (tk : Takes X W) (ha : DAs X cl W (e :: es) ma)
    (hst : starEach (e :: es) X.env = (false, eval e X.env) :: starEach es X.env := by rfl) (hpl : (backTo pos (starEach es X.env)).any (·.1) = false := by rfl)
    (ht : eval (.Call (.Attribute o nm apos) (e :: es) [] pos) X.env = (do
      let ov ← eval o X.env
      standAt apos.atName
      let (f, first) ← holding [ov] (getMethod ov nm pl)
      callWith pos f first (backTo pos (starEach (e :: es) X.env)) (backToKw pos (keywordEach [] X.env))) := by rfl) :
    DE X cl W (.Call (.Attribute o nm apos) (e :: es) [] pos) (mMeth c nm ps.length m mo ma) := by
  obtain ⟨fd, F, b, M⟩ := D.ex
  exact de_meth (pl := pl) ho hc M F hr hG tk b ha hst hpl ht
/-- the names' block -/
def blkB (N : List PySem.Str) (sc scope : Scope) (own : List (PySem.Str × Nat)) : Bool :=
  decide (scope.kind = .function) && (scope.names.all (fun y => decide (scope.names.lookup y.1 = some y.2)) && (own.all (fun p => decide (N[p.2]? = some p.1)) &&
  (scope.names.all (fun y => !decide (y.2 = .free) || (decide (sc.names.lookup y.1 = some .cell) || decide (sc.names.lookup y.1 = some .free))) &&
    scope.names.all (fun y => !(decide (y.2 = .local) || decide (y.2 = .cell)) || ((own.map (·.1)).contains y.1 || !N.contains y.1)))))
theorem blk_ok {N : List PySem.Str} {sc scope : Scope} {own : List (PySem.Str × Nat)} (h : blkB N sc scope own = true) : BlkOk N sc scope own := by
  unfold blkB at h
  simp only [Bool.and_eq_true] at h
  obtain ⟨h1, h2, h3, h4, h5⟩ := h
  refine ⟨of_decide_eq_true h1, fun y hy => ?_, fun p hp => ?_, fun y hy e => ?_, fun y hy e => ?_⟩
  · exact of_decide_eq_true (List.all_eq_true.mp h2 y hy)
  · exact of_decide_eq_true (List.all_eq_true.mp h3 p hp)
  · have q := List.all_eq_true.mp h4 y hy
    rw [e] at q
    simpa using q
  · have q := List.all_eq_true.mp h5 y hy
    rcases e with e | e
    · rw [e] at q
      simpa [or_comm] using q
    · rw [e] at q
      simpa [or_comm] using q
end
end DL
end

section
set_option Elab.async false
set_option linter.all false
set_option maxRecDepth 100000
set_option maxHeartbeats 2000000
namespace DL
open PySem PySem.Spec PyProof.Rows L2


section
variable (P : Program) (w : World) (K : PySem.W.Frag) (cl : ClA) (mg : PySem.Str → Option Value) (base : Heap) (k : Nat)
/-- .. with its keywords in another sequence (ks; g puts them in the parameters' one) -/
structure DfK (x : PySem.Str) (ps ks : List PySem.Str) (g : {α : Type} → List α → List α) (m : ME) : Prop where
  ex : ∃ fd, FnG P w K cl mg base k (He.ga K x) fd ps m ∧ PySem.W.keepIn K (.ref (He.ga K x)) = true ∧ mg x = some (.ref (He.ga K x)) ∧ (∀ (s : Shared) (ws : List Value), K.In s.heap → ws.length = ps.length → BindsTo s fd ⟨[], ks.zip ws⟩ (ps.zip (g ws))) ∧
    (∀ {vs : List V} {us : List Value}, vs.length = ps.length → Vals vs us → Vals (g vs) (g us)) ∧ (∀ {Hf : Hp} {vs : List V} {ds : List D}, vs.length = ps.length → DenL K cl Hf vs ds → DenL K cl Hf (g vs) (g ds))
end
theorem DfK.mono {P : Program} {w : World} {K : PySem.W.Frag} {cl : ClA} {mg : PySem.Str → Option Value} {base : Heap} {j k : Nat} {x : PySem.Str} {ps ks : List PySem.Str} {g : {α : Type} → List α → List α} {m : ME} (D : DfK P w K cl mg base j x ps ks g m) (h : j ≤ k) : DfK P w K cl mg base k x ps ks g m := let ⟨fd, a, b⟩ := D.ex; ⟨fd, a.mono h, b⟩
section
variable {X : Cx} {cl : ClA} {W : WX} {e : Expr} {es : List Expr} {pos p : Pos} {k : Nat} {ps : List PySem.Str} {m : ME} {x : PySem.Str}
theorem de_callKF {kws : List Keyword} {ks : List PySem.Str} {g : {α : Type} → List α → List α} {ma : MDs} (D : DfK X.prog X.w X.K cl X.mg X.base k x ps ks g m) (hr : Room k X.A) (hG : X.A.guards = some []) (tk : Takes X W) (ha : DKw X cl W kws ma) (hg : Gl X x := by rfl)
    (hall : (backToKw pos (keywordEach kws X.env)).all (·.1.isSome) = true := by rfl) (hks : (backToKw pos (keywordEach kws X.env)).filterMap (·.1) = ks := by rfl) (hdb : (x == ("__debug__" : PySem.Str)) = false := by decide)
    (hpl : ((backTo pos (starEach [] X.env)).any (·.1) || (backToKw pos (keywordEach kws X.env)).any (·.1.isNone)) = false := by rfl) :
    DE X cl W (.Call (.Name x p) [] kws pos) (mCallK ps.length g m ma) := by
  obtain ⟨fd, F, kp, gm, b, r1, r2⟩ := D.ex
  exact de_callK F hr hG tk hg gm kp b r1 r2 ha hall hks hdb hpl
end
/-! ## a text, times a number -/
def repS (x : PySem.Str) (n : Int) : PySem.Str := if n < 1 then Str.empty else if (n == 1 || x.length == 0) = true then x else ⟨(List.replicate n.toNat x.cps).foldl (· ++ ·) #[]⟩
def dMulS : D → D → Option Sv
  | .str x, .int n => if 0 ≤ n ∧ n ≤ 1000 ∧ x.length ≤ 1000 then some (.dat (.str (repS x n))) else none
  | _, _ => none
theorem rep_size (a : Array Nat) : ∀ (n : Nat) (b : Array Nat), ((List.replicate n a).foldl (· ++ ·) b).size = b.size + n * a.size
  | 0, b => by simp
  | n + 1, b => by
    rw [List.replicate_succ, List.foldl_cons, rep_size a n, Array.size_append, Nat.succ_mul]
    omega
theorem op_mulS {X : Cx} : OpR X (binaryOp .Mult) (fun x y H Q => ∃ s n, x = V.str s ∧ y = V.int n ∧ (0 ≤ n ∧ n ≤ 1000 ∧ s.length ≤ 1000) ∧ Q (.str (repS s n)) H) := by
  intro pins s σ H x y v u Q I rx ry h
  obtain ⟨z, n, rfl, rfl, ⟨h1, h2, h3⟩, q⟩ := h
  obtain ⟨t, rfl⟩ := rx
  obtain ⟨t', rfl⟩ := ry
  refine PySem.P.mul_str (by rw [decide_eq_false (by omega), decide_eq_false (by omega)]; rfl) (fun hn _ => ?_) (fun hn _ => ?_) ?_
  · have e : (2 ^ 63 - 1 : Int) / 1000 ≤ (2 ^ 63 - 1) / n := by
      have := Int.ediv_le_ediv (a := n * ((2 ^ 63 - 1 : Int) / 1000)) (b := 2 ^ 63 - 1) (c := n) (by omega) (by
        have : n * ((2 ^ 63 - 1 : Int) / 1000) ≤ 1000 * ((2 ^ 63 - 1 : Int) / 1000) := Int.mul_le_mul_of_nonneg_right h2 (by decide)
        have e2 : (1000 : Int) * ((2 ^ 63 - 1 : Int) / 1000) ≤ 2 ^ 63 - 1 := by decide
        omega)
      rw [Int.mul_ediv_cancel_left _ (by omega)] at this
      exact this
    have e3 : (1000 : Int) < (2 ^ 63 - 1 : Int) / 1000 := by decide
    omega
  · have : z.length * n.toNat ≤ 1000 * 1000 := Nat.mul_le_mul h3 (by omega)
    unfold Builtin.Str.tooLong
    have e := sizeLine_eq
    exact decide_eq_false (by omega)
  · unfold repS at q
    split
    · next c => rw [if_pos c] at q; exact ⟨by decide, ⟨V.str _, H, I.tok _, ⟨_, rfl⟩, q⟩⟩
    · next c =>
      rw [if_neg c] at q
      split
      · next c2 => rw [if_pos c2] at q; exact ⟨V.str _, H, I, ⟨_, rfl⟩, q⟩
      · next c2 => rw [if_neg c2] at q; exact ⟨(by
          have h5 : ((List.replicate n.toNat z.cps).foldl (· ++ ·) #[]).size = 0 + n.toNat * z.cps.size := rep_size z.cps n.toNat #[]
          have h6 : n.toNat * z.cps.size ≤ 1000 * 1000 := Nat.mul_le_mul (by omega) h3
          have e := sizeLine_eq
          show ((List.replicate n.toNat z.cps).foldl (· ++ ·) #[]).size ≤ _
          omega), ⟨V.str _, H, I.tok _, ⟨_, rfl⟩, q⟩⟩
theorem opD_mulS {K : PySem.W.Frag} {cl : ClA} : OpD K cl (fun x y H Q => ∃ s n, x = V.str s ∧ y = V.int n ∧ (0 ≤ n ∧ n ≤ 1000 ∧ s.length ≤ 1000) ∧ Q (.str (repS s n)) H) dMulS := .flat fun Hf H x y d e s Q _ es hx hy => by
  unfold dMulS at es
  split at es
  · next z n =>
    split at es
    · next hc => cases es; cases hx; cases hy.int; exact ⟨_, _, rfl, fun _ => .str _, fun q => ⟨z, n, rfl, rfl, hc, q⟩⟩
    · cases es
  · cases es
theorem de_mulS {X : Cx} {cl : ClA} {W : WX} {a b : Expr} {ma mb : MD} {pos : Pos} (ha : DD X cl W a ma) (hb : DR X cl W b mb) : DE X cl W (.BinOp a .Mult b pos) (mBin dMulS ma mb) := de_bin op_mulS opD_mulS ha hb
/-! ## sorted(set(..)) of texts -/
def dedS : List PySem.Str → List PySem.Str
  | [] => []
  | x :: r => if x ∈ r then dedS r else x :: dedS r
def dSortSet (d : D) : Option Sv := match d with
  | .lst ds => (strsOf ds).bind fun xs => if xs.length < 60 then some (.cel .own (.lst ((sortS (dedS xs)).map D.str))) else none
  | _ => none
end DL
end

section
set_option Elab.async false
set_option linter.all false
set_option maxRecDepth 100000
set_option maxHeartbeats 2000000
/-! sets of texts: made of a list, sorted -/
namespace TS
open PySem PySem.Spec PyProof.Rows L2
def tKey (e : Int × Value) : Str := match e.2 with
  | .str k _ => k
  | _ => Str.empty
def TGood (w : World) (e : Int × Value) : Prop := ∃ k tk, e.2 = Value.str k tk ∧ e.1 = hashStr w k
/-- what holds of the pieces of a set of texts -/
structure TIn (w : World) (es : Array (Int × Value)) (t : SetTable) (S : Str → Bool) (n : Nat) : Prop where
  good : ∀ e ∈ es.toList, TGood w e
  nd : (es.toList.map tKey).Nodup
  mem : ∀ k, S k = true ↔ k ∈ es.toList.map tKey
  few : es.size < scanBound
  fit : t.fits es.size = true
  sz : es.size = n
  ris : Ris t.place.toList
  led : w.params.followText "set-order" = true ∨ t.led = true
def TSet (w : World) (h : Heap) (a : Addr) (S : Str → Bool) (n : Nat) : Prop :=
  ∃ o es ep t, h.get? a = some o ∧ o.ExactSet ∧ o.data = .set es ep t ∧ TIn w es t S n
section
variable {P : Program} {w : World} {h h' : Heap} {a : Addr} {S : Str → Bool} {n : Nat}
theorem TSet.at (R : TSet w h a S n) (k : ∀ o, h.get? a = some o → h'.get? a = some o) : TSet w h' a S n := let ⟨o, es, ep, t, ho, r⟩ := R; ⟨o, es, ep, t, k o ho, r⟩
theorem TSet.lt (R : TSet w h a S n) : a < h.objs.size := let ⟨_, _, _, _, ho, _⟩ := R; Heap.lt_size ho
theorem TSet.congr {S' : Str → Bool} (R : TSet w h a S n) (e : ∀ k, S' k = S k) : TSet w h a S' n := by
  rw [show S' = S from funext e]; exact R
theorem tgood_elems {l : List (Int × Value)} (g : ∀ e ∈ l, TGood w e) : ElemsOf (PySem.strKind P w) l := fun e he => by
  obtain ⟨k, tk, h1, h2⟩ := g e he
  exact ⟨⟨k, by rw [h1]; exact strKind_is P w k tk, h2⟩, by rw [h1] <;> rfl⟩
theorem tgood_is {e : Int × Value} (g : TGood w e) (k : Str) : (PySem.strKind P w).is k e.2 = true ↔ tKey e = k := by
  obtain ⟨k0, tk, h1, _⟩ := g
  unfold tKey
  rw [h1]
  constructor
  · intro q
    exact (PySem.strKind P w).inj (.str k0 tk) k0 k (strKind_is P w k0 tk) q
  · rintro rfl
    exact strKind_is P w _ tk
theorem tgood_mem {l : List (Int × Value)} (g : ∀ e ∈ l, TGood w e) (k : Str) : k ∈ l.map tKey ↔ ∃ e ∈ l, (PySem.strKind P w).is k e.2 = true :=
  List.mem_map.trans ⟨fun ⟨e, he, q⟩ => ⟨e, he, (tgood_is (g e he) k).2 q⟩, fun ⟨e, he, q⟩ => ⟨e, he, (tgood_is (g e he) k).1 q⟩⟩
end
section
variable {P : Program} {w : World} {A : Around} {E : Value → Shared → Prop} {s : Shared} {a : Addr} {S : Str → Bool} {n : Nat}
theorem tset_tail {g : Bool → Sem Unit} (hg : ∀ (b : Bool) (s₁ : Shared) (Q' : Unit → Shared → Prop), Q' () s₁ → wpAny (model P w) A (g b) Q' E s₁)
    {o : Obj} {es : Array (Int × Value)} {ep : Nat} {t : SetTable} (ho : s.heap.get? a = some o) (hex : o.ExactSet) (hd : o.data = .set es ep t)
    {es1 : Array (Int × Value)} {t2 : SetTable} {S' : Str → Bool} {n1 : Nat} (T : TIn w es1 t2 S' n1) {wasDummy : Bool} {R : Option Bool → Shared → Prop}
    (hR : ∀ h', Heap.SameBut a s.heap h' → TSet w h' a S' n1 → R (some true) { s with heap := h' }) :
    wpAny (model P w) A (do
        storeSet a es1 t2
        if (!wasDummy && t2.tooFull) = true then do
            g (relayAll t2 es1 (SetTable.grown es1.size)).2.2
            storeSet a (relayAll t2 es1 (SetTable.grown es1.size)).1 (relayAll t2 es1 (SetTable.grown es1.size)).2.1
            pure (some true)
          else pure (some true)) R E s := by
  refine wpAny_bind (wpAny_storeSet_of ho hd ?_ (fits_of_scanBound T.few))
  have at1 := store_at (es' := es1) (t' := t2) ho hd
  have but1 := Heap.SameBut.update s.heap a (Obj.putSet es1 t2)
  by_cases c : (!wasDummy && t2.tooFull) = true
  · rw [if_pos c]
    have pm := relayAll_perm t2 es1 (SetTable.grown es1.size)
    have z1 := relayAll_fits t2 es1 (SetTable.grown es1.size)
    have z2 := relayAll_ris t2 es1 (SetTable.grown es1.size)
    have z3 := relayAll_led t2 es1 (SetTable.grown es1.size)
    generalize relayAll t2 es1 (SetTable.grown es1.size) = Z at pm z1 z2 z3 ⊢
    obtain ⟨es2, t3, gave⟩ := Z
    dsimp only at pm z1 z2 z3 ⊢
    have same : es2.size = es1.size := by rw [← Array.length_toList, pm.length_eq, Array.length_toList]
    have T2 : TIn w es2 t3 S' n1 := ⟨fun e he => T.good e (pm.mem_iff.mp he), (pm.map tKey).nodup_iff.mpr T.nd, fun k => (T.mem k).trans (pm.map tKey).mem_iff.symm, same ▸ T.few, z1, same.trans T.sz, z2, T.led.imp id fun z => by rw [z3]; exact z⟩
    refine wpAny_bind (hg _ _ _ ?_)
    refine wpAny_bind (wpAny_storeSet_of at1 rfl ?_ (fits_of_scanBound T2.few))
    exact wpAny_pure (hR _ (but1.trans (Heap.SameBut.update _ a _)) ⟨_, es2, _, t3, store_at (es' := es2) (t' := t3) at1 rfl, hex, rfl, T2⟩)
  · rw [if_neg c]
    exact wpAny_pure (hR _ but1 ⟨_, es1, _, t2, at1, hex, rfl, T⟩)
theorem tset_add {k : Str} {tk : Tok} {Q : Bool → Shared → Prop} (R : TSet w s.heap a S n) (room : n + 1 < scanBound)
    (hQ : ∀ h', Heap.SameBut a s.heap h' → TSet w h' a (fun j => S j || decide (j = k)) (if S k = true then n else n + 1) → Q (!S k) { s with heap := h' }) :
    wpAny (model P w) A (setAddHashed a (.str k tk) (hashStr w k)) Q E s := by
  obtain ⟨o, es, ep, t, ho, hex, hd, T⟩ := R
  have isk : (PySem.strKind P w).is k (.str k tk) = true := strKind_is P w k tk
  have sc : (Value.str k tk).scannable = true := rfl
  have el : ElemsOf (PySem.strKind P w) es.toList := tgood_elems T.good
  unfold setAddHashed setAddHashedIn
  refine wpAny_holding (wpAny_bind (wpAny_setState_of ho hd T.fit ?_))
  dsimp only
  rw [byScan_of sc T.few el]
  simp only [↓reduceIte]
  unfold setAddByScan
  refine wpAny_bind ?_
  refine wpAny_bind (wpAny_rule ?_)
  refine wpAny_bind (wpAny_setScan_of (knd := PySem.strKind P w) (k := k) isk ho hd T.fit el ?_)
  cases fi : List.findIdx? (fun e => (PySem.strKind P w).is k e.2) es.toList with
  | some j =>
    dsimp only
    obtain ⟨lj, pj, _⟩ := List.findIdx?_eq_some_iff_getElem.mp fi
    have yes : S k = true := (T.mem k).2 ((tgood_mem (P := P) T.good k).2 ⟨es.toList[j], List.getElem_mem lj, pj⟩)
    refine wpAny_pure (wpAny_pure ?_)
    have T2 : TIn w es t (fun j => S j || decide (j = k)) (if S k = true then n else n + 1) := { T with
      mem := fun i => by
        rw [Bool.or_eq_true, decide_eq_true_eq, ← T.mem i]
        exact ⟨fun z => z.elim id fun e => e ▸ yes, .inl⟩
      sz := by rw [if_pos yes]; exact T.sz }
    have q := hQ s.heap (Heap.SameBut.refl a s.heap) ⟨o, es, ep, t, ho, hex, hd, T2⟩
    rw [yes] at q
    exact q
  | none =>
    dsimp only
    have nk : k ∉ es.toList.map tKey := fun z => by
      obtain ⟨e, he, q⟩ := (tgood_mem (P := P) T.good k).1 z
      have c := List.findIdx?_eq_none_iff.mp fi e he
      rw [q] at c
      cases c
    have no : S k = false := by
      cases q : S k with
      | false => rfl
      | true => exact absurd ((T.mem k).1 q) nk
    have gw : ∀ (b : Bool) {s₁ : Shared} {Q' : Unit → Shared → Prop}, Q' () s₁ → wpAny (model P w) A (match b with | true => rule "set.scan.the-table-gave-way" | false => pure ()) Q' E s₁ :=
      fun b s₁ Q' q => by cases b <;> first | exact wpAny_pure q | exact wpAny_rule q
    have pm := layNew_perm t es (hashStr w k) (.str k tk)
    have f1 := layNew_fits t es (hashStr w k) (.str k tk)
    have r1 := layNew_ris t es (hashStr w k) (.str k tk) T.ris
    have l1 := layNew_led t es (hashStr w k) (.str k tk)
    generalize layNew t es (hashStr w k) (.str k tk) = Z at pm f1 r1 l1 ⊢
    obtain ⟨es1, t1, wasDummy, gave⟩ := Z
    dsimp only at pm f1 r1 l1 ⊢
    rw [Array.toList_push] at pm
    have pc : es1.toList.Perm ((hashStr w k, Value.str k tk) :: es.toList) := pm.trans (List.perm_append_singleton _ _)
    have pk : (es1.toList.map tKey).Perm (k :: es.toList.map tKey) := pc.map tKey
    have sz1 : es1.size = n + 1 := by rw [← Array.length_toList, pc.length_eq, List.length_cons, Array.length_toList, T.sz]
    have mk : ∀ t' : SetTable, t'.fits es1.size = true → Ris t'.place.toList → t'.led = t1.led → TIn w es1 t' (fun j => S j || decide (j = k)) (n + 1) := fun t' h1 h2 h3 =>
      ⟨fun e he => by
        rcases List.mem_cons.mp (pc.mem_iff.mp he) with z | z
        · rw [z]; exact ⟨k, tk, rfl, rfl⟩
        · exact T.good e z,
      pk.nodup_iff.mpr (List.nodup_cons.mpr ⟨nk, T.nd⟩), fun i => by
        rw [Bool.or_eq_true, decide_eq_true_eq, T.mem i, pk.mem_iff, List.mem_cons]
        exact Or.comm,
      by rw [sz1]; exact room, h1, sz1, h2, T.led.imp id fun z => by rw [h3, l1]; exact z⟩
    have fin : ∀ h', Heap.SameBut a s.heap h' → TSet w h' a (fun j => S j || decide (j = k)) (n + 1) → Q true { s with heap := h' } := fun h' sb r => by
      have q := hQ h' sb
      rw [no] at q
      exact q r
    refine wpAny_bind (gw _ ?_)
    by_cases pl : t1.plain = true
    · rw [if_pos pl]
      refine wpAny_bind ?_
      rw [hashByValue_scannable 8 sc]
      refine wpAny_pure ?_
      refine tset_tail ?_ ho hex hd (mk _ ?_ ?_ ?_) ?_
      · intro b s₁ Q' q; cases b <;> first | exact wpAny_pure q | exact wpAny_rule q
      · first | (split <;> first | exact f1 | exact SetTable.fits_plain_off f1) | exact f1
      · first | (split <;> exact r1) | exact r1
      · first | (split <;> rfl) | rfl
      · intro h' sb r; dsimp only; exact wpAny_pure (fin h' sb r)
    · rw [if_neg pl]
      refine wpAny_bind (wpAny_pure ?_)
      simp only [↓reduceIte]
      refine tset_tail ?_ ho hex hd (mk _ f1 r1 rfl) ?_
      · intro b s₁ Q' q; cases b <;> first | exact wpAny_pure q | exact wpAny_rule q
      · intro h' sb r; dsimp only; exact wpAny_pure (fin h' sb r)
theorem tset_new {h : Heap} (ho : h.get? a = some { cls := .type "set", dict := none, data := .set #[] 0 (.fresh 0 0 (!w.params.followText "set-order")) }) : TSet w h a (fun _ => false) 0 :=
  ⟨_, #[], 0, _, ho, ⟨rfl, rfl, rfl⟩, rfl, fun e he => by simp at he, by simp, fun k => by simp, by unfold scanBound; decide, rfl, rfl, by show List.Pairwise _ _; exact List.Pairwise.nil, by
    cases q : w.params.followText "set-order"
    · right; rfl
    · exact .inl rfl⟩
theorem strs_get : ∀ {us : List Value} {xs : List Str}, StrsAre us xs → ∀ (i : Nat) (v : Value), us[i]? = some v → ∃ k t, xs[i]? = some k ∧ v = .str k t
  | _, _, .nil, i, v, h => by simp at h
  | _, _, .cons n t hr, 0, v, h => by simp at h; exact ⟨n, t, rfl, by rw [← h] <;> rfl⟩
  | _, _, .cons n t hr, i + 1, v, h => by
    simp only [List.getElem?_cons_succ] at h ⊢
    exact strs_get hr i v h
theorem tset_walk {I : Addr} {fp wr : List Addr} {G : Array GenState → Array GenState → Prop} {n : Nat} {Pv : Nat → Value → Prop} {St : Nat → Shared → Prop} {R : Result → Shared → Prop}
    (W : WalksS P w A.in1 I fp wr G n Pv St) (a : Addr) (nf : a ∉ fp) (xs : List Str) (hn : n = xs.length) (few : xs.length + 1 < scanBound) (at_ : ∀ i v, Pv i v → ∃ k t, xs[i]? = some k ∧ v = .str k t) :
    ∀ (k i : Nat) (s : Shared), n - i = k → i ≤ n → St i s → (∃ c, c ≤ i ∧ TSet w s.heap a (fun j => decide (j ∈ xs.take i)) c) →
      (∀ s' c, Moved (a :: wr) G s s' → c ≤ n → TSet w s'.heap a (fun j => decide (j ∈ xs)) c → R (.ok (.ret .none)) s') →
      codeAny (model P w) A (.builtin "set.update.loop" ⟨[.ref a, .ref I], []⟩) R s := by
  have nw : a ∉ wr := fun h => nf (W.sub _ h)
  have sub : ∀ b ∈ wr, b ∈ a :: wr := fun b hb => List.mem_cons_of_mem _ hb
  intro k
  induction k with
  | zero =>
    intro i s ek li st ⟨c, lc, T⟩ fin
    obtain rfl : i = n := by omega
    refine codeAny_builtin F.entry_set_update_loop ?_
    rw [Around.under_plainId F.plain_set_update_loop _]
    show wpAny _ A.in1 (pyNext (.ref I) >>= _) _ _ s
    refine wpAny_bind (W.done s _ _ st fun s' mv => ?_)
    show wpAny _ A.in1 (ret Value.none) _ _ s'
    rw [show xs.take i = xs from List.take_of_length_le (by omega)] at T
    exact wpAny_pure (fin s' c (mv.mono sub) lc (T.at fun o e => mv.heap a o nw e))
  | succ k ih =>
    intro i s ek li st ⟨c, lc, T⟩ fin
    have lt : i < n := by omega
    refine codeAny_builtin F.entry_set_update_loop ?_
    rw [Around.under_plainId F.plain_set_update_loop _]
    show wpAny _ A.in1 (pyNext (.ref I) >>= _) _ _ s
    refine wpAny_bind (W.item i s _ _ lt st fun v s' pv st' mv => ?_)
    obtain ⟨z, t, ez, rfl⟩ := at_ i v pv
    have T' : TSet w s'.heap a (fun j => decide (j ∈ xs.take i)) c := T.at fun o e => mv.heap a o nw e
    show wpAny _ A.in1 (holding [Value.str z t] (setAdd a (.str z t)) >>= _) _ _ s'
    refine wpAny_bind (wpAny_holding ?_)
    unfold setAdd
    refine wpAny_holding ?_
    refine wpAny_bind ((PySem.strKind P w).pyHash (k := z) (strKind_is _ _ _ _) ?_)
    refine tset_add (s := { s' with toks := s'.toks + 1 }) T' (by omega) fun h' sb T2 => ?_
    have T3 : TSet w h' a (fun j => decide (j ∈ xs.take (i + 1))) (if decide (z ∈ xs.take i) = true then c else c + 1) := T2.congr fun j => by
      rw [List.take_add_one, ez]
      simp [List.mem_append]
    have lc3 : (if decide (z ∈ xs.take i) = true then c else c + 1) ≤ i + 1 := by
      split <;> omega
    refine wpAny_pure ⟨plainId_quiet F.plain_set_update_loop _, ih (i + 1) _ (by omega) lt (W.frame _ s' _ _ st' (Nat.le_succ _) fun b hb o e => ?_) ⟨_, lc3, T3⟩ fun s'' c2 mv2 lc2 T4 => ?_⟩
    · rw [sb.2 b (fun h : b = a => nf (by rw [← h]; exact hb))]; exact e
    · refine fin s'' c2 (Moved.trans W.gtrans ((mv.mono sub).then_heap (Nat.le_succ _) fun b o hb e => ?_) mv2) lc2 T4
      rw [sb.2 b (fun h : b = a => hb (by rw [h]; exact List.mem_cons_self))]; exact e
set_option maxHeartbeats 3200000 in
/-- set(a list of texts) -/
theorem call_tset {l : Addr} {items : Array Value} {xs : List Str} {Q : Value → Shared → Prop} (hh : A.handled = none) (hl : s.heap.IsList l items) (hit : StrsAre items.toList xs) (few : xs.length + 1 < scanBound)
    (hQ : ∀ (h' : Heap) (tk c : Nat), TSet w h' s.heap.objs.size (fun j => decide (j ∈ xs)) c → c ≤ xs.length → (∀ b o, s.heap.get? b = some o → h'.get? b = some o) → Q (.ref s.heap.objs.size) { s with heap := h', toks := tk }) :
    wpAny (model P w) A (call (.type "set") [.ref l]) Q E s := by
  have isz : items.size = xs.length := by
    have q := StrsAre.len_eq hit
    rw [Array.length_toList] at q
    exact q
  obtain ⟨c, tl, hmro⟩ := PySem.F.called_set.mro
  have hmade := PySem.F.called_set.made
  have hsub := PySem.F.called_set.sub
  refine wpAny_call (codeAny_of_tree ?_)
  show wpAny _ _ (callAny (.type "set") _) _ _ _
  refine wpAny_pure ⟨Code.quiet_builtin _ (by decide +kernel), codeAny_builtin PySem.F.entry_type_call ?_⟩
  rw [Around.under_plain (weight_type_call_type "set" [.ref l] []) rfl]
  have h1 := PySem.F.called_set.notType
  have h2 := PySem.F.called_set.canCreate
  have hct := PySem.F.typeCall_set_1 (.ref l)
  repeat (any_goals (first | assumption | wp_step))

  refine codeAny_mono (L2.code_set_led1 (.ref l) (E := E) (Q₁ := fun obj s₁ => obj = .ref s.heap.objs.size ∧ s₁ = { s with heap := s.heap.push { cls := .type "set", dict := none, data := .set #[] 0 (.fresh 0 0 (!w.params.followText "set-order")) } }) ⟨rfl, rfl⟩) fun r s₁ hr => ?_
  cases r with
  | error e => exact hr
  | ok fl =>
    cases fl with
    | ret obj =>
      obtain ⟨rfl, rfl⟩ := hr
      have new : (s.heap.push { cls := .type "set", dict := none, data := .set #[] 0 (.fresh 0 0 (!w.params.followText "set-order")) }).get? s.heap.objs.size = some { cls := .type "set", dict := none, data := .set #[] 0 (.fresh 0 0 (!w.params.followText "set-order")) } := Heap.get?_push_size _ rfl
      have hT : Shared.TypeIs { s with heap := s.heap.push { cls := .type "set", dict := none, data := .set #[] 0 (.fresh 0 0 (!w.params.followText "set-order")) } } (.ref s.heap.objs.size) "set" := ⟨_, new, rfl⟩
      have hli := PySem.F.called_set.init.lookup
      have hbi := PySem.F.called_set.init.bind (.ref s.heap.objs.size)
      repeat (any_goals (first | assumption | wp_step))

      refine codeAny_mono (codeAny_call_builtin (R := wants (fun r s₂ => r = .none ∧ ∃ h' tk c, s₂ = { s with heap := h', toks := tk } ∧ TSet w h' s.heap.objs.size (fun j => decide (j ∈ xs)) c ∧ c ≤ xs.length ∧
          (∀ b o, s.heap.get? b = some o → h'.get? b = some o)) E) PySem.F.called_set.init.plain PySem.F.entry_set_init (check_set_init_1 hT ?_)) fun r₂ s₂ hr₂ => ?_
      · obtain ⟨ol, hol, hcl, nl, hdl⟩ := hl
        obtain ⟨ocls, odict, odata, oslots⟩ := ol
        simp only at hcl hdl
        subst hcl; subst hdl
        have hol' : (s.heap.push { cls := .type "set", dict := none, data := .set #[] 0 (.fresh 0 0 (!w.params.followText "set-order")) }).get? l = some { cls := .type "list", dict := odict, data := .seq items nl, slots := oslots } := Heap.get?_push_of_some _ hol
        have hsls := PySem.F.sub_list_set
        have hslf := PySem.F.sub_list_frozenset
        have hne : (Value.type "list" == Value.type "dict") = false := by decide
        have isl : (s.heap.push { cls := .type "set", dict := none, data := .set #[] 0 (.fresh 0 0 (!w.params.followText "set-order")) }).IsList l items := ⟨_, hol', rfl, nl, rfl⟩
        unfold Builtin.«set.__init__» noKeywords Builtin.Frozenset.updateFrom
        generalize hPI : pyIter = PI
        wp_walk
        subst hPI

        refine wpAny_pyIter_list isl ?_
        refine wpAny_bind (wpAny_runValue ?_)
        have old : l < s.heap.objs.size := Heap.lt_size hol
        have hh3 : A.in1.in1.in1.handled = none := by simp [hh]
        have neI : l ≠ (s.heap.push { cls := .type "set", dict := none, data := .set #[] 0 (.fresh 0 0 (!w.params.followText "set-order")) }).objs.size := by
          rw [Heap.size_push]; exact Nat.ne_of_lt (Nat.lt_succ_of_lt old)
        have nf : s.heap.objs.size ∉ [(s.heap.push { cls := .type "set", dict := none, data := .set #[] 0 (.fresh 0 0 (!w.params.followText "set-order")) }).objs.size, l] := by
          rw [Heap.size_push]; simp only [List.mem_cons, List.mem_singleton, List.not_mem_nil, or_false, not_or]
          exact ⟨Nat.ne_of_lt (Nat.lt_succ_self _), Nat.ne_of_gt old⟩
        have at_ : ∀ (i : Nat) (v : Value), items[i]? = some v → ∃ k t, xs[i]? = some k ∧ v = .str k t := fun i v hv => strs_get hit i v (by rw [Array.getElem?_toList]; exact hv)
        refine tset_walk ((Walks.list hh3 _ l neI items).toS) s.heap.objs.size
          nf xs isz few at_ (items.size - 0) 0 _ (by omega) (Nat.zero_le _)
          ⟨⟨_, Heap.get?_push_size _ rfl, rfl, rfl⟩, (isl.push _)⟩ ?first ?last
        case first =>
          have g : ((s.heap.push { cls := .type "set", dict := none, data := .set #[] 0 (.fresh 0 0 (!w.params.followText "set-order")) }).push { cls := .type "list_iterator", data := .fields #[.ref l, .int 0 0] }).get? s.heap.objs.size
              = some { cls := .type "set", dict := none, data := .set #[] 0 (.fresh 0 0 (!w.params.followText "set-order")) } := Heap.get?_push_of_some _ new
          exact ⟨0, Nat.le_refl 0, tset_new g⟩
        case last =>
          intro s' c' mv lc' T'
          obtain ⟨h', g2, d', tk', os'⟩ := s'
          have eg : g2 = s.gens := mv.gens
          have ed : d' = s.drawn := mv.drawn
          have eo : os' = s.os := mv.os
          subst eg; subst ed; subst eo
          show wpAny _ _ _ _ _ _
          refine wpAny_pure ?_
          show wpAny _ _ (ret Value.none) _ _ _
          rw [isz] at lc'
          refine wpAny_pure ⟨rfl, h', tk', c', rfl, T', lc', fun b o e => ?_⟩
          have b0 : b < s.heap.objs.size := Heap.lt_size e
          have b1 : b ≠ s.heap.objs.size := Nat.ne_of_lt b0
          have b2 : b ≠ (s.heap.push { cls := .type "set", dict := none, data := .set #[] 0 (.fresh 0 0 (!w.params.followText "set-order")) }).objs.size := by
            rw [Heap.size_push]; exact Nat.ne_of_lt (Nat.lt_succ_of_lt b0)
          exact mv.heap b o (by simp only [List.mem_cons, List.mem_singleton, List.not_mem_nil, or_false, not_or]; exact ⟨b1, b2⟩) (Heap.get?_push_of_some _ (Heap.get?_push_of_some _ e))

      · cases r₂ with
        | error e => exact hr₂
        | ok fl₂ =>
          cases fl₂ with
          | ret r =>
            obtain ⟨rfl, h', tk, c', rfl, T', lc', k'⟩ := hr₂
            repeat (any_goals (first | assumption | wp_step))
            exact hQ _ _ _ T' lc' k'
          | _ => exact hr₂.elim
    | _ => exact hr.elim
def tStr (v : Value) : Str := match v with
  | .str k _ => k
  | _ => Str.empty
theorem strs_of : ∀ (l : List Value), (∀ v ∈ l, ∃ k tk, v = Value.str k tk) → StrsAre l (l.map tStr)
  | [], _ => .nil
  | v :: l, h => by
    obtain ⟨k, tk, rfl⟩ := h v List.mem_cons_self
    exact .cons k tk (strs_of l fun u hu => h u (List.mem_cons_of_mem _ hu))
theorem key_tStr (e : Int × Value) : tKey e = tStr e.2 := by
  unfold tKey tStr
  cases e.2 <;> rfl
theorem sorted_tset (R : TSet w s.heap a S n) (hh : A.handled = none) (h64 : n < 64) {Q : Value → Shared → Prop}
    (hQ : ∀ s' p (out : Array Value) (c : Nat) (ys : List Str), (∀ b o, s.heap.get? b = some o → s'.heap.get? b = some o) → s'.gens = s.gens → s'.os = s.os → s.heap.objs.size ≤ p →
      s'.heap.get? p = some (seqObj "list" out c) → StrsAre out.toList ys → sortedS ys = true → ys.Nodup → (∀ k, k ∈ ys ↔ S k = true) → ys.length = n → Q (.ref p) s') :
    wpAny (model P w) A (call (.builtin "sorted") [.ref a]) Q E s := by
  obtain ⟨o, es, ep, t, ho, hex, hd, T⟩ := R
  refine Calls.call_function_entry kind_sorted plain_sorted entry_sorted (args_sorted1 _) ?_
  unfold Builtin.«sorted»
  refine wpAny_bind (m := checkCount "sorted" 1 1 _) (wpAny_pure ?_)
  refine wpAny_bind (collect_set (A := A.in1) hh ⟨o, ho, hex.1, hd⟩ T.fit T.few T.ris T.led fun s1 vs k1 z1 g1 o1 pm => ?_)
  have lv : vs.length = n := by rw [pm.length_eq, List.length_map, Array.length_toList]; exact T.sz
  have sv : StrsAre vs (vs.map tStr) := strs_of vs fun v hv => by
    obtain ⟨e, he, q⟩ := List.mem_map.mp (pm.mem_iff.mp hv)
    obtain ⟨k, tk, h1, _⟩ := T.good e he
    exact ⟨k, tk, by rw [← q]; exact h1⟩
  have pk : (vs.map tStr).Perm (es.toList.map tKey) := by
    have q := pm.map tStr
    rw [List.map_map] at q
    rw [show es.toList.map tKey = es.toList.map (tStr ∘ (·.2)) from List.map_congr_left fun e _ => key_tStr e]
    exact q
  refine wpAny_bind (wpAny_newList ?_ (by rw [lv, sizeLine_eq]; omega))
  have obL : (s1.heap.push (seqObj "list" vs.toArray 0)).get? s1.heap.objs.size = some (seqObj "list" vs.toArray 0) := Heap.get?_push_size _ rfl
  refine wpAny_bind (wpAny_holding (wpAny_call_entry slot_list_sort ⟨_, obL, rfl⟩ entry_list_sort (list_sort_treeK strKind_oneLt obL sv.keysOf (fun v₁ v₂ rest e => keyKind_strs (by rw [← e]; exact sv)) (by rw [lv]; exact h64) fun st' a1 a2 => ⟨_, rfl, ?_⟩) (args_list_sort _)))
  obtain ⟨ys, b1, b2, b3⟩ := sorted_out_str sv a1 a2
  obtain ⟨c, hc⟩ := sortedHeap_at (vs := vs) (out := (arrOf st').map (·.2)) obL
  have pn : ys.Perm (es.toList.map tKey) := b2.trans pk
  refine wpAny_pure ⟨_, rfl, hQ _ s1.heap.objs.size _ c ys (fun b u e => ?_) g1 o1 z1 hc b1 b3 (pn.nodup_iff.mpr T.nd) (fun k => by rw [pn.mem_iff, ← T.mem k]) ?_⟩
  · have q := k1 b u e
    have lt := Heap.lt_size q
    show (sortedHeap (s1.heap.push (seqObj "list" vs.toArray 0)) s1.heap.objs.size vs _).get? b = some u
    rw [sortedHeap_old (Nat.ne_of_lt lt) (by rw [size_push']; exact Nat.lt_succ_of_lt lt)]
    exact Heap.get?_push_of_some _ q
  · rw [pn.length_eq, List.length_map, Array.length_toList]; exact T.sz
end
end TS
end

section
set_option Elab.async false
set_option linter.all false
set_option maxRecDepth 100000
set_option maxHeartbeats 2000000
namespace DL
open PySem PySem.Spec PyProof.Rows L2
/-! ## sorted(set(texts)) -/
def SetT (w : World) (a : Addr) (S : PySem.Str → Bool) (n : Nat) : HO := .ext fun h => TS.TSet w h a S n
def rSetT (K : PySem.W.Frag) (w : World) : List V → Hp → VK → Prop := fun vs H Q => ∃ (l : Addr) (xs : List PySem.Str), vs = [.ref l] ∧ SqL K H l (xs.map V.str) ∧ xs.length < 60 ∧
  ∀ p c, H p = none → c ≤ xs.length → Q (.ref p) (upd H p (SetT w p (fun j => decide (j ∈ xs)) c))
def rSortT (w : World) : List V → Hp → VK → Prop := fun vs H Q => ∃ (a : Addr) (S : PySem.Str → Bool) (n : Nat), vs = [.ref a] ∧ H a = some (SetT w a S n) ∧ n < 64 ∧
  ∀ (ys : List PySem.Str) (p : Addr), sortedS ys = true → ys.Nodup → (∀ k, k ∈ ys ↔ S k = true) → H p = none → Q (.ref p) (upd H p (.lst (ys.map V.str)))
section
variable {X : Cx}
theorem setT_new {w : World} {P : Program} {H : Hp} {h : Heap} {a : Addr} {S : PySem.Str → Bool} {n : Nat} (R : TS.TSet w h a S n) : ObjOk P w H h a (SetT w a S n) := by
  have ⟨o, _, _, _, ho, _⟩ := R
  exact ⟨R, ⟨o, ho⟩, fun h1 h2 p k => TS.TSet.at p k⟩
theorem call_setT (hc : X.calm = true) : CallR X (.type "set") (rSetT X.K X.w) := by
  intro pins s σ H vs us Q I r h
  obtain ⟨l, xs, rfl, hs, few, q⟩ := h
  obtain ⟨its, rv, hl, _⟩ := I.list hs
  rw [Vals.ref1 r]
  refine TS.call_tset (I.ok.hd hc) (show s.heap.IsList l its.toArray from hl.isList) (by show StrsAre its xs; exact rv.strs) (by unfold scanBound; omega) fun h' tk c R1 lc k => ?_
  have hn : H s.heap.objs.size = none := I.hok.fresh (Nat.le_refl _)
  exact ⟨.ref _, upd H s.heap.objs.size (SetT X.w s.heap.objs.size _ c), I.laid (t' := tk) k (Nat.le_refl _) (setT_new R1), rfl, q _ c hn lc⟩
theorem call_sortT (hc : X.calm = true) : CallR X (.builtin "sorted") (rSortT X.w) := by
  intro pins s σ H vs us Q I r h
  obtain ⟨a, S, n, rfl, ha, h64, q⟩ := h
  have R : TS.TSet X.w s.heap a S n := (I.hok a _ ha).1
  rw [Vals.ref1 r]
  refine TS.sorted_tset R (I.ok.hd hc) h64 fun s' p out c ys k g o hp hg hi hs nd hm hl => ?_
  have hlen : (ys.map V.str).length ≤ sizeLine := by rw [List.length_map, hl, sizeLine_eq]; omega
  have hn : H p = none := I.hok.fresh hp
  have J : Inv X pins σ (upd H p (.lst (ys.map V.str))) { s with heap := s'.heap, gens := s'.gens, drawn := s'.drawn, toks := s'.toks } :=
    I.call (ch := []) (Un.laid k hp hn) (I.hok.laid k hp ⟨hlen, out.toList, c, vals_of_strs hi, hg⟩) (by rw [g]; exact I.bare) (fun _ z => nomatch z)
  have e : s' = { s with heap := s'.heap, gens := s'.gens, drawn := s'.drawn, toks := s'.toks } := by
    cases s'
    cases s
    cases o
    rfl
  rw [e]
  exact ⟨.ref p, _, J, rfl, q ys p hs nd hm hn⟩
end
theorem dedS_mem : ∀ (l : List PySem.Str) (k : PySem.Str), k ∈ dedS l ↔ k ∈ l
  | [], k => Iff.rfl
  | x :: r, k => by
    unfold dedS
    by_cases c : x ∈ r
    · rw [if_pos c, dedS_mem r k, List.mem_cons]
      exact ⟨.inr, fun z => z.elim (fun e => e ▸ c) id⟩
    · rw [if_neg c, List.mem_cons, List.mem_cons, dedS_mem r k]
theorem dedS_nodup : ∀ l : List PySem.Str, (dedS l).Nodup
  | [] => List.nodup_nil
  | x :: r => by
    unfold dedS
    by_cases c : x ∈ r
    · rw [if_pos c]; exact dedS_nodup r
    · rw [if_neg c]; exact List.nodup_cons.mpr ⟨fun z => c ((dedS_mem r x).1 z), dedS_nodup r⟩
theorem dedS_len : ∀ l : List PySem.Str, (dedS l).length ≤ l.length
  | [] => Nat.le_refl _
  | x :: r => by
    unfold dedS
    by_cases c : x ∈ r
    · rw [if_pos c]; exact Nat.le_succ_of_le (dedS_len r)
    · rw [if_neg c]; exact Nat.succ_le_succ (dedS_len r)
theorem de_sortSet {X : Cx} {cl : ClA} {W : WX} {e : Expr} {m : MD} {p p2 pos pos2 : Pos} (hg : Gl X "sorted") (hg2 : Gl X "set") (hm : X.mg "sorted" = none) (hm2 : X.mg "set" = none) (he : DR X cl W e m)
    (hc : X.calm = true := by rfl) (hs : starEach [e] X.env = (false, eval e X.env) :: starEach [] X.env := by rfl) : DE X cl W (.Call (.Name "sorted" p) [.Call (.Name "set" p2) [e] [] pos2] [] pos) (mC1 dSortSet m) := by
  obtain ⟨te, pe, we⟩ := he.ex
  refine ⟨tCB (rSortT X.w) (tCons (tCB (rSetT X.K X.w) (tCons te tNil)) tNil), pe_callB (call_sortT hc) hg hm (by decide +kernel) (pa_cons (pe_callTy (call_setT hc) hg2 hm2 (by decide +kernel) (pa_cons pe pa_nil hs) (by decide) (by decide) hs (by rfl)) pa_nil (by rfl)) (by decide) (by decide) (by rfl) (by rfl), ?_⟩
  intro Γ Hf σ H Q w
  refine we Γ Hf σ H _ (w.bind fun d Γ1 e1 x Hf1 H1 st1 p1 => ?_)
  have w1 := w.next e1 st1
  obtain ⟨s, es, k⟩ := w1.opt
  unfold dSortSet at es
  split at es
  · next ds =>
    obtain ⟨xs, ex, es⟩ := Option.bind_eq_some_iff.mp es
    split at es
    · next few =>
      cases es
      obtain ⟨a, vs, rfl, h1, h2⟩ := p1.lst w1.rel.le
      rw [strsOf_eq ex] at h2
      refine ⟨a, xs, rfl, by rw [← h2.of_strs]; exact SqL.of h1, few, fun p c hn lc => ⟨p, _, c, rfl, upd_same, by omega, fun ys p2 so nd mem hn2 => ?_⟩⟩
      have pm : ys.Perm (dedS xs) := (List.perm_ext_iff_of_nodup nd (dedS_nodup xs)).mpr fun a => by rw [mem a, dedS_mem, decide_eq_true_eq]
      rw [sortS_of pm so]
      have g := w1.rel.grown (o := SetT X.w p (fun j => decide (j ∈ xs)) c) hn
      obtain ⟨st, t⟩ := g.rel.newCell (o := .lst ((sortS (dedS xs)).map V.str)) hn2 (.lst upd_same DenL.strs)
      exact k _ _ _ (g.trans st) (TmpOk.back g t)
    · cases es
  · cases es
end DL
end

section
set_option Elab.async false
set_option linter.all false
set_option maxRecDepth 100000
set_option maxHeartbeats 2000000
namespace DL
open PySem PySem.Spec PyProof.Rows L2

/-! ## comparisons as tests -/
section
variable {X : Cx} {cl : ClA} {W : WX} {a b : Expr} {pos : Pos} {ma mb : MD}
theorem wt_test {K : PySem.W.Frag} {te : TE} {m : MD} (w : WR K cl te W m) : WT K cl (tTest te) W (mBl m) := fun Γ Hf σ H Q wt => w Γ Hf σ H _ (wt.bind fun d Γ1 e1 v Hf1 H1 st p1 => by
  have w1 := wt.next e1 st
  cases d with
  | bl k => cases p1.bl; exact ⟨k, rfl, w1.ok k Γ1 rfl Hf1 H1 (.refl st.rel)⟩
  | _ => exact absurd rfl w1.nb)
theorem dt_cmp {op : CmpOp} {r : R2} {f : D → D → Option Sv} (ho : OpR X (compareOp op) r) (hr : OpD X.K cl r f) (ha : DD X cl W a ma) (hb : DR X cl W b mb) (hm : behindInMarks op b = false) : DT X cl W (.Compare a [op] [b] pos) (mBl (DL.toD (mBin f ma mb))) := by
  obtain ⟨ta, pa, wa⟩ := ha.ex
  obtain ⟨tb, pb, wb⟩ := hb.ex
  exact ⟨_, pt_cmpR ho pa pb hm, wt_test (we_op hr wa wb).toD.toR⟩
theorem dt_eq (sy : Sys X.K) (hu : X.A.units + 64 < cLine) (ha : DD X cl W a ma) (hb : DR X cl W b mb) : DT X cl W (.Compare a [.Eq] [b] pos) (mBl (DL.toD (mBin dEq ma mb))) := dt_cmp (op_eqW sy hu) opD_eqW ha hb (nomark b)
theorem dt_ne (sy : Sys X.K) (hu : X.A.units + 64 < cLine) (ha : DD X cl W a ma) (hb : DR X cl W b mb) : DT X cl W (.Compare a [.NotEq] [b] pos) (mBl (DL.toD (mBin dNe ma mb))) := dt_cmp (op_neW sy hu) opD_neW ha hb (nomark b)
theorem dt_lt (ha : DD X cl W a ma) (hb : DR X cl W b mb) : DT X cl W (.Compare a [.Lt] [b] pos) (mBl (DL.toD (mBin dLt ma mb))) := dt_cmp (op_lt.or op_lt_str) (opD_intB.or opD_ltS) ha hb (nomark b)
theorem dt_le (ha : DD X cl W a ma) (hb : DR X cl W b mb) : DT X cl W (.Compare a [.LtE] [b] pos) (mBl (DL.toD (mBin dLe ma mb))) := dt_cmp op_le opD_intB ha hb (nomark b)
theorem dt_gt (ha : DD X cl W a ma) (hb : DR X cl W b mb) : DT X cl W (.Compare a [.Gt] [b] pos) (mBl (DL.toD (mBin dGt ma mb))) := dt_cmp op_gt opD_intB ha hb (nomark b)
theorem dt_ge (ha : DD X cl W a ma) (hb : DR X cl W b mb) : DT X cl W (.Compare a [.GtE] [b] pos) (mBl (DL.toD (mBin dGe ma mb))) := dt_cmp op_ge opD_intB ha hb (nomark b)
theorem dt_in (hu : X.A.units + 1 < cLine) (ha : DD X cl W a ma) (hb : DR X cl W b mb) (hm : behindInMarks .In b = false := by rfl) : DT X cl W (.Compare a [.In] [b] pos) (mBl (DL.toD (mBin dIn ma mb))) := dt_cmp (op_inW hu) (opD_inW (neg := false)) ha hb hm
theorem dt_notIn (hu : X.A.units + 1 < cLine) (ha : DD X cl W a ma) (hb : DR X cl W b mb) (hm : behindInMarks .NotIn b = false := by rfl) : DT X cl W (.Compare a [.NotIn] [b] pos) (mBl (DL.toD (mBin dNotIn ma mb))) := dt_cmp (op_notInW hu) (opD_inW (neg := true)) ha hb hm
theorem dt_leLe {c : Expr} {mc : MD} (ha : DD X cl W a ma) (hb : DD X cl W b mb) (hc : DR X cl W c mc) (hm : lastMarks [.LtE, .LtE] [b, c] = false := by with_unfolding_all rfl) : DT X cl W (.Compare a [.LtE, .LtE] [b, c] pos) (mBl (DL.toD (mChain dLe dLe ma mb mc))) := by
  obtain ⟨ta, pa, wa⟩ := id ha.ex
  obtain ⟨tb, pb, wb⟩ := id hb.ex
  obtain ⟨tc, pc, wc⟩ := id hc.ex
  refine ⟨_, pt_chain op_le op_le pa pb pc hm, wt_test (WD.toR (WE.toD ?_))⟩
  exact we_chain wa wb wc
end
theorem FnG.bad {P : Program} {w : World} {K : PySem.W.Frag} {cl : ClA} {mg : PySem.Str → Option Value} {base : Heap} {k : Nat} {f : Addr} {fd : FuncData} {ps : List PySem.Str} : FnG P w K cl mg base k f fd ps (fun _ => .bad) := ⟨fun A fr s H as us vs Γ Hf Q E _ _ _ _ _ _ w => (w.nb rfl).elim⟩
theorem FunD.kwAll {K : PySem.W.Frag} {x qual : PySem.Str} {params : Arguments} {body : List Stmt} {scope : Scope} {kws : List (PySem.Str × V)} {f : Addr} {fd : FuncData} {ps ks : List PySem.Str} {g : {α : Type} → List α → List α} (F : FunD K x qual params body scope [] kws f fd)
    (h : ∀ (kV doc pm : Value) (an : Option Addr) (cdv ct : Value) (ws : List Value), ws.length = ps.length → bindArgs (PySem.W.fnOf x qual params body scope .none kV doc pm an cdv ct) ⟨[], ks.zip ws⟩ = pure (ps.zip (g ws))) (s : Shared) (ws : List Value) (_ : K.In s.heap) (hl : ws.length = ps.length) : BindsTo s fd ⟨[], ks.zip ws⟩ (ps.zip (g ws)) := by
  obtain ⟨oc, od, dV, kV, doc, pm, an, cdv, ct, osl, rfl, _, _, hD, _⟩ := F.ex
  rcases hD with ⟨_, rfl⟩ | ⟨e, _⟩
  · exact .of_eq (h kV doc pm an cdv ct ws hl)
  · exact absurd rfl e
end DL
end

section
set_option Elab.async false
set_option linter.all false
set_option maxRecDepth 100000
set_option maxHeartbeats 2000000
namespace DL
open PySem PySem.Spec PyProof.Rows L2
/-! ## a test by cells that are lent: they stand as data meanwhile, and are cells again behind it -/
def lendS : Option Sv → Option Sv
  | some (.cel _ d) => some (.dat d)
  | s => s
def frzE (Γ : SE) : SE := Γ.map lendS
def mLendT (m : MT) : MT := fun Γ => match m (frzE Γ) with
  | .ok b _ => .ok b Γ
  | _ => .bad
section
variable {K : PySem.W.Frag} {cl : ClA} {Γ : SE} {Hf H H' : Hp} {σ : L2.St}
theorem frzE_get {i : Nat} {s : Sv} (h : (frzE Γ)[i]? = some (some s)) : (∃ d, s = .dat d ∧ Γ[i]? = some (some (.dat d))) ∨ ∃ k d, s = .dat d ∧ Γ[i]? = some (some (.cel k d)) := by
  unfold frzE at h
  rw [List.getElem?_map] at h
  cases q : Γ[i]? with
  | none => rw [q] at h; cases h
  | some o =>
    rw [q] at h
    cases o with
    | none => cases h
    | some s' =>
      cases s' with
      | dat d => cases h; exact .inl ⟨d, rfl, rfl⟩
      | cel k d => cases h; exact .inr ⟨k, d, rfl, rfl⟩
open Classical in
/-- what is frozen, and the cells -/
noncomputable def lendH (Γ : SE) (σ : L2.St) (Hf H : Hp) : Hp := fun b => if IsCel Γ σ b then H b else Hf b
theorem Rel.cell (r : Rel K cl Γ Hf σ H) {p : Addr} (h : IsCel Γ σ p) : Hf p = none := by
  obtain ⟨i, k, d, h1, h2⟩ := h
  obtain ⟨v, e, p', rfl, n, _⟩ := r.at_ i _ h1
  rw [h2] at e; cases e
  exact n
theorem lend_le (r : Rel K cl Γ Hf σ H) : Le Hf (lendH Γ σ Hf H) := .of_same fun a u e => by
  unfold lendH
  rw [if_neg fun h => by rw [r.cell h] at e; cases e]
  exact e
theorem Rel.lend (r : Rel K cl Γ Hf σ H) : Rel K cl (frzE Γ) (lendH Γ σ Hf H) σ H := by
  refine ⟨fun b u e => ?_, by unfold frzE; rw [List.length_map]; exact r.len, fun i s hs => ?_, fun i j k k' d d' v h1 => ?_⟩
  · unfold lendH at e
    split at e
    · exact .inl e
    · exact r.le b u e
  · rcases frzE_get hs with ⟨d, rfl, h⟩ | ⟨k, d, rfl, h⟩
    · obtain ⟨v, e, q⟩ := r.at_ i _ h
      exact ⟨v, e, Den.mono (lend_le r) q⟩
    · obtain ⟨v, e, p, rfl, n, c⟩ := r.at_ i _ h
      have hc : IsCel Γ σ p := ⟨i, k, d, h, e⟩
      have he : lendH Γ σ Hf H p = H p := by unfold lendH; rw [if_pos hc]
      refine ⟨_, e, ?_⟩
      cases c with
      | lst h1 h2 => exact .lst (by rw [he]; exact h1) (DenL.mono (lend_le r) h2)
      | dic h1 h2 => exact .dic (.inl (by rw [he]; exact h1)) (DenK.mono (lend_le r) h2)
      | obj h1 h2 => exact .obj (by rw [he]; exact h1) (DenF.mono (lend_le r) h2)
  · rcases frzE_get h1 with ⟨_, e, _⟩ | ⟨_, _, e, _⟩ <;> cases e
theorem frz_own {p : Addr} : ¬ IsOwn (frzE Γ) σ p := fun ⟨i, k, d, h, _⟩ => by
  rcases frzE_get h with ⟨_, e, _⟩ | ⟨_, _, e, _⟩ <;> cases e
/-- where all that stands stays, nothing is done -/
theorem Rel.still (r : Rel K cl Γ Hf σ H) (h : ∀ b o, H b = some o → H' b = some o) : Step K cl Γ Hf σ H Γ Hf σ H' := by
  refine ⟨⟨r.le.trans (.of_same h), r.len, fun i s hs => ?_, r.dis⟩, .refl _, fun b o e _ => h b o e, fun _ _ _ e _ => e, fun _ q => .inl q, fun b hb => ?_, fun i k d e _ => ⟨d, e, rfl, fun _ => rfl⟩, fun _ q => .inl q⟩
  · obtain ⟨v, e, q⟩ := r.at_ i s hs
    refine ⟨v, e, ?_⟩
    cases s with
    | dat d => exact q
    | cel k d => obtain ⟨b, rfl, n2, c⟩ := q; exact ⟨b, rfl, n2, c.mono (.refl _) fun u e => h b u e⟩
  · cases e : H b with
    | none => exact absurd e hb
    | some u => rw [h b u e]; exact fun z => nomatch z
end
theorem dt_lend {X : Cx} {cl : ClA} {W : WX} {e : Expr} {m : MT} (h : DT X cl W e m) : DT X cl W e (mLendT m) := by
  obtain ⟨tt, pt, wt⟩ := h.ex
  refine ⟨tt, pt, fun Γ Hf σ H Q w => wt (frzE Γ) (lendH Γ σ Hf H) σ H Q ⟨w.rel.lend, fun a Γ' ea Hf' H' st => ?_, fun c as Γ' ea => ?_, fun ea => ?_⟩⟩
  · exact w.ok a Γ (by unfold mLendT; rw [ea]) Hf H' (w.rel.still fun b o hb => st.fr b o hb frz_own)
  · exact absurd (by unfold mLendT; rw [ea]) w.nb
  · exact w.nb (by unfold mLendT; rw [ea])
end DL
end

section
set_option Elab.async false
set_option linter.all false
set_option maxRecDepth 100000
set_option maxHeartbeats 4000000
namespace DL
open PySem PySem.Spec PyProof.Rows L2
/-! ## raise C(..) -/
theorem relO_zip : ∀ {ns : List PySem.Str} {vs : List V} {us : List Value}, Vals vs us → ∀ f, RelO ((ns.zip vs).lookup f) ((ns.zip us).lookup f)
  | [], _, _, _, f => trivial
  | _ :: _, _, _, .nil, f => trivial
  | n :: ns, _, _, .cons r rr, f => by
    show RelO (List.lookup f ((n, _) :: ns.zip _)) (List.lookup f ((n, _) :: ns.zip _))
    rw [List.lookup_cons, List.lookup_cons]
    cases h : f == n with
    | true => exact r
    | false => exact relO_zip rr f
theorem denF_zip {K : PySem.W.Frag} {cl : ClA} {Hf : Hp} : ∀ {ns : List PySem.Str} {vs : List V} {ds : List D}, DenL K cl Hf vs ds → DenF K cl Hf (ns.zip vs) (ns.zip ds)
  | [], _, _, _ => .nil
  | _ :: _, _, _, .nil => .nil
  | _ :: _, _, _, .cons h r => .cons h (denF_zip r)
def mRaise (c : Nat) (ns : List PySem.Str) (ma : MDs) : MS := fun Γ => (ma Γ).bndS fun ds Γ1 => if ds.length = ns.length then .ex c (ns.zip ds) Γ1 else .bad
section
variable {X : Cx} {cl : ClA} {W : WX} {a : Expr} {es : List Expr} {pos p pos2 : Pos} {fI : Addr} {tl : List Value} {newId initId B : String} {ns : List PySem.Str} {x : PySem.Str} {c k : Nat} {ma : MDs}
/-- all that a raise asks of the class -/
structure DfX (P : Program) (w : World) (K : PySem.W.Frag) (cl : ClA) (mg : PySem.Str → Option Value) (c : Nat) (x : PySem.Str) (ns : List PySem.Str) : Prop where
  ex : ∃ fI tl newId initId B, PySem.XcG.XT K (cl c) fI tl newId ns ∧ ExcBaseFacts B newId initId tl ∧ mg x = some (.ref (cl c)) ∧ ns.length ≤ 10 ∧
    ∀ vs : List Value, vs.length = ns.length → PySem.XcG.InitGo P w K (cl c) fI vs (fun y => (ns.zip vs).lookup y)
theorem ds_raise (D : DfX X.prog X.w X.K cl X.mg c x ns) (hc : X.calm = true) (tk : Takes X W) (hr : Room k X.A) (ha : DAs X cl W (a :: es) ma) (hg : Gl X x := by rfl)
    (hdb : (x == ("__debug__" : PySem.Str)) = false := by decide) (he : starEach (a :: es) X.env = (false, eval a X.env) :: starEach es X.env := by rfl) (hpl : (backTo pos (starEach es X.env)).any (·.1) = false := by rfl) :
    DS X cl W (.Raise (some (.Call (.Name x p) (a :: es) [] pos)) none pos2) (mRaise c ns ma) := by
  obtain ⟨fI, tl, newId, initId, B, T, F, gm, hn, go⟩ := D.ex
  obtain ⟨ta, pA, wA⟩ := ha.ex
  refine ⟨_, ps_raise hc tk (pmk_x (n := ns.length) (fs := fun vs => ns.zip vs) (mA := fun us y => (ns.zip us).lookup y) T F hn go (fun _ r f => relO_zip r f) gm hr pA hg hdb he hpl), fun Γ Hf σ H En w => wA Γ Hf σ H _ (w.bind fun ds Γ1 e1 vs Hf1 H1 st1 dn => ?_)⟩
  have w1 := w.of e1
  by_cases hl : ds.length = ns.length
  · rw [if_pos hl] at w1
    refine ⟨by rw [dn.length]; exact hl, fun d hd => ?_⟩
    have stg := st1.rel.grown (o := .xd (ns.zip vs)) hd
    exact w1.ex c (ns.zip ds) Γ1 rfl d Hf1 σ _ (st1.trans stg) ⟨_, upd_same, denF_zip dn⟩
  · rw [if_neg hl] at w1; exact (w1.nb rfl).elim
end
end DL
end

section
set_option Elab.async false
set_option linter.all false
set_option maxRecDepth 100000
set_option maxHeartbeats 4000000
namespace DL
open PySem PySem.Spec PyProof.Rows L2
/-! ## try: body, except C as e: caught.append(..) -/
section
variable {K : PySem.W.Frag} {cl : ClA} {Γ0 Γ : SE} {Hf0 Hf H0 H : Hp} {σ0 σ : L2.St} {i : Nat} {x : Option V}
theorem Rel.setN (r : Rel K cl Γ Hf σ H) (h : ∀ s, Γ[i]? ≠ some (some s)) : Rel K cl Γ Hf (σ.set i x) H where
  le := r.le
  len := by rw [List.length_set]; exact r.len
  at_ := fun j s hs => by
    have hj : i ≠ j := fun e => h s (by rw [e]; exact hs)
    rw [List.getElem?_set_ne hj]; exact r.at_ j s hs
  dis := fun j j' k k' d d' v h1 h2 e1 e2 => by
    have n1 : i ≠ j := fun e => h _ (by rw [e]; exact h1)
    have n2 : i ≠ j' := fun e => h _ (by rw [e]; exact h2)
    rw [List.getElem?_set_ne n1] at e1
    rw [List.getElem?_set_ne n2] at e2
    exact r.dis j j' k k' d d' v h1 h2 e1 e2
theorem setN_cel {p : Addr} (h : ∀ s, Γ[i]? ≠ some (some s)) (c : IsCel Γ (σ.set i x) p) : IsCel Γ σ p := by
  obtain ⟨j, k, d, h1, h2⟩ := c
  have hj : i ≠ j := fun e => h _ (by rw [e]; exact h1)
  rw [List.getElem?_set_ne hj] at h2
  exact ⟨j, k, d, h1, h2⟩
theorem setN_own {p : Addr} (h : ∀ s, Γ[i]? ≠ some (some s)) (c : IsOwn Γ (σ.set i x) p) : IsOwn Γ σ p := by
  obtain ⟨j, k, d, h1, hk, h2⟩ := c
  have hj : i ≠ j := fun e => h _ (by rw [e]; exact h1)
  rw [List.getElem?_set_ne hj] at h2
  exact ⟨j, k, d, h1, hk, h2⟩
theorem Step.setN (st : Step K cl Γ0 Hf0 σ0 H0 Γ Hf σ H) (h : ∀ s, Γ[i]? ≠ some (some s)) : Step K cl Γ0 Hf0 σ0 H0 Γ Hf (σ.set i x) H where
  rel := st.rel.setN h
  le := st.le
  fr := st.fr
  av := st.av
  sub := fun p c => st.sub p (setN_own h c)
  there := st.there
  brw := fun j k d e nk => by
    obtain ⟨d', e1, e2, e3⟩ := st.brw j k d e nk
    have hj : i ≠ j := fun z => h _ (by rw [z]; exact e1)
    exact ⟨d', e1, by rw [List.getElem?_set_ne hj]; exact e2, e3⟩
  subc := fun p c => st.subc p (setN_cel h c)
end
/-- in the suite: e's slot i holds the caught object a, of class c, with the fields as -/
def WXa (K : PySem.W.Frag) (cl : ClA) (te : TE) (i : Nat) (a : Addr) (cls : Value) (d : Option Addr) (c : Nat) (as : List (PySem.Str × D)) (dv : D) : Prop :=
  ∀ (Γ : SE) (Hf : Hp) (σ : L2.St) (H : Hp) (Q : VK), Rel K cl Γ Hf σ H → σ[i]? = some (some (.ref a)) → cls = .ref (cl c) → (∃ dd, d = some dd ∧ ExcAt K cl Hf H dd as) → (∀ v Hf' H', Step K cl Γ Hf σ H Γ Hf' σ H' → Den K cl Hf' v dv → Q v H') → te σ H Q
def WXas (K : PySem.W.Frag) (cl : ClA) (ta : TA) (i : Nat) (a : Addr) (cls : Value) (d : Option Addr) (c : Nat) (as : List (PySem.Str × D)) (ds : List D) : Prop :=
  ∀ (Γ : SE) (Hf : Hp) (σ : L2.St) (H : Hp) (Q : List V → Hp → Prop), Rel K cl Γ Hf σ H → σ[i]? = some (some (.ref a)) → cls = .ref (cl c) → (∃ dd, d = some dd ∧ ExcAt K cl Hf H dd as) → (∀ vs Hf' H', Step K cl Γ Hf σ H Γ Hf' σ H' → DenL K cl Hf' vs ds → Q vs H') → ta σ H Q
section
variable {K : PySem.W.Frag} {cl : ClA} {Γ Γ1 : SE} {Hf Hf1 H H1 : Hp} {σ : L2.St} {i : Nat} {a : Addr} {cls : Value} {d : Option Addr} {c : Nat} {as : List (PySem.Str × D)} {te : TE} {ta : TA} {dv : D} {ds : List D}
theorem ExcAt.step {dd : Addr} (e : ExcAt K cl Hf H dd as) (rel : Rel K cl Γ Hf σ H) (hd : ¬ IsOwn Γ σ dd) (st : Step K cl Γ Hf σ H Γ1 Hf1 σ H1) : ExcAt K cl Hf1 H1 dd as := by
  obtain ⟨fs, h1, h2⟩ := e
  exact ⟨fs, st.fr dd _ h1 hd, h2.mono st.le⟩
theorem xd_own {dd : Addr} {fs : List (PySem.Str × V)} (rel : Rel K cl Γ Hf σ H) (h : H dd = some (.xd fs)) : ¬ IsOwn Γ σ dd := by
  rintro ⟨j, k, d, h1, _, h2⟩
  obtain ⟨v, ev, p, rfl, n, cc⟩ := rel.at_ j _ h1
  rw [h2] at ev; cases ev
  cases cc with
  | lst e _ => rw [h] at e; cases e
  | dic e _ => rw [h] at e; cases e
  | obj e _ => rw [h] at e; cases e
theorem wxa_fld {f : PySem.Str} (h : as.lookup f = some dv) : WXa K cl (tXf a cls d (cl c) f (tVar i)) i a cls d c as dv := fun Γ Hf σ H Q rel hs hc ⟨dd, hd, fs, h1, h2⟩ k => by
  obtain ⟨v, ev, hv⟩ := h2.lookup h
  exact ⟨.ref a, hs, rfl, hc, dd, fs, v, hd, h1, ev, k v Hf H (.refl rel) hv⟩
theorem wxas_nil : WXas K cl tNil i a cls d c as [] := fun Γ Hf σ H Q rel hs hc he k => k [] Hf H (.refl rel) .nil
theorem wxas_cons (h : WXa K cl te i a cls d c as dv) (r : WXas K cl ta i a cls d c as ds) : WXas K cl (tCons te ta) i a cls d c as (dv :: ds) := fun Γ Hf σ H Q rel hs hc he k => by
  obtain ⟨dd, hd, hx⟩ := he
  refine h Γ Hf σ H _ rel hs hc ⟨dd, hd, hx⟩ fun v Hf1 H1 st1 hv => ?_
  have hx1 : ExcAt K cl Hf1 H1 dd as := by
    obtain ⟨fs, h1, _⟩ := id hx
    exact hx.step rel (xd_own rel h1) st1
  exact r Γ Hf1 σ H1 _ st1.rel hs hc ⟨dd, hd, hx1⟩ fun vs Hf2 H2 st2 hvs => k (v :: vs) Hf2 H2 (st1.trans st2) (.cons (hv.mono st2.le) hvs)
theorem wxa_lst (h : WXas K cl ta i a cls d c as ds) (hl : ds.length ≤ sizeLine) : WXa K cl (tLst ta) i a cls d c as (.lst ds) := fun Γ Hf σ H Q rel hs hc he k =>
  h Γ Hf σ H _ rel hs hc he fun vs Hf1 H1 st1 dn => ⟨by rw [dn.length]; exact hl, fun p hp => by
    have st2 := st1.rel.newDat (o := .lst vs) hp
    exact k _ _ _ (st1.trans st2) (.lst upd_same (dn.mono st2.le))⟩
/-- caught.append(..) -/
theorem app_run {j : Nat} {kd : Kd} {xs : List D} {En : Ends} (rel : Rel K cl Γ Hf σ H) (hj : Γ[j]? = some (some (.cel kd (.lst xs)))) (hk : kd ≠ .lok) (hl : xs.length < sizeLine) (h : WXa K cl te i a cls d c as dv) (hs : σ[i]? = some (some (.ref a))) (hc : cls = .ref (cl c)) (he : ∃ dd, d = some dd ∧ ExcAt K cl Hf H dd as)
    (k : ∀ Hf' H', Step K cl Γ Hf σ H (Γ.set j (some (.cel kd (.lst (xs ++ [dv]))))) Hf' σ H' → En.nx σ H') : tDrop (tBM K "list" rAppend (tVar j) (tCons te tNil)) En σ H := by
  obtain ⟨v, ev, p, rfl, n, cc⟩ := rel.at_ j _ hj
  obtain ⟨ws, h1, h2⟩ := cc.lstI
  refine ⟨.ref p, ev, .inl ⟨rfl, ws, SqL.of h1⟩, h Γ Hf σ H _ rel hs hc he fun u Hf1 H1 st1 hu => ?_⟩
  obtain ⟨v1, ev1, p1, e1, n1, c1⟩ := st1.rel.at_ j _ hj
  rw [ev] at ev1; cases ev1; cases e1
  obtain ⟨ws1, g1, g2⟩ := c1.lstI
  refine ⟨p, ws1, u, rfl, rfl, g1, by rw [g2.length]; exact hl, ?_⟩
  exact k _ _ (st1.trans (st1.rel.change (o := .lst (ws1 ++ [u])) (d' := .lst (xs ++ [dv])) hj ev hk (.lst upd_same (g2.append (.one hu)))))
end
def noSlot (Γ : SE) (i : Nat) : Bool := match Γ[i]? with
  | some none => true
  | _ => false
theorem noSlot_ok {Γ : SE} {i : Nat} (h : noSlot Γ i = true) : Γ[i]? = some none := by
  unfold noSlot at h
  split at h
  · assumption
  · cases h
def tryEnd (i j : Nat) (o : Option D) (Γ : SE) : RS := match o with
  | some dv => match Γ[j]? with
    | some (some (.cel k (.lst xs))) => if k ≠ .lok ∧ xs.length < sizeLine ∧ noSlot Γ i = true then .nx (Γ.set j (some (.cel k (.lst (xs ++ [dv]))))) else .bad
    | _ => .bad
  | none => .bad
def mTry (c i j : Nat) (g : List (PySem.Str × D) → Option D) (mb : MS) : MS := fun Γ => match mb Γ with
  | .nx Γ1 => .nx Γ1
  | .ex c' as Γ1 => if c' = c then tryEnd i j (g as) Γ1 else .bad
  | _ => .bad
section
variable {X : Cx} {cl : ClA} {W : WX} {x n ca : PySem.Str} {c i j : Nat} {body : List Stmt} {arg : Expr} {np pos pos' epos cpos apos cp : Pos} {mb : MS} {g : List (PySem.Str × D) → Option D} {ns : List PySem.Str}
theorem ds_try (te : Addr → Value → Option Addr → TE) (D : DfX X.prog X.w X.K cl X.mg c x ns) (hN : X.N.Nodup) (tk : Takes X W) (hb : ∀ (W : WX) (pn : List (Addr × Obj)) (xe : Value → Shared → Prop), Takes (X.tr pn xe) W → PassesOwn (model X.prog X.w) X.A X.env xe → DSs (X.tr pn xe) cl W body mb)
    (ha : ∀ (a : Addr) (oe : Obj) (cls : Value) (d : Option Addr) (pn : List (Addr × Obj)), Zc cls d oe → (∃ vs, oe.data = .fields vs) → PE (X.suite a ((a, oe) :: pn)) arg (te a cls d)) (hw : ∀ a cls d as dv, g as = some dv → WXa X.K cl (te a cls d) i a cls d c as dv)
    (hij : i ≠ j := by decide) (hs : X.stack = X.env :: X.outer := by rfl) (hf : X.env.frame = some X.env.locals := by rfl) (hi : X.N[i]? = some n := by rfl) (hln : X.env.kindOf n = some .local := by rfl) (hg : Gl X x := by rfl) (hdb : (x == ("__debug__" : PySem.Str)) = false := by decide)
    (hNj : X.N[j]? = some ca := by rfl) (hv : Vis X.env.scope ca := by first | exact Or.inl rfl | exact Or.inr (Or.inl rfl) | exact Or.inr (Or.inr rfl)) (hd : (ca == ("__debug__" : PySem.Str)) = false := by decide) (hcd : (ca == ("__classdict__" : PySem.Str)) = false := by decide)
    (hbase : attributeBase (.Name ca cp) "append" X.env (eval (.Name ca cp) X.env) = eval (.Name ca cp) X.env := by rfl)
    (hfew : ((backTo cpos (starEach [arg] X.env)).all (fun x => !x.1) && (backToKw cpos (keywordEach [] X.env)).all (fun x => x.1.isSome)
      && decide ([arg].length + ([] : List Keyword).length + (if ([] : List Keyword).isEmpty then 0 else 1) < 30)) = true := by rfl)
    (hline : (apos.endLine == cpos.line) = true := by rfl) (hst : starEach [arg] X.env = (false, eval arg X.env) :: starEach [] X.env := by rfl) (hplain : (backTo cpos (starEach [] X.env)).any (·.1) = false := by rfl)
    (hsw : swapsWith (.Call (.Attribute (.Name ca cp) "append" apos) [arg] [] cpos) none epos.line X.env = pure false := by rfl) :
    DS X cl W (.Try body [.ExceptHandler (some (.Name x np)) (some n) [.Expr (.Call (.Attribute (.Name ca cp) "append" apos) [arg] [] cpos) epos] pos'] [] [] pos) (mTry c i j g mb) := by
  obtain ⟨fI, tl, newId, initId, B, T, F, gm, _, go⟩ := D.ex
  refine ⟨_, ps_try_as (c := .ref (cl c)) (tb := fun W => tS X.K cl W mb) (ts := fun a cls d => tDrop (tBM X.K "list" rAppend (tVar j) (tCons (te a cls d) tNil))) (Wout := W) hs hf hN hi hln ⟨hg, hdb, .inl gm⟩ tk (fun W pn xe tk hp => (hb W pn xe tk hp).pss) (fun a oe cls d pn hz hfv => ?_), fun Γ Hf σ H En w => ?_⟩
  · exact pss_one (ps_expr (pe_bm (X := X.suite a ((a, oe) :: pn)) PySem.F.plainAttrs_list PySem.F.slot_list_append PySem.F.type_list_append mt_append (pe_var (X := X.suite a ((a, oe) :: pn)) hNj hv hd hcd) (pa_cons (X := X.suite a ((a, oe) :: pn)) (ha a oe cls d pn hz hfv) pa_nil hst) hbase hfew hline hst hplain) hsw)
  · refine ⟨Γ, Hf, w.rel, fun Γ' e Hf' σ' H' st => ?_, fun s Γ' e => ?_, fun Γ' e => ?_, fun Γ' e => ?_, fun c' as Γ' e d Hf' σ' H' st hx => ?_, fun e => ?_⟩
    · exact w.nx Γ' (by unfold mTry; rw [e]) Hf' σ' H' st
    · exact (w.nb (by unfold mTry; rw [e])).elim
    · exact (w.nb (by unfold mTry; rw [e])).elim
    · exact (w.nb (by unfold mTry; rw [e])).elim
    · unfold mTry at w
      rw [e] at w
      have w1 : WantsS X.K cl Γ Hf σ H W (if c' = c then tryEnd i j (g as) Γ' else .bad) En := w
      by_cases hcc : c' = c
      · subst hcc
        rw [if_pos rfl] at w1
        refine ⟨true, T.te, fun _ a hna => ?_, fun z => by cases z⟩
        unfold tryEnd at w1
        cases eg : g as with
        | none => rw [eg] at w1; exact (w1.nb rfl).elim
        | some dv =>
          rw [eg] at w1
          have w2 : WantsS X.K cl Γ Hf σ H W (match Γ'[j]? with
            | some (some (.cel k (.lst xs))) => if k ≠ .lok ∧ xs.length < sizeLine ∧ noSlot Γ' i = true then .nx (Γ'.set j (some (.cel k (.lst (xs ++ [dv]))))) else .bad
            | _ => .bad) En := w1
          split at w2
          · next k xs ej =>
            split at w2
            · next hc3 =>
              obtain ⟨hk, hl, hin⟩ := hc3
              have hin := noSlot_ok hin
              have hno : ∀ s, Γ'[i]? ≠ some (some s) := fun s z => by rw [hin] at z; cases z
              have sts : Step X.K cl Γ Hf σ H Γ' Hf' (σ'.set i (some (.ref a))) H' := st.setN hno
              have hlt : i < σ'.length := by rw [← st.rel.len]; exact (List.getElem?_eq_some_iff.mp hin).1
              refine app_run sts.rel ej hk hl (hw a _ _ as dv eg) (List.getElem?_set_self hlt) rfl ⟨d, rfl, hx⟩ fun Hf2 H2 st2 => ?_
              have hno2 : ∀ s, (Γ'.set j (some (.cel k (.lst (xs ++ [dv])))))[i]? ≠ some (some s) := fun s z => by
                rw [List.getElem?_set_ne (Ne.symm hij)] at z; exact hno s z
              exact w2.nx _ rfl Hf2 _ H2 ((sts.trans st2).setN hno2)
            · exact (w2.nb rfl).elim
          · exact (w2.nb rfl).elim
      · rw [if_neg hcc] at w1; exact (w1.nb rfl).elim
    · exact w.nb (by unfold mTry; rw [e])
end
end DL
end

section
set_option Elab.async false
set_option linter.all false
set_option maxRecDepth 100000
set_option maxHeartbeats 4000000
namespace PySem
namespace XcG
open PySem.W PySem.Spec PySem.Calls PyProof.Rows
/-! isinstance of a caught exception that has its own dict -/
section
variable {prog : Program} {w : World} {A : Around} {E : Value → Shared → Prop} {s : Shared} {K : Frag} {x D : Addr} {ox : Obj} {od : Option Obj}
theorem at_data {C : Addr} {name : Str} {a g : Value} (hc : (clsIn K C).isSome = true)
    (ha : findIn K (.ref C) name = some (some a)) (hg : specialIn K a "__get__" = some (some g))
    (ht : takesIn K a = some true) : findObj K C od name = some (.bind g a) := by
  obtain ⟨cd, q⟩ := Option.isSome_iff_exists.mp hc
  unfold findObj
  rw [q, Option.bind_some, ha, Option.bind_some]
  simp [hg, ht]
theorem get_class {Q : Option Value → Shared → Prop} (T : L2.ExcC K D) (inK : K.In s.heap) (I : InstAt s.heap x ox D od) (h : Q (some (.ref D)) { s with toks := s.toks + 1 }) : wpAny (model prog w) A (getAttr? (.ref x) "__class__") Q E s := by
  have there : (clsIn K D).isSome = true := by
    obtain ⟨cd, q, _⟩ := any_some T.hd
    rw [q]; rfl
  obtain ⟨hp, g, d, t, os⟩ := s
  have ty := I.type (M := model prog w)
  have own := looks_findIn (M := model prog w) inK T.hg
  have spare := looks_findIn (M := model prog w) inK T.hk
  have found := looks_find (M := model prog w) inK I (at_data there T.ha T.hn T.ht)
  have isB : Looks (model prog w) hp (isInstance (.ref x) (.type "BaseException")) true :=
    ty.andThen (looks_subIn inK T.hs)
  have h1 : (Value.builtin "BaseException.__getattribute__" == Value.builtin "object.__getattribute__") = false := by
    decide +kernel
  have h2 : (onTheHeap (Value.ref D) && Value.builtin "BaseException.__getattribute__" ==
      Value.builtin "object.__getattribute__") = false := by rw [h1]; rfl
  unfold getAttr? getAttrBy? getAttrBy
  refine wpAny_bind (wpAny_mkText (wpAny_bind (wpAny_attempt (wpAny_holding
    (wpAny_bind (ty.at (wpAny_bind (own.at ?_))))))))
  show wpAny _ _ (if (onTheHeap (Value.ref D) && Value.builtin "BaseException.__getattribute__" ==
    Value.builtin "object.__getattribute__") = true then _ else _) _ _ _
  rw [h2, if_neg Bool.false_ne_true]
  unfold getAttrByItsOwn hookBefore
  refine wpAny_bind ?_
  rw [if_pos (show onTheHeap (Value.ref D) = true from rfl)]
  refine spare.at ?_
  refine wpAny_bind (wpAny_attempt (wpAny_holding ?_))
  unfold callGetattribute
  rw [show (false && onTheHeap (Value.builtin "BaseException.__getattribute__")) = false from rfl, if_neg Bool.false_ne_true]
  unfold boundAndCalled
  rw [PySem.F.excAttr_ValueError.ga.bind (.ref x)]
  refine wpAny_bind (wpAny_pure ?_)
  show wpAny _ _ (call (.builtin "BaseException.__getattribute__")
    [.ref x, .str "__class__" t]) _ _ _
  refine wpAny_call (codeAny_call_builtin PySem.F.excAttr_ValueError.ga.plain
    PySem.F.entry_bexc_ga ?_)
  refine @check_slot (model prog w) _ _ ⟨hp, g, d, t + 1, os⟩ "BaseException.__getattribute__" "BaseException" "__getattribute__" (.ref x)
    [.str "__class__" t] [] _ (by decide +kernel) (by decide +kernel) isB
    (PySem.F.args_bexc_ga (.ref x) (.str "__class__" t)) ?_
  unfold Builtin.«object.__getattribute__»
  refine wpAny_bind (wpAny_of_eq (a := ((Value.ref x : Value), [Value.str "__class__" t]))
    (by first | rfl | (simp only [slotArgs]; rfl)) ?_)
  refine wpAny_bind (wpAny_pure (wpAny_bind (ty.at (wpAny_bind (found.at ?_)))))
  show wpAny _ _ (holding [Value.builtin "object.__class__"]
    (call (.builtin "getset_descriptor.__get__") [.builtin "object.__class__", .ref x, .ref D]) >>= ret) _ _ _
  refine wpAny_bind (wpAny_holding (wpAny_call
    (class_get (s := ⟨hp, g, d, t + 1, os⟩) (ox := ox) (od := od) inK I T.hm ?_)))
  refine wpAny_pure ?_
  show wpAny _ _ (handedOut (.ref D)) _ _ _
  rw [handedOut_of (v := .ref D) rfl]
  first
    | exact wpAny_pure (wpAny_pure h)
    | exact wpAny_pure h
    | exact wpAny_pure (wpAny_bind (wpAny_pure (wpAny_pure h)))
theorem kitx (T : L2.ExcC K D) : KitX K (.ref x) (.ref D) (fun h => InstAt h x ox D od) where
  ty := fun _ _ _ I => I.type
  it := fun _ _ inK _ => by
    obtain ⟨cdD, q, _⟩ := any_some T.hd
    unfold clsIn at q
    split at q
    · rename_i ho
      intro A' Q' E' s' k z
      unfold isType loadHead
      exact wpAny_bind (wpAny_loadPart (k _ _ (inK _ _ ho)) (wpAny_pure z))
    · cases q
  ne := fun h tp dd its n sl inK htp => by
    obtain ⟨cdD, q, _⟩ := any_some T.hd
    refine Bool.eq_false_iff.mpr fun z => ?_
    have e : D = tp := Value.ref.inj (beq_iff_eq.mp z)
    subst e
    unfold clsIn at q
    split at q
    · rename_i ho
      have clash := (inK _ _ ho).symm.trans htp
      cases clash
    · cases q
  ca := fun inK I k => get_class T inK I k
end
end XcG
end PySem
namespace L2
open PySem PySem.Spec PyProof.Rows
/-- isinstance(e, c), e with its own dict dd -/
def rIsD (K : PySem.W.Frag) (D a dd : Addr) : List V → Hp → VK → Prop := fun xs H Q => ∃ (fs : List (Str × V)) (c : V) (cv : Value) (b : Bool), xs = [.ref a, c] ∧ H dd = some (.xd fs) ∧ (∀ u, RelV c u → u = cv) ∧ PySem.W.kitOne K (.ref D) cv = some b ∧ Q (.bl b) H
theorem call_isD {X : Cx} {a D dd : Addr} {oe : Obj} {pn : List (Addr × Obj)} (T : ExcC X.K D) (hz : Zc (.ref D) (some dd) oe) (hf : ∃ vs, oe.data = .fields vs) : CallR (X.suite a ((a, oe) :: pn)) (.builtin "isinstance") (rIsD X.K D a dd) := by
  intro pins s σ H xs us Q I r h
  obtain ⟨fs, c, cv, b, rfl, hx, hcv, e, q⟩ := h
  cases r with
  | cons rx rr =>
    cases rr with
    | cons rt rr =>
      cases rr
      cases rx
      have ec := hcv _ rt
      subst ec
      obtain ⟨hget, _⟩ := I.pin (a, oe) (List.mem_append_left _ List.mem_cons_self)
      obtain ⟨vs, hv⟩ := hf
      have ok : ObjOk X.prog X.w H s.heap dd (.xd fs) := I.hok dd _ hx
      obtain ⟨mA, hns, _⟩ := ok
      obtain ⟨o2, ho2, _⟩ := lookIn_ns hns
      have J : PySem.W.InstAt s.heap a oe D (some o2) := ⟨hget, hz.1, by unfold PySem.W.notCls; rw [hv] <;> rfl, by rw [hz.2]; exact ho2⟩
      exact PySem.W.kia_one (PySem.XcG.kitx T) I.kIn J e (fun z => nomatch z) fun tk => ⟨.bl b, H, I.kept (t' := tk) fun _ _ z => z, rfl, q⟩
end L2
end

section
set_option Elab.async false
set_option linter.all false
set_option maxRecDepth 100000
set_option maxHeartbeats 4000000
namespace DL
open PySem PySem.Spec PyProof.Rows L2
def tIs (K : PySem.W.Frag) (cl : ClA) (c c2 i : Nat) (a : Addr) (cls : Value) (d : Option Addr) : TE := fun σ H Q => cls = .ref (cl c) ∧ ∃ dd, d = some dd ∧ tCB (rIsD K (cl c) a dd) (tCons (tVar i) (tCons (tC (.ref (cl c2))) tNil)) σ H Q
section
variable {X : Cx} {cl : ClA} {c c2 i : Nat} {a : Addr} {oe : Obj} {cls : Value} {d : Option Addr} {pn : List (Addr × Obj)} {n C2 : PySem.Str} {p p1 p2 pos : Pos}
theorem pe_is (T : ExcC X.K (cl c)) (hz : Zc cls d oe) (hf : ∃ vs, oe.data = .fields vs) (hm : X.mg "isinstance" = none) (hm2 : X.mg C2 = some (.ref (cl c2))) (hN : X.N[i]? = some n := by rfl) (hv : Vis X.env.scope n := by first | exact Or.inl rfl | exact Or.inr (Or.inl rfl) | exact Or.inr (Or.inr rfl)) (hd : (n == ("__debug__" : PySem.Str)) = false := by decide) (hcd : (n == ("__classdict__" : PySem.Str)) = false := by decide)
    (hg : Gl X "isinstance" := by rfl) (hg2 : Gl X C2 := by rfl) (hd2 : (C2 == ("__debug__" : PySem.Str)) = false := by decide)
    (hs : starEach [.Name n p1, .Name C2 p2] X.env = (false, eval (.Name n p1) X.env) :: starEach [.Name C2 p2] X.env := by rfl) (hs2 : starEach [.Name C2 p2] X.env = (false, eval (.Name C2 p2) X.env) :: starEach [] X.env := by rfl)
    (hpl : (backTo pos (starEach [.Name C2 p2] X.env)).any (·.1) = false := by rfl) : PE (X.suite a ((a, oe) :: pn)) (.Call (.Name "isinstance" p) [.Name n p1, .Name C2 p2] [] pos) (tIs X.K cl c c2 i a cls d) := by
  refine ⟨fun pins s σ H Q I ⟨ec, dd, ed, h⟩ => ?_⟩
  subst ec ed
  have P := pe_callB (X := X.suite a ((a, oe) :: pn)) (p := p) (pos := pos) (call_isD T hz hf) hg hm (by decide +kernel)
    (pa_cons (X := X.suite a ((a, oe) :: pn)) (pe_var (X := X.suite a ((a, oe) :: pn)) (pos := p1) hN hv hd hcd) (pa_cons (X := X.suite a ((a, oe) :: pn)) (pe_glob (X := X.suite a ((a, oe) :: pn)) (pos := p2) (v := .ref (cl c2)) hg2 hm2 rfl hd2) pa_nil hs2) hs) (by decide) (by decide) hs hpl
  exact P.run pins s σ H Q I h
theorem wxa_is {K : PySem.W.Frag} {as : List (PySem.Str × D)} {b : Bool} (h : PySem.W.kitOne K (.ref (cl c)) (.ref (cl c2)) = some b) : WXa K cl (tIs K cl c c2 i a cls d) i a cls d c as (.bl b) := fun Γ Hf σ H Q rel hs hc ⟨dd, hd, fs, h1, h2⟩ k =>
  ⟨hc, dd, hd, .ref a, hs, fs, .ref (cl c2), .ref (cl c2), b, rfl, h1, (fun u r => r), h, k _ Hf H (.refl rel) (.bl b)⟩
end
end DL
end

section
set_option Elab.async false
set_option linter.all false
set_option maxRecDepth 100000
set_option maxHeartbeats 4000000
namespace PySem
namespace XcG
open PySem.W PySem.Calls PyProof.Rows PySem.HandSPX
theorem ldX {M : Model} {s : Shared} {name : Str} {scope : Scope} {L a : Addr} {cd : Value} {m : Str → Option Value} {x : Str} {pos : Pos} {v : Value} {Q : Value → Shared → Prop} {A : Around} {E : Value → Shared → Prop} (hn : s.heap.Ns L m) (hv : m x = some v) (h : Q v s)
    (hk : scope.kind = .function := by rfl) (hl : (envOfC name scope L a cd).kindOf x = some .local := by rfl) (hd : (x == ("__debug__" : Str)) = false := by decide) :
    wpAny M A (eval (.Name x pos) (envOfC name scope L a cd)) Q E s := wpAny_Name (wpAny_loadName_local hk hl hn hv h) hd
section
variable {prog : Program} {w : World} {K : Frag} {C fI : Addr} {fd : FuncData} {kws : List (Str × L2.V)} {tl : List Value} {newId B : String}
theorem init_LastPart (F : L2.FunD K "__init__" "LastPart.__init__" (L2.defArgs Hd.st_LastPart_ddinitdd) (L2.defBody Hd.st_LastPart_ddinitdd) (L2.defScope Hd.st_LastPart_ddinitdd) [] kws fI fd) (T : XT K C fI tl newId ["part"]) (SF : StoreFacts B tl "object.__setattr__" "object") (v : Value) :
    InitGo prog w K C fI [v] (fun y => if y = "part" then some v else none) := by
  intro A R s x t0 inK nolim hx hnx room hq
  obtain ⟨oc, od, dV, kV, doc, pm, an, cdv, ct, osl, rfl, ho, hcd, hD, _⟩ := F.ex
  obtain ⟨cd, hcl, hm, hh⟩ := T.cd
  have nN := T.noN "part" (by simp)
  obtain rfl : dV = .none := by
    rcases hD with ⟨_, e⟩ | ⟨e, _⟩
    · exact e
    · exact absurd rfl e
  refine Att.call_fn (binds := [("self", .ref x), ("part", v)]) inK nolim ho hcd room (BindsTo.of_eq (by first | rfl | with_unfolding_all rfl)) (by first | rfl | decide | with_unfolding_all rfl) (fun s₁ IC => ?_) rfl rfl rfl
  obtain ⟨h₁, tk₁, rfl⟩ := IC.toInCall.same
  have k : ∀ b o, s.heap.get? b = some o → h₁.get? b = some o := IC.toInCall.keep
  have hn := IC.toInCall.ns
  have X₁ : K.In h₁ := inK.keeps k
  have hx₁ := k _ _ hx
  show wpAny _ _ (execs _ _) _ _ _
  refine wpAny_execs_cons (plainObj_wpAny_Assign_Attribute ?_)
  refine ldX (v := v) hn (by first | rfl | with_unfolding_all rfl | kernel_rfl) (ldX (v := .ref x) hn (by first | rfl | with_unfolding_all rfl | kernel_rfl) ?_)
  refine set_plain X₁ (ox := excO C t0) (od := none) ⟨hx₁, rfl, rfl, trivial⟩ T.sa ?_
  refine set0 SF X₁ hx₁ hcl hm hh nN (fun h₃ tk₃ dx k₃ dn dne hx₃ hn₃ => ?_)
  show wpAny _ _ (execs _ _) _ _ _
  have z : s.heap.objs.size < h₁.objs.size := hn.lt
  exact wpAny_execs_nil (hq h₃ tk₃ dx ⟨fun b o hb e => k₃ b o hb (k b o e), hx₃, Nat.le_of_lt (Nat.lt_of_lt_of_le z dn), dne, hn₃⟩)
theorem init_SharedPart (F : L2.FunD K "__init__" "SharedPart.__init__" (L2.defArgs Hd.st_SharedPart_ddinitdd) (L2.defBody Hd.st_SharedPart_ddinitdd) (L2.defScope Hd.st_SharedPart_ddinitdd) [] kws fI fd) (T : XT K C fI tl newId ["part"]) (SF : StoreFacts B tl "object.__setattr__" "object") (v : Value) :
    InitGo prog w K C fI [v] (fun y => if y = "part" then some v else none) := by
  intro A R s x t0 inK nolim hx hnx room hq
  obtain ⟨oc, od, dV, kV, doc, pm, an, cdv, ct, osl, rfl, ho, hcd, hD, _⟩ := F.ex
  obtain ⟨cd, hcl, hm, hh⟩ := T.cd
  have nN := T.noN "part" (by simp)
  obtain rfl : dV = .none := by
    rcases hD with ⟨_, e⟩ | ⟨e, _⟩
    · exact e
    · exact absurd rfl e
  refine Att.call_fn (binds := [("self", .ref x), ("part", v)]) inK nolim ho hcd room (BindsTo.of_eq (by first | rfl | with_unfolding_all rfl)) (by first | rfl | decide | with_unfolding_all rfl) (fun s₁ IC => ?_) rfl rfl rfl
  obtain ⟨h₁, tk₁, rfl⟩ := IC.toInCall.same
  have k : ∀ b o, s.heap.get? b = some o → h₁.get? b = some o := IC.toInCall.keep
  have hn := IC.toInCall.ns
  have X₁ : K.In h₁ := inK.keeps k
  have hx₁ := k _ _ hx
  show wpAny _ _ (execs _ _) _ _ _
  refine wpAny_execs_cons (plainObj_wpAny_Assign_Attribute ?_)
  refine ldX (v := v) hn (by first | rfl | with_unfolding_all rfl | kernel_rfl) (ldX (v := .ref x) hn (by first | rfl | with_unfolding_all rfl | kernel_rfl) ?_)
  refine set_plain X₁ (ox := excO C t0) (od := none) ⟨hx₁, rfl, rfl, trivial⟩ T.sa ?_
  refine set0 SF X₁ hx₁ hcl hm hh nN (fun h₃ tk₃ dx k₃ dn dne hx₃ hn₃ => ?_)
  show wpAny _ _ (execs _ _) _ _ _
  have z : s.heap.objs.size < h₁.objs.size := hn.lt
  exact wpAny_execs_nil (hq h₃ tk₃ dx ⟨fun b o hb e => k₃ b o hb (k b o e), hx₃, Nat.le_of_lt (Nat.lt_of_lt_of_le z dn), dne, hn₃⟩)
theorem init_TooMany (F : L2.FunD K "__init__" "TooMany.__init__" (L2.defArgs Hd.st_TooMany_ddinitdd) (L2.defBody Hd.st_TooMany_ddinitdd) (L2.defScope Hd.st_TooMany_ddinitdd) [] kws fI fd) (T : XT K C fI tl newId ["what", "limit"]) (SF : StoreFacts B tl "object.__setattr__" "object") (v u : Value) :
    InitGo prog w K C fI [v, u] (fun y => if y = "limit" then some u else if y = "what" then some v else none) := by
  intro A R s x t0 inK nolim hx hnx room hq
  obtain ⟨oc, od, dV, kV, doc, pm, an, cdv, ct, osl, rfl, ho, hcd, hD, _⟩ := F.ex
  obtain ⟨cd, hcl, hm, hh⟩ := T.cd
  have n1 := T.noN "what" (by simp)
  have n2 := T.noN "limit" (by simp)
  obtain rfl : dV = .none := by
    rcases hD with ⟨_, e⟩ | ⟨e, _⟩
    · exact e
    · exact absurd rfl e
  refine Att.call_fn (binds := [("self", .ref x), ("what", v), ("limit", u)]) inK nolim ho hcd room (BindsTo.of_eq (by first | rfl | with_unfolding_all rfl)) (by first | rfl | decide | with_unfolding_all rfl) (fun s₁ IC => ?_) rfl rfl rfl
  obtain ⟨h₁, tk₁, rfl⟩ := IC.toInCall.same
  have k : ∀ b o, s.heap.get? b = some o → h₁.get? b = some o := IC.toInCall.keep
  have hn := IC.toInCall.ns
  have X₁ : K.In h₁ := inK.keeps k
  have hx₁ := k _ _ hx
  have hxL : s.heap.objs.size ≠ x := Nat.ne_of_gt (Heap.lt_size hx)
  show wpAny _ _ (execs _ _) _ _ _
  refine wpAny_execs_cons (plainObj_wpAny_Assign_Attribute ?_)
  refine ldX (v := v) hn (by first | rfl | with_unfolding_all rfl | kernel_rfl) (ldX (v := .ref x) hn (by first | rfl | with_unfolding_all rfl | kernel_rfl) ?_)
  refine set_plain X₁ (ox := excO C t0) (od := none) ⟨hx₁, rfl, rfl, trivial⟩ T.sa ?_
  refine set0 SF X₁ hx₁ hcl hm hh n1 (fun h₃ tk₃ dx k₃ dn dne hx₃ hn₃ => ?_)
  have X₃ : K.In h₃ := fun b o e => k₃ b o (fun z => by rw [z, hnx] at e; cases e) (X₁ b o e)
  have hn' := hn.at (fun o q => k₃ _ o hxL q)
  obtain ⟨oD, esD, epD, hoD, hdD, _⟩ := hn₃.count (Within.cons "what" v Within.nil)
  show wpAny _ _ (execs _ _) _ _ _
  refine wpAny_execs_cons (plainObj_wpAny_Assign_Attribute ?_)
  refine ldX (v := u) hn' (by first | rfl | with_unfolding_all rfl | kernel_rfl) (ldX (v := .ref x) hn' (by first | rfl | with_unfolding_all rfl | kernel_rfl) ?_)
  refine set_plain X₃ (ox := { cls := .ref C, dict := some dx, data := .fields #[.ref t0, .none, .none, .none, .bool false, .none] }) (od := some oD) ⟨hx₃, rfl, rfl, hoD⟩ T.sa ?_
  refine set1 SF X₃ hx₃ hn₃ (Within.cons "what" v Within.nil) (by simp) hcl hm hh n2 (fun h₄ tk₄ k₄ hn₄ => ?_)
  show wpAny _ _ (execs _ _) _ _ _
  have z : s.heap.objs.size < h₁.objs.size := hn.lt
  have dxs : s.heap.objs.size ≤ dx := Nat.le_of_lt (Nat.lt_of_lt_of_le z dn)
  exact wpAny_execs_nil (hq h₄ tk₄ dx ⟨fun b o hb e => k₄ b o (fun y => by rw [y] at e; exact absurd (Nat.lt_of_lt_of_le (Heap.lt_size e) dxs) (Nat.lt_irrefl _)) (k₃ b o hb (k b o e)), k₄ x _ (Ne.symm dne) hx₃, dxs, dne, hn₄⟩)
end
end XcG
end PySem
end

section
set_option Elab.async false
set_option linter.all false
set_option maxRecDepth 100000
set_option maxHeartbeats 4000000
namespace G
open PySem PySem.Spec PyProof.Rows L2 DL Hd
theorem look1 {a : PySem.Str} {v : Value} : (fun y => (([a] : List PySem.Str).zip [v]).lookup y) = fun y => if y = a then some v else none := funext fun y => by
  show (match y == a with | true => some v | false => none) = _
  by_cases h : y = a
  · rw [if_pos h, show (y == a) = true from by simpa using h]
  · rw [if_neg h, show (y == a) = false from by simpa using h]
theorem look2 {a b : PySem.Str} {v u : Value} (hab : a ≠ b) : (fun y => (([a, b] : List PySem.Str).zip [v, u]).lookup y) = fun y => if y = b then some u else if y = a then some v else none := funext fun y => by
  show (match y == a with | true => some v | false => (match y == b with | true => some u | false => none)) = _
  by_cases h : y = a
  · rw [if_neg (fun e => hab (h.symm.trans e)), if_pos h, show (y == a) = true from by simpa using h]
  · rw [show (y == a) = false from by simpa using h]
    by_cases h2 : y = b
    · rw [if_pos h2, show (y == b) = true from by simpa using h2]
    · rw [if_neg h2, if_neg h, show (y == b) = false from by simpa using h2]
section
variable {P : Program} {w : World} {K : PySem.W.Frag} {mg : PySem.Str → Option Value} {base : Heap}
theorem x_LastPart (pg : Pg K mg base) : DfX P w K (clK K) mg 14 "LastPart" ["part"] := by
  obtain ⟨fd, F⟩ := pg.def_ 76 (d := dd_LastPart_ddinitdd)
  refine ⟨_, _, _, _, _, pg.xLast, PySem.F.excBase_RuntimeError, pg.glo 80, by decide, fun vs hl => ?_⟩
  match vs, hl with
  | [v], _ => rw [look1]; exact PySem.XcG.init_LastPart F pg.xLast PySem.F.store_RuntimeError v
theorem x_SharedPart (pg : Pg K mg base) : DfX P w K (clK K) mg 11 "SharedPart" ["part"] := by
  obtain ⟨fd, F⟩ := pg.def_ 73 (d := dd_SharedPart_ddinitdd)
  refine ⟨_, _, _, _, _, pg.xShared, PySem.F.excBase_ValueError, pg.glo 77, by decide, fun vs hl => ?_⟩
  match vs, hl with
  | [v], _ => rw [look1]; exact PySem.XcG.init_SharedPart F pg.xShared PySem.F.store_ValueError v
theorem x_TooMany (pg : Pg K mg base) : DfX P w K (clK K) mg 15 "TooMany" ["what", "limit"] := by
  obtain ⟨fd, F⟩ := pg.def_ 77 (d := dd_TooMany_ddinitdd)
  refine ⟨_, _, _, _, _, pg.xMany, PySem.F.excBase_ArithmeticError, pg.glo 81, by decide, fun vs hl => ?_⟩
  match vs, hl with
  | [v, u], _ => rw [look2 (by decide)]; exact PySem.XcG.init_TooMany F pg.xMany PySem.F.store_ArithmeticError v u
end
end G
end

section
set_option Elab.async false
set_option linter.all false
set_option maxRecDepth 100000
set_option maxHeartbeats 4000000
namespace DL
open PySem PySem.Spec PyProof.Rows L2
theorem xfOf {K : PySem.W.Frag} {C fI : Addr} {tl : List Value} {newId : String} {ns : List PySem.Str} (T : PySem.XcG.XT K C fI tl newId ns) : XfC K C := ⟨T.ga, T.gg, T.exC, T.hdC⟩
section
variable {K : PySem.W.Frag} {cl : ClA} {i : Nat} {a : Addr} {cls : Value} {d : Option Addr} {c c2 : Nat} {as : List (PySem.Str × D)} {dv : D} {f f2 : PySem.Str}
def g1 (f : PySem.Str) (as : List (PySem.Str × D)) : Option D := as.lookup f
def g2 (f f2 : PySem.Str) (as : List (PySem.Str × D)) : Option D := (as.lookup f).bind fun v => (as.lookup f2).map fun u => D.lst [v, u]
def gI (f : PySem.Str) (as : List (PySem.Str × D)) : Option D := (as.lookup f).map fun v => D.lst [v, .bl true]
theorem wxa_1 (h : g1 f as = some dv) : WXa K cl (tXf a cls d (cl c) f (tVar i)) i a cls d c as dv := wxa_fld h
theorem wxa_2 (h : g2 f f2 as = some dv) : WXa K cl (tLst (tCons (tXf a cls d (cl c) f (tVar i)) (tCons (tXf a cls d (cl c) f2 (tVar i)) tNil))) i a cls d c as dv := by
  obtain ⟨v, h1, h2⟩ := Option.bind_eq_some_iff.mp h
  obtain ⟨u, h3, rfl⟩ := Option.map_eq_some_iff.mp h2
  exact wxa_lst (wxas_cons (wxa_fld h1) (wxas_cons (wxa_fld h3) wxas_nil)) (by rw [sizeLine_eq]; show 2 ≤ 16777216; decide)
theorem wxa_I (hk : PySem.W.kitOne K (.ref (cl c)) (.ref (cl c2)) = some true) (h : gI f as = some dv) : WXa K cl (tLst (tCons (tXf a cls d (cl c) f (tVar i)) (tCons (tIs K cl c c2 i a cls d) tNil))) i a cls d c as dv := by
  obtain ⟨v, h1, rfl⟩ := Option.map_eq_some_iff.mp h
  exact wxa_lst (wxas_cons (wxa_fld h1) (wxas_cons (wxa_is hk) wxas_nil)) (by rw [sizeLine_eq]; show 2 ≤ 16777216; decide)
end
end DL
end

section
set_option Elab.async false
set_option linter.all false
set_option maxRecDepth 100000
set_option maxHeartbeats 4000000
namespace DL
open PySem PySem.Spec PyProof.Rows L2
/-! ## the end: the law's def by its mirror -/
/-- the mirror says: true, at the script -/
def SaysTrue (m : ME) (ns : List Int) : Prop := ∃ Γ', m [some (.dat (.scr ns))] = .ok (.dat (.bl true)) Γ'
section
variable {P : Program} {w : World} {K : PySem.W.Frag} {cl : ClA} {mg mb : PySem.Str → Option Value} {k : Nat} {fa a : Addr} {fd : FuncData} {x : PySem.Str} {m : ME} {s₁ : Shared} {vs : List Value} {ns : List Int}
theorem from_heap (F : ∀ base : Heap, K.In base → base.Ns mainGlobals mg → FnG P w K cl mg base k fa fd [x] m) (inK : K.In s₁.heap) (glb : s₁.heap.Ns mainGlobals mg)
    (blt : s₁.heap.Ns builtinsNs mb) (blt2 : ∀ x : PySem.Str, x ≠ "__name__" → mb x = bootBuiltins x) (nolim : s₁.heap.NoLimit) (gen0 : s₁.gens = #[])
    (at_a : s₁.heap.get? a = some { cls := .type "list", data := .seq vs.toArray }) (room : Room k callerA) (gds : callerA.guards = some [])
    (bnd : ∀ (s : Shared) (u : Value), BindsTo s fd ⟨[u], []⟩ [(x, u)]) (says : SaysTrue m ns)
    (H : Hp) (only : Only H) (sq : SqL K H a (ns.map V.int)) (okH : HOk P w H s₁.heap) (just : ∀ b, H b ≠ none → b = a) (notK : H a ≠ none → K.lookup a = none) :
    codeAny (model P w) callerA (.call (.ref fa) ⟨[.ref a], []⟩)
      (fun r s' => r = .ok (.ret (.bool true)) ∧ OldK s₁.heap s'.heap ∧ s'.os = s₁.os ∧ AllBare s'.gens) s₁ := by
  have hid : ∀ {b : Addr} {o : Obj}, s₁.heap.get? b = some o → H b = none → (hidT s₁.heap H).get? b = some o :=
    fun e n => hidT_get e n
  have free : ∀ {b : Addr}, (b = a → False) → H b = none := fun {b} h => by
    cases q : H b with
    | none => rfl
    | some u => exact (h (just b (by rw [q]; simp))).elim
  have noDict : ∀ {b : Addr} {o : Obj} {es : Array DictEntry} {ep : Nat}, s₁.heap.get? b = some o → o.data = .dict es ep → H b = none :=
    fun {b o es ep} e d => free fun z => by
      subst z
      rw [at_a] at e; cases e
      have d2 : Data.seq vs.toArray _ = Data.dict es ep := d
      cases d2
  have nsB : ∀ {b : Addr} {g : PySem.Str → Option Value}, s₁.heap.Ns b g → (hidT s₁.heap H).Ns b g :=
    fun {b g} ⟨o, es, ep, e, d, r⟩ => ⟨o, es, ep, hid e (noDict e d), d, r⟩
  have inB : K.In (hidT s₁.heap H) := fun b o e => hid (inK b o e) (by
    cases q : H b with
    | none => rfl
    | some u =>
      obtain rfl := just b (by rw [q]; simp)
      rw [notK (by rw [q]; simp)] at e; cases e)
  have modB : Mod K mg (hidT s₁.heap H) :=
    ⟨inB, nsB glb, ⟨mb, nsB blt, blt2⟩, let ⟨mc, h1, h2⟩ := nolim; ⟨mc, nsB h1, h2⟩⟩
  have env : Env0 P w K mg (hidT s₁.heap H) callerA [] s₁ H :=
    ⟨rfl, modB, fun b o e => of_hidT e, Nat.le_of_eq (hidT_size _ _), trivial,
      fun b hb => absurd (show b ∈ ([] : List Addr) from hb) (by simp), okH, .of_eq gen0⟩
  obtain ⟨Γ', em⟩ := says
  have rel : Rel K cl [some (.dat (.scr ns))] H ([V.ref a].map some) H := by
    refine ⟨.refl _, rfl, fun i s hs => ?_, fun i j k k' d d' v h1 => ?_⟩
    · cases i with
      | zero => cases hs; exact ⟨_, rfl, .scr sq⟩
      | succ i => cases hs
    · cases i with
      | zero => cases h1
      | succ i => cases h1
  have want : Wants K cl [some (.dat (.scr ns))] H ([V.ref a].map some) H (PSv K cl [some (.dat (.scr ns))] ([V.ref a].map some) H) (fun _ _ _ => False) (m [some (.dat (.scr ns))]) (fun v _ => v = .bl true) := by
    refine ⟨rel, fun s Γ1 e v Hf' H' st t => ?_, fun c as Γ1 e => ?_, fun e => ?_⟩
    · rw [em] at e; cases e
      cases (show Den K cl Hf' v (.bl true) from t)
      rfl
    · rw [em] at e; cases e
    · rw [em] at e; cases e
  refine codeAny_mono ((F _ inB (nsB glb)).run callerA [] s₁ H ⟨[.ref a], []⟩ [.ref a] [.ref a] _ H _ _
    room gds env (bnd s₁ (.ref a)) (.cons rfl .nil) rfl want) fun r s' out => ?_
  cases r with
  | error e =>
    obtain ⟨_, _, _, _, _, _, _, _, _, _, _, _, z⟩ := out
    exact z.elim
  | ok fl =>
    cases fl with
    | next => exact out.elim
    | brk => exact out.elim
    | cont => exact out.elim
    | ret u =>
      obtain ⟨v, H', os, bare, un, ok2, rv, q⟩ := out
      obtain rfl : v = .bl true := q
      obtain rfl : u = Value.bool true := rv
      refine ⟨rfl, OldK.of_keep fun b o e => ?_, os, bare⟩
      cases q : H b with
      | none => exact un.keep b o e q (fun z => absurd (show b ∈ ([] : List Addr) from z) (by simp)) (by simp)
      | some u =>
        rcases only b with z | ⟨ob, xs, z⟩
        · rw [q] at z; cases z
        · obtain ⟨e1, _⟩ := okH b _ z
          obtain ⟨e2, _⟩ := ok2 b _ (un.frzs b ob _ z)
          rw [e] at e1; cases e1
          exact e2
theorem law_goes (F : ∀ base : Heap, K.In base → base.Ns mainGlobals mg → FnG P w K cl mg base k fa fd [x] m) (inK : K.In s₁.heap) (glb : s₁.heap.Ns mainGlobals mg)
    (blt : s₁.heap.Ns builtinsNs mb) (blt2 : ∀ x : PySem.Str, x ≠ "__name__" → mb x = bootBuiltins x) (nolim : s₁.heap.NoLimit) (gen0 : s₁.gens = #[])
    (at_a : s₁.heap.get? a = some { cls := .type "list", data := .seq vs.toArray }) (hints : IntsAre vs ns) (few : ns.length ≤ sizeLine) (room : Room k callerA) (gds : callerA.guards = some [])
    (bnd : ∀ (s : Shared) (u : Value), BindsTo s fd ⟨[u], []⟩ [(x, u)]) (says : SaysTrue m ns) :
    codeAny (model P w) callerA (.call (.ref fa) ⟨[.ref a], []⟩)
      (fun r s' => r = .ok (.ret (.bool true)) ∧ OldK s₁.heap s'.heap ∧ s'.os = s₁.os ∧ AllBare s'.gens) s₁ := by
  have vals := vals_ints hints
  have len := hints.length
  cases own : K.lookup a with
  | some o =>
    have e := inK a o own
    rw [at_a] at e
    cases e
    refine from_heap F inK glb blt blt2 nolim gen0 at_a room gds bnd says (fun _ => none) (fun _ => .inl rfl)
      (.inr ⟨_, vs.toArray, _, own, rfl, rfl, rfl, by rw [List.size_toArray, len]; exact few, by simpa using vals⟩)
      (fun b u z => by cases (show (none : Option HO) = some u from z)) (fun b z => absurd rfl z) fun z => absurd rfl z
  | none =>
    refine from_heap F inK glb blt blt2 nolim gen0 at_a room gds bnd says
      (fun b => if b = a then some (.frz { cls := .type "list", data := .seq vs.toArray } (.lst (ns.map V.int))) else none)
      (fun b => ?_) (.inl (.inr ⟨{ cls := .type "list", data := .seq vs.toArray }, if_pos rfl⟩)) (fun b u z => ?_) (fun b z => ?_) fun _ => own
    · by_cases hb : b = a
      · exact .inr ⟨_, _, if_pos hb⟩
      · exact .inl (if_neg hb)
    · by_cases hb : b = a
      · have z2 := (if_pos hb).symm.trans z
        cases z2
        subst hb
        exact ⟨at_a, by rw [List.length_map]; exact few, vs, _, vals, at_a⟩
      · have z2 := (if_neg hb).symm.trans z
        cases z2
    · by_cases hb : b = a
      · exact hb
      · exact absurd (if_neg hb) z
end
theorem walk_G {l : PySem.W.OpenLaw} {n k : Nat} {q : Program} {loose : List PySem.Str} {XP : (PySem.Str → Option Value) → Heap → Prop} {YP : World → Heap → Prop} {d : DefRec} {x : PySem.Str} {m : ME}
    (hn : l.most = some n) (hn2 : n ≤ sizeLine) (hdf : d.params.defaults = []) (room : Room k callerA) (gds : callerA.guards = some [])
    (F : ∀ (w : World) (mg : PySem.Str → Option Value) (fa : Addr) (h : Heap), YP w h → h.Ns mainGlobals mg → mg d.name = some (.ref fa) →
      ∃ (K : PySem.W.Frag) (cl : ClA) (fd : FuncData), K.In h ∧ (∀ (s : Shared) (u : Value), BindsTo s fd ⟨[u], []⟩ [(x, u)]) ∧ ∀ base : Heap, K.In base → base.Ns mainGlobals mg → FnG l.prog w K cl mg base k fa fd [x] m)
    (says : ∀ ns : List Int, ns.length ≤ n → (∀ k ∈ ns, Builtin.Int.intBits k ≤ 1048576) → SaysTrue m ns) :
    PySem.W.WalkO q loose XP YP l.row.toRowW d [] (fun f vs => PySem.call f vs) := by
  refine Att.attach_callB hn hdf fun w s₀ s₁ mg mb fa o pm cd doc a vs ns G Y _ _ _ hmg at_a hints len bits gen0 => ?_
  obtain ⟨K, cl, fd, inK, bnd, go⟩ := F w mg fa _ Y G.T.g hmg
  exact law_goes go inK G.T.g G.T.b G.T.builtins G.T.nolimit gen0 at_a hints (Nat.le_trans len hn2) room gds bnd (says ns len bits)
end DL
end

section
set_option Elab.async false
set_option linter.all false
set_option maxRecDepth 100000
set_option maxHeartbeats 8000000
open PySem PySem.W PySem.Calls PyProof.Rows
theorem the_end {k : Nat} {m : DL.ME} (room : L2.Room k callerA)
    (go : ∀ {P : Program} {w : World} {K : PySem.W.Frag} {mg : PySem.Str → Option Value} {base : Heap} {fd : FuncData}, Hd.Pg K mg base → L2.FunD K Hd.dd_law.name Hd.dd_law.qual Hd.dd_law.params Hd.dd_law.body Hd.dd_law.scope (Hd.dd_law.dvs K) (Hd.dd_law.kws K) (He.fAd K Hd.dd_law.at_) fd →
      DL.FnG P w K (Hd.clK K) mg base k (He.ga K "law") fd ["_law_script"] m)
    (says : ∀ ns : List Int, ns.length ≤ 63 → (∀ k ∈ ns, Builtin.Int.intBits k ≤ 1048576) → DL.SaysTrue m ns) : PySem.Challenge.rw_leadrules_k83_whole_plans_otherwise.Holds := by
  w_on; o_law
  refine HandSHeadRun.head_any (r := OpenLaw.row PySem.Challenge.rw_leadrules_k83_whole_plans_otherwise) (q := view (OpenLaw.row PySem.Challenge.rw_leadrules_k83_whole_plans_otherwise).prog [93]) (H := Hd.hk) (ob := Hd.ob) (M := 7100) (loose := Hd.nml)
    (d := HandSHeadRun.topDef (OpenLaw.row PySem.Challenge.rw_leadrules_k83_whole_plans_otherwise).prog 93) (kwd := []) Hd.ob_eq
    (by kernel_rfl) (fun s => by kernel_rfl) Hd.run (by kernel_rfl) (by kernel_rfl) (by kernel_rfl) (by rfl) (by first | assumption | decide +kernel) (by decide +kernel) ⟨rfl, rfl, rfl, rfl, rfl, by decide +kernel⟩ ?hw ?hc
  case hw => w_witness2
  case hc =>
    refine DL.walk_G (l := PySem.Challenge.rw_leadrules_k83_whole_plans_otherwise) (n := 63) (k := k) (x := "_law_script") (m := m) rfl (by decide) (by kernel_rfl) room rfl ?F says
    intro w mg fa h Y G hmg0
    obtain ⟨K, KX, c⟩ := Y
    have hmg : mg ("law" : PySem.Str) = some (.ref fa) := by
      have e : (HandSHeadRun.topDef (OpenLaw.row PySem.Challenge.rw_leadrules_k83_whole_plans_otherwise).prog 93).name = ("law" : PySem.Str) := by kernel_rfl
      rw [← e]
      exact hmg0
    have pg : Hd.Pg K mg h := ⟨c, KX, G⟩
    obtain ⟨fd, F⟩ := pg.def_ 65 (d := Hd.dd_law)
    have e := hmg.symm.trans (pg.glo 65)
    cases e
    have b := L2.FunD.bindsA (ps := ["_law_script"]) F fun _ _ _ _ _ _ us hl => match us, hl with | [_], _ => rfl
    exact ⟨K, Hd.clK K, fd, KX, fun s v => b s [v] rfl, fun base i n => go ⟨c, i, n⟩ F⟩
end

section
set_option Elab.async false
set_option linter.all false
set_option maxRecDepth 100000
set_option maxHeartbeats 2000000
namespace G
open PySem PySem.Spec PyProof.Rows L2 DL Hd
/-! l_draw -/
theorem sc_l_draw : FnScope ["_law_pot_here", "_law_many", "_law_digit"] ["_law_pot_here", "_law_many"] (defScope st_l_draw) := ⟨rfl, rfl, rfl, by decide +kernel, rfl, by decide +kernel, by decide +kernel⟩
def b_l_draw : MS := (mSq (mIfS (mBl (toD (mBin dGt (mIxN 0 (mC (.int 0))) (mC (.int 0))))) (mSq (mAsg (mBin dDivmod (mIxN 0 (mC (.int 0))) (mPk 1)) (gTp 2 (gCons (gSb 0 (mC (.int 0))) (gCons (gNm 2) gNil)))) (mRet (mMv 2))) mNx) (mSq (mAsg (mBin dMod (toD (mC1 dIntC1 (toD (mBin dAdd (toD (mBin dMul (mIxN 0 (mC (.int 1))) (mC (.int 48271)))) (mC (.int 41)))))) (mC (.int 2147483587))) (gSb 0 (mC (.int 1)))) (mRet (mBin dMod (toD (mC1 dIntC1 (toD (mBin dDiv (toD (mBin dMod (toD (mC1 dIntC1 (toD (mBin dMul (mIxN 0 (mC (.int 1))) (mIxN 0 (mC (.int 1))))))) (mC (.int 2147483549)))) (mC (.int 11)))))) (mPk 1)))))
def m_l_draw : ME := mFn 3 b_l_draw
set_option maxHeartbeats 4000000 in
theorem f_l_draw {P : Program} {w : World} {K : PySem.W.Frag} {mg : PySem.Str → Option Value} {base : Heap} (pg : Pg K mg base) {fd : FuncData} (F : FunD K dd_l_draw.name dd_l_draw.qual dd_l_draw.params dd_l_draw.body dd_l_draw.scope (dd_l_draw.dvs K) (dd_l_draw.kws K) (He.fAd K dd_l_draw.at_) fd) : FnG P w K (clK K) mg base 1 (He.ga K "_law_draw") fd ["_law_pot_here", "_law_many"] m_l_draw := by
  refine FnG.of F sc_l_draw fun cdv A fr s H E hr gds => ?_
  have hN := sc_l_draw.nd
  have hu64 := hr.units
  have hu1 : _ + 1 < cLine := Nat.lt_of_le_of_lt (Nat.add_le_add_left (by decide : 1 ≤ 64) _) hu64
  exact (dss_cons (ds_if (dt_gt (dd_ixN hu1 0 dd_int) (DD.toR dd_int)) (dss_cons (ds_asg (de_b2 call_divmod ca_divmod (dd_ixN hu1 0 dd_int) (dr_pk 1) rfl (pg.free 92) (by decide +kernel)) (dg_tup rfl (dgs_cons (dg_sub (W := W0) 0 hu1 dd_int) (dgs_cons (dg_name 2 hN) dgs_nil)))) (dss_one (ds_ret (de_mv 2)))) dss_nil) (dss_cons (ds_asg (de_mod (DE.toD (de_t1 call_int1 ca_int (DE.toR (de_add (DE.toD (de_mul (dd_ixN hu1 0 dd_int) (DD.toR dd_int))) (DD.toR dd_int))) rfl (pg.free 94) (by decide +kernel))) (DD.toR dd_int)) (DG.top (dg_sub (W := W0) 0 hu1 dd_int))) (dss_one (ds_ret (de_mod (DE.toD (de_t1 call_int1 ca_int (DE.toR (de_div (DE.toD (de_mod (DE.toD (de_t1 call_int1 ca_int (DE.toR (de_mul (dd_ixN hu1 0 dd_int) (DD.toR (dd_ixN hu1 0 dd_int)))) rfl (pg.free 94) (by decide +kernel))) (DD.toR dd_int))) (DD.toR dd_int))) rfl (pg.free 94) (by decide +kernel))) (dr_pk 1))))))
theorem g_l_draw {P : Program} {w : World} {K : PySem.W.Frag} {mg : PySem.Str → Option Value} {base : Heap} (pg : Pg K mg base) : Df P w K (clK K) mg base 1 "_law_draw" ["_law_pot_here", "_law_many"] m_l_draw := by
  obtain ⟨fd, F⟩ := pg.def_ 41 (d := dd_l_draw)
  exact ⟨fd, f_l_draw pg F, F.bindsN fun _ _ _ _ _ _ us hl => match us, hl with | [_, _], _ => rfl, F.kp, pg.glo 41⟩
/-! l_mixed -/
theorem sc_l_mixed : FnScope ["_law_pot_here", "_law_some", "_law_left", "_law_found", "_law_turn"] ["_law_pot_here", "_law_some"] (defScope st_l_mixed) := ⟨rfl, rfl, rfl, by decide +kernel, rfl, by decide +kernel, by decide +kernel⟩
def b_l_mixed : MS := (mSq (mPar 2 3 (mECons (mC1 dList (mPk 1)) (mECons (mLst mNil) mENil))) (mSq (mFor (mRng1 (mCons (toD (mC1 dLen (mPk 2))) mNil)) (gNm 4) (mDrop (mM "list" 3 fAppend (mCons (toD (mM "list" 2 fPopAt (mCons (toD (mCallN 2 m_l_draw (mAr 0 .brw (mAv (toD (mC1 dLen (mPk 2))) mAn)))) mNil))) mNil)))) (mRet (mMv 3))))
def m_l_mixed : ME := mFn 5 b_l_mixed
set_option maxHeartbeats 4000000 in
theorem f_l_mixed {P : Program} {w : World} {K : PySem.W.Frag} {mg : PySem.Str → Option Value} {base : Heap} (pg : Pg K mg base) {fd : FuncData} (F : FunD K dd_l_mixed.name dd_l_mixed.qual dd_l_mixed.params dd_l_mixed.body dd_l_mixed.scope (dd_l_mixed.dvs K) (dd_l_mixed.kws K) (He.fAd K dd_l_mixed.at_) fd) : FnG P w K (clK K) mg base 2 (He.ga K "_law_mixed") fd ["_law_pot_here", "_law_some"] m_l_mixed := by
  refine FnG.of F sc_l_mixed fun cdv A fr s H E hr gds => ?_
  have hN := sc_l_mixed.nd
  have hu64 := hr.units
  have hu1 : _ + 1 < cLine := Nat.lt_of_le_of_lt (Nat.add_le_add_left (by decide : 1 ≤ 64) _) hu64
  exact (dss_cons (ds_par 2 3 rfl hN (des_cons (de_t1 (CallR.or call_list_of (call_listD rfl)) ca_list (dr_pk 1) rfl (pg.free 97) (by decide +kernel)) (des_cons (de_lst das_nil) des_nil))) (dss_cons (ds_for (passes_of rfl) rfl (di_range1 rfl (pg.free 101) (das_cons (DE.toD (de_b1 call_lenW ca_len (dr_pk 2) rfl (pg.free 96) (by decide +kernel))) das_nil)) (DG.top (dg_name 4 hN)) (dss_one (ds_expr (de_append 3 (das_cons (DE.toD (de_popAt 2 (das_cons (DE.toD (de_callF (ps := ["_law_pot_here", "_law_many"]) (Df.mono (g_l_draw pg) (by decide)) hr gds (takes_of rfl rfl rfl rfl) (da_r 0 .brw (da_v (DE.toD (de_b1 call_lenW ca_len (dr_pk 2) rfl (pg.free 96) (by decide +kernel))) da_nil)))) das_nil))) das_nil))))) (dss_one (ds_ret (de_mv 3)))))
theorem g_l_mixed {P : Program} {w : World} {K : PySem.W.Frag} {mg : PySem.Str → Option Value} {base : Heap} (pg : Pg K mg base) : Df P w K (clK K) mg base 2 "_law_mixed" ["_law_pot_here", "_law_some"] m_l_mixed := by
  obtain ⟨fd, F⟩ := pg.def_ 43 (d := dd_l_mixed)
  exact ⟨fd, f_l_mixed pg F, F.bindsN fun _ _ _ _ _ _ us hl => match us, hl with | [_, _], _ => rfl, F.kp, pg.glo 43⟩
/-! l_pick -/
theorem sc_l_pick : FnScope ["_law_pot_here", "_law_some"] ["_law_pot_here", "_law_some"] (defScope st_l_pick) := ⟨rfl, rfl, rfl, by decide +kernel, rfl, by decide +kernel, by decide +kernel⟩
def b_l_pick : MS := (mRet (ofD (mIxN 1 (toD (mCallN 2 m_l_draw (mAr 0 .brw (mAv (toD (mC1 dLen (mPk 1))) mAn)))))))
def m_l_pick : ME := mFn 2 b_l_pick
set_option maxHeartbeats 4000000 in
theorem f_l_pick {P : Program} {w : World} {K : PySem.W.Frag} {mg : PySem.Str → Option Value} {base : Heap} (pg : Pg K mg base) {fd : FuncData} (F : FunD K dd_l_pick.name dd_l_pick.qual dd_l_pick.params dd_l_pick.body dd_l_pick.scope (dd_l_pick.dvs K) (dd_l_pick.kws K) (He.fAd K dd_l_pick.at_) fd) : FnG P w K (clK K) mg base 2 (He.ga K "_law_pick") fd ["_law_pot_here", "_law_some"] m_l_pick := by
  refine FnG.of F sc_l_pick fun cdv A fr s H E hr gds => ?_
  have hN := sc_l_pick.nd
  have hu64 := hr.units
  have hu1 : _ + 1 < cLine := Nat.lt_of_le_of_lt (Nat.add_le_add_left (by decide : 1 ≤ 64) _) hu64
  exact (dss_one (ds_ret (DD.toE (dd_ixN hu1 1 (DE.toD (de_callF (ps := ["_law_pot_here", "_law_many"]) (Df.mono (g_l_draw pg) (by decide)) hr gds (takes_of rfl rfl rfl rfl) (da_r 0 .brw (da_v (DE.toD (de_b1 call_lenW ca_len (dr_pk 1) rfl (pg.free 96) (by decide +kernel))) da_nil))))))))
theorem g_l_pick {P : Program} {w : World} {K : PySem.W.Frag} {mg : PySem.Str → Option Value} {base : Heap} (pg : Pg K mg base) : Df P w K (clK K) mg base 2 "_law_pick" ["_law_pot_here", "_law_some"] m_l_pick := by
  obtain ⟨fd, F⟩ := pg.def_ 42 (d := dd_l_pick)
  exact ⟨fd, f_l_pick pg F, F.bindsN fun _ _ _ _ _ _ us hl => match us, hl with | [_, _], _ => rfl, F.kp, pg.glo 42⟩
/-! l_plan -/
theorem sc_l_plan : FnScope ["_law_pot_here", "_law_most", "_law_names", "_law_found", "_law_spot", "_law_name", "_law_needs", "_law_other"] ["_law_pot_here", "_law_most"] (defScope st_l_plan) := ⟨rfl, rfl, rfl, by decide +kernel, rfl, by decide +kernel, by decide +kernel⟩
def b_l_plan : MS := (mSq (mPar 2 3 (mECons (mSl (toD (mCallN 2 m_l_mixed (mAr 0 .brw (mAv (toD (mLst (mCons (mC (.str "ax")) (mCons (mC (.str "b")) (mCons (mC (.str "cog")) (mCons (mC (.str "d")) (mCons (mC (.str "eel")) mNil))))))) mAn)))) mON (mOS (toD (mBin dAdd (mC (.int 1)) (toD (mCallN 2 m_l_draw (mAr 0 .brw (mAv (mVar 1) mAn)))))))) (mECons mDic0 mENil))) (mSq (mFor (mEnum (mVar 2)) (gTp 2 (gCons (gNm 4) (gCons (gNm 5) gNil))) (mSq (mAsg (mC1 dSorted (toD (mLc (mSeq (toD (mSlN 2 mON (mOS (mPk 4))))) (gNm 7) (mBl (toD (mBin dEq (toD (mCallN 2 m_l_draw (mAr 0 .brw (mAv (mC (.int 2)) mAn)))) (mC (.int 0))))) (mVar 7) [7]))) (gNm 6)) (mAsg (ofD (mTup (mCons (toD (mCallN 2 m_l_pick (mAr 0 .brw (mAv (toD (mLst (mCons (mC (.str "a")) (mCons (mC (.str "a")) (mCons (mC (.str "b")) (mCons (mC (.str "c")) mNil)))))) mAn)))) (mCons (toD (mCallN 2 m_l_pick (mAr 0 .brw (mAv (toD (mLst (mCons (mC (.int 0)) (mCons (mC (.int 0)) (mCons (mC (.int 1)) (mCons (mC (.int 2)) (mCons (mC (.int 3)) mNil))))))) mAn)))) (mCons (mVar 6) mNil))))) (gSb 3 (mVar 5))))) (mRet (mMv 3))))
def m_l_plan : ME := mFn 8 b_l_plan
set_option maxHeartbeats 4000000 in
theorem f_l_plan {P : Program} {w : World} {K : PySem.W.Frag} {mg : PySem.Str → Option Value} {base : Heap} (pg : Pg K mg base) {fd : FuncData} (F : FunD K dd_l_plan.name dd_l_plan.qual dd_l_plan.params dd_l_plan.body dd_l_plan.scope (dd_l_plan.dvs K) (dd_l_plan.kws K) (He.fAd K dd_l_plan.at_) fd) : FnG P w K (clK K) mg base 3 (He.ga K "_law_plan") fd ["_law_pot_here", "_law_most"] m_l_plan := by
  refine FnG.of F sc_l_plan fun cdv A fr s H E hr gds => ?_
  have hN := sc_l_plan.nd
  have hu64 := hr.units
  have hu1 : _ + 1 < cLine := Nat.lt_of_le_of_lt (Nat.add_le_add_left (by decide : 1 ≤ 64) _) hu64
  exact (dss_cons (ds_par 2 3 rfl hN (des_cons (de_sl (DE.toD (de_callF (ps := ["_law_pot_here", "_law_some"]) (Df.mono (g_l_mixed pg) (by decide)) hr gds (takes_of rfl rfl rfl rfl) (da_r 0 .brw (da_v (DE.toD (de_lst (das_cons dd_str (das_cons dd_str (das_cons dd_str (das_cons dd_str (das_cons dd_str das_nil))))))) da_nil)))) do_none (do_some (DE.toR (de_add dd_int (DE.toR (de_callF (ps := ["_law_pot_here", "_law_many"]) (Df.mono (g_l_draw pg) (by decide)) hr gds (takes_of rfl rfl rfl rfl) (da_r 0 .brw (da_v (dd_var 1) da_nil)))))))) (des_cons de_dic0 des_nil))) (dss_cons (ds_for (passes_of rfl) rfl (di_enum rfl (pg.free 93) (dd_var 2)) (dg_tup rfl (dgs_cons (dg_name 4 hN) (dgs_cons (dg_name 5 hN) dgs_nil))) (dss_cons (ds_set 6 hN (de_b1 (call_sortedW rfl) ca_sorted (DE.toR (de_lc (own := [("_law_other", 7)]) rfl hN (di_seq (DE.toD (de_slN 2 do_none (do_some (dr_pk 4))))) (blk_ok (by kernel_rfl)) (fun _ _ _ _ _ => (dgc_name 7 hN)) (fun _ _ _ _ _ => (dts_one (dt_eq pg.sys hu64 (DE.toD (de_callF (ps := ["_law_pot_here", "_law_many"]) (Df.mono (g_l_draw pg) (by decide)) hr gds DL.takes0 (da_r 0 .brw (da_v dd_int da_nil)))) (DD.toR dd_int)))) (fun _ _ _ _ _ => (dd_var 7)))) rfl (pg.free 104) (by decide +kernel))) (dss_one (ds_asg (DD.toE (dd_tup (das_cons (DE.toD (de_callF (ps := ["_law_pot_here", "_law_some"]) (Df.mono (g_l_pick pg) (by decide)) hr gds (takes_of rfl rfl rfl rfl) (da_r 0 .brw (da_v (DE.toD (de_lst (das_cons dd_str (das_cons dd_str (das_cons dd_str (das_cons dd_str das_nil)))))) da_nil)))) (das_cons (DE.toD (de_callF (ps := ["_law_pot_here", "_law_some"]) (Df.mono (g_l_pick pg) (by decide)) hr gds (takes_of rfl rfl rfl rfl) (da_r 0 .brw (da_v (DE.toD (de_lst (das_cons dd_int (das_cons dd_int (das_cons dd_int (das_cons dd_int (das_cons dd_int das_nil))))))) da_nil)))) (das_cons (dd_var 6) das_nil))))) (DG.top (dg_sub (W := W0) 3 hu1 (dd_var 5))))))) (dss_one (ds_ret (de_mv 3)))))
theorem g_l_plan {P : Program} {w : World} {K : PySem.W.Frag} {mg : PySem.Str → Option Value} {base : Heap} (pg : Pg K mg base) : Df P w K (clK K) mg base 3 "_law_plan" ["_law_pot_here", "_law_most"] m_l_plan := by
  obtain ⟨fd, F⟩ := pg.def_ 49 (d := dd_l_plan)
  exact ⟨fd, f_l_plan pg F, F.bindsN fun _ _ _ _ _ _ us hl => match us, hl with | [_, _], _ => rfl, F.kp, pg.glo 49⟩
/-! l_said -/
theorem sc_l_said : FnScope ["_law_pot_here", "_law_plan_here", "_law_found", "_law_name", "_law_rule_here", "_law_count", "_law_needs"] ["_law_pot_here", "_law_plan_here"] (defScope st_l_said) := ⟨rfl, rfl, rfl, by decide +kernel, rfl, by decide +kernel, by decide +kernel⟩
def b_l_said : MS := (mSq (mAsg mDic0 (gNm 2)) (mSq (mFor (mSeq (toD (mCallN 2 m_l_mixed (mAr 0 .brw (mAv (toD (mC1 dList (mPk 1))) mAn))))) (gNm 3) (mSq (mAsg (ofD (mIxN 1 (mVar 3))) (gTp 3 (gCons (gNm 4) (gCons (gNm 5) (gCons (gNm 6) gNil))))) (mAsg (ofD (mTup (mCons (mVar 4) (mCons (mVar 5) (mCons (toD (mIf (mBl (toD (mBin dEq (toD (mCallN 2 m_l_draw (mAr 0 .brw (mAv (mC (.int 2)) mAn)))) (mC (.int 0))))) (mC1 dList (mPk 6)) (mC1 dTuple (mPk 6)))) mNil))))) (gSb 2 (mVar 3))))) (mRet (mMv 2))))
def m_l_said : ME := mFn 7 b_l_said
set_option maxHeartbeats 4000000 in
theorem f_l_said {P : Program} {w : World} {K : PySem.W.Frag} {mg : PySem.Str → Option Value} {base : Heap} (pg : Pg K mg base) {fd : FuncData} (F : FunD K dd_l_said.name dd_l_said.qual dd_l_said.params dd_l_said.body dd_l_said.scope (dd_l_said.dvs K) (dd_l_said.kws K) (He.fAd K dd_l_said.at_) fd) : FnG P w K (clK K) mg base 3 (He.ga K "_law_said") fd ["_law_pot_here", "_law_plan_here"] m_l_said := by
  refine FnG.of F sc_l_said fun cdv A fr s H E hr gds => ?_
  have hN := sc_l_said.nd
  have hu64 := hr.units
  have hu1 : _ + 1 < cLine := Nat.lt_of_le_of_lt (Nat.add_le_add_left (by decide : 1 ≤ 64) _) hu64
  exact (dss_cons (ds_set 2 hN de_dic0) (dss_cons (ds_for (passes_of rfl) rfl (di_seq (DE.toD (de_callF (ps := ["_law_pot_here", "_law_some"]) (Df.mono (g_l_mixed pg) (by decide)) hr gds (takes_of rfl rfl rfl rfl) (da_r 0 .brw (da_v (DE.toD (de_t1 (CallR.or call_list_of (call_listD rfl)) ca_list (dr_pk 1) rfl (pg.free 97) (by decide +kernel))) da_nil))))) (DG.top (dg_name 3 hN)) (dss_cons (ds_asg (DD.toE (dd_ixN hu1 1 (dd_var 3))) (dg_tup rfl (dgs_cons (dg_name 4 hN) (dgs_cons (dg_name 5 hN) (dgs_cons (dg_name 6 hN) dgs_nil))))) (dss_one (ds_asg (DD.toE (dd_tup (das_cons (dd_var 4) (das_cons (dd_var 5) (das_cons (DE.toD (de_if (dt_eq pg.sys hu64 (DE.toD (de_callF (ps := ["_law_pot_here", "_law_many"]) (Df.mono (g_l_draw pg) (by decide)) hr gds (takes_of rfl rfl rfl rfl) (da_r 0 .brw (da_v dd_int da_nil)))) (DD.toR dd_int)) (de_t1 (CallR.or call_list_of (call_listD rfl)) ca_list (dr_pk 6) rfl (pg.free 97) (by decide +kernel)) (de_t1 call_tuple_of ca_tuple (dr_pk 6) rfl (pg.free 106) (by decide +kernel)))) das_nil))))) (DG.top (dg_sub (W := W0) 2 hu1 (dd_var 3))))))) (dss_one (ds_ret (de_mv 2)))))
theorem g_l_said {P : Program} {w : World} {K : PySem.W.Frag} {mg : PySem.Str → Option Value} {base : Heap} (pg : Pg K mg base) : Df P w K (clK K) mg base 3 "_law_said" ["_law_pot_here", "_law_plan_here"] m_l_said := by
  obtain ⟨fd, F⟩ := pg.def_ 50 (d := dd_l_said)
  exact ⟨fd, f_l_said pg F, F.bindsN fun _ _ _ _ _ _ us hl => match us, hl with | [_, _], _ => rfl, F.kp, pg.glo 50⟩
/-! comes_to -/
theorem sc_comes_to : FnScope ["plan", "part", "found", "left", "one"] ["plan", "part"] (defScope st_comes_to) := ⟨rfl, rfl, rfl, by decide +kernel, rfl, by decide +kernel, by decide +kernel⟩
def b_comes_to : MS := (mSq (mAsg (mLst mNil) (gNm 2)) (mSq (mAsg (mC1 dList (mIx (mIxN 0 (mVar 1)) (mC (.int 2)))) (gNm 3)) (mSq (mWhile (mTru (mPk 3)) (mSq (mAsg (mM "list" 3 fPop mNil) (gNm 4)) (mIfS (mBl (toD (mBin dNotIn (mVar 4) (mPk 2)))) (mSq (mDrop (mM "list" 2 fAppend (mCons (mVar 4) mNil))) (mDrop (mM "list" 3 fExtend (mCons (mIx (mIxN 0 (mVar 4)) (mC (.int 2))) mNil)))) mNx)) 1000) (mRet (mMv 2)))))
def m_comes_to : ME := mFn 5 b_comes_to
set_option maxHeartbeats 4000000 in
theorem f_comes_to {P : Program} {w : World} {K : PySem.W.Frag} {mg : PySem.Str → Option Value} {base : Heap} (pg : Pg K mg base) {fd : FuncData} (F : FunD K dd_comes_to.name dd_comes_to.qual dd_comes_to.params dd_comes_to.body dd_comes_to.scope (dd_comes_to.dvs K) (dd_comes_to.kws K) (He.fAd K dd_comes_to.at_) fd) : FnG P w K (clK K) mg base 1 (He.ga K "comes_to") fd ["plan", "part"] m_comes_to := by
  refine FnG.of F sc_comes_to fun cdv A fr s H E hr gds => ?_
  have hN := sc_comes_to.nd
  have hu64 := hr.units
  have hu1 : _ + 1 < cLine := Nat.lt_of_le_of_lt (Nat.add_le_add_left (by decide : 1 ≤ 64) _) hu64
  exact (dss_cons (ds_set 2 hN (de_lst das_nil)) (dss_cons (ds_set 3 hN (de_t1 (CallR.or call_list_of (call_listD rfl)) ca_list (DD.toR (dd_ix hu1 (dd_ixN hu1 0 (dd_var 1)) dd_int)) rfl (pg.free 97) (by decide +kernel))) (dss_cons (ds_while 1000 (passes_of rfl) (dt_tru (dr_pk 3)) (dss_cons (ds_set 4 hN (de_pop 3)) (dss_one (ds_if (dt_notIn hu1 (dd_var 4) (dr_pk 2)) (dss_cons (ds_expr (de_append 2 (das_cons (dd_var 4) das_nil))) (dss_one (ds_expr (de_extend 3 (das_cons (dd_ix hu1 (dd_ixN hu1 0 (dd_var 4)) dd_int) das_nil))))) dss_nil)))) (dss_one (ds_ret (de_mv 2))))))
theorem g_comes_to {P : Program} {w : World} {K : PySem.W.Frag} {mg : PySem.Str → Option Value} {base : Heap} (pg : Pg K mg base) : Df P w K (clK K) mg base 1 "comes_to" ["plan", "part"] m_comes_to := by
  obtain ⟨fd, F⟩ := pg.def_ 17 (d := dd_comes_to)
  exact ⟨fd, f_comes_to pg F, F.bindsN fun _ _ _ _ _ _ us hl => match us, hl with | [_, _], _ => rfl, F.kp, pg.glo 17⟩
/-! ringed -/
theorem sc_ringed : FnScope ["plan", "part"] ["plan"] (defScope st_ringed) := ⟨rfl, rfl, rfl, by decide +kernel, rfl, by decide +kernel, by decide +kernel⟩
def b_ringed : MS := (mRet (mLc (mSeq (toD (mC1 dSorted (mPk 0)))) (gNm 1) (mBl (toD (mBin dIn (mVar 1) (toD (mCallN 2 m_comes_to (mAv (mVar 0) (mAv (mVar 1) mAn))))))) (mVar 1) [1]))
def m_ringed : ME := mFn 2 b_ringed
set_option maxHeartbeats 4000000 in
theorem f_ringed {P : Program} {w : World} {K : PySem.W.Frag} {mg : PySem.Str → Option Value} {base : Heap} (pg : Pg K mg base) {fd : FuncData} (F : FunD K dd_ringed.name dd_ringed.qual dd_ringed.params dd_ringed.body dd_ringed.scope (dd_ringed.dvs K) (dd_ringed.kws K) (He.fAd K dd_ringed.at_) fd) : FnG P w K (clK K) mg base 2 (He.ga K "ringed") fd ["plan"] m_ringed := by
  refine FnG.of F sc_ringed fun cdv A fr s H E hr gds => ?_
  have hN := sc_ringed.nd
  have hu64 := hr.units
  have hu1 : _ + 1 < cLine := Nat.lt_of_le_of_lt (Nat.add_le_add_left (by decide : 1 ≤ 64) _) hu64
  exact (dss_one (ds_ret (de_lc (own := [("part", 1)]) rfl hN (di_seq (DE.toD (de_b1 (call_sortedW rfl) ca_sorted (dr_pk 0) rfl (pg.free 104) (by decide +kernel)))) (blk_ok (by kernel_rfl)) (fun _ _ _ _ _ => (dgc_name 1 hN)) (fun _ _ _ _ _ => (dts_one (dt_in hu1 (dd_var 1) (DE.toR (de_callF (ps := ["plan", "part"]) (Df.mono (g_comes_to pg) (by decide)) hr gds DL.takes0 (da_v (dd_var 0) (da_v (dd_var 1) da_nil))))))) (fun _ _ _ _ _ => (dd_var 1)))))
theorem g_ringed {P : Program} {w : World} {K : PySem.W.Frag} {mg : PySem.Str → Option Value} {base : Heap} (pg : Pg K mg base) : Df P w K (clK K) mg base 2 "ringed" ["plan"] m_ringed := by
  obtain ⟨fd, F⟩ := pg.def_ 18 (d := dd_ringed)
  exact ⟨fd, f_ringed pg F, F.bindsN fun _ _ _ _ _ _ us hl => match us, hl with | [_], _ => rfl, F.kp, pg.glo 18⟩
/-! is_letter_of -/
theorem sc_is_letter_of : FnScope ["letters", "value"] ["letters", "value"] (defScope st_is_letter_of) := ⟨rfl, rfl, rfl, by decide +kernel, rfl, by decide +kernel, by decide +kernel⟩
def b_is_letter_of : MS := (mRet (ofD (mAndV (toD (mC1 (dIsi "str") (mPk 1))) (mAndV (toD (mBin dEq (toD (mC1 dLen (mPk 1))) (mC (.int 1)))) (toD (mBin dIn (mVar 1) (mPk 0)))))))
def m_is_letter_of : ME := mFn 2 b_is_letter_of
set_option maxHeartbeats 4000000 in
theorem f_is_letter_of {P : Program} {w : World} {K : PySem.W.Frag} {mg : PySem.Str → Option Value} {base : Heap} (pg : Pg K mg base) {fd : FuncData} (F : FunD K dd_is_letter_of.name dd_is_letter_of.qual dd_is_letter_of.params dd_is_letter_of.body dd_is_letter_of.scope (dd_is_letter_of.dvs K) (dd_is_letter_of.kws K) (He.fAd K dd_is_letter_of.at_) fd) : FnG P w K (clK K) mg base 1 (He.ga K "is_letter_of") fd ["letters", "value"] m_is_letter_of := by
  refine FnG.of F sc_is_letter_of fun cdv A fr s H E hr gds => ?_
  have hN := sc_is_letter_of.nd
  have hu64 := hr.units
  have hu1 : _ + 1 < cLine := Nat.lt_of_le_of_lt (Nat.add_le_add_left (by decide : 1 ≤ 64) _) hu64
  exact (dss_one (ds_ret (DD.toE (dd_and (DE.toD (de_isi (dr_pk 1) rfl (pg.free 95) rfl (pg.free 105) (by decide +kernel))) (dd_and (DE.toD (de_eq pg.sys hu64 (DE.toD (de_b1 call_lenW ca_len (dr_pk 1) rfl (pg.free 96) (by decide +kernel))) (DD.toR dd_int))) (dd_one (DE.toD (de_in hu1 (dd_var 1) (dr_pk 0)))))))))
theorem g_is_letter_of {P : Program} {w : World} {K : PySem.W.Frag} {mg : PySem.Str → Option Value} {base : Heap} (pg : Pg K mg base) : Df P w K (clK K) mg base 1 "is_letter_of" ["letters", "value"] m_is_letter_of := by
  obtain ⟨fd, F⟩ := pg.def_ 4 (d := dd_is_letter_of)
  exact ⟨fd, f_is_letter_of pg F, F.bindsN fun _ _ _ _ _ _ us hl => match us, hl with | [_, _], _ => rfl, F.kp, pg.glo 4⟩
/-! is_rule -/
theorem sc_is_rule : FnScope ["value"] ["value"] (defScope st_is_rule) := ⟨rfl, rfl, rfl, by decide +kernel, rfl, by decide +kernel, by decide +kernel⟩
def b_is_rule : MS := (mRet (mCallN 2 m_is_letter_of (mAv (mC (.str "abcdefgh")) (mAv (mVar 0) mAn))))
def m_is_rule : ME := mFn 1 b_is_rule
set_option maxHeartbeats 4000000 in
theorem f_is_rule {P : Program} {w : World} {K : PySem.W.Frag} {mg : PySem.Str → Option Value} {base : Heap} (pg : Pg K mg base) {fd : FuncData} (F : FunD K dd_is_rule.name dd_is_rule.qual dd_is_rule.params dd_is_rule.body dd_is_rule.scope (dd_is_rule.dvs K) (dd_is_rule.kws K) (He.fAd K dd_is_rule.at_) fd) : FnG P w K (clK K) mg base 2 (He.ga K "is_rule") fd ["value"] m_is_rule := by
  refine FnG.of F sc_is_rule fun cdv A fr s H E hr gds => ?_
  have hN := sc_is_rule.nd
  have hu64 := hr.units
  have hu1 : _ + 1 < cLine := Nat.lt_of_le_of_lt (Nat.add_le_add_left (by decide : 1 ≤ 64) _) hu64
  exact (dss_one (ds_ret (de_callF (ps := ["letters", "value"]) (Df.mono (g_is_letter_of pg) (by decide)) hr gds (takes_of rfl rfl rfl rfl) (da_v (dd_gstr rfl (pg.str 108)) (da_v (dd_var 0) da_nil)))))
theorem g_is_rule {P : Program} {w : World} {K : PySem.W.Frag} {mg : PySem.Str → Option Value} {base : Heap} (pg : Pg K mg base) : Df P w K (clK K) mg base 2 "is_rule" ["value"] m_is_rule := by
  obtain ⟨fd, F⟩ := pg.def_ 5 (d := dd_is_rule)
  exact ⟨fd, f_is_rule pg F, F.bindsN fun _ _ _ _ _ _ us hl => match us, hl with | [_], _ => rfl, F.kp, pg.glo 5⟩
/-! is_integer -/
theorem sc_is_integer : FnScope ["value"] ["value"] (defScope st_is_integer) := ⟨rfl, rfl, rfl, by decide +kernel, rfl, by decide +kernel, by decide +kernel⟩
def b_is_integer : MS := (mRet (ofD (mAndV (toD (mC1 (dIsi "int") (mPk 0))) (mNotV (toD (mC1 (dIsi "bool") (mPk 0)))))))
def m_is_integer : ME := mFn 1 b_is_integer
set_option maxHeartbeats 4000000 in
theorem f_is_integer {P : Program} {w : World} {K : PySem.W.Frag} {mg : PySem.Str → Option Value} {base : Heap} (pg : Pg K mg base) {fd : FuncData} (F : FunD K dd_is_integer.name dd_is_integer.qual dd_is_integer.params dd_is_integer.body dd_is_integer.scope (dd_is_integer.dvs K) (dd_is_integer.kws K) (He.fAd K dd_is_integer.at_) fd) : FnG P w K (clK K) mg base 1 (He.ga K "is_integer") fd ["value"] m_is_integer := by
  refine FnG.of F sc_is_integer fun cdv A fr s H E hr gds => ?_
  have hN := sc_is_integer.nd
  have hu64 := hr.units
  have hu1 : _ + 1 < cLine := Nat.lt_of_le_of_lt (Nat.add_le_add_left (by decide : 1 ≤ 64) _) hu64
  exact (dss_one (ds_ret (DD.toE (dd_and (DE.toD (de_isi (dr_pk 0) rfl (pg.free 95) rfl (pg.free 94) (by decide +kernel))) (dd_one (dd_not (DE.toR (de_isi (dr_pk 0) rfl (pg.free 95) rfl (pg.free 89) (by decide +kernel)))))))))
theorem g_is_integer {P : Program} {w : World} {K : PySem.W.Frag} {mg : PySem.Str → Option Value} {base : Heap} (pg : Pg K mg base) : Df P w K (clK K) mg base 1 "is_integer" ["value"] m_is_integer := by
  obtain ⟨fd, F⟩ := pg.def_ 0 (d := dd_is_integer)
  exact ⟨fd, f_is_integer pg F, F.bindsN fun _ _ _ _ _ _ us hl => match us, hl with | [_], _ => rfl, F.kp, pg.glo 0⟩
/-! is_count -/
theorem sc_is_count : FnScope ["value"] ["value"] (defScope st_is_count) := ⟨rfl, rfl, rfl, by decide +kernel, rfl, by decide +kernel, by decide +kernel⟩
def b_is_count : MS := (mRet (ofD (mAndV (toD (mCallN 1 m_is_integer (mAv (mVar 0) mAn))) (toD (mBin dGe (mVar 0) (mC (.int 0)))))))
def m_is_count : ME := mFn 1 b_is_count
set_option maxHeartbeats 4000000 in
theorem f_is_count {P : Program} {w : World} {K : PySem.W.Frag} {mg : PySem.Str → Option Value} {base : Heap} (pg : Pg K mg base) {fd : FuncData} (F : FunD K dd_is_count.name dd_is_count.qual dd_is_count.params dd_is_count.body dd_is_count.scope (dd_is_count.dvs K) (dd_is_count.kws K) (He.fAd K dd_is_count.at_) fd) : FnG P w K (clK K) mg base 2 (He.ga K "is_count") fd ["value"] m_is_count := by
  refine FnG.of F sc_is_count fun cdv A fr s H E hr gds => ?_
  have hN := sc_is_count.nd
  have hu64 := hr.units
  have hu1 : _ + 1 < cLine := Nat.lt_of_le_of_lt (Nat.add_le_add_left (by decide : 1 ≤ 64) _) hu64
  exact (dss_one (ds_ret (DD.toE (dd_and (DE.toD (de_callF (ps := ["value"]) (Df.mono (g_is_integer pg) (by decide)) hr gds (takes_of rfl rfl rfl rfl) (da_v (dd_var 0) da_nil))) (dd_one (DE.toD (de_ge (dd_var 0) (DD.toR dd_int))))))))
theorem g_is_count {P : Program} {w : World} {K : PySem.W.Frag} {mg : PySem.Str → Option Value} {base : Heap} (pg : Pg K mg base) : Df P w K (clK K) mg base 2 "is_count" ["value"] m_is_count := by
  obtain ⟨fd, F⟩ := pg.def_ 3 (d := dd_is_count)
  exact ⟨fd, f_is_count pg F, F.bindsN fun _ _ _ _ _ _ us hl => match us, hl with | [_], _ => rfl, F.kp, pg.glo 3⟩
/-! is_list -/
theorem sc_is_list : FnScope ["value"] ["value"] (defScope st_is_list) := ⟨rfl, rfl, rfl, by decide +kernel, rfl, by decide +kernel, by decide +kernel⟩
def b_is_list : MS := (mRet (mC1 (dIsi2 "list" "tuple") (mPk 0)))
def m_is_list : ME := mFn 1 b_is_list
set_option maxHeartbeats 4000000 in
theorem f_is_list {P : Program} {w : World} {K : PySem.W.Frag} {mg : PySem.Str → Option Value} {base : Heap} (pg : Pg K mg base) {fd : FuncData} (F : FunD K dd_is_list.name dd_is_list.qual dd_is_list.params dd_is_list.body dd_is_list.scope (dd_is_list.dvs K) (dd_is_list.kws K) (He.fAd K dd_is_list.at_) fd) : FnG P w K (clK K) mg base 1 (He.ga K "is_list") fd ["value"] m_is_list := by
  refine FnG.of F sc_is_list fun cdv A fr s H E hr gds => ?_
  have hN := sc_is_list.nd
  have hu64 := hr.units
  have hu1 : _ + 1 < cLine := Nat.lt_of_le_of_lt (Nat.add_le_add_left (by decide : 1 ≤ 64) _) hu64
  exact (dss_one (ds_ret (de_isi2 (dr_pk 0) rfl (pg.free 95) rfl (pg.free 97) (by decide +kernel) rfl (pg.free 106) (by decide +kernel))))
theorem g_is_list {P : Program} {w : World} {K : PySem.W.Frag} {mg : PySem.Str → Option Value} {base : Heap} (pg : Pg K mg base) : Df P w K (clK K) mg base 1 "is_list" ["value"] m_is_list := by
  obtain ⟨fd, F⟩ := pg.def_ 1 (d := dd_is_list)
  exact ⟨fd, f_is_list pg F, F.bindsN fun _ _ _ _ _ _ us hl => match us, hl with | [_], _ => rfl, F.kp, pg.glo 1⟩
/-! is_part -/
theorem sc_is_part : FnScope ["value", "letter"] ["value"] (defScope st_is_part) := ⟨rfl, rfl, rfl, by decide +kernel, rfl, by decide +kernel, by decide +kernel⟩
def b_is_part : MS := (mSq (mIfS (mOrT (mNotT (mTru (toD (mC1 (dIsi "str") (mPk 0))))) (mNotT (mBl (toD (mChain dLe dLe (mC (.int 1)) (toD (mC1 dLen (mPk 0))) (mC (.int 12))))))) (mRet (ofD (mC (.bl false)))) mNx) (mRet (mC1 dAll (toD (mLc (mSeq (mVar 0)) (gNm 1) mYes (toD (mBin dIn (mVar 1) (mC (.str "abcdefghijklmnopqrstuvwxyz")))) [1])))))
def m_is_part : ME := mFn 2 b_is_part
set_option maxHeartbeats 4000000 in
theorem f_is_part {P : Program} {w : World} {K : PySem.W.Frag} {mg : PySem.Str → Option Value} {base : Heap} (pg : Pg K mg base) {fd : FuncData} (F : FunD K dd_is_part.name dd_is_part.qual dd_is_part.params dd_is_part.body dd_is_part.scope (dd_is_part.dvs K) (dd_is_part.kws K) (He.fAd K dd_is_part.at_) fd) : FnG P w K (clK K) mg base 1 (He.ga K "is_part") fd ["value"] m_is_part := by
  refine FnG.of F sc_is_part fun cdv A fr s H E hr gds => ?_
  have hN := sc_is_part.nd
  have hu64 := hr.units
  have hu1 : _ + 1 < cLine := Nat.lt_of_le_of_lt (Nat.add_le_add_left (by decide : 1 ≤ 64) _) hu64
  exact (dss_cons (ds_if (DW.dt (dw_or (dt_not (dt_tru (DE.toR (de_isi (dr_pk 0) rfl (pg.free 95) rfl (pg.free 105) (by decide +kernel))))) (dw_or1 (dt_not (dt_leLe dd_int (DE.toD (de_b1 call_lenW ca_len (dr_pk 0) rfl (pg.free 96) (by decide +kernel))) (DD.toR (dd_gint rfl (pg.int 111)))))))) (dss_one (ds_ret (DD.toE dd_bl))) dss_nil) (dss_one (ds_ret (de_b1 (cr_all rfl) ca_all (DE.toR (de_lc (own := [("letter", 1)]) rfl hN (di_seq (dd_var 0)) (blk_ok (by kernel_rfl)) (fun _ _ _ _ _ => (dgc_name 1 hN)) (fun _ _ _ _ _ => dts_nil) (fun _ _ _ _ _ => (DE.toD (de_in hu1 (dd_var 1) (DD.toR (dd_gstr rfl (pg.str 110)))))))) rfl (pg.free 88) (by decide +kernel)))))
theorem g_is_part {P : Program} {w : World} {K : PySem.W.Frag} {mg : PySem.Str → Option Value} {base : Heap} (pg : Pg K mg base) : Df P w K (clK K) mg base 1 "is_part" ["value"] m_is_part := by
  obtain ⟨fd, F⟩ := pg.def_ 13 (d := dd_is_part)
  exact ⟨fd, f_is_part pg F, F.bindsN fun _ _ _ _ _ _ us hl => match us, hl with | [_], _ => rfl, F.kp, pg.glo 13⟩
/-! are_needs -/
theorem sc_are_needs : FnScope ["value", "plan", "part", "one", "other"] ["value", "plan"] (defScope st_are_needs) := ⟨rfl, rfl, rfl, by decide +kernel, rfl, by decide +kernel, by decide +kernel⟩
def b_are_needs : MS := (mSq (mIfS (mOrT (mNotT (mTru (toD (mCallN 1 m_is_list (mAv (mVar 0) mAn))))) (mNotT (mTru (toD (mC1 dAll (toD (mLc (mSeq (mVar 0)) (gNm 2) mYes (mAndV (toD (mCallN 1 m_is_part (mAv (mVar 2) mAn))) (toD (mBin dIn (mVar 2) (mPk 1)))) [2]))))))) (mRet (ofD (mC (.bl false)))) mNx) (mRet (mC1 dAll (toD (mLc (mZip (mVar 0) (toD (mSlN 0 (mOS (mC (.int 1))) mON))) (gTp 2 (gCons (gNm 3) (gCons (gNm 4) gNil))) mYes (toD (mBin dLt (mVar 3) (mPk 4))) [3, 4])))))
def m_are_needs : ME := mFn 5 b_are_needs
set_option maxHeartbeats 4000000 in
theorem f_are_needs {P : Program} {w : World} {K : PySem.W.Frag} {mg : PySem.Str → Option Value} {base : Heap} (pg : Pg K mg base) {fd : FuncData} (F : FunD K dd_are_needs.name dd_are_needs.qual dd_are_needs.params dd_are_needs.body dd_are_needs.scope (dd_are_needs.dvs K) (dd_are_needs.kws K) (He.fAd K dd_are_needs.at_) fd) : FnG P w K (clK K) mg base 2 (He.ga K "are_needs") fd ["value", "plan"] m_are_needs := by
  refine FnG.of F sc_are_needs fun cdv A fr s H E hr gds => ?_
  have hN := sc_are_needs.nd
  have hu64 := hr.units
  have hu1 : _ + 1 < cLine := Nat.lt_of_le_of_lt (Nat.add_le_add_left (by decide : 1 ≤ 64) _) hu64
  exact (dss_cons (ds_if (DW.dt (dw_or (dt_not (dt_tru (DE.toR (de_callF (ps := ["value"]) (Df.mono (g_is_list pg) (by decide)) hr gds (takes_of rfl rfl rfl rfl) (da_v (dd_var 0) da_nil))))) (dw_or1 (dt_not (dt_tru (DE.toR (de_b1 (cr_all rfl) ca_all (DE.toR (de_lc (own := [("part", 2)]) rfl hN (di_seq (dd_var 0)) (blk_ok (by kernel_rfl)) (fun _ _ _ _ _ => (dgc_name 2 hN)) (fun _ _ _ _ _ => dts_nil) (fun _ _ _ _ _ => (dd_and (DE.toD (de_callF (ps := ["value"]) (Df.mono (g_is_part pg) (by decide)) hr gds DL.takes0 (da_v (dd_var 2) da_nil))) (dd_one (DE.toD (de_in hu1 (dd_var 2) (dr_pk 1)))))))) rfl (pg.free 88) (by decide +kernel)))))))) (dss_one (ds_ret (DD.toE dd_bl))) dss_nil) (dss_one (ds_ret (de_b1 (cr_all rfl) ca_all (DE.toR (de_lc (own := [("one", 3), ("other", 4)]) rfl hN (di_zip rfl (pg.free 107) (dd_var 0) (DE.toD (de_slN 0 (do_some (DD.toR dd_int)) do_none))) (blk_ok (by kernel_rfl)) (fun _ _ _ _ _ => (dgc_tup rfl (dgcs_cons 3 hN (dgcs_cons 4 hN dgcs_nil)))) (fun _ _ _ _ _ => dts_nil) (fun _ _ _ _ _ => (DE.toD (de_lt (dd_var 3) (dr_pk 4)))))) rfl (pg.free 88) (by decide +kernel)))))
theorem g_are_needs {P : Program} {w : World} {K : PySem.W.Frag} {mg : PySem.Str → Option Value} {base : Heap} (pg : Pg K mg base) : Df P w K (clK K) mg base 2 "are_needs" ["value", "plan"] m_are_needs := by
  obtain ⟨fd, F⟩ := pg.def_ 14 (d := dd_are_needs)
  exact ⟨fd, f_are_needs pg F, F.bindsN fun _ _ _ _ _ _ us hl => match us, hl with | [_, _], _ => rfl, F.kp, pg.glo 14⟩
/-! is_step -/
theorem sc_is_step : FnScope ["value", "plan"] ["value", "plan"] (defScope st_is_step) := ⟨rfl, rfl, rfl, by decide +kernel, rfl, by decide +kernel, by decide +kernel⟩
def b_is_step : MS := (mSq (mIfS (mOrT (mNotT (mTru (toD (mC1 (dIsi "tuple") (mPk 0))))) (mBl (toD (mBin dNe (toD (mC1 dLen (mPk 0))) (mC (.int 3)))))) (mRet (ofD (mC (.bl false)))) mNx) (mRet (ofD (mAndV (toD (mCallN 1 m_is_rule (mAv (mIxN 0 (mC (.int 0))) mAn))) (mAndV (toD (mCallN 1 m_is_count (mAv (mIxN 0 (mC (.int 1))) mAn))) (toD (mCallN 2 m_are_needs (mAv (mIxN 0 (mC (.int 2))) (mAv (mVar 1) mAn)))))))))
def m_is_step : ME := mFn 2 b_is_step
set_option maxHeartbeats 4000000 in
theorem f_is_step {P : Program} {w : World} {K : PySem.W.Frag} {mg : PySem.Str → Option Value} {base : Heap} (pg : Pg K mg base) {fd : FuncData} (F : FunD K dd_is_step.name dd_is_step.qual dd_is_step.params dd_is_step.body dd_is_step.scope (dd_is_step.dvs K) (dd_is_step.kws K) (He.fAd K dd_is_step.at_) fd) : FnG P w K (clK K) mg base 3 (He.ga K "is_step") fd ["value", "plan"] m_is_step := by
  refine FnG.of F sc_is_step fun cdv A fr s H E hr gds => ?_
  have hN := sc_is_step.nd
  have hu64 := hr.units
  have hu1 : _ + 1 < cLine := Nat.lt_of_le_of_lt (Nat.add_le_add_left (by decide : 1 ≤ 64) _) hu64
  exact (dss_cons (ds_if (DW.dt (dw_or (dt_not (dt_tru (DE.toR (de_isi (dr_pk 0) rfl (pg.free 95) rfl (pg.free 106) (by decide +kernel))))) (dw_or1 (dt_ne pg.sys hu64 (DE.toD (de_b1 call_lenW ca_len (dr_pk 0) rfl (pg.free 96) (by decide +kernel))) (DD.toR dd_int))))) (dss_one (ds_ret (DD.toE dd_bl))) dss_nil) (dss_one (ds_ret (DD.toE (dd_and (DE.toD (de_callF (ps := ["value"]) (Df.mono (g_is_rule pg) (by decide)) hr gds (takes_of rfl rfl rfl rfl) (da_v (dd_ixN hu1 0 dd_int) da_nil))) (dd_and (DE.toD (de_callF (ps := ["value"]) (Df.mono (g_is_count pg) (by decide)) hr gds (takes_of rfl rfl rfl rfl) (da_v (dd_ixN hu1 0 dd_int) da_nil))) (dd_one (DE.toD (de_callF (ps := ["value", "plan"]) (Df.mono (g_are_needs pg) (by decide)) hr gds (takes_of rfl rfl rfl rfl) (da_v (dd_ixN hu1 0 dd_int) (da_v (dd_var 1) da_nil)))))))))))
theorem g_is_step {P : Program} {w : World} {K : PySem.W.Frag} {mg : PySem.Str → Option Value} {base : Heap} (pg : Pg K mg base) : Df P w K (clK K) mg base 3 "is_step" ["value", "plan"] m_is_step := by
  obtain ⟨fd, F⟩ := pg.def_ 15 (d := dd_is_step)
  exact ⟨fd, f_is_step pg F, F.bindsN fun _ _ _ _ _ _ us hl => match us, hl with | [_, _], _ => rfl, F.kp, pg.glo 15⟩
/-! has_form -/
theorem sc_has_form : FnScope ["value", "part"] ["value"] (defScope st_has_form) := ⟨rfl, rfl, rfl, by decide +kernel, rfl, by decide +kernel, by decide +kernel⟩
def b_has_form : MS := (mSq (mIfS (mOrT (mNotT (mTru (toD (mC1 (dIsi "dict") (mPk 0))))) (mNotT (mBl (toD (mChain dLe dLe (mC (.int 1)) (toD (mC1 dLen (mPk 0))) (mC (.int 12))))))) (mRet (ofD (mC (.bl false)))) mNx) (mSq (mIfS (mNotT (mTru (toD (mC1 dAll (toD (mLcK 0 (gNm 1) mYes (toD (mCallN 1 m_is_part (mAv (mVar 1) mAn))) [1])))))) (mRet (ofD (mC (.bl false)))) mNx) (mRet (mC1 dAll (toD (mLcK 0 (gNm 1) mYes (toD (mCallN 2 m_is_step (mAv (mIxN 0 (mVar 1)) (mAv (mVar 0) mAn)))) [1]))))))
def m_has_form : ME := mFn 2 b_has_form
set_option maxHeartbeats 4000000 in
theorem f_has_form {P : Program} {w : World} {K : PySem.W.Frag} {mg : PySem.Str → Option Value} {base : Heap} (pg : Pg K mg base) {fd : FuncData} (F : FunD K dd_has_form.name dd_has_form.qual dd_has_form.params dd_has_form.body dd_has_form.scope (dd_has_form.dvs K) (dd_has_form.kws K) (He.fAd K dd_has_form.at_) fd) : FnG P w K (clK K) mg base 4 (He.ga K "has_form") fd ["value"] m_has_form := by
  refine FnG.of F sc_has_form fun cdv A fr s H E hr gds => ?_
  have hN := sc_has_form.nd
  have hu64 := hr.units
  have hu1 : _ + 1 < cLine := Nat.lt_of_le_of_lt (Nat.add_le_add_left (by decide : 1 ≤ 64) _) hu64
  exact (dss_cons (ds_if (DW.dt (dw_or (dt_not (dt_tru (DE.toR (de_isi (dr_pk 0) rfl (pg.free 95) rfl (pg.free 91) (by decide +kernel))))) (dw_or1 (dt_not (dt_leLe dd_int (DE.toD (de_b1 call_lenW ca_len (dr_pk 0) rfl (pg.free 96) (by decide +kernel))) (DD.toR (dd_gint rfl (pg.int 112)))))))) (dss_one (ds_ret (DD.toE dd_bl))) dss_nil) (dss_cons (ds_if (dt_not (dt_tru (DE.toR (de_b1 (cr_all rfl) ca_all (DE.toR (de_lcK (own := [("part", 1)]) 0 rfl hN (blk_ok (by kernel_rfl)) (fun _ _ _ _ _ => (dgc_name 1 hN)) (fun _ _ _ _ _ => dts_nil) (fun _ _ _ _ _ => (DE.toD (de_callF (ps := ["value"]) (Df.mono (g_is_part pg) (by decide)) hr gds DL.takes0 (da_v (dd_var 1) da_nil)))))) rfl (pg.free 88) (by decide +kernel))))) (dss_one (ds_ret (DD.toE dd_bl))) dss_nil) (dss_one (ds_ret (de_b1 (cr_all rfl) ca_all (DE.toR (de_lcK (own := [("part", 1)]) 0 rfl hN (blk_ok (by kernel_rfl)) (fun _ _ _ _ _ => (dgc_name 1 hN)) (fun _ _ _ _ _ => dts_nil) (fun _ _ _ _ _ => (DE.toD (de_callF (ps := ["value", "plan"]) (Df.mono (g_is_step pg) (by decide)) hr gds DL.takes0 (da_v (dd_ixN hu1 0 (dd_var 1)) (da_v (dd_var 0) da_nil))))))) rfl (pg.free 88) (by decide +kernel))))))
theorem g_has_form {P : Program} {w : World} {K : PySem.W.Frag} {mg : PySem.Str → Option Value} {base : Heap} (pg : Pg K mg base) : Df P w K (clK K) mg base 4 "has_form" ["value"] m_has_form := by
  obtain ⟨fd, F⟩ := pg.def_ 16 (d := dd_has_form)
  exact ⟨fd, f_has_form pg F, F.bindsN fun _ _ _ _ _ _ us hl => match us, hl with | [_], _ => rfl, F.kp, pg.glo 16⟩
/-! want_plan -/
theorem sc_want_plan : FnScope ["plan", "found"] ["plan"] (defScope st_want_plan) := ⟨rfl, rfl, rfl, by decide +kernel, rfl, by decide +kernel, by decide +kernel⟩
def b_want_plan : MS := (mSq (mIfS (mNotT (mTru (toD (mCallN 1 m_has_form (mAv (mVar 0) mAn))))) mBad mNx) (mSq (mAsg (mCallN 1 m_ringed (mAv (mVar 0) mAn)) (gNm 1)) (mIfS (mTru (mPk 1)) mBad mNx)))
def m_want_plan : ME := mFn 2 b_want_plan
set_option maxHeartbeats 4000000 in
theorem f_want_plan {P : Program} {w : World} {K : PySem.W.Frag} {mg : PySem.Str → Option Value} {base : Heap} (pg : Pg K mg base) {fd : FuncData} (F : FunD K dd_want_plan.name dd_want_plan.qual dd_want_plan.params dd_want_plan.body dd_want_plan.scope (dd_want_plan.dvs K) (dd_want_plan.kws K) (He.fAd K dd_want_plan.at_) fd) : FnG P w K (clK K) mg base 5 (He.ga K "want_plan") fd ["plan"] m_want_plan := by
  refine FnG.of F sc_want_plan fun cdv A fr s H E hr gds => ?_
  have hN := sc_want_plan.nd
  have hu64 := hr.units
  have hu1 : _ + 1 < cLine := Nat.lt_of_le_of_lt (Nat.add_le_add_left (by decide : 1 ≤ 64) _) hu64
  exact (dss_cons (ds_if (dt_not (dt_tru (DE.toR (de_callF (ps := ["value"]) (Df.mono (g_has_form pg) (by decide)) hr gds (takes_of rfl rfl rfl rfl) (da_v (dd_var 0) da_nil))))) (dss_one ds_bad) dss_nil) (dss_cons (ds_set 1 hN (de_callF (ps := ["plan"]) (Df.mono (g_ringed pg) (by decide)) hr gds (takes_of rfl rfl rfl rfl) (da_v (dd_var 0) da_nil))) (dss_one (ds_if (dt_tru (dr_pk 1)) (dss_one ds_bad) dss_nil))))
theorem g_want_plan {P : Program} {w : World} {K : PySem.W.Frag} {mg : PySem.Str → Option Value} {base : Heap} (pg : Pg K mg base) : Df P w K (clK K) mg base 5 "want_plan" ["plan"] m_want_plan := by
  obtain ⟨fd, F⟩ := pg.def_ 20 (d := dd_want_plan)
  exact ⟨fd, f_want_plan pg F, F.bindsN fun _ _ _ _ _ _ us hl => match us, hl with | [_], _ => rfl, F.kp, pg.glo 20⟩
/-! want_part -/
theorem sc_want_part : FnScope ["part"] ["part"] (defScope st_want_part) := ⟨rfl, rfl, rfl, by decide +kernel, rfl, by decide +kernel, by decide +kernel⟩
def b_want_part : MS := (mIfS (mNotT (mTru (toD (mCallN 1 m_is_part (mAv (mVar 0) mAn))))) mBad mNx)
def m_want_part : ME := mFn 1 b_want_part
set_option maxHeartbeats 4000000 in
theorem f_want_part {P : Program} {w : World} {K : PySem.W.Frag} {mg : PySem.Str → Option Value} {base : Heap} (pg : Pg K mg base) {fd : FuncData} (F : FunD K dd_want_part.name dd_want_part.qual dd_want_part.params dd_want_part.body dd_want_part.scope (dd_want_part.dvs K) (dd_want_part.kws K) (He.fAd K dd_want_part.at_) fd) : FnG P w K (clK K) mg base 2 (He.ga K "want_part") fd ["part"] m_want_part := by
  refine FnG.of F sc_want_part fun cdv A fr s H E hr gds => ?_
  have hN := sc_want_part.nd
  have hu64 := hr.units
  have hu1 : _ + 1 < cLine := Nat.lt_of_le_of_lt (Nat.add_le_add_left (by decide : 1 ≤ 64) _) hu64
  exact (dss_one (ds_if (dt_not (dt_tru (DE.toR (de_callF (ps := ["value"]) (Df.mono (g_is_part pg) (by decide)) hr gds (takes_of rfl rfl rfl rfl) (da_v (dd_var 0) da_nil))))) (dss_one ds_bad) dss_nil))
theorem g_want_part {P : Program} {w : World} {K : PySem.W.Frag} {mg : PySem.Str → Option Value} {base : Heap} (pg : Pg K mg base) : Df P w K (clK K) mg base 2 "want_part" ["part"] m_want_part := by
  obtain ⟨fd, F⟩ := pg.def_ 21 (d := dd_want_part)
  exact ⟨fd, f_want_part pg F, F.bindsN fun _ _ _ _ _ _ us hl => match us, hl with | [_], _ => rfl, F.kp, pg.glo 21⟩
/-! want_there -/
theorem sc_want_there : FnScope ["plan", "part"] ["plan", "part"] (defScope st_want_there) := ⟨rfl, rfl, rfl, by decide +kernel, rfl, by decide +kernel, by decide +kernel⟩
def b_want_there : MS := (mIfS (mBl (toD (mBin dNotIn (mVar 1) (mPk 0)))) mBad mNx)
def m_want_there : ME := mFn 2 b_want_there
set_option maxHeartbeats 4000000 in
theorem f_want_there {P : Program} {w : World} {K : PySem.W.Frag} {mg : PySem.Str → Option Value} {base : Heap} (pg : Pg K mg base) {fd : FuncData} (F : FunD K dd_want_there.name dd_want_there.qual dd_want_there.params dd_want_there.body dd_want_there.scope (dd_want_there.dvs K) (dd_want_there.kws K) (He.fAd K dd_want_there.at_) fd) : FnG P w K (clK K) mg base 1 (He.ga K "want_there") fd ["plan", "part"] m_want_there := by
  refine FnG.of F sc_want_there fun cdv A fr s H E hr gds => ?_
  have hN := sc_want_there.nd
  have hu64 := hr.units
  have hu1 : _ + 1 < cLine := Nat.lt_of_le_of_lt (Nat.add_le_add_left (by decide : 1 ≤ 64) _) hu64
  exact (dss_one (ds_if (dt_notIn hu1 (dd_var 1) (dr_pk 0)) (dss_one ds_bad) dss_nil))
theorem g_want_there {P : Program} {w : World} {K : PySem.W.Frag} {mg : PySem.Str → Option Value} {base : Heap} (pg : Pg K mg base) : Df P w K (clK K) mg base 1 "want_there" ["plan", "part"] m_want_there := by
  obtain ⟨fd, F⟩ := pg.def_ 22 (d := dd_want_there)
  exact ⟨fd, f_want_there pg F, F.bindsN fun _ _ _ _ _ _ us hl => match us, hl with | [_, _], _ => rfl, F.kp, pg.glo 22⟩
/-! want_part_of -/
theorem sc_want_part_of : FnScope ["plan", "part"] ["plan", "part"] (defScope st_want_part_of) := ⟨rfl, rfl, rfl, by decide +kernel, rfl, by decide +kernel, by decide +kernel⟩
def b_want_part_of : MS := (mSq (mDrop (mCallN 1 m_want_plan (mAv (mVar 0) mAn))) (mSq (mDrop (mCallN 1 m_want_part (mAv (mVar 1) mAn))) (mDrop (mCallN 2 m_want_there (mAv (mVar 0) (mAv (mVar 1) mAn))))))
def m_want_part_of : ME := mFn 2 b_want_part_of
set_option maxHeartbeats 4000000 in
theorem f_want_part_of {P : Program} {w : World} {K : PySem.W.Frag} {mg : PySem.Str → Option Value} {base : Heap} (pg : Pg K mg base) {fd : FuncData} (F : FunD K dd_want_part_of.name dd_want_part_of.qual dd_want_part_of.params dd_want_part_of.body dd_want_part_of.scope (dd_want_part_of.dvs K) (dd_want_part_of.kws K) (He.fAd K dd_want_part_of.at_) fd) : FnG P w K (clK K) mg base 6 (He.ga K "want_part_of") fd ["plan", "part"] m_want_part_of := by
  refine FnG.of F sc_want_part_of fun cdv A fr s H E hr gds => ?_
  have hN := sc_want_part_of.nd
  have hu64 := hr.units
  have hu1 : _ + 1 < cLine := Nat.lt_of_le_of_lt (Nat.add_le_add_left (by decide : 1 ≤ 64) _) hu64
  exact (dss_cons (ds_expr (de_callF (ps := ["plan"]) (Df.mono (g_want_plan pg) (by decide)) hr gds (takes_of rfl rfl rfl rfl) (da_v (dd_var 0) da_nil))) (dss_cons (ds_expr (de_callF (ps := ["part"]) (Df.mono (g_want_part pg) (by decide)) hr gds (takes_of rfl rfl rfl rfl) (da_v (dd_var 1) da_nil))) (dss_one (ds_expr (de_callF (ps := ["plan", "part"]) (Df.mono (g_want_there pg) (by decide)) hr gds (takes_of rfl rfl rfl rfl) (da_v (dd_var 0) (da_v (dd_var 1) da_nil)))))))
theorem g_want_part_of {P : Program} {w : World} {K : PySem.W.Frag} {mg : PySem.Str → Option Value} {base : Heap} (pg : Pg K mg base) : Df P w K (clK K) mg base 6 "want_part_of" ["plan", "part"] m_want_part_of := by
  obtain ⟨fd, F⟩ := pg.def_ 23 (d := dd_want_part_of)
  exact ⟨fd, f_want_part_of pg F, F.bindsN fun _ _ _ _ _ _ us hl => match us, hl with | [_, _], _ => rfl, F.kp, pg.glo 23⟩
/-! needs_without -/
theorem sc_needs_without : FnScope ["plan", "needs", "other", "found", "need"] ["plan", "needs", "other"] (defScope st_needs_without) := ⟨rfl, rfl, rfl, by decide +kernel, rfl, by decide +kernel, by decide +kernel⟩
def b_needs_without : MS := (mSq (mIfS (mBl (toD (mBin dNotIn (mVar 2) (mPk 1)))) (mRet (mC1 dList (mPk 1))) mNx) (mSq (mAsg (mLc (mSeq (mVar 1)) (gNm 4) (mBl (toD (mBin dNe (mVar 4) (mPk 2)))) (mVar 4) [4]) (gNm 3)) (mSq (mFor (mSeq (mIx (mIxN 0 (mVar 2)) (mC (.int 2)))) (gNm 4) (mIfS (mBl (toD (mBin dNotIn (mVar 4) (mPk 3)))) (mDrop (mM "list" 3 fAppend (mCons (mVar 4) mNil))) mNx)) (mRet (mC1 dSorted (mPk 3))))))
def m_needs_without : ME := mFn 5 b_needs_without
set_option maxHeartbeats 4000000 in
theorem f_needs_without {P : Program} {w : World} {K : PySem.W.Frag} {mg : PySem.Str → Option Value} {base : Heap} (pg : Pg K mg base) {fd : FuncData} (F : FunD K dd_needs_without.name dd_needs_without.qual dd_needs_without.params dd_needs_without.body dd_needs_without.scope (dd_needs_without.dvs K) (dd_needs_without.kws K) (He.fAd K dd_needs_without.at_) fd) : FnG P w K (clK K) mg base 1 (He.ga K "needs_without") fd ["plan", "needs", "other"] m_needs_without := by
  refine FnG.of F sc_needs_without fun cdv A fr s H E hr gds => ?_
  have hN := sc_needs_without.nd
  have hu64 := hr.units
  have hu1 : _ + 1 < cLine := Nat.lt_of_le_of_lt (Nat.add_le_add_left (by decide : 1 ≤ 64) _) hu64
  exact (dss_cons (ds_if (dt_notIn hu1 (dd_var 2) (dr_pk 1)) (dss_one (ds_ret (de_t1 (CallR.or call_list_of (call_listD rfl)) ca_list (dr_pk 1) rfl (pg.free 97) (by decide +kernel)))) dss_nil) (dss_cons (ds_setLc (own := [("need", 4)]) 3 rfl hN (di_seq (dd_var 1)) (blk_ok (by kernel_rfl)) (fun _ _ _ _ _ => (dgc_name 4 hN)) (fun _ _ _ _ _ => (dts_one (dt_ne pg.sys hu64 (dd_var 4) (dr_pk 2)))) (fun _ _ _ _ _ => (dd_var 4))) (dss_cons (ds_for (passes_of rfl) rfl (di_seq (dd_ix hu1 (dd_ixN hu1 0 (dd_var 2)) dd_int)) (DG.top (dg_name 4 hN)) (dss_one (ds_if (dt_notIn hu1 (dd_var 4) (dr_pk 3)) (dss_one (ds_expr (de_append 3 (das_cons (dd_var 4) das_nil)))) dss_nil))) (dss_one (ds_ret (de_b1 (call_sortedW rfl) ca_sorted (dr_pk 3) rfl (pg.free 104) (by decide +kernel)))))))
theorem g_needs_without {P : Program} {w : World} {K : PySem.W.Frag} {mg : PySem.Str → Option Value} {base : Heap} (pg : Pg K mg base) : Df P w K (clK K) mg base 1 "needs_without" ["plan", "needs", "other"] m_needs_without := by
  obtain ⟨fd, F⟩ := pg.def_ 34 (d := dd_needs_without)
  exact ⟨fd, f_needs_without pg F, F.bindsN fun _ _ _ _ _ _ us hl => match us, hl with | [_, _, _], _ => rfl, F.kp, pg.glo 34⟩
/-! left_out -/
theorem sc_left_out : FnScope ["plan", "other", "found", "part", "rule", "count", "needs"] ["plan", "other"] (defScope st_left_out) := ⟨rfl, rfl, rfl, by decide +kernel, rfl, by decide +kernel, by decide +kernel⟩
def b_left_out : MS := (mSq (mAsg mDic0 (gNm 2)) (mSq (mFor (mSeq (toD (mC1 dSorted (mPk 0)))) (gNm 3) (mIfS (mBl (toD (mBin dNe (mVar 3) (mPk 1)))) (mSq (mAsg (ofD (mIxN 0 (mVar 3))) (gTp 3 (gCons (gNm 4) (gCons (gNm 5) (gCons (gNm 6) gNil))))) (mAsg (ofD (mTup (mCons (mVar 4) (mCons (mVar 5) (mCons (toD (mCallN 3 m_needs_without (mAv (mVar 0) (mAv (mVar 6) (mAv (mVar 1) mAn))))) mNil))))) (gSb 2 (mVar 3)))) mNx)) (mRet (mMv 2))))
def m_left_out : ME := mFn 7 b_left_out
set_option maxHeartbeats 4000000 in
theorem f_left_out {P : Program} {w : World} {K : PySem.W.Frag} {mg : PySem.Str → Option Value} {base : Heap} (pg : Pg K mg base) {fd : FuncData} (F : FunD K dd_left_out.name dd_left_out.qual dd_left_out.params dd_left_out.body dd_left_out.scope (dd_left_out.dvs K) (dd_left_out.kws K) (He.fAd K dd_left_out.at_) fd) : FnG P w K (clK K) mg base 2 (He.ga K "left_out") fd ["plan", "other"] m_left_out := by
  refine FnG.of F sc_left_out fun cdv A fr s H E hr gds => ?_
  have hN := sc_left_out.nd
  have hu64 := hr.units
  have hu1 : _ + 1 < cLine := Nat.lt_of_le_of_lt (Nat.add_le_add_left (by decide : 1 ≤ 64) _) hu64
  exact (dss_cons (ds_set 2 hN de_dic0) (dss_cons (ds_for (passes_of rfl) rfl (di_seq (DE.toD (de_b1 (call_sortedW rfl) ca_sorted (dr_pk 0) rfl (pg.free 104) (by decide +kernel)))) (DG.top (dg_name 3 hN)) (dss_one (ds_if (dt_ne pg.sys hu64 (dd_var 3) (dr_pk 1)) (dss_cons (ds_asg (DD.toE (dd_ixN hu1 0 (dd_var 3))) (dg_tup rfl (dgs_cons (dg_name 4 hN) (dgs_cons (dg_name 5 hN) (dgs_cons (dg_name 6 hN) dgs_nil))))) (dss_one (ds_asg (DD.toE (dd_tup (das_cons (dd_var 4) (das_cons (dd_var 5) (das_cons (DE.toD (de_callF (ps := ["plan", "needs", "other"]) (Df.mono (g_needs_without pg) (by decide)) hr gds (takes_of rfl rfl rfl rfl) (da_v (dd_var 0) (da_v (dd_var 6) (da_v (dd_var 1) da_nil))))) das_nil))))) (DG.top (dg_sub (W := W0) 2 hu1 (dd_var 3)))))) dss_nil))) (dss_one (ds_ret (de_mv 2)))))
theorem g_left_out {P : Program} {w : World} {K : PySem.W.Frag} {mg : PySem.Str → Option Value} {base : Heap} (pg : Pg K mg base) : Df P w K (clK K) mg base 2 "left_out" ["plan", "other"] m_left_out := by
  obtain ⟨fd, F⟩ := pg.def_ 35 (d := dd_left_out)
  exact ⟨fd, f_left_out pg F, F.bindsN fun _ _ _ _ _ _ us hl => match us, hl with | [_, _], _ => rfl, F.kp, pg.glo 35⟩
/-! without_part -/
theorem sc_without_part : FnScope ["plan", "other"] ["plan", "other"] (defScope st_without_part) := ⟨rfl, rfl, rfl, by decide +kernel, rfl, by decide +kernel, by decide +kernel⟩
def b_without_part : MS := (mSq (mDrop (mCallN 2 m_want_part_of (mAv (mVar 0) (mAv (mVar 1) mAn)))) (mSq (mIfS (mBl (toD (mBin dEq (toD (mC1 dLen (mPk 0))) (mC (.int 1))))) (mRaise 14 ["part"] (mCons (mVar 1) mNil)) mNx) (mRet (mCallN 2 m_left_out (mAv (mVar 0) (mAv (mVar 1) mAn))))))
def m_without_part : ME := mFn 2 b_without_part
set_option maxHeartbeats 4000000 in
theorem f_without_part {P : Program} {w : World} {K : PySem.W.Frag} {mg : PySem.Str → Option Value} {base : Heap} (pg : Pg K mg base) {fd : FuncData} (F : FunD K dd_without_part.name dd_without_part.qual dd_without_part.params dd_without_part.body dd_without_part.scope (dd_without_part.dvs K) (dd_without_part.kws K) (He.fAd K dd_without_part.at_) fd) : FnG P w K (clK K) mg base 7 (He.ga K "without_part") fd ["plan", "other"] m_without_part := by
  refine FnG.of F sc_without_part fun cdv A fr s H E hr gds => ?_
  have hN := sc_without_part.nd
  have hu64 := hr.units
  have hu1 : _ + 1 < cLine := Nat.lt_of_le_of_lt (Nat.add_le_add_left (by decide : 1 ≤ 64) _) hu64
  exact (dss_cons (ds_expr (de_callF (ps := ["plan", "part"]) (Df.mono (g_want_part_of pg) (by decide)) hr gds (takes_of rfl rfl rfl rfl) (da_v (dd_var 0) (da_v (dd_var 1) da_nil)))) (dss_cons (ds_if (dt_eq pg.sys hu64 (DE.toD (de_b1 call_lenW ca_len (dr_pk 0) rfl (pg.free 96) (by decide +kernel))) (DD.toR dd_int)) (dss_one (ds_raise (x_LastPart pg) rfl (takes_of rfl rfl rfl rfl) hr (das_cons (dd_var 1) das_nil))) dss_nil) (dss_one (ds_ret (de_callF (ps := ["plan", "other"]) (Df.mono (g_left_out pg) (by decide)) hr gds (takes_of rfl rfl rfl rfl) (da_v (dd_var 0) (da_v (dd_var 1) da_nil)))))))
theorem g_without_part {P : Program} {w : World} {K : PySem.W.Frag} {mg : PySem.Str → Option Value} {base : Heap} (pg : Pg K mg base) : Df P w K (clK K) mg base 7 "without_part" ["plan", "other"] m_without_part := by
  obtain ⟨fd, F⟩ := pg.def_ 36 (d := dd_without_part)
  exact ⟨fd, f_without_part pg F, F.bindsN fun _ _ _ _ _ _ us hl => match us, hl with | [_, _], _ => rfl, F.kp, pg.glo 36⟩
def kg_without_part {α : Type} : List α → List α
  | [a0, a1] => [a1, a0]
  | l => l
theorem gk_without_part {P : Program} {w : World} {K : PySem.W.Frag} {mg : PySem.Str → Option Value} {base : Heap} (pg : Pg K mg base) : DfK P w K (clK K) mg base 7 "without_part" ["plan", "other"] ["other", "plan"] kg_without_part m_without_part := by
  obtain ⟨fd, F⟩ := pg.def_ 36 (d := dd_without_part)
  exact ⟨fd, f_without_part pg F, F.kp, pg.glo 36, FunD.kwAll F (fun _ _ _ _ _ _ ws hl => match ws, hl with | [_, _], _ => rfl),
    (fun {vs us} hl r => match vs, us, hl, r with | [_, _], [_, _], _, (.cons h0 (.cons h1 .nil)) => (.cons h1 (.cons h0 .nil))), (fun {Hf vs ds} hl r => match vs, ds, hl, r with | [_, _], [_, _], _, (.cons h0 (.cons h1 .nil)) => (.cons h1 (.cons h0 .nil)))⟩
/-! l_without -/
theorem sc_l_without : FnScope ["_law_plan_here", "_law_other", "_law_found", "_law_name", "_law_rule_here", "_law_count", "_law_needs", "_law_more", "_law_need"] ["_law_plan_here", "_law_other"] (defScope st_l_without) := ⟨rfl, rfl, rfl, by decide +kernel, rfl, by decide +kernel, by decide +kernel⟩
def b_l_without : MS := (mSq (mAsg mDic0 (gNm 2)) (mSq (mFor (mSeq (toD (mC1 dSorted (mPk 0)))) (gNm 3) (mSq (mAsg (ofD (mIxN 0 (mVar 3))) (gTp 3 (gCons (gNm 4) (gCons (gNm 5) (gCons (gNm 6) gNil))))) (mIfS (mBl (toD (mBin dNe (mVar 3) (mPk 1)))) (mSq (mAsg (mIf (mBl (toD (mBin dIn (mVar 1) (mPk 6)))) (mC1 dList (mIx (mIxN 0 (mVar 1)) (mC (.int 2)))) (mLst mNil)) (gNm 7)) (mAsg (ofD (mTup (mCons (mVar 4) (mCons (mVar 5) (mCons (toD (mC1 dSortSet (toD (mLc (mSeq (toD (mBin dAdd (toD (mC1 dList (mPk 6))) (mPk 7)))) (gNm 8) (mBl (toD (mBin dNe (mVar 8) (mPk 1)))) (mVar 8) [8])))) mNil))))) (gSb 2 (mVar 3)))) mNx))) (mRet (mMv 2))))
def m_l_without : ME := mFn 9 b_l_without
set_option maxHeartbeats 4000000 in
theorem f_l_without {P : Program} {w : World} {K : PySem.W.Frag} {mg : PySem.Str → Option Value} {base : Heap} (pg : Pg K mg base) {fd : FuncData} (F : FunD K dd_l_without.name dd_l_without.qual dd_l_without.params dd_l_without.body dd_l_without.scope (dd_l_without.dvs K) (dd_l_without.kws K) (He.fAd K dd_l_without.at_) fd) : FnG P w K (clK K) mg base 1 (He.ga K "_law_without") fd ["_law_plan_here", "_law_other"] m_l_without := by
  refine FnG.of F sc_l_without fun cdv A fr s H E hr gds => ?_
  have hN := sc_l_without.nd
  have hu64 := hr.units
  have hu1 : _ + 1 < cLine := Nat.lt_of_le_of_lt (Nat.add_le_add_left (by decide : 1 ≤ 64) _) hu64
  exact (dss_cons (ds_set 2 hN de_dic0) (dss_cons (ds_for (passes_of rfl) rfl (di_seq (DE.toD (de_b1 (call_sortedW rfl) ca_sorted (dr_pk 0) rfl (pg.free 104) (by decide +kernel)))) (DG.top (dg_name 3 hN)) (dss_cons (ds_asg (DD.toE (dd_ixN hu1 0 (dd_var 3))) (dg_tup rfl (dgs_cons (dg_name 4 hN) (dgs_cons (dg_name 5 hN) (dgs_cons (dg_name 6 hN) dgs_nil))))) (dss_one (ds_if (dt_ne pg.sys hu64 (dd_var 3) (dr_pk 1)) (dss_cons (ds_set 7 hN (de_if (dt_in hu1 (dd_var 1) (dr_pk 6)) (de_t1 (CallR.or call_list_of (call_listD rfl)) ca_list (DD.toR (dd_ix hu1 (dd_ixN hu1 0 (dd_var 1)) dd_int)) rfl (pg.free 97) (by decide +kernel)) (de_lst das_nil))) (dss_one (ds_asg (DD.toE (dd_tup (das_cons (dd_var 4) (das_cons (dd_var 5) (das_cons (DE.toD (de_sortSet rfl rfl (pg.free 104) (pg.free 103) (DE.toR (de_lc (own := [("_law_need", 8)]) rfl hN (di_seq (DE.toD (de_add (DE.toD (de_t1 (CallR.or call_list_of (call_listD rfl)) ca_list (dr_pk 6) rfl (pg.free 97) (by decide +kernel))) (dr_pk 7)))) (blk_ok (by kernel_rfl)) (fun _ _ _ _ _ => (dgc_name 8 hN)) (fun _ _ _ _ _ => (dts_one (dt_ne pg.sys hu64 (dd_var 8) (dr_pk 1)))) (fun _ _ _ _ _ => (dd_var 8)))))) das_nil))))) (DG.top (dg_sub (W := W0) 2 hu1 (dd_var 3)))))) dss_nil)))) (dss_one (ds_ret (de_mv 2)))))
theorem g_l_without {P : Program} {w : World} {K : PySem.W.Frag} {mg : PySem.Str → Option Value} {base : Heap} (pg : Pg K mg base) : Df P w K (clK K) mg base 1 "_law_without" ["_law_plan_here", "_law_other"] m_l_without := by
  obtain ⟨fd, F⟩ := pg.def_ 55 (d := dd_l_without)
  exact ⟨fd, f_l_without pg F, F.bindsN fun _ _ _ _ _ _ us hl => match us, hl with | [_, _], _ => rfl, F.kp, pg.glo 55⟩
/-! is_plan -/
theorem sc_is_plan : FnScope ["value"] ["value"] (defScope st_is_plan) := ⟨rfl, rfl, rfl, by decide +kernel, rfl, by decide +kernel, by decide +kernel⟩
def b_is_plan : MS := (mRet (ofD (mAndV (toD (mCallN 1 m_has_form (mAv (mVar 0) mAn))) (toD (mBin dEq (toD (mCallN 1 m_ringed (mAv (mVar 0) mAn))) (toD (mLst mNil)))))))
def m_is_plan : ME := mFn 1 b_is_plan
set_option maxHeartbeats 4000000 in
theorem f_is_plan {P : Program} {w : World} {K : PySem.W.Frag} {mg : PySem.Str → Option Value} {base : Heap} (pg : Pg K mg base) {fd : FuncData} (F : FunD K dd_is_plan.name dd_is_plan.qual dd_is_plan.params dd_is_plan.body dd_is_plan.scope (dd_is_plan.dvs K) (dd_is_plan.kws K) (He.fAd K dd_is_plan.at_) fd) : FnG P w K (clK K) mg base 5 (He.ga K "is_plan") fd ["value"] m_is_plan := by
  refine FnG.of F sc_is_plan fun cdv A fr s H E hr gds => ?_
  have hN := sc_is_plan.nd
  have hu64 := hr.units
  have hu1 : _ + 1 < cLine := Nat.lt_of_le_of_lt (Nat.add_le_add_left (by decide : 1 ≤ 64) _) hu64
  exact (dss_one (ds_ret (DD.toE (dd_and (DE.toD (de_callF (ps := ["value"]) (Df.mono (g_has_form pg) (by decide)) hr gds (takes_of rfl rfl rfl rfl) (da_v (dd_var 0) da_nil))) (dd_one (DE.toD (de_eq pg.sys hu64 (DE.toD (de_callF (ps := ["plan"]) (Df.mono (g_ringed pg) (by decide)) hr gds (takes_of rfl rfl rfl rfl) (da_v (dd_var 0) da_nil))) (DE.toR (de_lst das_nil)))))))))
theorem g_is_plan {P : Program} {w : World} {K : PySem.W.Frag} {mg : PySem.Str → Option Value} {base : Heap} (pg : Pg K mg base) : Df P w K (clK K) mg base 5 "is_plan" ["value"] m_is_plan := by
  obtain ⟨fd, F⟩ := pg.def_ 19 (d := dd_is_plan)
  exact ⟨fd, f_is_plan pg F, F.bindsN fun _ _ _ _ _ _ us hl => match us, hl with | [_], _ => rfl, F.kp, pg.glo 19⟩
/-! is_day -/
theorem sc_is_day : FnScope ["value"] ["value"] (defScope st_is_day) := ⟨rfl, rfl, rfl, by decide +kernel, rfl, by decide +kernel, by decide +kernel⟩
def b_is_day : MS := (mRet (mCallN 1 m_is_integer (mAv (mVar 0) mAn)))
def m_is_day : ME := mFn 1 b_is_day
set_option maxHeartbeats 4000000 in
theorem f_is_day {P : Program} {w : World} {K : PySem.W.Frag} {mg : PySem.Str → Option Value} {base : Heap} (pg : Pg K mg base) {fd : FuncData} (F : FunD K dd_is_day.name dd_is_day.qual dd_is_day.params dd_is_day.body dd_is_day.scope (dd_is_day.dvs K) (dd_is_day.kws K) (He.fAd K dd_is_day.at_) fd) : FnG P w K (clK K) mg base 2 (He.ga K "is_day") fd ["value"] m_is_day := by
  refine FnG.of F sc_is_day fun cdv A fr s H E hr gds => ?_
  have hN := sc_is_day.nd
  have hu64 := hr.units
  have hu1 : _ + 1 < cLine := Nat.lt_of_le_of_lt (Nat.add_le_add_left (by decide : 1 ≤ 64) _) hu64
  exact (dss_one (ds_ret (de_callF (ps := ["value"]) (Df.mono (g_is_integer pg) (by decide)) hr gds (takes_of rfl rfl rfl rfl) (da_v (dd_var 0) da_nil))))
theorem g_is_day {P : Program} {w : World} {K : PySem.W.Frag} {mg : PySem.Str → Option Value} {base : Heap} (pg : Pg K mg base) : Df P w K (clK K) mg base 2 "is_day" ["value"] m_is_day := by
  obtain ⟨fd, F⟩ := pg.def_ 2 (d := dd_is_day)
  exact ⟨fd, f_is_day pg F, F.bindsN fun _ _ _ _ _ _ us hl => match us, hl with | [_], _ => rfl, F.kp, pg.glo 2⟩
/-! is_table -/
theorem sc_is_table : FnScope ["value", "day", "place"] ["value"] (defScope st_is_table) := ⟨rfl, rfl, rfl, by decide +kernel, rfl, by decide +kernel, by decide +kernel⟩
def b_is_table : MS := (mSq (mIfS (mOrT (mNotT (mTru (toD (mCallN 1 m_is_list (mAv (mVar 0) mAn))))) (mNotT (mBl (toD (mChain dLe dLe (mC (.int 1)) (toD (mC1 dLen (mPk 0))) (mC (.int 600))))))) (mRet (ofD (mC (.bl false)))) mNx) (mSq (mIfS (mNotT (mTru (toD (mC1 dAll (toD (mLc (mSeq (mVar 0)) (gNm 1) mYes (toD (mCallN 1 m_is_day (mAv (mVar 1) mAn))) [1])))))) (mRet (ofD (mC (.bl false)))) mNx) (mSq (mIfS (mNotT (mTru (toD (mC1 dAll (toD (mLc (mRng1 (mCons (toD (mBin dSub (toD (mC1 dLen (mPk 0))) (mC (.int 1)))) mNil)) (gNm 2) mYes (toD (mBin dLe (mIxN 0 (mVar 2)) (mIxN 0 (toD (mBin dAdd (mVar 2) (mC (.int 1))))))) [2])))))) (mRet (ofD (mC (.bl false)))) mNx) (mRet (mBin dLe (mIxN 0 (mNeg (mC (.int 1)))) (toD (mBin dAdd (mIxN 0 (mC (.int 0))) (toD (mC1 dLen (mPk 0))))))))))
def m_is_table : ME := mFn 3 b_is_table
set_option maxHeartbeats 4000000 in
theorem f_is_table {P : Program} {w : World} {K : PySem.W.Frag} {mg : PySem.Str → Option Value} {base : Heap} (pg : Pg K mg base) {fd : FuncData} (F : FunD K dd_is_table.name dd_is_table.qual dd_is_table.params dd_is_table.body dd_is_table.scope (dd_is_table.dvs K) (dd_is_table.kws K) (He.fAd K dd_is_table.at_) fd) : FnG P w K (clK K) mg base 3 (He.ga K "is_table") fd ["value"] m_is_table := by
  refine FnG.of F sc_is_table fun cdv A fr s H E hr gds => ?_
  have hN := sc_is_table.nd
  have hu64 := hr.units
  have hu1 : _ + 1 < cLine := Nat.lt_of_le_of_lt (Nat.add_le_add_left (by decide : 1 ≤ 64) _) hu64
  exact (dss_cons (ds_if (DW.dt (dw_or (dt_not (dt_tru (DE.toR (de_callF (ps := ["value"]) (Df.mono (g_is_list pg) (by decide)) hr gds (takes_of rfl rfl rfl rfl) (da_v (dd_var 0) da_nil))))) (dw_or1 (dt_not (dt_leLe dd_int (DE.toD (de_b1 call_lenW ca_len (dr_pk 0) rfl (pg.free 96) (by decide +kernel))) (DD.toR (dd_gint rfl (pg.int 109)))))))) (dss_one (ds_ret (DD.toE dd_bl))) dss_nil) (dss_cons (ds_if (dt_not (dt_tru (DE.toR (de_b1 (cr_all rfl) ca_all (DE.toR (de_lc (own := [("day", 1)]) rfl hN (di_seq (dd_var 0)) (blk_ok (by kernel_rfl)) (fun _ _ _ _ _ => (dgc_name 1 hN)) (fun _ _ _ _ _ => dts_nil) (fun _ _ _ _ _ => (DE.toD (de_callF (ps := ["value"]) (Df.mono (g_is_day pg) (by decide)) hr gds DL.takes0 (da_v (dd_var 1) da_nil)))))) rfl (pg.free 88) (by decide +kernel))))) (dss_one (ds_ret (DD.toE dd_bl))) dss_nil) (dss_cons (ds_if (dt_not (dt_tru (DE.toR (de_b1 (cr_all rfl) ca_all (DE.toR (de_lc (own := [("place", 2)]) rfl hN (di_range1 rfl (pg.free 101) (das_cons (DE.toD (de_sub (DE.toD (de_b1 call_lenW ca_len (dr_pk 0) rfl (pg.free 96) (by decide +kernel))) (DD.toR dd_int))) das_nil)) (blk_ok (by kernel_rfl)) (fun _ _ _ _ _ => (dgc_name 2 hN)) (fun _ _ _ _ _ => dts_nil) (fun _ _ _ _ _ => (DE.toD (de_le (dd_ixN hu1 0 (dd_var 2)) (DD.toR (dd_ixN hu1 0 (DE.toD (de_add (dd_var 2) (DD.toR dd_int)))))))))) rfl (pg.free 88) (by decide +kernel))))) (dss_one (ds_ret (DD.toE dd_bl))) dss_nil) (dss_one (ds_ret (de_le (dd_ixN hu1 0 (dd_neg (DD.toR dd_int))) (DE.toR (de_add (dd_ixN hu1 0 dd_int) (DE.toR (de_b1 call_lenW ca_len (dr_pk 0) rfl (pg.free 96) (by decide +kernel)))))))))))
theorem g_is_table {P : Program} {w : World} {K : PySem.W.Frag} {mg : PySem.Str → Option Value} {base : Heap} (pg : Pg K mg base) : Df P w K (clK K) mg base 3 "is_table" ["value"] m_is_table := by
  obtain ⟨fd, F⟩ := pg.def_ 10 (d := dd_is_table)
  exact ⟨fd, f_is_table pg F, F.bindsN fun _ _ _ _ _ _ us hl => match us, hl with | [_], _ => rfl, F.kp, pg.glo 10⟩
/-! Table_ddinitdd -/
theorem sc_Table_ddinitdd : FnScope ["self", "days"] ["self", "days"] (defScope st_Table_ddinitdd) := ⟨rfl, rfl, rfl, by decide +kernel, rfl, by decide +kernel, by decide +kernel⟩
def b_Table_ddinitdd : MS := (mSq (mIfS (mNotT (mTru (toD (mCallN 1 m_is_table (mAv (mVar 1) mAn))))) mBad mNx) (mSq (mFst 0 16 "own_days" (toD (mC1 dList (mPk 1)))) (mFst 0 16 "own_length" (toD (mC1 dLen (mFld 16 "own_days" (mPk 0)))))))
def m_Table_ddinitdd : ME := mFn 2 b_Table_ddinitdd
set_option maxHeartbeats 4000000 in
theorem f_Table_ddinitdd {P : Program} {w : World} {K : PySem.W.Frag} {mg : PySem.Str → Option Value} {base : Heap} (pg : Pg K mg base) {fd : FuncData} (F : FunD K dd_Table_ddinitdd.name dd_Table_ddinitdd.qual dd_Table_ddinitdd.params dd_Table_ddinitdd.body dd_Table_ddinitdd.scope (dd_Table_ddinitdd.dvs K) (dd_Table_ddinitdd.kws K) (He.fAd K dd_Table_ddinitdd.at_) fd) : FnG P w K (clK K) mg base 4 (He.ma K (clK K 16) "__init__") fd ["self", "days"] m_Table_ddinitdd := by
  refine FnG.of F sc_Table_ddinitdd fun cdv A fr s H E hr gds => ?_
  have hN := sc_Table_ddinitdd.nd
  have hu64 := hr.units
  have hu1 : _ + 1 < cLine := Nat.lt_of_le_of_lt (Nat.add_le_add_left (by decide : 1 ≤ 64) _) hu64
  exact (dss_cons (ds_if (dt_not (dt_tru (DE.toR (de_callF (ps := ["value"]) (Df.mono (g_is_table pg) (by decide)) hr gds (takes_of rfl rfl rfl rfl) (da_v (dd_var 1) da_nil))))) (dss_one ds_bad) dss_nil) (dss_cons (ds_fst 0 (pg.cls 113) (pg.noat 114) (DE.toD (de_t1 (CallR.or call_list_of (call_listD rfl)) ca_list (dr_pk 1) rfl (pg.free 97) (by decide +kernel)))) (dss_one (ds_fst 0 (pg.cls 113) (pg.noat 115) (DE.toD (de_b1 call_lenW ca_len (DD.toR (dd_fld (pg.cls 113) (pg.noat 114) (dr_pk 0))) rfl (pg.free 96) (by decide +kernel)))))))
theorem g_Table_ddinitdd {P : Program} {w : World} {K : PySem.W.Frag} {mg : PySem.Str → Option Value} {base : Heap} (pg : Pg K mg base) : DfI P w K (clK K) mg base 4 16 "Table" ["self", "days"] m_Table_ddinitdd := by
  obtain ⟨fd, F⟩ := pg.def_ 78 (d := dd_Table_ddinitdd)
  exact ⟨fd, f_Table_ddinitdd pg F, F.bindsN fun _ _ _ _ _ _ us hl => match us, hl with | [_, _], _ => rfl, pg.mkr 118, pg.glo 82⟩
/-! want_day -/
theorem sc_want_day : FnScope ["value"] ["value"] (defScope st_want_day) := ⟨rfl, rfl, rfl, by decide +kernel, rfl, by decide +kernel, by decide +kernel⟩
def b_want_day : MS := (mIfS (mNotT (mTru (toD (mCallN 1 m_is_day (mAv (mVar 0) mAn))))) mBad mNx)
def m_want_day : ME := mFn 1 b_want_day
set_option maxHeartbeats 4000000 in
theorem f_want_day {P : Program} {w : World} {K : PySem.W.Frag} {mg : PySem.Str → Option Value} {base : Heap} (pg : Pg K mg base) {fd : FuncData} (F : FunD K dd_want_day.name dd_want_day.qual dd_want_day.params dd_want_day.body dd_want_day.scope (dd_want_day.dvs K) (dd_want_day.kws K) (He.fAd K dd_want_day.at_) fd) : FnG P w K (clK K) mg base 3 (He.ga K "want_day") fd ["value"] m_want_day := by
  refine FnG.of F sc_want_day fun cdv A fr s H E hr gds => ?_
  have hN := sc_want_day.nd
  have hu64 := hr.units
  have hu1 : _ + 1 < cLine := Nat.lt_of_le_of_lt (Nat.add_le_add_left (by decide : 1 ≤ 64) _) hu64
  exact (dss_one (ds_if (dt_not (dt_tru (DE.toR (de_callF (ps := ["value"]) (Df.mono (g_is_day pg) (by decide)) hr gds (takes_of rfl rfl rfl rfl) (da_v (dd_var 0) da_nil))))) (dss_one ds_bad) dss_nil))
theorem g_want_day {P : Program} {w : World} {K : PySem.W.Frag} {mg : PySem.Str → Option Value} {base : Heap} (pg : Pg K mg base) : Df P w K (clK K) mg base 3 "want_day" ["value"] m_want_day := by
  obtain ⟨fd, F⟩ := pg.def_ 6 (d := dd_want_day)
  exact ⟨fd, f_want_day pg F, F.bindsN fun _ _ _ _ _ _ us hl => match us, hl with | [_], _ => rfl, F.kp, pg.glo 6⟩
/-! is_world -/
theorem sc_is_world : FnScope ["value", "rule"] ["value"] (defScope st_is_world) := ⟨rfl, rfl, rfl, by decide +kernel, rfl, by decide +kernel, by decide +kernel⟩
def b_is_world : MS := (mSq (mIfS (mNotT (mTru (toD (mC1 (dIsi "dict") (mPk 0))))) (mRet (ofD (mC (.bl false)))) mNx) (mRet (mC1 dAll (toD (mLcK 0 (gNm 1) mYes (mAndV (toD (mCallN 1 m_is_rule (mAv (mVar 1) mAn))) (toD (mC1 (dIsO 16) (mIxN 0 (mVar 1))))) [1])))))
def m_is_world : ME := mFn 2 b_is_world
set_option maxHeartbeats 4000000 in
theorem f_is_world {P : Program} {w : World} {K : PySem.W.Frag} {mg : PySem.Str → Option Value} {base : Heap} (pg : Pg K mg base) {fd : FuncData} (F : FunD K dd_is_world.name dd_is_world.qual dd_is_world.params dd_is_world.body dd_is_world.scope (dd_is_world.dvs K) (dd_is_world.kws K) (He.fAd K dd_is_world.at_) fd) : FnG P w K (clK K) mg base 3 (He.ga K "is_world") fd ["value"] m_is_world := by
  refine FnG.of F sc_is_world fun cdv A fr s H E hr gds => ?_
  have hN := sc_is_world.nd
  have hu64 := hr.units
  have hu1 : _ + 1 < cLine := Nat.lt_of_le_of_lt (Nat.add_le_add_left (by decide : 1 ≤ 64) _) hu64
  exact (dss_cons (ds_if (dt_not (dt_tru (DE.toR (de_isi (dr_pk 0) rfl (pg.free 95) rfl (pg.free 91) (by decide +kernel))))) (dss_one (ds_ret (DD.toE dd_bl))) dss_nil) (dss_one (ds_ret (de_b1 (cr_all rfl) ca_all (DE.toR (de_lcK (own := [("rule", 1)]) 0 rfl hN (blk_ok (by kernel_rfl)) (fun _ _ _ _ _ => (dgc_name 1 hN)) (fun _ _ _ _ _ => dts_nil) (fun _ _ _ _ _ => (dd_and (DE.toD (de_callF (ps := ["value"]) (Df.mono (g_is_rule pg) (by decide)) hr gds DL.takes0 (da_v (dd_var 1) da_nil))) (dd_one (DE.toD (de_isO (DD.toR (dd_ixN hu1 0 (dd_var 1))) pg.insT rfl (pg.free 95) rfl (pg.glo 82)))))))) rfl (pg.free 88) (by decide +kernel)))))
theorem g_is_world {P : Program} {w : World} {K : PySem.W.Frag} {mg : PySem.Str → Option Value} {base : Heap} (pg : Pg K mg base) : Df P w K (clK K) mg base 3 "is_world" ["value"] m_is_world := by
  obtain ⟨fd, F⟩ := pg.def_ 11 (d := dd_is_world)
  exact ⟨fd, f_is_world pg F, F.bindsN fun _ _ _ _ _ _ us hl => match us, hl with | [_], _ => rfl, F.kp, pg.glo 11⟩
/-! want_world -/
theorem sc_want_world : FnScope ["value"] ["value"] (defScope st_want_world) := ⟨rfl, rfl, rfl, by decide +kernel, rfl, by decide +kernel, by decide +kernel⟩
def b_want_world : MS := (mIfS (mNotT (mTru (toD (mCallN 1 m_is_world (mAv (mVar 0) mAn))))) mBad mNx)
def m_want_world : ME := mFn 1 b_want_world
set_option maxHeartbeats 4000000 in
theorem f_want_world {P : Program} {w : World} {K : PySem.W.Frag} {mg : PySem.Str → Option Value} {base : Heap} (pg : Pg K mg base) {fd : FuncData} (F : FunD K dd_want_world.name dd_want_world.qual dd_want_world.params dd_want_world.body dd_want_world.scope (dd_want_world.dvs K) (dd_want_world.kws K) (He.fAd K dd_want_world.at_) fd) : FnG P w K (clK K) mg base 4 (He.ga K "want_world") fd ["value"] m_want_world := by
  refine FnG.of F sc_want_world fun cdv A fr s H E hr gds => ?_
  have hN := sc_want_world.nd
  have hu64 := hr.units
  have hu1 : _ + 1 < cLine := Nat.lt_of_le_of_lt (Nat.add_le_add_left (by decide : 1 ≤ 64) _) hu64
  exact (dss_one (ds_if (dt_not (dt_tru (DE.toR (de_callF (ps := ["value"]) (Df.mono (g_is_world pg) (by decide)) hr gds (takes_of rfl rfl rfl rfl) (da_v (dd_var 0) da_nil))))) (dss_one ds_bad) dss_nil))
theorem g_want_world {P : Program} {w : World} {K : PySem.W.Frag} {mg : PySem.Str → Option Value} {base : Heap} (pg : Pg K mg base) : Df P w K (clK K) mg base 4 "want_world" ["value"] m_want_world := by
  obtain ⟨fd, F⟩ := pg.def_ 12 (d := dd_want_world)
  exact ⟨fd, f_want_world pg F, F.bindsN fun _ _ _ _ _ _ us hl => match us, hl with | [_], _ => rfl, F.kp, pg.glo 12⟩
/-! want_rules -/
theorem sc_want_rules : FnScope ["world", "rules", "rule"] ["world", "rules"] (defScope st_want_rules) := ⟨rfl, rfl, rfl, by decide +kernel, rfl, by decide +kernel, by decide +kernel⟩
def b_want_rules : MS := (mFor (mSeq (mVar 1)) (gNm 2) (mIfS (mBl (toD (mBin dNotIn (mVar 2) (mPk 0)))) mBad mNx))
def m_want_rules : ME := mFn 3 b_want_rules
set_option maxHeartbeats 4000000 in
theorem f_want_rules {P : Program} {w : World} {K : PySem.W.Frag} {mg : PySem.Str → Option Value} {base : Heap} (pg : Pg K mg base) {fd : FuncData} (F : FunD K dd_want_rules.name dd_want_rules.qual dd_want_rules.params dd_want_rules.body dd_want_rules.scope (dd_want_rules.dvs K) (dd_want_rules.kws K) (He.fAd K dd_want_rules.at_) fd) : FnG P w K (clK K) mg base 1 (He.ga K "want_rules") fd ["world", "rules"] m_want_rules := by
  refine FnG.of F sc_want_rules fun cdv A fr s H E hr gds => ?_
  have hN := sc_want_rules.nd
  have hu64 := hr.units
  have hu1 : _ + 1 < cLine := Nat.lt_of_le_of_lt (Nat.add_le_add_left (by decide : 1 ≤ 64) _) hu64
  exact (dss_one (ds_for (passes_of rfl) rfl (di_seq (dd_var 1)) (DG.top (dg_name 2 hN)) (dss_one (ds_if (dt_notIn hu1 (dd_var 2) (dr_pk 0)) (dss_one ds_bad) dss_nil))))
theorem g_want_rules {P : Program} {w : World} {K : PySem.W.Frag} {mg : PySem.Str → Option Value} {base : Heap} (pg : Pg K mg base) : Df P w K (clK K) mg base 1 "want_rules" ["world", "rules"] m_want_rules := by
  obtain ⟨fd, F⟩ := pg.def_ 29 (d := dd_want_rules)
  exact ⟨fd, f_want_rules pg F, F.bindsN fun _ _ _ _ _ _ us hl => match us, hl with | [_, _], _ => rfl, F.kp, pg.glo 29⟩
/-! floor_part -/
theorem sc_floor_part : FnScope ["day", "length"] ["day", "length"] (defScope st_floor_part) := ⟨rfl, rfl, rfl, by decide +kernel, rfl, by decide +kernel, by decide +kernel⟩
def b_floor_part : MS := (mRet (mBin dMul (toD (mBin dDiv (mVar 0) (mPk 1))) (mPk 1)))
def m_floor_part : ME := mFn 2 b_floor_part
set_option maxHeartbeats 4000000 in
theorem f_floor_part {P : Program} {w : World} {K : PySem.W.Frag} {mg : PySem.Str → Option Value} {base : Heap} (pg : Pg K mg base) {fd : FuncData} (F : FunD K dd_floor_part.name dd_floor_part.qual dd_floor_part.params dd_floor_part.body dd_floor_part.scope (dd_floor_part.dvs K) (dd_floor_part.kws K) (He.fAd K dd_floor_part.at_) fd) : FnG P w K (clK K) mg base 1 (He.ga K "floor_part") fd ["day", "length"] m_floor_part := by
  refine FnG.of F sc_floor_part fun cdv A fr s H E hr gds => ?_
  have hN := sc_floor_part.nd
  have hu64 := hr.units
  have hu1 : _ + 1 < cLine := Nat.lt_of_le_of_lt (Nat.add_le_add_left (by decide : 1 ≤ 64) _) hu64
  exact (dss_one (ds_ret (de_mul (DE.toD (de_div (dd_var 0) (dr_pk 1))) (dr_pk 1))))
theorem g_floor_part {P : Program} {w : World} {K : PySem.W.Frag} {mg : PySem.Str → Option Value} {base : Heap} (pg : Pg K mg base) : Df P w K (clK K) mg base 1 "floor_part" ["day", "length"] m_floor_part := by
  obtain ⟨fd, F⟩ := pg.def_ 9 (d := dd_floor_part)
  exact ⟨fd, f_floor_part pg F, F.bindsN fun _ _ _ _ _ _ us hl => match us, hl with | [_, _], _ => rfl, F.kp, pg.glo 9⟩
/-! Table_served -/
theorem sc_Table_served : FnScope ["self", "day", "part"] ["self", "day"] (defScope st_Table_served) := ⟨rfl, rfl, rfl, by decide +kernel, rfl, by decide +kernel, by decide +kernel⟩
def b_Table_served : MS := (mSq (mAsg (mCallN 2 m_floor_part (mAv (mVar 1) (mAv (mFld 16 "own_length" (mPk 0)) mAn))) (gNm 2)) (mRet (mBin dAdd (mIx (mFld 16 "own_days" (mPk 0)) (toD (mBin dSub (mVar 1) (mPk 2)))) (mPk 2))))
def m_Table_served : ME := mFn 3 b_Table_served
set_option maxHeartbeats 4000000 in
theorem f_Table_served {P : Program} {w : World} {K : PySem.W.Frag} {mg : PySem.Str → Option Value} {base : Heap} (pg : Pg K mg base) {fd : FuncData} (F : FunD K dd_Table_served.name dd_Table_served.qual dd_Table_served.params dd_Table_served.body dd_Table_served.scope (dd_Table_served.dvs K) (dd_Table_served.kws K) (He.fAd K dd_Table_served.at_) fd) : FnG P w K (clK K) mg base 2 (He.ma K (clK K 16) "served") fd ["self", "day"] m_Table_served := by
  refine FnG.of F sc_Table_served fun cdv A fr s H E hr gds => ?_
  have hN := sc_Table_served.nd
  have hu64 := hr.units
  have hu1 : _ + 1 < cLine := Nat.lt_of_le_of_lt (Nat.add_le_add_left (by decide : 1 ≤ 64) _) hu64
  exact (dss_cons (ds_set 2 hN (de_callF (ps := ["day", "length"]) (Df.mono (g_floor_part pg) (by decide)) hr gds (takes_of rfl rfl rfl rfl) (da_v (dd_var 1) (da_v (dd_fld (pg.cls 113) (pg.noat 115) (dr_pk 0)) da_nil)))) (dss_one (ds_ret (de_add (dd_ix hu1 (dd_fld (pg.cls 113) (pg.noat 114) (dr_pk 0)) (DE.toD (de_sub (dd_var 1) (dr_pk 2)))) (dr_pk 2)))))
theorem g_Table_served {P : Program} {w : World} {K : PySem.W.Frag} {mg : PySem.Str → Option Value} {base : Heap} (pg : Pg K mg base) : DfM P w K (clK K) mg base 2 16 "served" ["self", "day"] m_Table_served := by
  obtain ⟨fd, F⟩ := pg.def_ 81 (d := dd_Table_served)
  exact ⟨fd, f_Table_served pg F, F.bindsN fun _ _ _ _ _ _ us hl => match us, hl with | [_, _], _ => rfl, pg.meth 117⟩
/-! Table_on -/
theorem sc_Table_on : FnScope ["self", "day"] ["self", "day"] (defScope st_Table_on) := ⟨rfl, rfl, rfl, by decide +kernel, rfl, by decide +kernel, by decide +kernel⟩
def b_Table_on : MS := (mSq (mDrop (mCallN 1 m_want_day (mAv (mVar 1) mAn))) (mRet (mMeth 16 "served" 2 m_Table_served (mVar 0) (mCons (mVar 1) mNil))))
def m_Table_on : ME := mFn 2 b_Table_on
set_option maxHeartbeats 4000000 in
theorem f_Table_on {P : Program} {w : World} {K : PySem.W.Frag} {mg : PySem.Str → Option Value} {base : Heap} (pg : Pg K mg base) {fd : FuncData} (F : FunD K dd_Table_on.name dd_Table_on.qual dd_Table_on.params dd_Table_on.body dd_Table_on.scope (dd_Table_on.dvs K) (dd_Table_on.kws K) (He.fAd K dd_Table_on.at_) fd) : FnG P w K (clK K) mg base 4 (He.ma K (clK K 16) "on") fd ["self", "day"] m_Table_on := by
  refine FnG.of F sc_Table_on fun cdv A fr s H E hr gds => ?_
  have hN := sc_Table_on.nd
  have hu64 := hr.units
  have hu1 : _ + 1 < cLine := Nat.lt_of_le_of_lt (Nat.add_le_add_left (by decide : 1 ≤ 64) _) hu64
  exact (dss_cons (ds_expr (de_callF (ps := ["value"]) (Df.mono (g_want_day pg) (by decide)) hr gds (takes_of rfl rfl rfl rfl) (da_v (dd_var 1) da_nil))) (dss_one (ds_ret (de_methF (pg.cls 113) (dd_var 0) (DfM.mono (g_Table_served pg) (by decide)) hr gds (takes_of rfl rfl rfl rfl) (das_cons (dd_var 1) das_nil)))))
theorem g_Table_on {P : Program} {w : World} {K : PySem.W.Frag} {mg : PySem.Str → Option Value} {base : Heap} (pg : Pg K mg base) : DfM P w K (clK K) mg base 4 16 "on" ["self", "day"] m_Table_on := by
  obtain ⟨fd, F⟩ := pg.def_ 80 (d := dd_Table_on)
  exact ⟨fd, f_Table_on pg F, F.bindsN fun _ _ _ _ _ _ us hl => match us, hl with | [_, _], _ => rfl, pg.meth 116⟩
/-! ready_days -/
theorem sc_ready_days : FnScope ["plan", "parts", "day", "world", "found", "part", "rule", "count", "needs", "asked", "need"] ["plan", "parts", "day", "world"] (defScope st_ready_days) := ⟨rfl, rfl, rfl, by decide +kernel, rfl, by decide +kernel, by decide +kernel⟩
def b_ready_days : MS := (mSq (mAsg mDic0 (gNm 4)) (mSq (mFor (mSeq (mVar 1)) (gNm 5) (mSq (mAsg (ofD (mIxN 0 (mVar 5))) (gTp 3 (gCons (gNm 6) (gCons (gNm 7) (gCons (gNm 8) gNil))))) (mSq (mAsg (mIf (mTru (mPk 8)) (mC1 dMax1 (toD (mLc (mSeq (mVar 8)) (gNm 10) mYes (mIxN 4 (mVar 10)) [10]))) (ofD (mVar 2))) (gNm 9)) (mAsg (mBin dAdd (toD (mMeth 16 "on" 2 m_Table_on (mIxN 3 (mVar 6)) (mCons (mVar 9) mNil))) (mPk 7)) (gSb 4 (mVar 5)))))) (mRet (mMv 4))))
def m_ready_days : ME := mFn 11 b_ready_days
set_option maxHeartbeats 4000000 in
theorem f_ready_days {P : Program} {w : World} {K : PySem.W.Frag} {mg : PySem.Str → Option Value} {base : Heap} (pg : Pg K mg base) {fd : FuncData} (F : FunD K dd_ready_days.name dd_ready_days.qual dd_ready_days.params dd_ready_days.body dd_ready_days.scope (dd_ready_days.dvs K) (dd_ready_days.kws K) (He.fAd K dd_ready_days.at_) fd) : FnG P w K (clK K) mg base 5 (He.ga K "ready_days") fd ["plan", "parts", "day", "world"] m_ready_days := by
  refine FnG.of F sc_ready_days fun cdv A fr s H E hr gds => ?_
  have hN := sc_ready_days.nd
  have hu64 := hr.units
  have hu1 : _ + 1 < cLine := Nat.lt_of_le_of_lt (Nat.add_le_add_left (by decide : 1 ≤ 64) _) hu64
  exact (dss_cons (ds_set 4 hN de_dic0) (dss_cons (ds_for (passes_of rfl) rfl (di_seq (dd_var 1)) (DG.top (dg_name 5 hN)) (dss_cons (ds_asg (DD.toE (dd_ixN hu1 0 (dd_var 5))) (dg_tup rfl (dgs_cons (dg_name 6 hN) (dgs_cons (dg_name 7 hN) (dgs_cons (dg_name 8 hN) dgs_nil))))) (dss_cons (ds_set 9 hN (de_if (dt_tru (dr_pk 8)) (de_b1 (cr_max rfl) ca_max (DE.toR (de_lc (own := [("need", 10)]) rfl hN (di_seq (dd_var 8)) (blk_ok (by kernel_rfl)) (fun _ _ _ _ _ => (dgc_name 10 hN)) (fun _ _ _ _ _ => dts_nil) (fun _ _ _ _ _ => (dd_ixN hu1 4 (dd_var 10))))) rfl (pg.free 98) (by decide +kernel)) (DD.toE (dd_var 2)))) (dss_one (ds_asg (de_add (DE.toD (de_methF (pg.cls 113) (dd_ixN hu1 3 (dd_var 6)) (DfM.mono (g_Table_on pg) (by decide)) hr gds (takes_of rfl rfl rfl rfl) (das_cons (dd_var 9) das_nil))) (dr_pk 7)) (DG.top (dg_sub (W := W0) 4 hu1 (dd_var 5)))))))) (dss_one (ds_ret (de_mv 4)))))
theorem g_ready_days {P : Program} {w : World} {K : PySem.W.Frag} {mg : PySem.Str → Option Value} {base : Heap} (pg : Pg K mg base) : Df P w K (clK K) mg base 5 "ready_days" ["plan", "parts", "day", "world"] m_ready_days := by
  obtain ⟨fd, F⟩ := pg.def_ 30 (d := dd_ready_days)
  exact ⟨fd, f_ready_days pg F, F.bindsN fun _ _ _ _ _ _ us hl => match us, hl with | [_, _, _, _], _ => rfl, F.kp, pg.glo 30⟩
/-! rules_in_parts -/
theorem sc_rules_in_parts : FnScope ["plan", "parts", "found", "part"] ["plan", "parts"] (defScope st_rules_in_parts) := ⟨rfl, rfl, rfl, by decide +kernel, rfl, by decide +kernel, by decide +kernel⟩
def b_rules_in_parts : MS := (mSq (mAsg (mLst mNil) (gNm 2)) (mSq (mFor (mSeq (mVar 1)) (gNm 3) (mIfS (mBl (toD (mBin dNotIn (mIx (mIxN 0 (mVar 3)) (mC (.int 0))) (mPk 2)))) (mDrop (mM "list" 2 fAppend (mCons (mIx (mIxN 0 (mVar 3)) (mC (.int 0))) mNil))) mNx)) (mRet (mC1 dSorted (mPk 2)))))
def m_rules_in_parts : ME := mFn 4 b_rules_in_parts
set_option maxHeartbeats 4000000 in
theorem f_rules_in_parts {P : Program} {w : World} {K : PySem.W.Frag} {mg : PySem.Str → Option Value} {base : Heap} (pg : Pg K mg base) {fd : FuncData} (F : FunD K dd_rules_in_parts.name dd_rules_in_parts.qual dd_rules_in_parts.params dd_rules_in_parts.body dd_rules_in_parts.scope (dd_rules_in_parts.dvs K) (dd_rules_in_parts.kws K) (He.fAd K dd_rules_in_parts.at_) fd) : FnG P w K (clK K) mg base 1 (He.ga K "rules_in_parts") fd ["plan", "parts"] m_rules_in_parts := by
  refine FnG.of F sc_rules_in_parts fun cdv A fr s H E hr gds => ?_
  have hN := sc_rules_in_parts.nd
  have hu64 := hr.units
  have hu1 : _ + 1 < cLine := Nat.lt_of_le_of_lt (Nat.add_le_add_left (by decide : 1 ≤ 64) _) hu64
  exact (dss_cons (ds_set 2 hN (de_lst das_nil)) (dss_cons (ds_for (passes_of rfl) rfl (di_seq (dd_var 1)) (DG.top (dg_name 3 hN)) (dss_one (ds_if (dt_notIn hu1 (dd_ix hu1 (dd_ixN hu1 0 (dd_var 3)) dd_int) (dr_pk 2)) (dss_one (ds_expr (de_append 2 (das_cons (dd_ix hu1 (dd_ixN hu1 0 (dd_var 3)) dd_int) das_nil)))) dss_nil))) (dss_one (ds_ret (de_b1 (call_sortedW rfl) ca_sorted (dr_pk 2) rfl (pg.free 104) (by decide +kernel))))))
theorem g_rules_in_parts {P : Program} {w : World} {K : PySem.W.Frag} {mg : PySem.Str → Option Value} {base : Heap} (pg : Pg K mg base) : Df P w K (clK K) mg base 1 "rules_in_parts" ["plan", "parts"] m_rules_in_parts := by
  obtain ⟨fd, F⟩ := pg.def_ 28 (d := dd_rules_in_parts)
  exact ⟨fd, f_rules_in_parts pg F, F.bindsN fun _ _ _ _ _ _ us hl => match us, hl with | [_, _], _ => rfl, F.kp, pg.glo 28⟩
/-! next_part -/
theorem sc_next_part : FnScope ["plan", "found", "left", "part", "need"] ["plan", "found"] (defScope st_next_part) := ⟨rfl, rfl, rfl, by decide +kernel, rfl, by decide +kernel, by decide +kernel⟩
def b_next_part : MS := (mSq (mAsg (mLc (mSeq (toD (mC1 dSorted (mPk 0)))) (gNm 3) (mBl (toD (mBin dNotIn (mVar 3) (mPk 1)))) (mVar 3) [3]) (gNm 2)) (mRet (ofD (mIx (toD (mLc (mSeq (mVar 2)) (gNm 3) (mTru (toD (mC1 dAll (toD (mLc (mSeq (mIx (mIxN 0 (mVar 3)) (mC (.int 2)))) (gNm 4) mYes (toD (mBin dIn (mVar 4) (mPk 1))) [4]))))) (mVar 3) [3])) (mC (.int 0))))))
def m_next_part : ME := mFn 5 b_next_part
set_option maxHeartbeats 4000000 in
theorem f_next_part {P : Program} {w : World} {K : PySem.W.Frag} {mg : PySem.Str → Option Value} {base : Heap} (pg : Pg K mg base) {fd : FuncData} (F : FunD K dd_next_part.name dd_next_part.qual dd_next_part.params dd_next_part.body dd_next_part.scope (dd_next_part.dvs K) (dd_next_part.kws K) (He.fAd K dd_next_part.at_) fd) : FnG P w K (clK K) mg base 1 (He.ga K "next_part") fd ["plan", "found"] m_next_part := by
  refine FnG.of F sc_next_part fun cdv A fr s H E hr gds => ?_
  have hN := sc_next_part.nd
  have hu64 := hr.units
  have hu1 : _ + 1 < cLine := Nat.lt_of_le_of_lt (Nat.add_le_add_left (by decide : 1 ≤ 64) _) hu64
  exact (dss_cons (ds_setLc (own := [("part", 3)]) 2 rfl hN (di_seq (DE.toD (de_b1 (call_sortedW rfl) ca_sorted (dr_pk 0) rfl (pg.free 104) (by decide +kernel)))) (blk_ok (by kernel_rfl)) (fun _ _ _ _ _ => (dgc_name 3 hN)) (fun _ _ _ _ _ => (dts_one (dt_notIn hu1 (dd_var 3) (dr_pk 1)))) (fun _ _ _ _ _ => (dd_var 3))) (dss_one (ds_ret (DD.toE (dd_ix hu1 (DE.toD (de_lc (own := [("part", 3)]) rfl hN (di_seq (dd_var 2)) (blk_ok (by kernel_rfl)) (fun _ _ _ _ _ => (dgc_name 3 hN)) (fun _ _ _ _ _ => (dts_one (dt_tru (DE.toR (de_b1 (cr_all rfl) ca_all (DE.toR (de_lc (own := [("need", 4)]) rfl hN (di_seq (dd_ix hu1 (dd_ixN hu1 0 (dd_var 3)) dd_int)) (blk_ok (by kernel_rfl)) (fun _ _ _ _ _ => (dgc_name 4 hN)) (fun _ _ _ _ _ => dts_nil) (fun _ _ _ _ _ => (DE.toD (de_in hu1 (dd_var 4) (dr_pk 1)))))) rfl (pg.free 88) (by decide +kernel)))))) (fun _ _ _ _ _ => (dd_var 3)))) dd_int)))))
theorem g_next_part {P : Program} {w : World} {K : PySem.W.Frag} {mg : PySem.Str → Option Value} {base : Heap} (pg : Pg K mg base) : Df P w K (clK K) mg base 1 "next_part" ["plan", "found"] m_next_part := by
  obtain ⟨fd, F⟩ := pg.def_ 25 (d := dd_next_part)
  exact ⟨fd, f_next_part pg F, F.bindsN fun _ _ _ _ _ _ us hl => match us, hl with | [_, _], _ => rfl, F.kp, pg.glo 25⟩
/-! sequence -/
theorem sc_sequence : FnScope ["plan", "found"] ["plan"] (defScope st_sequence) := ⟨rfl, rfl, rfl, by decide +kernel, rfl, by decide +kernel, by decide +kernel⟩
def b_sequence : MS := (mSq (mAsg (mLst mNil) (gNm 1)) (mSq (mWhile (mBl (toD (mBin dLt (toD (mC1 dLen (mPk 1))) (toD (mC1 dLen (mPk 0)))))) (mDrop (mM "list" 1 fAppend (mCons (toD (mCallN 2 m_next_part (mAv (mVar 0) (mAr 1 .lok mAn)))) mNil))) 1000) (mRet (mMv 1))))
def m_sequence : ME := mFn 2 b_sequence
set_option maxHeartbeats 4000000 in
theorem f_sequence {P : Program} {w : World} {K : PySem.W.Frag} {mg : PySem.Str → Option Value} {base : Heap} (pg : Pg K mg base) {fd : FuncData} (F : FunD K dd_sequence.name dd_sequence.qual dd_sequence.params dd_sequence.body dd_sequence.scope (dd_sequence.dvs K) (dd_sequence.kws K) (He.fAd K dd_sequence.at_) fd) : FnG P w K (clK K) mg base 2 (He.ga K "sequence") fd ["plan"] m_sequence := by
  refine FnG.of F sc_sequence fun cdv A fr s H E hr gds => ?_
  have hN := sc_sequence.nd
  have hu64 := hr.units
  have hu1 : _ + 1 < cLine := Nat.lt_of_le_of_lt (Nat.add_le_add_left (by decide : 1 ≤ 64) _) hu64
  exact (dss_cons (ds_set 1 hN (de_lst das_nil)) (dss_cons (ds_while 1000 (passes_of rfl) (dt_lt (DE.toD (de_b1 call_lenW ca_len (dr_pk 1) rfl (pg.free 96) (by decide +kernel))) (DE.toR (de_b1 call_lenW ca_len (dr_pk 0) rfl (pg.free 96) (by decide +kernel)))) (dss_one (ds_expr (de_append 1 (das_cons (DE.toD (de_callF (ps := ["plan", "found"]) (Df.mono (g_next_part pg) (by decide)) hr gds (takes_of rfl rfl rfl rfl) (da_v (dd_var 0) (da_r 1 .lok da_nil)))) das_nil))))) (dss_one (ds_ret (de_mv 1)))))
theorem g_sequence {P : Program} {w : World} {K : PySem.W.Frag} {mg : PySem.Str → Option Value} {base : Heap} (pg : Pg K mg base) : Df P w K (clK K) mg base 2 "sequence" ["plan"] m_sequence := by
  obtain ⟨fd, F⟩ := pg.def_ 26 (d := dd_sequence)
  exact ⟨fd, f_sequence pg F, F.bindsN fun _ _ _ _ _ _ us hl => match us, hl with | [_], _ => rfl, F.kp, pg.glo 26⟩
/-! all_ready -/
theorem sc_all_ready : FnScope ["plan", "day", "world", "found", "part"] ["plan", "day", "world"] (defScope st_all_ready) := ⟨rfl, rfl, rfl, by decide +kernel, rfl, by decide +kernel, by decide +kernel⟩
def b_all_ready : MS := (mSq (mDrop (mCallN 1 m_want_plan (mAv (mVar 0) mAn))) (mSq (mDrop (mCallN 1 m_want_day (mAv (mVar 1) mAn))) (mSq (mDrop (mCallN 1 m_want_world (mAv (mVar 2) mAn))) (mSq (mDrop (mCallN 2 m_want_rules (mAv (mVar 2) (mAv (toD (mCallN 2 m_rules_in_parts (mAv (mVar 0) (mAv (toD (mC1 dSorted (mPk 0))) mAn)))) mAn)))) (mSq (mAsg (mCallN 4 m_ready_days (mAv (mVar 0) (mAv (toD (mCallN 1 m_sequence (mAv (mVar 0) mAn))) (mAv (mVar 1) (mAv (mVar 2) mAn))))) (gNm 3)) (mRet (mC1 dDict (toD (mLc (mSeq (toD (mC1 dSorted (mPk 3)))) (gNm 4) mYes (mTup (mCons (mVar 4) (mCons (mIxN 3 (mVar 4)) mNil))) [4])))))))))
def m_all_ready : ME := mFn 5 b_all_ready
set_option maxHeartbeats 4000000 in
theorem f_all_ready {P : Program} {w : World} {K : PySem.W.Frag} {mg : PySem.Str → Option Value} {base : Heap} (pg : Pg K mg base) {fd : FuncData} (F : FunD K dd_all_ready.name dd_all_ready.qual dd_all_ready.params dd_all_ready.body dd_all_ready.scope (dd_all_ready.dvs K) (dd_all_ready.kws K) (He.fAd K dd_all_ready.at_) fd) : FnG P w K (clK K) mg base 6 (He.ga K "all_ready") fd ["plan", "day", "world"] m_all_ready := by
  refine FnG.of F sc_all_ready fun cdv A fr s H E hr gds => ?_
  have hN := sc_all_ready.nd
  have hu64 := hr.units
  have hu1 : _ + 1 < cLine := Nat.lt_of_le_of_lt (Nat.add_le_add_left (by decide : 1 ≤ 64) _) hu64
  exact (dss_cons (ds_expr (de_callF (ps := ["plan"]) (Df.mono (g_want_plan pg) (by decide)) hr gds (takes_of rfl rfl rfl rfl) (da_v (dd_var 0) da_nil))) (dss_cons (ds_expr (de_callF (ps := ["value"]) (Df.mono (g_want_day pg) (by decide)) hr gds (takes_of rfl rfl rfl rfl) (da_v (dd_var 1) da_nil))) (dss_cons (ds_expr (de_callF (ps := ["value"]) (Df.mono (g_want_world pg) (by decide)) hr gds (takes_of rfl rfl rfl rfl) (da_v (dd_var 2) da_nil))) (dss_cons (ds_expr (de_callF (ps := ["world", "rules"]) (Df.mono (g_want_rules pg) (by decide)) hr gds (takes_of rfl rfl rfl rfl) (da_v (dd_var 2) (da_v (DE.toD (de_callF (ps := ["plan", "parts"]) (Df.mono (g_rules_in_parts pg) (by decide)) hr gds (takes_of rfl rfl rfl rfl) (da_v (dd_var 0) (da_v (DE.toD (de_b1 (call_sortedW rfl) ca_sorted (dr_pk 0) rfl (pg.free 104) (by decide +kernel))) da_nil)))) da_nil)))) (dss_cons (ds_set 3 hN (de_callF (ps := ["plan", "parts", "day", "world"]) (Df.mono (g_ready_days pg) (by decide)) hr gds (takes_of rfl rfl rfl rfl) (da_v (dd_var 0) (da_v (DE.toD (de_callF (ps := ["plan"]) (Df.mono (g_sequence pg) (by decide)) hr gds (takes_of rfl rfl rfl rfl) (da_v (dd_var 0) da_nil))) (da_v (dd_var 1) (da_v (dd_var 2) da_nil)))))) (dss_one (ds_ret (de_t1 (call_dictW rfl) ca_dict (DE.toR (de_lc (own := [("part", 4)]) rfl hN (di_seq (DE.toD (de_b1 (call_sortedW rfl) ca_sorted (dr_pk 3) rfl (pg.free 104) (by decide +kernel)))) (blk_ok (by kernel_rfl)) (fun _ _ _ _ _ => (dgc_name 4 hN)) (fun _ _ _ _ _ => dts_nil) (fun _ _ _ _ _ => (dd_tup (das_cons (dd_var 4) (das_cons (dd_ixN hu1 3 (dd_var 4)) das_nil)))))) rfl (pg.free 91) (by decide +kernel)))))))))
theorem g_all_ready {P : Program} {w : World} {K : PySem.W.Frag} {mg : PySem.Str → Option Value} {base : Heap} (pg : Pg K mg base) : Df P w K (clK K) mg base 6 "all_ready" ["plan", "day", "world"] m_all_ready := by
  obtain ⟨fd, F⟩ := pg.def_ 33 (d := dd_all_ready)
  exact ⟨fd, f_all_ready pg F, F.bindsN fun _ _ _ _ _ _ us hl => match us, hl with | [_, _, _], _ => rfl, F.kp, pg.glo 33⟩
/-! l_on -/
theorem sc_l_on : FnScope ["_law_days", "_law_x", "_law_turn"] ["_law_days", "_law_x"] (defScope st_l_on) := ⟨rfl, rfl, rfl, by decide +kernel, rfl, by decide +kernel, by decide +kernel⟩
def b_l_on : MS := (mSq (mAsg (mBin dDiv (mVar 1) (toD (mC1 dLen (mPk 0)))) (gNm 2)) (mRet (mBin dAdd (mIxN 0 (toD (mBin dSub (mVar 1) (toD (mBin dMul (mVar 2) (toD (mC1 dLen (mPk 0)))))))) (toD (mBin dMul (mVar 2) (toD (mC1 dLen (mPk 0))))))))
def m_l_on : ME := mFn 3 b_l_on
set_option maxHeartbeats 4000000 in
theorem f_l_on {P : Program} {w : World} {K : PySem.W.Frag} {mg : PySem.Str → Option Value} {base : Heap} (pg : Pg K mg base) {fd : FuncData} (F : FunD K dd_l_on.name dd_l_on.qual dd_l_on.params dd_l_on.body dd_l_on.scope (dd_l_on.dvs K) (dd_l_on.kws K) (He.fAd K dd_l_on.at_) fd) : FnG P w K (clK K) mg base 1 (He.ga K "_law_on") fd ["_law_days", "_law_x"] m_l_on := by
  refine FnG.of F sc_l_on fun cdv A fr s H E hr gds => ?_
  have hN := sc_l_on.nd
  have hu64 := hr.units
  have hu1 : _ + 1 < cLine := Nat.lt_of_le_of_lt (Nat.add_le_add_left (by decide : 1 ≤ 64) _) hu64
  exact (dss_cons (ds_set 2 hN (de_div (dd_var 1) (DE.toR (de_b1 call_lenW ca_len (dr_pk 0) rfl (pg.free 96) (by decide +kernel))))) (dss_one (ds_ret (de_add (dd_ixN hu1 0 (DE.toD (de_sub (dd_var 1) (DE.toR (de_mul (dd_var 2) (DE.toR (de_b1 call_lenW ca_len (dr_pk 0) rfl (pg.free 96) (by decide +kernel)))))))) (DE.toR (de_mul (dd_var 2) (DE.toR (de_b1 call_lenW ca_len (dr_pk 0) rfl (pg.free 96) (by decide +kernel)))))))))
theorem g_l_on {P : Program} {w : World} {K : PySem.W.Frag} {mg : PySem.Str → Option Value} {base : Heap} (pg : Pg K mg base) : Df P w K (clK K) mg base 1 "_law_on" ["_law_days", "_law_x"] m_l_on := by
  obtain ⟨fd, F⟩ := pg.def_ 45 (d := dd_l_on)
  exact ⟨fd, f_l_on pg F, F.bindsN fun _ _ _ _ _ _ us hl => match us, hl with | [_, _], _ => rfl, F.kp, pg.glo 45⟩
/-! l_ready -/
theorem sc_l_ready : FnScope ["_law_plan_here", "_law_rules", "_law_part", "_law_day", "_law_rule_here", "_law_count", "_law_needs", "_law_asked", "_law_need"] ["_law_plan_here", "_law_rules", "_law_part", "_law_day"] (defScope st_l_ready) := ⟨rfl, rfl, rfl, by decide +kernel, rfl, by decide +kernel, by decide +kernel⟩
def b_l_ready (r : ME) : MS := (mSq (mAsg (ofD (mIxN 0 (mVar 2))) (gTp 3 (gCons (gNm 4) (gCons (gNm 5) (gCons (gNm 6) gNil))))) (mSq (mAsg (mIf (mBl (toD (mBin dNe (mVar 6) (toD (mLst mNil))))) (mC1 dMax1 (toD (mLc (mSeq (mVar 6)) (gNm 8) mYes (toD (mCallN 4 r (mAv (mVar 0) (mAv (mVar 1) (mAv (mVar 8) (mAv (mVar 3) mAn)))))) [8]))) (ofD (mVar 3))) (gNm 7)) (mRet (mBin dAdd (toD (mCallN 2 m_l_on (mAv (mIxN 1 (mVar 4)) (mAv (mVar 7) mAn)))) (mPk 5)))))
def m_l_ready : Nat → ME
  | 0 => fun _ => .bad
  | n + 1 => mFn 9 (b_l_ready (m_l_ready n))
set_option maxHeartbeats 4000000 in
theorem g_l_ready {P : Program} {w : World} {K : PySem.W.Frag} {mg : PySem.Str → Option Value} {base : Heap} (pg : Pg K mg base) : ∀ n, Df P w K (clK K) mg base (n + 2) "_law_ready" ["_law_plan_here", "_law_rules", "_law_part", "_law_day"] (m_l_ready n)
  | 0 => ⟨(pg.def_ 53 (d := dd_l_ready)).choose, FnG.bad, (pg.def_ 53 (d := dd_l_ready)).choose_spec.bindsN (fun _ _ _ _ _ _ us hl => match us, hl with | [_, _, _, _], _ => rfl), (pg.def_ 53 (d := dd_l_ready)).choose_spec.kp, pg.glo 53⟩
  | n + 1 => by
    have gr := g_l_ready pg (P := P) (w := w) n
    obtain ⟨fd, F⟩ := pg.def_ 53 (d := dd_l_ready)
    refine ⟨fd, FnG.of (k := n + 2) (b := b_l_ready (m_l_ready n)) F sc_l_ready fun cdv A fr s H E hr gds => ?_, F.bindsN fun _ _ _ _ _ _ us hl => match us, hl with | [_, _, _, _], _ => rfl, F.kp, pg.glo 53⟩
    have hN := sc_l_ready.nd
    have hu64 := hr.units
    have hu1 : _ + 1 < cLine := Nat.lt_of_le_of_lt (Nat.add_le_add_left (by decide : 1 ≤ 64) _) hu64
    exact (dss_cons (ds_asg (DD.toE (dd_ixN hu1 0 (dd_var 2))) (dg_tup rfl (dgs_cons (dg_name 4 hN) (dgs_cons (dg_name 5 hN) (dgs_cons (dg_name 6 hN) dgs_nil))))) (dss_cons (ds_set 7 hN (de_if (dt_ne pg.sys hu64 (dd_var 6) (DE.toR (de_lst das_nil))) (de_b1 (cr_max rfl) ca_max (DE.toR (de_lc (own := [("_law_need", 8)]) rfl hN (di_seq (dd_var 6)) (blk_ok (by kernel_rfl)) (fun _ _ _ _ _ => (dgc_name 8 hN)) (fun _ _ _ _ _ => dts_nil) (fun _ _ _ _ _ => (DE.toD (de_callF (ps := ["_law_plan_here", "_law_rules", "_law_part", "_law_day"]) gr hr gds DL.takes0 (da_v (dd_var 0) (da_v (dd_var 1) (da_v (dd_var 8) (da_v (dd_var 3) da_nil))))))))) rfl (pg.free 98) (by decide +kernel)) (DD.toE (dd_var 3)))) (dss_one (ds_ret (de_add (DE.toD (de_callF (ps := ["_law_days", "_law_x"]) (Df.mono (g_l_on pg) (by first | decide | omega)) hr gds (takes_of rfl rfl rfl rfl) (da_v (dd_ixN hu1 1 (dd_var 4)) (da_v (dd_var 7) da_nil)))) (dr_pk 5))))))
/-! l_same_ready -/
theorem sc_l_same_ready : FnScope ["_law_plan_here", "_law_rules", "_law_day", "_law_world", "_law_rule_here", "_law_one"] ["_law_plan_here", "_law_rules", "_law_day"] (defScope st_l_same_ready) := ⟨rfl, rfl, rfl, by decide +kernel, rfl, by decide +kernel, by decide +kernel⟩
def b_l_same_ready : MS := (mSq (mAsg (mC1 dDict (toD (mLcK 1 (gNm 4) mYes (mTup (mCons (mVar 4) (mCons (toD (mMake 16 2 m_Table_ddinitdd (mCons (mIxN 1 (mVar 4)) mNil))) mNil))) [4]))) (gNm 3)) (mRet (mBin dEq (toD (mC1 dRepr (toD (mCallN 3 m_all_ready (mAv (mVar 0) (mAv (mVar 2) (mAv (mVar 3) mAn))))))) (toD (mC1 dRepr (toD (mC1 dDict (toD (mLc (mSeq (toD (mC1 dSorted (mPk 0)))) (gNm 5) mYes (mTup (mCons (mVar 5) (mCons (toD (mCallN 4 (m_l_ready 12) (mAv (mVar 0) (mAv (mVar 1) (mAv (mVar 5) (mAv (mVar 2) mAn)))))) mNil))) [5])))))))))
def m_l_same_ready : ME := mFn 6 b_l_same_ready
set_option maxHeartbeats 4000000 in
theorem f_l_same_ready {P : Program} {w : World} {K : PySem.W.Frag} {mg : PySem.Str → Option Value} {base : Heap} (pg : Pg K mg base) {fd : FuncData} (F : FunD K dd_l_same_ready.name dd_l_same_ready.qual dd_l_same_ready.params dd_l_same_ready.body dd_l_same_ready.scope (dd_l_same_ready.dvs K) (dd_l_same_ready.kws K) (He.fAd K dd_l_same_ready.at_) fd) : FnG P w K (clK K) mg base 15 (He.ga K "_law_same_ready") fd ["_law_plan_here", "_law_rules", "_law_day"] m_l_same_ready := by
  refine FnG.of F sc_l_same_ready fun cdv A fr s H E hr gds => ?_
  have hN := sc_l_same_ready.nd
  have hu64 := hr.units
  have hu1 : _ + 1 < cLine := Nat.lt_of_le_of_lt (Nat.add_le_add_left (by decide : 1 ≤ 64) _) hu64
  exact (dss_cons (ds_set 3 hN (de_t1 (call_dictW rfl) ca_dict (DE.toR (de_lcK (own := [("_law_rule_here", 4)]) 1 rfl hN (blk_ok (by kernel_rfl)) (fun _ _ _ _ _ => (dgc_name 4 hN)) (fun _ _ _ _ _ => dts_nil) (fun _ _ _ _ _ => (dd_tup (das_cons (dd_var 4) (das_cons (DE.toD (de_makeF (DfI.mono (g_Table_ddinitdd pg) (by decide)) hr gds DL.takes0 (das_cons (dd_ixN hu1 1 (dd_var 4)) das_nil))) das_nil)))))) rfl (pg.free 91) (by decide +kernel))) (dss_one (ds_ret (de_eq pg.sys hu64 (DE.toD (de_b1 (call_reprW pg.sys hu64 gds) ca_repr (DE.toR (de_callF (ps := ["plan", "day", "world"]) (Df.mono (g_all_ready pg) (by decide)) hr gds (takes_of rfl rfl rfl rfl) (da_v (dd_var 0) (da_v (dd_var 2) (da_v (dd_var 3) da_nil))))) rfl (pg.free 102) (by decide +kernel))) (DE.toR (de_b1 (call_reprW pg.sys hu64 gds) ca_repr (DE.toR (de_t1 (call_dictW rfl) ca_dict (DE.toR (de_lc (own := [("_law_one", 5)]) rfl hN (di_seq (DE.toD (de_b1 (call_sortedW rfl) ca_sorted (dr_pk 0) rfl (pg.free 104) (by decide +kernel)))) (blk_ok (by kernel_rfl)) (fun _ _ _ _ _ => (dgc_name 5 hN)) (fun _ _ _ _ _ => dts_nil) (fun _ _ _ _ _ => (dd_tup (das_cons (dd_var 5) (das_cons (DE.toD (de_callF (ps := ["_law_plan_here", "_law_rules", "_law_part", "_law_day"]) (Df.mono (g_l_ready pg 12) (by decide)) hr gds DL.takes0 (da_v (dd_var 0) (da_v (dd_var 1) (da_v (dd_var 5) (da_v (dd_var 2) da_nil)))))) das_nil)))))) rfl (pg.free 91) (by decide +kernel))) rfl (pg.free 102) (by decide +kernel)))))))
theorem g_l_same_ready {P : Program} {w : World} {K : PySem.W.Frag} {mg : PySem.Str → Option Value} {base : Heap} (pg : Pg K mg base) : Df P w K (clK K) mg base 15 "_law_same_ready" ["_law_plan_here", "_law_rules", "_law_day"] m_l_same_ready := by
  obtain ⟨fd, F⟩ := pg.def_ 59 (d := dd_l_same_ready)
  exact ⟨fd, f_l_same_ready pg F, F.bindsN fun _ _ _ _ _ _ us hl => match us, hl with | [_, _, _], _ => rfl, F.kp, pg.glo 59⟩
/-! l_fewer_right -/
theorem sc_l_fewer_right : FnScope ["_law_pot_here", "_law_plan_here", "_law_rules", "_law_here", "_law_part", "_law_said_here", "_law_shown", "_law_told_here", "_law_last", "_law_caught", "e"] ["_law_pot_here", "_law_plan_here", "_law_rules"] (defScope st_l_fewer_right) := ⟨rfl, rfl, rfl, by decide +kernel, rfl, by decide +kernel, by decide +kernel⟩
def b_l_fewer_right : MS := (mSq (mAsg (ofD (mVar 1)) (gNm 3)) (mSq (mFor (mSeq (toD (mSl (toD (mCallN 2 m_l_mixed (mAr 0 .brw (mAv (toD (mC1 dSorted (mPk 1))) mAn)))) (mOS (mC (.int 1))) mON))) (gNm 4) (mSq (mAsg (mCallN 2 m_l_said (mAr 0 .brw (mAv (mVar 3) mAn))) (gNm 5)) (mSq (mPar 6 3 (mECons (mC1 dRepr (mPk 5)) (mECons (mCallN 2 m_l_without (mAv (mVar 3) (mAv (mVar 4) mAn))) mENil))) (mSq (mAsg (mCallN 2 m_without_part (mAv (mVar 5) (mAv (mVar 4) mAn))) (gNm 7)) (mSq (mIfS (mOrT (mBl (toD (mBin dNe (toD (mC1 dRepr (toD (mLst (mCons (mVar 7) (mCons (toD (mCallK 2 kg_without_part m_without_part (mCons (mVar 4) (mCons (mVar 5) mNil)))) mNil)))))) (toD (mC1 dRepr (toD (mLst (mCons (mVar 3) (mCons (mVar 3) mNil))))))))) (mBl (toD (mBin dNe (toD (mC1 dRepr (mPk 5))) (mPk 6))))) (mRet (ofD (mC (.bl false)))) mNx) (mIfS (mOrT (mNotT (mTru (toD (mCallN 1 m_is_plan (mAv (mVar 7) mAn))))) (mNotT (mTru (toD (mCallN 3 m_l_same_ready (mAv (mVar 7) (mAv (mVar 2) (mAv (toD (mBin dSub (toD (mCallN 2 m_l_draw (mAr 0 .brw (mAv (mC (.int 30)) mAn)))) (mC (.int 12)))) mAn)))))))) (mRet (ofD (mC (.bl false)))) mNx)))))) (mSq (mPar 8 9 (mECons (ofD (mIx (toD (mC1 dSorted (mPk 3))) (mC (.int 0)))) (mECons (mLst mNil) mENil))) (mSq (mTry 14 10 9 (gI "part") (mDrop (mCallN 2 m_without_part (mAv (mVar 3) (mAv (mVar 8) mAn))))) (mRet (mBin dEq (mVar 9) (toD (mLst (mCons (toD (mLst (mCons (mVar 8) (mCons (mC (.bl true)) mNil)))) mNil)))))))))
def m_l_fewer_right : ME := mFn 11 b_l_fewer_right
set_option maxHeartbeats 4000000 in
theorem f_l_fewer_right {P : Program} {w : World} {K : PySem.W.Frag} {mg : PySem.Str → Option Value} {base : Heap} (pg : Pg K mg base) {fd : FuncData} (F : FunD K dd_l_fewer_right.name dd_l_fewer_right.qual dd_l_fewer_right.params dd_l_fewer_right.body dd_l_fewer_right.scope (dd_l_fewer_right.dvs K) (dd_l_fewer_right.kws K) (He.fAd K dd_l_fewer_right.at_) fd) : FnG P w K (clK K) mg base 16 (He.ga K "_law_fewer_right") fd ["_law_pot_here", "_law_plan_here", "_law_rules"] m_l_fewer_right := by
  refine FnG.of F sc_l_fewer_right fun cdv A fr s H E hr gds => ?_
  have hN := sc_l_fewer_right.nd
  have hu64 := hr.units
  have hu1 : _ + 1 < cLine := Nat.lt_of_le_of_lt (Nat.add_le_add_left (by decide : 1 ≤ 64) _) hu64
  exact (dss_cons (ds_set 3 hN (DD.toE (dd_var 1))) (dss_cons (ds_for (passes_of rfl) rfl (di_seq (DE.toD (de_sl (DE.toD (de_callF (ps := ["_law_pot_here", "_law_some"]) (Df.mono (g_l_mixed pg) (by decide)) hr gds (takes_of rfl rfl rfl rfl) (da_r 0 .brw (da_v (DE.toD (de_b1 (call_sortedW rfl) ca_sorted (dr_pk 1) rfl (pg.free 104) (by decide +kernel))) da_nil)))) (do_some (DD.toR dd_int)) do_none))) (DG.top (dg_name 4 hN)) (dss_cons (ds_set 5 hN (de_callF (ps := ["_law_pot_here", "_law_plan_here"]) (Df.mono (g_l_said pg) (by decide)) hr gds (takes_of rfl rfl rfl rfl) (da_r 0 .brw (da_v (dd_var 3) da_nil)))) (dss_cons (ds_par 6 3 rfl hN (des_cons (de_b1 (call_reprW pg.sys hu64 gds) ca_repr (dr_pk 5) rfl (pg.free 102) (by decide +kernel)) (des_cons (de_callF (ps := ["_law_plan_here", "_law_other"]) (Df.mono (g_l_without pg) (by decide)) hr gds (takes_of rfl rfl rfl rfl) (da_v (dd_var 3) (da_v (dd_var 4) da_nil))) des_nil))) (dss_cons (ds_set 7 hN (de_callF (ps := ["plan", "other"]) (Df.mono (g_without_part pg) (by decide)) hr gds (takes_of rfl rfl rfl rfl) (da_v (dd_var 5) (da_v (dd_var 4) da_nil)))) (dss_cons (ds_if (DW.dt (dw_or (dt_ne pg.sys hu64 (DE.toD (de_b1 (call_reprW pg.sys hu64 gds) ca_repr (DE.toR (de_lst (das_cons (dd_var 7) (das_cons (DE.toD (de_callKF (DfK.mono (gk_without_part pg) (by decide)) hr gds (takes_of rfl rfl rfl rfl) (dkw_cons (dd_var 4) (dkw_cons (dd_var 5) dkw_nil)))) das_nil)))) rfl (pg.free 102) (by decide +kernel))) (DE.toR (de_b1 (call_reprW pg.sys hu64 gds) ca_repr (DE.toR (de_lst (das_cons (dd_var 3) (das_cons (dd_var 3) das_nil)))) rfl (pg.free 102) (by decide +kernel)))) (dw_or1 (dt_ne pg.sys hu64 (DE.toD (de_b1 (call_reprW pg.sys hu64 gds) ca_repr (dr_pk 5) rfl (pg.free 102) (by decide +kernel))) (dr_pk 6))))) (dss_one (ds_ret (DD.toE dd_bl))) dss_nil) (dss_one (ds_if (DW.dt (dw_or (dt_not (dt_tru (DE.toR (de_callF (ps := ["value"]) (Df.mono (g_is_plan pg) (by decide)) hr gds (takes_of rfl rfl rfl rfl) (da_v (dd_var 7) da_nil))))) (dw_or1 (dt_not (dt_tru (DE.toR (de_callF (ps := ["_law_plan_here", "_law_rules", "_law_day"]) (Df.mono (g_l_same_ready pg) (by decide)) hr gds (takes_of rfl rfl rfl rfl) (da_v (dd_var 7) (da_v (dd_var 2) (da_v (DE.toD (de_sub (DE.toD (de_callF (ps := ["_law_pot_here", "_law_many"]) (Df.mono (g_l_draw pg) (by decide)) hr gds (takes_of rfl rfl rfl rfl) (da_r 0 .brw (da_v dd_int da_nil)))) (DD.toR dd_int))) da_nil)))))))))) (dss_one (ds_ret (DD.toE dd_bl))) dss_nil))))))) (dss_cons (ds_par 8 9 rfl hN (des_cons (DD.toE (dd_ix hu1 (DE.toD (de_b1 (call_sortedW rfl) ca_sorted (dr_pk 3) rfl (pg.free 104) (by decide +kernel))) dd_int)) (des_cons (de_lst das_nil) des_nil))) (dss_cons (ds_try (fun a cls d => tLst (tCons (tXf a cls d (clK K 14) "part" (tVar 10)) (tCons (tIs K (clK K) 14 2 10 a cls d) tNil))) (x_LastPart pg) hN (takes_of rfl rfl rfl rfl) (fun W pn xe tk hp => (dss_one (ds_expr (de_callF (ps := ["plan", "other"]) (Df.mono (g_without_part pg) (by decide)) hr gds tk (da_v (dd_var 3) (da_v (dd_var 8) da_nil)))))) (fun a oe cls d pn hz hf => (pe_lst (pa_cons (pe_xf (xfOf pg.xLast) (pg.xLast.noN "part" (by simp)) hz hf (pe_var rfl (.inl rfl))) (pa_cons (pe_is pg.exLast hz hf (pg.free 95) (pg.glo 68)) pa_nil)))) (fun a cls d as dv h => wxa_I pg.kitLast h)) (dss_one (ds_ret (de_eq pg.sys hu64 (dd_var 9) (DE.toR (de_lst (das_cons (DE.toD (de_lst (das_cons (dd_var 8) (das_cons dd_bl das_nil)))) das_nil))))))))))
theorem g_l_fewer_right {P : Program} {w : World} {K : PySem.W.Frag} {mg : PySem.Str → Option Value} {base : Heap} (pg : Pg K mg base) : Df P w K (clK K) mg base 16 "_law_fewer_right" ["_law_pot_here", "_law_plan_here", "_law_rules"] m_l_fewer_right := by
  obtain ⟨fd, F⟩ := pg.def_ 61 (d := dd_l_fewer_right)
  exact ⟨fd, f_l_fewer_right pg F, F.bindsN fun _ _ _ _ _ _ us hl => match us, hl with | [_, _, _], _ => rfl, F.kp, pg.glo 61⟩
/-! want_at_most -/
theorem sc_want_at_most : FnScope ["what", "limit", "number"] ["what", "limit", "number"] (defScope st_want_at_most) := ⟨rfl, rfl, rfl, by decide +kernel, rfl, by decide +kernel, by decide +kernel⟩
def b_want_at_most : MS := (mIfS (mBl (toD (mBin dGt (mVar 2) (mPk 1)))) (mRaise 15 ["what", "limit"] (mCons (mVar 0) (mCons (mVar 1) mNil))) mNx)
def m_want_at_most : ME := mFn 3 b_want_at_most
set_option maxHeartbeats 4000000 in
theorem f_want_at_most {P : Program} {w : World} {K : PySem.W.Frag} {mg : PySem.Str → Option Value} {base : Heap} (pg : Pg K mg base) {fd : FuncData} (F : FunD K dd_want_at_most.name dd_want_at_most.qual dd_want_at_most.params dd_want_at_most.body dd_want_at_most.scope (dd_want_at_most.dvs K) (dd_want_at_most.kws K) (He.fAd K dd_want_at_most.at_) fd) : FnG P w K (clK K) mg base 1 (He.ga K "want_at_most") fd ["what", "limit", "number"] m_want_at_most := by
  refine FnG.of F sc_want_at_most fun cdv A fr s H E hr gds => ?_
  have hN := sc_want_at_most.nd
  have hu64 := hr.units
  have hu1 : _ + 1 < cLine := Nat.lt_of_le_of_lt (Nat.add_le_add_left (by decide : 1 ≤ 64) _) hu64
  exact (dss_one (ds_if (dt_gt (dd_var 2) (dr_pk 1)) (dss_one (ds_raise (x_TooMany pg) rfl (takes_of rfl rfl rfl rfl) hr (das_cons (dd_var 0) (das_cons (dd_var 1) das_nil)))) dss_nil))
theorem g_want_at_most {P : Program} {w : World} {K : PySem.W.Frag} {mg : PySem.Str → Option Value} {base : Heap} (pg : Pg K mg base) : Df P w K (clK K) mg base 1 "want_at_most" ["what", "limit", "number"] m_want_at_most := by
  obtain ⟨fd, F⟩ := pg.def_ 8 (d := dd_want_at_most)
  exact ⟨fd, f_want_at_most pg F, F.bindsN fun _ _ _ _ _ _ us hl => match us, hl with | [_, _, _], _ => rfl, F.kp, pg.glo 8⟩
/-! followed -/
theorem sc_followed : FnScope ["plan", "part", "other_plan", "one", "found", "rule", "count", "needs"] ["plan", "part", "other_plan"] (defScope st_followed) := ⟨rfl, rfl, rfl, by decide +kernel, rfl, by decide +kernel, by decide +kernel⟩
def b_followed : MS := (mSq (mDrop (mCallN 1 m_want_plan (mAv (mVar 0) mAn))) (mSq (mDrop (mCallN 1 m_want_part (mAv (mVar 1) mAn))) (mSq (mDrop (mCallN 1 m_want_plan (mAv (mVar 2) mAn))) (mSq (mDrop (mCallN 2 m_want_there (mAv (mVar 0) (mAv (mVar 1) mAn)))) (mSq (mFor (mSeq (toD (mC1 dSorted (mPk 0)))) (gNm 3) (mIfS (mBl (toD (mBin dIn (mVar 3) (mPk 2)))) (mRaise 11 ["part"] (mCons (mVar 3) mNil)) mNx)) (mSq (mDrop (mCallN 3 m_want_at_most (mAv (mC (.str "parts")) (mAv (mC (.int 12)) (mAv (toD (mBin dAdd (toD (mC1 dLen (mPk 0))) (toD (mC1 dLen (mPk 2))))) mAn))))) (mSq (mAsg mDic0 (gNm 4)) (mSq (mFor (mSeq (toD (mC1 dSorted (toD (mBin dAdd (toD (mC1 dList (mPk 0))) (toD (mC1 dList (mPk 2)))))))) (gNm 3) (mSq (mAsg (mIf (mBl (toD (mBin dIn (mVar 3) (mPk 0)))) (ofD (mIxN 0 (mVar 3))) (ofD (mIxN 2 (mVar 3)))) (gTp 3 (gCons (gNm 5) (gCons (gNm 6) (gCons (gNm 7) gNil))))) (mAsg (ofD (mTup (mCons (mVar 5) (mCons (mVar 6) (mCons (toD (mIf (mAndT (mBl (toD (mBin dIn (mVar 3) (mPk 2)))) (mNotT (mTru (mPk 7)))) (mLst (mCons (mVar 1) mNil)) (mC1 dList (mPk 7)))) mNil))))) (gSb 4 (mVar 3))))) (mRet (mMv 4))))))))))
def m_followed : ME := mFn 8 b_followed
set_option maxHeartbeats 4000000 in
theorem f_followed {P : Program} {w : World} {K : PySem.W.Frag} {mg : PySem.Str → Option Value} {base : Heap} (pg : Pg K mg base) {fd : FuncData} (F : FunD K dd_followed.name dd_followed.qual dd_followed.params dd_followed.body dd_followed.scope (dd_followed.dvs K) (dd_followed.kws K) (He.fAd K dd_followed.at_) fd) : FnG P w K (clK K) mg base 6 (He.ga K "followed") fd ["plan", "part", "other_plan"] m_followed := by
  refine FnG.of F sc_followed fun cdv A fr s H E hr gds => ?_
  have hN := sc_followed.nd
  have hu64 := hr.units
  have hu1 : _ + 1 < cLine := Nat.lt_of_le_of_lt (Nat.add_le_add_left (by decide : 1 ≤ 64) _) hu64
  exact (dss_cons (ds_expr (de_callF (ps := ["plan"]) (Df.mono (g_want_plan pg) (by decide)) hr gds (takes_of rfl rfl rfl rfl) (da_v (dd_var 0) da_nil))) (dss_cons (ds_expr (de_callF (ps := ["part"]) (Df.mono (g_want_part pg) (by decide)) hr gds (takes_of rfl rfl rfl rfl) (da_v (dd_var 1) da_nil))) (dss_cons (ds_expr (de_callF (ps := ["plan"]) (Df.mono (g_want_plan pg) (by decide)) hr gds (takes_of rfl rfl rfl rfl) (da_v (dd_var 2) da_nil))) (dss_cons (ds_expr (de_callF (ps := ["plan", "part"]) (Df.mono (g_want_there pg) (by decide)) hr gds (takes_of rfl rfl rfl rfl) (da_v (dd_var 0) (da_v (dd_var 1) da_nil)))) (dss_cons (ds_for (passes_of rfl) rfl (di_seq (DE.toD (de_b1 (call_sortedW rfl) ca_sorted (dr_pk 0) rfl (pg.free 104) (by decide +kernel)))) (DG.top (dg_name 3 hN)) (dss_one (ds_if (dt_in hu1 (dd_var 3) (dr_pk 2)) (dss_one (ds_raise (x_SharedPart pg) rfl (takes_of rfl rfl rfl rfl) hr (das_cons (dd_var 3) das_nil))) dss_nil))) (dss_cons (ds_expr (de_callF (ps := ["what", "limit", "number"]) (Df.mono (g_want_at_most pg) (by decide)) hr gds (takes_of rfl rfl rfl rfl) (da_v dd_str (da_v (dd_gint rfl (pg.int 112)) (da_v (DE.toD (de_add (DE.toD (de_b1 call_lenW ca_len (dr_pk 0) rfl (pg.free 96) (by decide +kernel))) (DE.toR (de_b1 call_lenW ca_len (dr_pk 2) rfl (pg.free 96) (by decide +kernel))))) da_nil))))) (dss_cons (ds_set 4 hN de_dic0) (dss_cons (ds_for (passes_of rfl) rfl (di_seq (DE.toD (de_b1 (call_sortedW rfl) ca_sorted (DE.toR (de_add (DE.toD (de_t1 (CallR.or call_list_of (call_listD rfl)) ca_list (dr_pk 0) rfl (pg.free 97) (by decide +kernel))) (DE.toR (de_t1 (CallR.or call_list_of (call_listD rfl)) ca_list (dr_pk 2) rfl (pg.free 97) (by decide +kernel))))) rfl (pg.free 104) (by decide +kernel)))) (DG.top (dg_name 3 hN)) (dss_cons (ds_asg (de_if (dt_in hu1 (dd_var 3) (dr_pk 0)) (DD.toE (dd_ixN hu1 0 (dd_var 3))) (DD.toE (dd_ixN hu1 2 (dd_var 3)))) (dg_tup rfl (dgs_cons (dg_name 5 hN) (dgs_cons (dg_name 6 hN) (dgs_cons (dg_name 7 hN) dgs_nil))))) (dss_one (ds_asg (DD.toE (dd_tup (das_cons (dd_var 5) (das_cons (dd_var 6) (das_cons (DE.toD (de_if (DW.dt (dw_and (dt_in hu1 (dd_var 3) (dr_pk 2)) (dw_and1 (dt_not (dt_tru (dr_pk 7)))))) (de_lst (das_cons (dd_var 1) das_nil)) (de_t1 (CallR.or call_list_of (call_listD rfl)) ca_list (dr_pk 7) rfl (pg.free 97) (by decide +kernel)))) das_nil))))) (DG.top (dg_sub (W := W0) 4 hu1 (dd_var 3))))))) (dss_one (ds_ret (de_mv 4)))))))))))
theorem g_followed {P : Program} {w : World} {K : PySem.W.Frag} {mg : PySem.Str → Option Value} {base : Heap} (pg : Pg K mg base) : Df P w K (clK K) mg base 6 "followed" ["plan", "part", "other_plan"] m_followed := by
  obtain ⟨fd, F⟩ := pg.def_ 39 (d := dd_followed)
  exact ⟨fd, f_followed pg F, F.bindsN fun _ _ _ _ _ _ us hl => match us, hl with | [_, _, _], _ => rfl, F.kp, pg.glo 39⟩
def kg_followed {α : Type} : List α → List α
  | [a0, a1, a2] => [a2, a1, a0]
  | l => l
theorem gk_followed {P : Program} {w : World} {K : PySem.W.Frag} {mg : PySem.Str → Option Value} {base : Heap} (pg : Pg K mg base) : DfK P w K (clK K) mg base 6 "followed" ["plan", "part", "other_plan"] ["other_plan", "part", "plan"] kg_followed m_followed := by
  obtain ⟨fd, F⟩ := pg.def_ 39 (d := dd_followed)
  exact ⟨fd, f_followed pg F, F.kp, pg.glo 39, FunD.kwAll F (fun _ _ _ _ _ _ ws hl => match ws, hl with | [_, _, _], _ => rfl),
    (fun {vs us} hl r => match vs, us, hl, r with | [_, _, _], [_, _, _], _, (.cons h0 (.cons h1 (.cons h2 .nil))) => (.cons h2 (.cons h1 (.cons h0 .nil)))), (fun {Hf vs ds} hl r => match vs, ds, hl, r with | [_, _, _], [_, _, _], _, (.cons h0 (.cons h1 (.cons h2 .nil))) => (.cons h2 (.cons h1 (.cons h0 .nil))))⟩
/-! l_renamed -/
theorem sc_l_renamed : FnScope ["_law_plan_here", "_law_name", "_law_need"] ["_law_plan_here"] (defScope st_l_renamed) := ⟨rfl, rfl, rfl, by decide +kernel, rfl, by decide +kernel, by decide +kernel⟩
def b_l_renamed : MS := (mRet (mC1 dDict (toD (mLcK 0 (gNm 1) mYes (mTup (mCons (toD (mBin dAdd (mC (.str "n")) (mPk 1))) (mCons (mTup (mCons (mIx (mIxN 0 (mVar 1)) (mC (.int 0))) (mCons (mIx (mIxN 0 (mVar 1)) (mC (.int 1))) (mCons (toD (mLc (mSeq (mIx (mIxN 0 (mVar 1)) (mC (.int 2)))) (gNm 2) mYes (toD (mBin dAdd (mC (.str "n")) (mPk 2))) [2])) mNil)))) mNil))) [1]))))
def m_l_renamed : ME := mFn 3 b_l_renamed
set_option maxHeartbeats 4000000 in
theorem f_l_renamed {P : Program} {w : World} {K : PySem.W.Frag} {mg : PySem.Str → Option Value} {base : Heap} (pg : Pg K mg base) {fd : FuncData} (F : FunD K dd_l_renamed.name dd_l_renamed.qual dd_l_renamed.params dd_l_renamed.body dd_l_renamed.scope (dd_l_renamed.dvs K) (dd_l_renamed.kws K) (He.fAd K dd_l_renamed.at_) fd) : FnG P w K (clK K) mg base 1 (He.ga K "_law_renamed") fd ["_law_plan_here"] m_l_renamed := by
  refine FnG.of F sc_l_renamed fun cdv A fr s H E hr gds => ?_
  have hN := sc_l_renamed.nd
  have hu64 := hr.units
  have hu1 : _ + 1 < cLine := Nat.lt_of_le_of_lt (Nat.add_le_add_left (by decide : 1 ≤ 64) _) hu64
  exact (dss_one (ds_ret (de_t1 (call_dictW rfl) ca_dict (DE.toR (de_lcK (own := [("_law_name", 1)]) 0 rfl hN (blk_ok (by kernel_rfl)) (fun _ _ _ _ _ => (dgc_name 1 hN)) (fun _ _ _ _ _ => dts_nil) (fun _ _ _ _ _ => (dd_tup (das_cons (DE.toD (de_add dd_str (dr_pk 1))) (das_cons (dd_tup (das_cons (dd_ix hu1 (dd_ixN hu1 0 (dd_var 1)) dd_int) (das_cons (dd_ix hu1 (dd_ixN hu1 0 (dd_var 1)) dd_int) (das_cons (DE.toD (de_lc (own := [("_law_need", 2)]) rfl hN (di_seq (dd_ix hu1 (dd_ixN hu1 0 (dd_var 1)) dd_int)) (blk_ok (by kernel_rfl)) (fun _ _ _ _ _ => (dgc_name 2 hN)) (fun _ _ _ _ _ => dts_nil) (fun _ _ _ _ _ => (DE.toD (de_add dd_str (dr_pk 2)))))) das_nil)))) das_nil)))))) rfl (pg.free 91) (by decide +kernel))))
theorem g_l_renamed {P : Program} {w : World} {K : PySem.W.Frag} {mg : PySem.Str → Option Value} {base : Heap} (pg : Pg K mg base) : Df P w K (clK K) mg base 1 "_law_renamed" ["_law_plan_here"] m_l_renamed := by
  obtain ⟨fd, F⟩ := pg.def_ 57 (d := dd_l_renamed)
  exact ⟨fd, f_l_renamed pg F, F.bindsN fun _ _ _ _ _ _ us hl => match us, hl with | [_], _ => rfl, F.kp, pg.glo 57⟩
/-! l_followed -/
theorem sc_l_followed : FnScope ["_law_plan_here", "_law_part", "_law_later", "_law_found", "_law_name", "_law_rule_here", "_law_count", "_law_needs"] ["_law_plan_here", "_law_part", "_law_later"] (defScope st_l_followed) := ⟨rfl, rfl, rfl, by decide +kernel, rfl, by decide +kernel, by decide +kernel⟩
def b_l_followed : MS := (mSq (mAsg mDic0 (gNm 3)) (mSq (mFor (mSeq (toD (mC1 dSorted (toD (mBin dAdd (toD (mC1 dList (mPk 0))) (toD (mC1 dList (mPk 2)))))))) (gNm 4) (mIfS (mBl (toD (mBin dIn (mVar 4) (mPk 0)))) (mAsg (ofD (mIxN 0 (mVar 4))) (gSb 3 (mVar 4))) (mSq (mAsg (ofD (mIxN 2 (mVar 4))) (gTp 3 (gCons (gNm 5) (gCons (gNm 6) (gCons (gNm 7) gNil))))) (mAsg (ofD (mTup (mCons (mVar 5) (mCons (mVar 6) (mCons (toD (mIf (mBl (toD (mBin dNe (mVar 7) (toD (mLst mNil))))) (ofD (mVar 7)) (mLst (mCons (mVar 1) mNil)))) mNil))))) (gSb 3 (mVar 4)))))) (mRet (mMv 3))))
def m_l_followed : ME := mFn 8 b_l_followed
set_option maxHeartbeats 4000000 in
theorem f_l_followed {P : Program} {w : World} {K : PySem.W.Frag} {mg : PySem.Str → Option Value} {base : Heap} (pg : Pg K mg base) {fd : FuncData} (F : FunD K dd_l_followed.name dd_l_followed.qual dd_l_followed.params dd_l_followed.body dd_l_followed.scope (dd_l_followed.dvs K) (dd_l_followed.kws K) (He.fAd K dd_l_followed.at_) fd) : FnG P w K (clK K) mg base 1 (He.ga K "_law_followed") fd ["_law_plan_here", "_law_part", "_law_later"] m_l_followed := by
  refine FnG.of F sc_l_followed fun cdv A fr s H E hr gds => ?_
  have hN := sc_l_followed.nd
  have hu64 := hr.units
  have hu1 : _ + 1 < cLine := Nat.lt_of_le_of_lt (Nat.add_le_add_left (by decide : 1 ≤ 64) _) hu64
  exact (dss_cons (ds_set 3 hN de_dic0) (dss_cons (ds_for (passes_of rfl) rfl (di_seq (DE.toD (de_b1 (call_sortedW rfl) ca_sorted (DE.toR (de_add (DE.toD (de_t1 (CallR.or call_list_of (call_listD rfl)) ca_list (dr_pk 0) rfl (pg.free 97) (by decide +kernel))) (DE.toR (de_t1 (CallR.or call_list_of (call_listD rfl)) ca_list (dr_pk 2) rfl (pg.free 97) (by decide +kernel))))) rfl (pg.free 104) (by decide +kernel)))) (DG.top (dg_name 4 hN)) (dss_one (ds_if (dt_in hu1 (dd_var 4) (dr_pk 0)) (dss_one (ds_asg (DD.toE (dd_ixN hu1 0 (dd_var 4))) (DG.top (dg_sub (W := W0) 3 hu1 (dd_var 4))))) (dss_cons (ds_asg (DD.toE (dd_ixN hu1 2 (dd_var 4))) (dg_tup rfl (dgs_cons (dg_name 5 hN) (dgs_cons (dg_name 6 hN) (dgs_cons (dg_name 7 hN) dgs_nil))))) (dss_one (ds_asg (DD.toE (dd_tup (das_cons (dd_var 5) (das_cons (dd_var 6) (das_cons (DE.toD (de_if (dt_ne pg.sys hu64 (dd_var 7) (DE.toR (de_lst das_nil))) (DD.toE (dd_var 7)) (de_lst (das_cons (dd_var 1) das_nil)))) das_nil))))) (DG.top (dg_sub (W := W0) 3 hu1 (dd_var 4))))))))) (dss_one (ds_ret (de_mv 3)))))
theorem g_l_followed {P : Program} {w : World} {K : PySem.W.Frag} {mg : PySem.Str → Option Value} {base : Heap} (pg : Pg K mg base) : Df P w K (clK K) mg base 1 "_law_followed" ["_law_plan_here", "_law_part", "_law_later"] m_l_followed := by
  obtain ⟨fd, F⟩ := pg.def_ 58 (d := dd_l_followed)
  exact ⟨fd, f_l_followed pg F, F.bindsN fun _ _ _ _ _ _ us hl => match us, hl with | [_, _, _], _ => rfl, F.kp, pg.glo 58⟩
/-! l_most_right -/
theorem sc_l_most_right : FnScope ["_law_pot_here", "_law_plan_here", "_law_part", "_law_room", "_law_more", "_law_caught", "e", "_law_turn"] ["_law_pot_here", "_law_plan_here", "_law_part"] (defScope st_l_most_right) := ⟨rfl, rfl, rfl, by decide +kernel, rfl, by decide +kernel, by decide +kernel⟩
def b_l_most_right : MS := (mSq (mAsg (mBin dSub (mC (.int 12)) (toD (mC1 dLen (mPk 1)))) (gNm 3)) (mSq (mAsg (mC1 dDict (toD (mLc (mRng1 (mCons (mVar 3) mNil)) (gNm 7) mYes (mTup (mCons (toD (mBin dMulS (mC (.str "z")) (toD (mBin dAdd (mVar 7) (mC (.int 1)))))) (mCons (mTup (mCons (mC (.str "a")) (mCons (mC (.int 0)) (mCons (toD (mLst mNil)) mNil)))) mNil))) [7]))) (gNm 4)) (mSq (mIfS (mLendT (mBl (toD (mBin dNe (toD (mC1 dLen (toD (mCallN 3 m_followed (mAv (mVar 1) (mAv (mVar 2) (mAv (mVar 4) mAn))))))) (mC (.int 12)))))) (mRet (ofD (mC (.bl false)))) mNx) (mSq (mAsgT 2 (mECons (ofD (mTup (mCons (mC (.str "b")) (mCons (mC (.int 1)) (mCons (toD (mLst (mCons (mC (.str "z")) mNil))) mNil))))) (mECons (mLst mNil) mENil)) (gCons (gSb 4 (mC (.str "yy"))) (gCons (gNm 5) gNil))) (mSq (mTry 15 6 5 (g2 "what" "limit") (mDrop (mCallN 3 m_followed (mAv (mVar 1) (mAv (mVar 2) (mAv (mVar 4) mAn)))))) (mRet (mBin dEq (mVar 5) (toD (mLst (mCons (toD (mLst (mCons (mC (.str "parts")) (mCons (mC (.int 12)) mNil)))) mNil))))))))))
def m_l_most_right : ME := mFn 8 b_l_most_right
set_option maxHeartbeats 4000000 in
theorem f_l_most_right {P : Program} {w : World} {K : PySem.W.Frag} {mg : PySem.Str → Option Value} {base : Heap} (pg : Pg K mg base) {fd : FuncData} (F : FunD K dd_l_most_right.name dd_l_most_right.qual dd_l_most_right.params dd_l_most_right.body dd_l_most_right.scope (dd_l_most_right.dvs K) (dd_l_most_right.kws K) (He.fAd K dd_l_most_right.at_) fd) : FnG P w K (clK K) mg base 7 (He.ga K "_law_most_right") fd ["_law_pot_here", "_law_plan_here", "_law_part"] m_l_most_right := by
  refine FnG.of F sc_l_most_right fun cdv A fr s H E hr gds => ?_
  have hN := sc_l_most_right.nd
  have hu64 := hr.units
  have hu1 : _ + 1 < cLine := Nat.lt_of_le_of_lt (Nat.add_le_add_left (by decide : 1 ≤ 64) _) hu64
  exact (dss_cons (ds_set 3 hN (de_sub dd_int (DE.toR (de_b1 call_lenW ca_len (dr_pk 1) rfl (pg.free 96) (by decide +kernel))))) (dss_cons (ds_set 4 hN (de_t1 (call_dictW rfl) ca_dict (DE.toR (de_lc (own := [("_law_turn", 7)]) rfl hN (di_range1 rfl (pg.free 101) (das_cons (dd_var 3) das_nil)) (blk_ok (by kernel_rfl)) (fun _ _ _ _ _ => (dgc_name 7 hN)) (fun _ _ _ _ _ => dts_nil) (fun _ _ _ _ _ => (dd_tup (das_cons (DE.toD (de_mulS dd_str (DE.toR (de_add (dd_var 7) (DD.toR dd_int))))) (das_cons (dd_tup (das_cons dd_str (das_cons dd_int (das_cons (DE.toD (de_lst das_nil)) das_nil)))) das_nil)))))) rfl (pg.free 91) (by decide +kernel))) (dss_cons (ds_if (dt_lend (dt_ne pg.sys hu64 (DE.toD (de_b1 call_lenW ca_len (DE.toR (de_callF (ps := ["plan", "part", "other_plan"]) (Df.mono (g_followed pg) (by decide)) hr gds (takes_of rfl rfl rfl rfl) (da_v (dd_var 1) (da_v (dd_var 2) (da_v (dd_var 4) da_nil))))) rfl (pg.free 96) (by decide +kernel))) (DD.toR dd_int))) (dss_one (ds_ret (DD.toE dd_bl))) dss_nil) (dss_cons (ds_asgT rfl (des_cons (DD.toE (dd_tup (das_cons dd_str (das_cons dd_int (das_cons (DE.toD (de_lst (das_cons dd_str das_nil))) das_nil))))) (des_cons (de_lst das_nil) des_nil)) (dgs_cons (dg_sub (W := W0) 4 hu1 dd_str) (dgs_cons (dg_name 5 hN) dgs_nil))) (dss_cons (ds_try (fun a cls d => tLst (tCons (tXf a cls d (clK K 15) "what" (tVar 6)) (tCons (tXf a cls d (clK K 15) "limit" (tVar 6)) tNil))) (x_TooMany pg) hN (takes_of rfl rfl rfl rfl) (fun W pn xe tk hp => (dss_one (ds_expr (de_callF (ps := ["plan", "part", "other_plan"]) (Df.mono (g_followed pg) (by decide)) hr gds tk (da_v (dd_var 1) (da_v (dd_var 2) (da_v (dd_var 4) da_nil))))))) (fun a oe cls d pn hz hf => (pe_lst (pa_cons (pe_xf (xfOf pg.xMany) (pg.xMany.noN "what" (by simp)) hz hf (pe_var rfl (.inl rfl))) (pa_cons (pe_xf (xfOf pg.xMany) (pg.xMany.noN "limit" (by simp)) hz hf (pe_var rfl (.inl rfl))) pa_nil)))) (fun a cls d as dv h => wxa_2 h)) (dss_one (ds_ret (de_eq pg.sys hu64 (dd_var 5) (DE.toR (de_lst (das_cons (DE.toD (de_lst (das_cons dd_str (das_cons dd_int das_nil)))) das_nil)))))))))))
theorem g_l_most_right {P : Program} {w : World} {K : PySem.W.Frag} {mg : PySem.Str → Option Value} {base : Heap} (pg : Pg K mg base) : Df P w K (clK K) mg base 7 "_law_most_right" ["_law_pot_here", "_law_plan_here", "_law_part"] m_l_most_right := by
  obtain ⟨fd, F⟩ := pg.def_ 63 (d := dd_l_most_right)
  exact ⟨fd, f_l_most_right pg F, F.bindsN fun _ _ _ _ _ _ us hl => match us, hl with | [_, _, _], _ => rfl, F.kp, pg.glo 63⟩
/-! parts_in -/
theorem sc_parts_in : FnScope ["plan", "part"] ["plan", "part"] (defScope st_parts_in) := ⟨rfl, rfl, rfl, by decide +kernel, rfl, by decide +kernel, by decide +kernel⟩
def b_parts_in : MS := (mRet (mC1 dSorted (toD (mBin dAdd (toD (mCallN 2 m_comes_to (mAv (mVar 0) (mAv (mVar 1) mAn)))) (toD (mLst (mCons (mVar 1) mNil)))))))
def m_parts_in : ME := mFn 2 b_parts_in
set_option maxHeartbeats 4000000 in
theorem f_parts_in {P : Program} {w : World} {K : PySem.W.Frag} {mg : PySem.Str → Option Value} {base : Heap} (pg : Pg K mg base) {fd : FuncData} (F : FunD K dd_parts_in.name dd_parts_in.qual dd_parts_in.params dd_parts_in.body dd_parts_in.scope (dd_parts_in.dvs K) (dd_parts_in.kws K) (He.fAd K dd_parts_in.at_) fd) : FnG P w K (clK K) mg base 2 (He.ga K "parts_in") fd ["plan", "part"] m_parts_in := by
  refine FnG.of F sc_parts_in fun cdv A fr s H E hr gds => ?_
  have hN := sc_parts_in.nd
  have hu64 := hr.units
  have hu1 : _ + 1 < cLine := Nat.lt_of_le_of_lt (Nat.add_le_add_left (by decide : 1 ≤ 64) _) hu64
  exact (dss_one (ds_ret (de_b1 (call_sortedW rfl) ca_sorted (DE.toR (de_add (DE.toD (de_callF (ps := ["plan", "part"]) (Df.mono (g_comes_to pg) (by decide)) hr gds (takes_of rfl rfl rfl rfl) (da_v (dd_var 0) (da_v (dd_var 1) da_nil)))) (DE.toR (de_lst (das_cons (dd_var 1) das_nil))))) rfl (pg.free 104) (by decide +kernel))))
theorem g_parts_in {P : Program} {w : World} {K : PySem.W.Frag} {mg : PySem.Str → Option Value} {base : Heap} (pg : Pg K mg base) : Df P w K (clK K) mg base 2 "parts_in" ["plan", "part"] m_parts_in := by
  obtain ⟨fd, F⟩ := pg.def_ 24 (d := dd_parts_in)
  exact ⟨fd, f_parts_in pg F, F.bindsN fun _ _ _ _ _ _ us hl => match us, hl with | [_, _], _ => rfl, F.kp, pg.glo 24⟩
/-! want_begun -/
theorem sc_want_begun : FnScope ["plan", "part", "day", "world"] ["plan", "part", "day", "world"] (defScope st_want_begun) := ⟨rfl, rfl, rfl, by decide +kernel, rfl, by decide +kernel, by decide +kernel⟩
def b_want_begun : MS := (mSq (mDrop (mCallN 1 m_want_plan (mAv (mVar 0) mAn))) (mSq (mDrop (mCallN 1 m_want_part (mAv (mVar 1) mAn))) (mSq (mDrop (mCallN 1 m_want_day (mAv (mVar 2) mAn))) (mSq (mDrop (mCallN 1 m_want_world (mAv (mVar 3) mAn))) (mSq (mDrop (mCallN 2 m_want_there (mAv (mVar 0) (mAv (mVar 1) mAn)))) (mDrop (mCallN 2 m_want_rules (mAv (mVar 3) (mAv (toD (mCallN 2 m_rules_in_parts (mAv (mVar 0) (mAv (toD (mCallN 2 m_parts_in (mAv (mVar 0) (mAv (mVar 1) mAn)))) mAn)))) mAn)))))))))
def m_want_begun : ME := mFn 4 b_want_begun
set_option maxHeartbeats 4000000 in
theorem f_want_begun {P : Program} {w : World} {K : PySem.W.Frag} {mg : PySem.Str → Option Value} {base : Heap} (pg : Pg K mg base) {fd : FuncData} (F : FunD K dd_want_begun.name dd_want_begun.qual dd_want_begun.params dd_want_begun.body dd_want_begun.scope (dd_want_begun.dvs K) (dd_want_begun.kws K) (He.fAd K dd_want_begun.at_) fd) : FnG P w K (clK K) mg base 6 (He.ga K "want_begun") fd ["plan", "part", "day", "world"] m_want_begun := by
  refine FnG.of F sc_want_begun fun cdv A fr s H E hr gds => ?_
  have hN := sc_want_begun.nd
  have hu64 := hr.units
  have hu1 : _ + 1 < cLine := Nat.lt_of_le_of_lt (Nat.add_le_add_left (by decide : 1 ≤ 64) _) hu64
  exact (dss_cons (ds_expr (de_callF (ps := ["plan"]) (Df.mono (g_want_plan pg) (by decide)) hr gds (takes_of rfl rfl rfl rfl) (da_v (dd_var 0) da_nil))) (dss_cons (ds_expr (de_callF (ps := ["part"]) (Df.mono (g_want_part pg) (by decide)) hr gds (takes_of rfl rfl rfl rfl) (da_v (dd_var 1) da_nil))) (dss_cons (ds_expr (de_callF (ps := ["value"]) (Df.mono (g_want_day pg) (by decide)) hr gds (takes_of rfl rfl rfl rfl) (da_v (dd_var 2) da_nil))) (dss_cons (ds_expr (de_callF (ps := ["value"]) (Df.mono (g_want_world pg) (by decide)) hr gds (takes_of rfl rfl rfl rfl) (da_v (dd_var 3) da_nil))) (dss_cons (ds_expr (de_callF (ps := ["plan", "part"]) (Df.mono (g_want_there pg) (by decide)) hr gds (takes_of rfl rfl rfl rfl) (da_v (dd_var 0) (da_v (dd_var 1) da_nil)))) (dss_one (ds_expr (de_callF (ps := ["world", "rules"]) (Df.mono (g_want_rules pg) (by decide)) hr gds (takes_of rfl rfl rfl rfl) (da_v (dd_var 3) (da_v (DE.toD (de_callF (ps := ["plan", "parts"]) (Df.mono (g_rules_in_parts pg) (by decide)) hr gds (takes_of rfl rfl rfl rfl) (da_v (dd_var 0) (da_v (DE.toD (de_callF (ps := ["plan", "part"]) (Df.mono (g_parts_in pg) (by decide)) hr gds (takes_of rfl rfl rfl rfl) (da_v (dd_var 0) (da_v (dd_var 1) da_nil)))) da_nil)))) da_nil))))))))))
theorem g_want_begun {P : Program} {w : World} {K : PySem.W.Frag} {mg : PySem.Str → Option Value} {base : Heap} (pg : Pg K mg base) : Df P w K (clK K) mg base 6 "want_begun" ["plan", "part", "day", "world"] m_want_begun := by
  obtain ⟨fd, F⟩ := pg.def_ 31 (d := dd_want_begun)
  exact ⟨fd, f_want_begun pg F, F.bindsN fun _ _ _ _ _ _ us hl => match us, hl with | [_, _, _, _], _ => rfl, F.kp, pg.glo 31⟩
/-! sequence_in -/
theorem sc_sequence_in : FnScope ["plan", "part", "parts", "one"] ["plan", "part"] (defScope st_sequence_in) := ⟨rfl, rfl, rfl, by decide +kernel, rfl, by decide +kernel, by decide +kernel⟩
def b_sequence_in : MS := (mSq (mAsg (mCallN 2 m_parts_in (mAv (mVar 0) (mAv (mVar 1) mAn))) (gNm 2)) (mRet (mLc (mSeq (toD (mCallN 1 m_sequence (mAv (mVar 0) mAn)))) (gNm 3) (mBl (toD (mBin dIn (mVar 3) (mPk 2)))) (mVar 3) [3])))
def m_sequence_in : ME := mFn 4 b_sequence_in
set_option maxHeartbeats 4000000 in
theorem f_sequence_in {P : Program} {w : World} {K : PySem.W.Frag} {mg : PySem.Str → Option Value} {base : Heap} (pg : Pg K mg base) {fd : FuncData} (F : FunD K dd_sequence_in.name dd_sequence_in.qual dd_sequence_in.params dd_sequence_in.body dd_sequence_in.scope (dd_sequence_in.dvs K) (dd_sequence_in.kws K) (He.fAd K dd_sequence_in.at_) fd) : FnG P w K (clK K) mg base 3 (He.ga K "sequence_in") fd ["plan", "part"] m_sequence_in := by
  refine FnG.of F sc_sequence_in fun cdv A fr s H E hr gds => ?_
  have hN := sc_sequence_in.nd
  have hu64 := hr.units
  have hu1 : _ + 1 < cLine := Nat.lt_of_le_of_lt (Nat.add_le_add_left (by decide : 1 ≤ 64) _) hu64
  exact (dss_cons (ds_set 2 hN (de_callF (ps := ["plan", "part"]) (Df.mono (g_parts_in pg) (by decide)) hr gds (takes_of rfl rfl rfl rfl) (da_v (dd_var 0) (da_v (dd_var 1) da_nil)))) (dss_one (ds_ret (de_lc (own := [("one", 3)]) rfl hN (di_seq (DE.toD (de_callF (ps := ["plan"]) (Df.mono (g_sequence pg) (by decide)) hr gds (takes_of rfl rfl rfl rfl) (da_v (dd_var 0) da_nil)))) (blk_ok (by kernel_rfl)) (fun _ _ _ _ _ => (dgc_name 3 hN)) (fun _ _ _ _ _ => (dts_one (dt_in hu1 (dd_var 3) (dr_pk 2)))) (fun _ _ _ _ _ => (dd_var 3))))))
theorem g_sequence_in {P : Program} {w : World} {K : PySem.W.Frag} {mg : PySem.Str → Option Value} {base : Heap} (pg : Pg K mg base) : Df P w K (clK K) mg base 3 "sequence_in" ["plan", "part"] m_sequence_in := by
  obtain ⟨fd, F⟩ := pg.def_ 27 (d := dd_sequence_in)
  exact ⟨fd, f_sequence_in pg F, F.bindsN fun _ _ _ _ _ _ us hl => match us, hl with | [_, _], _ => rfl, F.kp, pg.glo 27⟩
/-! ready -/
theorem sc_ready : FnScope ["plan", "part", "day", "world"] ["plan", "part", "day", "world"] (defScope st_ready) := ⟨rfl, rfl, rfl, by decide +kernel, rfl, by decide +kernel, by decide +kernel⟩
def b_ready : MS := (mSq (mDrop (mCallN 4 m_want_begun (mAv (mVar 0) (mAv (mVar 1) (mAv (mVar 2) (mAv (mVar 3) mAn)))))) (mRet (ofD (mIx (toD (mCallN 4 m_ready_days (mAv (mVar 0) (mAv (toD (mCallN 2 m_sequence_in (mAv (mVar 0) (mAv (mVar 1) mAn)))) (mAv (mVar 2) (mAv (mVar 3) mAn)))))) (mVar 1)))))
def m_ready : ME := mFn 4 b_ready
set_option maxHeartbeats 4000000 in
theorem f_ready {P : Program} {w : World} {K : PySem.W.Frag} {mg : PySem.Str → Option Value} {base : Heap} (pg : Pg K mg base) {fd : FuncData} (F : FunD K dd_ready.name dd_ready.qual dd_ready.params dd_ready.body dd_ready.scope (dd_ready.dvs K) (dd_ready.kws K) (He.fAd K dd_ready.at_) fd) : FnG P w K (clK K) mg base 7 (He.ga K "ready") fd ["plan", "part", "day", "world"] m_ready := by
  refine FnG.of F sc_ready fun cdv A fr s H E hr gds => ?_
  have hN := sc_ready.nd
  have hu64 := hr.units
  have hu1 : _ + 1 < cLine := Nat.lt_of_le_of_lt (Nat.add_le_add_left (by decide : 1 ≤ 64) _) hu64
  exact (dss_cons (ds_expr (de_callF (ps := ["plan", "part", "day", "world"]) (Df.mono (g_want_begun pg) (by decide)) hr gds (takes_of rfl rfl rfl rfl) (da_v (dd_var 0) (da_v (dd_var 1) (da_v (dd_var 2) (da_v (dd_var 3) da_nil)))))) (dss_one (ds_ret (DD.toE (dd_ix hu1 (DE.toD (de_callF (ps := ["plan", "parts", "day", "world"]) (Df.mono (g_ready_days pg) (by decide)) hr gds (takes_of rfl rfl rfl rfl) (da_v (dd_var 0) (da_v (DE.toD (de_callF (ps := ["plan", "part"]) (Df.mono (g_sequence_in pg) (by decide)) hr gds (takes_of rfl rfl rfl rfl) (da_v (dd_var 0) (da_v (dd_var 1) da_nil)))) (da_v (dd_var 2) (da_v (dd_var 3) da_nil)))))) (dd_var 1))))))
theorem g_ready {P : Program} {w : World} {K : PySem.W.Frag} {mg : PySem.Str → Option Value} {base : Heap} (pg : Pg K mg base) : Df P w K (clK K) mg base 7 "ready" ["plan", "part", "day", "world"] m_ready := by
  obtain ⟨fd, F⟩ := pg.def_ 32 (d := dd_ready)
  exact ⟨fd, f_ready pg F, F.bindsN fun _ _ _ _ _ _ us hl => match us, hl with | [_, _, _, _], _ => rfl, F.kp, pg.glo 32⟩
/-! l_followed_right -/
theorem sc_l_followed_right : FnScope ["_law_pot_here", "_law_plan_here", "_law_rules", "_law_later", "_law_part", "_law_day", "_law_one", "_law_other", "_law_shown", "_law_due", "_law_world", "_law_told_here", "_law_name", "_law_caught", "e", "_law_rule_here"] ["_law_pot_here", "_law_plan_here", "_law_rules"] (defScope st_l_followed_right) := ⟨rfl, rfl, rfl, by decide +kernel, rfl, by decide +kernel, by decide +kernel⟩
def b_l_followed_right : MS := (mSq (mPar3 3 4 5 (mECons (mCallN 1 m_l_renamed (mAv (toD (mCallN 2 m_l_plan (mAr 0 .brw (mAv (mC (.int 4)) mAn)))) mAn)) (mECons (mCallN 2 m_l_pick (mAr 0 .brw (mAv (toD (mC1 dSorted (mPk 1))) mAn))) (mECons (mBin dSub (toD (mCallN 2 m_l_draw (mAr 0 .brw (mAv (mC (.int 30)) mAn)))) (mC (.int 12))) mENil)))) (mSq (mPar 6 7 (mECons (mCallN 2 m_l_said (mAr 0 .brw (mAv (mVar 1) mAn))) (mECons (mCallN 2 m_l_said (mAr 0 .brw (mAv (mVar 3) mAn))) mENil))) (mSq (mPar3 8 9 10 (mECons (mC1 dRepr (toD (mLst (mCons (mVar 6) (mCons (mVar 7) mNil))))) (mECons (mCallN 3 m_l_followed (mAv (mVar 1) (mAv (mVar 4) (mAv (mVar 3) mAn)))) (mECons (mC1 dDict (toD (mLcK 2 (gNm 15) mYes (mTup (mCons (mVar 15) (mCons (toD (mMake 16 2 m_Table_ddinitdd (mCons (mIxN 2 (mVar 15)) mNil))) mNil))) [15]))) mENil)))) (mSq (mAsg (mCallN 3 m_followed (mAv (mVar 6) (mAv (mVar 4) (mAv (mVar 7) mAn)))) (gNm 11)) (mSq (mIfS (mOrT (mBl (toD (mBin dNe (toD (mC1 dRepr (toD (mLst (mCons (mVar 11) (mCons (toD (mCallK 3 kg_followed m_followed (mCons (mVar 7) (mCons (mVar 4) (mCons (mVar 6) mNil))))) mNil)))))) (toD (mC1 dRepr (toD (mLst (mCons (mVar 9) (mCons (mVar 9) mNil))))))))) (mBl (toD (mBin dNe (toD (mC1 dRepr (toD (mLst (mCons (mVar 6) (mCons (mVar 7) mNil)))))) (mPk 8))))) (mRet (ofD (mC (.bl false)))) mNx) (mSq (mIfS (mOrT (mNotT (mTru (toD (mCallN 1 m_is_plan (mAv (mVar 11) mAn))))) (mNotT (mTru (toD (mCallN 3 m_l_same_ready (mAv (mVar 11) (mAv (mVar 2) (mAv (mVar 5) mAn)))))))) (mRet (ofD (mC (.bl false)))) mNx) (mSq (mForK 3 (gNm 12) (mIfS (mBl (toD (mBin dNe (toD (mCallN 4 m_ready (mAv (mVar 11) (mAv (mVar 12) (mAv (mVar 5) (mAv (mVar 10) mAn)))))) (toD (mCallN 4 m_ready (mAv (mVar 7) (mAv (mVar 12) (mAv (toD (mCallN 4 m_ready (mAv (mVar 6) (mAv (mVar 4) (mAv (mVar 5) (mAv (mVar 10) mAn)))))) (mAv (mVar 10) mAn))))))))) (mRet (ofD (mC (.bl false)))) mNx)) (mSq (mAsg (mLst mNil) (gNm 13)) (mSq (mTry 11 14 13 (g1 "part") (mDrop (mCallN 3 m_followed (mAv (mVar 6) (mAv (mVar 4) (mAv (mVar 6) mAn)))))) (mRet (ofD (mAndV (toD (mBin dEq (mVar 13) (toD (mLst (mCons (mIx (toD (mC1 dSorted (mPk 1))) (mC (.int 0))) mNil))))) (toD (mCallN 3 m_l_most_right (mAr 0 .brw (mAv (mVar 1) (mAv (mVar 4) mAn)))))))))))))))))
def m_l_followed_right : ME := mFn 16 b_l_followed_right
set_option maxHeartbeats 4000000 in
theorem f_l_followed_right {P : Program} {w : World} {K : PySem.W.Frag} {mg : PySem.Str → Option Value} {base : Heap} (pg : Pg K mg base) {fd : FuncData} (F : FunD K dd_l_followed_right.name dd_l_followed_right.qual dd_l_followed_right.params dd_l_followed_right.body dd_l_followed_right.scope (dd_l_followed_right.dvs K) (dd_l_followed_right.kws K) (He.fAd K dd_l_followed_right.at_) fd) : FnG P w K (clK K) mg base 16 (He.ga K "_law_followed_right") fd ["_law_pot_here", "_law_plan_here", "_law_rules"] m_l_followed_right := by
  refine FnG.of F sc_l_followed_right fun cdv A fr s H E hr gds => ?_
  have hN := sc_l_followed_right.nd
  have hu64 := hr.units
  have hu1 : _ + 1 < cLine := Nat.lt_of_le_of_lt (Nat.add_le_add_left (by decide : 1 ≤ 64) _) hu64
  exact (dss_cons (ds_par3 3 4 5 rfl hN (des_cons (de_callF (ps := ["_law_plan_here"]) (Df.mono (g_l_renamed pg) (by decide)) hr gds (takes_of rfl rfl rfl rfl) (da_v (DE.toD (de_callF (ps := ["_law_pot_here", "_law_most"]) (Df.mono (g_l_plan pg) (by decide)) hr gds (takes_of rfl rfl rfl rfl) (da_r 0 .brw (da_v dd_int da_nil)))) da_nil)) (des_cons (de_callF (ps := ["_law_pot_here", "_law_some"]) (Df.mono (g_l_pick pg) (by decide)) hr gds (takes_of rfl rfl rfl rfl) (da_r 0 .brw (da_v (DE.toD (de_b1 (call_sortedW rfl) ca_sorted (dr_pk 1) rfl (pg.free 104) (by decide +kernel))) da_nil))) (des_cons (de_sub (DE.toD (de_callF (ps := ["_law_pot_here", "_law_many"]) (Df.mono (g_l_draw pg) (by decide)) hr gds (takes_of rfl rfl rfl rfl) (da_r 0 .brw (da_v dd_int da_nil)))) (DD.toR dd_int)) des_nil)))) (dss_cons (ds_par 6 7 rfl hN (des_cons (de_callF (ps := ["_law_pot_here", "_law_plan_here"]) (Df.mono (g_l_said pg) (by decide)) hr gds (takes_of rfl rfl rfl rfl) (da_r 0 .brw (da_v (dd_var 1) da_nil))) (des_cons (de_callF (ps := ["_law_pot_here", "_law_plan_here"]) (Df.mono (g_l_said pg) (by decide)) hr gds (takes_of rfl rfl rfl rfl) (da_r 0 .brw (da_v (dd_var 3) da_nil))) des_nil))) (dss_cons (ds_par3 8 9 10 rfl hN (des_cons (de_b1 (call_reprW pg.sys hu64 gds) ca_repr (DE.toR (de_lst (das_cons (dd_var 6) (das_cons (dd_var 7) das_nil)))) rfl (pg.free 102) (by decide +kernel)) (des_cons (de_callF (ps := ["_law_plan_here", "_law_part", "_law_later"]) (Df.mono (g_l_followed pg) (by decide)) hr gds (takes_of rfl rfl rfl rfl) (da_v (dd_var 1) (da_v (dd_var 4) (da_v (dd_var 3) da_nil)))) (des_cons (de_t1 (call_dictW rfl) ca_dict (DE.toR (de_lcK (own := [("_law_rule_here", 15)]) 2 rfl hN (blk_ok (by kernel_rfl)) (fun _ _ _ _ _ => (dgc_name 15 hN)) (fun _ _ _ _ _ => dts_nil) (fun _ _ _ _ _ => (dd_tup (das_cons (dd_var 15) (das_cons (DE.toD (de_makeF (DfI.mono (g_Table_ddinitdd pg) (by decide)) hr gds DL.takes0 (das_cons (dd_ixN hu1 2 (dd_var 15)) das_nil))) das_nil)))))) rfl (pg.free 91) (by decide +kernel)) des_nil)))) (dss_cons (ds_set 11 hN (de_callF (ps := ["plan", "part", "other_plan"]) (Df.mono (g_followed pg) (by decide)) hr gds (takes_of rfl rfl rfl rfl) (da_v (dd_var 6) (da_v (dd_var 4) (da_v (dd_var 7) da_nil))))) (dss_cons (ds_if (DW.dt (dw_or (dt_ne pg.sys hu64 (DE.toD (de_b1 (call_reprW pg.sys hu64 gds) ca_repr (DE.toR (de_lst (das_cons (dd_var 11) (das_cons (DE.toD (de_callKF (DfK.mono (gk_followed pg) (by decide)) hr gds (takes_of rfl rfl rfl rfl) (dkw_cons (dd_var 7) (dkw_cons (dd_var 4) (dkw_cons (dd_var 6) dkw_nil))))) das_nil)))) rfl (pg.free 102) (by decide +kernel))) (DE.toR (de_b1 (call_reprW pg.sys hu64 gds) ca_repr (DE.toR (de_lst (das_cons (dd_var 9) (das_cons (dd_var 9) das_nil)))) rfl (pg.free 102) (by decide +kernel)))) (dw_or1 (dt_ne pg.sys hu64 (DE.toD (de_b1 (call_reprW pg.sys hu64 gds) ca_repr (DE.toR (de_lst (das_cons (dd_var 6) (das_cons (dd_var 7) das_nil)))) rfl (pg.free 102) (by decide +kernel))) (dr_pk 8))))) (dss_one (ds_ret (DD.toE dd_bl))) dss_nil) (dss_cons (ds_if (DW.dt (dw_or (dt_not (dt_tru (DE.toR (de_callF (ps := ["value"]) (Df.mono (g_is_plan pg) (by decide)) hr gds (takes_of rfl rfl rfl rfl) (da_v (dd_var 11) da_nil))))) (dw_or1 (dt_not (dt_tru (DE.toR (de_callF (ps := ["_law_plan_here", "_law_rules", "_law_day"]) (Df.mono (g_l_same_ready pg) (by decide)) hr gds (takes_of rfl rfl rfl rfl) (da_v (dd_var 11) (da_v (dd_var 2) (da_v (dd_var 5) da_nil)))))))))) (dss_one (ds_ret (DD.toE dd_bl))) dss_nil) (dss_cons (ds_forK 3 (passes_of rfl) rfl (DG.top (dg_name 12 hN)) (dss_one (ds_if (dt_ne pg.sys hu64 (DE.toD (de_callF (ps := ["plan", "part", "day", "world"]) (Df.mono (g_ready pg) (by decide)) hr gds (takes_of rfl rfl rfl rfl) (da_v (dd_var 11) (da_v (dd_var 12) (da_v (dd_var 5) (da_v (dd_var 10) da_nil)))))) (DE.toR (de_callF (ps := ["plan", "part", "day", "world"]) (Df.mono (g_ready pg) (by decide)) hr gds (takes_of rfl rfl rfl rfl) (da_v (dd_var 7) (da_v (dd_var 12) (da_v (DE.toD (de_callF (ps := ["plan", "part", "day", "world"]) (Df.mono (g_ready pg) (by decide)) hr gds (takes_of rfl rfl rfl rfl) (da_v (dd_var 6) (da_v (dd_var 4) (da_v (dd_var 5) (da_v (dd_var 10) da_nil)))))) (da_v (dd_var 10) da_nil))))))) (dss_one (ds_ret (DD.toE dd_bl))) dss_nil))) (dss_cons (ds_set 13 hN (de_lst das_nil)) (dss_cons (ds_try (fun a cls d => tXf a cls d (clK K 11) "part" (tVar 14)) (x_SharedPart pg) hN (takes_of rfl rfl rfl rfl) (fun W pn xe tk hp => (dss_one (ds_expr (de_callF (ps := ["plan", "part", "other_plan"]) (Df.mono (g_followed pg) (by decide)) hr gds tk (da_v (dd_var 6) (da_v (dd_var 4) (da_v (dd_var 6) da_nil))))))) (fun a oe cls d pn hz hf => (pe_xf (xfOf pg.xShared) (pg.xShared.noN "part" (by simp)) hz hf (pe_var rfl (.inl rfl)))) (fun a cls d as dv h => wxa_1 h)) (dss_one (ds_ret (DD.toE (dd_and (DE.toD (de_eq pg.sys hu64 (dd_var 13) (DE.toR (de_lst (das_cons (dd_ix hu1 (DE.toD (de_b1 (call_sortedW rfl) ca_sorted (dr_pk 1) rfl (pg.free 104) (by decide +kernel))) dd_int) das_nil))))) (dd_one (DE.toD (de_callF (ps := ["_law_pot_here", "_law_plan_here", "_law_part"]) (Df.mono (g_l_most_right pg) (by decide)) hr gds (takes_of rfl rfl rfl rfl) (da_r 0 .brw (da_v (dd_var 1) (da_v (dd_var 4) da_nil)))))))))))))))))))
theorem g_l_followed_right {P : Program} {w : World} {K : PySem.W.Frag} {mg : PySem.Str → Option Value} {base : Heap} (pg : Pg K mg base) : Df P w K (clK K) mg base 16 "_law_followed_right" ["_law_pot_here", "_law_plan_here", "_law_rules"] m_l_followed_right := by
  obtain ⟨fd, F⟩ := pg.def_ 62 (d := dd_l_followed_right)
  exact ⟨fd, f_l_followed_right pg F, F.bindsN fun _ _ _ _ _ _ us hl => match us, hl with | [_, _, _], _ => rfl, F.kp, pg.glo 62⟩
/-! want_count -/
theorem sc_want_count : FnScope ["value"] ["value"] (defScope st_want_count) := ⟨rfl, rfl, rfl, by decide +kernel, rfl, by decide +kernel, by decide +kernel⟩
def b_want_count : MS := (mIfS (mNotT (mTru (toD (mCallN 1 m_is_count (mAv (mVar 0) mAn))))) mBad mNx)
def m_want_count : ME := mFn 1 b_want_count
set_option maxHeartbeats 4000000 in
theorem f_want_count {P : Program} {w : World} {K : PySem.W.Frag} {mg : PySem.Str → Option Value} {base : Heap} (pg : Pg K mg base) {fd : FuncData} (F : FunD K dd_want_count.name dd_want_count.qual dd_want_count.params dd_want_count.body dd_want_count.scope (dd_want_count.dvs K) (dd_want_count.kws K) (He.fAd K dd_want_count.at_) fd) : FnG P w K (clK K) mg base 3 (He.ga K "want_count") fd ["value"] m_want_count := by
  refine FnG.of F sc_want_count fun cdv A fr s H E hr gds => ?_
  have hN := sc_want_count.nd
  have hu64 := hr.units
  have hu1 : _ + 1 < cLine := Nat.lt_of_le_of_lt (Nat.add_le_add_left (by decide : 1 ≤ 64) _) hu64
  exact (dss_one (ds_if (dt_not (dt_tru (DE.toR (de_callF (ps := ["value"]) (Df.mono (g_is_count pg) (by decide)) hr gds (takes_of rfl rfl rfl rfl) (da_v (dd_var 0) da_nil))))) (dss_one ds_bad) dss_nil))
theorem g_want_count {P : Program} {w : World} {K : PySem.W.Frag} {mg : PySem.Str → Option Value} {base : Heap} (pg : Pg K mg base) : Df P w K (clK K) mg base 3 "want_count" ["value"] m_want_count := by
  obtain ⟨fd, F⟩ := pg.def_ 7 (d := dd_want_count)
  exact ⟨fd, f_want_count pg F, F.bindsN fun _ _ _ _ _ _ us hl => match us, hl with | [_], _ => rfl, F.kp, pg.glo 7⟩
/-! delayed -/
theorem sc_delayed : FnScope ["plan", "part", "many", "found", "one", "rule", "count", "needs"] ["plan", "part", "many"] (defScope st_delayed) := ⟨rfl, rfl, rfl, by decide +kernel, rfl, by decide +kernel, by decide +kernel⟩
def b_delayed : MS := (mSq (mAsg mDic0 (gNm 3)) (mSq (mFor (mSeq (toD (mC1 dSorted (mPk 0)))) (gNm 4) (mSq (mAsg (ofD (mIxN 0 (mVar 4))) (gTp 3 (gCons (gNm 5) (gCons (gNm 6) (gCons (gNm 7) gNil))))) (mAsg (ofD (mTup (mCons (mVar 5) (mCons (toD (mIf (mBl (toD (mBin dEq (mVar 4) (mPk 1)))) (mBin dAdd (mVar 6) (mPk 2)) (ofD (mVar 6)))) (mCons (toD (mC1 dList (mPk 7))) mNil))))) (gSb 3 (mVar 4))))) (mRet (mMv 3))))
def m_delayed : ME := mFn 8 b_delayed
set_option maxHeartbeats 4000000 in
theorem f_delayed {P : Program} {w : World} {K : PySem.W.Frag} {mg : PySem.Str → Option Value} {base : Heap} (pg : Pg K mg base) {fd : FuncData} (F : FunD K dd_delayed.name dd_delayed.qual dd_delayed.params dd_delayed.body dd_delayed.scope (dd_delayed.dvs K) (dd_delayed.kws K) (He.fAd K dd_delayed.at_) fd) : FnG P w K (clK K) mg base 1 (He.ga K "delayed") fd ["plan", "part", "many"] m_delayed := by
  refine FnG.of F sc_delayed fun cdv A fr s H E hr gds => ?_
  have hN := sc_delayed.nd
  have hu64 := hr.units
  have hu1 : _ + 1 < cLine := Nat.lt_of_le_of_lt (Nat.add_le_add_left (by decide : 1 ≤ 64) _) hu64
  exact (dss_cons (ds_set 3 hN de_dic0) (dss_cons (ds_for (passes_of rfl) rfl (di_seq (DE.toD (de_b1 (call_sortedW rfl) ca_sorted (dr_pk 0) rfl (pg.free 104) (by decide +kernel)))) (DG.top (dg_name 4 hN)) (dss_cons (ds_asg (DD.toE (dd_ixN hu1 0 (dd_var 4))) (dg_tup rfl (dgs_cons (dg_name 5 hN) (dgs_cons (dg_name 6 hN) (dgs_cons (dg_name 7 hN) dgs_nil))))) (dss_one (ds_asg (DD.toE (dd_tup (das_cons (dd_var 5) (das_cons (DE.toD (de_if (dt_eq pg.sys hu64 (dd_var 4) (dr_pk 1)) (de_add (dd_var 6) (dr_pk 2)) (DD.toE (dd_var 6)))) (das_cons (DE.toD (de_t1 (CallR.or call_list_of (call_listD rfl)) ca_list (dr_pk 7) rfl (pg.free 97) (by decide +kernel))) das_nil))))) (DG.top (dg_sub (W := W0) 3 hu1 (dd_var 4))))))) (dss_one (ds_ret (de_mv 3)))))
theorem g_delayed {P : Program} {w : World} {K : PySem.W.Frag} {mg : PySem.Str → Option Value} {base : Heap} (pg : Pg K mg base) : Df P w K (clK K) mg base 1 "delayed" ["plan", "part", "many"] m_delayed := by
  obtain ⟨fd, F⟩ := pg.def_ 37 (d := dd_delayed)
  exact ⟨fd, f_delayed pg F, F.bindsN fun _ _ _ _ _ _ us hl => match us, hl with | [_, _, _], _ => rfl, F.kp, pg.glo 37⟩
/-! with_delay -/
theorem sc_with_delay : FnScope ["plan", "part", "many"] ["plan", "part", "many"] (defScope st_with_delay) := ⟨rfl, rfl, rfl, by decide +kernel, rfl, by decide +kernel, by decide +kernel⟩
def b_with_delay : MS := (mSq (mDrop (mCallN 1 m_want_plan (mAv (mVar 0) mAn))) (mSq (mDrop (mCallN 1 m_want_part (mAv (mVar 1) mAn))) (mSq (mDrop (mCallN 1 m_want_count (mAv (mVar 2) mAn))) (mSq (mDrop (mCallN 2 m_want_there (mAv (mVar 0) (mAv (mVar 1) mAn)))) (mRet (mCallN 3 m_delayed (mAv (mVar 0) (mAv (mVar 1) (mAv (mVar 2) mAn)))))))))
def m_with_delay : ME := mFn 3 b_with_delay
set_option maxHeartbeats 4000000 in
theorem f_with_delay {P : Program} {w : World} {K : PySem.W.Frag} {mg : PySem.Str → Option Value} {base : Heap} (pg : Pg K mg base) {fd : FuncData} (F : FunD K dd_with_delay.name dd_with_delay.qual dd_with_delay.params dd_with_delay.body dd_with_delay.scope (dd_with_delay.dvs K) (dd_with_delay.kws K) (He.fAd K dd_with_delay.at_) fd) : FnG P w K (clK K) mg base 6 (He.ga K "with_delay") fd ["plan", "part", "many"] m_with_delay := by
  refine FnG.of F sc_with_delay fun cdv A fr s H E hr gds => ?_
  have hN := sc_with_delay.nd
  have hu64 := hr.units
  have hu1 : _ + 1 < cLine := Nat.lt_of_le_of_lt (Nat.add_le_add_left (by decide : 1 ≤ 64) _) hu64
  exact (dss_cons (ds_expr (de_callF (ps := ["plan"]) (Df.mono (g_want_plan pg) (by decide)) hr gds (takes_of rfl rfl rfl rfl) (da_v (dd_var 0) da_nil))) (dss_cons (ds_expr (de_callF (ps := ["part"]) (Df.mono (g_want_part pg) (by decide)) hr gds (takes_of rfl rfl rfl rfl) (da_v (dd_var 1) da_nil))) (dss_cons (ds_expr (de_callF (ps := ["value"]) (Df.mono (g_want_count pg) (by decide)) hr gds (takes_of rfl rfl rfl rfl) (da_v (dd_var 2) da_nil))) (dss_cons (ds_expr (de_callF (ps := ["plan", "part"]) (Df.mono (g_want_there pg) (by decide)) hr gds (takes_of rfl rfl rfl rfl) (da_v (dd_var 0) (da_v (dd_var 1) da_nil)))) (dss_one (ds_ret (de_callF (ps := ["plan", "part", "many"]) (Df.mono (g_delayed pg) (by decide)) hr gds (takes_of rfl rfl rfl rfl) (da_v (dd_var 0) (da_v (dd_var 1) (da_v (dd_var 2) da_nil))))))))))
theorem g_with_delay {P : Program} {w : World} {K : PySem.W.Frag} {mg : PySem.Str → Option Value} {base : Heap} (pg : Pg K mg base) : Df P w K (clK K) mg base 6 "with_delay" ["plan", "part", "many"] m_with_delay := by
  obtain ⟨fd, F⟩ := pg.def_ 38 (d := dd_with_delay)
  exact ⟨fd, f_with_delay pg F, F.bindsN fun _ _ _ _ _ _ us hl => match us, hl with | [_, _, _], _ => rfl, F.kp, pg.glo 38⟩
def kg_with_delay {α : Type} : List α → List α
  | [a0, a1, a2] => [a2, a1, a0]
  | l => l
theorem gk_with_delay {P : Program} {w : World} {K : PySem.W.Frag} {mg : PySem.Str → Option Value} {base : Heap} (pg : Pg K mg base) : DfK P w K (clK K) mg base 6 "with_delay" ["plan", "part", "many"] ["many", "part", "plan"] kg_with_delay m_with_delay := by
  obtain ⟨fd, F⟩ := pg.def_ 38 (d := dd_with_delay)
  exact ⟨fd, f_with_delay pg F, F.kp, pg.glo 38, FunD.kwAll F (fun _ _ _ _ _ _ ws hl => match ws, hl with | [_, _, _], _ => rfl),
    (fun {vs us} hl r => match vs, us, hl, r with | [_, _, _], [_, _, _], _, (.cons h0 (.cons h1 (.cons h2 .nil))) => (.cons h2 (.cons h1 (.cons h0 .nil)))), (fun {Hf vs ds} hl r => match vs, ds, hl, r with | [_, _, _], [_, _, _], _, (.cons h0 (.cons h1 (.cons h2 .nil))) => (.cons h2 (.cons h1 (.cons h0 .nil))))⟩
/-! l_told -/
theorem sc_l_told : FnScope ["_law_plan_here", "_law_name"] ["_law_plan_here"] (defScope st_l_told) := ⟨rfl, rfl, rfl, by decide +kernel, rfl, by decide +kernel, by decide +kernel⟩
def b_l_told : MS := (mRet (mC1 dDict (toD (mLc (mSeq (toD (mC1 dSorted (mPk 0)))) (gNm 1) mYes (mTup (mCons (mVar 1) (mCons (mTup (mCons (mIx (mIxN 0 (mVar 1)) (mC (.int 0))) (mCons (mIx (mIxN 0 (mVar 1)) (mC (.int 1))) (mCons (toD (mC1 dList (mIx (mIxN 0 (mVar 1)) (mC (.int 2))))) mNil)))) mNil))) [1]))))
def m_l_told : ME := mFn 2 b_l_told
set_option maxHeartbeats 4000000 in
theorem f_l_told {P : Program} {w : World} {K : PySem.W.Frag} {mg : PySem.Str → Option Value} {base : Heap} (pg : Pg K mg base) {fd : FuncData} (F : FunD K dd_l_told.name dd_l_told.qual dd_l_told.params dd_l_told.body dd_l_told.scope (dd_l_told.dvs K) (dd_l_told.kws K) (He.fAd K dd_l_told.at_) fd) : FnG P w K (clK K) mg base 1 (He.ga K "_law_told") fd ["_law_plan_here"] m_l_told := by
  refine FnG.of F sc_l_told fun cdv A fr s H E hr gds => ?_
  have hN := sc_l_told.nd
  have hu64 := hr.units
  have hu1 : _ + 1 < cLine := Nat.lt_of_le_of_lt (Nat.add_le_add_left (by decide : 1 ≤ 64) _) hu64
  exact (dss_one (ds_ret (de_t1 (call_dictW rfl) ca_dict (DE.toR (de_lc (own := [("_law_name", 1)]) rfl hN (di_seq (DE.toD (de_b1 (call_sortedW rfl) ca_sorted (dr_pk 0) rfl (pg.free 104) (by decide +kernel)))) (blk_ok (by kernel_rfl)) (fun _ _ _ _ _ => (dgc_name 1 hN)) (fun _ _ _ _ _ => dts_nil) (fun _ _ _ _ _ => (dd_tup (das_cons (dd_var 1) (das_cons (dd_tup (das_cons (dd_ix hu1 (dd_ixN hu1 0 (dd_var 1)) dd_int) (das_cons (dd_ix hu1 (dd_ixN hu1 0 (dd_var 1)) dd_int) (das_cons (DE.toD (de_t1 (CallR.or call_list_of (call_listD rfl)) ca_list (DD.toR (dd_ix hu1 (dd_ixN hu1 0 (dd_var 1)) dd_int)) rfl (pg.free 97) (by decide +kernel))) das_nil)))) das_nil)))))) rfl (pg.free 91) (by decide +kernel))))
theorem g_l_told {P : Program} {w : World} {K : PySem.W.Frag} {mg : PySem.Str → Option Value} {base : Heap} (pg : Pg K mg base) : Df P w K (clK K) mg base 1 "_law_told" ["_law_plan_here"] m_l_told := by
  obtain ⟨fd, F⟩ := pg.def_ 54 (d := dd_l_told)
  exact ⟨fd, f_l_told pg F, F.bindsN fun _ _ _ _ _ _ us hl => match us, hl with | [_], _ => rfl, F.kp, pg.glo 54⟩
/-! l_delayed -/
theorem sc_l_delayed : FnScope ["_law_plan_here", "_law_part", "_law_many", "_law_found", "_law_rule_here", "_law_count", "_law_needs"] ["_law_plan_here", "_law_part", "_law_many"] (defScope st_l_delayed) := ⟨rfl, rfl, rfl, by decide +kernel, rfl, by decide +kernel, by decide +kernel⟩
def b_l_delayed : MS := (mSq (mAsg (mCallN 1 m_l_told (mAv (mVar 0) mAn)) (gNm 3)) (mSq (mAsg (ofD (mIxN 3 (mVar 1))) (gTp 3 (gCons (gNm 4) (gCons (gNm 5) (gCons (gNm 6) gNil))))) (mSq (mAsg (ofD (mTup (mCons (mVar 4) (mCons (toD (mBin dAdd (mVar 5) (mPk 2))) (mCons (mVar 6) mNil))))) (gSb 3 (mVar 1))) (mRet (mMv 3)))))
def m_l_delayed : ME := mFn 7 b_l_delayed
set_option maxHeartbeats 4000000 in
theorem f_l_delayed {P : Program} {w : World} {K : PySem.W.Frag} {mg : PySem.Str → Option Value} {base : Heap} (pg : Pg K mg base) {fd : FuncData} (F : FunD K dd_l_delayed.name dd_l_delayed.qual dd_l_delayed.params dd_l_delayed.body dd_l_delayed.scope (dd_l_delayed.dvs K) (dd_l_delayed.kws K) (He.fAd K dd_l_delayed.at_) fd) : FnG P w K (clK K) mg base 2 (He.ga K "_law_delayed") fd ["_law_plan_here", "_law_part", "_law_many"] m_l_delayed := by
  refine FnG.of F sc_l_delayed fun cdv A fr s H E hr gds => ?_
  have hN := sc_l_delayed.nd
  have hu64 := hr.units
  have hu1 : _ + 1 < cLine := Nat.lt_of_le_of_lt (Nat.add_le_add_left (by decide : 1 ≤ 64) _) hu64
  exact (dss_cons (ds_set 3 hN (de_callF (ps := ["_law_plan_here"]) (Df.mono (g_l_told pg) (by decide)) hr gds (takes_of rfl rfl rfl rfl) (da_v (dd_var 0) da_nil))) (dss_cons (ds_asg (DD.toE (dd_ixN hu1 3 (dd_var 1))) (dg_tup rfl (dgs_cons (dg_name 4 hN) (dgs_cons (dg_name 5 hN) (dgs_cons (dg_name 6 hN) dgs_nil))))) (dss_cons (ds_asg (DD.toE (dd_tup (das_cons (dd_var 4) (das_cons (DE.toD (de_add (dd_var 5) (dr_pk 2))) (das_cons (dd_var 6) das_nil))))) (DG.top (dg_sub (W := W0) 3 hu1 (dd_var 1)))) (dss_one (ds_ret (de_mv 3))))))
theorem g_l_delayed {P : Program} {w : World} {K : PySem.W.Frag} {mg : PySem.Str → Option Value} {base : Heap} (pg : Pg K mg base) : Df P w K (clK K) mg base 2 "_law_delayed" ["_law_plan_here", "_law_part", "_law_many"] m_l_delayed := by
  obtain ⟨fd, F⟩ := pg.def_ 56 (d := dd_l_delayed)
  exact ⟨fd, f_l_delayed pg F, F.bindsN fun _ _ _ _ _ _ us hl => match us, hl with | [_, _, _], _ => rfl, F.kp, pg.glo 56⟩
/-! l_rule -/
theorem sc_l_rule : FnScope ["_law_pot_here", "_law_many", "_law_found", "_law_rest", "_law_turn", "_law_step"] ["_law_pot_here"] (defScope st_l_rule) := ⟨rfl, rfl, rfl, by decide +kernel, rfl, by decide +kernel, by decide +kernel⟩
def b_l_rule : MS := (mSq (mAsg (mBin dAdd (mC (.int 1)) (toD (mCallN 2 m_l_draw (mAr 0 .brw (mAv (mC (.int 5)) mAn))))) (gNm 1)) (mSq (mPar 2 3 (mECons (mLst (mCons (toD (mBin dSub (toD (mCallN 2 m_l_draw (mAr 0 .brw (mAv (mC (.int 7)) mAn)))) (mC (.int 2)))) mNil)) (mECons (ofD (mVar 1)) mENil))) (mSq (mFor (mRng1 (mCons (toD (mBin dSub (mVar 1) (mC (.int 1)))) mNil)) (gNm 4) (mSq (mAsg (mBin dMin2 (mVar 3) (toD (mCallN 2 m_l_pick (mAr 0 .brw (mAv (toD (mLst (mCons (mC (.int 0)) (mCons (mC (.int 0)) (mCons (mC (.int 1)) (mCons (mC (.int 1)) (mCons (mC (.int 2)) (mCons (mC (.int 3)) mNil)))))))) mAn))))) (gNm 5)) (mSq (mAsg (mBin dSub (mVar 3) (mPk 5)) (gNm 3)) (mDrop (mM "list" 2 fAppend (mCons (toD (mBin dAdd (mIxN 2 (mNeg (mC (.int 1)))) (mPk 5))) mNil)))))) (mRet (mMv 2)))))
def m_l_rule : ME := mFn 6 b_l_rule
set_option maxHeartbeats 4000000 in
theorem f_l_rule {P : Program} {w : World} {K : PySem.W.Frag} {mg : PySem.Str → Option Value} {base : Heap} (pg : Pg K mg base) {fd : FuncData} (F : FunD K dd_l_rule.name dd_l_rule.qual dd_l_rule.params dd_l_rule.body dd_l_rule.scope (dd_l_rule.dvs K) (dd_l_rule.kws K) (He.fAd K dd_l_rule.at_) fd) : FnG P w K (clK K) mg base 3 (He.ga K "_law_rule") fd ["_law_pot_here"] m_l_rule := by
  refine FnG.of F sc_l_rule fun cdv A fr s H E hr gds => ?_
  have hN := sc_l_rule.nd
  have hu64 := hr.units
  have hu1 : _ + 1 < cLine := Nat.lt_of_le_of_lt (Nat.add_le_add_left (by decide : 1 ≤ 64) _) hu64
  exact (dss_cons (ds_set 1 hN (de_add dd_int (DE.toR (de_callF (ps := ["_law_pot_here", "_law_many"]) (Df.mono (g_l_draw pg) (by decide)) hr gds (takes_of rfl rfl rfl rfl) (da_r 0 .brw (da_v dd_int da_nil)))))) (dss_cons (ds_par 2 3 rfl hN (des_cons (de_lst (das_cons (DE.toD (de_sub (DE.toD (de_callF (ps := ["_law_pot_here", "_law_many"]) (Df.mono (g_l_draw pg) (by decide)) hr gds (takes_of rfl rfl rfl rfl) (da_r 0 .brw (da_v dd_int da_nil)))) (DD.toR dd_int))) das_nil)) (des_cons (DD.toE (dd_var 1)) des_nil))) (dss_cons (ds_for (passes_of rfl) rfl (di_range1 rfl (pg.free 101) (das_cons (DE.toD (de_sub (dd_var 1) (DD.toR dd_int))) das_nil)) (DG.top (dg_name 4 hN)) (dss_cons (ds_set 5 hN (de_b2 (call_min2 rfl) ca_min2 (dd_var 3) (DE.toR (de_callF (ps := ["_law_pot_here", "_law_some"]) (Df.mono (g_l_pick pg) (by decide)) hr gds (takes_of rfl rfl rfl rfl) (da_r 0 .brw (da_v (DE.toD (de_lst (das_cons dd_int (das_cons dd_int (das_cons dd_int (das_cons dd_int (das_cons dd_int (das_cons dd_int das_nil)))))))) da_nil)))) rfl (pg.free 99) (by decide +kernel))) (dss_cons (ds_set 3 hN (de_sub (dd_var 3) (dr_pk 5))) (dss_one (ds_expr (de_append 2 (das_cons (DE.toD (de_add (dd_ixN hu1 2 (dd_neg (DD.toR dd_int))) (dr_pk 5))) das_nil))))))) (dss_one (ds_ret (de_mv 2))))))
theorem g_l_rule {P : Program} {w : World} {K : PySem.W.Frag} {mg : PySem.Str → Option Value} {base : Heap} (pg : Pg K mg base) : Df P w K (clK K) mg base 3 "_law_rule" ["_law_pot_here"] m_l_rule := by
  obtain ⟨fd, F⟩ := pg.def_ 44 (d := dd_l_rule)
  exact ⟨fd, f_l_rule pg F, F.bindsN fun _ _ _ _ _ _ us hl => match us, hl with | [_], _ => rfl, F.kp, pg.glo 44⟩
/-! l_pot -/
theorem sc_l_pot : FnScope ["_law_script", "_law_k", "_law_cell"] ["_law_script", "_law_k"] (defScope st_l_pot) := ⟨rfl, rfl, rfl, by decide +kernel, rfl, by decide +kernel, by decide +kernel⟩
def b_l_pot : MS := (mSq (mAsg (mBin dAdd (toD (mBin dMul (mC (.int 89)) (mPk 1))) (mC (.int 41))) (gNm 2)) (mSq (mIfS (mBl (toD (mBin dLt (mVar 1) (toD (mC1 dLen (mPk 0)))))) (mAsg (mC1 dAbs (mIxN 0 (mVar 1))) (gNm 2)) mNx) (mRet (mLst (mCons (toD (mBin dMax2 (mC (.int 0)) (toD (mBin dSub (mVar 2) (toD (mBin dPow (mC (.int 10)) (mC (.int 18)))))))) (mCons (toD (mBin dAdd (toD (mBin dMod (toD (mBin dMul (toD (mC1 dIntC1 (toD (mBin dAdd (toD (mBin dMod (toD (mC1 dIntC1 (mPk 2))) (mC (.int 2147483549)))) (mC (.int 67)))))) (toD (mBin dPow (toD (mBin dAdd (toD (mBin dMul (mC (.int 2)) (mPk 1))) (mC (.int 7)))) (mC (.int 3)))))) (mC (.int 2147483477)))) (mC (.int 1)))) mNil))))))
def m_l_pot : ME := mFn 3 b_l_pot
set_option maxHeartbeats 4000000 in
theorem f_l_pot {P : Program} {w : World} {K : PySem.W.Frag} {mg : PySem.Str → Option Value} {base : Heap} (pg : Pg K mg base) {fd : FuncData} (F : FunD K dd_l_pot.name dd_l_pot.qual dd_l_pot.params dd_l_pot.body dd_l_pot.scope (dd_l_pot.dvs K) (dd_l_pot.kws K) (He.fAd K dd_l_pot.at_) fd) : FnG P w K (clK K) mg base 1 (He.ga K "_law_pot") fd ["_law_script", "_law_k"] m_l_pot := by
  refine FnG.of F sc_l_pot fun cdv A fr s H E hr gds => ?_
  have hN := sc_l_pot.nd
  have hu64 := hr.units
  have hu1 : _ + 1 < cLine := Nat.lt_of_le_of_lt (Nat.add_le_add_left (by decide : 1 ≤ 64) _) hu64
  exact (dss_cons (ds_set 2 hN (de_add (DE.toD (de_mul dd_int (dr_pk 1))) (DD.toR dd_int))) (dss_cons (ds_if (dt_lt (dd_var 1) (DE.toR (de_b1 call_lenW ca_len (dr_pk 0) rfl (pg.free 96) (by decide +kernel)))) (dss_one (ds_set 2 hN (de_b1 call_abs ca_abs (DD.toR (dd_ixN hu1 0 (dd_var 1))) rfl (pg.free 87) (by decide +kernel)))) dss_nil) (dss_one (ds_ret (de_lst (das_cons (DE.toD (de_b2 (call_max2 rfl) ca_max2 dd_int (DE.toR (de_sub (dd_var 2) (DE.toR (de_pow dd_int (DD.toR dd_int))))) rfl (pg.free 98) (by decide +kernel))) (das_cons (DE.toD (de_add (DE.toD (de_mod (DE.toD (de_mul (DE.toD (de_t1 call_int1 ca_int (DE.toR (de_add (DE.toD (de_mod (DE.toD (de_t1 call_int1 ca_int (dr_pk 2) rfl (pg.free 94) (by decide +kernel))) (DD.toR dd_int))) (DD.toR dd_int))) rfl (pg.free 94) (by decide +kernel))) (DE.toR (de_pow (DE.toD (de_add (DE.toD (de_mul dd_int (dr_pk 1))) (DD.toR dd_int))) (DD.toR dd_int))))) (DD.toR dd_int))) (DD.toR dd_int))) das_nil)))))))
theorem g_l_pot {P : Program} {w : World} {K : PySem.W.Frag} {mg : PySem.Str → Option Value} {base : Heap} (pg : Pg K mg base) : Df P w K (clK K) mg base 1 "_law_pot" ["_law_script", "_law_k"] m_l_pot := by
  obtain ⟨fd, F⟩ := pg.def_ 40 (d := dd_l_pot)
  exact ⟨fd, f_l_pot pg F, F.bindsN fun _ _ _ _ _ _ us hl => match us, hl with | [_, _], _ => rfl, F.kp, pg.glo 40⟩
end G
end

section
set_option Elab.async false
set_option linter.all false
set_option maxRecDepth 100000
set_option maxHeartbeats 2000000
namespace DL
open PySem PySem.Spec PyProof.Rows L2
/-! ## mirrors, evaluated step by step: each combinator at its slots, lazily -/
section
variable {α : Type} {Γ Γ1 Γ' Γc : SE} {a b d e : D} {s : Sv} {ss : List Sv} {ds : List D} {as : List AV} {c : Nat} {xs : List (PySem.Str × D)}

/-! results -/
@[simp] theorem e_bnd_ok {β : Type} {x : α} {f : α → SE → Res β} : Res.bnd (.ok x Γ) f = f x Γ := rfl
@[simp] theorem e_bnd_exc {β : Type} {f : α → SE → Res β} : Res.bnd (.exc c xs Γ : Res α) f = .exc c xs Γ := rfl
@[simp] theorem e_thn_nx {f : SE → RS} : RS.thn (.nx Γ) f = f Γ := rfl
@[simp] theorem e_thn_rt {f : SE → RS} : RS.thn (.rt s Γ) f = .rt s Γ := rfl
@[simp] theorem e_thn_ex {f : SE → RS} : RS.thn (.ex c xs Γ) f = .ex c xs Γ := rfl
@[simp] theorem e_lp_nx {f : SE → RS} : RS.lp (.nx Γ) f = f Γ := rfl
@[simp] theorem e_lp_rt {f : SE → RS} : RS.lp (.rt s Γ) f = .rt s Γ := rfl
@[simp] theorem e_lp_ct {f : SE → RS} : RS.lp (.ct Γ) f = f Γ := rfl
@[simp] theorem e_lp_bk {f : SE → RS} : RS.lp (.bk Γ) f = .nx Γ := rfl
def opR (o : Option Sv) (Γ : SE) : Res Sv := match o with
  | some s => .ok s Γ
  | none => .bad
@[simp] theorem e_opR : opR (some s) Γ = .ok s Γ := rfl
def opD (o : Option D) (Γ : SE) : Res D := match o with
  | some s => .ok s Γ
  | none => .bad
@[simp] theorem e_opD : opD (some d) Γ = .ok d Γ := rfl
def opS (o : Option SE) : RS := optS o
@[simp] theorem e_optS : optS (some Γ) = .nx Γ := rfl

/-! expressions -/
def toDr (r : Res Sv) : Res D := r.bnd fun s Γ' => match s with
  | .dat d => .ok d Γ'
  | .cel _ d => .ok d Γ'
@[simp] theorem e_toD {m : ME} : toD m Γ = toDr (m Γ) := rfl
@[simp] theorem e_toDr_dat : toDr (.ok (.dat d) Γ) = .ok d Γ := rfl
@[simp] theorem e_toDr_cel {k : Kd} : toDr (.ok (.cel k d) Γ) = .ok d Γ := rfl
@[simp] theorem e_toDr_exc : toDr (.exc c xs Γ) = .exc c xs Γ := rfl
def ofDr (r : Res D) : Res Sv := r.bnd fun d Γ' => .ok (.dat d) Γ'
@[simp] theorem e_ofD {m : MD} : ofD m Γ = ofDr (m Γ) := rfl
@[simp] theorem e_ofDr_ok : ofDr (.ok d Γ) = .ok (.dat d) Γ := rfl
@[simp] theorem e_C : mC d Γ = .ok d Γ := rfl
def sG (o : Option (Option Sv)) : Option D := match o with
  | some (some (.dat d)) => some d
  | some (some (.cel _ d)) => some d
  | _ => none
@[simp] theorem e_peek {i : Nat} : peek Γ i = sG Γ[i]? := rfl
@[simp] theorem e_sG_dat : sG (some (some (.dat d))) = some d := rfl
@[simp] theorem e_sG_cel {k : Kd} : sG (some (some (.cel k d))) = some d := rfl
@[simp] theorem e_Pk {i : Nat} : mPk i Γ = opD (sG Γ[i]?) Γ := rfl
def vaR (o : Option (Option Sv)) (i : Nat) (Γ : SE) : Res D := match o with
  | some (some (.dat d)) => .ok d Γ
  | some (some (.cel .own d)) => .ok d (Γ.set i (some (.dat d)))
  | _ => .bad
@[simp] theorem e_Var {i : Nat} : mVar i Γ = vaR Γ[i]? i Γ := rfl
@[simp] theorem e_va_dat {i : Nat} : vaR (some (some (.dat d))) i Γ = .ok d Γ := rfl
@[simp] theorem e_va_own {i : Nat} : vaR (some (some (.cel .own d))) i Γ = .ok d (Γ.set i (some (.dat d))) := rfl
def mvR (o : Option (Option Sv)) (i : Nat) (Γ : SE) : Res Sv := match o with
  | some (some (.dat d)) => .ok (.dat d) Γ
  | some (some (.cel .own d)) => .ok (.cel .own d) (Γ.set i none)
  | _ => .bad
@[simp] theorem e_Mv {i : Nat} : mMv i Γ = mvR Γ[i]? i Γ := rfl
@[simp] theorem e_mv_dat {i : Nat} : mvR (some (some (.dat d))) i Γ = .ok (.dat d) Γ := rfl
@[simp] theorem e_mv_own {i : Nat} : mvR (some (some (.cel .own d))) i Γ = .ok (.cel .own d) (Γ.set i none) := rfl
def binK2 (f : D → D → Option Sv) (a : D) (r : Res D) : Res Sv := r.bnd fun b Γ2 => match f a b with
  | some s => .ok s Γ2
  | none => .bad
def binK (f : D → D → Option Sv) (mb : MD) (r : Res D) : Res Sv := r.bnd fun a Γ1 => binK2 f a (mb Γ1)
@[simp] theorem e_bin {f : D → D → Option Sv} {ma mb : MD} : mBin f ma mb Γ = binK f mb (ma Γ) := rfl
@[simp] theorem e_binK {f : D → D → Option Sv} {mb : MD} : binK f mb (.ok a Γ) = binK2 f a (mb Γ) := rfl
@[simp] theorem e_binK2 {f : D → D → Option Sv} : binK2 f a (.ok b Γ) = opR (f a b) Γ := rfl
def negR (r : Res D) : Res D := r.bnd fun a Γ1 => match a with
  | .int i => .ok (.int (-i)) Γ1
  | _ => .bad
@[simp] theorem e_neg {ma : MD} : mNeg ma Γ = negR (ma Γ) := rfl
@[simp] theorem e_negR {i : Int} : negR (.ok (.int i) Γ) = .ok (.int (-i)) Γ := rfl
def ixK2 (a : D) (r : Res D) : Res D := r.bnd fun b Γ2 => match ixD a b with
  | some d => .ok d Γ2
  | none => .bad
def ixK (mb : MD) (r : Res D) : Res D := r.bnd fun a Γ1 => ixK2 a (mb Γ1)
@[simp] theorem e_ix {ma mb : MD} : mIx ma mb Γ = ixK mb (ma Γ) := rfl
@[simp] theorem e_ixK {mb : MD} : ixK mb (.ok a Γ) = ixK2 a (mb Γ) := rfl
@[simp] theorem e_ixK2 : ixK2 a (.ok b Γ) = opD (ixD a b) Γ := rfl
def ixNK (i : Nat) (r : Res D) : Res D := r.bnd fun b Γ1 => match (peek Γ1 i).bind fun a => ixD a b with
  | some d => .ok d Γ1
  | none => .bad
def ixN0 (i : Nat) (mb : MD) (Γ : SE) (o : Option D) : Res D := match o with
  | none => .bad
  | some _ => ixNK i (mb Γ)
@[simp] theorem e_ixN {i : Nat} {mb : MD} : mIxN i mb Γ = ixN0 i mb Γ (sG Γ[i]?) := rfl
@[simp] theorem e_ixN0 {i : Nat} {mb : MD} : ixN0 i mb Γ (some d) = ixNK i (mb Γ) := rfl
def ixB (o : Option D) (b : D) : Option D := o.bind fun a => ixD a b
@[simp] theorem e_ixNK {i : Nat} : ixNK i (.ok b Γ) = opD (ixB (sG Γ[i]?) b) Γ := rfl
@[simp] theorem e_ixB : ixB (some a) b = ixD a b := rfl
@[simp] theorem e_ON : mON Γ = .ok none Γ := rfl
def osR (r : Res D) : Res (Option Int) := r.bnd fun d Γ1 => match d with
  | .int i => .ok (some i) Γ1
  | _ => .bad
@[simp] theorem e_OS {m : MD} : mOS m Γ = osR (m Γ) := rfl
@[simp] theorem e_osR {i : Int} : osR (.ok (.int i) Γ) = .ok (some i) Γ := rfl
def slK3 (d : D) (lo : Option Int) (r : Res (Option Int)) : Res Sv := r.bnd fun hi Γ3 => match slD d lo hi with
  | some s => .ok s Γ3
  | none => .bad
def slK2 (d : D) (mh : MO) (r : Res (Option Int)) : Res Sv := r.bnd fun lo Γ2 => slK3 d lo (mh Γ2)
def slK (ml mh : MO) (r : Res D) : Res Sv := r.bnd fun d Γ1 => slK2 d mh (ml Γ1)
@[simp] theorem e_sl {ma : MD} {ml mh : MO} : mSl ma ml mh Γ = slK ml mh (ma Γ) := rfl
@[simp] theorem e_slK {ml mh : MO} : slK ml mh (.ok d Γ) = slK2 d mh (ml Γ) := rfl
@[simp] theorem e_slK2 {mh : MO} {lo : Option Int} : slK2 d mh (.ok lo Γ) = slK3 d lo (mh Γ) := rfl
@[simp] theorem e_slK3 {lo hi : Option Int} : slK3 d lo (.ok hi Γ) = opR (slD d lo hi) Γ := rfl
def slB (o : Option D) (lo hi : Option Int) : Option Sv := o.bind fun d => slD d lo hi
def slNK2 (i : Nat) (lo : Option Int) (r : Res (Option Int)) : Res Sv := r.bnd fun hi Γ3 => match (peek Γ3 i).bind fun d => slD d lo hi with
  | some s => .ok s Γ3
  | none => .bad
def slNK (i : Nat) (mh : MO) (r : Res (Option Int)) : Res Sv := r.bnd fun lo Γ2 => slNK2 i lo (mh Γ2)
def slN0 (i : Nat) (ml mh : MO) (Γ : SE) (o : Option D) : Res Sv := match o with
  | none => .bad
  | some _ => slNK i mh (ml Γ)
@[simp] theorem e_slN {i : Nat} {ml mh : MO} : mSlN i ml mh Γ = slN0 i ml mh Γ (sG Γ[i]?) := rfl
@[simp] theorem e_slN0 {i : Nat} {ml mh : MO} : slN0 i ml mh Γ (some d) = slNK i mh (ml Γ) := rfl
@[simp] theorem e_slNK {i : Nat} {mh : MO} {lo : Option Int} : slNK i mh (.ok lo Γ) = slNK2 i lo (mh Γ) := rfl
@[simp] theorem e_slNK2 {i : Nat} {lo hi : Option Int} : slNK2 i lo (.ok hi Γ) = opR (slB (sG Γ[i]?) lo hi) Γ := rfl
@[simp] theorem e_slB {lo hi : Option Int} : slB (some d) lo hi = slD d lo hi := rfl
@[simp] theorem e_nil : mNil Γ = .ok [] Γ := rfl
def consK2 (d : D) (r : Res (List D)) : Res (List D) := r.bnd fun ds Γ2 => .ok (d :: ds) Γ2
def consK (r : MDs) (x : Res D) : Res (List D) := x.bnd fun d Γ1 => consK2 d (r Γ1)
@[simp] theorem e_cons {m : MD} {r : MDs} : mCons m r Γ = consK r (m Γ) := rfl
@[simp] theorem e_consK {r : MDs} : consK r (.ok d Γ) = consK2 d (r Γ) := rfl
@[simp] theorem e_consK_exc {r : MDs} : consK r (.exc c xs Γ) = .exc c xs Γ := rfl
@[simp] theorem e_consK2 : consK2 d (.ok ds Γ) = .ok (d :: ds) Γ := rfl
def tupR (r : Res (List D)) : Res D := r.bnd fun ds Γ1 => if ds.length ≤ sizeLine then .ok (.tup ds) Γ1 else .bad
@[simp] theorem e_tup {r : MDs} : mTup r Γ = tupR (r Γ) := rfl
theorem tupR_ok (h : ds.length ≤ sizeLine) : tupR (.ok ds Γ) = .ok (.tup ds) Γ := if_pos h
theorem le_line {n : Nat} (h : n ≤ 1000000) : n ≤ sizeLine := by rw [sizeLine_eq]; omega
theorem lt_line {n : Nat} (h : n ≤ 1000000) : n < sizeLine := by rw [sizeLine_eq]; omega
@[simp] theorem e_tupR0 : tupR (.ok [] Γ) = .ok (.tup []) Γ := tupR_ok (le_line (by simp))
@[simp] theorem e_tupR1 : tupR (.ok [a] Γ) = .ok (.tup [a]) Γ := tupR_ok (le_line (by simp))
@[simp] theorem e_tupR2 : tupR (.ok [a, b] Γ) = .ok (.tup [a, b]) Γ := tupR_ok (le_line (by simp))
@[simp] theorem e_tupR3 : tupR (.ok [a, b, d] Γ) = .ok (.tup [a, b, d]) Γ := tupR_ok (le_line (by simp))
@[simp] theorem e_tupR4 : tupR (.ok [a, b, d, e] Γ) = .ok (.tup [a, b, d, e]) Γ := tupR_ok (le_line (by simp))
def lstR (r : Res (List D)) : Res Sv := r.bnd fun ds Γ1 => if ds.length ≤ sizeLine then .ok (.cel .own (.lst ds)) Γ1 else .bad
@[simp] theorem e_lst {r : MDs} : mLst r Γ = lstR (r Γ) := rfl
theorem lstR_ok (h : ds.length ≤ sizeLine) : lstR (.ok ds Γ) = .ok (.cel .own (.lst ds)) Γ := if_pos h
@[simp] theorem e_lstR0 : lstR (.ok [] Γ) = .ok (.cel .own (.lst [])) Γ := lstR_ok (le_line (by simp))
@[simp] theorem e_lstR1 : lstR (.ok [a] Γ) = .ok (.cel .own (.lst [a])) Γ := lstR_ok (le_line (by simp))
@[simp] theorem e_lstR2 : lstR (.ok [a, b] Γ) = .ok (.cel .own (.lst [a, b])) Γ := lstR_ok (le_line (by simp))
@[simp] theorem e_lstR3 : lstR (.ok [a, b, d] Γ) = .ok (.cel .own (.lst [a, b, d])) Γ := lstR_ok (le_line (by simp))
@[simp] theorem e_lstR4 : lstR (.ok [a, b, d, e] Γ) = .ok (.cel .own (.lst [a, b, d, e])) Γ := lstR_ok (le_line (by simp))
@[simp] theorem e_lstR5 {x1 : D} : lstR (.ok [a, b, d, e, x1] Γ) = .ok (.cel .own (.lst [a, b, d, e, x1])) Γ := lstR_ok (le_line (by simp))
@[simp] theorem e_lstR6 {x1 x2 : D} : lstR (.ok [a, b, d, e, x1, x2] Γ) = .ok (.cel .own (.lst [a, b, d, e, x1, x2])) Γ := lstR_ok (le_line (by simp))
@[simp] theorem e_dic0 : mDic0 Γ = .ok (.cel .own (.dic [])) Γ := rfl
def c1R (f : D → Option Sv) (r : Res D) : Res Sv := r.bnd fun d Γ1 => match f d with
  | some s => .ok s Γ1
  | none => .bad
@[simp] theorem e_C1 {f : D → Option Sv} {m : MD} : mC1 f m Γ = c1R f (m Γ) := rfl
@[simp] theorem e_c1R {f : D → Option Sv} : c1R f (.ok d Γ) = opR (f d) Γ := rfl
@[simp] theorem e_c1R_exc {f : D → Option Sv} : c1R f (.exc c xs Γ) = .exc c xs Γ := rfl
def ifK {α : Type} (ma mb : SE → Res α) (r : Res Bool) : Res α := r.bnd fun c Γ1 => if c = true then ma Γ1 else mb Γ1
@[simp] theorem e_if {t : MT} {ma mb : SE → Res α} : mIf t ma mb Γ = ifK ma mb (t Γ) := rfl
@[simp] theorem e_ifK_t {ma mb : SE → Res α} : ifK ma mb (.ok true Γ) = ma Γ := rfl
@[simp] theorem e_ifK_f {ma mb : SE → Res α} : ifK ma mb (.ok false Γ) = mb Γ := rfl
def andVK (mb : MD) (a : D) (Γ : SE) (o : Option Bool) : Res D := match o with
  | some true => mb Γ
  | some false => .ok a Γ
  | none => .bad
def andVR (mb : MD) (r : Res D) : Res D := r.bnd fun a Γ1 => andVK mb a Γ1 (truD a)
@[simp] theorem e_andV {ma mb : MD} : mAndV ma mb Γ = andVR mb (ma Γ) := by
  show Res.bnd _ _ = Res.bnd _ _
  congr 1
@[simp] theorem e_andVR {mb : MD} : andVR mb (.ok a Γ) = andVK mb a Γ (truD a) := rfl
@[simp] theorem e_andVK_t {mb : MD} : andVK mb a Γ (some true) = mb Γ := rfl
@[simp] theorem e_andVK_f {mb : MD} : andVK mb a Γ (some false) = .ok a Γ := rfl
def orVK (mb : MD) (a : D) (Γ : SE) (o : Option Bool) : Res D := match o with
  | some true => .ok a Γ
  | some false => mb Γ
  | none => .bad
def orVR (mb : MD) (r : Res D) : Res D := r.bnd fun a Γ1 => orVK mb a Γ1 (truD a)
@[simp] theorem e_orV {ma mb : MD} : mOrV ma mb Γ = orVR mb (ma Γ) := by
  show Res.bnd _ _ = Res.bnd _ _
  congr 1
@[simp] theorem e_orVR {mb : MD} : orVR mb (.ok a Γ) = orVK mb a Γ (truD a) := rfl
@[simp] theorem e_orVK_t {mb : MD} : orVK mb a Γ (some true) = .ok a Γ := rfl
@[simp] theorem e_orVK_f {mb : MD} : orVK mb a Γ (some false) = mb Γ := rfl
def notVK (Γ : SE) (o : Option Bool) : Res D := match o with
  | some b => .ok (.bl (!b)) Γ
  | none => .bad
def notVR (r : Res D) : Res D := r.bnd fun a Γ1 => notVK Γ1 (truD a)
@[simp] theorem e_notV {ma : MD} : mNotV ma Γ = notVR (ma Γ) := by
  show Res.bnd _ _ = Res.bnd _ _
  congr 1
@[simp] theorem e_notVR : notVR (.ok a Γ) = notVK Γ (truD a) := rfl
@[simp] theorem e_notVK {x : Bool} : notVK Γ (some x) = .ok (.bl (!x)) Γ := rfl
def chE (g : D → D → Option Sv) (b : D) (r : Res D) : Res Sv := r.bnd fun c Γ3 => match g b c with
    | some s => .ok s Γ3
    | none => .bad
def chO (g : D → D → Option Sv) (b : D) (mc : MD) (Γ2 : SE) (o : Option Sv) : Res Sv := match o with
  | some (.dat (.bl true)) => chE g b (mc Γ2)
  | some (.dat (.bl false)) => .ok (.dat (.bl false)) Γ2
  | _ => .bad
def chK2 (f g : D → D → Option Sv) (mc : MD) (a : D) (r : Res D) : Res Sv := r.bnd fun b Γ2 => chO g b mc Γ2 (f a b)
def chK (f g : D → D → Option Sv) (mb mc : MD) (r : Res D) : Res Sv := r.bnd fun a Γ1 => chK2 f g mc a (mb Γ1)
@[simp] theorem e_chain {f g : D → D → Option Sv} {ma mb mc : MD} : mChain f g ma mb mc Γ = chK f g mb mc (ma Γ) := by
  show Res.bnd _ _ = Res.bnd _ _
  congr 1
@[simp] theorem e_chK {f g : D → D → Option Sv} {mb mc : MD} : chK f g mb mc (.ok a Γ) = chK2 f g mc a (mb Γ) := rfl
@[simp] theorem e_chK2 {f g : D → D → Option Sv} {mc : MD} : chK2 f g mc a (.ok b Γ) = chO g b mc Γ (f a b) := rfl
@[simp] theorem e_chO_t {g : D → D → Option Sv} {mc : MD} : chO g b mc Γ (some (.dat (.bl true))) = chE g b (mc Γ) := rfl
@[simp] theorem e_chO_f {g : D → D → Option Sv} {mc : MD} : chO g b mc Γ (some (.dat (.bl false))) = .ok (.dat (.bl false)) Γ := rfl
@[simp] theorem e_chE {g : D → D → Option Sv} : chE g b (.ok a Γ) = opR (g b a) Γ := rfl
def fldR (c : Nat) (f : PySem.Str) (r : Res D) : Res D := r.bnd fun d Γ1 => match fldD c f d with
  | some x => .ok x Γ1
  | none => .bad
@[simp] theorem e_fld {f : PySem.Str} {m : MD} : mFld c f m Γ = fldR c f (m Γ) := rfl
@[simp] theorem e_fldR {f : PySem.Str} : fldR c f (.ok d Γ) = opD (fldD c f d) Γ := rfl

/-! tests -/
def tru1 (o : Option Bool) (Γ : SE) : Res Bool := match o with
  | some b => .ok b Γ
  | none => .bad
def truR (r : Res D) : Res Bool := r.bnd fun d Γ1 => tru1 (truD d) Γ1
@[simp] theorem e_tru {m : MD} : mTru m Γ = truR (m Γ) := by
  show Res.bnd _ _ = Res.bnd _ _
  congr 1
@[simp] theorem e_truR : truR (.ok d Γ) = tru1 (truD d) Γ := rfl
@[simp] theorem e_tru1 {x : Bool} : tru1 (some x) Γ = .ok x Γ := rfl
def blR (r : Res D) : Res Bool := r.bnd fun d Γ1 => match d with
  | .bl b => .ok b Γ1
  | _ => .bad
@[simp] theorem e_bl {m : MD} : mBl m Γ = blR (m Γ) := rfl
@[simp] theorem e_blR {x : Bool} : blR (.ok (.bl x) Γ) = .ok x Γ := rfl
def andTR (tb : MT) (r : Res Bool) : Res Bool := r.bnd fun a Γ1 => if a = true then tb Γ1 else .ok false Γ1
@[simp] theorem e_andT {ta tb : MT} : mAndT ta tb Γ = andTR tb (ta Γ) := rfl
@[simp] theorem e_andTR_t {tb : MT} : andTR tb (.ok true Γ) = tb Γ := rfl
@[simp] theorem e_andTR_f {tb : MT} : andTR tb (.ok false Γ) = .ok false Γ := rfl
def orTR (tb : MT) (r : Res Bool) : Res Bool := r.bnd fun a Γ1 => if a = true then .ok true Γ1 else tb Γ1
@[simp] theorem e_orT {ta tb : MT} : mOrT ta tb Γ = orTR tb (ta Γ) := rfl
@[simp] theorem e_orTR_t {tb : MT} : orTR tb (.ok true Γ) = .ok true Γ := rfl
@[simp] theorem e_orTR_f {tb : MT} : orTR tb (.ok false Γ) = tb Γ := rfl
def notTR (r : Res Bool) : Res Bool := r.bnd fun a Γ1 => .ok (!a) Γ1
@[simp] theorem e_notT {ta : MT} : mNotT ta Γ = notTR (ta Γ) := rfl
@[simp] theorem e_notTR {x : Bool} : notTR (.ok x Γ) = .ok (!x) Γ := rfl
def lendR (Γ : SE) (r : Res Bool) : Res Bool := match r with
  | .ok b _ => .ok b Γ
  | _ => .bad
@[simp] theorem e_lend {m : MT} : mLendT m Γ = lendR Γ (m (frzE Γ)) := rfl
@[simp] theorem e_lendR {x : Bool} : lendR Γ (.ok x Γ') = .ok x Γ := rfl
@[simp] theorem e_frz_nil : frzE [] = [] := rfl
@[simp] theorem e_frz_cons {x : Option Sv} : frzE (x :: Γ) = lendS x :: frzE Γ := rfl
@[simp] theorem e_lendS_cel {k : Kd} : lendS (some (.cel k d)) = some (.dat d) := rfl
@[simp] theorem e_lendS_dat : lendS (some (.dat d)) = some (.dat d) := rfl
@[simp] theorem e_lendS_none : lendS none = none := rfl
@[simp] theorem e_yes : mYes Γ = .ok true Γ := rfl
@[simp] theorem tru_bl {x : Bool} : truD (.bl x) = some x := rfl
@[simp] theorem tru_int {i : Int} : truD (.int i) = some (i != 0) := rfl
@[simp] theorem tru_lst : truD (.lst ds) = some (!ds.isEmpty) := rfl
@[simp] theorem tru_tup : truD (.tup ds) = some (!ds.isEmpty) := rfl
@[simp] theorem tru_non : truD .non = some false := rfl

/-! targets -/
def gN (o : Option (Option Sv)) (i : Nat) (s : Sv) (Γ : SE) : Option SE := match o with
  | some (some (.cel k _)) => if k = .own then some (Γ.set i (some s)) else none
  | some _ => some (Γ.set i (some s))
  | none => none
@[simp] theorem e_gNm {i : Nat} : gNm i s Γ = gN Γ[i]? i s Γ := rfl
@[simp] theorem e_gN_none {i : Nat} : gN (some none) i s Γ = some (Γ.set i (some s)) := rfl
@[simp] theorem e_gN_dat {i : Nat} : gN (some (some (.dat d))) i s Γ = some (Γ.set i (some s)) := rfl
@[simp] theorem e_gN_own {i : Nat} : gN (some (some (.cel .own d))) i s Γ = some (Γ.set i (some s)) := rfl
/-- a slot that holds nothing, or data: what stood in it matters no more -/
def jk (o : Option D) : Option Sv := o.map .dat
@[simp] theorem e_gN_jk {i : Nat} {o : Option D} : gN (some (jk o)) i s Γ = some (Γ.set i (some s)) := by cases o <;> rfl
@[simp] theorem e_lendS_jk {o : Option D} : lendS (jk o) = jk o := by cases o <;> rfl
/-- .. or a cell of its own -/
def jw (o : Option Sv) : Option Sv := match o with
  | some (.dat d) => some (.dat d)
  | some (.cel _ d) => some (.cel .own d)
  | none => none
@[simp] theorem jw_none : jw none = none := rfl
@[simp] theorem jw_dat : jw (some (.dat d)) = some (.dat d) := rfl
@[simp] theorem jw_own : jw (some (.cel .own d)) = some (.cel .own d) := rfl
@[simp] theorem e_gN_jw {i : Nat} {o : Option Sv} : gN (some (jw o)) i s Γ = some (Γ.set i (some s)) := by
  cases o with
  | none => rfl
  | some x => cases x <;> rfl
theorem jk_none : (none : Option Sv) = jk none := rfl
theorem jk_dat : some (Sv.dat d) = jk (some d) := rfl
@[simp] theorem e_gNil : gNil [] Γ = some Γ := rfl
def gC (gs : MGs) (r : List Sv) (o : Option SE) : Option SE := o.bind (gs r)
@[simp] theorem e_gCons {g : MG} {gs : MGs} : gCons g gs (s :: ss) Γ = gC gs ss (g s Γ) := rfl
@[simp] theorem e_gC {gs : MGs} : gC gs ss (some Γ) = gs ss Γ := rfl
theorem gTp_eq {n : Nat} {gs : MGs} : gTp n gs (.dat (.tup ds)) Γ = if ds.length = n then gs (ds.map Sv.dat) Γ else none := rfl
@[simp] theorem e_gTp2 {gs : MGs} : gTp 2 gs (.dat (.tup [a, b])) Γ = gs [.dat a, .dat b] Γ := rfl
@[simp] theorem e_gTp3 {gs : MGs} : gTp 3 gs (.dat (.tup [a, b, d])) Γ = gs [.dat a, .dat b, .dat d] Γ := rfl
@[simp] theorem e_gTp4 {gs : MGs} : gTp 4 gs (.dat (.tup [a, b, d, e])) Γ = gs [.dat a, .dat b, .dat d, .dat e] Γ := rfl
def gSb3 (k : Nat) (Γ1 : SE) (o : Option Sv) : Option SE := o.map fun r => Γ1.set k (some r)
def gSb2 (k : Nat) (e d : D) (Γ1 : SE) (o : Option (Option Sv)) : Option SE := (o.bind id).bind fun s' => (setSv s' e d).map fun r => Γ1.set k (some r)
def gSb1 (k : Nat) (s : Sv) (r : Res D) : Option SE := match r with
  | .ok e Γ1 => gSb2 k e (svD s) Γ1 Γ1[k]?
  | _ => none
def gSb0 (k : Nat) (mi : MD) (s : Sv) (Γ : SE) (o : Option D) : Option SE := if o.isNone then none else gSb1 k s (mi Γ)
@[simp] theorem e_gSb {k : Nat} {mi : MD} : gSb k mi s Γ = gSb0 k mi s Γ (sG Γ[k]?) := rfl
@[simp] theorem e_gSb0 {k : Nat} {mi : MD} : gSb0 k mi s Γ (some d) = gSb1 k s (mi Γ) := rfl
@[simp] theorem e_gSb1 {k : Nat} : gSb1 k s (.ok e Γ) = gSb2 k e (svD s) Γ Γ[k]? := rfl
@[simp] theorem e_gSb2 {k : Nat} {x : Sv} : gSb2 k e d Γ (some (some x)) = gSb3 k Γ (setSv x e d) := rfl
@[simp] theorem e_gSb3 {k : Nat} {x : Sv} : gSb3 k Γ (some x) = some (Γ.set k (some x)) := rfl
@[simp] theorem e_svD_dat : svD (.dat d) = d := rfl
@[simp] theorem e_svD_cel {k : Kd} : svD (.cel k d) = d := rfl

/-! statements -/
@[simp] theorem e_sq {m r : MS} : mSq m r Γ = (m Γ).thn r := rfl
def asgR (g : MG) (r : Res Sv) : RS := r.bndS fun s Γ1 => optS (g s Γ1)
@[simp] theorem e_asg {m : ME} {g : MG} : mAsg m g Γ = asgR g (m Γ) := rfl
@[simp] theorem e_asgR {g : MG} : asgR g (.ok s Γ) = optS (g s Γ) := rfl
@[simp] theorem e_asgR_exc {g : MG} : asgR g (.exc c xs Γ) = .ex c xs Γ := rfl
@[simp] theorem e_enil : mENil Γ = .ok [] Γ := rfl
def econsK2 (s : Sv) (r : Res (List Sv)) : Res (List Sv) := r.bnd fun ss Γ2 => .ok (s :: ss) Γ2
def econsK (r : MEs) (x : Res Sv) : Res (List Sv) := x.bnd fun s Γ1 => econsK2 s (r Γ1)
@[simp] theorem e_econs {m : ME} {r : MEs} : mECons m r Γ = econsK r (m Γ) := rfl
@[simp] theorem e_econsK {r : MEs} : econsK r (.ok s Γ) = econsK2 s (r Γ) := rfl
@[simp] theorem e_econsK2 : econsK2 s (.ok ss Γ) = .ok (s :: ss) Γ := rfl
def parO (j : Nat) (b : Sv) (o : Option SE) : RS := optS (o.bind (gNm j b))
@[simp] theorem e_parO {j : Nat} : parO j s (some Γ) = optS (gNm j s Γ) := rfl
def par3O (j l : Nat) (b c : Sv) (o : Option SE) : RS := optS ((o.bind (gNm j b)).bind (gNm l c))
def par3P (l : Nat) (c : Sv) (o : Option SE) : RS := optS (o.bind (gNm l c))
@[simp] theorem e_par3O {j l : Nat} {t : Sv} : par3O j l s t (some Γ) = par3P l t (gNm j s Γ) := rfl
@[simp] theorem e_par3P {l : Nat} : par3P l s (some Γ) = optS (gNm l s Γ) := rfl
def parR (i j : Nat) (r : Res (List Sv)) : RS := r.bndS fun ss Γ1 => match ss with
  | [a, b] => optS ((gNm i a Γ1).bind (gNm j b))
  | _ => .bad
@[simp] theorem e_par {i j : Nat} {r : MEs} : mPar i j r Γ = parR i j (r Γ) := rfl
@[simp] theorem e_parR {i j : Nat} {t : Sv} : parR i j (.ok [s, t] Γ) = parO j t (gNm i s Γ) := rfl
def par3R (i j l : Nat) (r : Res (List Sv)) : RS := r.bndS fun ss Γ1 => match ss with
  | [a, b, c] => optS (((gNm i a Γ1).bind (gNm j b)).bind (gNm l c))
  | _ => .bad
@[simp] theorem e_par3 {i j l : Nat} {r : MEs} : mPar3 i j l r Γ = par3R i j l (r Γ) := rfl
@[simp] theorem e_par3R {i j l : Nat} {t u : Sv} : par3R i j l (.ok [s, t, u] Γ) = par3O j l t u (gNm i s Γ) := rfl
def asgTR (n : Nat) (gs : MGs) (r : Res (List Sv)) : RS := r.bndS fun ss Γ1 => if ss.length = n ∧ n ≤ sizeLine then optS (gs ss Γ1) else .bad
@[simp] theorem e_asgT {n : Nat} {r : MEs} {gs : MGs} : mAsgT n r gs Γ = asgTR n gs (r Γ) := rfl
@[simp] theorem e_asgTR2 {gs : MGs} {t : Sv} : asgTR 2 gs (.ok [s, t] Γ) = optS (gs [s, t] Γ) := by
  show (if [s, t].length = 2 ∧ 2 ≤ sizeLine then optS (gs [s, t] Γ) else .bad) = _
  exact if_pos ⟨rfl, le_line (by decide)⟩
def dropR (r : Res Sv) : RS := r.bndS fun _ Γ1 => .nx Γ1
@[simp] theorem e_drop {m : ME} : mDrop m Γ = dropR (m Γ) := rfl
@[simp] theorem e_dropR : dropR (.ok s Γ) = .nx Γ := rfl
@[simp] theorem e_dropR_exc : dropR (.exc c xs Γ) = .ex c xs Γ := rfl
def retR (r : Res Sv) : RS := r.bndS fun s Γ1 => .rt s Γ1
@[simp] theorem e_ret {m : ME} : mRet m Γ = retR (m Γ) := rfl
@[simp] theorem e_retR : retR (.ok s Γ) = .rt s Γ := rfl
@[simp] theorem e_retR_exc : retR (.exc c xs Γ) = .ex c xs Γ := rfl
@[simp] theorem e_retN : mRetN Γ = .rt (.dat .non) Γ := rfl
@[simp] theorem e_nx : mNx Γ = .nx Γ := rfl
def ifSR (a b : MS) (r : Res Bool) : RS := r.bndS fun t Γ1 => if t then a Γ1 else b Γ1
@[simp] theorem e_ifS {t : MT} {a b : MS} : mIfS t a b Γ = ifSR a b (t Γ) := rfl
@[simp] theorem e_ifSR_t {a b : MS} : ifSR a b (.ok true Γ) = a Γ := rfl
@[simp] theorem e_ifSR_f {a b : MS} : ifSR a b (.ok false Γ) = b Γ := rfl
def raiseR (c : Nat) (ns : List PySem.Str) (r : Res (List D)) : RS := r.bndS fun ds Γ1 => if ds.length = ns.length then .ex c (ns.zip ds) Γ1 else .bad
@[simp] theorem e_raise {ns : List PySem.Str} {ma : MDs} : mRaise c ns ma Γ = raiseR c ns (ma Γ) := rfl
@[simp] theorem e_raiseR1 {x : PySem.Str} : raiseR c [x] (.ok [a] Γ) = .ex c [(x, a)] Γ := rfl
@[simp] theorem e_raiseR2 {x y : PySem.Str} : raiseR c [x, y] (.ok [a, b] Γ) = .ex c [(x, a), (y, b)] Γ := rfl

/-! functions, calls -/
@[simp] theorem e_fn {N : Nat} {b : MS} : mFn N b Γ = fnEnd Γ (b (padE N Γ)) := rfl
@[simp] theorem e_fnEnd_nx : fnEnd Γ (.nx Γ') = .ok (.dat .non) (backE Γ Γ') := rfl
@[simp] theorem e_fnEnd_rt : fnEnd Γ (.rt s Γ') = .ok s (backE Γ Γ') := rfl
@[simp] theorem e_fnEnd_ex : fnEnd Γ (.ex c xs Γ') = .exc c xs (backE Γ Γ') := rfl
@[simp] theorem e_back_nil : backE [] Γ' = [] := by cases Γ' <;> rfl
@[simp] theorem e_back_cons {g h : Option Sv} : backE (g :: Γ) (h :: Γ') = backSlot g h :: backE Γ Γ' := rfl
@[simp] theorem e_bs_dat {g : Option Sv} : backSlot (some (.dat d)) g = none := rfl
@[simp] theorem e_bs_brw {g : Option Sv} : backSlot (some (.cel .brw d)) g = g := rfl
@[simp] theorem e_bs_lok {g : Option Sv} : backSlot (some (.cel .lok d)) g = g := rfl
@[simp] theorem e_pad {N : Nat} : padE N Γ = Γ ++ List.replicate (N - Γ.length) none := rfl
@[simp] theorem e_An : mAn Γ = .ok [] Γ := rfl
def avK2 (d : D) (r : Res (List AV)) : Res (List AV) := r.bnd fun as Γ2 => .ok (.v d :: as) Γ2
def avK (r : MA) (x : Res D) : Res (List AV) := x.bnd fun d Γ1 => avK2 d (r Γ1)
@[simp] theorem e_Av {m : MD} {r : MA} : mAv m r Γ = avK r (m Γ) := rfl
@[simp] theorem e_avK {r : MA} : avK r (.ok d Γ) = avK2 d (r Γ) := rfl
@[simp] theorem e_avK2 : avK2 d (.ok as Γ) = .ok (.v d :: as) Γ := rfl
def arK2 (j : Nat) (k : Kd) (r : Res (List AV)) : Res (List AV) := r.bnd fun as Γ2 => .ok (.r j k :: as) Γ2
def arK (j : Nat) (k : Kd) (r : MA) (Γ : SE) (o : Option D) : Res (List AV) := if o.isSome then arK2 j k (r Γ) else .bad
@[simp] theorem e_Ar {j : Nat} {k : Kd} {r : MA} : mAr j k r Γ = arK j k r Γ (sG Γ[j]?) := rfl
@[simp] theorem e_arK {j : Nat} {k : Kd} {r : MA} : arK j k r Γ (some d) = arK2 j k (r Γ) := rfl
@[simp] theorem e_arK2 {j : Nat} {k : Kd} : arK2 j k (.ok as Γ) = .ok (.r j k :: as) Γ := rfl
@[simp] theorem e_arg_nil : argE Γ [] = some [] := rfl
def argV (d : D) (o : Option SE) : Option SE := o.map (some (.dat d) :: ·)
@[simp] theorem e_arg_v : argE Γ (.v d :: as) = argV d (argE Γ as) := rfl
@[simp] theorem e_argV : argV d (some Γ) = some (some (.dat d) :: Γ) := rfl
def argR (as : List AV) (j : Nat) (k : Kd) (Γ : SE) (o : Option (Option Sv)) : Option SE := match o with
  | some (some (.cel kd d)) => if (k = .brw ∧ kd ≠ .lok ∨ k = .lok) ∧ as.any (isR j) = false then (argE Γ as).map (some (.cel k d) :: ·) else none
  | _ => none
@[simp] theorem e_arg_r {j : Nat} {k : Kd} : argE Γ (.r j k :: as) = argR as j k Γ Γ[j]? := rfl
def argRC (k : Kd) (d : D) (o : Option SE) : Option SE := o.map (some (.cel k d) :: ·)
@[simp] theorem e_argRC {k : Kd} : argRC k d (some Γ) = some (some (.cel k d) :: Γ) := rfl
theorem argR_ok {j : Nat} {k kd : Kd} (h : (k = .brw ∧ kd ≠ .lok ∨ k = .lok) ∧ as.any (isR j) = false) : argR as j k Γ (some (some (.cel kd d))) = argRC k d (argE Γ as) := if_pos h
@[simp] theorem e_isR_v {j : Nat} : isR j (.v d) = false := rfl
@[simp] theorem e_isR_r {j j' : Nat} {k : Kd} : isR j (.r j' k) = (j == j') := rfl
@[simp] theorem e_argR_brw_own {j : Nat} : argR as j .brw Γ (some (some (.cel .own d))) = if as.any (isR j) = false then argRC .brw d (argE Γ as) else none := by
  show (if _ then _ else _) = _
  simp [argRC]
@[simp] theorem e_argR_brw_brw {j : Nat} : argR as j .brw Γ (some (some (.cel .brw d))) = if as.any (isR j) = false then argRC .brw d (argE Γ as) else none := by
  show (if _ then _ else _) = _
  simp [argRC]
@[simp] theorem e_argR_lok {j : Nat} {k : Kd} : argR as j .lok Γ (some (some (.cel k d))) = if as.any (isR j) = false then argRC .lok d (argE Γ as) else none := by
  show (if _ then _ else _) = _
  simp [argRC]
def callE (f : ME) (as : List AV) (Γ1 : SE) (o : Option SE) : Res Sv := match o with
  | some Γc => callR Γ1 as (f Γc)
  | none => .bad
@[simp] theorem e_callE {f : ME} : callE f as Γ (some Γc) = callR Γ as (f Γc) := rfl
def callK (n : Nat) (f : ME) (r : Res (List AV)) : Res Sv := r.bnd fun as Γ1 => if as.length = n then callE f as Γ1 (argE Γ1 as) else .bad
@[simp] theorem e_callN {n : Nat} {f : ME} {ma : MA} : mCallN n f ma Γ = callK n f (ma Γ) := by
  show Res.bnd _ _ = Res.bnd _ _
  congr 1
theorem callK_eq {n : Nat} {f : ME} : callK n f (.ok as Γ) = if as.length = n then callE f as Γ (argE Γ as) else .bad := rfl
@[simp] theorem e_callK1 {f : ME} {x : AV} : callK 1 f (.ok [x] Γ) = callE f [x] Γ (argE Γ [x]) := rfl
@[simp] theorem e_callK2 {f : ME} {x y : AV} : callK 2 f (.ok [x, y] Γ) = callE f [x, y] Γ (argE Γ [x, y]) := rfl
@[simp] theorem e_callK3 {f : ME} {x y z : AV} : callK 3 f (.ok [x, y, z] Γ) = callE f [x, y, z] Γ (argE Γ [x, y, z]) := rfl
@[simp] theorem e_callK4 {f : ME} {x y z u : AV} : callK 4 f (.ok [x, y, z, u] Γ) = callE f [x, y, z, u] Γ (argE Γ [x, y, z, u]) := rfl
@[simp] theorem e_callK5 {f : ME} {x y z u v : AV} : callK 5 f (.ok [x, y, z, u, v] Γ) = callE f [x, y, z, u, v] Γ (argE Γ [x, y, z, u, v]) := rfl
@[simp] theorem e_callR_ok : callR Γ as (.ok s Γc) = .ok s (upB Γ as Γc) := rfl
@[simp] theorem e_callR_exc : callR Γ as (.exc c xs Γc) = .exc c xs (upB Γ as Γc) := rfl
@[simp] theorem e_upB_nil : upB Γ [] Γc = Γ := by cases Γc <;> rfl
@[simp] theorem e_upB_v {g : Option Sv} : upB Γ (.v d :: as) (g :: Γc) = upB Γ as Γc := by
  cases g with
  | none => rfl
  | some x => cases x <;> rfl
@[simp] theorem e_upB_brw {j : Nat} {k : Kd} : upB Γ (.r j .brw :: as) (some (.cel k d) :: Γc) = setC (upB Γ as Γc) j d := rfl
@[simp] theorem e_upB_lok {j : Nat} {g : Option Sv} : upB Γ (.r j .lok :: as) (g :: Γc) = upB Γ as Γc := by
  cases g with
  | none => rfl
  | some x => cases x <;> rfl
def setC1 (j : Nat) (d : D) (Γ : SE) (o : Option (Option Sv)) : SE := match o with
  | some (some (.cel k _)) => Γ.set j (some (.cel k d))
  | _ => Γ
@[simp] theorem e_setC {j : Nat} : setC Γ j d = setC1 j d Γ Γ[j]? := rfl
@[simp] theorem e_setC1 {j : Nat} {k : Kd} : setC1 j d Γ (some (some (.cel k e))) = Γ.set j (some (.cel k d)) := rfl
def callKK (n : Nat) (g : {α : Type} → List α → List α) (f : ME) (r : Res (List D)) : Res Sv := r.bnd fun ds Γ1 => if ds.length = n ∧ (g ds).length = n then callR Γ1 ((g ds).map .v) (f ((g ds).map fun d => some (.dat d))) else .bad
@[simp] theorem e_callKw {n : Nat} {g : {α : Type} → List α → List α} {f : ME} {ma : MDs} : mCallK n g f ma Γ = callKK n g f (ma Γ) := rfl
theorem callKK_eq {n : Nat} {g : {α : Type} → List α → List α} {f : ME} : callKK n g f (.ok ds Γ) = if ds.length = n ∧ (g ds).length = n then callR Γ ((g ds).map .v) (f ((g ds).map fun d => some (.dat d))) else .bad := rfl
def methK2 (n : Nat) (f : ME) (o : D) (r : Res (List D)) : Res Sv := r.bnd fun ds Γ2 => if ds.length + 1 = n then callR Γ2 ((o :: ds).map .v) (f ((o :: ds).map fun d => some (.dat d))) else .bad
def methK (c : Nat) (nm : PySem.Str) (n : Nat) (f : ME) (ma : MDs) (r : Res D) : Res Sv := r.bnd fun o Γ1 => if noFld c nm o then methK2 n f o (ma Γ1) else .bad
@[simp] theorem e_meth {nm : PySem.Str} {n : Nat} {f : ME} {mo : MD} {ma : MDs} : mMeth c nm n f mo ma Γ = methK c nm n f ma (mo Γ) := rfl
theorem methK_ok {nm : PySem.Str} {n : Nat} {f : ME} {ma : MDs} (h : noFld c nm d = true) : methK c nm n f ma (.ok d Γ) = methK2 n f d (ma Γ) := if_pos h
@[simp] theorem e_methK2_0 {f : ME} : methK2 1 f d (.ok [] Γ) = callR Γ [.v d] (f [some (.dat d)]) := rfl
@[simp] theorem e_methK2_1 {f : ME} : methK2 2 f d (.ok [a] Γ) = callR Γ [.v d, .v a] (f [some (.dat d), some (.dat a)]) := rfl
@[simp] theorem e_methK2_2 {f : ME} : methK2 3 f d (.ok [a, b] Γ) = callR Γ [.v d, .v a, .v b] (f [some (.dat d), some (.dat a), some (.dat b)]) := rfl
def makeK (c n : Nat) (f : ME) (r : Res (List D)) : Res Sv := r.bnd fun ds Γ1 => if ds.length + 1 = n then makeEnd Γ1 (f (makeE c ds)) else .bad
@[simp] theorem e_make {n : Nat} {f : ME} {ma : MDs} : mMake c n f ma Γ = makeK c n f (ma Γ) := rfl
@[simp] theorem e_makeK1 {f : ME} : makeK c 2 f (.ok [a] Γ) = makeEnd Γ (f [some (.cel .brw (.obj c [])), some (.dat a)]) := rfl
@[simp] theorem e_makeK2 {f : ME} : makeK c 3 f (.ok [a, b] Γ) = makeEnd Γ (f [some (.cel .brw (.obj c [])), some (.dat a), some (.dat b)]) := rfl
@[simp] theorem e_makeEnd {k : Kd} : makeEnd Γ (.ok (.dat .non) (some (.cel k d) :: Γc)) = .ok (.cel .own d) Γ := rfl
def cellO (o : Option (Option Sv)) : Option String := match o with
  | some (some (.cel _ (.lst _))) => some "list"
  | some (some (.cel _ (.dic _))) => some "dict"
  | _ => none
@[simp] theorem e_cellO_l {k : Kd} : cellO (some (some (.cel k (.lst ds)))) = some "list" := rfl
@[simp] theorem e_cellO_d {k : Kd} {kvs : List (Key × D)} : cellO (some (some (.cel k (.dic kvs)))) = some "dict" := rfl
def mmE (i : Nat) (k : Kd) (Γ1 : SE) (o : Option (D × D)) : Res Sv := match o with
  | some z => .ok (.dat z.1) (Γ1.set i (some (.cel k z.2)))
  | none => .bad
@[simp] theorem e_mmE {i : Nat} {k : Kd} : mmE i k Γ (some (a, b)) = .ok (.dat a) (Γ.set i (some (.cel k b))) := rfl
def mmC (i : Nat) (f : D → List D → Option (D × D)) (ds : List D) (Γ1 : SE) (o : Option (Option Sv)) : Res Sv := match o with
  | some (some (.cel k d)) => if k = .lok then .bad else mmE i k Γ1 (f d ds)
  | _ => .bad
@[simp] theorem e_mmC_own {i : Nat} {f : D → List D → Option (D × D)} : mmC i f ds Γ (some (some (.cel .own d))) = mmE i .own Γ (f d ds) := rfl
@[simp] theorem e_mmC_brw {i : Nat} {f : D → List D → Option (D × D)} : mmC i f ds Γ (some (some (.cel .brw d))) = mmE i .brw Γ (f d ds) := rfl
def mmR (i : Nat) (f : D → List D → Option (D × D)) (r : Res (List D)) : Res Sv := r.bnd fun ds Γ1 => mmC i f ds Γ1 Γ1[i]?
@[simp] theorem e_mmR {i : Nat} {f : D → List D → Option (D × D)} : mmR i f (.ok ds Γ) = mmC i f ds Γ Γ[i]? := rfl
def mmT (T : String) (i : Nat) (f : D → List D → Option (D × D)) (r : MDs) (Γ : SE) (o : Option String) : Res Sv := if o = some T then mmR i f (r Γ) else .bad
@[simp] theorem e_M {T : String} {i : Nat} {f : D → List D → Option (D × D)} {r : MDs} : mM T i f r Γ = mmT T i f r Γ (cellO Γ[i]?) := by
  show (if _ then _ else _) = (if _ then _ else _)
  congr 1
@[simp] theorem e_mmT {T : String} {i : Nat} {f : D → List D → Option (D × D)} {r : MDs} : mmT T i f r Γ (some T) = mmR i f (r Γ) := if_pos rfl
def fstO (i : Nat) (Γ1 : SE) (o : Option Sv) : RS := optS (o.map fun s => Γ1.set i (some s))
@[simp] theorem e_fstO {i : Nat} : fstO i Γ (some s) = .nx (Γ.set i (some s)) := rfl
def fstC (i c : Nat) (f : PySem.Str) (d : D) (Γ : SE) (o : Option (Option Sv)) : RS := fstO i Γ (putFS c f d (o.bind id))
@[simp] theorem e_fstC {i : Nat} {f : PySem.Str} : fstC i c f d Γ (some (some s)) = fstO i Γ (putFS c f d (some s)) := rfl
def fstR (i c : Nat) (f : PySem.Str) (r : Res D) : RS := r.bndS fun d Γ1 => fstC i c f d Γ1 Γ1[i]?
@[simp] theorem e_fst {i : Nat} {f : PySem.Str} {m : MD} : mFst i c f m Γ = fstR i c f (m Γ) := rfl
@[simp] theorem e_fstR {i : Nat} {f : PySem.Str} : fstR i c f (.ok d Γ) = fstC i c f d Γ Γ[i]? := rfl

/-! iterations -/
def seqO (o : Option (List D)) (Γ : SE) : Res (List D) := match o with
  | some ds => .ok ds Γ
  | none => .bad
@[simp] theorem e_seqO : seqO (some ds) Γ = .ok ds Γ := rfl
def seqR (r : Res D) : Res (List D) := r.bnd fun d Γ1 => seqO (itemsOf d) Γ1
@[simp] theorem e_seq {m : MD} : mSeq m Γ = seqR (m Γ) := by
  show Res.bnd _ _ = Res.bnd _ _
  congr 1
@[simp] theorem e_seqR : seqR (.ok d Γ) = seqO (itemsOf d) Γ := rfl
@[simp] theorem it_lst : itemsOf (.lst ds) = some ds := rfl
@[simp] theorem it_tup : itemsOf (.tup ds) = some ds := rfl
@[simp] theorem it_scr {ns : List Int} : itemsOf (.scr ns) = some (ns.map D.int) := rfl
@[simp] theorem it_str {x : PySem.Str} : itemsOf (.str x) = some (charsD x) := rfl
def rng1R (r : Res (List D)) : Res (List D) := r.bnd fun ds Γ1 => match ds with
  | [.int j] => if -(2 ^ 62) ≤ j ∧ j < 2 ^ 62 then .ok ((List.range j.toNat).map fun i : Nat => D.int (0 + (i : Int))) Γ1 else .bad
  | _ => .bad
@[simp] theorem e_rng1 {r : MDs} : mRng1 r Γ = rng1R (r Γ) := congrFun (rfl : mRng1 r = fun Γ => rng1R (r Γ)) Γ
theorem rng1_ok {j : Int} (h : -(2 ^ 62) ≤ j ∧ j < 2 ^ 62) : rng1R (.ok [.int j] Γ) = .ok ((List.range j.toNat).map fun i : Nat => D.int i) Γ := by
  show (if _ then _ else _) = _
  rw [if_pos h]
  simp
def enumR (r : Res D) : Res (List D) := r.bnd fun d Γ1 => match d with
  | .lst ds => .ok (enumD ds) Γ1
  | .scr ns => .ok (enumD (ns.map D.int)) Γ1
  | _ => .bad
@[simp] theorem e_enum {m : MD} : mEnum m Γ = enumR (m Γ) := rfl
@[simp] theorem e_enumR : enumR (.ok (.lst ds) Γ) = .ok (enumD ds) Γ := rfl
def zipK2 (d : D) (r : Res D) : Res (List D) := r.bnd fun d2 Γ2 => match d, d2 with
  | .lst ds, .lst es => .ok (zipD ds es) Γ2
  | .tup ds, .tup es => .ok (zipD ds es) Γ2
  | .scr ns, .scr ks => .ok (zipD (ns.map D.int) (ks.map D.int)) Γ2
  | .scr ns, .lst es => .ok (zipD (ns.map D.int) es) Γ2
  | _, _ => .bad
def zipK (m2 : MD) (r : Res D) : Res (List D) := r.bnd fun d Γ1 => zipK2 d (m2 Γ1)
@[simp] theorem e_zip {m m2 : MD} : mZip m m2 Γ = zipK m2 (m Γ) := rfl
@[simp] theorem e_zipK {m2 : MD} : zipK m2 (.ok d Γ) = zipK2 d (m2 Γ) := rfl
@[simp] theorem e_zipK2_l {es : List D} : zipK2 (.lst ds) (.ok (.lst es) Γ) = .ok (zipD ds es) Γ := rfl
@[simp] theorem e_zipK2_t {es : List D} : zipK2 (.tup ds) (.ok (.tup es) Γ) = .ok (zipD ds es) Γ := rfl
def forR (g : MG) (b : MS) (r : Res (List D)) : RS := r.bndS fun items Γ1 => mForL g b items Γ1
@[simp] theorem e_for {mi : MDs} {g : MG} {b : MS} : mFor mi g b Γ = forR g b (mi Γ) := rfl
@[simp] theorem e_forR {g : MG} {b : MS} : forR g b (.ok ds Γ) = mForL g b ds Γ := rfl
def noxF (g : MG) (b : MS) (Γ1 : SE) (d : D) : RS := match d with
  | .dic ds => (mForL g b (keysD ds) Γ1).nox
  | _ => .bad
def forKR (g : MG) (b : MS) (r : Res D) : RS := r.bndS fun d Γ1 => noxF g b Γ1 d
@[simp] theorem e_forK {i : Nat} {g : MG} {b : MS} : mForK i g b Γ = forKR g b (vaR Γ[i]? i Γ) := by
  show Res.bndS _ _ = Res.bndS _ _
  congr 1
@[simp] theorem e_forKR {g : MG} {b : MS} {kvs : List (Key × D)} : forKR g b (.ok (.dic kvs) Γ) = (mForL g b (keysD kvs) Γ).nox := rfl
@[simp] theorem e_nox_nx : RS.nox (.nx Γ) = .nx Γ := rfl
@[simp] theorem e_nox_rt : RS.nox (.rt s Γ) = .rt s Γ := rfl
theorem e_lcEnd : lcEnd (.ok ds Γ) = if ds.length ≤ sizeLine then .ok (.cel .own (.lst ds)) Γ else .bad := rfl
def lcK (g : MG) (mt : MT) (me : MD) (vs : List Nat) (r : Res (List D)) : Res Sv := r.bnd fun items Γ1 => if wipeOk Γ1 vs then lcEnd (mLcL g mt me vs items (wipeE Γ1 vs)) else .bad
@[simp] theorem e_lc {mi : MDs} {g : MG} {mt : MT} {me : MD} {vs : List Nat} : mLc mi g mt me vs Γ = lcK g mt me vs (mi Γ) := rfl
def lcW (g : MG) (mt : MT) (me : MD) (vs : List Nat) (items : List D) (Γ : SE) (w : Bool) : Res Sv := if w = true then lcEnd (mLcL g mt me vs items (wipeE Γ vs)) else .bad
@[simp] theorem e_lcK {g : MG} {mt : MT} {me : MD} {vs : List Nat} : lcK g mt me vs (.ok ds Γ) = lcW g mt me vs ds Γ (wipeOk Γ vs) := rfl
@[simp] theorem e_lcW {g : MG} {mt : MT} {me : MD} {vs : List Nat} : lcW g mt me vs ds Γ true = lcEnd (mLcL g mt me vs ds (wipeE Γ vs)) := rfl
def wO (o : Option (Option Sv)) : Bool := match o with
  | some (some (.cel _ _)) => false
  | _ => true
@[simp] theorem e_wipeOk_nil : wipeOk Γ [] = true := rfl
@[simp] theorem e_wipeOk {v : Nat} {vs : List Nat} : wipeOk Γ (v :: vs) = (wO Γ[v]? && wipeOk Γ vs) := rfl
@[simp] theorem e_wO_none : wO (some none) = true := rfl
@[simp] theorem e_wO_dat : wO (some (some (.dat d))) = true := rfl
@[simp] theorem e_wO_jk {o : Option D} : wO (some (jk o)) = true := by cases o <;> rfl
@[simp] theorem e_wipe_nil : wipeE Γ [] = Γ := rfl
@[simp] theorem e_wipe {v : Nat} {vs : List Nat} : wipeE Γ (v :: vs) = (wipeE Γ vs).set v none := rfl
def lcKD (g : MG) (mt : MT) (me : MD) (vs : List Nat) (Γ1 : SE) (d : D) : Res Sv := match d with
  | .dic ds => if wipeOk Γ1 vs then lcEnd (mLcL g mt me vs (keysD ds) (wipeE Γ1 vs)) else .bad
  | _ => .bad
def lcKR (g : MG) (mt : MT) (me : MD) (vs : List Nat) (r : Res D) : Res Sv := r.bnd fun d Γ1 => lcKD g mt me vs Γ1 d
@[simp] theorem e_lcKK {i : Nat} {g : MG} {mt : MT} {me : MD} {vs : List Nat} : mLcK i g mt me vs Γ = lcKR g mt me vs (vaR Γ[i]? i Γ) := by
  show Res.bnd _ _ = Res.bnd _ _
  congr 1
@[simp] theorem e_lcKR {g : MG} {mt : MT} {me : MD} {vs : List Nat} {kvs : List (Key × D)} : lcKR g mt me vs (.ok (.dic kvs) Γ) = lcW g mt me vs (keysD kvs) Γ (wipeOk Γ vs) := rfl
/-! one turn of a comprehension -/
def lcT2 (g : MG) (mt : MT) (me : MD) (vs : List Nat) (r : Res D) : Res (List D) := r.bnd fun e Γ3 => .ok [e] (wipeE Γ3 vs)
def lcT (me : MD) (vs : List Nat) (r : Res Bool) : Res (List D) := r.bnd fun b Γ2 => if b then (me Γ2).bnd fun e Γ3 => .ok [e] (wipeE Γ3 vs) else .ok [] (wipeE Γ2 vs)
def lcT1 (vs : List Nat) (r : Res D) : Res (List D) := r.bnd fun e Γ3 => .ok [e] (wipeE Γ3 vs)
def lcG (mt : MT) (me : MD) (vs : List Nat) (o : Option SE) : Res (List D) := match o with
  | some Γ1 => lcT me vs (mt Γ1)
  | none => .bad
theorem lcL_one {g : MG} {mt : MT} {me : MD} {vs : List Nat} : mLcL g mt me vs [d] Γ = lcG mt me vs (g (.dat d) Γ) := by
  show (match g (.dat d) Γ with | some Γ1 => _ | none => _) = _
  cases g (.dat d) Γ with
  | none => rfl
  | some Γ1 =>
    show Res.bnd _ _ = Res.bnd _ _
    cases mt Γ1 with
    | bad => rfl
    | exc c xs Γ => rfl
    | ok x Γ2 =>
      cases x with
      | false => rfl
      | true =>
        show Res.bnd _ _ = Res.bnd _ _
        rfl
@[simp] theorem e_lcG {mt : MT} {me : MD} {vs : List Nat} : lcG mt me vs (some Γ) = lcT me vs (mt Γ) := rfl
@[simp] theorem e_lcT_t {me : MD} {vs : List Nat} : lcT me vs (.ok true Γ) = lcT1 vs (me Γ) := rfl
@[simp] theorem e_lcT_f {me : MD} {vs : List Nat} : lcT me vs (.ok false Γ) = .ok [] (wipeE Γ vs) := rfl
@[simp] theorem e_lcT1 {vs : List Nat} : lcT1 vs (.ok e Γ) = .ok [e] (wipeE Γ vs) := rfl
theorem lcL_cons {g : MG} {mt : MT} {me : MD} {vs : List Nat} {l : List D} (h : mLcL g mt me vs [d] Γ = .ok l Γ1) : mLcL g mt me vs (d :: ds) Γ = (mLcL g mt me vs ds Γ1).bnd fun es Γ4 => .ok (l ++ es) Γ4 := by
  rw [lcL_one] at h
  show (match g (.dat d) Γ with | some Γ1 => _ | none => _) = _
  revert h
  cases g (.dat d) Γ with
  | none => intro h; cases h
  | some Γ1 =>
    intro h
    dsimp only [lcG, lcT] at h ⊢
    revert h
    cases mt Γ1 with
    | bad => intro h; cases h
    | exc c xs Γ => intro h; cases h
    | ok x Γ2 =>
      cases x with
      | false =>
        intro h
        cases h
        show mLcL g mt me vs ds _ = _
        cases mLcL g mt me vs ds (wipeE Γ2 vs) <;> rfl
      | true =>
        intro h
        dsimp only [Res.bnd, if_pos] at h ⊢
        revert h
        cases me Γ2 with
        | bad => intro h; cases h
        | exc c xs Γ => intro h; cases h
        | ok e Γ3 =>
          intro h
          cases h
          rfl
/-- a comprehension, turn by turn -/
theorem lcL_map {β : Type} {enc : β → D} {g : MG} {mt : MT} {me : MD} {vs : List Nat} (p : β → Bool) (f : β → D) : ∀ (l : List β), (∀ x ∈ l, mLcL g mt me vs [enc x] Γ = .ok (if p x = true then [f x] else []) Γ) → mLcL g mt me vs (l.map enc) Γ = .ok ((l.filter p).map f) Γ
  | [], _ => rfl
  | x :: l, h => by
    rw [List.map_cons, lcL_cons (h x (List.mem_cons_self ..)), lcL_map p f l fun y hy => h y (List.mem_cons_of_mem _ hy)]
    show Res.ok _ _ = Res.ok _ _
    cases e : p x with
    | true => rw [List.filter_cons_of_pos e]; rfl
    | false => rw [List.filter_cons_of_neg (by rw [e]; simp)]; rfl
theorem lcL_all {β : Type} {enc : β → D} {g : MG} {mt : MT} {me : MD} {vs : List Nat} (f : β → D) (l : List β) (h : ∀ x ∈ l, mLcL g mt me vs [enc x] Γ = .ok [f x] Γ) : mLcL g mt me vs (l.map enc) Γ = .ok (l.map f) Γ := by
  have e := lcL_map (Γ := Γ) (enc := enc) (g := g) (mt := mt) (me := me) (vs := vs) (fun _ => true) f l fun x hx => by rw [h x hx]; rfl
  rw [e, List.filter_eq_self.mpr fun _ _ => rfl]
/-- .. where the slots change -/
theorem lcL_inv {β : Type} {enc : β → D} {g : MG} {mt : MT} {me : MD} {vs : List Nat} (R : List β → List D → SE → Prop) (l : List β)
    (h : ∀ pre x post es Γ, l = pre ++ x :: post → R pre es Γ → ∃ es' Γ', mLcL g mt me vs [enc x] Γ = .ok es' Γ' ∧ R (pre ++ [x]) (es ++ es') Γ') : ∀ (pre post : List β) (es : List D) (Γ : SE), l = pre ++ post → R pre es Γ → ∃ es' Γ', mLcL g mt me vs (post.map enc) Γ = .ok es' Γ' ∧ R l (es ++ es') Γ'
  | pre, [], es, Γ, e, r => ⟨[], Γ, rfl, by rw [List.append_nil] at e ⊢; rw [e]; exact r⟩
  | pre, x :: post, es, Γ, e, r => by
    obtain ⟨es1, Γ1, h1, r1⟩ := h pre x post es Γ e r
    obtain ⟨es2, Γ2, h2, r2⟩ := lcL_inv R l h (pre ++ [x]) post (es ++ es1) Γ1 (by rw [e]; simp) r1
    refine ⟨es1 ++ es2, Γ2, ?_, by rw [← List.append_assoc]; exact r2⟩
    rw [List.map_cons, lcL_cons h1, h2]
    rfl
/-! loops, turn by turn -/
@[simp] theorem e_forL_nil {g : MG} {b : MS} : mForL g b [] Γ = .nx Γ := rfl
def forT (b : MS) (o : Option SE) : RS := match o with
  | some Γ1 => (b Γ1).lp .nx
  | none => .bad
theorem forL_one {g : MG} {b : MS} : mForL g b [d] Γ = forT b (g (.dat d) Γ) := by
  show (match g (.dat d) Γ with | some Γ1 => _ | none => _) = _
  cases g (.dat d) Γ with
  | none => rfl
  | some Γ1 =>
    show RS.lp _ _ = RS.lp _ _
    cases b Γ1 <;> rfl
@[simp] theorem e_forT {b : MS} : forT b (some Γ) = (b Γ).lp .nx := rfl
theorem forL_cons {g : MG} {b : MS} (n : Γ1 = Γ1) (h : forT b (g (.dat d) Γ) = .nx Γ1) (hb : ∀ Γ2, g (.dat d) Γ = some Γ2 → ∀ Γ3, b Γ2 ≠ .bk Γ3) : mForL g b (d :: ds) Γ = mForL g b ds Γ1 := by
  show (match g (.dat d) Γ with | some Γ1 => _ | none => _) = _
  revert h hb
  cases g (.dat d) Γ with
  | none => intro h; cases h
  | some Γ2 =>
    intro h hb
    have hb' := hb Γ2 rfl
    show RS.lp _ _ = _
    dsimp only [forT] at h
    revert h hb'
    cases b Γ2 with
    | nx Γ3 => intro h _; cases h; rfl
    | ct Γ3 => intro h _; cases h; rfl
    | bk Γ3 => intro _ h; exact (h Γ3 rfl).elim
    | rt s Γ3 => intro h; cases h
    | ex c xs Γ3 => intro h; cases h
    | bad => intro h; cases h
/-- one turn that goes on -/
def turn (g : MG) (b : MS) (d : D) (Γ Γ' : SE) : Prop := ∃ Γ1, g (.dat d) Γ = some Γ1 ∧ b Γ1 = .nx Γ'
theorem turn.cons {g : MG} {b : MS} (h : turn g b d Γ Γ1) : mForL g b (d :: ds) Γ = mForL g b ds Γ1 := by
  obtain ⟨Γ2, e1, e2⟩ := h
  show (match g (.dat d) Γ with | some Γ1 => _ | none => _) = _
  rw [e1]
  show (b Γ2).lp _ = _
  rw [e2]
  rfl
theorem forL_pre' {β : Type} {enc : β → D} {g : MG} {b : MS} (R : List β → SE → Prop) (l : List β)
    (h : ∀ pre x post Γ, l = pre ++ x :: post → R pre Γ → ∃ Γ1 Γ', g (.dat (enc x)) Γ = some Γ1 ∧ b Γ1 = .nx Γ' ∧ R (pre ++ [x]) Γ') : ∀ (pre post : List β) (Γ : SE), l = pre ++ post → R pre Γ → ∃ Γ', mForL g b (post.map enc) Γ = .nx Γ' ∧ R l Γ'
  | pre, [], Γ, e, r => ⟨Γ, rfl, by rw [List.append_nil] at e; rw [e]; exact r⟩
  | pre, x :: post, Γ, e, r => by
    obtain ⟨Γ1, Γ2, h1, h2, r1⟩ := h pre x post Γ e r
    obtain ⟨Γ3, h3, r3⟩ := forL_pre' R l h (pre ++ [x]) post Γ2 (by rw [e]; simp) r1
    exact ⟨Γ3, by rw [List.map_cons, turn.cons ⟨Γ1, h1, h2⟩]; exact h3, r3⟩
theorem forL_pre {β : Type} {enc : β → D} {g : MG} {b : MS} (R : List β → SE → Prop) (l : List β) (r : R [] Γ)
    (h : ∀ pre x post Γ, l = pre ++ x :: post → R pre Γ → ∃ Γ1 Γ', g (.dat (enc x)) Γ = some Γ1 ∧ b Γ1 = .nx Γ' ∧ R (pre ++ [x]) Γ') : ∃ Γ', mForL g b (l.map enc) Γ = .nx Γ' ∧ R l Γ' :=
  forL_pre' R l h [] l Γ rfl r
theorem whl_t {t : MT} {b : MS} {n : Nat} {Γ2 : SE} (h : t Γ = .ok true Γ1) (hb : b Γ1 = .nx Γ2) : mWhile t b (n + 1) Γ = mWhile t b n Γ2 := by
  show (t Γ).bndS _ = _
  rw [h]
  show (b Γ1).lp _ = _
  rw [hb]
  rfl
theorem whl_f {t : MT} {b : MS} {n : Nat} (h : t Γ = .ok false Γ1) : mWhile t b (n + 1) Γ = .nx Γ1 := by
  show (t Γ).bndS _ = _
  rw [h]
  rfl
theorem while_inv {β : Type} {t : MT} {b : MS} (R : β → SE → Prop) (Fin : β → SE → Prop) (μ : β → Nat)
    (h : ∀ a Γ, R a Γ → (∃ Γ1, t Γ = .ok false Γ1 ∧ Fin a Γ1) ∨ (∃ Γ1 Γ2 a', t Γ = .ok true Γ1 ∧ b Γ1 = .nx Γ2 ∧ R a' Γ2 ∧ μ a' < μ a)) : ∀ (n : Nat) (a : β) (Γ : SE), R a Γ → μ a < n → ∃ a' Γ', mWhile t b n Γ = .nx Γ' ∧ Fin a' Γ'
  | 0, _, _, _, h0 => absurd h0 (Nat.not_lt_zero _)
  | n + 1, a, Γ, r, hn => by
    rcases h a Γ r with ⟨Γ1, h1, f⟩ | ⟨Γ1, Γ2, a', h1, h2, r', lt⟩
    · exact ⟨a, Γ1, whl_f h1, f⟩
    · obtain ⟨a2, Γ', e, f⟩ := while_inv R Fin μ h n a' Γ2 r' (by omega)
      exact ⟨a2, Γ', by rw [whl_t h1 h2]; exact e, f⟩
/-! try -/
@[simp] theorem e_try {i j : Nat} {g : List (PySem.Str × D) → Option D} {mb : MS} : mTry c i j g mb Γ = (match mb Γ with
  | .nx Γ1 => .nx Γ1
  | .ex c' as Γ1 => if c' = c then tryEnd i j (g as) Γ1 else .bad
  | _ => .bad) := rfl
end
end DL
end

section
set_option Elab.async false
set_option linter.all false
set_option maxRecDepth 100000
set_option maxHeartbeats 2000000
namespace DL
open PySem PySem.Spec PyProof.Rows L2
/-! ## plain facts of data: dicts with text keys by keys and a function, lists of texts -/
def kvF (ks : List PySem.Str) (g : PySem.Str → D) : List (Key × D) := ks.map fun k => (Sum.inr k, g k)
section
variable {ks ls : List PySem.Str} {g g' : PySem.Str → D} {k x y : PySem.Str} {d : D} {Γ : SE}
@[simp] theorem kvF_nil : kvF [] g = [] := rfl
@[simp] theorem kvF_cons : kvF (x :: ks) g = (Sum.inr x, g x) :: kvF ks g := rfl
theorem kvF_append : kvF (ks ++ ls) g = kvF ks g ++ kvF ls g := List.map_append
theorem kvF_congr (h : ∀ k ∈ ks, g k = g' k) : kvF ks g = kvF ks g' := List.map_congr_left fun k hk => by rw [h k hk]
@[simp] theorem kvF_length : (kvF ks g).length = ks.length := List.length_map ..
theorem getD_kv : getD (kvF ks g) (.inr k) = if k ∈ ks then some (g k) else none := by
  induction ks with
  | nil => rfl
  | cons z ks ih =>
    by_cases e : z = k
    · subst e
      simp [getD, List.find?_cons]
    · have e1 : getD (kvF (z :: ks) g) (.inr k) = getD (kvF ks g) (.inr k) := by
        have : ¬ ((Sum.inr z : Key) = Sum.inr k) := fun h => e (Sum.inr.inj h)
        simp [getD, List.find?_cons, this]
      rw [e1, ih]
      have e2 : ¬ k = z := fun h => e h.symm
      simp [e2]
theorem getD_of (h : k ∈ ks) : getD (kvF ks g) (.inr k) = some (g k) := by rw [getD_kv, if_pos h]
theorem ixD_kv (h : k ∈ ks) : ixD (.dic (kvF ks g)) (.str k) = some (g k) := getD_of h
@[simp] theorem inD_kv : inD (.str k) (.dic (kvF ks g)) = some (decide (k ∈ ks)) := by
  show some (getD (kvF ks g) (.inr k)).isSome = _
  rw [getD_kv]
  by_cases h : k ∈ ks <;> simp [h]
@[simp] theorem keysD_kv : keysD (kvF ks g) = ks.map D.str := by
  show (ks.map _).map _ = _
  rw [List.map_map]; rfl
@[simp] theorem dLen_dic {kvs : List (Key × D)} : dLen (.dic kvs) = some (.dat (.int kvs.length)) := rfl
@[simp] theorem dLen_lst {ds : List D} : dLen (.lst ds) = some (.dat (.int ds.length)) := rfl
@[simp] theorem dLen_tup {ds : List D} : dLen (.tup ds) = some (.dat (.int ds.length)) := rfl
@[simp] theorem dLen_scr {ns : List Int} : dLen (.scr ns) = some (.dat (.int ns.length)) := rfl
@[simp] theorem dList_kv : dList (.dic (kvF ks g)) = some (.cel .own (.lst (ks.map D.str))) := by
  show some (Sv.cel .own (.lst ((ks.map _).map _))) = _
  rw [List.map_map]; rfl
@[simp] theorem dList_lst {ds : List D} : dList (.lst ds) = some (.cel .own (.lst ds)) := rfl
@[simp] theorem dList_tup {ds : List D} : dList (.tup ds) = some (.cel .own (.lst ds)) := rfl
@[simp] theorem dTuple_lst {ds : List D} : dTuple (.lst ds) = some (.dat (.tup ds)) := rfl
@[simp] theorem dTuple_tup {ds : List D} : dTuple (.tup ds) = some (.dat (.tup ds)) := rfl
theorem keysStr_kv : keysStr (kvF ks g) = some ks := by
  induction ks with
  | nil => rfl
  | cons z ks ih =>
    show (keysStr (kvF ks g)).map (z :: ·) = _
    rw [ih]; rfl
theorem dSorted_kv (h : ks.length < 64) : dSorted (.dic (kvF ks g)) = some (.cel .own (.lst ((sortS ks).map D.str))) := by
  show (if (kvF ks g).length < 64 then _ else _) = _
  rw [kvF_length, if_pos h, keysStr_kv]; rfl
theorem dSorted_strs (h : ks.length < 64) : dSorted (.lst (ks.map D.str)) = some (.cel .own (.lst ((sortS ks).map D.str))) := by
  show (if (ks.map D.str).length < 64 then _ else _) = _
  rw [List.length_map, if_pos h, strsOf_map]
theorem dSortSet_strs (h : ks.length < 60) : dSortSet (.lst (ks.map D.str)) = some (.cel .own (.lst ((sortS (dedS ks)).map D.str))) := by
  show (strsOf (ks.map D.str)).bind _ = _
  rw [strsOf_map]
  show (if ks.length < 60 then _ else _) = _
  rw [if_pos h]
theorem putD_new (h : k ∉ ks) (e : d = g k) : putD (kvF ks g) (.inr k) d = kvF (ks ++ [k]) g := by
  have e1 : ((kvF ks g).any fun kv => decide (kv.1 = (Sum.inr k : Key))) = false := by
    rw [List.any_eq_false]
    intro kv hkv
    obtain ⟨z, hz, rfl⟩ := List.mem_map.mp hkv
    simp only [decide_eq_true_eq]
    exact fun q => h (by cases q; exact hz)
  unfold putD
  rw [e1]
  show kvF ks g ++ _ = _
  rw [kvF_append, e]; rfl
theorem putD_old (h : k ∈ ks) : putD (kvF ks g) (.inr k) d = kvF ks fun x => if x = k then d else g x := by
  have e1 : ((kvF ks g).any fun kv => decide (kv.1 = (Sum.inr k : Key))) = true := by
    rw [List.any_eq_true]
    exact ⟨(Sum.inr k, g k), List.mem_map.mpr ⟨k, h, rfl⟩, by simp⟩
  unfold putD
  rw [e1]
  show List.map _ (List.map _ ks) = List.map _ ks
  rw [List.map_map]
  refine List.map_congr_left fun z _ => ?_
  show (if (Sum.inr z : Key) = Sum.inr k then _ else _) = _
  by_cases q : z = k
  · subst q; simp
  · simp [q]
theorem setSv_new (h : k ∉ ks) (hl : ks.length ≤ 1000000) (e : d = g k) : setSv (.cel .own (.dic (kvF ks g))) (.str k) d = some (.cel .own (.dic (kvF (ks ++ [k]) g))) := by
  have e1 : setSv (.cel .own (.dic (kvF ks g))) (.str k) d = if (kvF ks g).length < sizeLine then some (.cel .own (.dic (putD (kvF ks g) (.inr k) d))) else none := rfl
  rw [e1, kvF_length, if_pos (lt_line hl)]
  rw [putD_new h e]
theorem setSv_old (h : k ∈ ks) (hl : ks.length ≤ 1000000) : setSv (.cel .own (.dic (kvF ks g))) (.str k) d = some (.cel .own (.dic (kvF ks fun x => if x = k then d else g x))) := by
  have e1 : setSv (.cel .own (.dic (kvF ks g))) (.str k) d = if (kvF ks g).length < sizeLine then some (.cel .own (.dic (putD (kvF ks g) (.inr k) d))) else none := rfl
  rw [e1, kvF_length, if_pos (lt_line hl)]
  rw [putD_old h]
theorem setSv_lst {ds : List D} {i : Int} (h0 : 0 ≤ i) (h1 : i < ds.length) {kd : Kd} (hk : kd ≠ .lok) : setSv (.cel kd (.lst ds)) (.int i) d = some (.cel kd (.lst (ds.set i.toNat d))) := by
  show (if kd = .lok then _ else _) = _
  rw [if_neg hk]
  show ((ixN ds.length i).map _).map _ = _
  unfold ixN
  rw [if_pos h0, if_pos h1]; rfl
/-! dict(pairs) -/
theorem pairsOf_kv : pairsOf (ks.map fun k => D.tup [.str k, g k]) = some (kvF ks g) := by
  induction ks with
  | nil => rfl
  | cons z ks ih =>
    show (some (Sum.inr z)).bind (fun k => (pairsOf (ks.map _)).map ((k, g z) :: ·)) = _
    rw [ih]; rfl
theorem mergeD_kv : ∀ (ls ks : List PySem.Str), (ks ++ ls).Nodup → mergeD (kvF ks g) (kvF ls g) = kvF (ks ++ ls) g
  | [], ks, _ => by rw [List.append_nil]; rfl
  | z :: ls, ks, h => by
    have hz : z ∉ ks := fun q => (List.nodup_append.mp h).2.2 z q z (List.mem_cons_self ..) rfl
    show mergeD (putD (kvF ks g) (.inr z) (g z)) (kvF ls g) = _
    rw [putD_new hz rfl, mergeD_kv ls (ks ++ [z]) (by rw [List.append_assoc]; exact h), List.append_assoc]; rfl
theorem dDict_pairs (h : ks.Nodup) : dDict (.lst (ks.map fun k => D.tup [.str k, g k])) = some (.cel .own (.dic (kvF ks g))) := by
  show (pairsOf _).map _ = _
  rw [pairsOf_kv]
  show some (Sv.cel .own (.dic (mergeD (kvF [] g) (kvF ks g)))) = _
  rw [mergeD_kv ks [] (by simpa using h)]; rfl
/-! in -/
theorem flat_strs : (ks.map D.str).all D.flat = true := by
  rw [List.all_eq_true]
  intro d hd
  obtain ⟨z, _, rfl⟩ := List.mem_map.mp hd
  rfl
theorem any_strs : ((ks.map D.str).any fun y => eqF y (.str x)) = decide (x ∈ ks) := by
  rw [Bool.eq_iff_iff, List.any_eq_true, decide_eq_true_eq]
  constructor
  · rintro ⟨d, hd, q⟩
    obtain ⟨z, hz, rfl⟩ := List.mem_map.mp hd
    have q' : (z == x) = true := q
    rw [beq_iff_eq] at q'
    rw [← q']; exact hz
  · intro h
    exact ⟨.str x, List.mem_map.mpr ⟨x, h, rfl⟩, by show (x == x) = true; exact beq_self_eq_true x⟩
@[simp] theorem inD_lst : inD (.str x) (.lst (ks.map D.str)) = some (decide (x ∈ ks)) := by
  show (if ((D.str x).flat && (ks.map D.str).all D.flat) = true then _ else _) = _
  rw [flat_strs]
  show some ((ks.map D.str).any fun y => eqF y (.str x)) = _
  rw [any_strs]
@[simp] theorem inD_tup : inD (.str x) (.tup (ks.map D.str)) = some (decide (x ∈ ks)) := by
  show (if ((D.str x).flat && (ks.map D.str).all D.flat) = true then _ else _) = _
  rw [flat_strs]
  show some ((ks.map D.str).any fun y => eqF y (.str x)) = _
  rw [any_strs]
@[simp] theorem inD_lst0 : inD (.str x) (.lst []) = some false := rfl
@[simp] theorem e_dIn {e : D} : dIn d e = (inD d e).map fun b => .dat (.bl b) := rfl
@[simp] theorem e_dNotIn {e : D} : dNotIn d e = (inD d e).map fun b => .dat (.bl (!b)) := rfl
/-! == -/
@[simp] theorem dEqv_str : dEqv (.str x) (.str y) = some (x == y) := rfl
@[simp] theorem dEqv_int {i j : Int} : dEqv (.int i) (.int j) = some (i == j) := by
  unfold dEqv dEqS
  simp [D.plain, D.py, SeqAt.shaped, PyData.canLay0, PyData.depth, PyData.eqv]
@[simp] theorem e_dEq {e : D} : dEq d e = (dEqv d e).map fun b => .dat (.bl b) := rfl
@[simp] theorem e_dNe {e : D} : dNe d e = (dEqv d e).map fun b => .dat (.bl (!b)) := rfl
/-- texts of plain signs -/
def Asc (x : PySem.Str) : Prop := PyData.strOk x = true
theorem pyL_strs : D.pyL (ks.map D.str) = ks.map PyData.str := by
  induction ks with
  | nil => rfl
  | cons z ks ih => show PyData.str z :: D.pyL (ks.map D.str) = _; rw [ih]; rfl
theorem plainL_strs : D.plainL (ks.map D.str) = true := by
  induction ks with
  | nil => rfl
  | cons z ks ih => show ((D.str z).plain && D.plainL (ks.map D.str)) = true; rw [ih]; rfl
theorem canLay_strs (h : ∀ k ∈ ks, Asc k) : PyData.canLayAll0 (ks.map PyData.str) = true := by
  induction ks with
  | nil => rfl
  | cons z ks ih =>
    show (PyData.canLay0 (.str z) && PyData.canLayAll0 (ks.map PyData.str)) = true
    rw [ih fun k hk => h k (List.mem_cons_of_mem _ hk), Bool.and_true]
    have := h z (List.mem_cons_self ..)
    simpa [PyData.canLay0, Asc] using this
theorem depth_strs : PyData.depthAll (ks.map PyData.str) = 0 := by
  induction ks with
  | nil => rfl
  | cons z ks ih =>
    show max (PyData.depth (.str z)) (PyData.depthAll (ks.map PyData.str)) = 0
    rw [ih]
    simp [PyData.depth]
theorem dEqv_nil (h : ∀ k ∈ ks, Asc k) : dEqv (.lst (ks.map D.str)) (.lst []) = some ks.isEmpty := by
  unfold dEqv
  show Option.or none _ = _
  rw [Option.none_or]
  have e1 : (D.lst (ks.map D.str)).plain = true := plainL_strs
  have e2 : (D.lst (ks.map D.str)).py = .list (ks.map PyData.str) := congrArg PyData.list pyL_strs
  have e3 : SeqAt.shaped (.list (ks.map PyData.str)) = true := by
    unfold SeqAt.shaped
    rw [show PyData.canLay0 (.list (ks.map PyData.str)) = true by simpa [PyData.canLay0] using canLay_strs h, show PyData.depth (.list (ks.map PyData.str)) = 1 by simp [PyData.depth, depth_strs]]
    rfl
  have e4 : SeqAt.shaped (D.lst []).py = true := by decide
  rw [e1, e2, e3, e4]
  show some (PyData.eqv (.list (ks.map PyData.str)) (.list [])) = _
  cases ks with
  | nil => simp [PyData.eqv, PyData.eqvAll]
  | cons z ks => simp [PyData.eqv, PyData.eqvAll]
/-! built-ins -/
@[simp] theorem dAll_bls {bs : List Bool} : dAll (.lst (bs.map D.bl)) = some (.dat (.bl (bs.all id))) := by
  show (blsOf _).map _ = _
  rw [blsOf_map]; rfl
theorem dAll_map {α : Type} {l : List α} {p : α → Bool} : dAll (.lst (l.map fun x => D.bl (p x))) = some (.dat (.bl (l.all p))) := by
  have e : (l.map fun x => D.bl (p x)) = (l.map p).map D.bl := by rw [List.map_map]; rfl
  rw [e, dAll_bls, List.all_map]; rfl
@[simp] theorem dAll_true {α : Type} {l : List α} : dAll (.lst (l.map fun _ => D.bl true)) = some (.dat (.bl true)) := by
  rw [dAll_map (p := fun _ => true)]
  simp
theorem dMax_ints {l : List Int} (h : l ≠ []) : dMax1 (.lst (l.map D.int)) = some (.dat (.int (maxL l))) := by
  show (intsOf _).bind _ = _
  rw [intsOf_map]
  show (if l = [] then none else _) = _
  rw [if_neg h]
@[simp] theorem dIsi_eq {T : String} : dIsi T d = (tyD d).bind fun t => (kitB t T).map fun b => .dat (.bl b) := rfl
@[simp] theorem dIsi2_eq {T T' : String} : dIsi2 T T' d = (tyD d).bind fun t => (kitB t T).bind fun b => (kitB t T').map fun b' => .dat (.bl (b || b')) := rfl
@[simp] theorem dGt_int {i j : Int} : dGt (.int i) (.int j) = some (.dat (.bl (decide (j < i)))) := rfl
@[simp] theorem dGe_int {i j : Int} : dGe (.int i) (.int j) = some (.dat (.bl (decide (j ≤ i)))) := rfl
@[simp] theorem dLe_int {i j : Int} : dLe (.int i) (.int j) = some (.dat (.bl (decide (i ≤ j)))) := rfl
@[simp] theorem dLt_int {i j : Int} : dLt (.int i) (.int j) = some (.dat (.bl (decide (i < j)))) := rfl
@[simp] theorem dLt_str : dLt (.str x) (.str y) = some (.dat (.bl (decide (x.cps.toList < y.cps.toList)))) := rfl
@[simp] theorem dSub_int {i j : Int} : dSub (.int i) (.int j) = some (.dat (.int (i - j))) := rfl
@[simp] theorem dAdd_int {i j : Int} : dAdd (.int i) (.int j) = some (.dat (.int (i + j))) := rfl
theorem dAdd_str (h : x.length + y.length ≤ 1000000) : dAdd (.str x) (.str y) = some (.dat (.str (x ++ y))) := by
  show (none : Option Sv).or ((if x.length + y.length ≤ sizeLine then _ else _ : Option Sv).or _) = _
  rw [if_pos (le_line h)]; rfl
theorem dAdd_lst {xs ys : List D} (h : xs.length + ys.length ≤ 1000000) : dAdd (.lst xs) (.lst ys) = some (.cel .own (.lst (xs ++ ys))) := by
  show (none : Option Sv).or ((none : Option Sv).or (if xs.length + ys.length ≤ sizeLine then _ else _ : Option Sv)) = _
  rw [if_pos (le_line h)]; rfl
theorem dMul_int {i j : Int} (h : CMul i j) : dMul (.int i) (.int j) = some (.dat (.int (i * j))) := if_pos h
theorem dDiv_int {i j : Int} (h : CDiv i j) : dDiv (.int i) (.int j) = some (.dat (.int (i / j))) := if_pos h
theorem dMod_int {i j : Int} (h : 0 < j) : dMod (.int i) (.int j) = some (.dat (.int (i % j))) := if_pos h
theorem ixD_lst {ds : List D} {i : Int} (h0 : 0 ≤ i) (h1 : i < ds.length) : ixD (.lst ds) (.int i) = some (ds[i.toNat]'(by omega)) := by
  show atI ds i = _
  unfold atI ixN
  rw [if_pos h0, if_pos h1]
  show ds[i.toNat]? = _
  simp
@[simp] theorem ix3_0 {a b c : D} : ixD (.tup [a, b, c]) (.int 0) = some a := rfl
@[simp] theorem ix3_1 {a b c : D} : ixD (.tup [a, b, c]) (.int 1) = some b := rfl
@[simp] theorem ix3_2 {a b c : D} : ixD (.tup [a, b, c]) (.int 2) = some c := rfl
theorem lc_len {ds : List D} (h : ds.length ≤ 1000000) : lcEnd (.ok ds Γ) = .ok (.cel .own (.lst ds)) Γ := if_pos (le_line h)
theorem fApp {ds : List D} (h : ds.length < 1000000) : fAppend (.lst ds) [d] = some (.non, .lst (ds ++ [d])) := if_pos (lt_line (Nat.le_of_lt h))
end
@[simp] theorem filter_no {α : Type} {l : List α} : l.filter (fun _ => false) = [] := by
  rw [List.filter_eq_nil_iff]; intro a _; simp
@[simp] theorem filter_yes {α : Type} {l : List α} : l.filter (fun _ => true) = l := List.filter_eq_self.mpr fun _ _ => rfl
/-! ## sorted texts -/
abbrev ltS (x y : PySem.Str) : Prop := x.cps.toList < y.cps.toList
theorem leS_iff (x y : PySem.Str) : leS x y = true ↔ ¬ ltS y x := by
  unfold leS
  rw [ltCps_eq]
  simp
theorem sortS_perm (l : List PySem.Str) : (sortS l).Perm l := isort_perm _ l
theorem sortS_mem {l : List PySem.Str} {x : PySem.Str} : x ∈ sortS l ↔ x ∈ l := (sortS_perm l).mem_iff
theorem sortS_length (l : List PySem.Str) : (sortS l).length = l.length := (sortS_perm l).length_eq
theorem sortS_nodup {l : List PySem.Str} : (sortS l).Nodup ↔ l.Nodup := (sortS_perm l).nodup_iff
theorem sortS_le (l : List PySem.Str) : (sortS l).Pairwise fun a b => leS a b = true := isort_sorted leS_tot leS_tr l
/-- strictly rising -/
def Rise (l : List PySem.Str) : Prop := l.Pairwise ltS
theorem lt_of_le_ne {x y : PySem.Str} (h : leS x y = true) (n : x ≠ y) : ltS x y := by
  cases Decidable.em (ltS x y) with
  | inl h => exact h
  | inr h2 =>
    exact absurd (leS_an x y h ((leS_iff y x).2 h2)) n
theorem rise_of : ∀ {l : List PySem.Str}, l.Pairwise (fun a b => leS a b = true) → l.Nodup → Rise l
  | [], _, _ => List.Pairwise.nil
  | x :: l, h, n => by
    obtain ⟨h1, h2⟩ := List.pairwise_cons.mp h
    obtain ⟨n1, n2⟩ := List.nodup_cons.mp n
    exact List.pairwise_cons.mpr ⟨fun y hy => lt_of_le_ne (h1 y hy) fun e => n1 (e ▸ hy), rise_of h2 n2⟩
theorem sortS_rise {l : List PySem.Str} (n : l.Nodup) : Rise (sortS l) := rise_of (sortS_le l) (sortS_nodup.2 n)
theorem ltS_irr (x : PySem.Str) : ¬ ltS x x := List.lt_irrefl _
theorem Rise.nodup {l : List PySem.Str} (h : Rise l) : l.Nodup := List.Pairwise.imp (S := fun a b => a ≠ b) (fun {a b} q (e : a = b) => ltS_irr a (by rw [← e] at q; exact q)) h
theorem Rise.le {l : List PySem.Str} (h : Rise l) : l.Pairwise fun a b => leS a b = true := List.Pairwise.imp (fun {a b} q => (leS_iff a b).2 fun z => by
  have := List.lt_asymm q z
  exact this) h
theorem sort_of_rise {l m : List PySem.Str} (h : Rise l) (p : l.Perm m) : sortS m = l := by
  exact (isort_unique leS_tot leS_tr leS_an p h.le).symm
theorem rise_eq {l m : List PySem.Str} (h : Rise l) (h2 : Rise m) (e : ∀ x, x ∈ l ↔ x ∈ m) : l = m := by
  have p : l.Perm m := (List.perm_ext_iff_of_nodup h.nodup h2.nodup).mpr e
  rw [← sort_of_rise h (List.Perm.refl l), ← sort_of_rise h2 p.symm]
theorem sort_sorted {l : List PySem.Str} : sortS (sortS l) = sortS l := (isort_unique leS_tot leS_tr leS_an (List.Perm.refl _) (sortS_le l)).symm
theorem sort_perm {l m : List PySem.Str} (p : l.Perm m) : sortS l = sortS m := isort_unique leS_tot leS_tr leS_an ((sortS_perm l).trans p) (sortS_le l)
end DL
end

section
set_option Elab.async false
set_option linter.all false
set_option maxRecDepth 100000
set_option maxHeartbeats 2000000
namespace DL
open PySem PySem.Spec PyProof.Rows L2
/-! ## repr: how long a text may be -/
structure Sh (n w : Nat) (d : D) : Prop where
  pl : d.plain = true
  sh : d.py.showable = true
  dp : d.py.depth ≤ n
  ln : d.py.shown.length ≤ w
theorem join_le : ∀ ts : List PySem.Str, (Str.join ", " ts).length ≤ (ts.map fun t => t.length + 2).sum
  | [] => by show (0 : Nat) ≤ _; exact Nat.zero_le _
  | [x] => by show x.length ≤ _; simp
  | x :: y :: r => by
    have ih := join_le (y :: r)
    show (x ++ ", " ++ Str.join ", " (y :: r)).length ≤ _
    have e : ((", " : String) : PySem.Str).length = 2 := by decide
    rw [Str.length_append, Str.length_append, e]
    simp only [List.map_cons, List.sum_cons] at ih ⊢
    omega
theorem sum_bound {α : Type} (f : α → Nat) (b : Nat) : ∀ l : List α, (∀ x ∈ l, f x ≤ b) → (l.map f).sum ≤ l.length * b
  | [], _ => by simp
  | x :: l, h => by
    have ih := sum_bound f b l fun y hy => h y (List.mem_cons_of_mem _ hy)
    have := h x (List.mem_cons_self ..)
    simp only [List.map_cons, List.sum_cons, List.length_cons, Nat.add_mul, Nat.one_mul]
    omega
section
variable {n n' w w' : Nat} {d : D} {ds : List D} {ks : List PySem.Str} {g : PySem.Str → D}
theorem Sh.mono (h : Sh n w d) (hn : n ≤ n') (hw : w ≤ w') : Sh n' w' d := ⟨h.pl, h.sh, Nat.le_trans h.dp hn, Nat.le_trans h.ln hw⟩
theorem Sh.int {i : Int} (h : i.natAbs.log2 < 1920) : Sh 0 1921 (.int i) :=
  ⟨rfl, by simp [D.py, PyData.showable, h], by simp [D.py, PyData.depth], by
    show (PyData.int i).shown.length ≤ _
    rw [PyData.shown_int]
    exact int_text_len_1921 h⟩
theorem Sh.str {x : PySem.Str} {l : Nat} (h : Asc x) (hl : x.length ≤ l) : Sh 0 (10 * l + 2) (.str x) :=
  ⟨rfl, by simp [D.py, PyData.showable], by simp [D.py, PyData.depth], by
    show (PyData.str x).shown.length ≤ _
    rw [PyData.shown_str]
    have := StrLaws.reprText_len x fun c hc => by
      have q := Array.all_eq_true_iff_forall_mem.mp (show (x.cps.all fun c => decide (c < 0x110000)) = true from h) c (Array.mem_def.mpr hc)
      have q' := of_decide_eq_true q
      exact Nat.lt_trans q' (by decide)
    omega⟩
theorem plainL_of : ∀ {ds : List D}, (∀ d ∈ ds, d.plain = true) → D.plainL ds = true
  | [], _ => rfl
  | d :: r, h => by
    show (d.plain && D.plainL r) = true
    rw [h d (List.mem_cons_self ..), plainL_of fun e he => h e (List.mem_cons_of_mem _ he)]; rfl
theorem pyL_map : ∀ ds : List D, D.pyL ds = ds.map D.py
  | [] => rfl
  | d :: r => by show d.py :: D.pyL r = _; rw [pyL_map r]; rfl
theorem shownAll_map : ∀ ps : List PyData, PyData.shownAll ps = ps.map PyData.shown
  | [] => by simp [PyData.shownAll_nil]
  | p :: r => by rw [PyData.shownAll_cons, shownAll_map r]; rfl
theorem depthAll_le : ∀ {ps : List PyData}, (∀ p ∈ ps, p.depth ≤ n) → PyData.depthAll ps ≤ n
  | [], _ => by simp [PyData.depthAll]
  | p :: r, h => by
    have h1 := h p (List.mem_cons_self ..)
    have h2 := depthAll_le (ps := r) fun q hq => h q (List.mem_cons_of_mem _ hq)
    simp only [PyData.depthAll]
    exact Nat.max_le.mpr ⟨h1, h2⟩
theorem shown_sum (h : ∀ d ∈ ds, Sh n w d) : ((PyData.shownAll (D.pyL ds)).map fun t => t.length + 2).sum ≤ ds.length * (w + 2) := by
  rw [pyL_map, shownAll_map, List.map_map, List.map_map]
  exact sum_bound _ _ ds fun d hd => Nat.add_le_add_right (h d hd).ln 2
theorem sizes : ((("[" : String) : PySem.Str).length = 1 ∧ (("]" : String) : PySem.Str).length = 1) ∧ ((("(" : String) : PySem.Str).length = 1 ∧ ((")" : String) : PySem.Str).length = 1 ∧ ((",)" : String) : PySem.Str).length = 2) ∧ (("{" : String) : PySem.Str).length = 1 ∧ (("}" : String) : PySem.Str).length = 1 ∧ ((": " : String) : PySem.Str).length = 2 := by decide
theorem Sh.lst (h : ∀ d ∈ ds, Sh n w d) : Sh (n + 1) (ds.length * (w + 2) + 2) (.lst ds) := by
  refine ⟨plainL_of fun d hd => (h d hd).pl, ?_, ?_, ?_⟩
  · show PyData.showable (.list (D.pyL ds)) = true
    simp only [PyData.showable]
    refine showableAll_of fun x hx => ?_
    rw [pyL_map] at hx
    obtain ⟨d, hd, rfl⟩ := List.mem_map.mp hx
    exact (h d hd).sh
  · show PyData.depth (.list (D.pyL ds)) ≤ _
    simp only [PyData.depth]
    refine Nat.succ_le_succ (depthAll_le fun p hp => ?_)
    rw [pyL_map] at hp
    obtain ⟨d, hd, rfl⟩ := List.mem_map.mp hp
    exact (h d hd).dp
  · show (PyData.shown (.list (D.pyL ds))).length ≤ _
    obtain ⟨⟨s1, s2⟩, _⟩ := sizes
    rw [PyData.shown_list, Str.length_append, Str.length_append, s1, s2]
    have := join_le (PyData.shownAll (D.pyL ds))
    have := shown_sum h
    omega
theorem Sh.tup (h : ∀ d ∈ ds, Sh n w d) : Sh (n + 1) (ds.length * (w + 2) + 3) (.tup ds) := by
  refine ⟨plainL_of fun d hd => (h d hd).pl, ?_, ?_, ?_⟩
  · show PyData.showable (.tuple (D.pyL ds)) = true
    simp only [PyData.showable]
    refine showableAll_of fun x hx => ?_
    rw [pyL_map] at hx
    obtain ⟨d, hd, rfl⟩ := List.mem_map.mp hx
    exact (h d hd).sh
  · show PyData.depth (.tuple (D.pyL ds)) ≤ _
    simp only [PyData.depth]
    refine Nat.succ_le_succ (depthAll_le fun p hp => ?_)
    rw [pyL_map] at hp
    obtain ⟨d, hd, rfl⟩ := List.mem_map.mp hp
    exact (h d hd).dp
  · show (PyData.shown (.tuple (D.pyL ds))).length ≤ _
    obtain ⟨_, ⟨s1, s2, s3⟩, _⟩ := sizes
    rw [PyData.shown_tuple, Str.length_append, Str.length_append, s1]
    have := join_le (PyData.shownAll (D.pyL ds))
    have := shown_sum h
    split
    · rw [s3]; omega
    · rw [s2]; omega
theorem pyK_kv : ∀ ks : List PySem.Str, D.pyK (kvF ks g) = ks.map fun k => (PyData.str k, (g k).py)
  | [] => rfl
  | k :: r => by show (PyData.str k, (g k).py) :: D.pyK (kvF r g) = _; rw [pyK_kv r]; rfl
theorem plainK_kv : ∀ {ks : List PySem.Str}, (∀ k ∈ ks, (g k).plain = true) → D.plainK (kvF ks g) = true
  | [], _ => rfl
  | k :: r, h => by
    show ((g k).plain && D.plainK (kvF r g)) = true
    rw [h k (List.mem_cons_self ..), plainK_kv fun e he => h e (List.mem_cons_of_mem _ he)]; rfl
theorem shownKv_map : ∀ ps : List (PyData × PyData), PyData.shownKv ps = ps.map fun p => p.1.shown ++ ((": " : String) : PySem.Str) ++ p.2.shown
  | [] => by simp [PyData.shownKv_nil]
  | (a, b) :: r => by rw [PyData.shownKv_cons, shownKv_map r]; rfl
theorem depthKv_le : ∀ {ps : List (PyData × PyData)}, (∀ p ∈ ps, p.1.depth ≤ n ∧ p.2.depth ≤ n) → PyData.depthKv ps ≤ n
  | [], _ => by simp [PyData.depthKv]
  | (a, b) :: r, h => by
    have h1 := h (a, b) (List.mem_cons_self ..)
    have h2 := depthKv_le (ps := r) fun q hq => h q (List.mem_cons_of_mem _ hq)
    simp only [PyData.depthKv]
    exact Nat.max_le.mpr ⟨Nat.max_le.mpr h1, h2⟩
theorem Sh.dic {l : Nat} (hk : ∀ k ∈ ks, Asc k ∧ k.length ≤ l) (h : ∀ k ∈ ks, Sh n w (g k)) : Sh (n + 1) (ks.length * (10 * l + w + 6) + 2) (.dic (kvF ks g)) := by
  have ek : ∀ k ∈ ks, Sh 0 (10 * l + 2) (.str k) := fun k q => .str (hk k q).1 (hk k q).2
  refine ⟨plainK_kv fun k q => (h k q).pl, ?_, ?_, ?_⟩
  · show PyData.showable (.dict (D.pyK (kvF ks g))) = true
    simp only [PyData.showable]
    refine showableKv_of fun p hp => ?_
    rw [pyK_kv] at hp
    obtain ⟨k, q, rfl⟩ := List.mem_map.mp hp
    exact ⟨(ek k q).sh, (h k q).sh⟩
  · show PyData.depth (.dict (D.pyK (kvF ks g))) ≤ _
    simp only [PyData.depth]
    refine Nat.succ_le_succ (depthKv_le fun p hp => ?_)
    rw [pyK_kv] at hp
    obtain ⟨k, q, rfl⟩ := List.mem_map.mp hp
    exact ⟨Nat.le_trans (ek k q).dp (Nat.zero_le _), (h k q).dp⟩
  · show (PyData.shown (.dict (D.pyK (kvF ks g)))).length ≤ _
    obtain ⟨_, _, s1, s2, s3⟩ := sizes
    rw [PyData.shown_dict, Str.length_append, Str.length_append, s1, s2]
    have h1 := join_le (PyData.shownKv (D.pyK (kvF ks g)))
    have h2 : ((PyData.shownKv (D.pyK (kvF ks g))).map fun t => t.length + 2).sum ≤ ks.length * (10 * l + w + 6) := by
      rw [pyK_kv, shownKv_map, List.map_map, List.map_map]
      refine sum_bound _ _ ks fun k q => ?_
      show (PyData.shown (.str k) ++ ((": " : String) : PySem.Str) ++ (g k).py.shown).length + 2 ≤ _
      rw [Str.length_append, Str.length_append, s3]
      have a1 := (ek k q).ln
      have a2 := (h k q).ln
      have a3 : (D.str k).py.shown.length = (PyData.shown (.str k)).length := rfl
      omega
    omega
theorem Sh.repr (h : Sh n w d) (hn : n ≤ 60) (hw : w ≤ 16000000) (hd : (∃ xs, d = .lst xs) ∨ (∃ xs, d = .tup xs) ∨ ∃ xs, d = .dic xs) : ∃ z, dRepr d = some (.dat (.str z)) := by
  have c : (d.plain && d.py.showable && decide (d.py.depth ≤ 60) && decide (d.py.shown.length ≤ sizeLine)) = true := by
    rw [h.pl, h.sh, decide_eq_true (Nat.le_trans h.dp hn), decide_eq_true (show d.py.shown.length ≤ sizeLine by rw [sizeLine_eq]; have := h.ln; omega)]; rfl
  rcases hd with ⟨xs, rfl⟩ | ⟨xs, rfl⟩ | ⟨xs, rfl⟩
  · exact ⟨_, by show (if _ then _ else _) = _; exact if_pos c⟩
  · exact ⟨_, by show (if _ then _ else _) = _; exact if_pos c⟩
  · exact ⟨_, by show (if _ then _ else _) = _; exact if_pos c⟩
theorem log_small {i : Int} (h : i.natAbs < 2 ^ 64) : i.natAbs.log2 < 1920 := by
  by_cases z : i.natAbs = 0
  · rw [z]; decide
  · have := (Nat.log2_lt z).mpr h
    omega
end
end DL
end

section
set_option Elab.async false
set_option linter.all false
set_option maxRecDepth 100000
set_option maxHeartbeats 2000000
namespace DL
open PySem PySem.Spec PyProof.Rows L2
section
variable {Γ : SE} {t : MT} {b : MS} {g : MG} {f : SE → RS} {X : RS → Prop}
theorem while_thn {β : Type} {n : Nat} (R : β → SE → Prop) (Fin : β → SE → Prop) (μ : β → Nat) {a : β}
    (h : ∀ a Γ, R a Γ → (∃ Γ1, t Γ = .ok false Γ1 ∧ Fin a Γ1) ∨ (∃ Γ1 Γ2 a', t Γ = .ok true Γ1 ∧ b Γ1 = .nx Γ2 ∧ R a' Γ2 ∧ μ a' < μ a)) (r : R a Γ) (hn : μ a < n) (k : ∀ a' Γ', Fin a' Γ' → X (f Γ')) : X ((mWhile t b n Γ).thn f) := by
  obtain ⟨a', Γ', e, q⟩ := while_inv R Fin μ h n a Γ r hn
  rw [e]; exact k a' Γ' q
theorem for_thn {β : Type} {enc : β → D} {xs : List β} (R : List β → SE → Prop) (r : R [] Γ) (h : ∀ pre x post Γ, xs = pre ++ x :: post → R pre Γ → ∃ Γ1 Γ', g (.dat (enc x)) Γ = some Γ1 ∧ b Γ1 = .nx Γ' ∧ R (pre ++ [x]) Γ') (k : ∀ Γ', R xs Γ' → X (f Γ')) : X ((mForL g b (xs.map enc) Γ).thn f) := by
  obtain ⟨Γ', e, q⟩ := forL_pre R xs r h
  rw [e]; exact k Γ' q
theorem for_end {β : Type} {enc : β → D} {xs : List β} (R : List β → SE → Prop) (r : R [] Γ) (h : ∀ pre x post Γ, xs = pre ++ x :: post → R pre Γ → ∃ Γ1 Γ', g (.dat (enc x)) Γ = some Γ1 ∧ b Γ1 = .nx Γ' ∧ R (pre ++ [x]) Γ') (k : ∀ Γ', R xs Γ' → X (.nx Γ')) : X (mForL g b (xs.map enc) Γ) := by
  obtain ⟨Γ', e, q⟩ := forL_pre R xs r h
  rw [e]; exact k Γ' q
end
end DL
namespace G
open PySem PySem.Spec PyProof.Rows L2 DL
/-! ## parts, plans as data -/
def nd (b : Bool) (ns : List PySem.Str) : D := if b then .lst (ns.map D.str) else .tup (ns.map D.str)
structure Pa where
  r : PySem.Str
  c : Int
  b : Bool
  ns : List PySem.Str
abbrev paD (p : Pa) : D := .tup [.str p.r, .int p.c, nd p.b p.ns]
abbrev plD (ks : List PySem.Str) (f : PySem.Str → Pa) : D := .dic (kvF ks fun k => paD (f k))
section
variable {b : Bool} {ns : List PySem.Str} {x : PySem.Str}
@[simp] theorem nd_it : itemsOf (nd b ns) = some (ns.map D.str) := by cases b <;> rfl
@[simp] theorem nd_list : dList (nd b ns) = some (.cel .own (.lst (ns.map D.str))) := by cases b <;> rfl
@[simp] theorem nd_tuple : dTuple (nd b ns) = some (.dat (.tup (ns.map D.str))) := by cases b <;> rfl
@[simp] theorem nd_tru : truD (nd b ns) = some (!ns.isEmpty) := by cases b <;> cases ns <;> rfl
@[simp] theorem nd_in : inD (.str x) (nd b ns) = some (decide (x ∈ ns)) := by
  cases b
  · exact inD_tup
  · exact inD_lst
end
def small : PySem.Str := "abcdefghijklmnopqrstuvwxyz"
/-- a part's name -/
structure Prt (s : PySem.Str) : Prop where
  lo : 1 ≤ s.length
  hi : s.length ≤ 12
  sm : ∀ c ∈ s.cps.toList, c ∈ small.cps.toList
theorem in_small : ∀ c ∈ small.cps.toList, inD (.str ⟨#[c]⟩) (.str "abcdefghijklmnopqrstuvwxyz") = some true := by decide +kernel
theorem small_ok : ∀ c ∈ small.cps.toList, c < 0x110000 := by decide +kernel
theorem Prt.asc {s : PySem.Str} (h : Prt s) : Asc s := by
  unfold Asc PyData.strOk
  rw [Array.all_eq_true_iff_forall_mem]
  intro c hc
  exact decide_eq_true (small_ok c (h.sm c (Array.mem_def.mp hc)))
theorem is_integer_is {i : Int} : m_is_integer [some (.dat (.int i))] = .ok (.dat (.bl true)) [none] := rfl
theorem is_day_is {i : Int} : m_is_day [some (.dat (.int i))] = .ok (.dat (.bl true)) [none] := rfl
theorem want_day_is {i : Int} : m_want_day [some (.dat (.int i))] = .ok (.dat .non) [none] := rfl
theorem is_list_is {b : Bool} {ns : List PySem.Str} : m_is_list [some (.dat (nd b ns))] = .ok (.dat (.bl true)) [none] := by cases b <;> rfl
theorem is_count_is {i : Int} (h : 0 ≤ i) : m_is_count [some (.dat (.int i))] = .ok (.dat (.bl true)) [none] := by
  simp [m_is_count, b_is_count, is_integer_is, h]
theorem want_count_is {i : Int} (h : 0 ≤ i) : m_want_count [some (.dat (.int i))] = .ok (.dat .non) [none] := by
  simp [m_want_count, b_want_count, is_count_is h]
theorem len_str {s : PySem.Str} (h : s.length ≤ 1000000) : dLen (.str s) = some (.dat (.int s.length)) := if_pos (le_line h)
theorem is_part_is {s : PySem.Str} (h : Prt s) : m_is_part [some (.dat (.str s))] = .ok (.dat (.bl true)) [none] := by
  have l1 : (1 : Int) ≤ (s.length : Int) := by have := h.lo; omega
  have l2 : (s.length : Int) ≤ 12 := by have := h.hi; omega
  have l3 := len_str (s := s) (by have := h.hi; omega)
  have e1 : s.cps.toList.length = s.length := by simp [Str.length]
  simp [m_is_part, b_is_part, l1, l2, l3, tyD, kitB, charsD]
  rw [lcL_all (fun _ => D.bl true), lc_len (by simp only [List.length_map, e1]; have := h.hi; omega)]
  · simp [dAll_map]
  · intro c hc
    have := in_small c (h.sm c hc)
    simp [lcL_one, this]
theorem want_part_is {s : PySem.Str} (h : Prt s) : m_want_part [some (.dat (.str s))] = .ok (.dat .non) [none] := by
  simp [m_want_part, b_want_part, is_part_is h]
/-- the rules that are drawn -/
def Rul (r : PySem.Str) : Prop := r = "a" ∨ r = "b" ∨ r = "c"
theorem in_rules : inD (.str "a") (.str "abcdefgh") = some true ∧ inD (.str "b") (.str "abcdefgh") = some true ∧ inD (.str "c") (.str "abcdefgh") = some true := by decide +kernel
theorem len_rules : dLen (.str "a") = some (.dat (.int 1)) ∧ dLen (.str "b") = some (.dat (.int 1)) ∧ dLen (.str "c") = some (.dat (.int 1)) := by
  refine ⟨len_str ?_, len_str ?_, len_str ?_⟩ <;> decide +kernel
theorem is_rule_is {r : PySem.Str} (h : Rul r) : m_is_rule [some (.dat (.str r))] = .ok (.dat (.bl true)) [none] := by
  obtain ⟨i1, i2, i3⟩ := in_rules
  obtain ⟨l1, l2, l3⟩ := len_rules
  rcases h with rfl | rfl | rfl <;> simp [m_is_rule, b_is_rule, m_is_letter_of, b_is_letter_of, i1, i2, i3, l1, l2, l3, tyD, kitB]
/-- a plan -/
structure OkP (m : Nat) (ks : List PySem.Str) (f : PySem.Str → Pa) : Prop where
  nd : ks.Nodup
  one : ks ≠ []
  few : ks.length ≤ 12
  prt : ∀ k ∈ ks, Prt k
  rul : ∀ k ∈ ks, Rul (f k).r
  cnt : ∀ k ∈ ks, 0 ≤ (f k).c ∧ (f k).c ≤ 1000
  sub : ∀ k ∈ ks, ∀ n ∈ (f k).ns, n ∈ ks
  rise : ∀ k ∈ ks, Rise (f k).ns
  rk : ∃ rk : PySem.Str → Nat, ∀ k ∈ ks, rk k < m ∧ ∀ n ∈ (f k).ns, rk n < rk k
theorem nodup_le {α : Type} [DecidableEq α] : ∀ {l m : List α}, l.Nodup → (∀ x ∈ l, x ∈ m) → l.length ≤ m.length
  | [], m, _, _ => Nat.zero_le _
  | x :: l, m, h, s => by
    obtain ⟨h1, h2⟩ := List.nodup_cons.mp h
    have hx := s x (List.mem_cons_self ..)
    have ih := nodup_le (m := m.erase x) h2 fun y hy => (List.mem_erase_of_ne (fun e => h1 (by rw [← e]; exact hy))).mpr (s y (List.mem_cons_of_mem _ hy))
    rw [List.length_erase_of_mem hx] at ih
    have : 0 < m.length := List.length_pos_of_mem hx
    rw [List.length_cons]; omega
section
variable {m : Nat} {ks : List PySem.Str} {f : PySem.Str → Pa} (o : OkP m ks f)
include o
theorem OkP.ns_len {k : PySem.Str} (hk : k ∈ ks) : (f k).ns.length ≤ 12 := Nat.le_trans (nodup_le (o.rise k hk).nodup (o.sub k hk)) o.few
theorem OkP.pos : 1 ≤ ks.length := List.length_pos_iff.mpr o.one
omit o in
theorem zip_rise : ∀ {ns : List PySem.Str}, Rise ns → ∀ x ∈ ns.zip ns.tail, ltS x.1 x.2
  | [], _, x, h => by simp at h
  | [_], _, x, h => by simp at h
  | a :: b :: r, h, x, hx => by
    obtain ⟨h1, h2⟩ := List.pairwise_cons.mp h
    rw [List.tail_cons, List.zip_cons_cons, List.mem_cons] at hx
    rcases hx with rfl | hx
    · exact h1 b (List.mem_cons_self ..)
    · exact zip_rise (ns := b :: r) h2 x hx
omit o in
theorem zipD_strs : ∀ (xs ys : List PySem.Str), zipD (xs.map D.str) (ys.map D.str) = (xs.zip ys).map fun p => D.tup [.str p.1, .str p.2]
  | [], ys => by cases ys <;> rfl
  | x :: xs, [] => rfl
  | x :: xs, y :: ys => by
    show D.tup [.str x, .str y] :: zipD (xs.map D.str) (ys.map D.str) = _
    rw [zipD_strs xs ys]; rfl
omit o in
theorem zipD_tail (xs : List PySem.Str) : zipD (xs.map D.str) (xs.map D.str).tail = (xs.zip xs.tail).map fun p => D.tup [.str p.1, .str p.2] := by
  rw [← List.map_tail, zipD_strs]
omit o in
theorem cut1 {xs : List PySem.Str} : cutL (xs.map D.str) (some 1) none = xs.tail.map D.str := by
  unfold cutL
  have e1 : HT.sIx (xs.map D.str).length 0 (some 1) = min 1 xs.length := by
    rw [List.length_map]; exact HT.sIx_nat xs.length 0 1
  have e2 : HT.sIx (xs.map D.str).length (xs.map D.str).length none = xs.length := by rw [List.length_map]; rfl
  rw [e1, e2]
  cases xs with
  | nil => rfl
  | cons x r =>
    have : min 1 (x :: r).length = 1 := by simp
    rw [this]
    show List.take r.length (r.map D.str) = _
    exact List.take_of_length_le (by simp)
theorem are_needs_is {k : PySem.Str} (hk : k ∈ ks) : m_are_needs [some (.dat (nd (f k).b (f k).ns)), some (.dat (plD ks f))] = .ok (.dat (.bl true)) [none, none] := by
  have len := o.ns_len hk
  have zl := zip_rise (o.rise k hk)
  have lz : ((f k).ns.zip (f k).ns.tail).length ≤ 1000000 := by rw [List.length_zip]; omega
  simp [m_are_needs, b_are_needs, is_list_is]
  rw [lcL_all (fun _ => D.bl true), lc_len (by rw [List.length_map]; omega)]
  · simp
    generalize (f k).b = b
    cases b
    · simp [nd, slD, cut1, zipD_tail]
      rw [lcL_all (fun _ => D.bl true), lc_len (by rw [List.length_map]; exact lz)]
      · simp
      · intro p hp
        have h1 := zl p hp
        simp [lcL_one, h1]
    · simp [nd, slD, cut1, zipD_tail]
      rw [lcL_all (fun _ => D.bl true), lc_len (by rw [List.length_map]; exact lz)]
      · simp
      · intro p hp
        have h1 := zl p hp
        simp [lcL_one, h1]
  · intro t ht
    have h1 := is_part_is (o.prt t (o.sub k hk t ht))
    have h2 := o.sub k hk t ht
    simp [lcL_one, h1, h2]
theorem is_step_is {k : PySem.Str} (hk : k ∈ ks) : m_is_step [some (.dat (paD (f k))), some (.dat (plD ks f))] = .ok (.dat (.bl true)) [none, none] := by
  simp [m_is_step, b_is_step, tyD, kitB, is_rule_is (o.rul k hk), is_count_is (o.cnt k hk).1, are_needs_is o hk]
theorem has_form_is : m_has_form [some (.dat (plD ks f))] = .ok (.dat (.bl true)) [none] := by
  have l1 := o.pos
  have l2 := o.few
  have l3 : (1 : Int) ≤ (ks.length : Int) := by omega
  have l4 : (ks.length : Int) ≤ 12 := by omega
  simp [m_has_form, b_has_form, tyD, kitB, l3, l4]
  rw [lcL_all (fun _ => D.bl true), lc_len (by rw [List.length_map]; omega)]
  · simp
    rw [lcL_all (fun _ => D.bl true), lc_len (by rw [List.length_map]; omega)]
    · simp
    · intro t ht
      simp [lcL_one, ixD_kv ht, is_step_is o ht]
  · intro t ht
    simp [lcL_one, is_part_is (o.prt t ht)]
end
end G
end

section
set_option Elab.async false
set_option linter.all false
set_option maxRecDepth 100000
set_option maxHeartbeats 2000000
namespace G
open PySem PySem.Spec PyProof.Rows L2 DL
@[simp] theorem fPop_snoc {xs : List D} {d : D} : fPop (.lst (xs ++ [d])) [] = some (d, .lst xs) := by
  show (((xs ++ [d])[(xs ++ [d]).length - 1]?).map fun y => (y, D.lst (xs ++ [d]).dropLast)) = _
  simp
theorem fExt_nd {xs ns : List PySem.Str} {b : Bool} (h : xs.length + ns.length ≤ 1000000) : fExtend (.lst (xs.map D.str)) [nd b ns] = some (.non, .lst ((xs ++ ns).map D.str)) := by
  cases b
  · show (if (xs.map D.str).length + (ns.map D.str).length ≤ sizeLine then _ else _) = _
    rw [List.length_map, List.length_map, if_pos (le_line h), List.map_append]
  · show (if (xs.map D.str).length + (ns.map D.str).length ≤ sizeLine then _ else _) = _
    rw [List.length_map, List.length_map, if_pos (le_line h), List.map_append]
theorem sum_out (w : PySem.Str → Nat) (fd : List PySem.Str) (one : PySem.Str) (h : one ∉ fd) : ∀ ks : List PySem.Str, ks.Nodup → one ∈ ks → ((ks.filter fun k => decide (k ∉ fd)).map w).sum = w one + ((ks.filter fun k => decide (k ∉ fd ++ [one])).map w).sum
  | [], _, m => by simp at m
  | k :: ks, n, m => by
    obtain ⟨n1, n2⟩ := List.nodup_cons.mp n
    by_cases e : k = one
    · subst e
      have e1 : ks.filter (fun x => decide (x ∉ fd)) = ks.filter fun x => decide (x ∉ fd ++ [k]) := List.filter_congr fun x hx => by
        have : x ≠ k := fun q => n1 (q ▸ hx)
        simp [this]
      rw [List.filter_cons_of_pos (by simpa using h), List.filter_cons_of_neg (by simp), e1]
      simp
    · have m' : one ∈ ks := (List.mem_cons.mp m).resolve_left fun q => e q.symm
      have ih := sum_out w fd one h ks n2 m'
      by_cases c : k ∈ fd
      · rw [List.filter_cons_of_neg (by simpa using c), List.filter_cons_of_neg (by simp [c]), ih]
      · rw [List.filter_cons_of_pos (by simpa using c), List.filter_cons_of_pos (by simp [c, e])]
        simp only [List.map_cons, List.sum_cons, ih]
        omega
theorem sum_le (w : PySem.Str → Nat) (b : Nat) : ∀ ks : List PySem.Str, (∀ k ∈ ks, w k ≤ b) → (ks.map w).sum ≤ ks.length * b
  | [], _ => by simp
  | k :: ks, h => by
    have ih := sum_le w b ks fun x hx => h x (List.mem_cons_of_mem _ hx)
    have := h k (List.mem_cons_self ..)
    simp only [List.map_cons, List.sum_cons, List.length_cons, Nat.add_mul, Nat.one_mul]
    omega
section
variable {m : Nat} {ks : List PySem.Str} {f : PySem.Str → Pa} (o : OkP m ks f)
include o
theorem comes_to_is {part : PySem.Str} (hp : part ∈ ks) : ∃ fd : List PySem.Str, m_comes_to [some (.dat (plD ks f)), some (.dat (.str part))] = .ok (.cel .own (.lst (fd.map D.str))) [none, none] ∧
    fd.Nodup ∧ (∀ x ∈ fd, x ∈ ks ∧ x ≠ part) ∧ (∀ n ∈ (f part).ns, n ∈ fd) ∧ ∀ x ∈ fd, ∀ n ∈ (f x).ns, n ∈ fd := by
  obtain ⟨rk, hrk⟩ := o.rk
  let w : PySem.Str → Nat := fun k => (f k).ns.length
  let μ : List PySem.Str × List PySem.Str → Nat := fun a => a.2.length + ((ks.filter fun k => decide (k ∉ a.1)).map w).sum
  let R : List PySem.Str × List PySem.Str → SE → Prop := fun a Γ => (∃ j, Γ = [some (.dat (plD ks f)), some (.dat (.str part)), some (.cel .own (.lst (a.1.map D.str))), some (.cel .own (.lst (a.2.map D.str))), jk j]) ∧
    a.1.Nodup ∧ (∀ x ∈ a.1, x ∈ ks ∧ rk x < rk part) ∧ (∀ x ∈ a.2, x ∈ ks ∧ rk x < rk part) ∧ (∀ n ∈ (f part).ns, n ∈ a.1 ∨ n ∈ a.2) ∧ (∀ x ∈ a.1, ∀ n ∈ (f x).ns, n ∈ a.1 ∨ n ∈ a.2) ∧ μ a ≤ 156
  have wb : ∀ k ∈ ks, w k ≤ 12 := fun k hk => o.ns_len hk
  have tot : ((ks.filter fun k => decide (k ∉ ([] : List PySem.Str))).map w).sum ≤ 144 := by
    have h1 := sum_le w 12 (ks.filter fun k => decide (k ∉ ([] : List PySem.Str))) fun k hk => wb k (List.mem_filter.mp hk).1
    have h2 : (ks.filter fun k => decide (k ∉ ([] : List PySem.Str))).length ≤ ks.length := List.length_filter_le ..
    have := o.few
    omega
  have h0 : R ([], (f part).ns) [some (.dat (plD ks f)), some (.dat (.str part)), some (.cel .own (.lst [])), some (.cel .own (.lst ((f part).ns.map D.str))), none] :=
    ⟨⟨none, rfl⟩, List.nodup_nil, fun x h => by simp at h, fun x h => ⟨o.sub part hp x h, (hrk part hp).2 x h⟩, fun n h => .inr h, fun x h => by simp at h, by
      have := o.ns_len hp
      show (f part).ns.length + ((ks.filter fun k => decide (k ∉ ([] : List PySem.Str))).map w).sum ≤ 156
      omega⟩
  simp [m_comes_to, b_comes_to, ixD_kv hp]
  generalize hr : mWhile _ _ _ _ = r
  obtain ⟨a', Γ', e, q⟩ : ∃ a' Γ', r = .nx Γ' ∧ (R a' Γ' ∧ a'.2 = []) := by
    subst hr
    refine while_inv R (fun a Γ => R a Γ ∧ a.2 = []) μ ?_ _ _ _ h0 (Nat.lt_of_le_of_lt h0.2.2.2.2.2.2 (by decide))
    rintro ⟨fd, left⟩ Γ r
    obtain ⟨⟨j, rfl⟩, hnd, i1, i2, i3, i4, i5⟩ := id r
    dsimp only at hnd i1 i2 i3 i4
    rcases List.eq_nil_or_concat left with rfl | ⟨init, one, rfl⟩
    · exact .inl ⟨_, by simp, ⟨⟨j, rfl⟩, hnd, i1, i2, i3, i4, i5⟩, rfl⟩
    · refine .inr ?_
      simp only [List.concat_eq_append] at i2 i3 i4 i5 ⊢
      replace i5 : (init ++ [one]).length + ((ks.filter fun k => decide (k ∉ fd)).map w).sum ≤ 156 := i5
      rw [List.length_append, List.length_singleton] at i5
      obtain ⟨k1, k2⟩ := i2 one (by simp)
      have fdl : fd.length ≤ 12 := Nat.le_trans (nodup_le hnd fun x hx => (i1 x hx).1) o.few
      by_cases c : one ∈ fd
      · refine ⟨_, _, (fd, init), by simp; rfl, by simp [c]; rfl, ⟨⟨some (.str one), rfl⟩, hnd, i1, fun x hx => i2 x (by simp [hx]), fun n hn => ?_, fun x hx n hn => ?_, ?_⟩, ?_⟩
        · rcases i3 n hn with h | h
          · exact .inl h
          · rcases List.mem_append.mp h with h | h
            · exact .inr h
            · exact .inl (by rw [List.mem_singleton.mp h]; exact c)
        · rcases i4 x hx n hn with h | h
          · exact .inl h
          · rcases List.mem_append.mp h with h | h
            · exact .inr h
            · exact .inl (by rw [List.mem_singleton.mp h]; exact c)
        · show init.length + ((ks.filter fun k => decide (k ∉ fd)).map w).sum ≤ 156
          omega
        · show init.length + ((ks.filter fun k => decide (k ∉ fd)).map w).sum < (init ++ [one]).length + ((ks.filter fun k => decide (k ∉ fd)).map w).sum
          rw [List.length_append, List.length_singleton]; omega
      · have ls := sum_out w fd one c ks o.nd k1
        have wl : w one ≤ 12 := wb one k1
        have we : w one = (f one).ns.length := rfl
        have ap : fAppend (.lst (fd.map D.str)) [.str one] = some (.non, .lst (fd.map D.str ++ [.str one])) := fApp (by rw [List.length_map]; omega)
        have ex : fExtend (.lst (init.map D.str)) [G.nd (f one).b (f one).ns] = some (.non, .lst ((init ++ (f one).ns).map D.str)) := fExt_nd (by omega)
        refine ⟨_, _, (fd ++ [one], init ++ (f one).ns), by simp; rfl, by simp [c, ap, ex, ixD_kv k1]; rfl, ⟨⟨some (.str one), by simp; rfl⟩, ?_, ?_, ?_, ?_, ?_, ?_⟩, ?_⟩
        · exact List.nodup_append.mpr ⟨hnd, by simp, fun x hx y hy e => c (by rw [List.mem_singleton.mp hy] at e; rw [← e]; exact hx)⟩
        · intro x hx
          rcases List.mem_append.mp hx with h | h
          · exact i1 x h
          · rw [List.mem_singleton.mp h]; exact ⟨k1, k2⟩
        · intro x hx
          rcases List.mem_append.mp hx with h | h
          · exact i2 x (by simp [h])
          · exact ⟨o.sub one k1 x h, Nat.lt_trans ((hrk one k1).2 x h) k2⟩
        · intro n hn
          rcases i3 n hn with h | h
          · exact .inl (by simp [h])
          · rcases List.mem_append.mp h with h | h
            · exact .inr (by simp [h])
            · exact .inl (by simp [List.mem_singleton.mp h])
        · intro x hx n hn
          rcases List.mem_append.mp hx with h | h
          · rcases i4 x h n hn with h | h
            · exact .inl (by simp [h])
            · rcases List.mem_append.mp h with h | h
              · exact .inr (by simp [h])
              · exact .inl (by simp [List.mem_singleton.mp h])
          · rw [List.mem_singleton.mp h] at hn
            exact .inr (by simp [hn])
        · show (init ++ (f one).ns).length + ((ks.filter fun k => decide (k ∉ fd ++ [one])).map w).sum ≤ 156
          rw [List.length_append]; omega
        · show (init ++ (f one).ns).length + ((ks.filter fun k => decide (k ∉ fd ++ [one])).map w).sum < (init ++ [one]).length + ((ks.filter fun k => decide (k ∉ fd)).map w).sum
          rw [List.length_append, List.length_append, List.length_singleton]; omega
  obtain ⟨fd, left⟩ := a'
  obtain ⟨⟨⟨j, rfl⟩, nd, i1, i2, i3, i4, i5⟩, rfl⟩ := q
  subst e
  exact ⟨fd, by simp, nd, fun x hx => ⟨(i1 x hx).1, fun e => by
    have := (i1 x hx).2
    rw [e] at this; omega⟩, fun n hn => (i3 n hn).resolve_right (by simp), fun x hx n hn => (i4 x hx n hn).resolve_right (by simp)⟩
theorem ringed_is : m_ringed [some (.dat (plD ks f))] = .ok (.cel .own (.lst [])) [none] := by
  have few := o.few
  simp [m_ringed, b_ringed, dSorted_kv (show ks.length < 64 by omega)]
  rw [lcL_map (fun _ => false) (fun _ => D.non), lc_len (by simp)]
  · simp
  · intro t ht
    have ht := sortS_mem.1 ht
    obtain ⟨fd, e, h1, h2, _⟩ := comes_to_is o ht
    have : t ∉ fd := fun q => (h2 t q).2 rfl
    simp [lcL_one, e, this]
omit o in
theorem eqv_nil : dEqv (.lst []) (.lst []) = some true := dEqv_nil (ks := []) (fun k h => by simp at h)
theorem is_plan_is : m_is_plan [some (.dat (plD ks f))] = .ok (.dat (.bl true)) [none] := by
  simp [m_is_plan, b_is_plan, has_form_is o, ringed_is o, eqv_nil]
theorem want_plan_is : m_want_plan [some (.dat (plD ks f))] = .ok (.dat .non) [none] := by
  simp [m_want_plan, b_want_plan, has_form_is o, ringed_is o]
omit o in
theorem want_there_is {part : PySem.Str} (hp : part ∈ ks) : m_want_there [some (.dat (plD ks f)), some (.dat (.str part))] = .ok (.dat .non) [none, none] := by
  simp [m_want_there, b_want_there, hp]
theorem want_part_of_is {part : PySem.Str} (hp : part ∈ ks) : m_want_part_of [some (.dat (plD ks f)), some (.dat (.str part))] = .ok (.dat .non) [none, none] := by
  simp [m_want_part_of, b_want_part_of, want_plan_is o, want_part_is (o.prt part hp), want_there_is hp]
/-- what a part takes in -/
structure Taken (ks : List PySem.Str) (f : PySem.Str → Pa) (part : PySem.Str) (ps : List PySem.Str) : Prop where
  self : part ∈ ps
  sub : ∀ x ∈ ps, x ∈ ks
  cl : ∀ x ∈ ps, ∀ n ∈ (f x).ns, n ∈ ps
  len : ps.length ≤ 13
theorem parts_in_is {part : PySem.Str} (hp : part ∈ ks) : ∃ ps, m_parts_in [some (.dat (plD ks f)), some (.dat (.str part))] = .ok (.cel .own (.lst (ps.map D.str))) [none, none] ∧ Taken ks f part ps := by
  obtain ⟨fd, e, h1, h2, h3, h4⟩ := comes_to_is o hp
  have fdl : fd.length ≤ 12 := Nat.le_trans (nodup_le h1 fun x hx => (h2 x hx).1) o.few
  have l1 : (fd ++ [part]).length < 64 := by simp; omega
  refine ⟨sortS (fd ++ [part]), ?_, ?_⟩
  · have q : dAdd (.lst (fd.map D.str)) (.lst [.str part]) = some (.cel .own (.lst ((fd ++ [part]).map D.str))) := by
      rw [dAdd_lst (by simp; omega), List.map_append]; rfl
    simp only [m_parts_in, b_parts_in, e_fn, e_ret, e_C1, e_toD, e_bin, e_callN, e_Av, e_Var, e_pad]
    simp [e]
    rw [q]
    simp only [e_opR, e_toDr_cel, e_c1R, dSorted_strs l1]
    simp
  · refine ⟨by simp [sortS_mem], fun x hx => ?_, fun x hx n hn => ?_, by rw [sortS_length]; simp; omega⟩
    · rcases List.mem_append.mp (sortS_mem.1 hx) with h | h
      · exact (h2 x h).1
      · rw [List.mem_singleton.mp h]; exact hp
    · refine sortS_mem.2 (List.mem_append_left _ ?_)
      rcases List.mem_append.mp (sortS_mem.1 hx) with h | h
      · exact h4 x h n hn
      · rw [List.mem_singleton.mp h] at hn
        exact h3 n hn
omit o in
theorem least_of (rk : PySem.Str → Nat) : ∀ l : List PySem.Str, l ≠ [] → ∃ x ∈ l, ∀ y ∈ l, rk x ≤ rk y
  | [], h => absurd rfl h
  | [x], _ => ⟨x, by simp, fun y hy => by rw [List.mem_singleton.mp hy]; exact Nat.le_refl _⟩
  | x :: y :: r, _ => by
    obtain ⟨z, hz, h⟩ := least_of rk (y :: r) (by simp)
    by_cases c : rk x ≤ rk z
    · refine ⟨x, by simp, fun u hu => ?_⟩
      rcases List.mem_cons.mp hu with rfl | hu
      · exact Nat.le_refl _
      · exact Nat.le_trans c (h u hu)
    · refine ⟨z, List.mem_cons_of_mem _ hz, fun u hu => ?_⟩
      rcases List.mem_cons.mp hu with rfl | hu
      · omega
      · exact h u hu
theorem next_is {fd : List PySem.Str} (h1 : fd.Nodup) (h2 : ∀ x ∈ fd, x ∈ ks) (h3 : fd.length < ks.length) : ∃ one, m_next_part [some (.dat (plD ks f)), some (.cel .lok (.lst (fd.map D.str)))] = .ok (.dat (.str one)) [none, some (.cel .lok (.lst (fd.map D.str)))] ∧
    one ∈ ks ∧ one ∉ fd ∧ ∀ n ∈ (f one).ns, n ∈ fd := by
  obtain ⟨rk, hrk⟩ := o.rk
  have few := o.few
  obtain ⟨left, el⟩ : ∃ l, l = (sortS ks).filter fun x => !decide (x ∈ fd) := ⟨_, rfl⟩
  obtain ⟨good, eg0⟩ : ∃ l, l = left.filter fun x => (f x).ns.all fun n => decide (n ∈ fd) := ⟨_, rfl⟩
  have hl : ∀ x, x ∈ left ↔ x ∈ ks ∧ x ∉ fd := fun x => by
    rw [el, List.mem_filter, sortS_mem]; simp
  have hg : ∀ x, x ∈ good ↔ (x ∈ ks ∧ x ∉ fd) ∧ ∀ n ∈ (f x).ns, n ∈ fd := fun x => by
    rw [eg0, List.mem_filter, hl x, List.all_eq_true]
    simp
  have ne : left ≠ [] := fun e => by
    have : ks.length ≤ fd.length := nodup_le o.nd fun x hx => by
      cases Decidable.em (x ∈ fd) with
      | inl h => exact h
      | inr h => exact absurd ((hl x).2 ⟨hx, h⟩) (by rw [e]; simp)
    omega
  obtain ⟨x, hx, hm⟩ := least_of rk left ne
  obtain ⟨x1, x2⟩ := (hl x).1 hx
  have xg : x ∈ good := (hg x).2 ⟨⟨x1, x2⟩, fun n hn => by
    cases Decidable.em (n ∈ fd) with
    | inl h => exact h
    | inr h =>
      have := hm n ((hl n).2 ⟨o.sub x x1 n hn, h⟩)
      have := (hrk x x1).2 n hn
      omega⟩
  have ll : left.length ≤ 12 := by rw [el]; exact Nat.le_trans (List.length_filter_le ..) (by rw [sortS_length]; exact few)
  have gl : good.length ≤ 12 := by rw [eg0]; exact Nat.le_trans (List.length_filter_le ..) ll
  obtain ⟨one, rest, eg⟩ : ∃ one rest, good = one :: rest := by
    cases q : good with
    | nil => rw [q] at xg; simp at xg
    | cons a r => exact ⟨a, r, rfl⟩
  have og := (hg one).1 (by rw [eg]; simp)
  refine ⟨one, ?_, og.1.1, og.1.2, og.2⟩
  simp [m_next_part, b_next_part, dSorted_kv (show ks.length < 64 by omega)]
  rw [lcL_map (fun x => !decide (x ∈ fd)) D.str, ← el, lc_len (by rw [List.length_map]; omega)]
  · simp
    rw [lcL_map (fun x => (f x).ns.all fun n => decide (n ∈ fd)) D.str, ← eg0, lc_len (by rw [List.length_map]; omega)]
    · rw [eg]
      simp [ixD, atI, ixN]
    · intro t ht
      have tk := ((hl t).1 ht).1
      have lc : ∀ Γ : SE, Γ = [some (.dat (plD ks f)), some (.cel .lok (.lst (fd.map D.str))), some (.dat (.lst (left.map D.str))), some (.dat (.str t)), none] → mLc (mSeq (mIx (mIxN 0 (mVar 3)) (mC (.int 2)))) (gNm 4) mYes (toD (mBin dIn (mVar 4) (mPk 1))) [4] Γ = .ok (.cel .own (.lst ((f t).ns.map fun n => D.bl (decide (n ∈ fd))))) Γ := by
        rintro _ rfl
        simp [ixD_kv tk]
        rw [lcL_all (fun n => D.bl (decide (n ∈ fd))), lc_len (by rw [List.length_map]; have := o.ns_len tk; omega)]
        intro n hn
        simp [lcL_one]
      by_cases hb : ∀ n ∈ (f t).ns, n ∈ fd
      · have q : ((f t).ns.all fun n => decide (n ∈ fd)) = true := by rw [List.all_eq_true]; simpa using hb
        simp [lcL_one, lc _ rfl, dAll_map, q, hb, -e_lc]
      · have q : ((f t).ns.all fun n => decide (n ∈ fd)) = false := by rw [← Bool.not_eq_true, List.all_eq_true]; simpa using hb
        simp [lcL_one, lc _ rfl, dAll_map, q, hb, -e_lc]
  · intro t ht
    by_cases hb : t ∈ fd
    · simp [lcL_one, hb]
    · simp [lcL_one, hb]
end
end G
end

section
set_option Elab.async false
set_option linter.all false
set_option maxRecDepth 100000
set_option maxHeartbeats 2000000
namespace G
open PySem PySem.Spec PyProof.Rows L2 DL
/-! ## sequences -/
def Topo (f : PySem.Str → Pa) : List PySem.Str → List PySem.Str → Prop
  | _, [] => True
  | seen, x :: r => (∀ n ∈ (f x).ns, n ∈ seen) ∧ Topo f (x :: seen) r
section
variable {f : PySem.Str → Pa}
theorem Topo.snoc : ∀ {l seen : List PySem.Str} {x : PySem.Str}, Topo f seen l → (∀ n ∈ (f x).ns, n ∈ seen ∨ n ∈ l) → Topo f seen (l ++ [x])
  | [], seen, x, _, h => ⟨fun n hn => (h n hn).resolve_right (by simp), trivial⟩
  | y :: l, seen, x, ⟨h1, h2⟩, h => ⟨h1, Topo.snoc h2 fun n hn => by
    rcases h n hn with q | q
    · exact .inl (List.mem_cons_of_mem _ q)
    · rcases List.mem_cons.mp q with rfl | q
      · exact .inl (List.mem_cons_self ..)
      · exact .inr q⟩
theorem Topo.at_ : ∀ {pre seen : List PySem.Str} {x : PySem.Str} {post : List PySem.Str}, Topo f seen (pre ++ x :: post) → ∀ n ∈ (f x).ns, n ∈ seen ∨ n ∈ pre
  | [], seen, x, post, ⟨h1, _⟩, n, hn => .inl (h1 n hn)
  | y :: pre, seen, x, post, ⟨_, h2⟩, n, hn => by
    rcases Topo.at_ (pre := pre) h2 n hn with q | q
    · rcases List.mem_cons.mp q with rfl | q
      · exact .inr (List.mem_cons_self ..)
      · exact .inl q
    · exact .inr (List.mem_cons_of_mem _ q)
theorem Topo.filter (p : PySem.Str → Bool) (hp : ∀ x, p x = true → ∀ n ∈ (f x).ns, p n = true) : ∀ {l seen seen' : List PySem.Str}, (∀ x ∈ seen, p x = true → x ∈ seen') → Topo f seen l → Topo f seen' (l.filter p)
  | [], _, _, _, _ => trivial
  | x :: l, seen, seen', h, ⟨h1, h2⟩ => by
    by_cases c : p x = true
    · rw [List.filter_cons_of_pos c]
      refine ⟨fun n hn => h n (h1 n hn) (hp x c n hn), Topo.filter p hp (fun y hy q => ?_) h2⟩
      rcases List.mem_cons.mp hy with rfl | hy
      · exact List.mem_cons_self ..
      · exact List.mem_cons_of_mem _ (h y hy q)
    · rw [List.filter_cons_of_neg c]
      refine Topo.filter p hp (fun y hy q => ?_) h2
      rcases List.mem_cons.mp hy with rfl | hy
      · exact absurd q c
      · exact h y hy q
end
structure SeqOf (ks : List PySem.Str) (f : PySem.Str → Pa) (sq : List PySem.Str) : Prop where
  nd : sq.Nodup
  sub : ∀ x ∈ sq, x ∈ ks
  topo : Topo f [] sq
section
variable {m : Nat} {ks : List PySem.Str} {f : PySem.Str → Pa} (o : OkP m ks f)
include o
theorem sequence_is : ∃ sq, m_sequence [some (.dat (plD ks f))] = .ok (.cel .own (.lst (sq.map D.str))) [none] ∧ SeqOf ks f sq ∧ ∀ x ∈ ks, x ∈ sq := by
  have few := o.few
  let R : List PySem.Str → SE → Prop := fun fd Γ => Γ = [some (.dat (plD ks f)), some (.cel .own (.lst (fd.map D.str)))] ∧ SeqOf ks f fd
  simp [m_sequence, b_sequence]
  generalize hr : mWhile _ _ _ _ = r
  obtain ⟨sq, Γ', e, q⟩ : ∃ a' Γ', r = .nx Γ' ∧ (R a' Γ' ∧ ¬ a'.length < ks.length) := by
    subst hr
    refine while_inv R (fun a Γ => R a Γ ∧ ¬ a.length < ks.length) (fun a => ks.length - a.length) ?_ _ [] _ ⟨rfl, List.nodup_nil, fun x h => by simp at h, trivial⟩ (by show ks.length - 0 < 1000; omega)
    rintro fd Γ ⟨rfl, h1, h2, h3⟩
    by_cases c : fd.length < ks.length
    · obtain ⟨one, e, i1, i2, i3⟩ := next_is o h1 h2 c
      refine .inr ⟨_, _, fd ++ [one], by simp [c]; rfl, by simp [e, fApp (ds := fd.map D.str) (d := .str one) (by rw [List.length_map]; omega)]; rfl, ⟨by simp, ?_, ?_, ?_⟩, by rw [List.length_append, List.length_singleton]; omega⟩
      · exact List.nodup_append.mpr ⟨h1, by simp, fun x hx y hy e => i2 (by rw [List.mem_singleton.mp hy] at e; rw [← e]; exact hx)⟩
      · intro x hx
        rcases List.mem_append.mp hx with h | h
        · exact h2 x h
        · rw [List.mem_singleton.mp h]; exact i1
      · exact h3.snoc fun n hn => .inr (i3 n hn)
    · exact .inl ⟨_, by simp [c], ⟨rfl, h1, h2, h3⟩, c⟩
  obtain ⟨⟨rfl, s⟩, hl⟩ := q
  subst e
  refine ⟨sq, by simp, s, fun x hx => ?_⟩
  cases Decidable.em (x ∈ sq) with
  | inl h => exact h
  | inr h =>
    have : (x :: sq).length ≤ ks.length := nodup_le (List.nodup_cons.mpr ⟨h, s.nd⟩) fun y hy => by
      rcases List.mem_cons.mp hy with rfl | hy
      · exact hx
      · exact s.sub y hy
    rw [List.length_cons] at this; omega
theorem sequence_in_is {part : PySem.Str} (hp : part ∈ ks) : ∃ sq, m_sequence_in [some (.dat (plD ks f)), some (.dat (.str part))] = .ok (.cel .own (.lst (sq.map D.str))) [none, none] ∧ SeqOf ks f sq ∧ part ∈ sq := by
  obtain ⟨ps, e1, t⟩ := parts_in_is o hp
  obtain ⟨sq, e2, s, al⟩ := sequence_is o
  have sl : sq.length ≤ 12 := Nat.le_trans (nodup_le s.nd s.sub) o.few
  have sl2 : (sq.filter fun x => decide (x ∈ ps)).length ≤ 12 := Nat.le_trans (List.length_filter_le ..) sl
  refine ⟨sq.filter fun x => decide (x ∈ ps), ?_, ⟨s.nd.filter _, fun x hx => s.sub x (List.mem_filter.mp hx).1, s.topo.filter _ (fun x hx n hn => ?_) (fun x hx => by simp at hx)⟩, List.mem_filter.mpr ⟨al part hp, by simpa using t.self⟩⟩
  · simp [m_sequence_in, b_sequence_in, e1, e2]
    rw [lcL_map (fun x => decide (x ∈ ps)) D.str, lc_len (by rw [List.length_map]; omega)]
    · simp
    · intro x hx
      by_cases c : x ∈ ps
      · simp [lcL_one, c]
      · simp [lcL_one, c]
  · exact decide_eq_true (t.cl x (of_decide_eq_true hx) n hn)
theorem rules_in_parts_is {ps : List PySem.Str} (h : ∀ x ∈ ps, x ∈ ks) (hl : ps.length ≤ 13) : ∃ rs : List PySem.Str, m_rules_in_parts [some (.dat (plD ks f)), some (.dat (.lst (ps.map D.str)))] = .ok (.cel .own (.lst (rs.map D.str))) [none, none] ∧ ∀ r ∈ rs, Rul r := by
  let R : List PySem.Str → SE → Prop := fun pre Γ => ∃ (rs : List PySem.Str) (j : Option D), Γ = [some (.dat (plD ks f)), some (.dat (.lst (ps.map D.str))), some (.cel .own (.lst (rs.map D.str))), jk j] ∧ rs.length ≤ pre.length ∧ ∀ r ∈ rs, Rul r
  simp [m_rules_in_parts, b_rules_in_parts]
  generalize hr : mForL _ _ _ _ = r
  obtain ⟨Γ', e, q⟩ : ∃ Γ', r = .nx Γ' ∧ R ps Γ' := by
    subst hr
    refine forL_pre R ps ⟨[], none, rfl, Nat.le_refl _, fun r h => by simp at h⟩ ?_
    rintro pre x post Γ ex ⟨rs, j, rfl, h1, h2⟩
    have hx : x ∈ ks := h x (by rw [ex]; simp)
    have pl : pre.length ≤ 13 := by rw [ex] at hl; simp at hl; omega
    by_cases c : (f x).r ∈ rs
    · exact ⟨_, _, by simp; rfl, by simp [ixD_kv hx, c]; rfl, rs, some (.str x), rfl, by rw [List.length_append]; omega, h2⟩
    · refine ⟨_, _, by simp; rfl, by simp [ixD_kv hx, c, fApp (ds := rs.map D.str) (d := .str (f x).r) (by rw [List.length_map]; omega)]; rfl, rs ++ [(f x).r], some (.str x), by simp; rfl, by simp; omega, fun r hr => ?_⟩
      rcases List.mem_append.mp hr with q | q
      · exact h2 r q
      · rw [List.mem_singleton.mp q]; exact o.rul x hx
  obtain ⟨rs, j, rfl, h1, h2⟩ := q
  subst e
  refine ⟨sortS rs, by simp [dSorted_strs (show rs.length < 64 by omega)], fun r hr => h2 r (sortS_mem.1 hr)⟩
end
def rul3 : List PySem.Str := ["a", "b", "c"]
theorem Rul.mem {r : PySem.Str} (h : Rul r) : r ∈ rul3 := by
  rcases h with rfl | rfl | rfl <;> simp [rul3]
theorem rul_of {r : PySem.Str} (h : r ∈ rul3) : Rul r := by
  simp [rul3] at h; exact h
theorem rul3_len : rul3.length = 3 := rfl
theorem rul3_nd : rul3.Nodup := by unfold rul3; decide
theorem want_rules_is {g : PySem.Str → D} {rs : List PySem.Str} (h : ∀ r ∈ rs, Rul r) : m_want_rules [some (.dat (.dic (kvF rul3 g))), some (.dat (.lst (rs.map D.str)))] = .ok (.dat .non) [none, none] := by
  let R : List PySem.Str → SE → Prop := fun pre Γ => ∃ (j : Option D), Γ = [some (.dat (.dic (kvF rul3 g))), some (.dat (.lst (rs.map D.str))), jk j]
  simp only [m_want_rules, b_want_rules, e_fn, e_for, e_seq, e_Var]
  simp
  generalize hr : mForL _ _ _ _ = r
  obtain ⟨Γ', e, q⟩ : ∃ Γ', r = .nx Γ' ∧ R rs Γ' := by
    subst hr
    refine forL_pre R rs ⟨none, rfl⟩ ?_
    rintro pre x post Γ ex ⟨j, rfl⟩
    have hx : x ∈ rul3 := (h x (by rw [ex]; simp)).mem
    exact ⟨_, _, by simp; rfl, by simp [hx]; rfl, some (.str x), rfl⟩
  obtain ⟨j, rfl⟩ := q
  subst e
  simp
end G
end

section
set_option Elab.async false
set_option linter.all false
set_option maxRecDepth 100000
set_option maxHeartbeats 2000000
namespace G
open PySem PySem.Spec PyProof.Rows L2 DL
/-! ## tables -/
abbrev dsD (days : List Int) : D := .lst (days.map D.int)
abbrev tabD (days : List Int) : D := .obj 16 [("own_days", dsD days), ("own_length", .int days.length)]
theorem putFS_ok {c : Nat} {f : PySem.Str} {d : D} {fs : List (PySem.Str × D)} (h : fs.length < 1000) : putFS c f d (some (.cel .brw (.obj c fs))) = some (.cel .brw (.obj c (putFD f d fs))) := by
  simp [putFS, h]
structure OkT (days : List Int) : Prop where
  ne : days ≠ []
  few : days.length ≤ 600
  srt : ∀ (i : Nat) (h : i + 1 < days.length), days[i] ≤ days[i + 1]
  last : ∀ (h : days ≠ []), days.getLast h ≤ days[0]'(List.length_pos_iff.mpr h) + days.length
  bnd : ∀ v ∈ days, -100 ≤ v ∧ v ≤ 100
theorem ix_nat {ds : List D} {i : Nat} (h : i < ds.length) : ixD (.lst ds) (.int (i : Int)) = some ds[i] := by
  rw [ixD_lst (by omega) (by omega)]
  simp
theorem ix_last {ds : List D} (h : ds ≠ []) : ixD (.lst ds) (.int (-1)) = some (ds.getLast h) := by
  have := List.length_pos_iff.mpr h
  show atI ds (-1) = _
  unfold atI ixN
  rw [if_neg (by decide), if_pos (by omega)]
  show ds[_]? = _
  rw [List.getLast_eq_getElem, List.getElem?_eq_getElem (by omega)]
  congr 1
  congr 1
  omega
section
variable {days : List Int} (o : OkT days)
include o
theorem is_table_is : m_is_table [some (.dat (dsD days))] = .ok (.dat (.bl true)) [none] := by
  have pos := List.length_pos_iff.mpr o.ne
  have few := o.few
  have l1 : (1 : Int) ≤ (days.length : Int) := by omega
  have l2 : (days.length : Int) ≤ 600 := by omega
  have il : m_is_list [some (.dat (dsD days))] = .ok (.dat (.bl true)) [none] := rfl
  have ne : (days.map D.int) ≠ [] := by simp [o.ne]
  have tn : ((days.length : Int) - 1).toNat = days.length - 1 := by omega
  simp [m_is_table, b_is_table, il, l1, l2]
  rw [lcL_all (fun _ => D.bl true), lc_len (by rw [List.length_map]; omega)]
  · simp
    rw [rng1_ok (by omega), tn]
    simp
    rw [lcL_all (fun _ => D.bl true), lc_len (by rw [List.length_map, List.length_range]; omega)]
    · simp [ix_last ne]
      rw [show (D.int 0 : D) = .int ((0 : Nat) : Int) from rfl, ix_nat (by rw [List.length_map]; omega)]
      simp
      exact o.last o.ne
    · intro i hi
      have hi := List.mem_range.mp hi
      have h1 : ixD (dsD days) (.int (i : Int)) = some (.int days[i]) := by rw [ix_nat (by rw [List.length_map]; omega)]; simp
      have h2 : ixD (dsD days) (.int ((i : Int) + 1)) = some (.int days[i + 1]) := by
        rw [show ((i : Int) + 1) = ((i + 1 : Nat) : Int) by omega, ix_nat (by rw [List.length_map]; omega)]; simp
      have h3 := o.srt i (by omega)
      simp [lcL_one, h1, h2, h3]
  · intro x hx
    simp [lcL_one, is_day_is]
theorem make_is {Γ : SE} : makeK 16 2 m_Table_ddinitdd (.ok [dsD days] Γ) = .ok (.cel .own (tabD days)) Γ := by
  have e : m_Table_ddinitdd [some (.cel .brw (.obj 16 [])), some (.dat (dsD days))] = .ok (.dat .non) [some (.cel .brw (tabD days)), none] := by
    have f0 : putFS 16 "own_days" (dsD days) (some (.cel .brw (.obj 16 []))) = some (.cel .brw (.obj 16 [("own_days", dsD days)])) := putFS_ok (by simp)
    have f1 : fldD 16 "own_days" (.obj 16 [("own_days", dsD days)]) = some (dsD days) := by
      show List.lookup _ _ = _
      simp [List.lookup]
    have f2 : putFS 16 "own_length" (.int days.length) (some (.cel .brw (.obj 16 [("own_days", dsD days)]))) = some (.cel .brw (tabD days)) := by
      rw [putFS_ok (by simp)]
      have : ¬ ("own_days" : PySem.Str) = "own_length" := by decide
      simp [putFD, this]
    simp [m_Table_ddinitdd, b_Table_ddinitdd, is_table_is o, f0, f1, f2]
  simp [e]
def onT (days : List Int) (x : Int) : Int := days.getD (x % days.length).toNat 0 + x / days.length * days.length
theorem on_ix (x : Int) : ixD (dsD days) (.int (x - x / days.length * days.length)) = some (.int (days.getD (x % days.length).toNat 0)) := by
  have pos := List.length_pos_iff.mpr o.ne
  have h1 : x - x / days.length * days.length = x % days.length := by rw [Int.emod_def, Int.mul_comm]
  have h2 : 0 ≤ x % (days.length : Int) := Int.emod_nonneg _ (by omega)
  have h3 : x % (days.length : Int) < days.length := Int.emod_lt_of_pos _ (by omega)
  have h4 : (x % (days.length : Int)).toNat < days.length := by omega
  obtain ⟨i, hi, ei⟩ : ∃ i : Nat, i < days.length ∧ x % (days.length : Int) = (i : Int) := ⟨_, h4, by omega⟩
  rw [h1, ei, ix_nat (by rw [List.length_map]; omega)]
  simp [hi]
theorem l_on_is (x : Int) : m_l_on [some (.dat (dsD days)), some (.dat (.int x))] = .ok (.dat (.int (onT days x))) [none, none] := by
  have pos := List.length_pos_iff.mpr o.ne
  have few := o.few
  have cd : CDiv x days.length := ⟨by omega, by omega⟩
  have cm : CMul (x / days.length) days.length := .inr ⟨by omega, by omega⟩
  simp [m_l_on, b_l_on, dDiv_int cd, dMul_int cm, on_ix o, onT]
end
end G
end

section
set_option Elab.async false
set_option linter.all false
set_option maxRecDepth 100000
set_option maxHeartbeats 2000000
namespace G
open PySem PySem.Spec PyProof.Rows L2 DL
@[simp] theorem jk_s {d : D} : jk (some d) = some (.dat d) := rfl
@[simp] theorem jk_n : jk none = none := rfl
section
variable {days : List Int}
@[simp] theorem fld_days : fldD 16 "own_days" (tabD days) = some (dsD days) := by
  show List.lookup _ _ = _
  simp [List.lookup]
@[simp] theorem fld_len : fldD 16 "own_length" (tabD days) = some (.int days.length) := by
  show List.lookup _ _ = _
  have : ("own_length" == ("own_days" : PySem.Str)) = false := by decide
  simp [List.lookup, this]
theorem no_served : noFld 16 "served" (tabD days) = true := by
  have h1 : ("served" == ("own_days" : PySem.Str)) = false := by decide
  have h2 : ("served" == ("own_length" : PySem.Str)) = false := by decide
  simp [noFld, List.lookup, h1, h2]
theorem no_on : noFld 16 "on" (tabD days) = true := by
  have h1 : ("on" == ("own_days" : PySem.Str)) = false := by decide
  have h2 : ("on" == ("own_length" : PySem.Str)) = false := by decide
  simp [noFld, List.lookup, h1, h2]
variable (o : OkT days)
include o
theorem served_is (x : Int) : m_Table_served [some (.dat (tabD days)), some (.dat (.int x))] = .ok (.dat (.int (onT days x))) [none, none] := by
  have pos := List.length_pos_iff.mpr o.ne
  have few := o.few
  have cd : CDiv x days.length := ⟨by omega, by omega⟩
  have cm : CMul (x / days.length) days.length := .inr ⟨by omega, by omega⟩
  have fl : m_floor_part [some (.dat (.int x)), some (.dat (.int days.length))] = .ok (.dat (.int (x / days.length * days.length))) [none, none] := by
    simp [m_floor_part, b_floor_part, dDiv_int cd, dMul_int cm]
  simp [m_Table_served, b_Table_served, fl, on_ix o, onT]
theorem on_is (x : Int) : m_Table_on [some (.dat (tabD days)), some (.dat (.int x))] = .ok (.dat (.int (onT days x))) [none, none] := by
  simp [m_Table_on, b_Table_on, want_day_is, methK_ok no_served, served_is o]
end
/-! ## worlds -/
def OkW (tb : PySem.Str → List Int) : Prop := ∀ r, Rul r → OkT (tb r)
abbrev wdD (tb : PySem.Str → List Int) : D := .dic (kvF rul3 fun r => tabD (tb r))
abbrev rlD (tb : PySem.Str → List Int) : D := .dic (kvF rul3 fun r => dsD (tb r))
theorem is_world_is {tb : PySem.Str → List Int} : m_is_world [some (.dat (wdD tb))] = .ok (.dat (.bl true)) [none] := by
  simp [m_is_world, b_is_world, tyD, kitB]
  rw [lcL_all (fun _ => D.bl true), lc_len (by rw [List.length_map, rul3_len]; decide)]
  · simp
  · intro r hr
    have h1 := is_rule_is (rul_of hr)
    simp [lcL_one, h1, ixD_kv hr, dIsO]
theorem want_world_is {tb : PySem.Str → List Int} : m_want_world [some (.dat (wdD tb))] = .ok (.dat .non) [none] := by
  simp [m_want_world, b_want_world, is_world_is]
/-! ## ready days -/
def rdy (tb : PySem.Str → List Int) (f : PySem.Str → Pa) (day : Int) : Nat → PySem.Str → Int
  | 0, _ => day
  | n + 1, k => onT (tb (f k).r) (if (f k).ns = [] then day else maxL ((f k).ns.map (rdy tb f day n))) + (f k).c
def RD (tb : PySem.Str → List Int) (f : PySem.Str → Pa) (day : Int) : PySem.Str → Int := rdy tb f day 12
section
variable {m : Nat} {ks : List PySem.Str} {f : PySem.Str → Pa} {tb : PySem.Str → List Int} {day : Int} (o : OkP m ks f)
include o
theorem rdy_same (rk : PySem.Str → Nat) (hrk : ∀ k ∈ ks, rk k < m ∧ ∀ n ∈ (f k).ns, rk n < rk k) : ∀ (n n' : Nat) (k : PySem.Str), k ∈ ks → rk k < n → rk k < n' → rdy tb f day n k = rdy tb f day n' k
  | 0, _, _, _, h, _ => absurd h (Nat.not_lt_zero _)
  | _ + 1, 0, _, _, _, h => absurd h (Nat.not_lt_zero _)
  | n + 1, n' + 1, k, hk, h, h' => by
    unfold rdy
    have e : (f k).ns.map (rdy tb f day n) = (f k).ns.map (rdy tb f day n') := List.map_congr_left fun x hx => by
      have := (hrk k hk).2 x hx
      exact rdy_same rk hrk n n' x (o.sub k hk x hx) (by omega) (by omega)
    rw [e]
theorem RD_eq (hm : m ≤ 12) {k : PySem.Str} (hk : k ∈ ks) : RD tb f day k = onT (tb (f k).r) (if (f k).ns = [] then day else maxL ((f k).ns.map (RD tb f day))) + (f k).c := by
  obtain ⟨rk, hrk⟩ := o.rk
  have e : (f k).ns.map (rdy tb f day 11) = (f k).ns.map (RD tb f day) := List.map_congr_left fun x hx => by
    have h1 := (hrk k hk).2 x hx
    have h2 := (hrk k hk).1
    exact rdy_same o rk hrk 11 12 x (o.sub k hk x hx) (by omega) (by omega)
  show rdy tb f day 12 k = _
  rw [show rdy tb f day 12 k = onT (tb (f k).r) (if (f k).ns = [] then day else maxL ((f k).ns.map (rdy tb f day 11))) + (f k).c from rfl, e]
theorem ready_days_is (hm : m ≤ 12) (w : OkW tb) {sq : List PySem.Str} (s : SeqOf ks f sq) : m_ready_days [some (.dat (plD ks f)), some (.dat (.lst (sq.map D.str))), some (.dat (.int day)), some (.dat (wdD tb))] =
    .ok (.cel .own (.dic (kvF sq fun k => .int (RD tb f day k)))) [none, none, none, none] := by
  have sl : sq.length ≤ 12 := Nat.le_trans (nodup_le s.nd s.sub) o.few
  let R : List PySem.Str → SE → Prop := fun pre Γ => ∃ j5 j6 j7 j8 j9 : Option D, Γ = [some (.dat (plD ks f)), some (.dat (.lst (sq.map D.str))), some (.dat (.int day)), some (.dat (wdD tb)), some (.cel .own (.dic (kvF pre fun k => .int (RD tb f day k)))), jk j5, jk j6, jk j7, jk j8, jk j9, none]
  simp [m_ready_days, b_ready_days]
  generalize hr : mForL _ _ _ _ = r
  obtain ⟨Γ', e, q⟩ : ∃ Γ', r = .nx Γ' ∧ R sq Γ' := by
    subst hr
    refine forL_pre R sq ⟨none, none, none, none, none, rfl⟩ ?_
    rintro pre x post Γ ex ⟨j5, j6, j7, j8, j9, rfl⟩
    have hx : x ∈ ks := s.sub x (by rw [ex]; simp)
    have np : x ∉ pre := fun h => by
      have := s.nd
      rw [ex] at this
      exact (List.nodup_append.mp this).2.2 x h x (List.mem_cons_self ..) rfl
    have pl : pre.length ≤ 12 := by rw [ex] at sl; simp at sl; omega
    have tp := s.topo
    rw [ex] at tp
    have tn : ∀ n ∈ (f x).ns, n ∈ pre := fun n hn => (tp.at_ n hn).resolve_left (by simp)
    have hR := RD_eq (tb := tb) (day := day) o hm hx
    have ru := (o.rul x hx)
    have onn := fun y => on_is (w _ ru) y
    have mem := ru.mem
    refine ⟨_, [some (.dat (plD ks f)), some (.dat (.lst (sq.map D.str))), some (.dat (.int day)), some (.dat (wdD tb)), some (.cel .own (.dic (kvF (pre ++ [x]) fun k => .int (RD tb f day k)))), jk (some (.str x)), jk (some (.str (f x).r)), jk (some (.int (f x).c)), jk (some (nd (f x).b (f x).ns)), jk (some (.int (if (f x).ns = [] then day else maxL ((f x).ns.map (RD tb f day))))), none], by simp; rfl, ?_, ⟨_, _, _, _, _, rfl⟩⟩
    by_cases c : (f x).ns = []
    · rw [if_pos c] at hR
      have st := setSv_new (g := fun k => .int (RD tb f day k)) np (by omega) (d := .int (onT (tb (f x).r) day + (f x).c)) (by rw [hR])
      simp [ixD_kv hx, ixD_kv mem, c, methK_ok no_on, onn, st]
    · rw [if_neg c] at hR
      have st := setSv_new (g := fun k => .int (RD tb f day k)) np (by omega) (d := .int (onT (tb (f x).r) (maxL ((f x).ns.map (RD tb f day))) + (f x).c)) (by rw [hR])
      have nl := o.ns_len hx
      have ce : (f x).ns.isEmpty = false := by simpa using c
      simp [ixD_kv hx, ixD_kv mem, c, ce]
      rw [lcL_all (fun n => D.int (RD tb f day n)), lc_len (by rw [List.length_map]; omega)]
      · have mx : dMax1 (.lst ((f x).ns.map fun n => D.int (RD tb f day n))) = some (.dat (.int (maxL ((f x).ns.map (RD tb f day))))) := by
          rw [show ((f x).ns.map fun n => D.int (RD tb f day n)) = ((f x).ns.map (RD tb f day)).map D.int by rw [List.map_map]; rfl]
          exact dMax_ints (by simpa using c)
        simp [mx, ixD_kv mem, methK_ok no_on, onn, st]
      · intro n hn
        simp [lcL_one, ixD_kv (tn n hn)]
  obtain ⟨j5, j6, j7, j8, j9, rfl⟩ := q
  subst e
  simp
end
end G
end

section
set_option Elab.async false
set_option linter.all false
set_option maxRecDepth 100000
set_option maxHeartbeats 2000000
namespace G
open PySem PySem.Spec PyProof.Rows L2 DL
theorem onT_near {days : List Int} (o : OkT days) (x : Int) : x - 700 ≤ onT days x ∧ onT days x ≤ x + 700 := by
  have pos := List.length_pos_iff.mpr o.ne
  have few := o.few
  have h2 : 0 ≤ x % (days.length : Int) := Int.emod_nonneg _ (by omega)
  have h3 : x % (days.length : Int) < days.length := Int.emod_lt_of_pos _ (by omega)
  have h4 : (x % (days.length : Int)).toNat < days.length := by omega
  have h1 : x / days.length * days.length = x - x % days.length := by rw [Int.emod_def, Int.mul_comm]; omega
  have hb := o.bnd (days[(x % (days.length : Int)).toNat]) (List.getElem_mem h4)
  unfold onT
  rw [h1, List.getD_eq_getElem?_getD, List.getElem?_eq_getElem h4, Option.getD_some]
  omega
section
variable {m : Nat} {ks : List PySem.Str} {f : PySem.Str → Pa} {tb : PySem.Str → List Int} {day : Int} (o : OkP m ks f)
include o
theorem rdy_near (w : OkW tb) (b : Int) (hb : 0 ≤ b) (h1 : -b ≤ day) (h2 : day ≤ b) : ∀ (n : Nat) (k : PySem.Str), k ∈ ks → -(b + 2000 * n) ≤ rdy tb f day n k ∧ rdy tb f day n k ≤ b + 2000 * n
  | 0, k, _ => by
    show -(b + 2000 * ((0 : Nat) : Int)) ≤ day ∧ day ≤ b + 2000 * ((0 : Nat) : Int)
    omega
  | n + 1, k, hk => by
    have near := onT_near (w _ (o.rul k hk)) (if (f k).ns = [] then day else maxL ((f k).ns.map (rdy tb f day n)))
    have cn := o.cnt k hk
    have ask : -(b + 2000 * (n : Int)) ≤ (if (f k).ns = [] then day else maxL ((f k).ns.map (rdy tb f day n))) ∧ (if (f k).ns = [] then day else maxL ((f k).ns.map (rdy tb f day n))) ≤ b + 2000 * (n : Int) := by
      split
      · omega
      · next c =>
        have mm := (maxL_mem (l := (f k).ns.map (rdy tb f day n)) (by simpa using c)).1
        obtain ⟨x, hx, e⟩ := List.mem_map.mp mm
        rw [← e]
        exact rdy_near w b hb h1 h2 n x (o.sub k hk x hx)
    show -(b + 2000 * ((n + 1 : Nat) : Int)) ≤ onT _ _ + (f k).c ∧ onT _ _ + (f k).c ≤ b + 2000 * ((n + 1 : Nat) : Int)
    omega
theorem RD_small (w : OkW tb) (h1 : -1000000 ≤ day) (h2 : day ≤ 1000000) {k : PySem.Str} (hk : k ∈ ks) : (RD tb f day k).natAbs < 2 ^ 64 := by
  have := rdy_near o (tb := tb) (day := day) w 1000000 (by decide) (by omega) h2 12 k hk
  show (rdy tb f day 12 k).natAbs < 2 ^ 64
  omega
theorem all_ready_is (hm : m ≤ 12) (w : OkW tb) : m_all_ready [some (.dat (plD ks f)), some (.dat (.int day)), some (.dat (wdD tb))] = .ok (.cel .own (.dic (kvF (sortS ks) fun k => .int (RD tb f day k)))) [none, none, none] := by
  have few := o.few
  obtain ⟨sq, e1, s, al⟩ := sequence_is o
  obtain ⟨rs, e2, hr⟩ := rules_in_parts_is o (ps := sortS ks) (fun x hx => sortS_mem.1 hx) (by rw [sortS_length]; omega)
  have sl : sq.length ≤ 12 := Nat.le_trans (nodup_le s.nd s.sub) o.few
  have pm : sortS sq = sortS ks := sort_perm ((List.perm_ext_iff_of_nodup s.nd o.nd).mpr fun a => ⟨s.sub a, al a⟩)
  simp [m_all_ready, b_all_ready, want_plan_is o, want_day_is, want_world_is, dSorted_kv (show ks.length < 64 by omega), e2, want_rules_is hr, e1, ready_days_is o hm w s, dSorted_kv (show sq.length < 64 by omega), pm]
  rw [lcL_all (fun k => .tup [.str k, .int (RD tb f day k)]), lc_len (by rw [List.length_map, sortS_length]; omega)]
  · simp [dDict_pairs (g := fun k => .int (RD tb f day k)) (sortS_nodup.2 o.nd)]
  · intro k hk
    have : k ∈ sq := al k (sortS_mem.1 hk)
    simp [lcL_one, ixD_kv this]
theorem ready_is (hm : m ≤ 12) (w : OkW tb) {part : PySem.Str} (hp : part ∈ ks) : m_ready [some (.dat (plD ks f)), some (.dat (.str part)), some (.dat (.int day)), some (.dat (wdD tb))] = .ok (.dat (.int (RD tb f day part))) [none, none, none, none] := by
  obtain ⟨ps, e1, t⟩ := parts_in_is o hp
  obtain ⟨rs, e2, hr⟩ := rules_in_parts_is o (ps := ps) t.sub t.len
  obtain ⟨sq, e3, s, ms⟩ := sequence_in_is o hp
  have wb : m_want_begun [some (.dat (plD ks f)), some (.dat (.str part)), some (.dat (.int day)), some (.dat (wdD tb))] = .ok (.dat .non) [none, none, none, none] := by
    simp [m_want_begun, b_want_begun, want_plan_is o, want_part_is (o.prt part hp), want_day_is, want_world_is, want_there_is hp, e1, e2, want_rules_is hr]
  simp [m_ready, b_ready, wb, e3, ready_days_is o hm w s, ixD_kv ms]
theorem l_ready_is (hb : ∀ k ∈ ks, (f k).b = true) (w : OkW tb) (rk : PySem.Str → Nat) (hrk : ∀ k ∈ ks, rk k < m ∧ ∀ n ∈ (f k).ns, rk n < rk k) : ∀ (n : Nat) (k : PySem.Str), k ∈ ks → rk k < n →
    m_l_ready n [some (.dat (plD ks f)), some (.dat (rlD tb)), some (.dat (.str k)), some (.dat (.int day))] = .ok (.dat (.int (rdy tb f day n k))) [none, none, none, none]
  | 0, _, _, h => absurd h (Nat.not_lt_zero _)
  | n + 1, k, hk, h => by
    have ru := o.rul k hk
    have on := fun y => l_on_is (w _ ru) y
    have mem := ru.mem
    have asc : ∀ x ∈ (f k).ns, Asc x := fun x hx => (o.prt x (o.sub k hk x hx)).asc
    have nl := o.ns_len hk
    have ne : dEqv (G.nd (f k).b (f k).ns) (.lst []) = some (f k).ns.isEmpty := by
      rw [hb k hk]; exact dEqv_nil asc
    show mFn 9 (b_l_ready (m_l_ready n)) _ = _
    unfold rdy
    by_cases c : (f k).ns = []
    · simp [b_l_ready, ixD_kv hk, ne, c, ixD_kv mem, on]
      simp [c] at ne
      simp [c, ne, ixD_kv mem, on]
    · have ce : (f k).ns.isEmpty = false := by simpa using c
      simp [b_l_ready, ixD_kv hk, ne, ce, c]
      rw [lcL_all (fun x => D.int (rdy tb f day n x)), lc_len (by rw [List.length_map]; omega)]
      · have mx : dMax1 (.lst ((f k).ns.map fun x => D.int (rdy tb f day n x))) = some (.dat (.int (maxL ((f k).ns.map (rdy tb f day n))))) := by
          rw [show ((f k).ns.map fun x => D.int (rdy tb f day n x)) = ((f k).ns.map (rdy tb f day n)).map D.int by rw [List.map_map]; rfl]
          exact dMax_ints (by simpa using c)
        simp [mx, ixD_kv mem, on]
      · intro x hx
        have h1 := (hrk k hk).2 x hx
        have ih := l_ready_is hb w rk hrk n x (o.sub k hk x hx) (by omega)
        simp [lcL_one, ih]
theorem same_ready_is (hm : m ≤ 12) (hb : ∀ k ∈ ks, (f k).b = true) (w : OkW tb) (h1 : -1000000 ≤ day) (h2 : day ≤ 1000000) : m_l_same_ready [some (.dat (plD ks f)), some (.dat (rlD tb)), some (.dat (.int day))] = .ok (.dat (.bl true)) [none, none, none] := by
  obtain ⟨rk, hrk⟩ := o.rk
  have few := o.few
  have lr : ∀ k ∈ ks, m_l_ready 12 [some (.dat (plD ks f)), some (.dat (rlD tb)), some (.dat (.str k)), some (.dat (.int day))] = .ok (.dat (.int (RD tb f day k))) [none, none, none, none] := fun k hk => l_ready_is o hb w rk hrk 12 k hk (by have := (hrk k hk).1; omega)
  obtain ⟨z, ez⟩ : ∃ z, dRepr (.dic (kvF (sortS ks) fun k => .int (RD tb f day k))) = some (.dat (.str z)) :=
    (Sh.dic (l := 12) (n := 0) (w := 1921) (ks := sortS ks) (g := fun k => .int (RD tb f day k)) (fun k hk => ⟨(o.prt k (sortS_mem.1 hk)).asc, (o.prt k (sortS_mem.1 hk)).hi⟩) fun k hk => .int (log_small (RD_small o w h1 h2 (sortS_mem.1 hk)))).repr (by omega) (by rw [sortS_length]; have : ks.length * (10 * 12 + 1921 + 6) ≤ 12 * (10 * 12 + 1921 + 6) := Nat.mul_le_mul_right _ few; omega) (.inr (.inr ⟨_, rfl⟩))
  simp [m_l_same_ready, b_l_same_ready]
  rw [lcL_all (fun r => .tup [.str r, tabD (tb r)]), lc_len (by rw [List.length_map, rul3_len]; decide)]
  · simp [dDict_pairs (g := fun r => tabD (tb r)) rul3_nd, all_ready_is o hm w, ez, dSorted_kv (show ks.length < 64 by omega)]
    rw [lcL_all (fun k => .tup [.str k, .int (RD tb f day k)]), lc_len (by rw [List.length_map, sortS_length]; omega)]
    · simp [dDict_pairs (g := fun k => .int (RD tb f day k)) (sortS_nodup.2 o.nd), ez]
    · intro k hk
      simp [lcL_one, lr k (sortS_mem.1 hk)]
  · intro r hr
    simp [lcL_one, ixD_kv hr, make_is (w r (rul_of hr))]
end
end G
end

section
set_option Elab.async false
set_option linter.all false
set_option maxRecDepth 100000
set_option maxHeartbeats 2000000
namespace G
open PySem PySem.Spec PyProof.Rows L2 DL
/-! ## parts left out -/
/-- what stands for the part's needs when another one is left out -/
def nsW (f : PySem.Str → Pa) (other k : PySem.Str) : List PySem.Str :=
  sortS (dedS (((f k).ns ++ if other ∈ (f k).ns then (f other).ns else []).filter fun n => !decide (n = other)))
def fW (f : PySem.Str → Pa) (other k : PySem.Str) : Pa := ⟨(f k).r, (f k).c, true, nsW f other k⟩
def ksW (ks : List PySem.Str) (other : PySem.Str) : List PySem.Str := (sortS ks).filter fun k => !decide (k = other)
theorem nsW_mem {f : PySem.Str → Pa} {other k x : PySem.Str} : x ∈ nsW f other k ↔ x ≠ other ∧ (x ∈ (f k).ns ∨ other ∈ (f k).ns ∧ x ∈ (f other).ns) := by
  unfold nsW
  rw [sortS_mem, dedS_mem, List.mem_filter, List.mem_append]
  by_cases c : other ∈ (f k).ns
  · simp [c, And.comm]
  · simp [c, And.comm]
theorem nsW_rise {f : PySem.Str → Pa} {other k : PySem.Str} : Rise (nsW f other k) := sortS_rise (dedS_nodup _)
theorem nsW_eq {f : PySem.Str → Pa} {other k : PySem.Str} {l : List PySem.Str} (h : Rise l) (e : ∀ x, x ∈ l ↔ x ≠ other ∧ (x ∈ (f k).ns ∨ other ∈ (f k).ns ∧ x ∈ (f other).ns)) : l = nsW f other k :=
  rise_eq h nsW_rise fun x => by rw [e x, nsW_mem]
section
variable {m : Nat} {ks : List PySem.Str} {f : PySem.Str → Pa} (o : OkP m ks f)
include o
theorem needs_without_is {k other : PySem.Str} (hk : k ∈ ks) (ho : other ∈ ks) (hne : k ≠ other) : m_needs_without [some (.dat (plD ks f)), some (.dat (nd (f k).b (f k).ns)), some (.dat (.str other))] = .ok (.cel .own (.lst ((nsW f other k).map D.str))) [none, none, none] := by
  have l1 := o.ns_len hk
  have l2 := o.ns_len ho
  by_cases c : other ∈ (f k).ns
  · let R : List PySem.Str → SE → Prop := fun pre Γ => ∃ (fd : List PySem.Str) (j : Option D), Γ = [some (.dat (plD ks f)), some (.dat (nd (f k).b (f k).ns)), some (.dat (.str other)), some (.cel .own (.lst (fd.map D.str))), jk j] ∧
      fd.Nodup ∧ fd.length ≤ 12 + pre.length ∧ ∀ x, x ∈ fd ↔ x ≠ other ∧ x ∈ (f k).ns ∨ x ∈ pre
    simp [m_needs_without, b_needs_without, c]
    rw [lcL_map (fun n => !decide (n = other)) D.str, lc_len (by rw [List.length_map]; exact Nat.le_trans (List.length_filter_le ..) (by omega))]
    · simp [ixD_kv ho]
      generalize hr : mForL _ _ _ _ = r
      obtain ⟨Γ', e, q⟩ : ∃ Γ', r = .nx Γ' ∧ R (f other).ns Γ' := by
        subst hr
        refine forL_pre R (f other).ns ⟨(f k).ns.filter fun n => !decide (n = other), none, by simp, (o.rise k hk).nodup.filter _, by show _ ≤ 12 + 0; exact Nat.le_trans (List.length_filter_le ..) (by omega), fun x => by simp [And.comm]⟩ ?_
        rintro pre x post Γ ex ⟨fd, j, rfl, h1, h2, h3⟩
        have pl : pre.length ≤ 12 := by rw [ex] at l2; simp at l2; omega
        by_cases cx : x ∈ fd
        · refine ⟨_, _, by simp; rfl, by simp [cx], fd, some (.str x), rfl, h1, by simp; omega, fun y => ?_⟩
          rw [h3 y, List.mem_append, List.mem_singleton]
          constructor
          · rintro (h | h)
            · exact .inl h
            · exact .inr (.inl h)
          · rintro (h | h | rfl)
            · exact .inl h
            · exact .inr h
            · exact (h3 y).1 cx
        · refine ⟨_, _, by simp; rfl, by simp [cx, fApp (ds := fd.map D.str) (d := .str x) (by rw [List.length_map]; omega)]; rfl, fd ++ [x], some (.str x), by simp, ?_, by simp; omega, fun y => ?_⟩
          · exact List.nodup_append.mpr ⟨h1, by simp, fun a ha b hb e => cx (by rw [List.mem_singleton.mp hb] at e; rw [← e]; exact ha)⟩
          · rw [List.mem_append, List.mem_append, List.mem_singleton, h3 y]
            exact or_assoc
      obtain ⟨fd, j, rfl, h1, h2, h3⟩ := q
      subst e
      have fl : fd.length < 64 := by omega
      have es : sortS fd = nsW f other k := nsW_eq (sortS_rise h1) fun x => by
        rw [sortS_mem, h3 x]
        have no : other ∉ (f other).ns := fun q => by
          obtain ⟨rk, hrk⟩ := o.rk
          have := (hrk other ho).2 other q
          omega
        constructor
        · rintro (⟨h, h'⟩ | h)
          · exact ⟨h, .inl h'⟩
          · exact ⟨fun e => no (e ▸ h), .inr ⟨c, h⟩⟩
        · rintro ⟨h, h' | ⟨_, h'⟩⟩
          · exact .inl ⟨h, h'⟩
          · exact .inr h'
      simp [dSorted_strs fl, es]
    · intro n hn
      by_cases e : n = other
      · simp [lcL_one, e]
      · have eb : (n == other) = false := by simpa using e
        simp [lcL_one, e, eb]
  · have es : (f k).ns = nsW f other k := nsW_eq (o.rise k hk) fun x => by
      constructor
      · intro h
        exact ⟨fun e => c (e ▸ h), .inl h⟩
      · rintro ⟨h, h' | ⟨h', _⟩⟩
        · exact h'
        · exact absurd h' c
    rw [← es]
    simp [m_needs_without, b_needs_without, c]
theorem ksW_nd {other : PySem.Str} : (ksW ks other).Nodup := (sortS_nodup.2 o.nd).filter _
omit o in
theorem ksW_mem {other k : PySem.Str} : k ∈ ksW ks other ↔ k ∈ ks ∧ k ≠ other := by
  unfold ksW
  rw [List.mem_filter, sortS_mem]; simp
omit o in
theorem pre_out {other x : PySem.Str} {pre post l : List PySem.Str} (n : l.Nodup) (e : l = pre ++ x :: post) : x ∉ pre.filter fun k => !decide (k = other) := fun h => by
  rw [e] at n
  exact (List.nodup_append.mp n).2.2 x (List.mem_filter.mp h).1 x (List.mem_cons_self ..) rfl
theorem left_out_is {other : PySem.Str} (ho : other ∈ ks) : m_left_out [some (.dat (plD ks f)), some (.dat (.str other))] = .ok (.cel .own (plD (ksW ks other) (fW f other))) [none, none] := by
  have few := o.few
  let R : List PySem.Str → SE → Prop := fun pre Γ => ∃ j3 j4 j5 j6 : Option D, Γ = [some (.dat (plD ks f)), some (.dat (.str other)), some (.cel .own (plD (pre.filter fun k => !decide (k = other)) (fW f other))), jk j3, jk j4, jk j5, jk j6]
  simp [m_left_out, b_left_out, dSorted_kv (show ks.length < 64 by omega)]
  generalize hr : mForL _ _ _ _ = r
  obtain ⟨Γ', e, q⟩ : ∃ Γ', r = .nx Γ' ∧ R (sortS ks) Γ' := by
    subst hr
    refine forL_pre R (sortS ks) ⟨none, none, none, none, rfl⟩ ?_
    rintro pre x post Γ ex ⟨j3, j4, j5, j6, rfl⟩
    have hx : x ∈ ks := sortS_mem.1 (by rw [ex]; simp)
    have np := pre_out (other := other) (sortS_nodup.2 o.nd) ex
    have pl : pre.length ≤ 12 := by
      have := sortS_length ks
      rw [ex] at this
      simp at this; omega
    by_cases c : x = other
    · subst c
      refine ⟨_, _, by simp; rfl, by simp; rfl, some (.str x), j4, j5, j6, ?_⟩
      rw [List.filter_append]
      simp
    · have eb : (x == other) = false := by simpa using c
      have nw := needs_without_is o hx ho c
      have st := setSv_new (g := fun k => paD (fW f other k)) np (Nat.le_trans (List.length_filter_le ..) (by omega)) (d := .tup [.str (f x).r, .int (f x).c, .lst ((nsW f other x).map D.str)]) rfl
      have fa : (pre ++ [x]).filter (fun k => !decide (k = other)) = (pre.filter fun k => !decide (k = other)) ++ [x] := by
        rw [List.filter_append, List.filter_cons_of_pos (by simpa using c)]; rfl
      refine ⟨_, [some (.dat (plD ks f)), some (.dat (.str other)), some (.cel .own (plD ((pre ++ [x]).filter fun k => !decide (k = other)) (fW f other))), jk (some (.str x)), jk (some (.str (f x).r)), jk (some (.int (f x).c)), jk (some (G.nd (f x).b (f x).ns))], by simp; rfl, ?_, _, _, _, _, rfl⟩
      rw [fa]
      simp [ixD_kv hx, eb, nw, st]
  obtain ⟨j3, j4, j5, j6, rfl⟩ := q
  subst e
  simp [ksW]
theorem l_without_is {other : PySem.Str} (ho : other ∈ ks) : m_l_without [some (.dat (plD ks f)), some (.dat (.str other))] = .ok (.cel .own (plD (ksW ks other) (fW f other))) [none, none] := by
  have few := o.few
  let R : List PySem.Str → SE → Prop := fun pre Γ => ∃ (j3 j4 j5 j6 : Option D) (j7 : Option Sv), Γ = [some (.dat (plD ks f)), some (.dat (.str other)), some (.cel .own (plD (pre.filter fun k => !decide (k = other)) (fW f other))), jk j3, jk j4, jk j5, jk j6, jw j7, none]
  simp [m_l_without, b_l_without, dSorted_kv (show ks.length < 64 by omega)]
  generalize hr : mForL _ _ _ _ = r
  obtain ⟨Γ', e, q⟩ : ∃ Γ', r = .nx Γ' ∧ R (sortS ks) Γ' := by
    subst hr
    refine forL_pre R (sortS ks) ⟨none, none, none, none, none, rfl⟩ ?_
    rintro pre x post Γ ex ⟨j3, j4, j5, j6, j7, rfl⟩
    have hx : x ∈ ks := sortS_mem.1 (by rw [ex]; simp)
    have np := pre_out (other := other) (sortS_nodup.2 o.nd) ex
    have l1 := o.ns_len hx
    have l2 := o.ns_len ho
    have pl : pre.length ≤ 12 := by
      have := sortS_length ks
      rw [ex] at this
      simp at this; omega
    by_cases c : x = other
    · subst c
      refine ⟨_, _, by simp; rfl, by simp [ixD_kv hx]; rfl, some (.str x), some (.str (f x).r), some (.int (f x).c), some (G.nd (f x).b (f x).ns), j7, ?_⟩
      rw [List.filter_append]
      simp
    · have eb : (x == other) = false := by simpa using c
      have st := setSv_new (g := fun k => paD (fW f other k)) np (Nat.le_trans (List.length_filter_le ..) (by omega)) (d := .tup [.str (f x).r, .int (f x).c, .lst ((nsW f other x).map D.str)]) rfl
      have fa : (pre ++ [x]).filter (fun k => !decide (k = other)) = (pre.filter fun k => !decide (k = other)) ++ [x] := by
        rw [List.filter_append, List.filter_cons_of_pos (by simpa using c)]; rfl
      refine ⟨_, [some (.dat (plD ks f)), some (.dat (.str other)), some (.cel .own (plD ((pre ++ [x]).filter fun k => !decide (k = other)) (fW f other))), jk (some (.str x)), jk (some (.str (f x).r)), jk (some (.int (f x).c)), jk (some (G.nd (f x).b (f x).ns)), jw (some (.cel .own (.lst ((if other ∈ (f x).ns then (f other).ns else []).map D.str)))), none], by simp; rfl, ?_, _, _, _, _, _, rfl⟩
      rw [fa]
      have go : ∀ more : List PySem.Str, more.length ≤ 12 → (if other ∈ (f x).ns then (f other).ns else []) = more →
          (asgR (gSb 2 (mVar 3)) (ofDr (mTup (mCons (mVar 4) (mCons (mVar 5) (mCons (toD (mC1 dSortSet (toD (mLc (mSeq (toD (mBin dAdd (toD (mC1 dList (mPk 6))) (mPk 7)))) (gNm 8) (mBl (toD (mBin dNe (mVar 8) (mPk 1)))) (mVar 8) [8])))) mNil))) [some (.dat (plD ks f)), some (.dat (.str other)), some (.cel .own (plD (pre.filter fun k => !decide (k = other)) (fW f other))), some (.dat (.str x)), some (.dat (.str (f x).r)), some (.dat (.int (f x).c)), some (.dat (G.nd (f x).b (f x).ns)), some (.cel .own (.lst (more.map D.str))), none]))) =
          .nx [some (.dat (plD ks f)), some (.dat (.str other)), some (.cel .own (plD ((pre.filter fun k => !decide (k = other)) ++ [x]) (fW f other))), some (.dat (.str x)), some (.dat (.str (f x).r)), some (.dat (.int (f x).c)), some (.dat (G.nd (f x).b (f x).ns)), some (.cel .own (.lst (more.map D.str))), none] := fun more lm em => by
        have q : dAdd (.lst ((f x).ns.map D.str)) (.lst (more.map D.str)) = some (.cel .own (.lst (((f x).ns ++ more).map D.str))) := by
          rw [dAdd_lst (by simp; omega), List.map_append]
        have lf : (((f x).ns ++ more).filter fun n => !decide (n = other)).length ≤ 24 := Nat.le_trans (List.length_filter_le ..) (by simp; omega)
        simp only [e_tup, e_cons, e_Var, e_toD, e_C1]
        simp
        rw [q]
        simp only [e_opR, e_toDr_cel, e_seqR, it_lst, e_seqO, e_lcK]
        simp [-List.map_append]
        rw [lcL_map (fun n => !decide (n = other)) D.str, lc_len (by rw [List.length_map]; omega)]
        · simp only [e_toDr_cel, e_c1R, dSortSet_strs (show (((f x).ns ++ more).filter fun n => !decide (n = other)).length < 60 by omega)]
          have en : sortS (dedS (((f x).ns ++ more).filter fun n => !decide (n = other))) = nsW f other x := by
            unfold nsW
            rw [em]
          rw [en]
          simp [st]
        · intro n hn
          by_cases e : n = other
          · simp [lcL_one, e]
          · have eb : (n == other) = false := by simpa using e
            simp [lcL_one, e, eb]
      by_cases co : other ∈ (f x).ns
      · have g := go (f other).ns l2 (if_pos co)
        simp [ixD_kv hx, ixD_kv ho, eb, co, -e_tup]
        exact g
      · have g := go [] (by simp) (if_neg co)
        simp [ixD_kv hx, ixD_kv ho, eb, co, -e_tup]
        exact g
  obtain ⟨j3, j4, j5, j6, j7, rfl⟩ := q
  subst e
  simp [ksW]
end
end G
end

section
set_option Elab.async false
set_option linter.all false
set_option maxRecDepth 100000
set_option maxHeartbeats 2000000
namespace G
open PySem PySem.Spec PyProof.Rows L2 DL
section
variable {m : Nat} {ks : List PySem.Str} {f : PySem.Str → Pa} (o : OkP m ks f)
include o
theorem without_part_is {other : PySem.Str} (ho : other ∈ ks) (h2 : 2 ≤ ks.length) : m_without_part [some (.dat (plD ks f)), some (.dat (.str other))] = .ok (.cel .own (plD (ksW ks other) (fW f other))) [none, none] := by
  have ne : ((ks.length : Int) == 1) = false := by
    rw [beq_eq_false_iff_ne]; omega
  simp [m_without_part, b_without_part, want_part_of_is o ho, ne, left_out_is o ho]
theorem without_last_is {other : PySem.Str} (ho : other ∈ ks) (h1 : ks.length = 1) : m_without_part [some (.dat (plD ks f)), some (.dat (.str other))] = .exc 14 [("part", .str other)] [none, none] := by
  simp [m_without_part, b_without_part, want_part_of_is o ho, h1]
theorem ksW_length {other : PySem.Str} (ho : other ∈ ks) : (ksW ks other).length + 1 = ks.length := by
  have h : ksW ks other = (sortS ks).erase other := by
    rw [(sortS_nodup.2 o.nd).erase_eq_filter]
    unfold ksW
    refine List.filter_congr fun x _ => ?_
    by_cases e : x = other
    · simp [e]
    · have eb : (x == other) = false := by simpa using e
      simp [e, bne, eb]
  rw [h, List.length_erase_of_mem (sortS_mem.2 ho), sortS_length]
  have := o.pos
  omega
theorem okW {other : PySem.Str} (ho : other ∈ ks) (h2 : 2 ≤ ks.length) : OkP m (ksW ks other) (fW f other) where
  nd := ksW_nd o
  one := fun e => by
    have := ksW_length o ho
    rw [e] at this; simp at this; omega
  few := by have := ksW_length o ho; have := o.few; omega
  prt := fun k hk => o.prt k (ksW_mem.1 hk).1
  rul := fun k hk => o.rul k (ksW_mem.1 hk).1
  cnt := fun k hk => o.cnt k (ksW_mem.1 hk).1
  sub := fun k hk n hn => by
    have hk1 := (ksW_mem.1 hk).1
    obtain ⟨h, h'⟩ := nsW_mem.1 (show n ∈ nsW f other k from hn)
    refine ksW_mem.2 ⟨?_, h⟩
    rcases h' with h' | ⟨_, h'⟩
    · exact o.sub k hk1 n h'
    · exact o.sub other ho n h'
  rise := fun k hk => nsW_rise
  rk := by
    obtain ⟨rk, hrk⟩ := o.rk
    refine ⟨rk, fun k hk => ?_⟩
    have hk1 := (ksW_mem.1 hk).1
    refine ⟨(hrk k hk1).1, fun n hn => ?_⟩
    obtain ⟨h, h'⟩ := nsW_mem.1 (show n ∈ nsW f other k from hn)
    rcases h' with h' | ⟨h1, h'⟩
    · exact (hrk k hk1).2 n h'
    · exact Nat.lt_trans ((hrk other ho).2 n h') ((hrk k hk1).2 other h1)
omit o in
theorem OkP.said {ks' : List PySem.Str} {f' : PySem.Str → Pa} (o : OkP m ks f) (p : ks'.Perm ks) (h : ∀ k ∈ ks, (f' k).r = (f k).r ∧ (f' k).c = (f k).c ∧ (f' k).ns = (f k).ns) : OkP m ks' f' where
  nd := p.nodup_iff.mpr o.nd
  one := fun e => o.one (by rw [e] at p; exact p.symm.eq_nil)
  few := by rw [p.length_eq]; exact o.few
  prt := fun k hk => o.prt k (p.mem_iff.mp hk)
  rul := fun k hk => by rw [(h k (p.mem_iff.mp hk)).1]; exact o.rul k (p.mem_iff.mp hk)
  cnt := fun k hk => by rw [(h k (p.mem_iff.mp hk)).2.1]; exact o.cnt k (p.mem_iff.mp hk)
  sub := fun k hk n hn => by
    rw [(h k (p.mem_iff.mp hk)).2.2] at hn
    exact p.mem_iff.mpr (o.sub k (p.mem_iff.mp hk) n hn)
  rise := fun k hk => by rw [(h k (p.mem_iff.mp hk)).2.2]; exact o.rise k (p.mem_iff.mp hk)
  rk := by
    obtain ⟨rk, hrk⟩ := o.rk
    refine ⟨rk, fun k hk => ?_⟩
    rw [(h k (p.mem_iff.mp hk)).2.2]
    exact hrk k (p.mem_iff.mp hk)
/-! ## delays -/
omit o in
theorem nd_t {ns : List PySem.Str} : G.nd true ns = .lst (ns.map D.str) := rfl
def fD (f : PySem.Str → Pa) (part : PySem.Str) (many : Int) (k : PySem.Str) : Pa := ⟨(f k).r, if k = part then (f k).c + many else (f k).c, true, (f k).ns⟩
theorem delayed_is {part : PySem.Str} (hp : part ∈ ks) (many : Int) : m_delayed [some (.dat (plD ks f)), some (.dat (.str part)), some (.dat (.int many))] = .ok (.cel .own (plD (sortS ks) (fD f part many))) [none, none, none] := by
  have few := o.few
  let R : List PySem.Str → SE → Prop := fun pre Γ => ∃ j4 j5 j6 j7 : Option D, Γ = [some (.dat (plD ks f)), some (.dat (.str part)), some (.dat (.int many)), some (.cel .own (plD pre (fD f part many))), jk j4, jk j5, jk j6, jk j7]
  simp [m_delayed, b_delayed, dSorted_kv (show ks.length < 64 by omega)]
  generalize hr : mForL _ _ _ _ = r
  obtain ⟨Γ', e, q⟩ : ∃ Γ', r = .nx Γ' ∧ R (sortS ks) Γ' := by
    subst hr
    refine forL_pre R (sortS ks) ⟨none, none, none, none, rfl⟩ ?_
    rintro pre x post Γ ex ⟨j4, j5, j6, j7, rfl⟩
    have hx : x ∈ ks := sortS_mem.1 (by rw [ex]; simp)
    have np : x ∉ pre := fun h => by
      have n := sortS_nodup.2 o.nd
      rw [ex] at n
      exact (List.nodup_append.mp n).2.2 x h x (List.mem_cons_self ..) rfl
    have pl : pre.length ≤ 12 := by
      have := sortS_length ks
      rw [ex] at this
      simp at this; omega
    refine ⟨_, [some (.dat (plD ks f)), some (.dat (.str part)), some (.dat (.int many)), some (.cel .own (plD (pre ++ [x]) (fD f part many))), jk (some (.str x)), jk (some (.str (f x).r)), jk (some (.int (f x).c)), jk (some (G.nd (f x).b (f x).ns))], by simp; rfl, ?_, _, _, _, _, rfl⟩
    by_cases c : x = part
    · have st := setSv_new (g := fun k => paD (fD f part many k)) np (by omega) (d := .tup [.str (f x).r, .int ((f x).c + many), .lst ((f x).ns.map D.str)]) (by simp [fD, c, G.nd])
      have eb : (x == part) = true := by simpa using c
      simp [ixD_kv hx, eb, st]
    · have st := setSv_new (g := fun k => paD (fD f part many k)) np (by omega) (d := .tup [.str (f x).r, .int (f x).c, .lst ((f x).ns.map D.str)]) (by simp [fD, c, G.nd])
      have eb : (x == part) = false := by simpa using c
      simp [ixD_kv hx, eb, st]
  obtain ⟨j4, j5, j6, j7, rfl⟩ := q
  subst e
  simp
theorem with_delay_is {part : PySem.Str} (hp : part ∈ ks) {many : Int} (hm : 0 ≤ many) : m_with_delay [some (.dat (plD ks f)), some (.dat (.str part)), some (.dat (.int many))] = .ok (.cel .own (plD (sortS ks) (fD f part many))) [none, none, none] := by
  simp [m_with_delay, b_with_delay, want_plan_is o, want_part_is (o.prt part hp), want_count_is hm, want_there_is hp, delayed_is o hp]
/-- a law's plan, told -/
def fT (f : PySem.Str → Pa) (k : PySem.Str) : Pa := ⟨(f k).r, (f k).c, true, (f k).ns⟩
theorem l_told_is : m_l_told [some (.dat (plD ks f))] = .ok (.cel .own (plD (sortS ks) (fT f))) [none] := by
  have few := o.few
  simp [m_l_told, b_l_told, dSorted_kv (show ks.length < 64 by omega)]
  rw [lcL_all (fun k => .tup [.str k, paD (fT f k)]), lc_len (by rw [List.length_map, sortS_length]; omega)]
  · simp [dDict_pairs (g := fun k => paD (fT f k)) (sortS_nodup.2 o.nd)]
  · intro k hk
    simp [lcL_one, ixD_kv (sortS_mem.1 hk), fT, nd_t]
theorem l_delayed_is {part : PySem.Str} (hp : part ∈ ks) (many : Int) : m_l_delayed [some (.dat (plD ks f)), some (.dat (.str part)), some (.dat (.int many))] = .ok (.cel .own (plD (sortS ks) (fD f part many))) [none, none, none] := by
  have few := o.few
  have mem := sortS_mem.2 hp
  have st := setSv_old (g := fun k => paD (fT f k)) (d := .tup [.str (f part).r, .int ((f part).c + many), G.nd true (f part).ns]) mem (by rw [sortS_length]; omega)
  have eg : kvF (sortS ks) (fun x => if x = part then .tup [.str (f part).r, .int ((f part).c + many), G.nd true (f part).ns] else paD (fT f x)) = kvF (sortS ks) fun k => paD (fD f part many k) := kvF_congr fun k _ => by
    by_cases c : k = part
    · subst c; simp [fD]
    · simp [fD, fT, c]
  simp [m_l_delayed, b_l_delayed, l_told_is o, ixD_kv mem]
  rw [eg] at st
  rw [show G.nd (fT f part).b (fT f part).ns = G.nd true (f part).ns from rfl, show (fT f part).r = (f part).r from rfl, show (fT f part).c = (f part).c from rfl]
  simp [st]
theorem okD {part : PySem.Str} (hp : part ∈ ks) {many : Int} (h0 : 0 ≤ many) (h1 : ∀ k ∈ ks, (f k).c + many ≤ 1000) : OkP m (sortS ks) (fD f part many) where
  nd := sortS_nodup.2 o.nd
  one := fun e => o.one (by have := sortS_length ks; rw [e] at this; exact List.length_eq_zero_iff.mp this.symm)
  few := by rw [sortS_length]; exact o.few
  prt := fun k hk => o.prt k (sortS_mem.1 hk)
  rul := fun k hk => o.rul k (sortS_mem.1 hk)
  cnt := fun k hk => by
    have := o.cnt k (sortS_mem.1 hk)
    have := h1 k (sortS_mem.1 hk)
    show 0 ≤ (if k = part then (f k).c + many else (f k).c) ∧ (if k = part then (f k).c + many else (f k).c) ≤ 1000
    split <;> omega
  sub := fun k hk n hn => sortS_mem.2 (o.sub k (sortS_mem.1 hk) n hn)
  rise := fun k hk => o.rise k (sortS_mem.1 hk)
  rk := by
    obtain ⟨rk, hrk⟩ := o.rk
    exact ⟨rk, fun k hk => hrk k (sortS_mem.1 hk)⟩
end
end G
end

section
set_option Elab.async false
set_option linter.all false
set_option maxRecDepth 100000
set_option maxHeartbeats 2000000
namespace G
open PySem PySem.Spec PyProof.Rows L2 DL
/-! ## never earlier -/
theorem OkT.le {days : List Int} (o : OkT days) : ∀ (j i : Nat) (hj : j < days.length), i ≤ j → ∃ hi : i < days.length, days[i] ≤ days[j]
  | 0, i, hj, h => by
    obtain rfl : i = 0 := by omega
    exact ⟨hj, Int.le_refl _⟩
  | j + 1, i, hj, h => by
    by_cases e : i = j + 1
    · subst e; exact ⟨hj, Int.le_refl _⟩
    · obtain ⟨hi, q⟩ := OkT.le o j i (by omega) (by omega)
      exact ⟨hi, Int.le_trans q (o.srt j hj)⟩
theorem onT_mono {days : List Int} (o : OkT days) {x y : Int} (h : x ≤ y) : onT days x ≤ onT days y := by
  have pos := List.length_pos_iff.mpr o.ne
  have n0 : (0 : Int) < days.length := by omega
  have at_ : ∀ z : Int, ∃ i : Nat, ∃ hi : i < days.length, z % (days.length : Int) = (i : Int) ∧ onT days z = days[i] + z / days.length * days.length := fun z => by
    have h2 : 0 ≤ z % (days.length : Int) := Int.emod_nonneg _ (by omega)
    have h3 : z % (days.length : Int) < days.length := Int.emod_lt_of_pos _ n0
    have h4 : (z % (days.length : Int)).toNat < days.length := by omega
    refine ⟨(z % (days.length : Int)).toNat, h4, by omega, ?_⟩
    unfold onT
    rw [List.getD_eq_getElem?_getD, List.getElem?_eq_getElem h4, Option.getD_some]
  obtain ⟨i, hi, ei, e1⟩ := at_ x
  obtain ⟨j, hj, ej, e2⟩ := at_ y
  rw [e1, e2]
  have dx := Int.emod_def x days.length
  have dy := Int.emod_def y days.length
  have qle : x / days.length ≤ y / days.length := Int.ediv_le_ediv n0 h
  by_cases c : x / (days.length : Int) = y / days.length
  · rw [c] at dx ⊢
    obtain ⟨_, q⟩ := o.le j i hj (by omega)
    omega
  · have lt : x / (days.length : Int) + 1 ≤ y / days.length := by omega
    have mul : (x / (days.length : Int) + 1) * days.length ≤ y / days.length * days.length := Int.mul_le_mul_of_nonneg_right lt (by omega)
    rw [Int.add_mul, Int.one_mul] at mul
    have hl := o.last o.ne
    rw [List.getLast_eq_getElem] at hl
    obtain ⟨_, q1⟩ := o.le (days.length - 1) i (by omega) (by omega)
    obtain ⟨_, q2⟩ := o.le j 0 hj (by omega)
    omega
theorem maxL_mono {α : Type} {l : List α} {f g : α → Int} (h : l ≠ []) (e : ∀ x ∈ l, f x ≤ g x) : maxL (l.map f) ≤ maxL (l.map g) := by
  obtain ⟨x, hx, ex⟩ := List.mem_map.mp (maxL_mem (l := l.map f) (by simpa using h)).1
  rw [← ex]
  exact Int.le_trans (e x hx) ((maxL_mem (l := l.map g) (by simpa using h)).2 _ (List.mem_map.mpr ⟨x, hx, rfl⟩))
section
variable {m : Nat} {ks : List PySem.Str} {f : PySem.Str → Pa} {tb : PySem.Str → List Int} {day : Int} (o : OkP m ks f)
include o
theorem delay_later (w : OkW tb) {part : PySem.Str} {many : Int} (h0 : 0 ≤ many) : ∀ (n : Nat) (k : PySem.Str), k ∈ ks → rdy tb f day n k ≤ rdy tb (fD f part many) day n k
  | 0, _, _ => Int.le_refl _
  | n + 1, k, hk => by
    show onT (tb (f k).r) _ + (f k).c ≤ onT (tb (f k).r) (if (f k).ns = [] then day else maxL ((f k).ns.map (rdy tb (fD f part many) day n))) + (if k = part then (f k).c + many else (f k).c)
    have a : onT (tb (f k).r) (if (f k).ns = [] then day else maxL ((f k).ns.map (rdy tb f day n))) ≤ onT (tb (f k).r) (if (f k).ns = [] then day else maxL ((f k).ns.map (rdy tb (fD f part many) day n))) := by
      refine onT_mono (w _ (o.rul k hk)) ?_
      split
      · exact Int.le_refl _
      · next c => exact maxL_mono c fun x hx => delay_later w h0 n x (o.sub k hk x hx)
    have b : (f k).c ≤ if k = part then (f k).c + many else (f k).c := by split <;> omega
    exact Int.add_le_add a b
theorem delay_below (rk : PySem.Str → Nat) (hrk : ∀ k ∈ ks, rk k < m ∧ ∀ n ∈ (f k).ns, rk n < rk k) {part : PySem.Str} {many : Int} : ∀ (n : Nat) (k : PySem.Str), k ∈ ks → rk k < rk part → rdy tb (fD f part many) day n k = rdy tb f day n k
  | 0, _, _, _ => rfl
  | n + 1, k, hk, h => by
    have ne : ¬ k = part := fun e => by rw [e] at h; omega
    have e : (f k).ns.map (rdy tb (fD f part many) day n) = (f k).ns.map (rdy tb f day n) := List.map_congr_left fun x hx => delay_below rk hrk n x (o.sub k hk x hx) (Nat.lt_trans ((hrk k hk).2 x hx) h)
    show onT (tb (f k).r) (if (f k).ns = [] then day else maxL ((f k).ns.map (rdy tb (fD f part many) day n))) + (if k = part then (f k).c + many else (f k).c) = onT (tb (f k).r) _ + (f k).c
    rw [e, if_neg ne]
theorem delay_self {part : PySem.Str} (hp : part ∈ ks) {many : Int} : RD tb (fD f part many) day part = RD tb f day part + many := by
  obtain ⟨rk, hrk⟩ := o.rk
  have e : (f part).ns.map (rdy tb (fD f part many) day 11) = (f part).ns.map (rdy tb f day 11) := List.map_congr_left fun x hx => delay_below o rk hrk 11 x (o.sub part hp x hx) ((hrk part hp).2 x hx)
  show onT (tb (f part).r) (if (f part).ns = [] then day else maxL ((f part).ns.map (rdy tb (fD f part many) day 11))) + (if part = part then (f part).c + many else (f part).c) = onT (tb (f part).r) (if (f part).ns = [] then day else maxL ((f part).ns.map (rdy tb f day 11))) + (f part).c + many
  rw [e, if_pos rfl]
  omega
theorem delay_le (w : OkW tb) {part : PySem.Str} {many : Int} (h0 : 0 ≤ many) {k : PySem.Str} (hk : k ∈ ks) : RD tb f day k ≤ RD tb (fD f part many) day k := delay_later o w h0 12 k hk
end
/-! ## one plan behind another -/
def fF (ks : List PySem.Str) (f g : PySem.Str → Pa) (part k : PySem.Str) : Pa :=
  if k ∈ ks then ⟨(f k).r, (f k).c, true, (f k).ns⟩ else ⟨(g k).r, (g k).c, true, if (g k).ns = [] then [part] else (g k).ns⟩
section
variable {m m' : Nat} {ks kl : List PySem.Str} {f g : PySem.Str → Pa} {tb : PySem.Str → List Int} {day : Int} {part : PySem.Str} (o : OkP m ks f) (p : OkP m' kl g) (dis : ∀ k ∈ ks, k ∉ kl) (hp : part ∈ ks)
include o p dis hp
theorem both_nd : (ks ++ kl).Nodup := List.nodup_append.mpr ⟨o.nd, p.nd, fun a ha b hb e => dis a ha (e ▸ hb)⟩
theorem okF (few : ks.length + kl.length ≤ 12) : OkP (m + m') (sortS (ks ++ kl)) (fF ks f g part) where
  nd := sortS_nodup.2 (both_nd o p dis hp)
  one := fun e => o.one (by
    have := sortS_length (ks ++ kl)
    rw [e] at this; simp at this
    exact List.length_eq_zero_iff.mp (by omega))
  few := by rw [sortS_length, List.length_append]; exact few
  prt := fun k hk => by
    rcases List.mem_append.mp (sortS_mem.1 hk) with h | h
    · exact o.prt k h
    · exact p.prt k h
  rul := fun k hk => by
    unfold fF
    rcases List.mem_append.mp (sortS_mem.1 hk) with h | h
    · rw [if_pos h]; exact o.rul k h
    · rw [if_neg fun q => dis k q h]; exact p.rul k h
  cnt := fun k hk => by
    unfold fF
    rcases List.mem_append.mp (sortS_mem.1 hk) with h | h
    · rw [if_pos h]; exact o.cnt k h
    · rw [if_neg fun q => dis k q h]; exact p.cnt k h
  sub := fun k hk n hn => by
    unfold fF at hn
    rcases List.mem_append.mp (sortS_mem.1 hk) with h | h
    · rw [if_pos h] at hn; exact sortS_mem.2 (List.mem_append_left _ (o.sub k h n hn))
    · rw [if_neg fun q => dis k q h] at hn
      dsimp only at hn
      split at hn
      · rw [List.mem_singleton.mp hn]; exact sortS_mem.2 (List.mem_append_left _ hp)
      · exact sortS_mem.2 (List.mem_append_right _ (p.sub k h n hn))
  rise := fun k hk => by
    unfold fF
    rcases List.mem_append.mp (sortS_mem.1 hk) with h | h
    · rw [if_pos h]; exact o.rise k h
    · rw [if_neg fun q => dis k q h]
      dsimp only
      split
      · exact List.pairwise_singleton ..
      · exact p.rise k h
  rk := by
    obtain ⟨r1, h1⟩ := o.rk
    obtain ⟨r2, h2⟩ := p.rk
    refine ⟨fun k => if k ∈ ks then r1 k else m + r2 k, fun k hk => ?_⟩
    rcases List.mem_append.mp (sortS_mem.1 hk) with h | h
    · refine ⟨by dsimp only; rw [if_pos h]; have := (h1 k h).1; omega, fun n hn => ?_⟩
      unfold fF at hn
      rw [if_pos h] at hn
      dsimp only at hn ⊢
      rw [if_pos h, if_pos (o.sub k h n hn)]
      exact (h1 k h).2 n hn
    · have nk : k ∉ ks := fun q => dis k q h
      refine ⟨by dsimp only; rw [if_neg nk]; have := (h2 k h).1; omega, fun n hn => ?_⟩
      unfold fF at hn
      rw [if_neg nk] at hn
      dsimp only at hn ⊢
      rw [if_neg nk]
      split at hn
      · rw [List.mem_singleton.mp hn, if_pos hp]
        have := (h1 part hp).1; omega
      · have hn2 := p.sub k h n hn
        rw [if_neg fun q => dis n q hn2]
        have := (h2 k h).2 n hn; omega
theorem followed_front : ∀ (n : Nat) (k : PySem.Str), k ∈ ks → rdy tb (fF ks f g part) day n k = rdy tb f day n k
  | 0, _, _ => rfl
  | n + 1, k, hk => by
    have ek : fF ks f g part k = ⟨(f k).r, (f k).c, true, (f k).ns⟩ := if_pos hk
    have e : (f k).ns.map (rdy tb (fF ks f g part) day n) = (f k).ns.map (rdy tb f day n) := List.map_congr_left fun x hx => followed_front n x (o.sub k hk x hx)
    show onT (tb (fF ks f g part k).r) (if (fF ks f g part k).ns = [] then day else maxL ((fF ks f g part k).ns.map (rdy tb (fF ks f g part) day n))) + (fF ks f g part k).c = _
    rw [ek]
    show onT (tb (f k).r) (if (f k).ns = [] then day else maxL ((f k).ns.map (rdy tb (fF ks f g part) day n))) + (f k).c = _
    rw [e]; rfl
theorem followed_behind (hm : m + m' ≤ 12) (few : ks.length + kl.length ≤ 12) : ∀ {k : PySem.Str}, k ∈ kl → RD tb (fF ks f g part) day k = RD tb g (RD tb f day part) k := by
  obtain ⟨r2, h2⟩ := p.rk
  have oF := okF o p dis hp few
  have go : ∀ (N : Nat) (k : PySem.Str), k ∈ kl → r2 k < N → RD tb (fF ks f g part) day k = RD tb g (RD tb f day part) k := by
    intro N
    induction N with
    | zero => intro k _ h; exact absurd h (Nat.not_lt_zero _)
    | succ N ih =>
      intro k hk h
      have nk : k ∉ ks := fun q => dis k q hk
      have ek : fF ks f g part k = ⟨(g k).r, (g k).c, true, if (g k).ns = [] then [part] else (g k).ns⟩ := if_neg nk
      rw [RD_eq oF hm (sortS_mem.2 (List.mem_append_right _ hk)), RD_eq p (by omega) hk, ek]
      dsimp only
      by_cases c : (g k).ns = []
      · rw [if_pos c, if_pos c]
        have : RD tb (fF ks f g part) day part = RD tb f day part := followed_front o p dis hp 12 part hp
        simp [maxL, this]
      · rw [if_neg c, if_neg c, if_neg c]
        have e : (g k).ns.map (RD tb (fF ks f g part) day) = (g k).ns.map (RD tb g (RD tb f day part)) := List.map_congr_left fun x hx => ih x (p.sub k hk x hx) (by have := (h2 k hk).2 x hx; omega)
        rw [e]
  intro k hk
  exact go (r2 k + 1) k hk (Nat.lt_succ_self _)
end
end G
end

section
set_option Elab.async false
set_option linter.all false
set_option maxRecDepth 100000
set_option maxHeartbeats 2000000
namespace G
open PySem PySem.Spec PyProof.Rows L2 DL
theorem forL_ex {g : MG} {b : MS} {d : D} {ds : List D} {Γ Γ1 Γ2 : SE} {c : Nat} {as : List (PySem.Str × D)} (h : g (.dat d) Γ = some Γ1) (h2 : b Γ1 = .ex c as Γ2) : mForL g b (d :: ds) Γ = .ex c as Γ2 := by
  show (match g (.dat d) Γ with | some Γ1 => _ | none => _) = _
  rw [h]
  show (b Γ1).lp _ = _
  rw [h2]
  rfl
theorem dSorted_cat {ks kl : List PySem.Str} (h : (ks ++ kl).length < 64) : dSorted (.lst (ks.map D.str ++ kl.map D.str)) = some (.cel .own (.lst ((sortS (ks ++ kl)).map D.str))) := by
  rw [← List.map_append]; exact dSorted_strs h
theorem want_at_most_is {x : PySem.Str} {l n : Int} (h : n ≤ l) : m_want_at_most [some (.dat (.str x)), some (.dat (.int l)), some (.dat (.int n))] = .ok (.dat .non) [none, none, none] := by
  have : ¬ l < n := by omega
  simp [m_want_at_most, b_want_at_most, this]
theorem want_at_most_ex {x : PySem.Str} {l n : Int} (h : l < n) : m_want_at_most [some (.dat (.str x)), some (.dat (.int l)), some (.dat (.int n))] = .exc 15 [("what", .str x), ("limit", .int l)] [none, none, none] := by
  simp [m_want_at_most, b_want_at_most, h]
section
variable {m m' : Nat} {ks kl : List PySem.Str} {f g : PySem.Str → Pa} {part : PySem.Str} (o : OkP m ks f) (p : OkP m' kl g)
include o p
theorem cat_is : dAdd (.lst (ks.map D.str)) (.lst (kl.map D.str)) = some (.cel .own (.lst ((ks ++ kl).map D.str))) := by
  have := o.few
  have := p.few
  rw [dAdd_lst (by simp; omega), List.map_append]
theorem followed_is (dis : ∀ k ∈ ks, k ∉ kl) (hp : part ∈ ks) (few : ks.length + kl.length ≤ 12) : m_followed [some (.dat (plD ks f)), some (.dat (.str part)), some (.dat (plD kl g))] = .ok (.cel .own (plD (sortS (ks ++ kl)) (fF ks f g part))) [none, none, none] := by
  have h1 := o.few
  have l2 : ((ks.length : Int) + (kl.length : Int)) ≤ 12 := by omega
  have l3 : (ks ++ kl).length < 64 := by rw [List.length_append]; omega
  let R0 : List PySem.Str → SE → Prop := fun pre Γ => ∃ j : Option D, Γ = [some (.dat (plD ks f)), some (.dat (.str part)), some (.dat (plD kl g)), jk j, none, none, none, none]
  let R : List PySem.Str → SE → Prop := fun pre Γ => ∃ j3 j5 j6 j7 : Option D, Γ = [some (.dat (plD ks f)), some (.dat (.str part)), some (.dat (plD kl g)), jk j3, some (.cel .own (plD pre (fF ks f g part))), jk j5, jk j6, jk j7]
  simp [m_followed, b_followed, want_plan_is o, want_plan_is p, want_part_is (o.prt part hp), want_there_is hp, dSorted_kv (show ks.length < 64 by omega)]
  generalize hr : mForL _ _ _ _ = r
  obtain ⟨Γ', e, q⟩ : ∃ Γ', r = .nx Γ' ∧ R0 (sortS ks) Γ' := by
    subst hr
    refine forL_pre R0 (sortS ks) ⟨none, rfl⟩ ?_
    rintro pre x post Γ ex ⟨j, rfl⟩
    have hx : x ∈ ks := sortS_mem.1 (by rw [ex]; simp)
    have nx := dis x hx
    exact ⟨_, _, by simp; rfl, by simp [nx], some (.str x), rfl⟩
  obtain ⟨j, rfl⟩ := q
  subst e
  simp [want_at_most_is l2, cat_is o p, dSorted_cat l3]
  generalize hr : mForL _ _ _ _ = r
  obtain ⟨Γ', e, q⟩ : ∃ Γ', r = .nx Γ' ∧ R (sortS (ks ++ kl)) Γ' := by
    subst hr
    refine forL_pre R (sortS (ks ++ kl)) ⟨j, none, none, none, rfl⟩ ?_
    rintro pre x post Γ ex ⟨j3, j5, j6, j7, rfl⟩
    have hx : x ∈ ks ++ kl := sortS_mem.1 (by rw [ex]; simp)
    have np : x ∉ pre := fun h => by
      have n := sortS_nodup.2 (both_nd o p dis hp)
      rw [ex] at n
      exact (List.nodup_append.mp n).2.2 x h x (List.mem_cons_self ..) rfl
    have pl : pre.length ≤ 12 := by
      have := sortS_length (ks ++ kl)
      rw [ex, List.length_append, List.length_append] at this
      omega
    by_cases c : x ∈ ks
    · have nx := dis x c
      have st := setSv_new (g := fun k => paD (fF ks f g part k)) np (by omega) (d := .tup [.str (f x).r, .int (f x).c, .lst ((f x).ns.map D.str)]) (by simp [fF, c, nd_t])
      refine ⟨_, [some (.dat (plD ks f)), some (.dat (.str part)), some (.dat (plD kl g)), jk (some (.str x)), some (.cel .own (plD (pre ++ [x]) (fF ks f g part))), jk (some (.str (f x).r)), jk (some (.int (f x).c)), jk (some (G.nd (f x).b (f x).ns))], by simp; rfl, ?_, _, _, _, _, rfl⟩
      simp [c, nx, ixD_kv c, st]
    · have hl : x ∈ kl := (List.mem_append.mp hx).resolve_left c
      refine ⟨_, [some (.dat (plD ks f)), some (.dat (.str part)), some (.dat (plD kl g)), jk (some (.str x)), some (.cel .own (plD (pre ++ [x]) (fF ks f g part))), jk (some (.str (g x).r)), jk (some (.int (g x).c)), jk (some (G.nd (g x).b (g x).ns))], by simp; rfl, ?_, _, _, _, _, rfl⟩
      by_cases cn : (g x).ns = []
      · have st := setSv_new (g := fun k => paD (fF ks f g part k)) np (by omega) (d := .tup [.str (g x).r, .int (g x).c, .lst [.str part]]) (by simp [fF, c, nd_t, cn])
        have ce : (g x).ns.isEmpty = true := by simpa using cn
        simp [c, hl, ixD_kv hl, st, ce]
      · have st := setSv_new (g := fun k => paD (fF ks f g part k)) np (by omega) (d := .tup [.str (g x).r, .int (g x).c, .lst ((g x).ns.map D.str)]) (by simp [fF, c, nd_t, cn])
        have ce : (g x).ns.isEmpty = false := by simpa using cn
        simp [c, hl, ixD_kv hl, st, ce]
  obtain ⟨j3, j5, j6, j7, rfl⟩ := q
  subst e
  simp
theorem l_followed_is (dis : ∀ k ∈ ks, k ∉ kl) (hp : part ∈ ks) (hf : ∀ k ∈ ks, (f k).b = true) (hg : ∀ k ∈ kl, (g k).b = true) : m_l_followed [some (.dat (plD ks f)), some (.dat (.str part)), some (.dat (plD kl g))] = .ok (.cel .own (plD (sortS (ks ++ kl)) (fF ks f g part))) [none, none, none] := by
  have h1 := o.few
  have h2 := p.few
  have l3 : (ks ++ kl).length < 64 := by rw [List.length_append]; omega
  let R : List PySem.Str → SE → Prop := fun pre Γ => ∃ j4 j5 j6 j7 : Option D, Γ = [some (.dat (plD ks f)), some (.dat (.str part)), some (.dat (plD kl g)), some (.cel .own (plD pre (fF ks f g part))), jk j4, jk j5, jk j6, jk j7]
  simp [m_l_followed, b_l_followed, cat_is o p, dSorted_cat l3]
  generalize hr : mForL _ _ _ _ = r
  obtain ⟨Γ', e, q⟩ : ∃ Γ', r = .nx Γ' ∧ R (sortS (ks ++ kl)) Γ' := by
    subst hr
    refine forL_pre R (sortS (ks ++ kl)) ⟨none, none, none, none, rfl⟩ ?_
    rintro pre x post Γ ex ⟨j4, j5, j6, j7, rfl⟩
    have hx : x ∈ ks ++ kl := sortS_mem.1 (by rw [ex]; simp)
    have np : x ∉ pre := fun h => by
      have n := sortS_nodup.2 (both_nd o p dis hp)
      rw [ex] at n
      exact (List.nodup_append.mp n).2.2 x h x (List.mem_cons_self ..) rfl
    have pl : pre.length ≤ 24 := by
      have := sortS_length (ks ++ kl)
      rw [ex, List.length_append, List.length_append] at this
      omega
    by_cases c : x ∈ ks
    · have st := setSv_new (g := fun k => paD (fF ks f g part k)) np (by omega) (d := paD (f x)) (by simp [fF, c, hf x c])
      exact ⟨_, [some (.dat (plD ks f)), some (.dat (.str part)), some (.dat (plD kl g)), some (.cel .own (plD (pre ++ [x]) (fF ks f g part))), jk (some (.str x)), jk j5, jk j6, jk j7], by simp; rfl, by simp [c, ixD_kv c, st], _, _, _, _, rfl⟩
    · have hl : x ∈ kl := (List.mem_append.mp hx).resolve_left c
      have asc : ∀ y ∈ (g x).ns, Asc y := fun y hy => (p.prt y (p.sub x hl y hy)).asc
      have ne : dEqv (.lst ((g x).ns.map D.str)) (.lst []) = some (g x).ns.isEmpty := dEqv_nil asc
      refine ⟨_, [some (.dat (plD ks f)), some (.dat (.str part)), some (.dat (plD kl g)), some (.cel .own (plD (pre ++ [x]) (fF ks f g part))), jk (some (.str x)), jk (some (.str (g x).r)), jk (some (.int (g x).c)), jk (some (.lst ((g x).ns.map D.str)))], by simp; rfl, ?_, _, _, _, _, rfl⟩
      by_cases cn : (g x).ns = []
      · have st := setSv_new (g := fun k => paD (fF ks f g part k)) np (by omega) (d := .tup [.str (g x).r, .int (g x).c, .lst [.str part]]) (by simp [fF, c, nd_t, cn])
        simp [cn] at ne
        simp [c, hl, ixD_kv hl, hg x hl, nd_t, cn, ne, st]
      · have st := setSv_new (g := fun k => paD (fF ks f g part k)) np (by omega) (d := .tup [.str (g x).r, .int (g x).c, .lst ((g x).ns.map D.str)]) (by simp [fF, c, nd_t, cn])
        have ce : (g x).ns.isEmpty = false := by simpa using cn
        simp [c, hl, ixD_kv hl, hg x hl, nd_t, ne, ce, st]
  obtain ⟨j4, j5, j6, j7, rfl⟩ := q
  subst e
  simp
end
section
variable {m : Nat} {ks : List PySem.Str} {f : PySem.Str → Pa} {part : PySem.Str} (o : OkP m ks f)
include o
/-- the first part -/
theorem first_of : ∃ x r, sortS ks = x :: r ∧ x ∈ ks := by
  cases e : sortS ks with
  | nil => exact absurd (List.length_eq_zero_iff.mp (by have := sortS_length ks; rw [e] at this; exact this.symm)) o.one
  | cons x r => exact ⟨x, r, rfl, sortS_mem.1 (by rw [e]; simp)⟩
theorem followed_shared (hp : part ∈ ks) {x : PySem.Str} {r : List PySem.Str} (e : sortS ks = x :: r) (hx : x ∈ ks) : m_followed [some (.dat (plD ks f)), some (.dat (.str part)), some (.dat (plD ks f))] = .exc 11 [("part", .str x)] [none, none, none] := by
  have h1 := o.few
  simp [m_followed, b_followed, want_plan_is o, want_part_is (o.prt part hp), want_there_is hp, dSorted_kv (show ks.length < 64 by omega), e]
  rw [forL_ex (c := 11) (as := [("part", .str x)]) (Γ2 := [some (.dat (plD ks f)), some (.dat (.str part)), some (.dat (plD ks f)), some (.dat (.str x)), none, none, none, none]) (by simp; rfl) (by simp [hx])]
  simp
theorem followed_many {m' : Nat} {kl : List PySem.Str} {g : PySem.Str → Pa} (p : OkP m' kl g) (dis : ∀ k ∈ ks, k ∉ kl) (hp : part ∈ ks) (few : 12 < ks.length + kl.length) : m_followed [some (.dat (plD ks f)), some (.dat (.str part)), some (.dat (plD kl g))] = .exc 15 [("what", .str "parts"), ("limit", .int 12)] [none, none, none] := by
  have h1 := o.few
  have l2 : (12 : Int) < ((ks.length : Int) + (kl.length : Int)) := by omega
  let R0 : List PySem.Str → SE → Prop := fun pre Γ => ∃ j : Option D, Γ = [some (.dat (plD ks f)), some (.dat (.str part)), some (.dat (plD kl g)), jk j, none, none, none, none]
  simp [m_followed, b_followed, want_plan_is o, want_plan_is p, want_part_is (o.prt part hp), want_there_is hp, dSorted_kv (show ks.length < 64 by omega)]
  generalize hr : mForL _ _ _ _ = r
  obtain ⟨Γ', e, q⟩ : ∃ Γ', r = .nx Γ' ∧ R0 (sortS ks) Γ' := by
    subst hr
    refine forL_pre R0 (sortS ks) ⟨none, rfl⟩ ?_
    rintro pre x post Γ ex ⟨j, rfl⟩
    have hx : x ∈ ks := sortS_mem.1 (by rw [ex]; simp)
    have nx := dis x hx
    exact ⟨_, _, by simp; rfl, by simp [nx], some (.str x), rfl⟩
  obtain ⟨j, rfl⟩ := q
  subst e
  simp [want_at_most_ex l2]
end
end G
end

section
set_option Elab.async false
set_option linter.all false
set_option maxRecDepth 100000
set_option maxHeartbeats 2000000
namespace G
open PySem PySem.Spec PyProof.Rows L2 DL
/-! ## draws -/
abbrev potD (p : Int × Int) : D := .lst [.int p.1, .int p.2]
abbrev potS (p : Int × Int) : Option Sv := some (.cel .brw (potD p))
def OkPot (p : Int × Int) : Prop := 0 ≤ p.2 ∧ p.2 < 2147483648
section
variable {p : Int × Int} (hp : OkPot p)
include hp
theorem draw_ex {n : Int} (h1 : 0 < n) (h2 : n < 1073741824) : ∃ r p', OkPot p' ∧ 0 ≤ r ∧ r < n ∧ m_l_draw [potS p, some (.dat (.int n))] = .ok (.dat (.int r)) [potS p', none] := by
  obtain ⟨a, b⟩ := p
  obtain ⟨h3, h4⟩ := hp
  dsimp only at h3 h4
  have i0 : ∀ {x y : Int}, ixD (.lst [.int x, .int y]) (.int 0) = some (.int x) := rfl
  have i1 : ∀ {x y : Int}, ixD (.lst [.int x, .int y]) (.int 1) = some (.int y) := rfl
  have s0 : ∀ {x y z : Int}, setSv (.cel .brw (.lst [.int x, .int y])) (.int 0) (.int z) = some (.cel .brw (.lst [.int z, .int y])) := rfl
  have s1 : ∀ {x y z : Int}, setSv (.cel .brw (.lst [.int x, .int y])) (.int 1) (.int z) = some (.cel .brw (.lst [.int x, .int z])) := rfl
  by_cases c : 0 < a
  · have cd : CDiv a n := ⟨h1, h2⟩
    have dm : dDivmod (.int a) (.int n) = some (.dat (.tup [.int (a / n), .int (a % n)])) := if_pos cd
    refine ⟨a % n, (a / n, b), ⟨h3, h4⟩, Int.emod_nonneg _ (by omega), Int.emod_lt_of_pos _ h1, ?_⟩
    simp [m_l_draw, b_l_draw, i0, i1, s0, s1, c, dm]
  · have q0 : 0 ≤ (b * 48271 + 41) % 2147483587 := Int.emod_nonneg _ (by decide)
    have q1 : (b * 48271 + 41) % 2147483587 < 2147483587 := Int.emod_lt_of_pos _ (by decide)
    have m1 : CMul b 48271 := .inr ⟨by decide, by decide⟩
    have m2 : CMul ((b * 48271 + 41) % 2147483587) ((b * 48271 + 41) % 2147483587) := .inl ⟨by omega, by omega⟩
    have m3 : ∀ x, CDiv x 11 := fun x => ⟨by decide, by decide⟩
    refine ⟨(((b * 48271 + 41) % 2147483587) * ((b * 48271 + 41) % 2147483587) % 2147483549 / 11) % n, (a, (b * 48271 + 41) % 2147483587), ⟨q0, by show _ < _; omega⟩, Int.emod_nonneg _ (by omega), Int.emod_lt_of_pos _ h1, ?_⟩
    simp [m_l_draw, b_l_draw, i0, i1, s0, s1, c, dIntC1, dMul_int m1, dMul_int m2, dDiv_int (m3 _), dMod_int h1, dMod_int (show (0 : Int) < 2147483587 by decide), dMod_int (show (0 : Int) < 2147483549 by decide)]
theorem pick_ex {ds : List D} (h1 : ds ≠ []) (h2 : ds.length ≤ 1000) : ∃ d p', OkPot p' ∧ d ∈ ds ∧ m_l_pick [potS p, some (.dat (.lst ds))] = .ok (.dat d) [potS p', none] := by
  have := List.length_pos_iff.mpr h1
  obtain ⟨r, p', o', r0, r1, e⟩ := draw_ex hp (n := ds.length) (by omega) (by omega)
  refine ⟨ds[r.toNat]'(by omega), p', o', List.getElem_mem _, ?_⟩
  simp [m_l_pick, b_l_pick, e, ixD_lst r0 r1]
end
theorem seq_ok {i : Int} {n : Nat} (h0 : 0 ≤ i) (h1 : i < n) : seqIndex? i n = some i.toNat := by
  unfold seqIndex?
  have hn : ¬ i < 0 := by omega
  simp [hn, h0, h1]
theorem popAt_is {xs : List D} {i : Int} (h0 : 0 ≤ i) (h1 : i < xs.length) (h2 : xs.length ≤ 1000000) : fPopAt (.lst xs) [.int i] = some (xs[i.toNat]'(by omega), .lst (xs.eraseIdx i.toNat)) := by
  have c : -(2 ^ 63) ≤ i ∧ i < 2 ^ 63 := ⟨by omega, by omega⟩
  show (if -(2 ^ 63) ≤ i ∧ i < 2 ^ 63 then _ else _) = _
  rw [if_pos c, seq_ok h0 h1]
  show (xs[i.toNat]?).map _ = _
  rw [List.getElem?_eq_getElem (by omega)]; rfl
theorem map_erase {α β : Type} {f : α → β} : ∀ {l : List α} {i : Nat}, (l.map f).eraseIdx i = (l.eraseIdx i).map f
  | [], _ => rfl
  | _ :: _, 0 => rfl
  | x :: l, i + 1 => by
    show f x :: (l.map f).eraseIdx i = f x :: (l.eraseIdx i).map f
    rw [map_erase]
theorem mixed_ex {α : Type} (enc : α → D) {p : Int × Int} (hp : OkPot p) {xs : List α} (hl : xs.length ≤ 1000) : ∃ (ys : List α) (p' : Int × Int), ys.Perm xs ∧ OkPot p' ∧ m_l_mixed [potS p, some (.dat (.lst (xs.map enc)))] = .ok (.cel .own (.lst (ys.map enc))) [potS p', none] := by
  let R : List Nat → SE → Prop := fun pre Γ => ∃ (left found : List α) (p : Int × Int) (j : Option D), Γ = [potS p, some (.dat (.lst (xs.map enc))), some (.cel .own (.lst (left.map enc))), some (.cel .own (.lst (found.map enc))), jk j] ∧
    OkPot p ∧ (found ++ left).Perm xs ∧ found.length = pre.length
  simp -implicitDefEqProofs [m_l_mixed, b_l_mixed, -Prod.exists]
  rw [rng1_ok (by omega), e_forR]
  generalize hr : mForL _ _ _ _ = r
  obtain ⟨Γ', e, q⟩ : ∃ Γ', r = .nx Γ' ∧ R (List.range xs.length) Γ' := by
    subst hr
    simp only [Int.toNat_natCast]
    refine forL_pre R (List.range xs.length) ⟨xs, [], p, none, rfl, hp, List.Perm.refl _, rfl⟩ ?_
    rintro pre i post Γ ex ⟨left, found, p1, j, rfl, hp1, pm, fl⟩
    have ll := pm.length_eq
    rw [List.length_append] at ll
    have rl : pre.length + (post.length + 1) = xs.length := by
      have := congrArg List.length ex
      simp at this; omega
    obtain ⟨r, p2, hp2, r0, r1, ed⟩ := draw_ex hp1 (n := left.length) (by omega) (by omega)
    have ri : r.toNat < left.length := by omega
    have pa := popAt_is (xs := left.map enc) r0 (by rw [List.length_map]; exact r1) (by rw [List.length_map]; omega)
    rw [List.getElem_map] at pa
    have ap := fApp (ds := found.map enc) (d := enc left[r.toNat]) (by rw [List.length_map]; omega)
    refine ⟨_, [potS p2, some (.dat (.lst (xs.map enc))), some (.cel .own (.lst ((left.map enc).eraseIdx r.toNat))), some (.cel .own (.lst (found.map enc ++ [enc left[r.toNat]]))), jk (some (.int i))], by simp; rfl, by simp [ed, pa, ap], left.eraseIdx r.toNat, found ++ [left[r.toNat]], p2, some (.int i), ?_, hp2, ?_, by simp [fl]⟩
    · rw [map_erase]; simp
    · have := L2.erase_perm left r.toNat left[r.toNat] (by simp [ri])
      rw [List.append_assoc]
      exact (List.Perm.append_left found this).trans pm
  obtain ⟨left, found, p1, j, rfl, hp1, pm, fl⟩ := q
  subst e
  rw [List.length_range] at fl
  have l0 : left = [] := by
    have := pm.length_eq
    rw [List.length_append] at this
    exact List.length_eq_zero_iff.mp (by omega)
  subst l0
  rw [List.append_nil] at pm
  exact ⟨found, by simpa using pm, p1, hp1, by simp⟩
end G
end

section
set_option Elab.async false
set_option linter.all false
set_option maxRecDepth 100000
set_option maxHeartbeats 2000000
namespace G
open PySem PySem.Spec PyProof.Rows L2 DL
/-! ## a plan as it is passed -/
theorem said_ex {m : Nat} {ks : List PySem.Str} {f : PySem.Str → Pa} (o : OkP m ks f) {p : Int × Int} (hp : OkPot p) : ∃ (ks' : List PySem.Str) (f' : PySem.Str → Pa) (p' : Int × Int), OkPot p' ∧ ks'.Perm ks ∧
    (∀ k ∈ ks, (f' k).r = (f k).r ∧ (f' k).c = (f k).c ∧ (f' k).ns = (f k).ns) ∧ m_l_said [potS p, some (.dat (plD ks f))] = .ok (.cel .own (plD ks' f')) [potS p', none] := by
  have few := o.few
  obtain ⟨ys, p1, pm, hp1, em⟩ := mixed_ex D.str hp (xs := ks) (by omega)
  have yn : ys.Nodup := pm.nodup_iff.mpr o.nd
  have yl : ys.length ≤ 12 := by rw [pm.length_eq]; exact few
  let R : List PySem.Str → SE → Prop := fun pre Γ => ∃ (f' : PySem.Str → Pa) (p : Int × Int) (j3 j4 j5 j6 : Option D), Γ = [potS p, some (.dat (plD ks f)), some (.cel .own (plD pre f')), jk j3, jk j4, jk j5, jk j6] ∧ OkPot p ∧
    ∀ k ∈ pre, (f' k).r = (f k).r ∧ (f' k).c = (f k).c ∧ (f' k).ns = (f k).ns
  obtain ⟨Γ', e, q⟩ : ∃ Γ', mForL (gNm 3) (mSq (mAsg (ofD (mIxN 1 (mVar 3))) (gTp 3 (DL.gCons (gNm 4) (DL.gCons (gNm 5) (DL.gCons (gNm 6) DL.gNil))))) (mAsg (ofD (mTup (mCons (mVar 4) (mCons (mVar 5) (mCons (toD (mIf (mBl (toD (mBin dEq (toD (mCallN 2 m_l_draw (mAr 0 .brw (mAv (mC (.int 2)) mAn)))) (mC (.int 0))))) (mC1 dList (mPk 6)) (mC1 dTuple (mPk 6)))) mNil))))) (gSb 2 (mVar 3)))) (ys.map D.str) [potS p1, some (.dat (plD ks f)), some (.cel .own (.dic [])), none, none, none, none] = .nx Γ' ∧ R ys Γ' := by
    refine forL_pre R ys ⟨f, p1, none, none, none, none, rfl, hp1, fun k h => by simp at h⟩ ?_
    rintro pre x post Γ ex ⟨f', p2, j3, j4, j5, j6, rfl, hp2, hf⟩
    have hx : x ∈ ks := pm.mem_iff.mp (by rw [ex]; simp)
    have np : x ∉ pre := fun h => by
      rw [ex] at yn
      exact (List.nodup_append.mp yn).2.2 x h x (List.mem_cons_self ..) rfl
    have pl : pre.length ≤ 12 := by rw [ex] at yl; simp at yl; omega
    obtain ⟨r, p3, hp3, r0, r1, ed⟩ := draw_ex hp2 (n := 2) (by decide) (by decide)
    let f2 : PySem.Str → Pa := fun k => if k = x then ⟨(f x).r, (f x).c, r == 0, (f x).ns⟩ else f' k
    have e2 : plD pre f' = plD pre f2 := congrArg D.dic <| kvF_congr fun k hk => by
      have : ¬ k = x := fun e => np (e ▸ hk)
      show _ = paD (if k = x then _ else _)
      rw [if_neg this]
    have f2x : f2 x = ⟨(f x).r, (f x).c, r == 0, (f x).ns⟩ := if_pos rfl
    refine ⟨_, [potS p3, some (.dat (plD ks f)), some (.cel .own (plD (pre ++ [x]) f2)), jk (some (.str x)), jk (some (.str (f x).r)), jk (some (.int (f x).c)), jk (some (G.nd (f x).b (f x).ns))], by simp; rfl, ?_, f2, p3, _, _, _, _, rfl, hp3, fun k hk => ?_⟩
    · rw [e2]
      by_cases c : r = 0
      · have st := setSv_new (g := fun k => paD (f2 k)) np (by omega) (d := .tup [.str (f x).r, .int (f x).c, .lst ((f x).ns.map D.str)]) (by rw [f2x]; simp [c, G.nd])
        subst c
        simp [ixD_kv hx, ed, st]
      · have cb : (r == 0) = false := by simpa using c
        have st := setSv_new (g := fun k => paD (f2 k)) np (by omega) (d := .tup [.str (f x).r, .int (f x).c, .tup ((f x).ns.map D.str)]) (by rw [f2x]; simp [c, G.nd])
        simp [ixD_kv hx, ed, cb, st]
    · by_cases c : k = x
      · subst c; rw [f2x]; exact ⟨rfl, rfl, rfl⟩
      · rw [show f2 k = f' k from if_neg c]
        exact hf k ((List.mem_append.mp hk).resolve_right (by simpa using c))
  obtain ⟨f', p2, j3, j4, j5, j6, rfl, hp2, hf⟩ := q
  refine ⟨ys, f', p2, hp2, pm, fun k hk => hf k (pm.mem_iff.mpr hk), ?_⟩
  simp -implicitDefEqProofs [m_l_said, b_l_said, em, e]
/-! ## a rule -/
theorem snoc_srt {ds : List Int} {v : Int} (h : ∀ (i : Nat) (h : i + 1 < ds.length), ds[i] ≤ ds[i + 1]) (hv : ∀ h : ds ≠ [], ds.getLast h ≤ v) : ∀ (i : Nat) (h : i + 1 < (ds ++ [v]).length), (ds ++ [v])[i] ≤ (ds ++ [v])[i + 1] := fun i hi => by
  rw [List.length_append, List.length_singleton] at hi
  by_cases c : i + 1 < ds.length
  · rw [List.getElem_append_left (by omega), List.getElem_append_left c]
    exact h i c
  · have e : i + 1 = ds.length := by omega
    rw [List.getElem_append_left (by omega), List.getElem_append_right (by omega)]
    have := hv (List.length_pos_iff.mp (by omega))
    rw [List.getLast_eq_getElem] at this
    simp only [e, Nat.sub_self, List.getElem_cons_zero]
    have e3 : ds.length - 1 = i := by omega
    simp only [e3] at this
    exact this
theorem rule_ex {p : Int × Int} (hp : OkPot p) : ∃ (days : List Int) (p' : Int × Int), OkPot p' ∧ OkT days ∧ m_l_rule [potS p] = .ok (.cel .own (dsD days)) [potS p'] := by
  obtain ⟨r, p1, hp1, r0, r1, ed1⟩ := draw_ex hp (n := 5) (by decide) (by decide)
  obtain ⟨s, p2, hp2, s0, s1, ed2⟩ := draw_ex hp1 (n := 7) (by decide) (by decide)
  have tn : ((1 : Int) + r - 1).toNat = r.toNat := by omega
  let R : List Nat → SE → Prop := fun pre Γ => ∃ (ds : List Int) (rest : Int) (p : Int × Int) (j4 j5 : Option D), Γ = [potS p, some (.dat (.int (1 + r))), some (.cel .own (dsD ds)), some (.dat (.int rest)), jk j4, jk j5] ∧ OkPot p ∧
    ds.length = pre.length + 1 ∧ (∀ (i : Nat) (h : i + 1 < ds.length), ds[i] ≤ ds[i + 1]) ∧ (∃ h : ds ≠ [], ds[0]'(List.length_pos_iff.mpr h) = s - 2 ∧ ds.getLast h = s - 2 + (1 + r - rest)) ∧ 0 ≤ rest ∧ rest ≤ 1 + r ∧ ∀ v ∈ ds, s - 2 ≤ v ∧ v ≤ s - 2 + (1 + r - rest)
  simp -implicitDefEqProofs [m_l_rule, b_l_rule, ed1, ed2, -Prod.exists]
  rw [rng1_ok (by omega), e_forR, tn]
  generalize hr : mForL _ _ _ _ = r'
  obtain ⟨Γ', e, q⟩ : ∃ Γ', r' = .nx Γ' ∧ R (List.range r.toNat) Γ' := by
    subst hr
    refine forL_pre R (List.range r.toNat) ⟨[s - 2], 1 + r, p2, none, none, rfl, hp2, rfl, fun i h => by simp at h, ⟨by simp, rfl, by simp⟩, by omega, Int.le_refl _, fun v hv => by rw [List.mem_singleton.mp hv]; omega⟩ ?_
    rintro pre i post Γ ex ⟨ds, rest, p3, j4, j5, rfl, hp3, dl, srt, ⟨ne, d0, dL⟩, q0, q1, bnd⟩
    have pl : pre.length + (post.length + 1) = r.toNat := by
      have := congrArg List.length ex
      simp at this; omega
    obtain ⟨d, p4, hp4, hd, epk⟩ := pick_ex hp3 (ds := [.int 0, .int 0, .int 1, .int 1, .int 2, .int 3]) (by simp) (by simp)
    obtain ⟨k, rfl, k0⟩ : ∃ k : Int, d = .int k ∧ 0 ≤ k := by
      simp at hd
      rcases hd with rfl | rfl | rfl | rfl
      · exact ⟨0, rfl, by decide⟩
      · exact ⟨1, rfl, by decide⟩
      · exact ⟨2, rfl, by decide⟩
      · exact ⟨3, rfl, by decide⟩
    obtain ⟨st, est, st0, st1⟩ : ∃ st : Int, (if k < rest then k else rest) = st ∧ 0 ≤ st ∧ st ≤ rest := ⟨_, rfl, by split <;> omega, by split <;> omega⟩
    have mn : dMin2 (.int rest) (.int k) = some (.dat (.int st)) := by show some (Sv.dat (.int (if k < rest then k else rest))) = _; rw [est]
    have ne2 : (ds.map D.int) ≠ [] := by simpa using ne
    have ixl : ixD (dsD ds) (.int (-1)) = some (.int (ds.getLast ne)) := by rw [ix_last ne2, List.getLast_map]
    have ap := fApp (ds := ds.map D.int) (d := .int (ds.getLast ne + st)) (by rw [List.length_map]; omega)
    refine ⟨_, [potS p4, some (.dat (.int (1 + r))), some (.cel .own (dsD (ds ++ [ds.getLast ne + st]))), some (.dat (.int (rest - st))), jk (some (.int i)), jk (some (.int st))], by simp; rfl, by simp [epk, mn, ixl, ap], ds ++ [ds.getLast ne + st], rest - st, p4, _, _, rfl, hp4, by simp; omega, snoc_srt srt fun h => by omega, ⟨by simp, ?_, by simp; omega⟩, by omega, by omega, fun v hv => ?_⟩
    · rw [List.getElem_append_left (List.length_pos_iff.mpr ne)]; exact d0
    · rcases List.mem_append.mp hv with h | h
      · have := bnd v h; omega
      · rw [List.mem_singleton.mp h]
        have := bnd _ (List.getLast_mem ne); omega
  obtain ⟨ds, rest, p3, j4, j5, rfl, hp3, dl, srt, ⟨ne, d0, dL⟩, q0, q1, bnd⟩ := q
  subst e
  rw [List.length_range] at dl
  exact ⟨ds, p3, hp3, ⟨ne, by omega, srt, fun h => by rw [d0, dL]; omega, fun v hv => by have := bnd v hv; omega⟩, by simp⟩
end G
end

section
set_option Elab.async false
set_option linter.all false
set_option maxRecDepth 100000
set_option maxHeartbeats 2000000
namespace G
open PySem PySem.Spec PyProof.Rows L2 DL
/-! ## a drawn plan -/
def five : List PySem.Str := ["ax", "b", "cog", "d", "eel"]
theorem five_prt : ∀ k ∈ five, Prt k ∧ k.length ≤ 3 := by
  have h : ∀ k ∈ five, 1 ≤ k.length ∧ k.length ≤ 3 ∧ k.cps.toList.all (fun c => small.cps.toList.contains c) = true := by decide +kernel
  intro k hk
  obtain ⟨h1, h2, h3⟩ := h k hk
  exact ⟨⟨h1, by omega, fun c hc => by simpa using List.all_eq_true.mp h3 c hc⟩, h2⟩
theorem five_nd : five.Nodup := by decide +kernel
theorem enumD_strs {ns : List PySem.Str} : enumD (ns.map D.str) = (List.range ns.length).map fun i : Nat => D.tup [.int i, .str (ns.getD i Str.empty)] := by
  unfold enumD
  apply List.ext_getElem
  · simp
  · intro i h1 h2
    simp at h1 h2
    simp [h2]
theorem range_cut {n : Nat} {pre post : List Nat} {i : Nat} (e : List.range n = pre ++ i :: post) : pre.length = i ∧ i < n := by
  have h1 : (List.range n)[pre.length]? = some i := by rw [e]; simp
  have hl := congrArg List.length e
  simp at hl
  rw [List.getElem?_eq_getElem (by simp; omega)] at h1
  simp at h1
  omega
theorem cutN {xs : List D} {i : Nat} (h : i ≤ xs.length) : cutL xs none (some (i : Int)) = xs.take i := by
  unfold cutL
  rw [HT.sIx_none, HT.sIx_nat]
  simp
theorem nodup_inj {l : List PySem.Str} (n : l.Nodup) {i j : Nat} (hi : i < l.length) (hj : j < l.length) (e : l[i] = l[j]) : i = j := by
  have h1 := n.idxOf_getElem i hi
  have h2 := n.idxOf_getElem j hj
  rw [e] at h1
  omega
structure Drawn (ns : List PySem.Str) (n : Nat) (f : PySem.Str → Pa) : Prop where
  at_ : ∀ (i : Nat) (h : i < n) (h2 : i < ns.length), Rul (f ns[i]).r ∧ (0 ≤ (f ns[i]).c ∧ (f ns[i]).c ≤ 3) ∧ (f ns[i]).b = true ∧ Rise (f ns[i]).ns ∧ ∀ x ∈ (f ns[i]).ns, x ∈ ns.take i
theorem Drawn.ok {ns : List PySem.Str} {f : PySem.Str → Pa} {m : Nat} (d : Drawn ns ns.length f) (hn : ns.Nodup) (h1 : ns ≠ []) (h2 : ns.length ≤ m) (hm : m ≤ 5) (h5 : ∀ x ∈ ns, x ∈ five) : OkP m ns f where
  nd := hn
  one := h1
  few := by omega
  prt := fun k hk => (five_prt k (h5 k hk)).1
  rul := fun k hk => by obtain ⟨i, hi, rfl⟩ := List.getElem_of_mem hk; exact (d.at_ i hi hi).1
  cnt := fun k hk => by
    obtain ⟨i, hi, rfl⟩ := List.getElem_of_mem hk
    have := (d.at_ i hi hi).2.1
    omega
  sub := fun k hk n hn' => by
    obtain ⟨i, hi, rfl⟩ := List.getElem_of_mem hk
    exact List.mem_of_mem_take ((d.at_ i hi hi).2.2.2.2 n hn')
  rise := fun k hk => by obtain ⟨i, hi, rfl⟩ := List.getElem_of_mem hk; exact (d.at_ i hi hi).2.2.2.1
  rk := ⟨fun k => ns.idxOf k, fun k hk => by
    obtain ⟨i, hi, rfl⟩ := List.getElem_of_mem hk
    refine ⟨Nat.lt_of_lt_of_le (List.idxOf_lt_length_of_mem hk) h2, fun n hn' => ?_⟩
    obtain ⟨j, hj, e⟩ := List.getElem_of_mem ((d.at_ i hi hi).2.2.2.2 n hn')
    rw [List.length_take] at hj
    rw [List.getElem_take] at e
    subst e
    show ns.idxOf ns[j] < ns.idxOf ns[i]
    rw [hn.idxOf_getElem j (by omega), hn.idxOf_getElem i hi]
    omega⟩
theorem plan_ex {p : Int × Int} (hp : OkPot p) (most : Nat) (h1 : 1 ≤ most) (h5 : most ≤ 5) : ∃ (ks : List PySem.Str) (f : PySem.Str → Pa) (p' : Int × Int), OkPot p' ∧ OkP most ks f ∧ ks.length ≤ most ∧ (∀ k ∈ ks, k ∈ five ∧ (f k).b = true ∧ (f k).c ≤ 3) ∧
    m_l_plan [potS p, some (.dat (.int most))] = .ok (.cel .own (plD ks f)) [potS p', none] := by
  obtain ⟨ys, p1, pm, hp1, em⟩ := mixed_ex D.str hp (xs := five) (by decide)
  have em' : m_l_mixed [potS p, some (.dat (.lst [.str "ax", .str "b", .str "cog", .str "d", .str "eel"]))] = .ok (.cel .own (.lst (ys.map D.str))) [potS p1, none] := em
  obtain ⟨r, p2, hp2, r0, r1, ed⟩ := draw_ex hp1 (n := most) (by omega) (by omega)
  have yl : ys.length = 5 := by rw [pm.length_eq]; rfl
  obtain ⟨n, en⟩ : ∃ n : Nat, (1 : Int) + r = (n : Int) ∧ 1 ≤ n ∧ n ≤ most := ⟨(1 + r).toNat, by omega, by omega, by omega⟩
  obtain ⟨en, n1, n2⟩ := en
  obtain ⟨ns, ens⟩ : ∃ ns, ns = ys.take n := ⟨_, rfl⟩
  have nsl : ns.length = n := by rw [ens, List.length_take]; omega
  have nsn : ns.Nodup := by rw [ens]; exact (pm.nodup_iff.mpr five_nd).take
  have ns5 : ∀ x ∈ ns, x ∈ five := fun x hx => by rw [ens] at hx; exact pm.mem_iff.mp (List.mem_of_mem_take hx)
  have cut : slD (.lst (ys.map D.str)) none (some (1 + r)) = some (.cel .own (.lst (ns.map D.str))) := by
    rw [en]
    show some (Sv.cel .own (.lst (cutL (ys.map D.str) none (some (n : Int))))) = _
    rw [cutN (by simp; omega), ens, List.map_take]
  let R : List Nat → SE → Prop := fun pre Γ => ∃ (f : PySem.Str → Pa) (p : Int × Int) (j4 j5 : Option D) (j6 : Option Sv), Γ = [potS p, some (.dat (.int most)), some (.dat (.lst (ns.map D.str))), some (.cel .own (plD (ns.take pre.length) f)), jk j4, jk j5, jw j6, none] ∧ OkPot p ∧ Drawn ns pre.length f
  simp -implicitDefEqProofs [m_l_plan, b_l_plan, em', ed, cut, enumD_strs, -Prod.exists]
  generalize hr : mForL _ _ _ _ = r'
  obtain ⟨Γ', e, q⟩ : ∃ Γ', r' = .nx Γ' ∧ R (List.range ns.length) Γ' := by
    subst hr
    refine forL_pre R (List.range ns.length) ⟨fun _ => ⟨"", 0, true, []⟩, p2, none, none, none, by simp, hp2, ⟨fun i h => absurd h (Nat.not_lt_zero _)⟩⟩ ?_
    rintro pre i post Γ ex ⟨f, p3, j4, j5, j6, rfl, hp3, dr⟩
    obtain ⟨pli, il⟩ := range_cut ex
    have gi : ns.getD i Str.empty = ns[i] := by rw [List.getD_eq_getElem?_getD, List.getElem?_eq_getElem il, Option.getD_some]
    have gi2 : ns[i]?.getD Str.empty = ns[i] := by rw [← List.getD_eq_getElem?_getD]; exact gi
    rw [pli] at dr ⊢
    have cut2 : slD (.lst (ns.map D.str)) none (some (i : Int)) = some (.cel .own (.lst ((ns.take i).map D.str))) := by
      show some (Sv.cel .own (.lst (cutL (ns.map D.str) none (some (i : Int))))) = _
      rw [cutN (by simp; omega), List.map_take]
    let R2 : List PySem.Str → List D → SE → Prop := fun pre es Γ => ∃ (ch : List PySem.Str) (p : Int × Int), es = ch.map D.str ∧ ch.Sublist pre ∧ OkPot p ∧ Γ = [potS p, some (.dat (.int most)), some (.dat (.lst (ns.map D.str))), some (.cel .own (plD (ns.take i) f)), some (.dat (.int i)), some (.dat (.str ns[i])), jw j6, none]
    obtain ⟨es, Γ2, elc, ch, p4, rfl, sub, hp4, rfl⟩ : ∃ es Γ2, mLcL (gNm 7) (mBl (toD (mBin dEq (toD (mCallN 2 m_l_draw (mAr 0 .brw (mAv (mC (.int 2)) mAn)))) (mC (.int 0))))) (mVar 7) [7] ((ns.take i).map D.str) [potS p3, some (.dat (.int most)), some (.dat (.lst (ns.map D.str))), some (.cel .own (plD (ns.take i) f)), some (.dat (.int i)), some (.dat (.str ns[i])), jw j6, none] = .ok es Γ2 ∧ R2 (ns.take i) es Γ2 := by
      have := lcL_inv (enc := D.str) (g := gNm 7) (mt := mBl (toD (mBin dEq (toD (mCallN 2 m_l_draw (mAr 0 .brw (mAv (mC (.int 2)) mAn)))) (mC (.int 0))))) (me := mVar 7) (vs := [7]) R2 (ns.take i) (fun pre x post es Γ ex ⟨ch, p, ees, sub, hp, eΓ⟩ => by
        subst ees eΓ
        obtain ⟨r, p5, hp5, q0, q1, ed5⟩ := draw_ex hp (n := 2) (by decide) (by decide)
        by_cases c : r = 0
        · subst c
          exact ⟨[.str x], _, by simp [lcL_one, ed5], ch ++ [x], p5, by simp, sub.append (List.Sublist.refl _), hp5, rfl⟩
        · have cb : (r == 0) = false := by simpa using c
          exact ⟨[], _, by simp [lcL_one, ed5, cb], ch, p5, by simp, sub.trans (List.sublist_append_left ..), hp5, rfl⟩) [] (ns.take i) [] _ rfl ⟨[], p3, rfl, List.Sublist.refl _, hp3, rfl⟩
      simpa using this
    rw [List.map_take] at elc cut2
    have chl : ch.length ≤ 5 := by have := sub.length_le; rw [List.length_take] at this; omega
    have chn : ch.Nodup := sub.nodup (nsn.take)
    obtain ⟨d1, p6, hp6, hd1, ep1⟩ := pick_ex hp4 (ds := [.str "a", .str "a", .str "b", .str "c"]) (by simp) (by simp)
    obtain ⟨d2, p7, hp7, hd2, ep2⟩ := pick_ex hp6 (ds := [.int 0, .int 0, .int 1, .int 2, .int 3]) (by simp) (by simp)
    obtain ⟨r', rfl, hr'⟩ : ∃ r' : PySem.Str, d1 = .str r' ∧ Rul r' := by
      simp at hd1
      rcases hd1 with rfl | rfl | rfl
      · exact ⟨_, rfl, .inl rfl⟩
      · exact ⟨_, rfl, .inr (.inl rfl)⟩
      · exact ⟨_, rfl, .inr (.inr rfl)⟩
    obtain ⟨c', rfl, hc'⟩ : ∃ c' : Int, d2 = .int c' ∧ 0 ≤ c' ∧ c' ≤ 3 := by
      simp at hd2
      rcases hd2 with rfl | rfl | rfl | rfl
      · exact ⟨_, rfl, by decide⟩
      · exact ⟨_, rfl, by decide⟩
      · exact ⟨_, rfl, by decide⟩
      · exact ⟨_, rfl, by decide⟩
    let f2 : PySem.Str → Pa := fun k => if k = ns[i] then ⟨r', c', true, sortS ch⟩ else f k
    have f2x : f2 ns[i] = ⟨r', c', true, sortS ch⟩ := if_pos rfl
    have np : ns[i] ∉ ns.take i := fun h => by
      obtain ⟨j, hj, e⟩ := List.getElem_of_mem h
      rw [List.length_take] at hj
      rw [List.getElem_take] at e
      have := nodup_inj nsn (by omega) (by omega) e
      omega
    have e2 : plD (ns.take i) f = plD (ns.take i) f2 := congrArg D.dic <| kvF_congr fun k hk => by
      have : ¬ k = ns[i] := fun e => np (e ▸ hk)
      show _ = paD (if k = ns[i] then _ else _)
      rw [if_neg this]
    have et : ns.take (i + 1) = ns.take i ++ [ns[i]] := by rw [List.take_add_one, List.getElem?_eq_getElem il]; rfl
    have st := setSv_new (g := fun k => paD (f2 k)) np (by rw [List.length_take]; omega) (d := .tup [.str r', .int c', .lst ((sortS ch).map D.str)]) (by rw [f2x]; simp [G.nd])
    refine ⟨_, [potS p7, some (.dat (.int most)), some (.dat (.lst (ns.map D.str))), some (.cel .own (plD (ns.take (i + 1)) f2)), jk (some (.int i)), jk (some (.str ns[i])), jw (some (.dat (.lst ((sortS ch).map D.str)))), none], by simp [gi2]; rfl, ?_, f2, p7, some (.int i), some (.str ns[i]), some (.dat (.lst ((sortS ch).map D.str))), by simp [pli], hp7, ⟨fun j hj hj2 => ?_⟩⟩
    · simp [gi2, cut2, elc, lc_len (ds := ch.map D.str) (Γ := [potS p4, some (.dat (.int most)), some (.dat (.lst (ns.map D.str))), some (.cel .own (plD (ns.take i) f)), some (.dat (.int i)), some (.dat (.str ns[i])), jw j6, none]) (by rw [List.length_map]; omega), dSorted_strs (show ch.length < 64 by omega), ep1, ep2]
      rw [e2, et]
      simp [st]
    · rw [List.length_append, List.length_singleton, pli] at hj
      by_cases c : j = i
      · subst c
        rw [f2x]
        exact ⟨hr', hc', rfl, sortS_rise chn, fun x hx => sub.subset (sortS_mem.1 hx)⟩
      · have nj : ¬ ns[j] = ns[i] := fun e => c (nodup_inj nsn hj2 il e)
        rw [show f2 ns[j] = f ns[j] from if_neg nj]
        exact dr.at_ j (by omega) hj2
  obtain ⟨f, p3, j4, j5, j6, rfl, hp3, dr⟩ := q
  subst e
  rw [List.length_range] at dr
  have ok := dr.ok (m := most) nsn (by intro z; rw [z] at nsl; simp at nsl; omega) (by omega) h5 ns5
  refine ⟨ns, f, p3, hp3, ok, by omega, fun k hk => ?_, by simp⟩
  obtain ⟨i, hi, rfl⟩ := List.getElem_of_mem hk
  have := dr.at_ i hi hi
  exact ⟨ns5 _ hk, this.2.2.1, this.2.1.2⟩
/-! ## the other plan's parts, with names of their own -/
def nn (x : PySem.Str) : PySem.Str := ((("n" : String) : PySem.Str)) ++ x
def un (x : PySem.Str) : PySem.Str := ⟨(x.cps.toList.drop 1).toArray⟩
theorem nn_list (x : PySem.Str) : (nn x).cps.toList = 110 :: x.cps.toList := by
  show (((("n" : String) : PySem.Str)) ++ x).cps.toList = _
  rw [cps_toList_append]
  rfl
theorem un_nn (x : PySem.Str) : un (nn x) = x := by
  unfold un
  rw [nn_list]
  simp
theorem nn_inj {x y : PySem.Str} (h : nn x = nn y) : x = y := by rw [← un_nn x, h, un_nn]
theorem nn_len (x : PySem.Str) : (nn x).length = x.length + 1 := by
  show (((("n" : String) : PySem.Str)) ++ x).length = _
  rw [Str.length_append, Nat.add_comm]
  rfl
theorem nn_lt {x y : PySem.Str} (h : ltS x y) : ltS (nn x) (nn y) := by
  show (nn x).cps.toList < (nn y).cps.toList
  rw [nn_list, nn_list]
  exact List.Lex.cons h
def fN (f : PySem.Str → Pa) (k : PySem.Str) : Pa := ⟨(f (un k)).r, (f (un k)).c, true, (f (un k)).ns.map nn⟩
theorem nn_prt {x : PySem.Str} (h : Prt x) (hl : x.length ≤ 3) : Prt (nn x) where
  lo := by rw [nn_len]; omega
  hi := by rw [nn_len]; omega
  sm := fun c hc => by
    rw [nn_list] at hc
    rcases List.mem_cons.mp hc with rfl | hc
    · decide +kernel
    · exact h.sm c hc
section
variable {m : Nat} {ks : List PySem.Str} {f : PySem.Str → Pa} (o : OkP m ks f)
include o
theorem okN (h5 : ∀ k ∈ ks, k ∈ five) : OkP m (ks.map nn) (fN f) where
  nd := by
    have := o.nd
    exact List.Pairwise.map nn (fun a b (h : a ≠ b) e => h (nn_inj e)) this
  one := by simpa using o.one
  few := by rw [List.length_map]; exact o.few
  prt := fun k hk => by
    obtain ⟨x, hx, rfl⟩ := List.mem_map.mp hk
    exact nn_prt (o.prt x hx) (five_prt x (h5 x hx)).2
  rul := fun k hk => by
    obtain ⟨x, hx, rfl⟩ := List.mem_map.mp hk
    show Rul (f (un (nn x))).r
    rw [un_nn]; exact o.rul x hx
  cnt := fun k hk => by
    obtain ⟨x, hx, rfl⟩ := List.mem_map.mp hk
    show 0 ≤ (f (un (nn x))).c ∧ (f (un (nn x))).c ≤ 1000
    rw [un_nn]; exact o.cnt x hx
  sub := fun k hk n hn => by
    obtain ⟨x, hx, rfl⟩ := List.mem_map.mp hk
    obtain ⟨y, hy, rfl⟩ := List.mem_map.mp (show n ∈ (f (un (nn x))).ns.map nn from hn)
    rw [un_nn] at hy
    exact List.mem_map.mpr ⟨y, o.sub x hx y hy, rfl⟩
  rise := fun k hk => by
    obtain ⟨x, hx, rfl⟩ := List.mem_map.mp hk
    show Rise ((f (un (nn x))).ns.map nn)
    rw [un_nn]
    exact List.Pairwise.map nn (fun a b h => nn_lt h) (o.rise x hx)
  rk := by
    obtain ⟨rk, hrk⟩ := o.rk
    refine ⟨fun k => rk (un k), fun k hk => ?_⟩
    obtain ⟨x, hx, rfl⟩ := List.mem_map.mp hk
    dsimp only
    rw [un_nn]
    refine ⟨(hrk x hx).1, fun n hn => ?_⟩
    obtain ⟨y, hy, rfl⟩ := List.mem_map.mp (show n ∈ (f (un (nn x))).ns.map nn from hn)
    rw [un_nn] at hy ⊢
    exact (hrk x hx).2 y hy
theorem renamed_is (h5 : ∀ k ∈ ks, k ∈ five) : m_l_renamed [some (.dat (plD ks f))] = .ok (.cel .own (plD (ks.map nn) (fN f))) [none] := by
  have few := o.few
  have add : ∀ x : PySem.Str, x ∈ ks → dAdd (.str "n") (.str x) = some (.dat (.str (nn x))) := fun x hx => by
    have := (five_prt x (h5 x hx)).2
    exact dAdd_str (by show 1 + x.length ≤ _; omega)
  simp [m_l_renamed, b_l_renamed]
  rw [lcL_all (fun k => .tup [.str (nn k), paD (fN f (nn k))]), lc_len (by rw [List.length_map]; omega)]
  · have e : (ks.map fun k => D.tup [.str (nn k), paD (fN f (nn k))]) = (ks.map nn).map fun k => D.tup [.str k, paD (fN f k)] := by rw [List.map_map]; rfl
    rw [e]
    simp only [e_toDr_cel, e_c1R, dDict_pairs (g := fun k => paD (fN f k)) (okN o h5).nd]
    simp
  · intro k hk
    have nl := o.ns_len hk
    simp [lcL_one, add k hk, ixD_kv hk]
    rw [lcL_all (fun x => D.str (nn x)), lc_len (by rw [List.length_map]; omega)]
    · have e : G.nd true ((f k).ns.map nn) = .lst ((f k).ns.map fun x => D.str (nn x)) := by rw [nd_t, List.map_map]; rfl
      simp [fN, un_nn, e]
    · intro x hx
      simp [lcL_one, add x (o.sub k hk x hx)]
end
theorem nn_not_five : ∀ k ∈ five, ∀ l ∈ five, k ≠ nn l := by decide +kernel
end G
end

section
set_option Elab.async false
set_option linter.all false
set_option maxRecDepth 100000
set_option maxHeartbeats 2000000
namespace G
open PySem PySem.Spec PyProof.Rows L2 DL
/-! ## as many parts as fit -/
def zz (t : Nat) : PySem.Str := repS "z" ((t : Int) + 1)
theorem zz_prt : ∀ t ∈ List.range 11, Prt (zz t) := by
  have h : ∀ t ∈ List.range 11, 1 ≤ (zz t).length ∧ (zz t).length ≤ 12 ∧ (zz t).cps.toList.all (fun c => small.cps.toList.contains c) = true := by decide +kernel
  intro t ht
  obtain ⟨h1, h2, h3⟩ := h t ht
  exact ⟨h1, h2, fun c hc => by simpa using List.all_eq_true.mp h3 c hc⟩
theorem zz_nd : ((List.range 11).map zz).Nodup := by decide +kernel
theorem zz_five : ∀ t ∈ List.range 11, zz t ∉ five ∧ zz t ≠ "yy" := by decide +kernel
theorem yy_prt : Prt "yy" ∧ ("yy" : PySem.Str) ∉ five ∧ zz 0 = "z" := by
  have h : 1 ≤ ("yy" : PySem.Str).length ∧ ("yy" : PySem.Str).length ≤ 12 ∧ ("yy" : PySem.Str).cps.toList.all (fun c => small.cps.toList.contains c) = true ∧ ("yy" : PySem.Str) ∉ five ∧ zz 0 = "z" := by decide +kernel
  exact ⟨⟨h.1, h.2.1, fun c hc => by simpa using List.all_eq_true.mp h.2.2.1 c hc⟩, h.2.2.2.1, h.2.2.2.2⟩
def zks (n : Nat) : List PySem.Str := (List.range n).map zz
def fZ (k : PySem.Str) : Pa := if k = "yy" then ⟨"b", 1, true, ["z"]⟩ else ⟨"a", 0, true, []⟩
theorem zks_mem {n : Nat} (h : n ≤ 11) {k : PySem.Str} (hk : k ∈ zks n) : ∃ t ∈ List.range 11, k = zz t := by
  obtain ⟨t, ht, rfl⟩ := List.mem_map.mp hk
  have := List.mem_range.mp ht
  exact ⟨t, List.mem_range.mpr (by omega), rfl⟩
theorem zks_nd {n : Nat} (h : n ≤ 11) : (zks n).Nodup := by
  have e : zks n = ((List.range 11).map zz).take n := by
    unfold zks
    rw [← List.map_take, List.take_range]
    congr 2; omega
  rw [e]
  exact zz_nd.take
theorem fZ_z {n : Nat} (h : n ≤ 11) {k : PySem.Str} (hk : k ∈ zks n) : fZ k = ⟨"a", 0, true, []⟩ := by
  obtain ⟨t, ht, rfl⟩ := zks_mem h hk
  exact if_neg (zz_five t ht).2
theorem okZ {n : Nat} (h1 : 1 ≤ n) (h : n ≤ 11) : OkP 1 (zks n) fZ where
  nd := zks_nd h
  one := fun e => by have := congrArg List.length e; simp [zks] at this; omega
  few := by simp [zks]; omega
  prt := fun k hk => by obtain ⟨t, ht, rfl⟩ := zks_mem h hk; exact zz_prt t ht
  rul := fun k hk => by rw [fZ_z h hk]; exact .inl rfl
  cnt := fun k hk => by rw [fZ_z h hk]; decide
  sub := fun k hk n hn => by rw [fZ_z h hk] at hn; simp at hn
  rise := fun k hk => by rw [fZ_z h hk]; exact List.Pairwise.nil
  rk := ⟨fun _ => 0, fun k hk => ⟨Nat.zero_lt_one, fun n hn => by rw [fZ_z h hk] at hn; simp at hn⟩⟩
theorem okZy {n : Nat} (h1 : 1 ≤ n) (h : n ≤ 11) : OkP 2 (zks n ++ [(("yy" : String) : PySem.Str)]) fZ where
  nd := List.nodup_append.mpr ⟨zks_nd h, by simp, fun a ha b hb e => by
    obtain ⟨t, ht, rfl⟩ := zks_mem h ha
    rw [List.mem_singleton.mp hb] at e
    exact (zz_five t ht).2 e⟩
  one := by simp
  few := by simp [zks]; omega
  prt := fun k hk => by
    rcases List.mem_append.mp hk with hk | hk
    · obtain ⟨t, ht, rfl⟩ := zks_mem h hk; exact zz_prt t ht
    · rw [List.mem_singleton.mp hk]; exact yy_prt.1
  rul := fun k hk => by
    rcases List.mem_append.mp hk with hk | hk
    · rw [fZ_z h hk]; exact .inl rfl
    · rw [List.mem_singleton.mp hk]; exact .inr (.inl rfl)
  cnt := fun k hk => by
    rcases List.mem_append.mp hk with hk | hk
    · rw [fZ_z h hk]; decide
    · rw [List.mem_singleton.mp hk]; decide
  sub := fun k hk x hx => by
    rcases List.mem_append.mp hk with hk | hk
    · rw [fZ_z h hk] at hx; simp at hx
    · rw [List.mem_singleton.mp hk] at hx
      rw [List.mem_singleton.mp (show x ∈ [(("z" : String) : PySem.Str)] from hx), ← yy_prt.2.2]
      exact List.mem_append_left _ (List.mem_map.mpr ⟨0, List.mem_range.mpr h1, rfl⟩)
  rise := fun k hk => by
    rcases List.mem_append.mp hk with hk | hk
    · rw [fZ_z h hk]; exact List.Pairwise.nil
    · rw [List.mem_singleton.mp hk]; exact List.pairwise_singleton ..
  rk := ⟨fun k => if k = "yy" then 1 else 0, fun k hk => ⟨by dsimp only; split <;> omega, fun x hx => by
    rcases List.mem_append.mp hk with hk | hk
    · rw [fZ_z h hk] at hx; simp at hx
    · rw [List.mem_singleton.mp hk] at hx ⊢
      rw [List.mem_singleton.mp (show x ∈ [(("z" : String) : PySem.Str)] from hx)]
      decide⟩⟩
section
variable {m : Nat} {ks : List PySem.Str} {f : PySem.Str → Pa} {part : PySem.Str} {p : Int × Int} (o : OkP m ks f)
include o
theorem most_right_is (h5 : ∀ k ∈ ks, k ∈ five) (l5 : ks.length ≤ 5) (hp : part ∈ ks) : m_l_most_right [potS p, some (.dat (plD ks f)), some (.dat (.str part))] = .ok (.dat (.bl true)) [potS p, none, none] := by
  have lo := o.pos
  obtain ⟨n, en⟩ : ∃ n : Nat, n = 12 - ks.length := ⟨_, rfl⟩
  have n1 : 1 ≤ n := by omega
  have n2 : n ≤ 11 := by omega
  have ei : (12 : Int) - (ks.length : Int) = (n : Int) := by omega
  have dis : ∀ k ∈ ks, k ∉ zks n := fun k hk h => by
    obtain ⟨t, ht, rfl⟩ := zks_mem n2 h
    exact (zz_five t ht).1 (h5 _ hk)
  have dis2 : ∀ k ∈ ks, k ∉ zks n ++ [(("yy" : String) : PySem.Str)] := fun k hk h => by
    rcases List.mem_append.mp h with h | h
    · exact dis k hk h
    · rw [List.mem_singleton.mp h] at hk
      exact yy_prt.2.1 (h5 _ hk)
  have oz := okZ n1 n2
  have fo := followed_is o oz dis hp (by simp [zks]; omega)
  have fm := followed_many o (okZy n1 n2) dis2 hp (by simp [zks]; omega)
  have ll : (sortS (ks ++ zks n)).length = 12 := by rw [sortS_length]; simp [zks]; omega
  have mul : ∀ t : Nat, t < 1000 → dMulS (.str "z") (.int ((t : Int) + 1)) = some (.dat (.str (zz t))) := fun t ht => if_pos ⟨by omega, by omega, by decide⟩
  have yn : ("yy" : PySem.Str) ∉ zks n := fun h => by
    obtain ⟨t, ht, e⟩ := zks_mem n2 h
    exact (zz_five t ht).2 e.symm
  have st := setSv_new (g := fun k => paD (fZ k)) yn (by simp [zks]; omega) (d := .tup [.str "b", .int 1, .lst [.str "z"]]) rfl
  have eq1 : dEqv (.lst [.lst [.str "parts", .int 12]]) (.lst [.lst [.str "parts", .int 12]]) = some true := by decide +kernel
  simp -implicitDefEqProofs [m_l_most_right, b_l_most_right, ei]
  rw [rng1_ok (by omega), Int.toNat_natCast]
  simp -implicitDefEqProofs
  rw [lcL_all (fun t : Nat => .tup [.str (zz t), .tup [.str "a", .int 0, .lst []]]), lc_len (by rw [List.length_map, List.length_range]; omega)]
  · have e : ((List.range n).map fun t => D.tup [.str (zz t), .tup [.str "a", .int 0, .lst []]]) = (zks n).map fun k => D.tup [.str k, paD (fZ k)] := by
      show _ = ((List.range n).map zz).map _
      rw [List.map_map]
      refine List.map_congr_left fun t ht => ?_
      have hz : fZ (zz t) = ⟨"a", 0, true, []⟩ := fZ_z n2 (List.mem_map.mpr ⟨t, ht, rfl⟩)
      show _ = D.tup [.str (zz t), paD (fZ (zz t))]
      rw [hz]; rfl
    rw [e]
    simp only [e_toDr_cel, e_c1R, dDict_pairs (g := fun k => paD (fZ k)) (zks_nd n2)]
    have z0 : 0 < sizeLine := lt_line (by decide)
    have gg : g2 "what" "limit" [("what", .str "parts"), ("limit", .int 12)] = some (.lst [.str "parts", .int 12]) := by
      have h : ("limit" == ("what" : PySem.Str)) = false := by decide
      simp [g2, List.lookup, h]
    simp -implicitDefEqProofs [fo, ll, st, fm, gg, tryEnd, noSlot, eq1, z0]
  · intro t ht
    have := List.mem_range.mp ht
    simp [lcL_one, mul t (by omega)]
end
end G
end

section
set_option Elab.async false
set_option linter.all false
set_option maxRecDepth 100000
set_option maxHeartbeats 2000000
namespace G
open PySem PySem.Spec PyProof.Rows L2 DL
/-! ## plans shown -/
theorem rul_asc {r : PySem.Str} (h : Rul r) : Asc r ∧ r.length ≤ 1 := by
  rcases h with rfl | rfl | rfl <;> exact ⟨by unfold Asc; decide +kernel, by decide +kernel⟩
section
variable {m : Nat} {ks : List PySem.Str} {f : PySem.Str → Pa} (o : OkP m ks f)
include o
theorem plan_sh : Sh 3 70778 (plD ks f) := by
  have few := o.few
  have part : ∀ k ∈ ks, Sh 2 5772 (paD (f k)) := fun k hk => by
    have ra := rul_asc (o.rul k hk)
    have cn := o.cnt k hk
    have nl := o.ns_len hk
    have s1 : Sh 1 1921 (.str (f k).r) := (Sh.str (l := 1) ra.1 ra.2).mono (by omega) (by omega)
    have s2 : Sh 1 1921 (.int (f k).c) := (Sh.int (log_small (by omega))).mono (by omega) (by omega)
    have nsh : ∀ d ∈ (f k).ns.map D.str, Sh 0 122 d := fun d hd => by
      obtain ⟨x, hx, rfl⟩ := List.mem_map.mp hd
      have hx' := o.prt x (o.sub k hk x hx)
      exact Sh.str (l := 12) hx'.asc hx'.hi
    have lb : ((f k).ns.map D.str).length * (122 + 2) ≤ 12 * 124 := by rw [List.length_map]; exact Nat.mul_le_mul_right _ nl
    have s3 : Sh 1 1921 (G.nd (f k).b (f k).ns) := by
      cases (f k).b
      · exact (Sh.tup nsh).mono (by omega) (by omega)
      · exact (Sh.lst nsh).mono (by omega) (by omega)
    exact Sh.tup (ds := [.str (f k).r, .int (f k).c, G.nd (f k).b (f k).ns]) (n := 1) (w := 1921) fun d hd => by
      simp at hd
      rcases hd with rfl | rfl | rfl
      · exact s1
      · exact s2
      · exact s3
  refine (Sh.dic (l := 12) (g := fun k => paD (f k)) (fun k hk => ⟨(o.prt k hk).asc, (o.prt k hk).hi⟩) part).mono (by omega) ?_
  have : ks.length * (10 * 12 + 5772 + 6) ≤ 12 * (10 * 12 + 5772 + 6) := Nat.mul_le_mul_right _ few
  omega
theorem plan_repr : ∃ z, dRepr (plD ks f) = some (.dat (.str z)) := (plan_sh o).repr (by omega) (by omega) (.inr (.inr ⟨_, rfl⟩))
end
theorem two_repr {a b : D} (ha : Sh 3 70778 a) (hb : Sh 3 70778 b) : ∃ z, dRepr (.lst [a, b]) = some (.dat (.str z)) :=
  (Sh.lst (ds := [a, b]) (n := 3) (w := 70778) fun d hd => by
    simp at hd
    rcases hd with rfl | rfl
    · exact ha
    · exact hb).repr (by omega) (by simp) (.inl ⟨_, rfl⟩)
theorem eqv_one {x : PySem.Str} (h : Asc x) : dEqv (.lst [.str x]) (.lst [.str x]) = some true := by
  have s : SeqAt.shaped (.list [PyData.str x]) = true := by
    have h' : PyData.strOk x = true := h
    simp [SeqAt.shaped, PyData.canLay0, PyData.canLayAll0, PyData.depth, PyData.depthAll, h']
  have e : dEqv (.lst [.str x]) (.lst [.str x]) = if ((D.lst [.str x]).plain && (D.lst [.str x]).plain && SeqAt.shaped (.list [PyData.str x]) && SeqAt.shaped (.list [PyData.str x])) = true then some (PyData.eqv (.list [PyData.str x]) (.list [PyData.str x])) else none := rfl
  rw [e, s]
  simp [D.plain, D.plainL, PyData.eqv, PyData.eqvAll]
theorem followed_right_is {ks : List PySem.Str} {f : PySem.Str → Pa} {tb : PySem.Str → List Int} {p : Int × Int} (o : OkP 5 ks f) (h5 : ∀ k ∈ ks, k ∈ five) (l5 : ks.length ≤ 5) (hb : ∀ k ∈ ks, (f k).b = true) (w : OkW tb) (hp : OkPot p) :
    ∃ p' : Int × Int, OkPot p' ∧ m_l_followed_right [potS p, some (.dat (plD ks f)), some (.dat (rlD tb))] = .ok (.dat (.bl true)) [potS p', none, none] := by
  have few := o.few
  obtain ⟨kl0, g0, p1, hp1, q0, l4, hg0, e1⟩ := plan_ex hp 4 (by decide) (by decide)
  have e1' : m_l_plan [potS p, some (.dat (.int 4))] = .ok (.cel .own (plD kl0 g0)) [potS p1, none] := e1
  have r0 := renamed_is q0 fun k hk => (hg0 k hk).1
  have q := okN q0 fun k hk => (hg0 k hk).1
  obtain ⟨kl, ekl⟩ : ∃ kl, kl = kl0.map nn := ⟨_, rfl⟩
  obtain ⟨g, eg⟩ : ∃ g, g = fN g0 := ⟨_, rfl⟩
  rw [← ekl, ← eg] at r0 q
  have gb : ∀ k ∈ kl, (g k).b = true := fun k hk => by rw [eg]; rfl
  have dis : ∀ k ∈ ks, k ∉ kl := fun k hk h => by
    rw [ekl] at h
    obtain ⟨x, hx, e⟩ := List.mem_map.mp h
    exact nn_not_five k (h5 k hk) x (hg0 x hx).1 e.symm
  have kll : kl.length ≤ 4 := by rw [ekl, List.length_map]; exact l4
  obtain ⟨d, p2, hp2, hd, e2⟩ := pick_ex hp1 (ds := (sortS ks).map D.str) (List.ne_nil_of_length_pos (by rw [List.length_map, sortS_length]; exact o.pos)) (by rw [List.length_map, sortS_length]; omega)
  obtain ⟨part, hpart0, rfl⟩ := List.mem_map.mp hd
  have hpart : part ∈ ks := sortS_mem.1 hpart0
  obtain ⟨r, p3, hp3, r1, r2, e3⟩ := draw_ex hp2 (n := 30) (by decide) (by decide)
  obtain ⟨ks', f', p4, hp4, pm, hf, e4⟩ := said_ex o hp3
  obtain ⟨kl', g', p5, hp5, pm', hg, e5⟩ := said_ex q hp4
  have o' := o.said pm hf
  have q' := q.said pm' hg
  have dis' : ∀ k ∈ ks', k ∉ kl' := fun k hk h => dis k (pm.mem_iff.mp hk) (pm'.mem_iff.mp h)
  have hpart' : part ∈ ks' := pm.mem_iff.mpr hpart
  have few' : ks'.length + kl'.length ≤ 12 := by rw [pm.length_eq, pm'.length_eq]; omega
  have fo := followed_is o' q' dis' hpart' few'
  have du := l_followed_is o q dis hpart hb gb
  have same : plD (sortS (ks ++ kl)) (fF ks f g part) = plD (sortS (ks' ++ kl')) (fF ks' f' g' part) := by
    rw [sort_perm (pm.append pm')]
    refine congrArg D.dic (kvF_congr fun k hk => ?_)
    have hk := sortS_mem.1 hk
    by_cases c : k ∈ ks
    · have c' : k ∈ ks' := pm.mem_iff.mpr c
      obtain ⟨h1, h2, h3⟩ := hf k c
      simp [fF, c, c', h1, h2, h3]
    · have c' : k ∉ ks' := fun h => c (pm.mem_iff.mp h)
      have cl : k ∈ kl := (List.mem_append.mp hk).resolve_left c
      obtain ⟨h1, h2, h3⟩ := hg k cl
      simp [fF, c, c', h1, h2, h3]
  rw [same] at du
  have oT := okF o' q' dis' hpart' few'
  obtain ⟨T, eT⟩ : ∃ T, T = plD (sortS (ks' ++ kl')) (fF ks' f' g' part) := ⟨_, rfl⟩
  have shT : Sh 3 70778 T := by rw [eT]; exact plan_sh oT
  have ipT : m_is_plan [some (.dat T)] = .ok (.dat (.bl true)) [none] := by rw [eT]; exact is_plan_is oT
  have srT := same_ready_is (tb := tb) (day := r - 12) oT (by decide) (fun k hk => by unfold fF; split <;> rfl) w (by omega) (by omega)
  rw [← eT] at fo du srT
  obtain ⟨z1, ez1⟩ := two_repr (plan_sh o') (plan_sh q')
  obtain ⟨z2, ez2⟩ := two_repr shT shT
  obtain ⟨x, rest, esk, hx⟩ := first_of o'
  have sh := followed_shared o' hpart' esk hx
  have esk0 : sortS ks = x :: rest := by rw [← esk]; exact (sort_perm pm).symm
  have most := most_right_is (p := p5) o h5 l5 hpart
  have rdy : ∀ k, k ∈ kl → m_ready [some (.dat T), some (.dat (.str k)), some (.dat (.int (r - 12))), some (.dat (wdD tb))] = .ok (.dat (.int (RD tb g' (RD tb f' (r - 12) part) k))) [none, none, none, none] := fun k hk => by
    have hk' := pm'.mem_iff.mpr hk
    rw [eT, ready_is oT (by decide) w (sortS_mem.2 (List.mem_append_right _ hk')), followed_behind o' q' dis' hpart' (by decide) few' hk']
  have rd1 := ready_is (tb := tb) (day := r - 12) o' (by decide) w hpart'
  have rd2 : ∀ k, k ∈ kl → m_ready [some (.dat (plD kl' g')), some (.dat (.str k)), some (.dat (.int (RD tb f' (r - 12) part))), some (.dat (wdD tb))] = .ok (.dat (.int (RD tb g' (RD tb f' (r - 12) part) k))) [none, none, none, none] := fun k hk => ready_is q' (by decide) w (pm'.mem_iff.mpr hk)
  have z0 : 0 < sizeLine := lt_line (by decide)
  have gg : g1 "part" [("part", D.str x)] = some (.str x) := by simp [g1, List.lookup]
  refine ⟨p5, hp5, ?_⟩
  simp -implicitDefEqProofs [m_l_followed_right, b_l_followed_right, e1', r0, dSorted_kv (show ks.length < 64 by omega), e2, e3, e4, e5, ez1, du]
  rw [lcL_all (fun r => .tup [.str r, tabD (tb r)]), lc_len (by rw [List.length_map, rul3_len]; decide)]
  · simp -implicitDefEqProofs [dDict_pairs (g := fun r => tabD (tb r)) rul3_nd, fo, ez1, ez2, callKK_eq, kg_followed, ipT, srT]
    let R : List PySem.Str → SE → Prop := fun pre Γ => ∃ (sw : Sv) (j : Option D), Γ = [potS p5, some (.dat (plD ks f)), some (.dat (rlD tb)), some (.dat (plD kl g)), some (.dat (.str part)), some (.dat (.int (r - 12))), some (.dat (plD ks' f')), some (.dat (plD kl' g')), some (.dat (.str z1)), some (.dat T), some sw, some (.dat T), jk j, none, none, none] ∧ (sw = .cel .own (wdD tb) ∨ sw = .dat (wdD tb))
    generalize hr : mForL _ _ _ _ = r'
    obtain ⟨Γ', e, q⟩ : ∃ Γ', r' = .nx Γ' ∧ R kl Γ' := by
      subst hr
      refine forL_pre R kl ⟨_, none, rfl, .inl rfl⟩ ?_
      rintro pre k post Γ ex ⟨sw, j, rfl, hsw⟩
      have hk : k ∈ kl := by rw [ex]; simp
      refine ⟨_, [potS p5, some (.dat (plD ks f)), some (.dat (rlD tb)), some (.dat (plD kl g)), some (.dat (.str part)), some (.dat (.int (r - 12))), some (.dat (plD ks' f')), some (.dat (plD kl' g')), some (.dat (.str z1)), some (.dat T), some (.dat (wdD tb)), some (.dat T), jk (some (.str k)), none, none, none], by simp; rfl, ?_, _, _, rfl, .inr rfl⟩
      rcases hsw with rfl | rfl
      · simp -implicitDefEqProofs [rdy k hk, rd1, rd2 k hk]
      · simp -implicitDefEqProofs [rdy k hk, rd1, rd2 k hk]
    obtain ⟨sw, j, rfl, hsw⟩ := q
    subst e
    have ix0 : ixD (.lst (D.str x :: rest.map D.str)) (.int 0) = some (.str x) := by
      rw [show (D.int 0 : D) = .int ((0 : Nat) : Int) from rfl, ix_nat (by simp)]; rfl
    simp -implicitDefEqProofs [sh, gg, tryEnd, noSlot, z0, dSorted_kv (show ks.length < 64 by omega), esk0, ix0, eqv_one (o'.prt x hx).asc, most]
  · intro r hr
    simp [lcL_one, ixD_kv hr, make_is (w r (rul_of hr))]
end G
end

section
set_option Elab.async false
set_option linter.all false
set_option maxRecDepth 100000
set_option maxHeartbeats 2000000
namespace G
open PySem PySem.Spec PyProof.Rows L2 DL
theorem eqv_last {x : PySem.Str} (h : Asc x) : dEqv (.lst [.lst [.str x, .bl true]]) (.lst [.lst [.str x, .bl true]]) = some true := by
  have s : SeqAt.shaped (.list [.list [PyData.str x, .bool true]]) = true := by
    have h' : PyData.strOk x = true := h
    simp [SeqAt.shaped, PyData.canLay0, PyData.canLayAll0, PyData.depth, PyData.depthAll, h']
  have e : dEqv (.lst [.lst [.str x, .bl true]]) (.lst [.lst [.str x, .bl true]]) = if ((D.lst [.lst [.str x, .bl true]]).plain && (D.lst [.lst [.str x, .bl true]]).plain && SeqAt.shaped (.list [.list [PyData.str x, .bool true]]) && SeqAt.shaped (.list [.list [PyData.str x, .bool true]])) = true then some (PyData.eqv (.list [.list [PyData.str x, .bool true]]) (.list [.list [PyData.str x, .bool true]])) else none := rfl
  rw [e, s]
  simp [D.plain, D.plainL, PyData.eqv, PyData.eqvAll]
theorem cut1D {d : D} {xs : List D} : slD (.lst (d :: xs)) (some 1) none = some (.cel .own (.lst xs)) := by
  show some (Sv.cel .own (.lst (cutL (d :: xs) (some 1) none))) = _
  unfold cutL
  have e1 : HT.sIx (d :: xs).length 0 (some 1) = 1 := by
    rw [show (some (1 : Int)) = some ((1 : Nat) : Int) from rfl, HT.sIx_nat]
    simp
  have e2 : HT.sIx (d :: xs).length (d :: xs).length none = (d :: xs).length := rfl
  rw [e1, e2]
  simp
theorem fewer_right_is {ks : List PySem.Str} {f : PySem.Str → Pa} {tb : PySem.Str → List Int} {p : Int × Int} (o : OkP 5 ks f) (l5 : ks.length ≤ 5) (hb : ∀ k ∈ ks, (f k).b = true) (w : OkW tb) (hp : OkPot p) :
    ∃ p' : Int × Int, OkPot p' ∧ m_l_fewer_right [potS p, some (.dat (plD ks f)), some (.dat (rlD tb))] = .ok (.dat (.bl true)) [potS p', none, none] := by
  have lo := o.pos
  obtain ⟨ys, p1, pm, hp1, em⟩ := mixed_ex D.str hp (xs := sortS ks) (by rw [sortS_length]; omega)
  have pmk := pm.trans (sortS_perm ks)
  have yn : ys.Nodup := pmk.nodup_iff.mpr o.nd
  have yl := pmk.length_eq
  obtain ⟨y0, yr, rfl⟩ : ∃ y0 yr, ys = y0 :: yr := by
    cases ys with
    | nil => simp at yl; omega
    | cons a r => exact ⟨a, r, rfl⟩
  have ynr := (List.nodup_cons.mp yn).2
  rw [List.length_cons] at yl
  let R : List PySem.Str → SE → Prop := fun pre Γ => ∃ (kc : List PySem.Str) (fc : PySem.Str → Pa) (p : Int × Int) (j4 j5 j6 j7 : Option D), Γ = [potS p, some (.dat (plD ks f)), some (.dat (rlD tb)), some (.dat (plD kc fc)), jk j4, jk j5, jk j6, jk j7, none, none, none] ∧
    OkPot p ∧ OkP 5 kc fc ∧ (∀ k ∈ kc, (fc k).b = true) ∧ kc.length + pre.length = ks.length ∧ ∀ x, x ∈ kc ↔ x ∈ ks ∧ x ∉ pre
  have loop : ∀ (g : MG) (b : MS), True := fun _ _ => trivial
  have z0 : 0 < sizeLine := lt_line (by decide)
  simp -implicitDefEqProofs [m_l_fewer_right, b_l_fewer_right, dSorted_kv (show ks.length < 64 by omega), em, cut1D, -Prod.exists]
  generalize hr : mForL _ _ _ _ = r'
  obtain ⟨Γ', e, q⟩ : ∃ Γ', r' = .nx Γ' ∧ R yr Γ' := by
    subst hr
    refine forL_pre R yr ⟨ks, f, p1, none, none, none, none, rfl, hp1, o, hb, rfl, fun x => by simp⟩ ?_
    rintro pre x post Γ ex ⟨kc, fc, p2, j4, j5, j6, j7, rfl, hp2, oc, cb, cl, cm⟩
    have exl := congrArg List.length ex
    simp at exl
    have c2 : 2 ≤ kc.length := by omega
    have xks : x ∈ ks := pmk.mem_iff.mp (List.mem_cons_of_mem _ (by rw [ex]; simp))
    have npre : x ∉ pre := fun h => by
      rw [ex] at ynr
      exact (List.nodup_append.mp ynr).2.2 x h x (List.mem_cons_self ..) rfl
    have hx : x ∈ kc := (cm x).2 ⟨xks, npre⟩
    obtain ⟨ks', f', p3, hp3, pm', hf, es⟩ := said_ex oc hp2
    have o' := oc.said pm' hf
    have hx' : x ∈ ks' := pm'.mem_iff.mpr hx
    have c2' : 2 ≤ ks'.length := by rw [pm'.length_eq]; exact c2
    have lw := l_without_is oc hx
    have wp := without_part_is o' hx' c2'
    have same : plD (ksW kc x) (fW fc x) = plD (ksW ks' x) (fW f' x) := by
      have e1 : ksW ks' x = ksW kc x := by unfold ksW; rw [sort_perm pm']
      rw [e1]
      refine congrArg D.dic (kvF_congr fun k hk => ?_)
      have hkc := (ksW_mem.1 hk).1
      obtain ⟨h1, h2, h3⟩ := hf k hkc
      obtain ⟨i1, i2, i3⟩ := hf x hx
      simp [fW, nsW, h1, h2, h3, i3]
    have oW := okW o' hx' c2'
    have oW0 := okW oc hx c2
    obtain ⟨T, eT⟩ : ∃ T, T = plD (ksW ks' x) (fW f' x) := ⟨_, rfl⟩
    obtain ⟨r, p4, hp4, r1, r2, ed⟩ := draw_ex hp3 (n := 30) (by decide) (by decide)
    have shT : Sh 3 70778 T := by rw [eT]; exact plan_sh oW
    have ipT : m_is_plan [some (.dat T)] = .ok (.dat (.bl true)) [none] := by rw [eT]; exact is_plan_is oW
    have srT := same_ready_is (tb := tb) (day := r - 12) oW (by decide) (fun k hk => rfl) w (by omega) (by omega)
    rw [same] at lw
    rw [← eT] at lw wp srT
    obtain ⟨z1, ez1⟩ := plan_repr o'
    obtain ⟨z2, ez2⟩ := two_repr shT shT
    refine ⟨_, [potS p4, some (.dat (plD ks f)), some (.dat (rlD tb)), some (.dat T), jk (some (.str x)), jk (some (plD ks' f')), jk (some (.str z1)), jk (some T), none, none, none], by simp; rfl, ?_, ksW kc x, fW fc x, p4, _, _, _, _, by rw [same, ← eT], hp4, oW0, fun k hk => rfl, ?_, fun y => ?_⟩
    · simp -implicitDefEqProofs [es, ez1, lw, wp, ez2, callKK_eq, kg_without_part, ipT, srT, ed]
    · have := ksW_length oc hx
      rw [List.length_append, List.length_singleton]; omega
    · rw [ksW_mem, cm y, List.mem_append, List.mem_singleton]
      constructor
      · rintro ⟨⟨h1, h2⟩, h3⟩
        exact ⟨h1, fun q => q.elim h2 h3⟩
      · rintro ⟨h1, h2⟩
        exact ⟨⟨h1, fun q => h2 (.inl q)⟩, fun q => h2 (.inr q)⟩
  obtain ⟨kc, fc, p2, j4, j5, j6, j7, rfl, hp2, oc, cb, cl, cm⟩ := q
  subst e
  have c1 : kc.length = 1 := by omega
  obtain ⟨last, rest, esk, hl⟩ := first_of oc
  have wl := without_last_is oc hl c1
  have ix0 : ixD (.lst (D.str last :: rest.map D.str)) (.int 0) = some (.str last) := by
    rw [show (D.int 0 : D) = .int ((0 : Nat) : Int) from rfl, ix_nat (by simp)]; rfl
  have gg : gI "part" [("part", D.str last)] = some (.lst [.str last, .bl true]) := by simp [gI, List.lookup]
  refine ⟨p2, hp2, ?_⟩
  simp -implicitDefEqProofs [dSorted_kv (show kc.length < 64 by omega), esk, ix0, wl, gg, tryEnd, noSlot, z0, eqv_last (oc.prt last hl).asc]
end G
end

section
set_option Elab.async false
set_option linter.all false
set_option maxRecDepth 100000
set_option maxHeartbeats 4000000
namespace DL
open PySem PySem.Spec PyProof.Rows L2
/-! ## what is new: a dict of tuples whose third is a list that was not there -/
def NewL (K : PySem.W.Frag) (Hb Hf : Hp) (u : V) : Prop := ∃ (t q : Addr) (a b : V) (ws : List V), u = .ref t ∧ SqT K Hf t [a, b, .ref q] ∧ Hf q = some (.lst ws) ∧ Hb q = none ∧ ws.length ≤ 12
/-- all old stays; v is a new dict of new lists -/
structure NewDict (K : PySem.W.Frag) (cl : ClA) (Hf H Hf' H' : Hp) (v : V) (T : List (Key × D)) : Prop where
  le : Le Hf Hf'
  leH : Le Hf' H'
  keep : ∀ b o, H b = some o → H' b = some o
  av : ∀ b o, H b = some o → Hf b = none → Hf' b = none
  ex : ∃ (p : Addr) (kvs : List (Key × V)), v = .ref p ∧ H' p = some (.dK kvs) ∧ H p = none ∧ Hf' p = none ∧ DenK K cl Hf' kvs T ∧ ∀ e ∈ kvs, NewL K H Hf' e.2
theorem NewL.mono {K : PySem.W.Frag} {Hb Hf Hf' : Hp} {u : V} (h : NewL K Hb Hf u) (l : Le Hf Hf') : NewL K Hb Hf' u := let ⟨t, q, a, b, ws, e, h1, h2, h3⟩ := h; ⟨t, q, a, b, ws, e, l.sqt h1, l.lst h2, h3⟩
def AllDat (Γ : SE) : Prop := ∀ (i : Nat) (s : Sv), Γ[i]? = some (some s) → ∃ d, s = .dat d
theorem AllDat.cel {Γ : SE} {σ : L2.St} {p : Addr} (h : AllDat Γ) : ¬ IsCel Γ σ p := fun ⟨i, k, d, e, _⟩ => by
  obtain ⟨d', e'⟩ := h i _ e
  cases e'
theorem AllDat.own {Γ : SE} {σ : L2.St} {p : Addr} (h : AllDat Γ) : ¬ IsOwn Γ σ p := fun z => h.cel z.cel
section
variable {K : PySem.W.Frag} {cl : ClA} {Γ Γ' : SE} {Hf Hf' H H' : Hp} {σ σ' : L2.St} {p : Addr} {o : HO}
/-- a place that no slot tells of is set -/
theorem Step.hide (st : Step K cl Γ Hf σ H Γ' Hf' σ' H') {i : Nat} (h : Γ'[i]? = some none) {x : Option V} : Step K cl Γ Hf σ H Γ' Hf' (σ'.set i x) H' := by
  have ne : ∀ {j : Nat} {s : Sv}, Γ'[j]? = some (some s) → i ≠ j := fun {j s} e z => by rw [← z, h] at e; cases e
  refine ⟨⟨st.rel.le, by rw [List.length_set]; exact st.rel.len, fun j s hs => ?_, fun j j' k k' d d' v h1 h2 e1 e2 => ?_⟩, st.le, st.fr, st.av, fun p q => ?_, st.there, fun j k d e nk => ?_, fun p q => ?_⟩
  · rw [List.getElem?_set_ne (ne hs)]; exact st.rel.at_ j s hs
  · rw [List.getElem?_set_ne (ne h1)] at e1
    rw [List.getElem?_set_ne (ne h2)] at e2
    exact st.rel.dis j j' k k' d d' v h1 h2 e1 e2
  · obtain ⟨j, k, d, h1, h2, h3⟩ := q
    rw [List.getElem?_set_ne (ne h1)] at h3
    exact st.sub p ⟨j, k, d, h1, h2, h3⟩
  · obtain ⟨d', f1, f2, f3⟩ := st.brw j k d e nk
    exact ⟨d', f1, by rw [List.getElem?_set_ne (ne f1)]; exact f2, f3⟩
  · obtain ⟨j, k, d, h1, h3⟩ := q
    rw [List.getElem?_set_ne (ne h1)] at h3
    exact st.subc p ⟨j, k, d, h1, h3⟩
/-- an expression that is known to end well -/
theorem Wants.run {α υ : Type} {P : SE → Hp → Hp → α → υ → Prop} {E : Value → Option Addr → Hp → Prop} {r : Res α} {a : α} {Q : υ → Hp → Prop} (rel : Rel K cl Γ Hf σ H) (e : r = .ok a Γ')
    (h : ∀ v Hf' H', Step K cl Γ Hf σ H Γ' Hf' σ H' → P Γ' Hf' H' a v → Q v H') : Wants K cl Γ Hf σ H P E r Q where
  rel := rel
  ok := fun a' Γ'' e' => by rw [e] at e'; cases e'; exact h
  exc := fun c as Γ'' e' => by rw [e] at e'; cases e'
  nb := fun e' => by rw [e] at e'; cases e'
end
theorem DenL.three {K : PySem.W.Frag} {cl : ClA} {H : Hp} {xs : List V} {a b c : D} (h : DenL K cl H xs [a, b, c]) : ∃ x y z, xs = [x, y, z] ∧ Den K cl H x a ∧ Den K cl H y b ∧ Den K cl H z c := by
  cases h with
  | cons h1 h => cases h with
    | cons h2 h => cases h with
      | cons h3 h => cases h; exact ⟨_, _, _, rfl, h1, h2, h3⟩
abbrev rLst (K : PySem.W.Frag) : List V → Hp → VK → Prop := fun xs H Q => ∃ p ys, xs = [.ref p] ∧ (SqL K H p ys ∨ SqT K H p ys) ∧ ∀ l, H l = none → Q (.ref l) (upd H l (.lst ys))
end DL
namespace G
open PySem PySem.Spec PyProof.Rows L2 DL
def dSl (P part many x c5 c6 c7 : Option Sv) : SE := [P, part, many, none, x, c5, c6, c7]
abbrev mDel2 : MD := toD (mIf (mBl (toD (mBin dEq (mVar 4) (mPk 1)))) (mBin dAdd (mVar 6) (mPk 2)) (ofD (mVar 6)))
theorem delayed_walk {X : Cx} {cl : ClA} {W : WX} {s0 sF sR sB1 sB2 : Stmt} {tgO eS : Expr} {rL : List V → Hp → VK → Prop} {rSet : TSet}
    (p0 : PS X s0 (tAsg tDNewK (gName 3)))
    (pF : ∀ {wi : TI} {tb : TS}, PI X tgO eS wi → PSs X [sB1, sB2] tb → PS X sF (tFor wi (gName 4) tb))
    (dS : DI X cl W tgO eS (mSeq (toD (mC1 dSorted (mPk 0)))))
    (pB1 : ∃ te, PS X sB1 (tAsg te (gTup X.K 3 (L2.gCons (gName 5) (L2.gCons (gName 6) (L2.gCons (gName 7) L2.gNil))))) ∧ WD X.K cl te W (mIxN 0 (mVar 4)))
    (pB2 : ∃ te1 te2, PS X sB2 (tAsg (tTup (tCons te1 (tCons te2 (tCons (tCB rL (tCons (tVar 7) tNil)) tNil)))) (gSub (tVar 3) (tVar 4) rSet)) ∧ WD X.K cl te1 W (mVar 5) ∧ WD X.K cl te2 W mDel2)
    (pR : PS X sR (tRet (tVar 3))) (hL : ∀ {xs : List V} {H : Hp} {Q : VK}, rLst X.K xs H Q → rL xs H Q) (hS : ∀ {a b c : V} {H : Hp} {Q : Hp → Prop}, rSetD a b c H Q → rSet a b c H Q) :
    ∃ ts, PSs X [s0, sF, sR] ts ∧ ∀ (m : Nat) (ks : List PySem.Str) (f : PySem.Str → Pa) (part : PySem.Str) (many : Int) (v0 : V) (Hf H : Hp) (En : Ends), OkP m ks f → part ∈ ks → Rel X.K cl (dSl (some (.dat (plD ks f))) (some (.dat (.str part))) (some (.dat (.int many))) none none none none) Hf [some v0, some (.str part), some (.int many), none, none, none, none, none] H →
      (∀ (v : V) (Hf' H' : Hp), NewDict X.K cl Hf H Hf' H' v (kvF (sortS ks) fun k => paD (fD f part many k)) → En.rt v H') →
      ts En [some v0, some (.str part), some (.int many), none, none, none, none, none] H := by
  obtain ⟨wi, pI, wI⟩ := dS.ex
  obtain ⟨teI, pB1, wIx⟩ := pB1
  obtain ⟨te1, te2, pB2, w1, w2⟩ := pB2
  refine ⟨_, pss_cons p0 (pss_cons (pF pI (pss_cons pB1 (pss_one pB2))) (pss_one pR)), fun m ks f part many v0 Hf0 H0 En o hpart rel fin => ?_⟩
  have few := o.few
  obtain ⟨P, eP⟩ : ∃ P, P = plD ks f := ⟨_, rfl⟩
  obtain ⟨g, eg⟩ : ∃ g : PySem.Str → D, g = fun k => paD (fD f part many k) := ⟨_, rfl⟩
  obtain ⟨Γ0, eΓ0⟩ : ∃ Γ0 : SE, Γ0 = dSl (some (.dat P)) (some (.dat (.str part))) (some (.dat (.int many))) none none none none := ⟨_, rfl⟩
  obtain ⟨σ0, eσ0⟩ : ∃ σ0 : L2.St, σ0 = [some v0, some (.str part), some (.int many), none, none, none, none, none] := ⟨_, rfl⟩
  rw [← eP] at rel
  rw [← eg] at fin
  rw [← eΓ0, ← eσ0] at rel
  rw [← eσ0]
  have dat : ∀ (c4 c5 c6 c7 : Option D), AllDat (dSl (some (.dat P)) (some (.dat (.str part))) (some (.dat (.int many))) (jk c4) (jk c5) (jk c6) (jk c7)) := fun c4 c5 c6 c7 i s h => by
    have jd : ∀ {c : Option D}, jk c = some s → ∃ d, s = .dat d := fun {c} e => by
      cases c with
      | none => cases e
      | some d => cases e; exact ⟨d, rfl⟩
    match i, h with
    | 0, h => cases h; exact ⟨_, rfl⟩
    | 1, h => cases h; exact ⟨_, rfl⟩
    | 2, h => cases h; exact ⟨_, rfl⟩
    | 3, h => cases h
    | 4, h => exact jd (Option.some.inj h)
    | 5, h => exact jd (Option.some.inj h)
    | 6, h => exact jd (Option.some.inj h)
    | 7, h => exact jd (Option.some.inj h)
    | n + 8, h => cases h
  have z0 : Γ0 = dSl (some (.dat P)) (some (.dat (.str part))) (some (.dat (.int many))) (jk none) (jk none) (jk none) (jk none) := eΓ0
  -- found = {}
  show ∀ p, H0 p = none → _
  intro p np
  have nfp : Hf0 p = none := rel.le.no np
  have st0 : Step X.K cl Γ0 Hf0 σ0 H0 Γ0 Hf0 (σ0.set 3 (some (.ref p))) (upd H0 p (.dK [])) := (rel.grown (o := .dK []) np).hide (by rw [eΓ0]; rfl)
  have eσ1 : σ0.set 3 (some (.ref p)) = [some v0, some (.str part), some (.int many), some (.ref p), none, none, none, none] := by rw [eσ0]; rfl
  -- the loop
  have seq : mSeq (toD (mC1 dSorted (mPk 0))) Γ0 = .ok ((sortS ks).map D.str) Γ0 := by
    rw [eΓ0, eP]
    simp [dSl, dSorted_kv (show ks.length < 64 by omega)]
  refine wI Γ0 Hf0 _ _ _ (Wants.run st0.rel seq fun J Hf1 H1 st1 it => ?_)
  have b1 := st0.trans st1
  have av1 : Hf1 p = none := st1.av p (.dK []) upd_same nfp (by rw [z0]; exact AllDat.own (dat _ _ _ _))
  have hp1 : H1 p = some (.dK []) := st1.fr p _ upd_same (by rw [z0]; exact AllDat.own (dat _ _ _ _))
  let LI : Nat → L2.St → Hp → Prop := fun i σ H => ∃ (Hf : Hp) (kvs : List (Key × V)) (c4 c5 c6 c7 : Option D) (x4 x5 x6 x7 : Option V), i ≤ (sortS ks).length ∧ σ = [some v0, some (.str part), some (.int many), some (.ref p), x4, x5, x6, x7] ∧
    Step X.K cl Γ0 Hf0 σ0 H0 (dSl (some (.dat P)) (some (.dat (.str part))) (some (.dat (.int many))) (jk c4) (jk c5) (jk c6) (jk c7)) Hf σ H ∧
    H p = some (.dK kvs) ∧ Hf p = none ∧ DenK X.K cl Hf kvs (kvF ((sortS ks).take i) g) ∧ (∀ e ∈ kvs, NewL X.K H0 Hf e.2) ∧ Le Hf1 Hf ∧ ∀ b o u, Hf1 b = some u → H1 b = some o → H b = some o
  refine ⟨fun i mm σ H => mm = (sortS ks).length - i ∧ LI i σ H, ⟨_, rfl, Hf1, [], none, none, none, none, none, none, none, none, Nat.zero_le _, eσ1, z0 ▸ b1, hp1, av1, .nil, fun e he => by simp at he, .refl _, fun _ _ _ _ h => h⟩, ?_⟩
  rintro i _ σ H ⟨rfl, Hf, kvs, c4, c5, c6, c7, x4, x5, x6, x7, hi, rfl, st, hp, nf, dk, nl, le1, kept⟩
  by_cases lt : i < (sortS ks).length
  · refine .inr ?_
    obtain ⟨go, yl⟩ := it.go i (.str (sortS ks)[i]) Hf H (by simp [lt]) le1 st.rel.le kept
    refine ⟨go, LI (i + 1), fun σ' H' l => ⟨_, by omega, rfl, l⟩, fun x' H2 y => ?_⟩
    obtain ⟨Hf2, st2, hx'⟩ := (yl x' H2 y).step st.rel
    cases hx'
    obtain ⟨x, ex⟩ : ∃ x, x = (sortS ks)[i] := ⟨_, rfl⟩
    rw [← ex]
    have hx : x ∈ ks := sortS_mem.1 (by rw [ex]; exact List.getElem_mem lt)
    have nl12 := o.ns_len hx
    have px : ∀ {c : Addr} {H1 H2 : Hp} {Γ Γ' : SE} {Hf Hf' : Hp} {σ σ' : L2.St} {u : HO}, AllDat Γ → Step X.K cl Γ Hf σ H1 Γ' Hf' σ' H2 → H1 c = some u → H2 c = some u := fun ad s e => s.fr _ _ e ad.own
    have pf : ∀ {c : Addr} {H1 H2 : Hp} {Γ Γ' : SE} {Hf Hf' : Hp} {σ σ' : L2.St} {u : HO}, AllDat Γ → Step X.K cl Γ Hf σ H1 Γ' Hf' σ' H2 → H1 c = some u → Hf c = none → Hf' c = none := fun ad s e n => s.av _ _ e n ad.own
    -- one
    have st3 := (st.trans st2).store (i := 4) (v := .str x) (s := .dat (.str x)) (.str x) (by simp [dSl]) (fun k d e => by
      obtain ⟨d', e'⟩ := dat c4 c5 c6 c7 4 _ e
      cases e')
    have hp2 : H2 p = some (.dK kvs) := px (dat _ _ _ _) st2 hp
    have nf2 : Hf2 p = none := pf (dat _ _ _ _) st2 hp nf
    have eΓ3 : (dSl (some (.dat P)) (some (.dat (.str part))) (some (.dat (.int many))) (jk c4) (jk c5) (jk c6) (jk c7)).set 4 (some (.dat (.str x))) = dSl (some (.dat P)) (some (.dat (.str part))) (some (.dat (.int many))) (jk (some (.str x))) (jk c5) (jk c6) (jk c7) := rfl
    rw [eΓ3] at st3
    show teI _ H2 _
    have ix : mIxN 0 (mVar 4) (dSl (some (.dat P)) (some (.dat (.str part))) (some (.dat (.int many))) (jk (some (.str x))) (jk c5) (jk c6) (jk c7)) = .ok (paD (f x)) (dSl (some (.dat P)) (some (.dat (.str part))) (some (.dat (.int many))) (jk (some (.str x))) (jk c5) (jk c6) (jk c7)) := by
      rw [eP]
      simp [dSl, ixD_kv hx]
    refine wIx _ Hf2 _ H2 _ (Wants.run st3.rel ix fun v4 Hf4 H4 st4 d4 => ?_)
    have hp4 := px (dat _ _ _ _) st4 hp2
    have nf4 := pf (dat _ _ _ _) st4 hp2 nf2
    cases (show Den X.K cl Hf4 v4 (.tup [.str (f x).r, .int (f x).c, G.nd (f x).b (f x).ns]) from d4) with
    | @tup a4 xs4 _ q4 dl4 =>
      obtain ⟨y1, y2, y3, rfl, g1, g2, g3⟩ := dl4.three
      cases g1
      cases g2
      refine ⟨a4, _, rfl, st4.rel.le.sqt q4, rfl, _, _, rfl, _, _, rfl, _, _, rfl, rfl, ?_⟩
      have noc : ∀ {c4 c5 c6 c7 : Option D} {i : Nat}, ∀ k d, (dSl (some (.dat P)) (some (.dat (.str part))) (some (.dat (.int many))) (jk c4) (jk c5) (jk c6) (jk c7))[i]? = some (some (.cel k d)) → k = .own := fun {c4 c5 c6 c7 i} k d e => by
        obtain ⟨d', e'⟩ := dat c4 c5 c6 c7 i _ e
        cases e'
      have st5 := (st3.trans st4).store (i := 5) (v := .str (f x).r) (s := .dat (.str (f x).r)) (.str _) (by simp [dSl]) noc
      have eΓ5 : (dSl (some (.dat P)) (some (.dat (.str part))) (some (.dat (.int many))) (jk (some (.str x))) (jk c5) (jk c6) (jk c7)).set 5 (some (.dat (.str (f x).r))) = dSl (some (.dat P)) (some (.dat (.str part))) (some (.dat (.int many))) (jk (some (.str x))) (jk (some (.str (f x).r))) (jk c6) (jk c7) := rfl
      rw [eΓ5] at st5
      have st6 := st5.store (i := 6) (v := .int (f x).c) (s := .dat (.int (f x).c)) (.int _) (by simp [dSl]) noc
      have eΓ6 : (dSl (some (.dat P)) (some (.dat (.str part))) (some (.dat (.int many))) (jk (some (.str x))) (jk (some (.str (f x).r))) (jk c6) (jk c7)).set 6 (some (.dat (.int (f x).c))) = dSl (some (.dat P)) (some (.dat (.str part))) (some (.dat (.int many))) (jk (some (.str x))) (jk (some (.str (f x).r))) (jk (some (.int (f x).c))) (jk c7) := rfl
      rw [eΓ6] at st6
      have st7 := st6.store (i := 7) (v := y3) (s := .dat (G.nd (f x).b (f x).ns)) g3 (by simp [dSl]) noc
      have eΓ7 : (dSl (some (.dat P)) (some (.dat (.str part))) (some (.dat (.int many))) (jk (some (.str x))) (jk (some (.str (f x).r))) (jk (some (.int (f x).c))) (jk c7)).set 7 (some (.dat (G.nd (f x).b (f x).ns))) = dSl (some (.dat P)) (some (.dat (.str part))) (some (.dat (.int many))) (jk (some (.str x))) (jk (some (.str (f x).r))) (jk (some (.int (f x).c))) (jk (some (G.nd (f x).b (f x).ns))) := rfl
      rw [eΓ7] at st7
      obtain ⟨Γ7, e7⟩ : ∃ Γ7, Γ7 = dSl (some (.dat P)) (some (.dat (.str part))) (some (.dat (.int many))) (jk (some (.str x))) (jk (some (.str (f x).r))) (jk (some (.int (f x).c))) (jk (some (G.nd (f x).b (f x).ns))) := ⟨_, rfl⟩
      obtain ⟨σ7, es7⟩ : ∃ σ7 : L2.St, σ7 = [some v0, some (.str part), some (.int many), some (.ref p), some (.str x), some (.str (f x).r), some (.int (f x).c), some y3] := ⟨_, rfl⟩
      have ad7 : AllDat Γ7 := by rw [e7]; exact dat _ _ _ _
      have es7' : (((([some v0, some (.str part), some (.int many), some (.ref p), x4, x5, x6, x7] : L2.St).set 4 (some (.str x))).set 5 (some (.str (f x).r))).set 6 (some (.int (f x).c))).set 7 (some y3) = σ7 := es7.symm
      rw [← e7, es7'] at st7
      show te1 ((((([some v0, some (.str part), some (.int many), some (.ref p), x4, x5, x6, x7] : L2.St).set 4 (some (.str x))).set 5 (some (.str (f x).r))).set 6 (some (.int (f x).c))).set 7 (some y3)) H4 _
      rw [es7']
      -- the rule
      have m1 : mVar 5 Γ7 = .ok (.str (f x).r) Γ7 := by rw [e7]; rfl
      refine w1 Γ7 Hf4 σ7 H4 _ (Wants.run st7.rel m1 fun v8 Hf8 H8 st8 d8 => ?_)
      cases (show Den X.K cl Hf8 v8 (.str (f x).r) from d8)
      -- the count
      have m2 : mDel2 Γ7 = .ok (.int (fD f part many x).c) Γ7 := by
        rw [e7]
        by_cases c : x = part
        · have eb : (x == part) = true := by simpa using c
          simp [mDel2, dSl, eb, fD, c]
        · have eb : (x == part) = false := by simpa using c
          simp [mDel2, dSl, eb, fD, c]
      refine w2 Γ7 Hf8 σ7 H8 _ (Wants.run st8.rel m2 fun v9 Hf9 H9 st9 d9 => ?_)
      cases (show Den X.K cl Hf9 v9 (.int (fD f part many x).c) from d9)
      have hp9 := px ad7 st9 (px ad7 st8 hp4)
      have nf9 := pf ad7 st9 (px ad7 st8 hp4) (pf ad7 st8 hp4 nf4)
      have st10 := (st7.trans st8).trans st9
      have den3 : Den X.K cl Hf9 y3 (G.nd (f x).b (f x).ns) := Den.mono st9.le (Den.mono st8.le g3)
      -- the list
      obtain ⟨a3, e3, rd3⟩ : ∃ a3, y3 = .ref a3 ∧ (SqL X.K H9 a3 ((f x).ns.map V.str) ∨ SqT X.K H9 a3 ((f x).ns.map V.str)) := by
        revert den3
        cases (f x).b
        · intro den3
          cases (show Den X.K cl Hf9 y3 (.tup ((f x).ns.map D.str)) from den3) with
          | tup q5 l5 => rw [l5.of_strs] at q5; exact ⟨_, rfl, .inr (st9.rel.le.sqt q5)⟩
        · intro den3
          cases (show Den X.K cl Hf9 y3 (.lst ((f x).ns.map D.str)) from den3) with
          | lst q5 l5 => rw [l5.of_strs] at q5; exact ⟨_, rfl, .inl (SqL.of (st9.rel.le.lst q5))⟩
      subst e3
      show tCB rL (tCons (tVar 7) tNil) σ7 H9 _
      refine ⟨.ref a3, by rw [es7]; rfl, hL ⟨a3, _, rfl, rd3, fun q nq => ?_⟩⟩
      show ([V.str (f x).r, .int (fD f part many x).c, .ref q].length ≤ sizeLine) ∧ _
      refine ⟨le_line (by simp), fun t nt => ?_⟩
      have st11 := st10.trans (st9.rel.newDat (o := .lst ((f x).ns.map V.str)) nq)
      have nq0 : H0 q = none := by
        cases e : H0 q with
        | none => rfl
        | some u => exact absurd nq (st10.there q (by rw [e]; exact fun z => nomatch z))
      have st12 := st11.trans (st11.rel.newDat (o := .tup [V.str (f x).r, .int (fD f part many x).c, .ref q]) nt)
      -- found[one] = ..
      have nqp : p ≠ q := fun z => by rw [← z, hp9] at nq; cases nq
      have hq10 : upd H9 q (.lst ((f x).ns.map V.str)) p = some (.dK kvs) := by rw [upd_ne nqp]; exact hp9
      have ntp : p ≠ t := fun z => by rw [← z, hq10] at nt; cases nt
      have ntq : q ≠ t := fun z => by rw [← z, upd_same] at nt; cases nt
      have hp11 : upd (upd H9 q (.lst ((f x).ns.map V.str))) t (.tup [V.str (f x).r, .int (fD f part many x).c, .ref q]) p = some (.dK kvs) := by rw [upd_ne ntp]; exact hq10
      have nf11 : upd (upd Hf9 q (.lst ((f x).ns.map V.str))) t (.tup [V.str (f x).r, .int (fD f part many x).c, .ref q]) p = none := by rw [upd_ne ntp, upd_ne nqp]; exact nf9
      have le9 : Le Hf Hf9 := ((st2.le.trans st4.le).trans st8.le).trans st9.le
      have nfq : Hf9 q = none := st9.rel.le.no nq
      have le10 : Le Hf9 (upd Hf9 q (.lst ((f x).ns.map V.str))) := .new nfq
      have nft : upd Hf9 q (.lst ((f x).ns.map V.str)) t = none := st11.rel.le.no nt
      have le11 := le10.trans (Le.new (o := .tup [V.str (f x).r, .int (fD f part many x).c, .ref q]) nft)
      have st13 := st12.poke (o := .dK (putK kvs (.inr x) (.ref t))) np nf11 ad7.cel
      have np' : x ∉ (sortS ks).take i := fun h => by
        have n := sortS_nodup.2 o.nd
        obtain ⟨j, hj, e⟩ := List.getElem_of_mem h
        rw [List.length_take] at hj
        rw [List.getElem_take] at e
        have h1 := n.idxOf_getElem j (by omega)
        have h2 := n.idxOf_getElem i lt
        rw [e] at h1
        rw [← ex, h1] at h2
        omega
      have et : (sortS ks).take (i + 1) = (sortS ks).take i ++ [x] := by rw [List.take_add_one, List.getElem?_eq_getElem lt, ← ex]; rfl
      have kl : kvs.length = i := by
        have := dk.length
        rw [kvF_length, List.length_take] at this
        omega
      have dx : Den X.K cl (upd (upd Hf9 q (.lst ((f x).ns.map V.str))) t (.tup [V.str (f x).r, .int (fD f part many x).c, .ref q])) (.ref t) (g x) := by
        rw [eg]
        exact .tup (.inl (.inl upd_same)) (.cons (.str _) (.cons (.int _) (.cons (Den.lst (ds := (f x).ns.map D.str) (by rw [upd_ne ntq, upd_same]) DenL.strs) .nil)))
      have keyn : (kvs.any fun kv => decide (kv.1 = (Sum.inr x : Key))) = false := by
        rw [any_keys dk.keys, List.any_eq_false]
        intro kv hkv
        obtain ⟨z, hz, rfl⟩ := List.mem_map.mp hkv
        simp only [decide_eq_true_eq]
        exact fun w => np' (by cases w; exact hz)
      have put : putK kvs (.inr x : Key) (.ref t) = kvs ++ [(.inr x, .ref t)] := by
        unfold putK
        rw [if_neg (by rw [keyn]; simp)]
      have sl : (sortS ks).length ≤ 12 := by rw [sortS_length]; exact few
      refine ⟨.ref p, by rw [es7]; rfl, .str x, by rw [es7]; rfl, hS ⟨p, _, rfl, .inl ⟨kvs, .inr x, hp11, rfl, lt_line (by omega), rfl⟩, ?_⟩⟩
      refine ⟨_, putK kvs (.inr x) (.ref t), some (.str x), some (.str (f x).r), some (.int (f x).c), some (G.nd (f x).b (f x).ns), _, _, _, _, by omega, es7, e7 ▸ st13, upd_same, nf11, ?_, ?_, (le1.trans le9).trans le11, fun b ob u h1 h2 => ?_⟩
      · rw [et, ← putD_new np' rfl]
        exact (DenK.mono (le9.trans le11) dk).put _ dx
      · intro e he
        rw [put] at he
        rcases List.mem_append.mp he with he | he
        · exact (nl e he).mono (le9.trans le11)
        · rw [List.mem_singleton.mp he]
          exact ⟨t, q, _, _, _, rfl, .inl (.inl upd_same), by rw [upd_ne ntq, upd_same], nq0, by simpa using nl12⟩
      · have h9 := px ad7 st9 (px ad7 st8 (px (dat _ _ _ _) st4 (px (dat _ _ _ _) st2 (kept b ob u h1 h2))))
        have n1 : b ≠ q := fun z => by rw [← z, h9] at nq; cases nq
        have h10 : upd H9 q (.lst ((f x).ns.map V.str)) b = some ob := by rw [upd_ne n1]; exact h9
        have n2 : b ≠ t := fun z => by rw [← z, h10] at nt; cases nt
        have n3 : b ≠ p := fun z => by rw [z, av1] at h1; cases h1
        rw [upd_ne n3, upd_ne n2]
        exact h10
  · have e : i = (sortS ks).length := by omega
    subst e
    rw [List.take_length] at dk
    refine .inl ⟨it.stop Hf H (by simpa using le1) st.rel.le kept |> (by simpa using ·), ?_⟩
    have ad0 : AllDat Γ0 := by rw [z0]; exact dat _ _ _ _
    exact ⟨.ref p, rfl, fin (.ref p) Hf H ⟨st.le, st.rel.le, fun b ob e => st.fr b ob e ad0.own, fun b ob e n => st.av b ob e n ad0.own, p, kvs, rfl, hp, np, nf, dk, nl⟩⟩
end G
end

section
set_option Elab.async false
set_option linter.all false
set_option maxRecDepth 100000
set_option maxHeartbeats 4000000
namespace DL
open PySem PySem.Spec PyProof.Rows L2
/-! ## a def by what it asks of its arguments -/
structure FnP (P : Program) (w : World) (K : PySem.W.Frag) (mg : PySem.Str → Option Value) (base : Heap) (k : Nat) (f : Addr) (fd : FuncData) (ps : List PySem.Str) (Pre : List V → Hp → VK → Prop) : Prop where
  run : ∀ (A : Around) (fr : List Env) (s : Shared) (H : Hp) (as : Args) (us : List Value) (vs : List V) (Q : VK) (E : XK),
    Room k A → A.guards = some [] → Env0 P w K mg base A fr s H → BindsTo s fd as (ps.zip us) → Vals vs us → vs.length = ps.length → Pre vs H Q →
    codeAny (model P w) A (.call (.ref f) as) (CR (CX P w) fr P w H s Q E) s
theorem FnP.mono {P : Program} {w : World} {K : PySem.W.Frag} {mg : PySem.Str → Option Value} {base : Heap} {j k : Nat} {f : Addr} {fd : FuncData} {ps : List PySem.Str} {Pre : List V → Hp → VK → Prop} (F : FnP P w K mg base j f fd ps Pre) (h : j ≤ k) : FnP P w K mg base k f fd ps Pre :=
  ⟨fun A fr s H as us vs Q E r => F.run A fr s H as us vs Q E (r.mono h)⟩
theorem FnP.of {P : Program} {w : World} {K : PySem.W.Frag} {mg : PySem.Str → Option Value} {base : Heap} {k : Nat} {f : Addr} {fd : FuncData} {x qual : PySem.Str} {params : Arguments} {body : List Stmt} {scope : Scope} {dvs : List V} {kws : List (PySem.Str × V)} {N ps : List PySem.Str} {Pre : List V → Hp → VK → Prop}
    (F : FunD K x qual params body scope dvs kws f fd) (S : FnScope N ps scope)
    (hb : ∀ (cdv : Value) (A : Around) (fr : List Env) (s : Shared) (H : Hp) (E : XK), Room k (A.deeper (envOfC qual scope s.heap.objs.size f cdv)) → A.guards = some [] →
      ∃ ts, PSs (cxOf (CX P w) P w K mg base N qual scope f cdv A fr s H E) body ts ∧ ∀ (vs : List V) (Q : VK), vs.length = ps.length → Pre vs H Q → ts ⟨fun _ H' => Q .non H', Q, fun _ _ => False, fun _ _ => False⟩ (padS N.length vs) H) : FnP P w K mg base (k + 1) f fd ps Pre := by
  obtain ⟨oc, od, dV, kV, doc, pm, an, cdv, ct, osl, rfl, at_f, code, _, _⟩ := F.ex
  refine ⟨fun A fr s H as us vs Q E room gds e0 bnd rv lv pre => ?_⟩
  have inK : K.In s.heap := e0.mod.kin.keeps fun b o q => (e0.bs b o q).1
  have nolim : s.heap.NoLimit := e0.mod.nolimit.keeps fun b o q => (e0.bs b o q).1
  have kinds : ∀ y ∈ ps.zip us, scope.names.lookup y.1 = some .local ∨ (scope.names.lookup y.1 = some .cell ∧
      ((cellsFrom (s.heap.objs.size + 1) scope.names []).lookup y.1).isSome = true) := by
    rintro ⟨y, u⟩ hy
    exact (S.par y (List.of_mem_zip hy).1).imp id fun q => ⟨q, PySem.W.cellsFrom_some _ _ _ (.inl q)⟩
  refine codeAny_call_function room.depth (inK _ _ at_f) rfl S.co S.gen rfl
    (PySem.W.codeRec_of inK code) (bnd _ _ _ _ ?_)
  refine wpAny_newFunctionEnv_cells S.kind kinds fun env he s1 new => ?_
  subst he
  refine ⟨nolim.keeps new.toInCall.keep, codeAny_func ?_⟩
  obtain ⟨t, run, word⟩ := hb cdv A fr s H E (room.deeper _) gds
  have i0 := inv_start (CX := CX P w) (mg := mg) (E := E) S room.hd e0 lv rv new
  have ret : ∀ {σ' : L2.St} {H' : Hp} {v : V} {u : Value} {s' : Shared}, Inv (cxOf (CX P w) P w K mg base N qual scope f cdv A fr s H E) [] σ' H' s' → RelV v u → Q v H' → CE fr P w H s Q u s' :=
    fun {σ' H' v u s'} j r q => ⟨v, H', j.os, j.bare, j.base, j.hok, r, q⟩
  refine wpAny_mono (run.run [] s1 (start N vs) H _ i0 (word vs Q lv pre)) (fun fl s' hs => ?_) fun e s' hs => hs
  cases fl with
  | next => obtain ⟨σ', H', j, q⟩ := hs; exact ret (v := .non) (u := .none) j rfl q
  | ret u => obtain ⟨v, σ', H', j, r, q⟩ := hs; exact ret j r q
  | brk => obtain ⟨_, _, _, q⟩ := hs; exact q.elim
  | cont => obtain ⟨_, _, _, q⟩ := hs; exact q.elim
section
variable {X : Cx} {W : WX} {k : Nat} {f : Addr} {fd : FuncData} {ps : List PySem.Str} {x : PySem.Str} {p pos : Pos} {e : Expr} {es : List Expr} {Pre : List V → Hp → VK → Prop}
theorem pe_callP {ta : TA} (F : FnP X.prog X.w X.K X.mg X.base k f fd ps Pre) (hr : Room k X.A) (hG : X.A.guards = some []) (tk : Takes X W0) (hg : Gl X x) (hm : X.mg x = some (.ref f)) (hk : PySem.W.keepIn X.K (.ref f) = true) (hb : Binds X.K fd ps [])
    (ha : PA X (e :: es) ta) (hdb : (x == ("__debug__" : PySem.Str)) = false := by decide) (he : starEach (e :: es) X.env = (false, eval e X.env) :: starEach es X.env := by rfl) (hpl : (backTo pos (starEach es X.env)).any (·.1) = false := by rfl) :
    PE X (.Call (.Name x p) (e :: es) [] pos) (fun σ H Q => ta σ H fun vs H1 => vs.length = ps.length ∧ Pre vs H1 Q) := by
  refine ⟨fun pins s σ H Q I h => wpAny_Call_Name_kw (ld_glob I hg hm ?_ hdb)⟩
  refine PySem.W.callWith_K (h₀ := X.base) I.ok.mod.kin hk (thn (ha.run pos pins s σ H _ I h) fun us s1 ⟨vs, H1, I1, r, hl, pre⟩ => ⟨I1.kIn, ?_⟩) he hpl
  have hb' := hb s1 us I1.kIn (by rw [List.append_nil, ← r.length]; exact hl)
  rw [List.append_nil] at hb'
  refine wpAny_call (codeAny_mono (F.run X.A X.stack s1 H1 _ us vs Q (fun c d H' => W0 c d σ H') hr hG I1.env0 hb' r hl pre) fun r s' q => ?_)
  cases r with
  | error e => exact tk e s' (XE.of_call I1 (fun _ _ _ z => z) q)
  | ok fl => cases fl with
    | ret u => exact I1.after q
    | next => exact q.elim
    | brk => exact q.elim
    | cont => exact q.elim
end
/-! ## statements that leave some places as they are -/
section
variable {K : PySem.W.Frag} {cl : ClA} {Γ Γ' Γ1 : SE} {Hf H : Hp} {σ : L2.St} {W : WX} {r : RS} {En : Ends}
theorem WantsS.run (rel : Rel K cl Γ Hf σ H) (e : r = .nx Γ') (h : ∀ Hf' σ' H', Step K cl Γ Hf σ H Γ' Hf' σ' H' → En.nx σ' H') : WantsS K cl Γ Hf σ H W r En where
  rel := rel
  nx := fun Γ'' e' => by rw [e] at e'; cases e'; exact h
  rt := fun s Γ'' e' => by rw [e] at e'; cases e'
  bk := fun Γ'' e' => by rw [e] at e'; cases e'
  ct := fun Γ'' e' => by rw [e] at e'; cases e'
  ex := fun c as Γ'' e' => by rw [e] at e'; cases e'
  nb := fun e' => by rw [e] at e'; cases e'
def WF (K : PySem.W.Frag) (cl : ClA) (ts : TS) (m : MS) (as : List Nat) : Prop := ∀ Γ Hf σ H (En : Ends) Γ', m Γ = .nx Γ' → Rel K cl Γ Hf σ H →
  (∀ Hf' σ' H', Step K cl Γ Hf σ H Γ' Hf' σ' H' → (∀ i, i ∉ as → σ'[i]? = σ[i]?) → En.nx σ' H') → ts En σ H
end
structure DSF (X : Cx) (cl : ClA) (s : Stmt) (m : MS) (as : List Nat) : Prop where
  ex : ∃ ts, PS X s ts ∧ WF X.K cl ts m as
/-- statements ahead of others -/
structure DPre (X : Cx) (cl : ClA) (s : List Stmt) (m : MS) (as : List Nat) : Prop where
  ex : ∀ (rest : List Stmt) (u : TS), PSs X rest u → ∃ ts, PSs X (s ++ rest) ts ∧ ∀ Γ Hf σ H (En : Ends) Γ', m Γ = .nx Γ' → Rel X.K cl Γ Hf σ H →
    (∀ Hf' σ' H', Step X.K cl Γ Hf σ H Γ' Hf' σ' H' → (∀ i, i ∉ as → σ'[i]? = σ[i]?) → u En σ' H') → ts En σ H
section
variable {X : Cx} {cl : ClA} {W : WX} {e c : Expr} {st : Stmt} {a rest : List Stmt} {pos : Pos} {m : ME} {mt : MT} {ma mr : MS} {r : MEs} {as bs : List Nat}
/-- if c: return ..: behind it the test failed -/
theorem dsf_if (hc : DT X cl W c mt) (ha : DSs X cl W a ma) (nn : ∀ Γ Γ', ma Γ ≠ .nx Γ') : DSF X cl (.If c a [] pos) (mIfS mt ma mNx) as := by
  obtain ⟨tc, pc, wc⟩ := hc.ex
  obtain ⟨ta, pa, wa⟩ := ha.ex
  refine ⟨_, ps_if pc pa pss_nil, fun Γ Hf σ H En Γ' em rel k => ?_⟩
  have em' : (mt Γ).bndS (fun t Γ1 => if t = true then ma Γ1 else mNx Γ1) = .nx Γ' := em
  cases et : mt Γ with
  | bad => rw [et] at em'; cases em'
  | exc c as Γ1 => rw [et] at em'; cases em'
  | ok t Γ1 =>
    rw [et] at em'
    cases t with
    | true => exact (nn Γ1 Γ' em').elim
    | false =>
      have e1 : Γ1 = Γ' := by cases em'; rfl
      subst e1
      refine wc Γ Hf σ H _ ⟨rel, fun b Γ2 e2 Hf' H' st => ?_, fun c as Γ2 e2 => ?_, fun z => ?_⟩
      · rw [et] at e2; cases e2
        exact k Hf' σ H' st fun _ _ => rfl
      · rw [et] at e2; cases e2
      · rw [et] at z; cases z
theorem ret_never {m : ME} : ∀ Γ Γ', mRet m Γ ≠ .nx Γ' := fun Γ Γ' h => by
  have h' : (m Γ).bndS (fun s Γ1 => .rt s Γ1) = .nx Γ' := h
  cases e : m Γ with
  | ok s Γ1 => rw [e] at h'; cases h'
  | exc c xs Γ1 => rw [e] at h'; cases h'
  | bad => rw [e] at h'; cases h'
theorem dsf_set (i : Nat) {x : PySem.Str} {pos' : Pos} (hN : X.N.Nodup) (he : DE X cl W e m) (hi : X.N[i]? = some x := by rfl) (hx : Loc X.env.scope x := by first | exact .inl rfl | exact .inr rfl) (hs : swapsWith e (some (.Name x pos')) pos.line X.env = pure false := by rfl) (hf : X.fn x = true ∨ X.env.scope.names.lookup x = some .local := by first | exact .inl rfl | exact .inr rfl | assumption) :
    DSF X cl (.Assign [.Name x pos'] e pos) (mAsg m (gNm i)) [i] := by
  obtain ⟨te, pe, we⟩ := he.ex
  refine ⟨_, ps_set hN hi hx pe hs hf, fun Γ Hf σ H En Γ' em rel k => ?_⟩
  have em' : (m Γ).bndS (fun s Γ1 => DL.optS (gNm i s Γ1)) = .nx Γ' := em
  cases ev : m Γ with
  | bad => rw [ev] at em'; cases em'
  | exc c as Γ1 => rw [ev] at em'; cases em'
  | ok s Γ1 =>
    rw [ev] at em'
    have em2 : DL.optS (gNm i s Γ1) = .nx Γ' := em'
    cases eg : gNm i s Γ1 with
    | none => rw [eg] at em2; cases em2
    | some Γ2 =>
      rw [eg] at em2
      cases em2
      obtain ⟨hl, rfl, hn⟩ := gNm_some eg
      exact we Γ Hf σ H _ (Wants.run rel ev fun v Hf1 H1 st1 t1 => k Hf1 _ H1 (st1.store t1 hl hn) fun j hj => List.getElem?_set_ne fun z => hj (by rw [z]; exact List.mem_singleton.mpr rfl))
theorem dsf_par (i j : Nat) {x y : PySem.Str} {a b : Expr} {px py pt : Pos} {kt k2 pt2} (hc : X.calm = true) (hN : X.N.Nodup) (ha : DEs X cl W [a, b] r) (hij : i ≠ j := by decide) (hi : X.N[i]? = some x := by rfl) (hj : X.N[j]? = some y := by rfl)
    (hx : X.env.scope.names.lookup x = some .local := by rfl) (hy : X.env.scope.names.lookup y = some .local := by rfl)
    (hw : swappedStores [.Tuple [.Name x px, .Name y py] kt pt] (.Tuple [a, b] k2 pt2) X.env = pure (some [x, y]) := by rfl)
    (hs : swapsWithSole [.Tuple [.Name x px, .Name y py] kt pt] (.Tuple [a, b] k2 pt2) pos.line X.env = pure false := by rfl) :
    DSF X cl (.Assign [.Tuple [.Name x px, .Name y py] kt pt] (.Tuple [a, b] k2 pt2) pos) (mPar i j r) [i, j] := by
  obtain ⟨ta, pa, wa⟩ := ha.ex
  refine ⟨_, ps_par hc hN hi hj hij hx hy pa hw hs, fun Γ Hf σ H En Γ' em rel k => ?_⟩
  have em' : (r Γ).bndS (fun ss Γ1 => match ss with | [a, b] => DL.optS ((gNm i a Γ1).bind (gNm j b)) | _ => .bad) = .nx Γ' := em
  cases ev : r Γ with
  | bad => rw [ev] at em'; cases em'
  | exc c as Γ1 => rw [ev] at em'; cases em'
  | ok ss Γ1 =>
    rw [ev] at em'
    refine wa Γ Hf σ H _ (Wants.run rel ev fun vs Hf1 H1 st1 t1 => ?_)
    match ss, t1, em' with
    | [s1, s2], .cons (v := v) (vs := [u]) h1 ap (.cons h2 _ .nil), em' =>
      have em2 : DL.optS ((gNm i s1 Γ1).bind (gNm j s2)) = .nx Γ' := em'
      cases eg : (gNm i s1 Γ1).bind (gNm j s2) with
      | none => rw [eg] at em2; cases em2
      | some Γ2 =>
        rw [eg] at em2
        cases em2
        obtain ⟨Γ3, e3, e4⟩ := Option.bind_eq_some_iff.mp eg
        obtain ⟨hl, rfl, hn⟩ := gNm_some e3
        obtain ⟨hl2, rfl, hn2⟩ := gNm_some e4
        have hl' : i < σ.length := by rw [← st1.rel.len]; exact hl
        refine ⟨v, u, rfl, k Hf1 _ H1 ((st1.store h1 hl hn).store (h2.stored hl hl' (ap 0 u s2 rfl rfl)) hl2 hn2) fun q hq => ?_⟩
        rw [List.getElem?_set_ne fun z => hq (by rw [z]; simp), List.getElem?_set_ne fun z => hq (by rw [z]; simp)]
    | [], _, em' => cases em'
    | [_], _, em' => cases em'
    | _ :: _ :: _ :: _, _, em' => cases em'
theorem dsf_expr (he : DE X cl W e m) (hs : swapsWith e none pos.line X.env = pure false := by rfl) : DSF X cl (.Expr e pos) (mDrop m) [] := by
  obtain ⟨te, pe, we⟩ := he.ex
  refine ⟨_, ps_expr pe hs, fun Γ Hf σ H En Γ' em rel k => ?_⟩
  have em' : (m Γ).bndS (fun _ Γ1 => .nx Γ1) = .nx Γ' := em
  cases ev : m Γ with
  | bad => rw [ev] at em'; cases em'
  | exc c as Γ1 => rw [ev] at em'; cases em'
  | ok s Γ1 =>
    rw [ev] at em'
    cases em'
    exact we Γ Hf σ H _ (Wants.run rel ev fun v Hf1 H1 st1 t1 => k Hf1 _ H1 st1 fun _ _ => rfl)
theorem dpre_one (h : DSF X cl st ma as) : DPre X cl [st] ma as := ⟨fun rest u pu => by
  obtain ⟨t, p, w⟩ := h.ex
  exact ⟨_, pss_cons p pu, fun Γ Hf σ H En Γ' em rel k => w Γ Hf σ H _ Γ' em rel k⟩⟩
theorem dpre_cons (h : DSF X cl st ma as) (hr : DPre X cl a mr bs) : DPre X cl (st :: a) (mSq ma mr) (as ++ bs) := ⟨fun rest u pu => by
  obtain ⟨t, p, w1⟩ := h.ex
  obtain ⟨ts, q, w2⟩ := hr.ex rest u pu
  refine ⟨_, pss_cons p q, fun Γ Hf σ H En Γ' em rel k => ?_⟩
  have em' : (ma Γ).thn mr = .nx Γ' := em
  cases e1 : ma Γ with
  | nx Γ1 =>
    rw [e1] at em'
    refine w1 Γ Hf σ H _ Γ1 e1 rel fun Hf1 σ1 H1 st1 f1 => ?_
    refine w2 Γ1 Hf1 σ1 H1 En Γ' em' st1.rel fun Hf2 σ2 H2 st2 f2 => k Hf2 σ2 H2 (st1.trans st2) fun i hi => ?_
    rw [f2 i fun z => hi (List.mem_append_right _ z), f1 i fun z => hi (List.mem_append_left _ z)]
  | rt s Γ1 => rw [e1] at em'; cases em'
  | bk Γ1 => rw [e1] at em'; cases em'
  | ct Γ1 => rw [e1] at em'; cases em'
  | ex c xs Γ1 => rw [e1] at em'; cases em'
  | bad => rw [e1] at em'; cases em'⟩
end
end DL
end

section
set_option Elab.async false
set_option linter.all false
set_option maxRecDepth 100000
set_option maxHeartbeats 4000000
namespace G
open PySem PySem.Spec PyProof.Rows L2 DL Hd
/-- what delayed and with_delay are asked here: their lists are new -/
def delPre (K : PySem.W.Frag) (cl : ClA) (vs : List V) (H : Hp) (Q : VK) : Prop := ∃ (m : Nat) (ks : List PySem.Str) (f : PySem.Str → Pa) (part : PySem.Str) (many : Int) (v0 : V) (Hf : Hp), vs = [v0, .str part, .int many] ∧ OkP m ks f ∧ part ∈ ks ∧ 0 ≤ many ∧ Le Hf H ∧ Den K cl Hf v0 (plD ks f) ∧
  ∀ (v : V) (Hf' H' : Hp), NewDict K cl Hf H Hf' H' v (kvF (sortS ks) fun k => paD (fD f part many k)) → Q v H'
theorem rel_three {K : PySem.W.Frag} {cl : ClA} {Hf H : Hp} {v0 : V} {P : D} {part : PySem.Str} {many : Int} (le : Le Hf H) (h : Den K cl Hf v0 P) (Γr : SE) (σr : L2.St) (hl : Γr.length = σr.length) (hn : ∀ (i : Nat) (s : Sv), Γr[i]? ≠ some (some s)) :
    Rel K cl (some (.dat P) :: some (.dat (.str part)) :: some (.dat (.int many)) :: Γr) Hf (some v0 :: some (.str part) :: some (.int many) :: σr) H := by
  refine ⟨le, by simp [hl], fun i s hs => ?_, fun i j k k' d d' v h1 => ?_⟩
  · match i, hs with
    | 0, hs => cases hs; exact ⟨_, rfl, h⟩
    | 1, hs => cases hs; exact ⟨_, rfl, .str _⟩
    | 2, hs => cases hs; exact ⟨_, rfl, .int _⟩
    | n + 3, hs => exact (hn n s (by simpa using hs)).elim
  · match i, h1 with
    | 0, hs => cases hs
    | 1, hs => cases hs
    | 2, hs => cases hs
    | n + 3, hs => exact (hn n _ (by simpa using hs)).elim
theorem none_get {n i : Nat} {s : Sv} : (List.replicate n (none : Option Sv))[i]? ≠ some (some s) := fun h => by
  rw [List.getElem?_replicate] at h
  split at h <;> cases h
theorem delayed_pre {X : Cx} {cl : ClA} {W : WX} {s0 sF sR sB1 sB2 : Stmt} {tgO eS : Expr} {rL : List V → Hp → VK → Prop} {rSet : TSet}
    (p0 : PS X s0 (tAsg tDNewK (gName 3)))
    (pF : ∀ {wi : TI} {tb : TS}, PI X tgO eS wi → PSs X [sB1, sB2] tb → PS X sF (tFor wi (gName 4) tb))
    (dS : DI X cl W tgO eS (mSeq (toD (mC1 dSorted (mPk 0)))))
    (pB1 : ∃ te, PS X sB1 (tAsg te (gTup X.K 3 (L2.gCons (gName 5) (L2.gCons (gName 6) (L2.gCons (gName 7) L2.gNil))))) ∧ WD X.K cl te W (mIxN 0 (mVar 4)))
    (pB2 : ∃ te1 te2, PS X sB2 (tAsg (tTup (tCons te1 (tCons te2 (tCons (tCB rL (tCons (tVar 7) tNil)) tNil)))) (gSub (tVar 3) (tVar 4) rSet)) ∧ WD X.K cl te1 W (mVar 5) ∧ WD X.K cl te2 W mDel2)
    (pR : PS X sR (tRet (tVar 3))) (hL : ∀ {xs : List V} {H : Hp} {Q : VK}, rLst X.K xs H Q → rL xs H Q) (hS : ∀ {a b c : V} {H : Hp} {Q : Hp → Prop}, rSetD a b c H Q → rSet a b c H Q) (H : Hp) :
    ∃ ts, PSs X [s0, sF, sR] ts ∧ ∀ (vs : List V) (Q : VK), vs.length = 3 → delPre X.K cl vs H Q → ts ⟨fun _ H' => Q .non H', Q, fun _ _ => False, fun _ _ => False⟩ (padS 8 vs) H := by
  obtain ⟨ts, run, word⟩ := delayed_walk p0 pF dS pB1 pB2 pR hL hS
  refine ⟨ts, run, fun vs Q lv ⟨m, ks, f, part, many, v0, Hf, e, o, hp, hm, le, dn, k⟩ => ?_⟩
  subst e
  exact word m ks f part many v0 Hf H _ o hp (rel_three le dn [none, none, none, none, none] [none, none, none, none, none] rfl fun i s => none_get (n := 5)) fun v Hf' H' nd => k v Hf' H' nd
section
variable {X : Cx} {cl : ClA} {W : WX}
theorem asg_ex {tg e : Expr} {m : MD} {g : TG} {pos : Pos} (h : DD X cl W e m) (hg : PG X tg g) (hs : swapsWithSole [tg] e pos.line X.env = pure false := by rfl) (hw : swappedStores [tg] e X.env = pure none := by rfl)
    (h1 : (assignEach [tg] X.env).map (·.2) = [assign tg X.env] := by rfl) : ∃ te, PS X (.Assign [tg] e pos) (tAsg te g) ∧ WD X.K cl te W m :=
  let ⟨te, pe, we⟩ := h.ex; ⟨te, ps_asg pe hg hs hw h1, we⟩
theorem tup_ex {tg a b c : Expr} {kk : Nat} {pt : Pos} {m1 m2 : MD} {t3 : TE} {g : TG} {pos : Pos} (h1 : DD X cl W a m1) (h2 : DD X cl W b m2) (h3 : PE X c t3) (hg : PG X tg g)
    (hs1 : starEach [a, b, c] X.env = (false, eval a X.env) :: starEach [b, c] X.env := by rfl) (hs2 : starEach [b, c] X.env = (false, eval b X.env) :: starEach [c] X.env := by rfl) (hs3 : starEach [c] X.env = (false, eval c X.env) :: starEach [] X.env := by rfl)
    (hs : swapsWithSole [tg] (.Tuple [a, b, c] kk pt) pos.line X.env = pure false := by rfl) (hw : swappedStores [tg] (.Tuple [a, b, c] kk pt) X.env = pure none := by rfl)
    (h1' : (assignEach [tg] X.env).map (·.2) = [assign tg X.env] := by rfl) : ∃ te1 te2, PS X (.Assign [tg] (.Tuple [a, b, c] kk pt) pos) (tAsg (tTup (tCons te1 (tCons te2 (tCons t3 tNil)))) g) ∧ WD X.K cl te1 W m1 ∧ WD X.K cl te2 W m2 :=
  let ⟨t1, p1, w1⟩ := h1.ex
  let ⟨t2, p2, w2⟩ := h2.ex
  ⟨t1, t2, ps_asg (pe_tup (pa_cons p1 (pa_cons p2 (pa_cons h3 pa_nil hs3) hs2) hs1)) hg hs hw h1', w1, w2⟩
end
set_option maxHeartbeats 8000000 in
theorem p_delayed {P : Program} {w : World} {K : PySem.W.Frag} {mg : PySem.Str → Option Value} {base : Heap} (pg : Pg K mg base) {fd : FuncData} (F : FunD K dd_delayed.name dd_delayed.qual dd_delayed.params dd_delayed.body dd_delayed.scope (dd_delayed.dvs K) (dd_delayed.kws K) (He.fAd K dd_delayed.at_) fd) : FnP P w K mg base 1 (He.ga K "delayed") fd ["plan", "part", "many"] (delPre K (clK K)) := by
  refine FnP.of F sc_delayed fun cdv A fr s H E hr gds => ?_
  have hN := sc_delayed.nd
  have hu64 := hr.units
  have hu1 : _ + 1 < cLine := Nat.lt_of_le_of_lt (Nat.add_le_add_left (by decide : 1 ≤ 64) _) hu64
  apply delayed_pre (cl := clK K) (W := W0) (rL := rLst K) (rSet := rSetD)
  case p0 => exact ps_set hN rfl (.inl rfl) pe_dnewK
  case pF => exact fun pi pb => ps_for (passes_of rfl) rfl pi (pg_name hN rfl (.inl rfl)) pb
  case dS => exact di_seq (DE.toD (de_b1 (call_sortedW rfl) ca_sorted (dr_pk 0) rfl (pg.free 104) (by decide +kernel)))
  case pB1 => exact asg_ex (dd_ixN hu1 0 (dd_var 4)) (pg_tup rfl (pgs_cons (pg_name hN rfl (.inl rfl)) (pgs_cons (pg_name hN rfl (.inl rfl)) (pgs_cons (pg_name hN rfl (.inl rfl)) pgs_nil))))
  case pB2 =>
    refine tup_ex ?_ ?_ ?_ ?_
    · exact dd_var 5
    · exact (DE.toD (de_if (dt_eq pg.sys hu64 (dd_var 4) (dr_pk 1)) (de_add (dd_var 6) (dr_pk 2)) (DD.toE (dd_var 6))))
    · exact (pe_callTy call_list_of rfl (pg.free 97) (by decide +kernel) (pa_cons (pe_var rfl (.inl rfl)) pa_nil))
    · exact (pg_sub (pe_var rfl (.inl rfl)) (pe_var rfl (.inl rfl)) (set_dict hu1))
  case pR => exact ps_ret (pe_var rfl (.inl rfl))
  case hL => exact fun h => h
  case hS => exact fun h => h
end G
end

section
set_option Elab.async false
set_option linter.all false
set_option maxRecDepth 100000
set_option maxHeartbeats 4000000
namespace DL
open PySem PySem.Spec PyProof.Rows L2
theorem NewDict.back {K : PySem.W.Frag} {cl : ClA} {Γ Γ' : SE} {Hf Hf1 H H1 Hf' H' : Hp} {σ σ' : L2.St} {v : V} {T : List (Key × D)} (st : Step K cl Γ Hf σ H Γ' Hf1 σ' H1) (no : ∀ p, ¬ IsOwn Γ σ p) (nd : NewDict K cl Hf1 H1 Hf' H' v T) : NewDict K cl Hf H Hf' H' v T := by
  have back : ∀ b, H1 b = none → H b = none := fun b e => by
    cases q : H b with
    | none => rfl
    | some o => exact absurd e (st.there b (by rw [q]; exact fun z => nomatch z))
  obtain ⟨p, kvs, e1, e2, e3, e4, e5, e6⟩ := nd.ex
  refine ⟨st.le.trans nd.le, nd.leH, fun b o e => nd.keep b o (st.fr b o e (no b)), fun b o e n => nd.av b o (st.fr b o e (no b)) (st.av b o e n (no b)), p, kvs, e1, e2, back p e3, e4, e5, fun e he => ?_⟩
  obtain ⟨t, q, a, b, ws, f1, f2, f3, f4, f5⟩ := e6 e he
  exact ⟨t, q, a, b, ws, f1, f2, f3, back q f4, f5⟩
end DL
namespace G
open PySem PySem.Spec PyProof.Rows L2 DL Hd
abbrev wants4 : MS := mSq (mDrop (mCallN 1 m_want_plan (mAv (mVar 0) mAn))) (mSq (mDrop (mCallN 1 m_want_part (mAv (mVar 1) mAn))) (mSq (mDrop (mCallN 1 m_want_count (mAv (mVar 2) mAn))) (mDrop (mCallN 2 m_want_there (mAv (mVar 0) (mAv (mVar 1) mAn))))))
theorem wants4_is {m : Nat} {ks : List PySem.Str} {f : PySem.Str → Pa} (o : OkP m ks f) {part : PySem.Str} (hp : part ∈ ks) {many : Int} (hm : 0 ≤ many) : wants4 [some (.dat (plD ks f)), some (.dat (.str part)), some (.dat (.int many))] = .nx [some (.dat (plD ks f)), some (.dat (.str part)), some (.dat (.int many))] := by
  simp [wants4, want_plan_is o, want_part_is (o.prt part hp), want_count_is hm, want_there_is hp]
theorem with_delay_pre {X : Cx} {cl : ClA} {s1 s2 s3 s4 sR : Stmt} (hd : DPre X cl [s1, s2, s3, s4] wants4 [])
    (pR : PS X sR (tRet (fun σ H Q => tCons (tVar 0) (tCons (tVar 1) (tCons (tVar 2) tNil)) σ H fun vs H1 => vs.length = 3 ∧ delPre X.K cl vs H1 Q))) (H : Hp) :
    ∃ ts, PSs X [s1, s2, s3, s4, sR] ts ∧ ∀ (vs : List V) (Q : VK), vs.length = 3 → delPre X.K cl vs H Q → ts ⟨fun _ H' => Q .non H', Q, fun _ _ => False, fun _ _ => False⟩ (padS 3 vs) H := by
  obtain ⟨ts, run, word⟩ := hd.ex [sR] _ (pss_one pR)
  refine ⟨ts, run, fun vs Q lv ⟨m, ks, f, part, many, v0, Hf, e, o, hp, hm, le, dn, k⟩ => ?_⟩
  subst e
  refine word _ Hf _ H _ _ (wants4_is o hp hm) (rel_three le dn [] [] rfl fun i s => by simp) fun Hf1 σ1 H1 st fr => ?_
  have e : σ1 = [some v0, some (.str part), some (.int many)] := List.ext_getElem? fun i => fr i (by simp)
  subst e
  refine ⟨v0, rfl, .str part, rfl, .int many, rfl, rfl, m, ks, f, part, many, v0, Hf1, rfl, o, hp, hm, st.rel.le, Den.mono st.le dn, fun v Hf' H' nd => k v Hf' H' (nd.back st fun p z => ?_)⟩
  obtain ⟨i, kd, d, h, _⟩ := z
  match i, h with
  | 0, h => cases h
  | 1, h => cases h
  | 2, h => cases h
  | n + 3, h => simp at h
set_option maxHeartbeats 8000000 in
theorem p_with_delay {P : Program} {w : World} {K : PySem.W.Frag} {mg : PySem.Str → Option Value} {base : Heap} (pg : Pg K mg base) {fd : FuncData} (F : FunD K dd_with_delay.name dd_with_delay.qual dd_with_delay.params dd_with_delay.body dd_with_delay.scope (dd_with_delay.dvs K) (dd_with_delay.kws K) (He.fAd K dd_with_delay.at_) fd) : FnP P w K mg base 6 (He.ga K "with_delay") fd ["plan", "part", "many"] (delPre K (clK K)) := by
  refine FnP.of F sc_with_delay fun cdv A fr s H E hr gds => ?_
  have hN := sc_with_delay.nd
  have hu64 := hr.units
  have hu1 : _ + 1 < cLine := Nat.lt_of_le_of_lt (Nat.add_le_add_left (by decide : 1 ≤ 64) _) hu64
  obtain ⟨fdD, FD⟩ := pg.def_ 37 (d := dd_delayed)
  apply with_delay_pre (cl := clK K)
  case hd =>
    exact dpre_cons (dsf_expr (de_callF (W := fun c d _ H' => E c d H') (ps := ["plan"]) (Df.mono (g_want_plan pg) (by decide)) hr gds (takes_of rfl rfl rfl rfl) (da_v (dd_var 0) da_nil)))
      (dpre_cons (dsf_expr (de_callF (W := fun c d _ H' => E c d H') (ps := ["part"]) (Df.mono (g_want_part pg) (by decide)) hr gds (takes_of rfl rfl rfl rfl) (da_v (dd_var 1) da_nil)))
      (dpre_cons (dsf_expr (de_callF (W := fun c d _ H' => E c d H') (ps := ["value"]) (Df.mono (g_want_count pg) (by decide)) hr gds (takes_of rfl rfl rfl rfl) (da_v (dd_var 2) da_nil)))
      (dpre_one (dsf_expr (de_callF (W := fun c d _ H' => E c d H') (ps := ["plan", "part"]) (Df.mono (g_want_there pg) (by decide)) hr gds (takes_of rfl rfl rfl rfl) (da_v (dd_var 0) (da_v (dd_var 1) da_nil)))))))
  case pR =>
    refine ps_ret ?_
    refine pe_callP (ps := ["plan", "part", "many"]) (Pre := delPre K (clK K)) (FnP.mono (p_delayed pg FD) (by decide)) hr gds DL.takes0 ?_ (pg.glo 37) FD.kp (FD.bindsN fun _ _ _ _ _ _ us hl => match us, hl with | [_, _, _], _ => rfl) ?_
    · exact rfl
    · exact pa_cons (pe_var rfl (.inl rfl)) (pa_cons (pe_var rfl (.inl rfl)) (pa_cons (pe_var rfl (.inl rfl)) pa_nil))
end G
end

section
set_option Elab.async false
set_option linter.all false
set_option maxRecDepth 100000
set_option maxHeartbeats 2000000
namespace G
open PySem PySem.Spec PyProof.Rows L2 DL
/-- what the walk of the special part asks of the slots: with_delay's plan, and that the block a runs through on it -/
def CMut (a : MS) (Γ : SE) : Prop := ∃ (m : Nat) (ks : List PySem.Str) (f : PySem.Str → Pa) (part : PySem.Str) (many : Int) (Γ' : SE), OkP m ks f ∧ part ∈ ks ∧ 0 ≤ many ∧ (frzE Γ)[4]? = some (some (.dat (plD ks f))) ∧ (frzE Γ)[3]? = some (some (.dat (.str part))) ∧ (frzE Γ)[6]? = some (some (.dat (.int many))) ∧
  (∀ i, 9 ≤ i → i ≤ 14 → Γ[i]? = some none) ∧ a ((frzE Γ).set 9 (some (.dat (plD (sortS ks) (fD f part many))))) = .nx Γ'
open Classical in
/-- a block that is run on cells lent, whose first thing is a new dict of new lists, and that changes these only; then the rest -/
noncomputable def mMut (a r : MS) : MS := fun Γ => if CMut a Γ then r Γ else .bad
def one1 : MS := mPar3 4 5 6 (mECons (mCallN 2 m_l_said (mAr 0 .brw (mAv (mVar 1) mAn))) (mECons (mBin dSub (toD (mCallN 2 m_l_draw (mAr 0 .brw (mAv (mC (.int 30)) mAn)))) (mC (.int 12))) (mECons (mCallN 2 m_l_draw (mAr 0 .brw (mAv (mC (.int 7)) mAn))) mENil)))
def one2 : MS := mPar 7 8 (mECons (mC1 dRepr (mPk 4)) (mECons (mCallN 3 m_l_delayed (mAv (mVar 1) (mAv (mVar 3) (mAv (mVar 6) mAn)))) mENil))
def one4 : MS := mIfS (mOrT (mBl (toD (mBin dNe (toD (mC1 dRepr (toD (mLst (mCons (mVar 9) (mCons (toD (mCallK 3 kg_with_delay m_with_delay (mCons (mVar 6) (mCons (mVar 3) (mCons (mVar 4) mNil))))) mNil)))))) (toD (mC1 dRepr (toD (mLst (mCons (mVar 8) (mCons (mVar 8) mNil))))))))) (mNotT (mTru (toD (mCallN 1 m_is_plan (mAv (mVar 9) mAn)))))) (mRet (ofD (mC (.bl false)))) mNx
def one5 : MS := mIfS (mNotT (mTru (toD (mCallN 3 m_l_same_ready (mAv (mVar 9) (mAv (mVar 2) (mAv (mVar 5) mAn))))))) (mRet (ofD (mC (.bl false)))) mNx
def one6 : MS := mAsg (mC1 dDict (toD (mLcK 2 (gNm 13) mYes (mTup (mCons (mVar 13) (mCons (toD (mMake 16 2 m_Table_ddinitdd (mCons (mIxN 2 (mVar 13)) mNil))) mNil))) [13]))) (gNm 10)
def one7 : MS := mAsgT 2 (mECons (mCallN 3 m_all_ready (mAv (mVar 4) (mAv (mVar 5) (mAv (mVar 10) mAn)))) (mECons (mCallN 3 m_all_ready (mAv (mVar 9) (mAv (mVar 5) (mAv (mVar 10) mAn)))) mENil)) (gCons (gNm 11) (gCons (gNm 12) gNil))
def one8 : MS := mIfS (mOrT (mBl (toD (mBin dNe (mIxN 12 (mVar 3)) (toD (mBin dAdd (mIxN 11 (mVar 3)) (mPk 6)))))) (mBl (toD (mBin dNe (toD (mLcK 11 (gNm 14) (mBl (toD (mBin dLt (mIxN 12 (mVar 14)) (mIxN 11 (mVar 14))))) (mVar 14) [14])) (toD (mLst mNil)))))) (mRet (ofD (mC (.bl false)))) mNx
def one11 : MS := mRet (ofD (mAndV (toD (mBin dEq (toD (mC1 dRepr (mPk 4))) (mPk 7))) (toD (mBin dEq (toD (mC1 dRepr (toD (mCallN 3 m_with_delay (mAv (mVar 4) (mAv (mVar 3) (mAv (mVar 6) mAn))))))) (toD (mC1 dRepr (mPk 8)))))))
def one48 : MS := mSq one4 (mSq one5 (mSq one6 (mSq one7 one8)))
noncomputable def b_l_one_right : MS := mSq one1 (mSq one2 (mMut one48 one11))
noncomputable def m_l_one_right : ME := mFn 15 b_l_one_right
end G
end

section
set_option Elab.async false
set_option linter.all false
set_option maxRecDepth 100000
set_option maxHeartbeats 4000000
namespace DL
open PySem PySem.Spec PyProof.Rows L2
theorem valV_mem {κ : Type} [DecidableEq κ] {kvs : List (κ × V)} {k : κ} {v : V} (h : valV kvs k = some v) : ∃ e ∈ kvs, e.2 = v := by
  unfold valV at h
  cases q : kvs.find? fun kv => decide (kv.1 = k) with
  | none => rw [q] at h; cases h
  | some e => rw [q] at h; cases h; exact ⟨e, List.mem_of_find?_eq_some q, rfl⟩
/-- other places, where no slot tells of any -/
theorem Step.slots {K : PySem.W.Frag} {cl : ClA} {Γ0 Γ : SE} {Hf0 Hf H0 H : Hp} {σ0 σ σ' : L2.St} (st : Step K cl Γ0 Hf0 σ0 H0 Γ Hf σ H) (hl : σ'.length = σ.length) (h : ∀ (i : Nat) (s : Sv), Γ[i]? = some (some s) → σ'[i]? = σ[i]?) : Step K cl Γ0 Hf0 σ0 H0 Γ Hf σ' H := by
  refine ⟨⟨st.rel.le, by rw [hl]; exact st.rel.len, fun j s hs => by rw [h j s hs]; exact st.rel.at_ j s hs, fun j j' k k' d d' v h1 h2 e1 e2 => ?_⟩, st.le, st.fr, st.av, fun p q => ?_, st.there, fun j k d e nk => ?_, fun p q => ?_⟩
  · rw [h j _ h1] at e1
    rw [h j' _ h2] at e2
    exact st.rel.dis j j' k k' d d' v h1 h2 e1 e2
  · obtain ⟨j, k, d, h1, h2, h3⟩ := q
    rw [h j _ h1] at h3
    exact st.sub p ⟨j, k, d, h1, h2, h3⟩
  · obtain ⟨d', f1, f2, f3⟩ := st.brw j k d e nk
    exact ⟨d', f1, by rw [h j _ f1]; exact f2, f3⟩
  · obtain ⟨j, k, d, h1, h3⟩ := q
    rw [h j _ h1] at h3
    exact st.subc p ⟨j, k, d, h1, h3⟩
end DL
namespace DL
open PySem PySem.Spec PyProof.Rows L2
/-- x, y = a, b through a tuple -/
theorem dsf_asgT2 {X : Cx} {cl : ClA} {W : WX} {pos : Pos} {r : MEs} (i j : Nat) {x y : PySem.Str} {a b : Expr} {px py pt : Pos} {kt k2 pt2} (hc : X.calm = true) (hN : X.N.Nodup) (ha : DEs X cl W [a, b] r) (hij : i ≠ j := by decide) (hi : X.N[i]? = some x := by rfl) (hj : X.N[j]? = some y := by rfl)
    (hx : Loc X.env.scope x := by first | exact .inl rfl | exact .inr rfl) (hfx : X.fn x = true ∨ X.env.scope.names.lookup x = some .local := by first | exact .inl rfl | exact .inr rfl | assumption)
    (hy : Loc X.env.scope y := by first | exact .inl rfl | exact .inr rfl) (hfy : X.fn y = true ∨ X.env.scope.names.lookup y = some .local := by first | exact .inl rfl | exact .inr rfl | assumption)
    (ht1 : (assignEach (.Name x px :: [.Name y py]) X.env).map (·.2) = assign (.Name x px) X.env :: (assignEach [.Name y py] X.env).map (·.2) := by rfl) (ht2 : (assignEach (.Name y py :: []) X.env).map (·.2) = assign (.Name y py) X.env :: (assignEach [] X.env).map (·.2) := by rfl)
    (hn : (assignEach [.Name x px, .Name y py] X.env).length = 2 := by rfl) (hst : (assignEach [.Name x px, .Name y py] X.env).findIdx? (·.1) = none := by rfl)
    (hs : swapsWithSole [.Tuple [.Name x px, .Name y py] kt pt] (.Tuple [a, b] k2 pt2) pos.line X.env = pure false := by rfl) (hw : swappedStores [.Tuple [.Name x px, .Name y py] kt pt] (.Tuple [a, b] k2 pt2) X.env = pure none := by rfl)
    (h1 : (assignEach [.Tuple [.Name x px, .Name y py] kt pt] X.env).map (·.2) = [assign (.Tuple [.Name x px, .Name y py] kt pt) X.env] := by rfl) :
    DSF X cl (.Assign [.Tuple [.Name x px, .Name y py] kt pt] (.Tuple [a, b] k2 pt2) pos) (mAsgT 2 r (gCons (gNm i) (gCons (gNm j) gNil))) [i, j] := by
  obtain ⟨ta, pa, wa⟩ := ha.ex
  refine ⟨_, ps_asg (pe_tup pa) (pg_tup hc (pgs_cons (pg_name hN hi hx hfx) (pgs_cons (pg_name hN hj hy hfy) pgs_nil ht2) ht1) hn hst) hs hw h1, fun Γ Hf σ H En Γ' em rel k => ?_⟩
  have em' : (r Γ).bndS (fun ss Γ1 => if ss.length = 2 ∧ 2 ≤ sizeLine then DL.optS ((gCons (gNm i) (gCons (gNm j) gNil)) ss Γ1) else .bad) = .nx Γ' := em
  cases ev : r Γ with
  | bad => rw [ev] at em'; cases em'
  | exc c as Γ1 => rw [ev] at em'; cases em'
  | ok ss Γ1 =>
    rw [ev] at em'
    have em2 : (if ss.length = 2 ∧ 2 ≤ sizeLine then DL.optS ((gCons (gNm i) (gCons (gNm j) gNil)) ss Γ1) else .bad) = .nx Γ' := em'
    refine wa Γ Hf σ H _ (Wants.run rel ev fun vs Hf1 H1 st1 t1 => ?_)
    match ss, t1, em2 with
    | [s1, s2], .cons (v := v) (vs := [u]) h1 ap (.cons h2 _ .nil), em2 =>
      rw [if_pos ⟨rfl, le_line (by decide)⟩] at em2
      have em3 : DL.optS ((gNm i s1 Γ1).bind fun Γ2 => (gNm j s2 Γ2).bind fun Γ3 => some Γ3) = .nx Γ' := em2
      cases e3 : gNm i s1 Γ1 with
      | none => rw [e3] at em3; cases em3
      | some Γ3 =>
        rw [e3] at em3
        have em4 : DL.optS ((gNm j s2 Γ3).bind fun Γ3 => some Γ3) = .nx Γ' := em3
        cases e4 : gNm j s2 Γ3 with
        | none => rw [e4] at em4; cases em4
        | some Γ4 =>
          rw [e4] at em4
          cases em4
          obtain ⟨hl, rfl, hn⟩ := gNm_some e3
          obtain ⟨hl2, rfl, hn2⟩ := gNm_some e4
          refine ⟨le_line (by simp), fun p hp => ⟨p, [v, u], rfl, .inl (.inl upd_same), rfl, ?_⟩⟩
          have stg := st1.rel.grown (o := .tup [v, u]) hp
          have st2 := st1.trans stg
          have hl' : i < σ.length := by rw [← st1.rel.len]; exact hl
          have q1 := h1.carry stg
          have q2 := h2.carry stg
          refine ⟨v, [u], rfl, u, [], rfl, rfl, k Hf1 _ _ ((st2.store q1 hl hn).store (q2.stored hl hl' (ap 0 u s2 rfl rfl)) hl2 hn2) fun q hq => ?_⟩
          rw [List.getElem?_set_ne fun z => hq (by rw [z]; simp), List.getElem?_set_ne fun z => hq (by rw [z]; simp)]
    | [], _, em2 => rw [if_neg (by simp)] at em2; cases em2
    | [_], _, em2 => rw [if_neg (by simp)] at em2; cases em2
    | _ :: _ :: _ :: _, _, em2 => rw [if_neg (by simp)] at em2; cases em2
end DL
namespace G
open PySem PySem.Spec PyProof.Rows L2 DL Hd
theorem mut_ds {X : Cx} {cl : ClA} {W : WX} {s3 s4 s5 s6 s7 s8 s9 s10 s11 : Stmt} {as : List Nat}
    (p3 : PS X s3 (tAsg (fun σ H Q => tCons (tVar 4) (tCons (tVar 3) (tCons (tVar 6) tNil)) σ H fun vs H1 => vs.length = 3 ∧ delPre X.K cl vs H1 Q) (gName 9)))
    (h48 : DPre X cl [s4, s5, s6, s7, s8] one48 as) (has : ∀ i ∈ as, 10 ≤ i ∧ i ≤ 12)
    (p9 : PS X s9 (tDrop (tBM X.K "list" rAppend (tOp (rIx X.K) (tDGet (tVar 9) (tVar 3)) (tC (.int 2))) (tCons (tC (.str "b")) tNil))))
    (p10 : PS X s10 (tDrop (tBM0 X.K "dict" rClearD (tVar 9)))) (d11 : DSs X cl W [s11] one11) : DSs X cl W [s3, s4, s5, s6, s7, s8, s9, s10, s11] (mMut one48 one11) := by
  obtain ⟨t11, run11, w11⟩ := d11.ex
  obtain ⟨t48, run48, w48⟩ := h48.ex _ _ (pss_cons p9 (pss_cons p10 run11))
  refine ⟨_, pss_cons p3 run48, fun Γ Hf σ H En w => ?_⟩
  by_cases c : CMut one48 Γ
  case neg => exact (w.nb (if_neg c)).elim
  rw [show mMut one48 one11 Γ = one11 Γ from if_pos c] at w
  obtain ⟨m, ks, f, part, many, Γ8, o, hp, hm, c4, c3, c6, cn, e8⟩ := c
  have rel := w.rel
  have relL := rel.lend
  obtain ⟨v4, g4, d4⟩ := relL.at_ 4 _ c4
  obtain ⟨v3, g3, d3⟩ := relL.at_ 3 _ c3
  obtain ⟨v6, g6, d6⟩ := relL.at_ 6 _ c6
  cases (show Den X.K cl _ v3 (.str part) from d3)
  cases (show Den X.K cl _ v6 (.int many) from d6)
  have l9 : 9 < σ.length := by
    rw [← rel.len]
    have := cn 9 (by decide) (by decide)
    exact (List.getElem?_eq_some_iff.mp this).1
  refine ⟨v4, g4, .str part, g3, .int many, g6, rfl, m, ks, f, part, many, v4, lendH Γ σ Hf H, rfl, o, hp, hm, relL.le, d4, fun v Hf3 H3 nd => ?_⟩
  obtain ⟨p, kvs, rfl, hp3, np, nf3, dk, nl⟩ := nd.ex
  obtain ⟨ΓA, eA⟩ : ∃ ΓA : SE, ΓA = (frzE Γ).set 9 (some (.dat (plD (sortS ks) (fD f part many)))) := ⟨_, rfl⟩
  rw [← eA] at e8
  have lA : 9 < (frzE Γ).length := by rw [relL.len]; exact l9
  have datA : ∀ (i : Nat) (s : Sv), ΓA[i]? = some (some s) → (i = 9 ∧ s = .dat (plD (sortS ks) (fD f part many))) ∨ (i ≠ 9 ∧ ∃ d, s = .dat d ∧ (frzE Γ)[i]? = some (some (.dat d))) := fun i s h => by
    rw [eA] at h
    by_cases z : i = 9
    · subst z
      rw [List.getElem?_set_self lA] at h
      cases h
      exact .inl ⟨rfl, rfl⟩
    · rw [List.getElem?_set_ne (Ne.symm z)] at h
      refine .inr ⟨z, ?_⟩
      rcases frzE_get h with ⟨d, rfl, _⟩ | ⟨_, d, rfl, _⟩
      · exact ⟨d, rfl, h⟩
      · exact ⟨d, rfl, h⟩
  have adA : AllDat ΓA := fun i s h => by
    rcases datA i s h with ⟨_, e⟩ | ⟨_, d, e, _⟩
    · exact ⟨_, e⟩
    · exact ⟨d, e⟩
  have leA : Le Hf3 (upd Hf3 p (.dK kvs)) := .new nf3
  have relA : Rel X.K cl ΓA (upd Hf3 p (.dK kvs)) (σ.set 9 (some (.ref p))) H3 := by
    refine ⟨fun b u e => ?_, by rw [eA, List.length_set, List.length_set]; exact relL.len, fun i s hs => ?_, fun i j k k' d d' v h1 => ?_⟩
    · by_cases z : b = p
      · subst z
        rw [upd_same] at e; cases e
        exact .inl hp3
      · rw [upd_ne z] at e
        exact nd.leH b u e
    · rcases datA i s hs with ⟨rfl, rfl⟩ | ⟨z, d, rfl, h⟩
      · exact ⟨.ref p, List.getElem?_set_self l9, .dic (.inl upd_same) (DenK.mono leA dk)⟩
      · obtain ⟨v, e, q⟩ := relL.at_ i _ h
        exact ⟨v, by rw [List.getElem?_set_ne (Ne.symm z)]; exact e, Den.mono (nd.le.trans leA) q⟩
    · obtain ⟨_, e⟩ := adA i _ h1
      cases e
  refine w48 _ _ _ _ _ Γ8 e8 relA fun Hf8 σ8 H8 st8 fr8 => ?_
  have kept3 : ∀ b o, H3 b = some o → H8 b = some o := fun b o e => st8.fr b o e adA.own
  have kept : ∀ b o, H b = some o → H8 b = some o := fun b o e => kept3 b o (nd.keep b o e)
  have e9 : σ8[9]? = some (some (.ref p)) := by
    rw [fr8 9 fun z => by have := has 9 z; omega]
    exact List.getElem?_set_self l9
  have e3 : σ8[3]? = some (some (.str part)) := by
    rw [fr8 3 fun z => by have := has 3 z; omega, List.getElem?_set_ne (by decide)]
    exact g3
  have hp8 : H8 p = some (.dK kvs) := kept3 p _ hp3
  obtain ⟨u, hu, _⟩ := (DenK.get (.inr part) dk).1 _ (getD_of (sortS_mem.2 hp))
  obtain ⟨e, he, rfl⟩ := valV_mem hu
  obtain ⟨t, q, a, b, ws, eu, hsq, hq3, nq, wl⟩ := nl e he
  rw [eu] at hu
  have hq8 : H8 q = some (.lst ws) := kept3 q _ (nd.leH.lst hq3)
  have hpq : p ≠ q := fun z => by rw [← z, hp8] at hq8; cases hq8
  have sq8 : SqT X.K H8 t [a, b, .ref q] := (Le.of_same kept3).sqt (nd.leH.sqt hsq)
  have dg : DGet H8 p (.str part) (some (.ref t)) := hu ▸ DGet.k (k := .inr part) hp8
  have hp9 : upd H8 q (.lst (ws ++ [.str "b"])) p = some (.dK kvs) := by rw [upd_ne hpq]; exact hp8
  refine ⟨.ref p, e9, .str part, e3, p, .ref t, rfl, dg, .inr (.inl ⟨t, [a, b, .ref q], 2, .ref q, rfl, rfl, sq8, rfl, .inl ⟨rfl, ws, SqL.of hq8⟩, q, ws, .str "b", rfl, rfl, hq8, lt_line (by omega), ?_⟩)⟩
  refine ⟨.ref p, e9, .inr (.inr (.inl ⟨rfl, .inl ⟨kvs, hp9⟩⟩)), p, kvs, rfl, rfl, hp9, ?_⟩
  have l14 : 14 < σ.length := by
    rw [← rel.len]
    have := cn 14 (by decide) (by decide)
    exact (List.getElem?_eq_some_iff.mp this).1
  have len8 : σ8.length = σ.length := by
    have h1 := (fr8 σ.length fun z => by have := has _ z; omega).trans (List.getElem?_eq_none (by simp))
    have h2 := (fr8 (σ.length - 1) fun z => by have := has _ z; omega).trans (List.getElem?_eq_getElem (by rw [List.length_set]; omega))
    have h3 := (List.getElem?_eq_some_iff.mp h2).1
    have h4 := List.getElem?_eq_none_iff.mp h1
    omega
  have nocel : ∀ b, H b = none → ¬ IsCel Γ σ b := fun b n z => by
    obtain ⟨_, o, e⟩ := rel.lt z
    rw [n] at e; cases e
  have st := (((rel.still kept).poke (o := .lst (ws ++ [.str "b"])) nq (rel.le.no nq) (nocel q nq)).poke (o := .dK []) np (rel.le.no np) (nocel p np)).slots (σ' := σ8) len8 fun i s hs => by
    have n : ¬ (9 ≤ i ∧ i ≤ 14) := fun z => by rw [cn i z.1 z.2] at hs; cases hs
    rw [fr8 i fun z => by have := has i z; omega, List.getElem?_set_ne (by omega)]
  exact w11 Γ Hf σ8 _ En (w.after st)
end G
end

section
set_option Elab.async false
set_option linter.all false
set_option maxRecDepth 100000
set_option maxHeartbeats 4000000
namespace G
open PySem PySem.Spec PyProof.Rows L2 DL Hd
theorem sc_l_one_right : FnScope ["_law_pot_here", "_law_plan_here", "_law_rules", "_law_part", "_law_said_here", "_law_day", "_law_many", "_law_shown", "_law_due", "_law_told_here", "_law_world", "_law_before", "_law_behind", "_law_rule_here", "_law_one"] ["_law_pot_here", "_law_plan_here", "_law_rules", "_law_part"] (defScope st_l_one_right) := ⟨rfl, rfl, rfl, by decide +kernel, rfl, by decide +kernel, by decide +kernel⟩
set_option maxHeartbeats 16000000 in
theorem f_l_one_right {P : Program} {w : World} {K : PySem.W.Frag} {mg : PySem.Str → Option Value} {base : Heap} (pg : Pg K mg base) {fd : FuncData} (F : FunD K dd_l_one_right.name dd_l_one_right.qual dd_l_one_right.params dd_l_one_right.body dd_l_one_right.scope (dd_l_one_right.dvs K) (dd_l_one_right.kws K) (He.fAd K dd_l_one_right.at_) fd) : FnG P w K (clK K) mg base 16 (He.ga K "_law_one_right") fd ["_law_pot_here", "_law_plan_here", "_law_rules", "_law_part"] m_l_one_right := by
  refine FnG.of F sc_l_one_right fun cdv A fr s H E hr gds => ?_
  have hN := sc_l_one_right.nd
  have hu64 := hr.units
  have hu1 : _ + 1 < cLine := Nat.lt_of_le_of_lt (Nat.add_le_add_left (by decide : 1 ≤ 64) _) hu64
  obtain ⟨fdW, FW⟩ := pg.def_ 38 (d := dd_with_delay)
  refine dss_cons (ds_par3 4 5 6 rfl hN (des_cons (de_callF (ps := ["_law_pot_here", "_law_plan_here"]) (Df.mono (g_l_said pg) (by decide)) hr gds (takes_of rfl rfl rfl rfl) (da_r 0 .brw (da_v (dd_var 1) da_nil))) (des_cons (de_sub (DE.toD (de_callF (ps := ["_law_pot_here", "_law_many"]) (Df.mono (g_l_draw pg) (by decide)) hr gds (takes_of rfl rfl rfl rfl) (da_r 0 .brw (da_v dd_int da_nil)))) (DD.toR dd_int)) (des_cons (de_callF (ps := ["_law_pot_here", "_law_many"]) (Df.mono (g_l_draw pg) (by decide)) hr gds (takes_of rfl rfl rfl rfl) (da_r 0 .brw (da_v dd_int da_nil))) des_nil)))) ?_
  refine dss_cons (ds_par 7 8 rfl hN (des_cons (de_b1 (call_reprW pg.sys hu64 gds) ca_repr (dr_pk 4) rfl (pg.free 102) (by decide +kernel)) (des_cons (de_callF (ps := ["_law_plan_here", "_law_part", "_law_many"]) (Df.mono (g_l_delayed pg) (by decide)) hr gds (takes_of rfl rfl rfl rfl) (da_v (dd_var 1) (da_v (dd_var 3) (da_v (dd_var 6) da_nil)))) des_nil))) ?_
  refine mut_ds (as := [] ++ ([] ++ ([10] ++ ([11, 12] ++ [])))) ?p3 ?h48 (by decide) ?p9 ?p10 ?d11
  case p3 =>
    refine ps_set hN rfl (.inl rfl) ?_
    refine pe_callP (ps := ["plan", "part", "many"]) (Pre := delPre K (clK K)) (FnP.mono (p_with_delay pg FW) (by decide)) hr gds DL.takes0 ?_ (pg.glo 38) FW.kp (FW.bindsN fun _ _ _ _ _ _ us hl => match us, hl with | [_, _, _], _ => rfl) ?_
    · exact rfl
    · exact pa_cons (pe_var rfl (.inl rfl)) (pa_cons (pe_var rfl (.inl rfl)) (pa_cons (pe_var rfl (.inl rfl)) pa_nil))
  case h48 =>
    refine dpre_cons ?_ (dpre_cons ?_ (dpre_cons ?_ (dpre_cons ?_ (dpre_one ?_))))
    · exact dsf_if (W := fun c d _ H' => E c d H') (DW.dt (dw_or (dt_ne pg.sys hu64 (DE.toD (de_b1 (call_reprW pg.sys hu64 gds) ca_repr (DE.toR (de_lst (das_cons (dd_var 9) (das_cons (DE.toD (de_callKF (DfK.mono (gk_with_delay pg) (by decide)) hr gds (takes_of rfl rfl rfl rfl) (dkw_cons (dd_var 6) (dkw_cons (dd_var 3) (dkw_cons (dd_var 4) dkw_nil))))) das_nil)))) rfl (pg.free 102) (by decide +kernel))) (DE.toR (de_b1 (call_reprW pg.sys hu64 gds) ca_repr (DE.toR (de_lst (das_cons (dd_var 8) (das_cons (dd_var 8) das_nil)))) rfl (pg.free 102) (by decide +kernel)))) (dw_or1 (dt_not (dt_tru (DE.toR (de_callF (ps := ["value"]) (Df.mono (g_is_plan pg) (by decide)) hr gds (takes_of rfl rfl rfl rfl) (da_v (dd_var 9) da_nil)))))))) (dss_one (ds_ret (DD.toE dd_bl))) ret_never
    · exact dsf_if (W := fun c d _ H' => E c d H') (dt_not (dt_tru (DE.toR (de_callF (ps := ["_law_plan_here", "_law_rules", "_law_day"]) (Df.mono (g_l_same_ready pg) (by decide)) hr gds (takes_of rfl rfl rfl rfl) (da_v (dd_var 9) (da_v (dd_var 2) (da_v (dd_var 5) da_nil))))))) (dss_one (ds_ret (DD.toE dd_bl))) ret_never
    · exact dsf_set (W := fun c d _ H' => E c d H') 10 hN (de_t1 (call_dictW rfl) ca_dict (DE.toR (de_lcK (own := [("_law_rule_here", 13)]) 2 rfl hN (blk_ok (by kernel_rfl)) (fun _ _ _ _ _ => (dgc_name 13 hN)) (fun _ _ _ _ _ => dts_nil) (fun _ _ _ _ _ => (dd_tup (das_cons (dd_var 13) (das_cons (DE.toD (de_makeF (DfI.mono (g_Table_ddinitdd pg) (by decide)) hr gds DL.takes0 (das_cons (dd_ixN hu1 2 (dd_var 13)) das_nil))) das_nil)))))) rfl (pg.free 91) (by decide +kernel))
    · exact dsf_asgT2 (W := fun c d _ H' => E c d H') 11 12 rfl hN (des_cons (de_callF (ps := ["plan", "day", "world"]) (Df.mono (g_all_ready pg) (by decide)) hr gds (takes_of rfl rfl rfl rfl) (da_v (dd_var 4) (da_v (dd_var 5) (da_v (dd_var 10) da_nil)))) (des_cons (de_callF (ps := ["plan", "day", "world"]) (Df.mono (g_all_ready pg) (by decide)) hr gds (takes_of rfl rfl rfl rfl) (da_v (dd_var 9) (da_v (dd_var 5) (da_v (dd_var 10) da_nil)))) des_nil))
    · exact dsf_if (W := fun c d _ H' => E c d H') (DW.dt (dw_or (dt_ne pg.sys hu64 (dd_ixN hu1 12 (dd_var 3)) (DE.toR (de_add (dd_ixN hu1 11 (dd_var 3)) (dr_pk 6)))) (dw_or1 (dt_ne pg.sys hu64 (DE.toD (de_lcK (own := [("_law_one", 14)]) 11 rfl hN (blk_ok (by kernel_rfl)) (fun _ _ _ _ _ => (dgc_name 14 hN)) (fun _ _ _ _ _ => (dts_one (dt_lt (dd_ixN hu1 12 (dd_var 14)) (DD.toR (dd_ixN hu1 11 (dd_var 14)))))) (fun _ _ _ _ _ => (dd_var 14)))) (DE.toR (de_lst das_nil)))))) (dss_one (ds_ret (DD.toE dd_bl))) ret_never
  case p9 =>
    exact ps_expr (pe_bm PySem.F.plainAttrs_list PySem.F.slot_list_append PySem.F.type_list_append mt_append (pe_ix ix_seq (pe_dget hu1 (pe_var rfl (.inl rfl)) (pe_var rfl (.inl rfl)) (fun _ _ => rfl)) pe_int (fun _ _ => rfl)) (pa_cons pe_str pa_nil))
  case p10 =>
    exact ps_expr (pe_bm0 PySem.F.plainAttrs_dict PySem.F.slot_dict_clear PySem.F.type_dict_clear mt_clearD (pe_var rfl (.inl rfl)))
  case d11 =>
    exact dss_one (ds_ret (DD.toE (dd_and (DE.toD (de_eq pg.sys hu64 (DE.toD (de_b1 (call_reprW pg.sys hu64 gds) ca_repr (dr_pk 4) rfl (pg.free 102) (by decide +kernel))) (dr_pk 7))) (dd_one (DE.toD (de_eq pg.sys hu64 (DE.toD (de_b1 (call_reprW pg.sys hu64 gds) ca_repr (DE.toR (de_callF (ps := ["plan", "part", "many"]) (Df.mono (g_with_delay pg) (by decide)) hr gds (takes_of rfl rfl rfl rfl) (da_v (dd_var 4) (da_v (dd_var 3) (da_v (dd_var 6) da_nil))))) rfl (pg.free 102) (by decide +kernel))) (DE.toR (de_b1 (call_reprW pg.sys hu64 gds) ca_repr (dr_pk 8) rfl (pg.free 102) (by decide +kernel)))))))))
theorem g_l_one_right {P : Program} {w : World} {K : PySem.W.Frag} {mg : PySem.Str → Option Value} {base : Heap} (pg : Pg K mg base) : Df P w K (clK K) mg base 16 "_law_one_right" ["_law_pot_here", "_law_plan_here", "_law_rules", "_law_part"] m_l_one_right := by
  obtain ⟨fd, F⟩ := pg.def_ 60 (d := dd_l_one_right)
  exact ⟨fd, f_l_one_right pg F, F.bindsN fun _ _ _ _ _ _ us hl => match us, hl with | [_, _, _, _], _ => rfl, F.kp, pg.glo 60⟩
end G
end

section
set_option Elab.async false
set_option linter.all false
set_option maxRecDepth 100000
set_option maxHeartbeats 2000000
namespace G
open PySem PySem.Spec PyProof.Rows L2 DL
theorem one_right_is {ks : List PySem.Str} {f : PySem.Str → Pa} {tb : PySem.Str → List Int} {p : Int × Int} {part : PySem.Str} (o : OkP 5 ks f) (c3 : ∀ k ∈ ks, (f k).c ≤ 3) (w : OkW tb) (hp : OkPot p) (hpart : part ∈ ks) :
    ∃ p' : Int × Int, OkPot p' ∧ m_l_one_right [potS p, some (.dat (plD ks f)), some (.dat (rlD tb)), some (.dat (.str part))] = .ok (.dat (.bl true)) [potS p', none, none, none] := by
  have few := o.few
  obtain ⟨ks', f', p1, hp1, pm, hf, e1⟩ := said_ex o hp
  obtain ⟨r, p2, hp2, r1, r2, e2⟩ := draw_ex hp1 (n := 30) (by decide) (by decide)
  obtain ⟨many, p3, hp3, m1, m2, e3⟩ := draw_ex hp2 (n := 7) (by decide) (by decide)
  have o' := o.said pm hf
  have hpart' := pm.mem_iff.mpr hpart
  have few' := o'.few
  obtain ⟨z1, ez1⟩ := plan_repr o'
  have du := l_delayed_is o hpart many
  have wd := with_delay_is o' hpart' m1
  have same : plD (sortS ks) (fD f part many) = plD (sortS ks') (fD f' part many) := by
    rw [sort_perm pm]
    refine congrArg D.dic (kvF_congr fun k hk => ?_)
    obtain ⟨h1, h2, h3⟩ := hf k (sortS_mem.1 hk)
    simp [fD, h1, h2, h3]
  rw [same] at du
  have c3' : ∀ k ∈ ks', (f' k).c + many ≤ 1000 := fun k hk => by
    rw [(hf k (pm.mem_iff.mp hk)).2.1]
    have := c3 k (pm.mem_iff.mp hk)
    omega
  have oT := okD o' hpart' m1 c3'
  obtain ⟨T, eT⟩ : ∃ T, T = plD (sortS ks') (fD f' part many) := ⟨_, rfl⟩
  have shT : Sh 3 70778 T := by rw [eT]; exact plan_sh oT
  have ipT : m_is_plan [some (.dat T)] = .ok (.dat (.bl true)) [none] := by rw [eT]; exact is_plan_is oT
  have srT := same_ready_is (tb := tb) (day := r - 12) oT (by decide) (fun k hk => rfl) w (by omega) (by omega)
  have ar1 := all_ready_is (tb := tb) (day := r - 12) o' (by decide) w
  have ar2 := all_ready_is (tb := tb) (day := r - 12) oT (by decide) w
  rw [sort_sorted] at ar2
  rw [← eT] at du wd srT ar2
  obtain ⟨z2, ez2⟩ := two_repr shT shT
  obtain ⟨z3, ez3⟩ := shT.repr (by omega) (by omega) (by rw [eT]; exact .inr (.inr ⟨_, rfl⟩))
  have hs : part ∈ sortS ks' := sortS_mem.2 hpart'
  have self := delay_self (tb := tb) (day := r - 12) o' hpart' (many := many)
  have fT : ∃ kvs, T = .dic kvs := ⟨_, eT⟩
  refine ⟨p3, hp3, ?_⟩
  have x1 : one1 [potS p, some (.dat (plD ks f)), some (.dat (rlD tb)), some (.dat (.str part)), none, none, none, none, none, none, none, none, none, none, none] =
      .nx [potS p3, some (.dat (plD ks f)), some (.dat (rlD tb)), some (.dat (.str part)), some (.cel .own (plD ks' f')), some (.dat (.int (r - 12))), some (.dat (.int many)), none, none, none, none, none, none, none, none] := by
    simp -implicitDefEqProofs [one1, e1, e2, e3]
  have x2 : one2 [potS p3, some (.dat (plD ks f)), some (.dat (rlD tb)), some (.dat (.str part)), some (.cel .own (plD ks' f')), some (.dat (.int (r - 12))), some (.dat (.int many)), none, none, none, none, none, none, none, none] =
      .nx [potS p3, some (.dat (plD ks f)), some (.dat (rlD tb)), some (.dat (.str part)), some (.cel .own (plD ks' f')), some (.dat (.int (r - 12))), some (.dat (.int many)), some (.dat (.str z1)), some (.cel .own T), none, none, none, none, none, none] := by
    simp -implicitDefEqProofs [one2, ez1, du]
  obtain ⟨Γ2, eΓ2⟩ : ∃ Γ2 : SE, Γ2 = [potS p3, some (.dat (plD ks f)), some (.dat (rlD tb)), some (.dat (.str part)), some (.cel .own (plD ks' f')), some (.dat (.int (r - 12))), some (.dat (.int many)), some (.dat (.str z1)), some (.cel .own T), none, none, none, none, none, none] := ⟨_, rfl⟩
  have fz : frzE Γ2 = [some (.dat (potD p3)), some (.dat (plD ks f)), some (.dat (rlD tb)), some (.dat (.str part)), some (.dat (plD ks' f')), some (.dat (.int (r - 12))), some (.dat (.int many)), some (.dat (.str z1)), some (.dat T), none, none, none, none, none, none] := by rw [eΓ2]; rfl
  have x4 : ∃ Γ8, one48 ((frzE Γ2).set 9 (some (.dat T))) = .nx Γ8 := by
    rw [fz]
    have y4 : one4 [some (.dat (potD p3)), some (.dat (plD ks f)), some (.dat (rlD tb)), some (.dat (.str part)), some (.dat (plD ks' f')), some (.dat (.int (r - 12))), some (.dat (.int many)), some (.dat (.str z1)), some (.dat T), some (.dat T), none, none, none, none, none] = .nx [some (.dat (potD p3)), some (.dat (plD ks f)), some (.dat (rlD tb)), some (.dat (.str part)), some (.dat (plD ks' f')), some (.dat (.int (r - 12))), some (.dat (.int many)), some (.dat (.str z1)), some (.dat T), some (.dat T), none, none, none, none, none] := by
      simp -implicitDefEqProofs [one4, callKK_eq, kg_with_delay, wd, ez2, ipT]
    have y5 : one5 [some (.dat (potD p3)), some (.dat (plD ks f)), some (.dat (rlD tb)), some (.dat (.str part)), some (.dat (plD ks' f')), some (.dat (.int (r - 12))), some (.dat (.int many)), some (.dat (.str z1)), some (.dat T), some (.dat T), none, none, none, none, none] = .nx [some (.dat (potD p3)), some (.dat (plD ks f)), some (.dat (rlD tb)), some (.dat (.str part)), some (.dat (plD ks' f')), some (.dat (.int (r - 12))), some (.dat (.int many)), some (.dat (.str z1)), some (.dat T), some (.dat T), none, none, none, none, none] := by
      simp -implicitDefEqProofs [one5, srT]
    have y6 : one6 [some (.dat (potD p3)), some (.dat (plD ks f)), some (.dat (rlD tb)), some (.dat (.str part)), some (.dat (plD ks' f')), some (.dat (.int (r - 12))), some (.dat (.int many)), some (.dat (.str z1)), some (.dat T), some (.dat T), none, none, none, none, none] = .nx [some (.dat (potD p3)), some (.dat (plD ks f)), some (.dat (rlD tb)), some (.dat (.str part)), some (.dat (plD ks' f')), some (.dat (.int (r - 12))), some (.dat (.int many)), some (.dat (.str z1)), some (.dat T), some (.dat T), some (.cel .own (wdD tb)), none, none, none, none] := by
      simp -implicitDefEqProofs [one6]
      rw [lcL_all (fun r => .tup [.str r, tabD (tb r)]), lc_len (by rw [List.length_map, rul3_len]; decide)]
      · simp -implicitDefEqProofs [dDict_pairs (g := fun r => tabD (tb r)) rul3_nd]
      · intro r hr
        simp [lcL_one, ixD_kv hr, make_is (w r (rul_of hr))]
    obtain ⟨B, eB⟩ : ∃ B, B = D.dic (kvF (sortS ks') fun k => .int (RD tb f' (r - 12) k)) := ⟨_, rfl⟩
    obtain ⟨C, eC⟩ : ∃ C, C = D.dic (kvF (sortS ks') fun k => .int (RD tb (fD f' part many) (r - 12) k)) := ⟨_, rfl⟩
    have y7 : one7 [some (.dat (potD p3)), some (.dat (plD ks f)), some (.dat (rlD tb)), some (.dat (.str part)), some (.dat (plD ks' f')), some (.dat (.int (r - 12))), some (.dat (.int many)), some (.dat (.str z1)), some (.dat T), some (.dat T), some (.cel .own (wdD tb)), none, none, none, none] = .nx [some (.dat (potD p3)), some (.dat (plD ks f)), some (.dat (rlD tb)), some (.dat (.str part)), some (.dat (plD ks' f')), some (.dat (.int (r - 12))), some (.dat (.int many)), some (.dat (.str z1)), some (.dat T), some (.dat T), some (.dat (wdD tb)), some (.cel .own B), some (.cel .own C), none, none] := by
      rw [← eB] at ar1
      rw [← eC] at ar2
      simp -implicitDefEqProofs [one7, ar1, ar2]
    have y8 : ∃ Γ8, one8 [some (.dat (potD p3)), some (.dat (plD ks f)), some (.dat (rlD tb)), some (.dat (.str part)), some (.dat (plD ks' f')), some (.dat (.int (r - 12))), some (.dat (.int many)), some (.dat (.str z1)), some (.dat T), some (.dat T), some (.dat (wdD tb)), some (.cel .own B), some (.cel .own C), none, none] = .nx Γ8 := by
      subst eB eC
      simp -implicitDefEqProofs [one8, ixD_kv hs, self]
      rw [lcL_map (fun _ => false) (fun _ => D.non), lc_len (by simp)]
      · simp -implicitDefEqProofs [eqv_nil]
      · intro k hk
        have le := delay_le (tb := tb) (day := r - 12) o' w (part := part) m1 (sortS_mem.1 hk)
        have : ¬ RD tb (fD f' part many) (r - 12) k < RD tb f' (r - 12) k := by omega
        simp [lcL_one, ixD_kv hk, this]
    obtain ⟨Γ8, y8⟩ := y8
    refine ⟨Γ8, ?_⟩
    have e : ([some (.dat (potD p3)), some (.dat (plD ks f)), some (.dat (rlD tb)), some (.dat (.str part)), some (.dat (plD ks' f')), some (.dat (.int (r - 12))), some (.dat (.int many)), some (.dat (.str z1)), some (.dat T), none, none, none, none, none, none] : SE).set 9 (some (.dat T)) = [some (.dat (potD p3)), some (.dat (plD ks f)), some (.dat (rlD tb)), some (.dat (.str part)), some (.dat (plD ks' f')), some (.dat (.int (r - 12))), some (.dat (.int many)), some (.dat (.str z1)), some (.dat T), some (.dat T), none, none, none, none, none] := rfl
    rw [e]
    show (one4 _).thn _ = _
    rw [y4]
    show (one5 _).thn _ = _
    rw [y5]
    show (one6 _).thn _ = _
    rw [y6]
    show (one7 _).thn _ = _
    rw [y7]
    exact y8
  obtain ⟨Γ8, x4⟩ := x4
  have x11 : one11 Γ2 = .rt (.dat (.bl true)) ([potS p3, some (.dat (plD ks f)), some (.dat (rlD tb)), some (.dat (.str part)), some (.dat (plD ks' f')), some (.dat (.int (r - 12))), some (.dat (.int many)), some (.dat (.str z1)), some (.cel .own T), none, none, none, none, none, none]) := by
    rw [eΓ2]
    simp -implicitDefEqProofs [one11, ez1, wd, ez3]
  have cm : CMut one48 Γ2 := by
    refine ⟨5, ks', f', part, many, Γ8, o', hpart', m1, by rw [fz]; rfl, by rw [fz]; rfl, by rw [fz]; rfl, fun i h1 h2 => ?_, by rw [← eT]; exact x4⟩
    rw [eΓ2]
    match i, h1, h2 with
    | 9, _, _ => rfl
    | 10, _, _ => rfl
    | 11, _, _ => rfl
    | 12, _, _ => rfl
    | 13, _, _ => rfl
    | 14, _, _ => rfl
  have xm : mMut one48 one11 Γ2 = one11 Γ2 := if_pos cm
  have ep : padE 15 [potS p, some (.dat (plD ks f)), some (.dat (rlD tb)), some (.dat (.str part))] = [potS p, some (.dat (plD ks f)), some (.dat (rlD tb)), some (.dat (.str part)), none, none, none, none, none, none, none, none, none, none, none] := rfl
  unfold m_l_one_right
  rw [e_fn, ep]
  unfold b_l_one_right
  rw [e_sq, x1, e_thn_nx, e_sq, x2, e_thn_nx, ← eΓ2, xm, x11]
  simp
end G
end

section
set_option Elab.async false
set_option linter.all false
set_option maxRecDepth 100000
set_option maxHeartbeats 2000000
namespace G
open PySem PySem.Spec PyProof.Rows L2 DL Hd
/-! l_right -/
theorem sc_l_right : FnScope ["_law_pot_here", "_law_plan_here", "_law_rules", "_law_rule_here", "_law_part"] ["_law_pot_here"] (defScope st_l_right) := ⟨rfl, rfl, rfl, by decide +kernel, rfl, by decide +kernel, by decide +kernel⟩
noncomputable def b_l_right : MS := (mSq (mAsg (mCallN 2 m_l_plan (mAr 0 .brw (mAv (mC (.int 5)) mAn))) (gNm 1)) (mSq (mAsg (mC1 dDict (toD (mLc (mSeq (toD (mLst (mCons (mC (.str "a")) (mCons (mC (.str "b")) (mCons (mC (.str "c")) mNil)))))) (gNm 3) mYes (mTup (mCons (mVar 3) (mCons (toD (mCallN 1 m_l_rule (mAr 0 .brw mAn))) mNil))) [3]))) (gNm 2)) (mSq (mIfS (mOrT (mNotT (mTru (toD (mCallN 3 m_l_fewer_right (mAr 0 .brw (mAv (mVar 1) (mAv (mVar 2) mAn))))))) (mNotT (mTru (toD (mCallN 3 m_l_followed_right (mAr 0 .brw (mAv (mVar 1) (mAv (mVar 2) mAn)))))))) (mRet (ofD (mC (.bl false)))) mNx) (mRet (mC1 dAll (toD (mLc (mSeq (toD (mC1 dSorted (mPk 1)))) (gNm 4) mYes (toD (mCallN 4 m_l_one_right (mAr 0 .brw (mAv (mVar 1) (mAv (mVar 2) (mAv (mVar 4) mAn)))))) [4])))))))
noncomputable def m_l_right : ME := mFn 5 b_l_right
set_option maxHeartbeats 4000000 in
theorem f_l_right {P : Program} {w : World} {K : PySem.W.Frag} {mg : PySem.Str → Option Value} {base : Heap} (pg : Pg K mg base) {fd : FuncData} (F : FunD K dd_l_right.name dd_l_right.qual dd_l_right.params dd_l_right.body dd_l_right.scope (dd_l_right.dvs K) (dd_l_right.kws K) (He.fAd K dd_l_right.at_) fd) : FnG P w K (clK K) mg base 17 (He.ga K "_law_right") fd ["_law_pot_here"] m_l_right := by
  refine FnG.of F sc_l_right fun cdv A fr s H E hr gds => ?_
  have hN := sc_l_right.nd
  have hu64 := hr.units
  have hu1 : _ + 1 < cLine := Nat.lt_of_le_of_lt (Nat.add_le_add_left (by decide : 1 ≤ 64) _) hu64
  exact (dss_cons (ds_set 1 hN (de_callF (ps := ["_law_pot_here", "_law_most"]) (Df.mono (g_l_plan pg) (by decide)) hr gds (takes_of rfl rfl rfl rfl) (da_r 0 .brw (da_v dd_int da_nil)))) (dss_cons (ds_set 2 hN (de_t1 (call_dictW rfl) ca_dict (DE.toR (de_lc (own := [("_law_rule_here", 3)]) rfl hN (di_seq (DE.toD (de_lst (das_cons dd_str (das_cons dd_str (das_cons dd_str das_nil)))))) (blk_ok (by kernel_rfl)) (fun _ _ _ _ _ => (dgc_name 3 hN)) (fun _ _ _ _ _ => dts_nil) (fun _ _ _ _ _ => (dd_tup (das_cons (dd_var 3) (das_cons (DE.toD (de_callF (ps := ["_law_pot_here"]) (Df.mono (g_l_rule pg) (by decide)) hr gds DL.takes0 (da_r 0 .brw da_nil))) das_nil)))))) rfl (pg.free 91) (by decide +kernel))) (dss_cons (ds_if (DW.dt (dw_or (dt_not (dt_tru (DE.toR (de_callF (ps := ["_law_pot_here", "_law_plan_here", "_law_rules"]) (Df.mono (g_l_fewer_right pg) (by decide)) hr gds (takes_of rfl rfl rfl rfl) (da_r 0 .brw (da_v (dd_var 1) (da_v (dd_var 2) da_nil))))))) (dw_or1 (dt_not (dt_tru (DE.toR (de_callF (ps := ["_law_pot_here", "_law_plan_here", "_law_rules"]) (Df.mono (g_l_followed_right pg) (by decide)) hr gds (takes_of rfl rfl rfl rfl) (da_r 0 .brw (da_v (dd_var 1) (da_v (dd_var 2) da_nil)))))))))) (dss_one (ds_ret (DD.toE dd_bl))) dss_nil) (dss_one (ds_ret (de_b1 (cr_all rfl) ca_all (DE.toR (de_lc (own := [("_law_part", 4)]) rfl hN (di_seq (DE.toD (de_b1 (call_sortedW rfl) ca_sorted (dr_pk 1) rfl (pg.free 104) (by decide +kernel)))) (blk_ok (by kernel_rfl)) (fun _ _ _ _ _ => (dgc_name 4 hN)) (fun _ _ _ _ _ => dts_nil) (fun _ _ _ _ _ => (DE.toD (de_callF (ps := ["_law_pot_here", "_law_plan_here", "_law_rules", "_law_part"]) (Df.mono (g_l_one_right pg) (by decide)) hr gds DL.takes0 (da_r 0 .brw (da_v (dd_var 1) (da_v (dd_var 2) (da_v (dd_var 4) da_nil))))))))) rfl (pg.free 88) (by decide +kernel)))))))
theorem g_l_right {P : Program} {w : World} {K : PySem.W.Frag} {mg : PySem.Str → Option Value} {base : Heap} (pg : Pg K mg base) : Df P w K (clK K) mg base 17 "_law_right" ["_law_pot_here"] m_l_right := by
  obtain ⟨fd, F⟩ := pg.def_ 64 (d := dd_l_right)
  exact ⟨fd, f_l_right pg F, F.bindsN fun _ _ _ _ _ _ us hl => match us, hl with | [_], _ => rfl, F.kp, pg.glo 64⟩
/-! law -/
theorem sc_law : FnScope ["_law_script", "_law_k"] ["_law_script"] (defScope st_law) := ⟨rfl, rfl, rfl, by decide +kernel, rfl, by decide +kernel, by decide +kernel⟩
noncomputable def b_law : MS := (mRet (mC1 dAll (toD (mLc (mRng1 (mCons (toD (mBin dMax2 (mC (.int 1)) (toD (mBin dMin2 (mC (.int 3)) (toD (mC1 dLen (mPk 0))))))) mNil)) (gNm 1) mYes (toD (mCall1 m_l_right (mCallN 2 m_l_pot (mAv (mVar 0) (mAv (mVar 1) mAn))))) [1]))))
noncomputable def m_law : ME := mFn 2 b_law
set_option maxHeartbeats 4000000 in
theorem f_law {P : Program} {w : World} {K : PySem.W.Frag} {mg : PySem.Str → Option Value} {base : Heap} (pg : Pg K mg base) {fd : FuncData} (F : FunD K dd_law.name dd_law.qual dd_law.params dd_law.body dd_law.scope (dd_law.dvs K) (dd_law.kws K) (He.fAd K dd_law.at_) fd) : FnG P w K (clK K) mg base 18 (He.ga K "law") fd ["_law_script"] m_law := by
  refine FnG.of F sc_law fun cdv A fr s H E hr gds => ?_
  have hN := sc_law.nd
  have hu64 := hr.units
  have hu1 : _ + 1 < cLine := Nat.lt_of_le_of_lt (Nat.add_le_add_left (by decide : 1 ≤ 64) _) hu64
  exact (dss_one (ds_ret (de_b1 (cr_all rfl) ca_all (DE.toR (de_lc (own := [("_law_k", 1)]) rfl hN (di_range1 rfl (pg.free 101) (das_cons (DE.toD (de_b2 (call_max2 rfl) ca_max2 dd_int (DE.toR (de_b2 (call_min2 rfl) ca_min2 dd_int (DE.toR (de_b1 call_lenW ca_len (dr_pk 0) rfl (pg.free 96) (by decide +kernel))) rfl (pg.free 99) (by decide +kernel))) rfl (pg.free 98) (by decide +kernel))) das_nil)) (blk_ok (by kernel_rfl)) (fun _ _ _ _ _ => (dgc_name 1 hN)) (fun _ _ _ _ _ => dts_nil) (fun _ _ _ _ _ => (DE.toD (de_call1F (ps := ["_law_pot_here"]) (Df.mono (g_l_right pg) (by decide)) hr gds DL.takes0 (de_callF (ps := ["_law_script", "_law_k"]) (Df.mono (g_l_pot pg) (by decide)) hr gds DL.takes0 (da_v (dd_var 0) (da_v (dd_var 1) da_nil)))))))) rfl (pg.free 88) (by decide +kernel))))
theorem g_law {P : Program} {w : World} {K : PySem.W.Frag} {mg : PySem.Str → Option Value} {base : Heap} (pg : Pg K mg base) : Df P w K (clK K) mg base 18 "law" ["_law_script"] m_law := by
  obtain ⟨fd, F⟩ := pg.def_ 65 (d := dd_law)
  exact ⟨fd, f_law pg F, F.bindsN fun _ _ _ _ _ _ us hl => match us, hl with | [_], _ => rfl, F.kp, pg.glo 65⟩
end G
end

section
set_option Elab.async false
set_option linter.all false
set_option maxRecDepth 100000
set_option maxHeartbeats 2000000
namespace DL
section
open PySem PySem.Spec PyProof.Rows L2
variable {Γ Γ1 Γc : SE} {f : ME} {ma : ME} {s : Sv} {d : D} {k : Kd}
def call1E (Γ1 : SE) (r : Res Sv) : Res Sv := match r with
  | .ok s' _ => .ok s' Γ1
  | .exc c xs _ => .exc c xs Γ1
  | .bad => .bad
def call1R (f : ME) (r : Res Sv) : Res Sv := r.bnd fun s Γ1 => match s with
  | .dat _ => .bad
  | .cel _ d => call1E Γ1 (f [some (.cel .brw d)])
@[simp] theorem e_call1 : mCall1 f ma Γ = call1R f (ma Γ) := by
  show Res.bnd _ _ = Res.bnd _ _
  congr 1
@[simp] theorem e_call1R : call1R f (.ok (.cel k d) Γ1) = call1E Γ1 (f [some (.cel .brw d)]) := rfl
@[simp] theorem e_call1E : call1E Γ1 (.ok s Γc) = .ok s Γ1 := rfl
end
end DL
namespace G
open PySem PySem.Spec PyProof.Rows L2 DL
theorem dPow_int {i j : Int} (h : CPow i j) : dPow (.int i) (.int j) = some (.dat (.int (i ^ j.toNat))) := if_pos h
theorem right_is {p : Int × Int} (hp : OkPot p) : ∃ p' : Int × Int, OkPot p' ∧ m_l_right [potS p] = .ok (.dat (.bl true)) [potS p'] := by
  obtain ⟨ks, f, p1, hp1, o, l5, hk, e1⟩ := plan_ex hp 5 (by decide) (by decide)
  have e1' : m_l_plan [potS p, some (.dat (.int 5))] = .ok (.cel .own (plD ks f)) [potS p1, none] := e1
  let R : List PySem.Str → List D → SE → Prop := fun pre es Γ => ∃ (tb : PySem.Str → List Int) (p : Int × Int), es = pre.map (fun r => .tup [.str r, dsD (tb r)]) ∧ (∀ r ∈ pre, OkT (tb r)) ∧ OkPot p ∧ Γ = [potS p, some (.cel .own (plD ks f)), none, none, none]
  obtain ⟨es, Γ2, elc, tb, p2, rfl, ht, hp2, rfl⟩ : ∃ es Γ2, mLcL (gNm 3) mYes (mTup (mCons (mVar 3) (mCons (toD (mCallN 1 m_l_rule (mAr 0 .brw mAn))) mNil))) [3] (rul3.map D.str) [potS p1, some (.cel .own (plD ks f)), none, none, none] = .ok es Γ2 ∧ R rul3 es Γ2 := by
    have := lcL_inv (enc := D.str) (g := gNm 3) (mt := mYes) (me := mTup (mCons (mVar 3) (mCons (toD (mCallN 1 m_l_rule (mAr 0 .brw mAn))) mNil))) (vs := [3]) R rul3 (fun pre x post es Γ ex ⟨tb, p, ees, ht, hp, eΓ⟩ => by
      subst ees eΓ
      obtain ⟨days, p5, hp5, od, ed⟩ := rule_ex hp
      have np : x ∉ pre := fun h => by
        have := rul3_nd
        rw [ex] at this
        exact (List.nodup_append.mp this).2.2 x h x (List.mem_cons_self ..) rfl
      refine ⟨[.tup [.str x, dsD days]], _, by simp -implicitDefEqProofs [lcL_one, ed], fun r => if r = x then days else tb r, p5, ?_, fun r hr => ?_, hp5, rfl⟩
      · rw [List.map_append]
        congr 1
        · refine List.map_congr_left fun r hr => ?_
          have : ¬ r = x := fun e => np (e ▸ hr)
          simp [this]
        · simp
      · dsimp only
        split
        · exact od
        · next h => exact ht r ((List.mem_append.mp hr).resolve_right (by simpa using h))) [] rul3 [] _ rfl ⟨fun _ => [], p1, rfl, fun r h => by simp at h, hp1, rfl⟩
    simpa -implicitDefEqProofs using this
  have w : OkW tb := fun r hr => ht r hr.mem
  have lit : [D.str "a", D.str "b", D.str "c"] = rul3.map D.str := rfl
  obtain ⟨p3, hp3, e3⟩ := fewer_right_is (tb := tb) o l5 (fun k h => (hk k h).2.1) w hp2
  obtain ⟨p4, hp4, e4⟩ := followed_right_is (tb := tb) o (fun k h => (hk k h).1) l5 (fun k h => (hk k h).2.1) w hp3
  let R2 : List PySem.Str → List D → SE → Prop := fun pre es Γ => es = pre.map (fun _ => D.bl true) ∧ ∃ p : Int × Int, OkPot p ∧ Γ = [potS p, some (.dat (plD ks f)), some (.dat (rlD tb)), none, none]
  obtain ⟨es, Γ3, elc2, rfl, p5, hp5, rfl⟩ : ∃ es Γ3, mLcL (gNm 4) mYes (toD (mCallN 4 m_l_one_right (mAr 0 .brw (mAv (mVar 1) (mAv (mVar 2) (mAv (mVar 4) mAn)))))) [4] ((sortS ks).map D.str) [potS p4, some (.dat (plD ks f)), some (.dat (rlD tb)), none, none] = .ok es Γ3 ∧ R2 (sortS ks) es Γ3 := by
    have := lcL_inv (enc := D.str) (g := gNm 4) (mt := mYes) (me := toD (mCallN 4 m_l_one_right (mAr 0 .brw (mAv (mVar 1) (mAv (mVar 2) (mAv (mVar 4) mAn)))))) (vs := [4]) R2 (sortS ks) (fun pre x post es Γ ex ⟨ees, p, hp, eΓ⟩ => by
      subst ees eΓ
      have hx : x ∈ ks := sortS_mem.1 (by rw [ex]; simp)
      obtain ⟨p6, hp6, e6⟩ := one_right_is (tb := tb) o (fun k h => (hk k h).2.2) w hp hx
      exact ⟨[.bl true], _, by simp -implicitDefEqProofs [lcL_one, e6], by simp, p6, hp6, rfl⟩) [] (sortS ks) [] _ rfl ⟨rfl, p4, hp4, rfl⟩
    simpa -implicitDefEqProofs using this
  refine ⟨p5, hp5, ?_⟩
  simp -implicitDefEqProofs [m_l_right, b_l_right, e1']
  rw [lit, elc, lc_len (by rw [List.length_map, rul3_len]; decide)]
  simp -implicitDefEqProofs [dDict_pairs (g := fun r => dsD (tb r)) rul3_nd, e3, e4, dSorted_kv (show ks.length < 64 by omega)]
  rw [elc2, lc_len (by rw [List.length_map, sortS_length]; omega)]
  simp -implicitDefEqProofs
theorem pot_is {ns : List Int} {k : Int} (h0 : 0 ≤ k) (h2 : k ≤ 2) : ∃ p : Int × Int, OkPot p ∧ m_l_pot [some (.dat (.scr ns)), some (.dat (.int k))] = .ok (.cel .own (potD p)) [none, none] := by
  have fin : ∀ cell : Int, ∃ p : Int × Int, OkPot p ∧ (mRet (mLst (mCons (toD (mBin dMax2 (mC (.int 0)) (toD (mBin dSub (mVar 2) (toD (mBin dPow (mC (.int 10)) (mC (.int 18)))))))) (mCons (toD (mBin dAdd (toD (mBin dMod (toD (mBin dMul (toD (mC1 dIntC1 (toD (mBin dAdd (toD (mBin dMod (toD (mC1 dIntC1 (mPk 2))) (mC (.int 2147483549)))) (mC (.int 67)))))) (toD (mBin dPow (toD (mBin dAdd (toD (mBin dMul (mC (.int 2)) (mPk 1))) (mC (.int 7)))) (mC (.int 3)))))) (mC (.int 2147483477)))) (mC (.int 1)))) mNil)))) [some (.dat (.scr ns)), some (.dat (.int k)), some (.dat (.int cell))] = .rt (.cel .own (potD p)) [some (.dat (.scr ns)), some (.dat (.int k)), some (.dat (.int cell))] := fun cell => by
    have m1 : (0 : Int) < 2147483549 := by decide
    have m2 : (0 : Int) < 2147483477 := by decide
    have q0 : 0 ≤ cell % 2147483549 := Int.emod_nonneg _ (by decide)
    have q1 : cell % 2147483549 < 2147483549 := Int.emod_lt_of_pos _ (by decide)
    have c1 : CMul 2 k := .inl ⟨by decide, by decide⟩
    have c2 : CMul (cell % 2147483549 + 67) ((2 * k + 7) ^ 3) := .inl ⟨by omega, by omega⟩
    have pw1 : dPow (.int 10) (.int 18) = some (.dat (.int (10 ^ 18))) := dPow_int ⟨by decide, by decide, by decide⟩
    have pw2 : dPow (.int (2 * k + 7)) (.int 3) = some (.dat (.int ((2 * k + 7) ^ 3))) := dPow_int ⟨by decide, by decide, by omega⟩
    have mx : ∀ i j : Int, dMax2 (.int i) (.int j) = some (.dat (.int (if j > i then j else i))) := fun i j => rfl
    have r0 : 0 ≤ (cell % 2147483549 + 67) * (2 * k + 7) ^ 3 % 2147483477 := Int.emod_nonneg _ (by decide)
    have r1 : (cell % 2147483549 + 67) * (2 * k + 7) ^ 3 % 2147483477 < 2147483477 := Int.emod_lt_of_pos _ (by decide)
    refine ⟨(if cell - 10 ^ 18 > 0 then cell - 10 ^ 18 else 0, (cell % 2147483549 + 67) * (2 * k + 7) ^ 3 % 2147483477 + 1), ⟨by show 0 ≤ _ + 1; omega, by show _ + 1 < _; omega⟩, ?_⟩
    simp -implicitDefEqProofs [dIntC1, dMod_int m1, dMod_int m2, dMul_int c1, dMul_int c2, pw1, pw2, mx]
  have c0 : CMul 89 k := .inl ⟨by decide, by decide⟩
  unfold m_l_pot b_l_pot
  by_cases c : k < (ns.length : Int)
  · have ix : ixD (.scr ns) (.int k) = some (.int (ns[k.toNat]'(by omega))) := by
      show (atI ns k).map D.int = _
      unfold atI ixN
      rw [if_pos h0, if_pos c]
      show (ns[k.toNat]?).map D.int = _
      rw [List.getElem?_eq_getElem (by omega)]; rfl
    obtain ⟨p, hp, e⟩ := fin (if ns[k.toNat]'(by omega) < 0 then -ns[k.toNat]'(by omega) else ns[k.toNat]'(by omega))
    refine ⟨p, hp, ?_⟩
    have ab : dAbs (.int (ns[k.toNat]'(by omega))) = some (.dat (.int (if ns[k.toNat]'(by omega) < 0 then -ns[k.toNat]'(by omega) else ns[k.toNat]'(by omega)))) := rfl
    simp -implicitDefEqProofs [dMul_int c0, c, ix, ab, -e_ret]
    rw [e]
    simp
  · obtain ⟨p, hp, e⟩ := fin (89 * k + 41)
    refine ⟨p, hp, ?_⟩
    simp -implicitDefEqProofs [dMul_int c0, c, -e_ret]
    rw [e]
    simp
theorem says (ns : List Int) (h : ns.length ≤ 63) : SaysTrue m_law ns := by
  obtain ⟨n, en, n1, n3⟩ : ∃ n : Nat, (if (if (ns.length : Int) < 3 then (ns.length : Int) else 3) > 1 then (if (ns.length : Int) < 3 then (ns.length : Int) else 3) else 1) = (n : Int) ∧ 1 ≤ n ∧ n ≤ 3 := by
    refine ⟨(if (if (ns.length : Int) < 3 then (ns.length : Int) else 3) > 1 then (if (ns.length : Int) < 3 then (ns.length : Int) else 3) else 1 : Int).toNat, ?_, ?_, ?_⟩ <;> (repeat' split) <;> omega
  have mn : dMin2 (.int 3) (.int ns.length) = some (.dat (.int (if (ns.length : Int) < 3 then (ns.length : Int) else 3))) := rfl
  have mx : dMax2 (.int 1) (.int (if (ns.length : Int) < 3 then (ns.length : Int) else 3)) = some (.dat (.int n)) := by
    show some (Sv.dat (.int (if _ > 1 then _ else 1))) = _
    rw [en]
  refine ⟨[none], ?_⟩
  simp -implicitDefEqProofs [m_law, b_law, mn, mx]
  rw [rng1_ok (by omega), Int.toNat_natCast, e_lcK]
  simp -implicitDefEqProofs
  rw [lcL_all (fun _ => D.bl true), lc_len (by rw [List.length_map, List.length_range]; omega)]
  · simp -implicitDefEqProofs
  · intro k hk
    have := List.mem_range.mp hk
    obtain ⟨p, hp, e⟩ := pot_is (ns := ns) (k := (k : Int)) (by omega) (by omega)
    obtain ⟨p', hp', e'⟩ := right_is hp
    simp -implicitDefEqProofs [lcL_one, e, e']
end G
end
set_option maxHeartbeats 4000000
theorem PySem.Challenge.cw_leadrules_k83_whole_plans_otherwise_holds : PySem.Challenge.rw_leadrules_k83_whole_plans_otherwise.Holds := by
  exact the_end (k := 18) ⟨rfl, by decide +kernel, by decide +kernel⟩ (fun pg F => G.f_law pg F) (fun ns h _ => G.says ns h)
