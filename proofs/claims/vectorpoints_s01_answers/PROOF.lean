import PyProof.Rows.All
import Wide.All
import OpenK.AllK
import Wide.FinOn
import PyProof.EqAt
import PyProof.EqKinds
import PyProof.TupleCall
import Open.SpecLaws
import KE.OsGo
import PySem.Challenge.RW_vectorpoints_s01_answers
import HandS.ForSpec
import HandS.Comp
import HandS.Iter
import HandS.Wide
import HandS.Evl
import HandS.Dict
import HandS.Walk
import KE.KDictZip
import HandS.Text
import KE.OsArith
set_option Elab.async false
set_option linter.all false
set_option maxRecDepth 100000
set_option maxHeartbeats 4000000
namespace PySem
namespace RefX
open PySem.W PySem.Calls PyProof.Rows PySem.HandSPX
/-! ### the text of __init__ -/
def iA (p1 p2 : Pos) : Arguments := { posonlyargs := [], args := [{ arg := "self", annotation := none, pos := p1 }, { arg := "code", annotation := none, pos := p2 }], vararg := none, kwonlyargs := [], kw_defaults := [], kwarg := none, defaults := [] }
def iB (q1 q2 q3 q4 : Pos) : List Stmt := [.Assign [.Attribute (.Name "self" q1) "code" q2] (.Name "code" q3) q4]
def iS : Scope := { kind := .function, names := [(PySem.Str.ofString "self", .local), (PySem.Str.ofString "code", .local)], isGenerator := false, isCoroutine := false, more := [] }
/-- what the written part says of Low, at C, and of its __init__, at fI -/
structure RefTxt (K : Frag) (mg : Str → Option Value) (C fI : Addr) : Prop where
  gC : mg "Refusal" = some (.ref C)
  cls : ∃ nm q N bs bm sn sub ab col dd k0 k1 k2 k3 k5, K.lookup C = some (excClassObj nm q C N bs bm true sn sub ab col dd k0 k1 k2 k3 k5 "ValueError.__new__") ∧ refsVE bm = true
  sa : findIn K (.ref C) "__setattr__" = some (some (.builtin "object.__setattr__"))
  ga : findIn K (.ref C) "__getattribute__" = some (some (.builtin "BaseException.__getattribute__"))
  gg : findIn K (.ref C) "__getattr__" = some none
  noN : findIn K (.ref C) "code" = some none
  iC : findIn K (.ref C) "__init__" = some (some (.ref fI))
  tC : typeIn K (.ref fI) = some (.type "function")
  kC : keepIn K (.ref C) = true
  exC : subIn K (.ref C) (.type "BaseException") = some true
  tyC : typeIn K (.ref C) = some (.type "type")
  hdC : hasDictIn K C = true
  te : exmOne K (.ref C) (.ref C) = some true
  fn : ∃ (oc : Value) (od : Option Addr) (doc pm : Value) (an : Option Addr) (cdv ct : Value) (osl : Array (Option Value)) (p1 p2 q1 q2 q3 q4 : Pos),
    K.lookup fI = some ⟨oc, od, .func (fnOf "__init__" "Refusal.__init__" (iA p1 p2) (iB q1 q2 q3 q4) iS .none .none doc pm an cdv ct), osl⟩ ∧ codeIn K cdv "Refusal.__init__" = true
theorem one_size (v : Value) : [v].length ≤ sizeLine := by
  rw [sizeLine_eq]
  exact (by decide : 1 ≤ 16777216)
theorem kept_but {K : Frag} {h h' : Heap} {x : Addr} (X : K.In h) (hx : K.lookup x = none) (k : ∀ b o, b ≠ x → h.get? b = some o → h'.get? b = some o) : K.In h' := fun a o e =>
  k a o (fun z => by rw [z, hx] at e; cases e) (X a o e)
theorem ldC {M : Model} {s : Shared} {name : Str} {scope : Scope} {L a : Addr} {cd : Value} {m : Str → Option Value} {x : Str} {pos : Pos} {v : Value} {Q : Value → Shared → Prop} {A : Around} {E : Value → Shared → Prop} (hn : s.heap.Ns L m) (hv : m x = some v) (h : Q v s)
    (hk : scope.kind = .function := by rfl) (hl : (envOfC name scope L a cd).kindOf x = some .local := by rfl) (hd : (x == ("__debug__" : Str)) = false := by decide) :
    wpAny M A (eval (.Name x pos) (envOfC name scope L a cd)) Q E s := wpAny_Name (wpAny_loadName_local hk hl hn hv h) hd
/-- what __init__ leaves of a fresh exception at x -/
structure InitEnd (h h' : Heap) (x C dx t1 : Addr) (v : Value) : Prop where
  keep : ∀ b o, b ≠ x → h.get? b = some o → h'.get? b = some o
  obj : h'.get? x = some { cls := .ref C, dict := some dx, data := .fields #[.ref t1, .none, .none, .none, .bool false, .none] }
  dbig : h.objs.size ≤ dx
  dne : dx ≠ x
  ns : h'.Ns1 dx (fun y => if y = "code" then some v else none)
/-- a made Low -/
structure OwnMade (h h' : Heap) (e C d : Addr) (v : Value) : Prop where
  keep : ∀ b o, h.get? b = some o → h'.get? b = some o
  new : h.objs.size ≤ e
  obj : ∃ oe vs, h'.get? e = some oe ∧ oe.cls = .ref C ∧ oe.dict = some d ∧ oe.data = .fields vs ∧ vs[1]? = some .none
  dbig : h.objs.size ≤ d
  dne : d ≠ e
  ns : h'.Ns1 d (fun y => if y = "code" then some v else none)
section
variable {prog : Program} {w : World} {A : Around} {E : Value → Shared → Prop} {R : Result → Shared → Prop} {s : Shared} {K : Frag} {mg : Str → Option Value} {C fI : Addr}
theorem ref_init (T : RefTxt K mg C fI) {x t0 : Addr} {v : Value} (X : K.In s.heap) (hlim : s.heap.NoLimit) (hx : s.heap.get? x = some (excO C t0)) (hnx : K.lookup x = none) (hroom : A.depth < recursionLimit)
    (hq : ∀ h' tk dx, InitEnd s.heap h' x C dx t0 v → R (.ok (.ret .none)) { s with heap := h', toks := tk }) :
    codeAny (model prog w) A (.call (.ref fI) ⟨[.ref x, v], []⟩) R s := by
  obtain ⟨oc, od, doc, pm, an, cdv, ct, osl, p1, p2, q1, q2, q3, q4, ho, hcd⟩ := T.fn
  obtain ⟨nm, q, N, bs, bm, sn, sub, ab, col, dd, k0, k1, k2, k3, k5, hC, hbm⟩ := T.cls
  have hcl : clsIn K C = some { name := nm, bases := bs, mro := .ref C :: bm, ns := N, qualname := q, hasDict := true, slotNames := sn, subclasses := sub, abstract := ab, collection := col, hasDel := false } := by unfold clsIn; rw [hC] <;> rfl
  refine Att.call_fn (binds := [("self", .ref x), ("code", v)]) X hlim ho hcd hroom (BindsTo.of_eq (by first | rfl | with_unfolding_all rfl)) (by first | rfl | decide | with_unfolding_all rfl) (fun s₁ IC => ?_) rfl rfl rfl
  obtain ⟨h₁, tk₁, rfl⟩ := IC.toInCall.same
  have k : ∀ b o, s.heap.get? b = some o → h₁.get? b = some o := IC.toInCall.keep
  have hn := IC.toInCall.ns
  have hxL : s.heap.objs.size ≠ x := Nat.ne_of_gt (Heap.lt_size hx)
  have X₁ : K.In h₁ := X.keeps k
  have hx₁ := k _ _ hx
  -- self.by = by
  show wpAny _ _ (execs _ _) _ _ _
  refine wpAny_execs_cons (plainObj_wpAny_Assign_Attribute ?_)
  refine ldC (v := v) hn (by first | rfl | with_unfolding_all rfl | kernel_rfl) (ldC (v := .ref x) hn (by first | rfl | with_unfolding_all rfl | kernel_rfl) ?_)
  refine set_plain X₁ (ox := excO C t0) (od := none) ⟨hx₁, rfl, rfl, trivial⟩ T.sa ?_
  refine exc_osa X₁ hx₁ hcl (show refsVE (.ref C :: bm) = true from hbm) rfl T.noN (fun h₃ tk₃ dx k₃ dn dne hx₃ hn₃ => ?_)
  show wpAny _ _ (execs _ _) _ _ _
  have z : s.heap.objs.size < h₁.objs.size := hn.lt
  exact wpAny_execs_nil (hq h₃ tk₃ dx ⟨fun b o hb e => k₃ b o hb (k b o e), hx₃, Nat.le_of_lt (Nat.lt_of_lt_of_le z dn), dne, hn₃⟩)
theorem ref_made (T : RefTxt K mg C fI) {v : Value} (X : K.In s.heap) (hlim : s.heap.NoLimit) (hroom : A.depth + 1 < recursionLimit)
    (hq : ∀ h' tk e d, OwnMade s.heap h' e C d v → R (.ok (.ret (.ref e))) { s with heap := h', toks := tk }) :
    codeAny (model prog w) A (.call (.ref C) ⟨[v], []⟩) R s := by
  obtain ⟨nm, q, N, bs, bm, sn, sub, ab, col, dd, k0, k1, k2, k3, k5, hC, hbm⟩ := T.cls
  obtain ⟨hp, g, dr, tk, os⟩ := s
  have k : ∀ b o, hp.get? b = some o → ((hp.push (kdv_tup [v])).push (excO C hp.objs.size)).get? b = some o := fun b o e => Heap.get?_push_of_some _ (Heap.get?_push_of_some _ e)
  have hget : ((hp.push (kdv_tup [v])).push (excO C hp.objs.size)).get? (hp.objs.size + 1) = some (excO C hp.objs.size) := by heap_get
  have hnx : K.lookup (hp.objs.size + 1) = none := by
    cases e : K.lookup (hp.objs.size + 1) with
    | none => rfl
    | some o =>
      have z : hp.get? (hp.objs.size + 1) = some o := X _ _ e
      exact absurd (Nat.lt_of_succ_lt (Heap.lt_size z)) (Nat.lt_irrefl _)
  refine call_own F.excBase_ValueError (fun X => refsVE_contains X bm hbm) (X _ _ hC) (looks_findIn X T.iC) (fun self => bind_fn X self T.tC) (one_size v) ?_
  refine ref_init (s := ⟨(hp.push (kdv_tup [v])).push (excO C hp.objs.size), g, dr, tk, os⟩) T (X.keeps k) (hlim.keeps k) hget hnx ?_ fun h' tk' dx ⟨k', hx, dn, dne, hns⟩ => ?_
  · show A.depth + 1 < recursionLimit
    exact hroom
  · have old : ∀ b o, hp.get? b = some o → h'.get? b = some o := fun b o e => k' b o (Nat.ne_of_lt (Nat.lt_succ_of_lt (Heap.lt_size e))) (k b o e)
    have z : hp.objs.size + 1 + 1 ≤ dx := by
      first
        | (simpa only [Heap.size_push] using dn)
        | exact dn
        | (have q := dn; rw [Heap.size_push, Heap.size_push] at q; exact q)
    exact ⟨rfl, hq h' tk' (hp.objs.size + 1) dx ⟨old, Nat.le_succ _, ⟨_, _, hx, rfl, rfl, rfl, rfl⟩, Nat.le_trans (Nat.le_trans (Nat.le_succ _) (Nat.le_succ _)) z, dne, hns⟩⟩
end
end RefX
end PySem
namespace L2
open PySem PySem.Spec PyProof.Rows
theorem relO_ref {v : V} {v' : Value} (r : RelV v v') (f : Str) : RelO (List.lookup f [(("code" : Str), v)]) (if f = "code" then some v' else none) := by
  by_cases hw : f = "code"
  · subst hw
    rw [if_pos rfl]
    have q : List.lookup ("code" : Str) [(("code" : Str), v)] = some v := by simp [List.lookup]
    rw [q]
    exact r
  · rw [if_neg hw]
    have qw : (f == ("code" : Str)) = false := by simpa using hw
    have q2 : List.lookup f [(("code" : Str), v)] = none := by simp [List.lookup, qw]
    rw [q2]
    trivial
section
variable {X : Cx} {C fI : Addr}
/-- Low(e) -/
def tMkRef (C : Addr) (ta : TA) : St → Hp → XK → Prop := fun σ H Q => ta σ H fun vs H1 => ∃ v, vs = [v] ∧ ∀ d, H1 d = none → Q (.ref C) (some d) (upd H1 d (.xd [(("code" : Str), v)]))
theorem pmk_ref {a : Expr} {ta : TA} {p pos : Pos} {k : Nat} (T : PySem.RefX.RefTxt X.K X.mg C fI) (hr : Room k X.A) (ha : PA X [a] ta) (hg : Gl X "Refusal" := by rfl)
    (he : starEach (a :: []) X.env = (false, eval a X.env) :: starEach [] X.env := by rfl) (hpl : (backTo pos (starEach [] X.env)).any (·.1) = false := by rfl) :
    PMk X (.Call (.Name "Refusal" p) [a] [] pos) (tMkRef C ta) := by
  intro pins s σ H Q I h
  refine wpAny_Call_Name_kw (ld_glob I hg T.gC ?_)
  refine PySem.W.callWith_K (h₀ := X.base) I.ok.mod.kin T.kC (thn (ha.run pos pins s σ H _ I h) fun us s1 hh => ?_) he hpl
  obtain ⟨vs, H1, I1, r1, v, ev, q1⟩ := hh
  subst ev
  refine ⟨I1.kIn, ?_⟩
  cases r1 with
  | cons rv rn =>
    rename_i v' us'
    cases rn
    show wpAny _ _ (call (.ref C) [v']) _ _ _
    have hlim := I1.nolimit
    obtain ⟨hp, g, dr, tk, os⟩ := s1
    refine wpAny_call (PySem.RefX.ref_made T I1.kIn hlim (by have := hr.dp; omega) fun h' tk' e d M => ?_)
    show MkP X pins σ Q (.ref e) ⟨h', g, dr, tk', os⟩
    obtain ⟨oe, fv, hoe, hc, hd, hdat, h1⟩ := M.obj
    have hns := M.ns
    obtain ⟨G', g1, g2⟩ := restrict h' fun b => decide (b ≠ e)
    have gk : ∀ b, b ≠ e → G'.get? b = h'.get? b := fun b hb => g1 b (decide_eq_true hb)
    have ge : G'.get? e = none := g2 e (by simp)
    have old : ∀ b o, hp.get? b = some o → G'.get? b = some o := fun b o q => (gk b (Nat.ne_of_lt (Nat.lt_of_lt_of_le (Heap.lt_size q) M.new))).trans (M.keep b o q)
    have ob : ObjOk X.prog X.w (upd H1 d (.xd [(("code" : Str), v)])) G' d (.xd [(("code" : Str), v)]) :=
      ⟨_, hns.at (fun o q => (gk d M.dne).trans q), fun f => relO_ref rv f⟩
    have J : Inv X pins σ (upd H1 d (.xd [(("code" : Str), v)])) ⟨G', g, dr, tk', os⟩ := I1.laid (t' := tk') old M.dbig ob
    refine ⟨e, oe, fv, ⟨G', g, dr, tk', os⟩, _, .ref C, some d, rfl, J, fun b o q => ?_, ge, hoe, ⟨hc, hd⟩, hdat, h1, ?_, rfl, I1.bare, raises_own T.exC T.tyC, q1 d (I1.hok.fresh M.dbig)⟩
    · by_cases hb : b = e
      · have q' : G'.get? b = some o := q
        rw [hb, ge] at q'; cases q'
      · exact (gk b hb).symm.trans q
    · rw [upd_ne (Ne.symm M.dne)]
      exact I1.hok.fresh M.new
/-- raise Low(e) -/
def tRaiseRef (C : Addr) (W : WX) (ta : TA) : TS := fun _ σ H => tMkRef C ta σ H fun cls d H' => W cls d σ H'
theorem ps_raiseRef {a : Expr} {ta : TA} {W : WX} {p pos pos2 : Pos} {k : Nat} (hc : X.calm = true) (T : PySem.RefX.RefTxt X.K X.mg C fI) (hr : Room k X.A) (tk : Takes X W) (ha : PA X [a] ta) (hg : Gl X "Refusal" := by rfl)
    (he : starEach (a :: []) X.env = (false, eval a X.env) :: starEach [] X.env := by rfl) (hpl : (backTo pos (starEach [] X.env)).any (·.1) = false := by rfl) :
    PS X (.Raise (some (.Call (.Name "Refusal" p) [a] [] pos)) none pos2) (tRaiseRef C W ta) := ps_raise hc tk (pmk_ref T hr ha hg he hpl)
/-- low.by, low the exception that the suite holds (at a; its class cls, its dict d) -/
def tByRef (C : Addr) (a : Addr) (cls : Value) (d : Option Addr) (te : TE) : TE := fun σ H Q => te σ H fun x H1 => x = .ref a ∧ cls = .ref C ∧ ∃ (dd : Addr) (v : V), d = some dd ∧ H1 dd = some (.xd [(("code" : Str), v)]) ∧ Q v H1
theorem pe_byRef {a : Addr} {oe : Obj} {cls : Value} {d : Option Addr} {pn : List (Addr × Obj)} {e : Expr} {te : TE} {pos : Pos} (T : PySem.RefX.RefTxt X.K X.mg C fI) (hz : Zc cls d oe) (hf : ∃ vs, oe.data = .fields vs) (he : PE (X.suite a ((a, oe) :: pn)) e te)
    (hb : attributeBase e "code" X.env (eval e X.env) = eval e X.env := by rfl) :
    PE (X.suite a ((a, oe) :: pn)) (.Attribute e "code" pos) (tByRef C a cls d te) := by
  refine ⟨fun pins s σ H Q I h => ?_⟩
  refine attr_of hb (thn (he.run pins s σ H _ I h) fun u s1 hh => ?_)
  obtain ⟨x, H1, I1, rx, ex, ec, dd, v, ed, ea, q⟩ := hh
  subst ex
  obtain rfl : u = Value.ref a := rx
  subst ec
  subst ed
  obtain ⟨ha, _⟩ := I1.pin (a, oe) (List.mem_append_left _ List.mem_cons_self)
  obtain ⟨vs, hd⟩ := hf
  have hx : ObjOk X.prog X.w H1 s1.heap dd (.xd [(("code" : Str), v)]) := I1.hok dd _ ea
  obtain ⟨mA, hns, hr⟩ := hx
  obtain ⟨od, ho, hl⟩ := lookIn_ns hns
  have l : List.lookup ("code" : Str) [(("code" : Str), v)] = some v := by simp [List.lookup]
  obtain ⟨u, hu, ru⟩ := RelO.some_of (v := v) (o := mA "code") (by rw [← l]; exact hr "code")
  have J : PySem.W.InstAt s1.heap a oe C (some od) := ⟨ha, hz.1, by unfold PySem.W.notCls; rw [hd] <;> rfl, by rw [hz.2]; exact ho⟩
  exact HandSPX.exc_get I1.kIn J T.ga T.gg T.exC (PySem.W.findObj_own T.hdC T.noN rfl (by rw [hl, hu])) (handed_of ru) ⟨v, H1, I1.tok _, ru, q⟩
end
end L2

namespace L2
open PySem PySem.Spec PyProof.Rows
/-- an if whose test is known -/
theorem if_true_of {c : Bool} {A B : Prop} (hc : c = true) (h : A) : if c = true then A else B := by
  rw [if_pos hc]
  exact h
theorem if_false_of {c : Bool} {A B : Prop} (hc : c = false) (h : B) : if c = true then A else B := by
  rw [hc, if_neg Bool.false_ne_true]
  exact h
end L2
namespace VP
open PySem PySem.Spec PyProof.Rows L2
open Evl (Ex RetL RetV)
/-! ### numbers as values -/
def nv (l : List Nat) : List V := l.map fun n => V.int ((n : Nat) : Int)
theorem nv_nil : nv [] = [] := rfl
theorem nv_cons (n : Nat) (l : List Nat) : nv (n :: l) = V.int (n : Int) :: nv l := rfl
theorem nv_append (a b : List Nat) : nv (a ++ b) = nv a ++ nv b := List.map_append
theorem nv_length (l : List Nat) : (nv l).length = l.length := List.length_map _
theorem nv_take (l : List Nat) (k : Nat) : (nv l).take k = nv (l.take k) := by unfold nv; rw [List.map_take]
theorem nv_drop (l : List Nat) (k : Nat) : (nv l).drop k = nv (l.drop k) := by unfold nv; rw [List.map_drop]
theorem nv_set (l : List Nat) (k n : Nat) : (nv l).set k (.int (n : Int)) = nv (l.set k n) := by unfold nv; rw [List.map_set]
theorem nv_replicate (k n : Nat) : nv (List.replicate k n) = List.replicate k (V.int (n : Int)) := by unfold nv; rw [List.map_replicate]
theorem nv_get {l : List Nat} {i n : Nat} (h : l[i]? = some n) : (nv l)[i]? = some (.int (n : Int)) := by unfold nv; rw [List.getElem?_map, h]; rfl
theorem nv_get_of {l : List Nat} {i : Nat} {x : V} (h : (nv l)[i]? = some x) : ∃ n, l[i]? = some n ∧ x = .int ((n : Nat) : Int) := by
  unfold nv at h
  rw [List.getElem?_map] at h
  cases e : l[i]? with
  | none => rw [e] at h; cases h
  | some n => rw [e] at h; exact ⟨n, rfl, (Option.some.inj h).symm⟩
theorem nv_ints (l : List Nat) : nv l = (l.map fun n => ((n : Nat) : Int)).map V.int := by unfold nv; rw [List.map_map]; rfl
theorem nv_inj : ∀ {a b : List Nat}, nv a = nv b → a = b
  | [], [], _ => rfl
  | [], _ :: _, h => by cases h
  | _ :: _, [], h => by cases h
  | x :: a, y :: b, h => by
    rw [nv_cons, nv_cons] at h
    injection h with h1 h2
    injection h1 with h3
    rw [nv_inj h2, Int.ofNat.inj h3]
theorem sum_cast : ∀ l : List Nat, (l.map fun n => ((n : Nat) : Int)).sum = ((l.sum : Nat) : Int)
  | [] => rfl
  | x :: l => by rw [List.map_cons, List.sum_cons, List.sum_cons, sum_cast l, Int.natCast_add]
theorem cut_nn (xs : List V) (a b : Nat) : cutV xs (some (a : Int)) (some (b : Int)) = (xs.drop a).take (b - a) := by
  unfold cutV
  rw [HT.sIx_nat, HT.sIx_nat]
  by_cases h : a ≤ xs.length
  · have e1 : min a xs.length = a := Nat.min_eq_left h
    rw [e1]
    by_cases h2 : b ≤ xs.length
    · rw [Nat.min_eq_left h2]
    · have e2 : min b xs.length = xs.length := Nat.min_eq_right (by omega)
      rw [e2, List.take_of_length_le (by rw [List.length_drop]; omega), List.take_of_length_le (by rw [List.length_drop]; omega)]
  · have e1 : min a xs.length = xs.length := Nat.min_eq_right (by omega)
    rw [e1, List.drop_eq_nil_of_le (Nat.le_refl _), List.drop_eq_nil_of_le (by omega), List.take_nil, List.take_nil]
theorem take_min {α : Type} (xs : List α) (b : Nat) : xs.take (min b xs.length) = xs.take b := by
  by_cases h : b ≤ xs.length
  · rw [Nat.min_eq_left h]
  · have e2 : min b xs.length = xs.length := Nat.min_eq_right (by omega)
    rw [e2, List.take_of_length_le (Nat.le_refl _), List.take_of_length_le (by omega)]
theorem cut_to (xs : List V) (b : Nat) : cutV xs none (some (b : Int)) = xs.take b := by
  unfold cutV
  rw [HT.sIx_none, HT.sIx_nat, List.drop_zero, Nat.sub_zero, take_min]
theorem cut_from (xs : List V) (a : Nat) : cutV xs (some (a : Int)) none = xs.drop a := by
  unfold cutV
  rw [HT.sIx_nat, HT.sIx_none]
  by_cases h : a ≤ xs.length
  · have e1 : min a xs.length = a := Nat.min_eq_left h
    rw [e1, List.take_of_length_le (by rw [List.length_drop]; omega)]
  · have e1 : min a xs.length = xs.length := Nat.min_eq_right (by omega)
    rw [e1, List.drop_eq_nil_of_le (Nat.le_refl _), List.drop_eq_nil_of_le (by omega), List.take_nil]
theorem at_nv {l : List Nat} {i n : Nat} (h : l[i]? = some n) : atI (nv l) (i : Int) = some (.int (n : Int)) := atI_nat (nv_get h)
/-! ### rows: lists of numbers at their addresses -/
def Rows (H : Hp) (as : List Addr) (xss : List (List Nat)) : Prop := as.length = xss.length ∧ ∀ (i : Nat) (a : Addr) (xs : List Nat), as[i]? = some a → xss[i]? = some xs → H a = some (.lst (nv xs))
theorem Rows.mono {H H' : Hp} {as : List Addr} {xss : List (List Nat)} (r : Rows H as xss) (e : Ex H H') : Rows H' as xss := ⟨r.1, fun i a xs h1 h2 => e _ _ (r.2 i a xs h1 h2)⟩
theorem Rows.nil {H : Hp} : Rows H [] [] := ⟨rfl, fun i a xs h1 h2 => by simp at h1⟩
theorem Rows.at {H : Hp} {as : List Addr} {xss : List (List Nat)} (r : Rows H as xss) {i : Nat} {a : Addr} (h : as[i]? = some a) : ∃ xs, xss[i]? = some xs ∧ H a = some (.lst (nv xs)) := by
  have hl := (List.getElem?_eq_some_iff.mp h).1
  have h2 : xss[i]? = some (xss[i]'(by rw [← r.1]; exact hl)) := List.getElem?_eq_getElem _
  exact ⟨_, h2, r.2 i a _ h h2⟩
theorem Rows.get {H : Hp} {as : List Addr} {xss : List (List Nat)} (r : Rows H as xss) {i : Nat} {xs : List Nat} (h : xss[i]? = some xs) : ∃ a, as[i]? = some a ∧ H a = some (.lst (nv xs)) := by
  have hl := (List.getElem?_eq_some_iff.mp h).1
  have h2 : as[i]? = some (as[i]'(by rw [r.1]; exact hl)) := List.getElem?_eq_getElem _
  exact ⟨_, h2, r.2 i _ xs h2 h⟩
theorem Rows.push {H : Hp} {as : List Addr} {xss : List (List Nat)} (r : Rows H as xss) {p : Addr} {xs : List Nat} (h : H p = some (.lst (nv xs))) : Rows H (as ++ [p]) (xss ++ [xs]) := by
  refine ⟨by rw [List.length_append, List.length_append, r.1]; rfl, fun i a ys h1 h2 => ?_⟩
  by_cases hi : i < as.length
  · rw [List.getElem?_append_left hi] at h1
    rw [List.getElem?_append_left (by rw [← r.1]; exact hi)] at h2
    exact r.2 i a ys h1 h2
  · rw [List.getElem?_append_right (by omega)] at h1
    rw [List.getElem?_append_right (by rw [← r.1]; omega), ← r.1] at h2
    cases hk : i - as.length with
    | zero =>
      rw [hk] at h1 h2
      cases h1
      cases h2
      exact h
    | succ k =>
      rw [hk] at h1
      simp at h1
theorem Rows.cut {H : Hp} {as : List Addr} {xss : List (List Nat)} (r : Rows H as xss) (k : Nat) : Rows H (as.take k) (xss.take k) := by
  refine ⟨by rw [List.length_take, List.length_take, r.1], fun i a xs h1 h2 => ?_⟩
  rw [List.getElem?_take] at h1 h2
  split at h1
  · rename_i c
    rw [if_pos c] at h2
    exact r.2 i a xs h1 h2
  · cases h1
theorem Rows.skip {H : Hp} {as : List Addr} {xss : List (List Nat)} (r : Rows H as xss) (k : Nat) : Rows H (as.drop k) (xss.drop k) := by
  refine ⟨by rw [List.length_drop, List.length_drop, r.1], fun i a xs h1 h2 => ?_⟩
  rw [List.getElem?_drop] at h1 h2
  exact r.2 (k + i) a xs h1 h2
/-! ### promises -/
def spOf {α : Type} (args : α → List V) (pre : α → Hp → VK → XK → Prop) : Sp := fun vs H Q E => ∃ i : α, vs = args i ∧ pre i H Q E
theorem divW {i j : Int} (h : 0 < j) (h2 : j < 2 ^ 70) : CDivW i j := wide_div (b := 70) h (by omega) (by decide) (by decide)
theorem mulL {i j : Int} (h : -(2 ^ 64) < i ∧ i < 2 ^ 64) : CMul i j := .inl h
theorem spOf_len {α : Type} {args : α → List V} {pre : α → Hp → VK → XK → Prop} {n : Nat} (h : ∀ i, (args i).length = n) : ∀ vs H Q E, spOf args pre vs H Q E → vs.length = n := fun vs H Q E hs => by
  obtain ⟨i, rfl, _⟩ := hs
  exact h i
/-- the error with its code -/
def RetX (CR : Addr) (c : Int) (H : Hp) (E : XK) : Prop := ∀ (d : Addr) (H' : Hp), Ex H H' → H d = none → H' d = some (.xd [(("code" : Str), .int c)]) → E (.ref CR) (some d) H'
theorem RetX.go {CR : Addr} {c : Int} {H H1 : Hp} {E : XK} (h : RetX CR c H E) (e : Ex H H1) : RetX CR c H1 E := fun d H' e2 hd h2 => h d H' (e.trans e2) (Evl.fresh_back e hd) h2
theorem RetL.on {xs : List V} {H H1 : Hp} {Q : VK} (h : RetL xs H Q) (e : Ex H H1) : RetL xs H1 Q := fun p H2 hp e2 h2 => h p H2 (Evl.fresh_back e hp) (e.trans e2) h2
theorem RetV.on {v : V} {H H1 : Hp} {Q : VK} (h : RetV v H Q) (e : Ex H H1) : RetV v H1 Q := fun H2 e2 => h H2 (e.trans e2)
theorem RetL.new {xs : List V} {H H1 : Hp} {Q : VK} (h : RetL xs H Q) (e : Ex H H1) {p : Addr} (hp : H1 p = none) : Q (.ref p) (upd H1 p (.lst xs)) := h p _ (Evl.fresh_back e hp) (e.trans (Ex.new hp)) upd_same
/-- a new object is laid: from there on any heap that has it -/
theorem laid {H : Hp} {p : Addr} {o : HO} {G : Hp → Prop} (hp : H p = none) (h : ∀ H1, Ex H H1 → H1 p = some o → G H1) : G (upd H p o) := h _ (Ex.new hp) upd_same
/-! ### lists that stand in the written part, too -/
section
variable {X : Cx}
def rCatS (K : PySem.W.Frag) : R2 := fun x y H Q => ∃ l b xs zs, x = .ref l ∧ y = .ref b ∧ SqL K H l xs ∧ SqL K H b zs ∧ xs.length + zs.length ≤ sizeLine ∧ ∀ p, H p = none → Q (.ref p) (upd H p (.lst (xs ++ zs)))
theorem op_catS : OpR X (binaryOp .Add) (rCatS X.K) := by
  intro pins s σ H x y v u Q I rx ry h
  obtain ⟨l, b, xs, zs, rfl, rfl, hH, hB, hz, q⟩ := h
  cases rx
  cases ry
  obtain ⟨its, r, pl, hl⟩ := I.list hH
  obtain ⟨its2, r2, pl2, hl2⟩ := I.list hB
  obtain ⟨⟨cls, dd, data, sl⟩, ho, hc, n, hd⟩ := pl.isList
  obtain ⟨⟨cls2, dd2, data2, sl2⟩, ho2, hc2, n2, hd2⟩ := pl2.isList
  simp only at hc hd hc2 hd2
  subst hc hd hc2 hd2
  have e : its.toArray ++ its2.toArray = (its ++ its2).toArray := by simp
  have l1 := r.length
  have l2 := r2.length
  refine concat_meets ⟨_, ho, rfl⟩ ⟨_, ho2, rfl⟩ noFill_list_add seq_list_add PySem.F.slot_list_add PySem.F.entry_list_add (PySem.F.args_list_add_2 _ _) (list_addW l b its.toArray its2.toArray n n2 dd dd2 sl sl2 (by rw [List.size_toArray, List.size_toArray]; omega)) ⟨ho, ho2, ?_⟩
  rw [e]
  exact ⟨.ref _, _, I.lnew (t' := s.toks) (r.append r2) (by rw [List.length_append]; omega), rfl, q _ I.fresh⟩
theorem pe_gv {x : Str} {v : V} {pos : Pos} (hg : Gl X x) (h : ∃ u, X.mg x = some u ∧ RelV v u) (hd : (x == ("__debug__" : Str)) = false := by decide) : PE X (.Name x pos) (tC v) := by
  obtain ⟨u, hm, r⟩ := h
  exact pe_glob hg hm r hd
end
/-! ### rules whose reading names the written part by a letter (they stand in a comprehension, too) -/
section
variable {X : Cx} {K : PySem.W.Frag} {e : Expr} {te ta : TE} {t : TA} {pos : Pos}
theorem sl_listK (h : X.K = K) : SlR X (rSlL K) := h ▸ sl_list
theorem sl_tupK (h : X.K = K) : SlR X (rSlT K) := h ▸ sl_tup
theorem ix_listK (h : X.K = K) : IxR X (rIxL K) := h ▸ ix_list
theorem ix_tupK (h : X.K = K) : IxR X (rIxT K) := h ▸ ix_tup
theorem op_catK (h : X.K = K) : OpR X (binaryOp .Add) (rCatS K) := h ▸ op_catS
theorem op_inK (h : X.K = K) : OpR X (compareOp .In) (rIn K false) := h ▸ op_in_seq
theorem op_eqK (h : X.K = K) (hu : X.A.units + 64 < cLine) : OpR X (compareOp .Eq) (rEqD K) := h ▸ op_eqD hu
theorem op_neK (h : X.K = K) (hu : X.A.units + 64 < cLine) : OpR X (compareOp .NotEq) (rNeD K) := h ▸ op_neD hu
theorem call_lenK (h : X.K = K) : CallR X (.builtin "len") (Evl.rLenS K) := h ▸ call_len_seq
theorem call_listK (h : X.K = K) : CallR X (.type "list") (Evl.rListS K) := h ▸ call_list_of
theorem cr_sumK (h : X.K = K) (hc : X.calm = true) : CallR X (.builtin "sum") (rSum K) := h ▸ cr_sum hc
theorem cr_anyK (h : X.K = K) (hc : X.calm = true) : CallR X (.builtin "any") (rAny K) := h ▸ cr_any hc
theorem cr_allK (h : X.K = K) (hc : X.calm = true) : CallR X (.builtin "all") (rAll K) := h ▸ cr_all hc
theorem pe_fldK {f : Str} (h : X.K = K) (he : PE X e ta) (hb : attributeBase e f X.env (eval e X.env) = eval e X.env) : PE X (.Attribute e f pos) (tFld K ta f) := h ▸ pe_fld he hb
theorem pg_tupK {es : List Expr} {k : Nat} {u : TGs} {n : Nat} (hK : X.K = K) (hc : X.calm = true) (h : PGs X es u) (hn : (assignEach es X.env).length = n := by rfl) (hst : (assignEach es X.env).findIdx? (·.1) = none := by rfl) : PG X (.Tuple es k pos) (gTup K n u) := hK ▸ pg_tup hc h hn hst
theorem pg_lstK {es : List Expr} {k : Nat} {u : TGs} {n : Nat} (hK : X.K = K) (hc : X.calm = true) (h : PGs X es u) (hn : (assignEach es X.env).length = n := by rfl) (hst : (assignEach es X.env).findIdx? (·.1) = none := by rfl) : PG X (.Tuple es k pos) (gLst K n u) := hK ▸ pg_lst hc h hn hst
theorem pi_listK {tg : Expr} (h : X.K = K) (hl : PE X e te) : PI X tg e (iList K te) := h ▸ pi_list hl
theorem pi_tupK {tg : Expr} (h : X.K = K) (hl : PE X e te) : PI X tg e (iTup K te) := h ▸ pi_tup hl
theorem pi_enumK {p tpos : Pos} {elts : List Expr} {kk : Nat} (hK : X.K = K) (hg : Gl X "enumerate") (hm : X.mg "enumerate" = none) (ha : PA X [e] t) (hs : starEach [e] X.env = [(false, eval e X.env)] := by rfl) :
    PI X (.Tuple elts kk tpos) (.Call (.Name "enumerate" p) [e] [] pos) (iEnum K t) := hK ▸ pi_enum hg hm ha hs
theorem pi_revK {tg : Expr} {p : Pos} (hK : X.K = K) (hg : Gl X "reversed") (hm : X.mg "reversed" = none) (ha : PA X [e] t) (hs : starEach [e] X.env = [(false, eval e X.env)] := by rfl) : PI X tg (.Call (.Name "reversed" p) [e] [] pos) (iRev K t) := hK ▸ pi_reversed hg hm ha hs
end
section
variable {X : Cx}
/-! ### calls by bundles -/
structure Cal (P : Program) (w : World) (K : PySem.W.Frag) (mg : Str → Option Value) (base : Heap) (k : Nat) (x : Str) (sp : Sp) : Prop where
  ex : ∃ (f : Addr) (fd : FuncData) (ps : List Str), FnOk P w K mg base (L2.CX P w) k f fd ps sp ∧ mg x = some (.ref f) ∧ PySem.W.keepIn K (.ref f) = true ∧ Binds K fd ps []
structure Met (P : Program) (w : World) (K : PySem.W.Frag) (mg : Str → Option Value) (base : Heap) (k : Nat) (C : Addr) (m : Str) (sp : Sp) : Prop where
  ex : ∃ (f : Addr) (fd : FuncData) (ps : List Str), FnOk P w K mg base (L2.CX P w) k f fd ps sp ∧ Meth K C m f ∧ Binds K fd ps []
structure Mak (P : Program) (w : World) (K : PySem.W.Frag) (mg : Str → Option Value) (base : Heap) (k : Nat) (x : Str) (C : Addr) (sp : Sp) : Prop where
  ex : ∃ (f : Addr) (fd : FuncData) (ps : List Str), FnOk P w K mg base (L2.CX P w) k f fd ps sp ∧ Mk K C f ∧ mg x = some (.ref C) ∧ Binds K fd ps []
variable {k j : Nat} {x m : Str} {C : Addr} {sp : Sp} {e o : Expr} {es : List Expr} {ta : TE} {t : TA} {p pos apos : Pos} {W : WX}
theorem pe_c (c : Cal X.prog X.w X.K X.mg X.base k x sp) (hr : Room j X.A) (hk : k ≤ j) (hg : Gl X x) (ha : PA X (e :: es) t)
    (he : starEach (e :: es) X.env = (false, eval e X.env) :: starEach es X.env := by rfl) (hpl : (backTo pos (starEach es X.env)).any (·.1) = false := by rfl) (hdb : (x == ("__debug__" : Str)) = false := by decide) : PE X (.Call (.Name x p) (e :: es) [] pos) (tCallS sp (fun _ => E0) t) := by
  obtain ⟨f, fd, ps, F, hm, hkp, hb⟩ := c.ex
  exact pe_callS F (hr.mono hk) hg hm hkp hb (fun σ pins H s e s' I c => passL pins σ H s e s' I c) ha hdb he hpl
theorem pe_cX (c : Cal X.prog X.w X.K X.mg X.base k x sp) (hr : Room j X.A) (hk : k ≤ j) (hg : Gl X x) (tk : Takes X W) (ha : PA X (e :: es) t)
    (he : starEach (e :: es) X.env = (false, eval e X.env) :: starEach es X.env := by rfl) (hpl : (backTo pos (starEach es X.env)).any (·.1) = false := by rfl) (hdb : (x == ("__debug__" : Str)) = false := by decide) : PE X (.Call (.Name x p) (e :: es) [] pos) (tCallS sp (WE W) t) := by
  obtain ⟨f, fd, ps, F, hm, hkp, hb⟩ := c.ex
  exact pe_callS F (hr.mono hk) hg hm hkp hb (fun σ => passAt tk σ) ha hdb he hpl
def tCall0 (sp : Sp) : TE := fun _ H Q => sp [] H Q E0
theorem pe_c0 (c : Cal X.prog X.w X.K X.mg X.base k x sp) (hr : Room j X.A) (hk : k ≤ j) (hg : Gl X x) (hdb : (x == ("__debug__" : Str)) = false := by decide) : PE X (.Call (.Name x p) [] [] pos) (tCall0 sp) := by
  obtain ⟨f, fd, ps, F, hm, hkp, hb⟩ := c.ex
  exact ⟨fun pins s σ H Q I h => (pe_call0 (p := p) (pos := pos) F (hr.mono hk) hg hm hkp hb .nil passL hdb).run pins s σ H Q I h⟩
/-- o.m(e, ..): what it raises is wished for at the slots as they stand -/
def tMethS (C : Addr) (m : Str) (sp : Sp) (ta : TE) (t : TA) : TE := fun σ H Q => ta σ H fun x H1 => ∃ a dx fs, x = .ref a ∧ H1 a = some (.ins C dx fs) ∧ fs.lookup m = none ∧ t σ H1 fun vs H2 => sp (x :: vs) H2 Q E0
theorem pe_m {pl : Sem Bool} (cl : Cls X.K C) (c : Met X.prog X.w X.K X.mg X.base k C m sp) (hr : Room j X.A) (hk : k ≤ j) (he : PE X o ta) (ha : PA X (e :: es) t)
    (hst : starEach (e :: es) X.env = (false, eval e X.env) :: starEach es X.env := by rfl) (hpl : (backTo pos (starEach es X.env)).any (·.1) = false := by rfl)
    (ht : eval (.Call (.Attribute o m apos) (e :: es) [] pos) X.env = (do
      let ov ← eval o X.env
      standAt apos.atName
      let (f, first) ← holding [ov] (getMethod ov m pl)
      callWith pos f first (backTo pos (starEach (e :: es) X.env)) (backToKw pos (keywordEach [] X.env))) := by rfl) :
    PE X (.Call (.Attribute o m apos) (e :: es) [] pos) (tMethS C m sp ta t) := by
  obtain ⟨f, fd, ps, F, hm, hb⟩ := c.ex
  refine ⟨fun pins s σ H Q I h => ?_⟩
  refine PySem.W.methodCall_KW (pl := pl) (thn (he.run pins s σ H _ I h) fun u s1 ⟨x, H1, I1, rx, a, dx, fs, ex, ea, l, q⟩ => ?_) ht
  subst ex
  obtain rfl : u = Value.ref a := rx
  refine getmeth_ok I1 ea cl hm l ?_
  refine PySem.W.callWith_K (first := [.ref a]) (h₀ := X.base) I.ok.mod.kin hm.kp (thn (ha.run pos pins s1 σ H1 _ I1 q) fun us s2 ⟨vs, H2, I2, r, q2⟩ => ⟨I2.kIn, ?_⟩) hst hpl
  exact run_fnS (E := fun _ => E0) (us := .ref a :: us) (vs := .ref a :: vs) F (hr.mono hk) hb (fun pins H s e s' I c => passL pins σ H s e s' I c) I2 (.cons rfl r) q2
def tMeth0 (C : Addr) (m : Str) (sp : Sp) (ta : TE) : TE := fun σ H Q => ta σ H fun x H1 => ∃ a dx fs, x = .ref a ∧ H1 a = some (.ins C dx fs) ∧ fs.lookup m = none ∧ sp [x] H1 Q E0
theorem pe_m0 {pl : Sem Bool} (cl : Cls X.K C) (c : Met X.prog X.w X.K X.mg X.base k C m sp) (hr : Room j X.A) (hk : k ≤ j) (he : PE X o ta)
    (ht : eval (.Call (.Attribute o m apos) [] [] pos) X.env = (do
      let ov ← eval o X.env
      standAt apos.atName
      let (f, first) ← holding [ov] (getMethod ov m pl)
      callWith pos f first (backTo pos (starEach [] X.env)) (backToKw pos (keywordEach [] X.env))) := by rfl) :
    PE X (.Call (.Attribute o m apos) [] [] pos) (tMeth0 C m sp ta) := by
  obtain ⟨f, fd, ps, F, hm, hb⟩ := c.ex
  exact ⟨fun pins s σ H Q I h => (pe_meth0 (pl := pl) he cl hm F (hr.mono hk) hb .nil passL ht).run pins s σ H Q I h⟩
def tMk (C : Addr) (sp : Sp) (t : TA) : TE := fun σ H Q => t σ H fun vs H1 => ∀ x dx, H1 x = none → H1 dx = none → dx ≠ x → sp (.ref x :: vs) (upd (upd H1 dx (.own x)) x (.ins C dx [])) (fun v H2 => v = .non ∧ Q (.ref x) H2) E0
theorem pe_k (c : Mak X.prog X.w X.K X.mg X.base k x C sp) (hr : Room j X.A) (hk : k + 1 ≤ j) (hg : Gl X x) (ha : PA X (e :: es) t)
    (hdb : (x == ("__debug__" : Str)) = false := by decide) (he : starEach (e :: es) X.env = (false, eval e X.env) :: starEach es X.env := by rfl) (hpl : (backTo pos (starEach es X.env)).any (·.1) = false := by rfl) : PE X (.Call (.Name x p) (e :: es) [] pos) (tMk C sp t) := by
  obtain ⟨f, fd, ps, F, M, hm, hb⟩ := c.ex
  refine ⟨fun pins s σ H Q I h => (pe_make (p := p) (pos := pos) M F (hr.mono hk) hg hm hb .nil passL ha hdb he hpl).run pins s σ H Q I ?_⟩
  have e0 : (fun (vs : List V) (H1 : Hp) => ∀ x dx, H1 x = none → H1 dx = none → dx ≠ x → sp (.ref x :: (vs ++ [])) (upd (upd H1 dx (.own x)) x (.ins C dx [])) (fun v H2 => v = .non ∧ Q (.ref x) H2) E0) =
      fun vs H1 => ∀ x dx, H1 x = none → H1 dx = none → dx ≠ x → sp (.ref x :: vs) (upd (upd H1 dx (.own x)) x (.ins C dx [])) (fun v H2 => v = .non ∧ Q (.ref x) H2) E0 := by
    funext vs H1
    rw [List.append_nil]
  show t σ H (fun vs H1 => ∀ x dx, H1 x = none → H1 dx = none → dx ≠ x → sp (.ref x :: (vs ++ [])) (upd (upd H1 dx (.own x)) x (.ins C dx [])) (fun v H2 => v = .non ∧ Q (.ref x) H2) E0)
  rw [e0]
  exact h
def tMk0 (C : Addr) (sp : Sp) : TE := fun _ H1 Q => ∀ x dx, H1 x = none → H1 dx = none → dx ≠ x → sp [.ref x] (upd (upd H1 dx (.own x)) x (.ins C dx [])) (fun v H2 => v = .non ∧ Q (.ref x) H2) E0
theorem pe_k0 (c : Mak X.prog X.w X.K X.mg X.base k x C sp) (hr : Room j X.A) (hk : k + 1 ≤ j) (hg : Gl X x) (hdb : (x == ("__debug__" : Str)) = false := by decide) : PE X (.Call (.Name x p) [] [] pos) (tMk0 C sp) := by
  obtain ⟨f, fd, ps, F, M, hm, hb⟩ := c.ex
  exact ⟨fun pins s σ H Q I h => (pe_make0 (p := p) (pos := pos) M F (hr.mono hk) hg hm hb .nil passL hdb).run pins s σ H Q I h⟩
end
/-! ### defs of the text -/
structure DefT (K : PySem.W.Frag) (mg : Str → Option Value) (x qual : Str) (st : Stmt) (ps : List Str) : Prop where
  ex : ∃ (f : Addr) (fd : FuncData), Fun K x qual st f fd ∧ mg x = some (.ref f) ∧ Binds K fd ps []
structure MetT (K : PySem.W.Frag) (C : Addr) (m qual : Str) (st : Stmt) (ps : List Str) : Prop where
  ex : ∃ (f : Addr) (fd : FuncData), Fun K m qual st f fd ∧ Meth K C m f ∧ Binds K fd ps []
structure MakT (K : PySem.W.Frag) (mg : Str → Option Value) (x : Str) (C : Addr) (qual : Str) (st : Stmt) (ps : List Str) : Prop where
  ex : ∃ (f : Addr) (fd : FuncData), Fun K "__init__" qual st f fd ∧ Mk K C f ∧ mg x = some (.ref C) ∧ Binds K fd ps []
section
variable {P : Program} {w : World} {K : PySem.W.Frag} {mg : Str → Option Value} {base : Heap} {x m qual : Str} {st : Stmt} {N ps : List Str} {k : Nat} {sp : Sp} {C : Addr}
abbrev Body (P : Program) (w : World) (K : PySem.W.Frag) (mg : Str → Option Value) (base : Heap) (qual : Str) (st : Stmt) (N : List Str) (k : Nat) (sp : Sp) : Prop :=
  ∀ (f : Addr) (cdv : Value) (A : Around) (outer : List Env) (s : Shared) (H : Hp) (vs : List V) (Q : VK) (E : XK), Room k (A.deeper (envOfC qual (defScope st) s.heap.objs.size f cdv)) → sp vs H Q E →
      ∃ t, PSs (cxOf (L2.CX P w) P w K mg base N qual (defScope st) f cdv A outer s H E).nox (defBody st) t ∧ t { nx := fun _ H' => Q .non H', rt := Q } (start N vs) H
abbrev BodyX (P : Program) (w : World) (K : PySem.W.Frag) (mg : Str → Option Value) (base : Heap) (qual : Str) (st : Stmt) (N : List Str) (k : Nat) (sp : Sp) : Prop :=
  ∀ (f : Addr) (cdv : Value) (A : Around) (outer : List Env) (s : Shared) (H : Hp) (vs : List V) (Q : VK) (E : XK), Room k (A.deeper (envOfC qual (defScope st) s.heap.objs.size f cdv)) → sp vs H Q E →
      ∃ t, PSs (cxOf (L2.CX P w) P w K mg base N qual (defScope st) f cdv A outer s H E) (defBody st) t ∧ t { nx := fun _ H' => Q .non H', rt := Q } (start N vs) H
theorem body_x (h : Body P w K mg base qual st N k sp) : BodyX P w K mg base qual st N k sp := fun f cdv A outer s H vs Q E hr hs => by
  obtain ⟨t, h, q⟩ := h f cdv A outer s H vs Q E hr hs
  exact ⟨t, h.nox, q⟩
theorem Cal.ofX (D : DefT K mg x qual st ps) (S : FnScope N ps (defScope st)) (len : ∀ vs H Q E, sp vs H Q E → vs.length = ps.length) (h : BodyX P w K mg base qual st N k sp) : Cal P w K mg base (k + 1) x sp := by
  obtain ⟨f, fd, F, hm, hb⟩ := D.ex
  exact ⟨f, fd, ps, F.okX S len (fun cdv A outer s H vs Q E hr hs => h f cdv A outer s H vs Q E hr hs), hm, F.kp, hb⟩
theorem Cal.of (D : DefT K mg x qual st ps) (S : FnScope N ps (defScope st)) (len : ∀ vs H Q E, sp vs H Q E → vs.length = ps.length) (h : Body P w K mg base qual st N k sp) : Cal P w K mg base (k + 1) x sp := Cal.ofX D S len (body_x h)
theorem Met.of (D : MetT K C m qual st ps) (S : FnScope N ps (defScope st)) (len : ∀ vs H Q E, sp vs H Q E → vs.length = ps.length) (h : Body P w K mg base qual st N k sp) : Met P w K mg base (k + 1) C m sp := by
  obtain ⟨f, fd, F, hm, hb⟩ := D.ex
  exact ⟨f, fd, ps, F.okX S len (fun cdv A outer s H vs Q E hr hs => body_x h f cdv A outer s H vs Q E hr hs), hm, hb⟩
theorem Mak.of (D : MakT K mg x C qual st ps) (S : FnScope N ps (defScope st)) (len : ∀ vs H Q E, sp vs H Q E → vs.length = ps.length) (h : Body P w K mg base qual st N k sp) : Mak P w K mg base (k + 1) x C sp := by
  obtain ⟨f, fd, F, hm, hx, hb⟩ := D.ex
  exact ⟨f, fd, ps, F.okX S len (fun cdv A outer s H vs Q E hr hs => body_x h f cdv A outer s H vs Q E hr hs), hm, hx, hb⟩
end
def top (i : Nat) : Stmt := PySem.Challenge.pw_vectorpoints_s01_answers.main.body.getD i (.Pass ⟨0, 0, 0, 0⟩)
end VP

/-! ### plain mathematics: bytes and numbers -/
namespace VP
def numOf : List Nat → Nat
  | [] => 0
  | b :: l => b + 256 * numOf l
theorem number_of : ∀ (k : Nat) (l : List Nat) (o : Nat), Sd62.number l o k = numOf ((l.drop o).take k)
  | 0, l, o => by rw [List.take_zero]; rfl
  | k + 1, l, o => by
    show l.getD o 0 + 256 * Sd62.number l (o + 1) k = _
    rw [number_of k l (o + 1)]
    by_cases h : o < l.length
    · rw [List.drop_eq_getElem_cons h, List.take_succ_cons]
      show _ = l[o] + 256 * numOf _
      rw [List.getD_eq_getElem?_getD, List.getElem?_eq_getElem h]
      rfl
    · rw [List.drop_eq_nil_of_le (by omega), List.drop_eq_nil_of_le (by omega), List.take_nil, List.take_nil, List.getD_eq_getElem?_getD, List.getElem?_eq_none (by omega)]
      rfl
theorem numOf_lt : ∀ (l : List Nat), (∀ b ∈ l, b < 256) → numOf l < 256 ^ l.length
  | [], _ => by decide
  | b :: l, h => by
    have h1 := h b List.mem_cons_self
    have h2 := numOf_lt l fun c hc => h c (List.mem_cons_of_mem _ hc)
    show b + 256 * numOf l < 256 ^ (l.length + 1)
    rw [Nat.pow_succ]
    omega
theorem numOf_lt64 {l : List Nat} (h : ∀ b ∈ l, b < 256) (hl : l.length ≤ 8) : numOf l < 2 ^ 64 := by
  refine Nat.lt_of_lt_of_le (numOf_lt l h) ?_
  calc 256 ^ l.length ≤ 256 ^ 8 := Nat.pow_le_pow_right (by decide) hl
    _ = 2 ^ 64 := by decide
theorem numOf_zero : ∀ {l : List Nat}, numOf l = 0 ↔ ∀ b ∈ l, b = 0
  | [] => ⟨fun _ b hb => (by cases hb), fun _ => rfl⟩
  | c :: l => by
    show c + 256 * numOf l = 0 ↔ _
    constructor
    · intro h b hb
      have h1 : c = 0 := by omega
      have h2 : numOf l = 0 := by omega
      rcases List.mem_cons.mp hb with e | e
      · rw [e]; exact h1
      · exact numOf_zero.mp h2 b e
    · intro h
      have h1 := h c List.mem_cons_self
      have h2 := numOf_zero.mpr fun b hb => h b (List.mem_cons_of_mem _ hb)
      omega
/-- numbers of eight bytes each -/
def numsOf (l : List Nat) : List Nat := (List.range ((l.length + 7) / 8)).map fun i => numOf ((l.drop (8 * i)).take 8)
theorem numsOf_numbers {l : List Nat} {o n : Nat} (h : o + 8 * n ≤ l.length) : numsOf ((l.drop o).take (8 * n)) = Sd62.numbers l o n := by
  unfold numsOf Sd62.numbers
  have e : ((l.drop o).take (8 * n)).length = 8 * n := by rw [List.length_take, List.length_drop]; omega
  rw [e, show (8 * n + 7) / 8 = n by omega]
  refine List.map_congr_left fun i hi => ?_
  have hi' := List.mem_range.mp hi
  rw [number_of, List.drop_take, List.drop_drop, List.take_take]
  rw [show min 8 (8 * n - 8 * i) = 8 by omega]
theorem spread_length : ∀ (k n : Nat), (Sd62.spread n k).length = k
  | 0, _ => rfl
  | k + 1, n => by
    show (_ :: Sd62.spread (n / 256) k).length = k + 1
    rw [List.length_cons, spread_length k]
theorem spread_get : ∀ (k n i : Nat), i < k → (Sd62.spread n k)[i]? = some (n / 256 ^ i % 256)
  | 0, _, _, h => absurd h (Nat.not_lt_zero _)
  | k + 1, n, 0, _ => by
    show (n % 256 :: _)[0]? = _
    rw [List.getElem?_cons_zero, Nat.pow_zero, Nat.div_one]
  | k + 1, n, i + 1, h => by
    show (n % 256 :: Sd62.spread (n / 256) k)[i + 1]? = _
    rw [List.getElem?_cons_succ, spread_get k (n / 256) i (by omega), Nat.div_div_eq_div_mul, Nat.pow_succ, Nat.mul_comm 256]
theorem spread_more {n i : Nat} (h : i < 8) : (Sd62.spread n 8).take (i + 1) = (Sd62.spread n 8).take i ++ [n / 256 ^ i % 256] := by
  rw [List.take_succ, spread_get 8 n i h]
  rfl
theorem spread_byte : ∀ (k n : Nat), ∀ b ∈ Sd62.spread n k, b < 256
  | 0, _, b, h => by cases h
  | k + 1, n, b, h => by
    rcases List.mem_cons.mp h with e | e
    · rw [e]; exact Nat.mod_lt _ (by decide)
    · exact spread_byte k _ b e
theorem words_length : ∀ l : List Nat, (Sd62.words l).length = 8 * l.length
  | [] => rfl
  | x :: l => by
    show (Sd62.spread x 8 ++ Sd62.words l).length = _
    rw [List.length_append, spread_length, words_length l, List.length_cons]
    omega
/-! ### states -/
structure Wf (s : Sd62.St) : Prop where
  m8 : s.m.length = 8
  k8 : s.k.length = 8
  v32 : s.v.length = 32
  row : ∀ l ∈ s.v, l.length = 8
  mlt : ∀ n ∈ s.m, n < 2 ^ 64
  klt : ∀ n ∈ s.k, n < 2 ^ 64
  vlt : ∀ l ∈ s.v, ∀ n ∈ l, n < 2 ^ 64
def isW (w : Nat) : Prop := w = 1 ∨ w = 2 ∨ w = 4 ∨ w = 32 ∨ w = 64 ∨ w = 128
/-- the first lane of a component of lanes, and how many -/
def fstL (w : Nat) : Nat := if w = 2 then 0 else if w = 4 then 2 else 4
def lstL (w : Nat) : Nat := if w = 2 then 2 else if w = 4 then 4 else 8
def partOf (s : Sd62.St) (w : Nat) : List Nat :=
  if w = 1 then s.m else if w = 32 then s.k else if w = 128 then (s.v.drop 16).flatten else ((s.v.take 16).map fun l => (l.drop (fstL w)).take (lstL w - fstL w)).flatten
theorem flatMap_full : ∀ {v : List (List Nat)}, (∀ l ∈ v, l.length = 8) → (v.flatMap fun l => (l.drop 0).take 8) = v.flatten
  | [], _ => rfl
  | l :: v, h => by
    rw [List.flatMap_cons, List.flatten_cons, flatMap_full fun x hx => h x (List.mem_cons_of_mem _ hx), List.drop_zero, List.take_of_length_le (by rw [h l List.mem_cons_self]; exact Nat.le_refl _)]
theorem part_1 (s : Sd62.St) : partOf s 1 = s.m := rfl
theorem part_32 (s : Sd62.St) : partOf s 32 = s.k := rfl
theorem part_2 (s : Sd62.St) : partOf s 2 = Sd62.lanesOf s 0 16 0 2 := by
  show ((s.v.take 16).map fun l => (l.drop 0).take 2).flatten = ((s.v.drop 0).take 16).flatMap fun l => (l.drop 0).take 2
  rw [List.drop_zero, List.flatMap_def]
theorem part_4 (s : Sd62.St) : partOf s 4 = Sd62.lanesOf s 0 16 2 2 := by
  show ((s.v.take 16).map fun l => (l.drop 2).take 2).flatten = ((s.v.drop 0).take 16).flatMap fun l => (l.drop 2).take 2
  rw [List.drop_zero, List.flatMap_def]
theorem part_64 (s : Sd62.St) : partOf s 64 = Sd62.lanesOf s 0 16 4 4 := by
  show ((s.v.take 16).map fun l => (l.drop 4).take 4).flatten = ((s.v.drop 0).take 16).flatMap fun l => (l.drop 4).take 4
  rw [List.drop_zero, List.flatMap_def]
theorem part_128 {s : Sd62.St} (h : Wf s) : partOf s 128 = Sd62.lanesOf s 16 16 0 8 := by
  show (s.v.drop 16).flatten = ((s.v.drop 16).take 16).flatMap fun l => (l.drop 0).take 8
  rw [List.take_of_length_le (by rw [List.length_drop, h.v32]; decide), flatMap_full fun l hl => h.row l (List.mem_of_mem_drop hl)]
theorem flat_len : ∀ {v : List (List Nat)} {k : Nat}, (∀ l ∈ v, l.length = k) → v.flatten.length = k * v.length
  | [], k, _ => by simp
  | l :: v, k, h => by
    rw [List.flatten_cons, List.length_append, h l List.mem_cons_self, flat_len fun x hx => h x (List.mem_cons_of_mem _ hx), List.length_cons, Nat.mul_succ, Nat.add_comm]
def countOf (w : Nat) : Nat := if w = 1 ∨ w = 32 then 8 else if w = 128 then 128 else 16 * (lstL w - fstL w)
theorem part_len {s : Sd62.St} (h : Wf s) {w : Nat} (hw : isW w) : (partOf s w).length = countOf w := by
  have key : ∀ a b, a ≤ 8 → b ≤ 8 → (((s.v.take 16).map fun l => (l.drop a).take (b - a)).flatten).length = 16 * (b - a) := fun a b ha hb => by
    rw [flat_len (k := b - a), List.length_map, List.length_take, h.v32]
    · exact Nat.mul_comm _ _
    · intro l hl
      obtain ⟨x, hx, rfl⟩ := List.mem_map.mp hl
      rw [List.length_take, List.length_drop, h.row x (List.mem_of_mem_take hx)]
      omega
  rcases hw with rfl | rfl | rfl | rfl | rfl | rfl
  · exact h.m8
  · exact key 0 2 (by decide) (by decide)
  · exact key 2 4 (by decide) (by decide)
  · exact h.k8
  · exact key 4 8 (by decide) (by decide)
  · show (s.v.drop 16).flatten.length = 128
    rw [flat_len (k := 8), List.length_drop, h.v32]
    intro l hl
    exact h.row l (List.mem_of_mem_drop hl)
theorem part_lt {s : Sd62.St} (h : Wf s) {w : Nat} : ∀ n ∈ partOf s w, n < 2 ^ 64 := by
  unfold partOf
  split
  · exact h.mlt
  · split
    · exact h.klt
    · split
      · intro n hn
        obtain ⟨l, hl, h2⟩ := List.mem_flatten.mp hn
        exact h.vlt l (List.mem_of_mem_drop hl) n h2
      · intro n hn
        obtain ⟨l, hl, h2⟩ := List.mem_flatten.mp hn
        obtain ⟨x, hx, rfl⟩ := List.mem_map.mp hl
        exact h.vlt x (List.mem_of_mem_take hx) n (List.mem_of_mem_drop (List.mem_of_mem_take h2))
def usedOf (s : Sd62.St) : Nat := (([1, 2, 4, 32, 64, 128] : List Nat).filter fun w => Sd62.some0 (partOf s w)).sum
theorem filter_sum_cons (p : Nat → Bool) (x : Nat) (l : List Nat) : ((x :: l).filter p).sum = Sd62.bit (p x) x + (l.filter p).sum := by
  rw [List.filter_cons]
  cases h : p x with
  | true => rw [if_pos rfl, List.sum_cons]; rfl
  | false => rw [if_neg (by decide)]; show _ = 0 + _; rw [Nat.zero_add]
theorem used_of {s : Sd62.St} (h : Wf s) : usedOf s = Sd62.used s := by
  unfold usedOf Sd62.used
  rw [filter_sum_cons, filter_sum_cons, filter_sum_cons, filter_sum_cons, filter_sum_cons, filter_sum_cons, part_1, part_2, part_4, part_32, part_64, part_128 h]
  rfl
theorem bit_le (b : Bool) (n : Nat) : Sd62.bit b n = 0 ∨ Sd62.bit b n = n := by
  cases b
  · exact .inl rfl
  · exact .inr rfl
theorem used_le (s : Sd62.St) : Sd62.used s ≤ 231 := by
  unfold Sd62.used
  have h1 := bit_le (Sd62.some0 s.m) 1
  have h2 := bit_le (Sd62.some0 (Sd62.lanesOf s 0 16 0 2)) 2
  have h3 := bit_le (Sd62.some0 (Sd62.lanesOf s 0 16 2 2)) 4
  have h4 := bit_le (Sd62.some0 s.k) 32
  have h5 := bit_le (Sd62.some0 (Sd62.lanesOf s 0 16 4 4)) 64
  have h6 := bit_le (Sd62.some0 (Sd62.lanesOf s 16 16 0 8)) 128
  omega
theorem used_odd (s : Sd62.St) : (Sd62.used s % 2 = 1) ↔ Sd62.some0 s.m = true := by
  unfold Sd62.used
  have h2 := bit_le (Sd62.some0 (Sd62.lanesOf s 0 16 0 2)) 2
  have h3 := bit_le (Sd62.some0 (Sd62.lanesOf s 0 16 2 2)) 4
  have h4 := bit_le (Sd62.some0 s.k) 32
  have h5 := bit_le (Sd62.some0 (Sd62.lanesOf s 0 16 4 4)) 64
  have h6 := bit_le (Sd62.some0 (Sd62.lanesOf s 16 16 0 8)) 128
  cases h : Sd62.some0 s.m with
  | true => show (1 + _) % 2 = 1 ↔ _; constructor
            · intro _; rfl
            · intro _; omega
  | false => show (0 + _) % 2 = 1 ↔ _; constructor
             · intro _; omega
             · intro z; cases z
theorem fresh_wf : Wf Sd62.fresh := by
  refine ⟨rfl, rfl, rfl, fun l hl => ?_, fun n hn => ?_, fun n hn => ?_, fun l hl n hn => ?_⟩
  · rw [List.eq_of_mem_replicate hl]; rfl
  · rw [List.eq_of_mem_replicate hn]; decide
  · rw [List.eq_of_mem_replicate hn]; decide
  · rw [List.eq_of_mem_replicate hl] at hn
    rw [List.eq_of_mem_replicate hn]; decide
end VP

/-! ### the text by its places; how things lie in the heap; what the top has written -/
namespace VP
open PySem PySem.Spec PyProof.Rows L2
open Evl (Ex RetL RetV)
abbrev s_State___init__ : Stmt := inClass (top 17) 0
abbrev s_State_part : Stmt := inClass (top 17) 1
abbrev s_State_set_part : Stmt := inClass (top 17) 2
abbrev s_State_used : Stmt := inClass (top 17) 3
abbrev s_joined : Stmt := top 18
abbrev s_lanes_of : Stmt := top 19
abbrev s_number_count : Stmt := top 20
abbrev s_has_all : Stmt := top 21
abbrev s_number_row : Stmt := top 22
abbrev s_rows_of : Stmt := top 23
abbrev s_number_in : Stmt := top 24
abbrev s_numbers_in : Stmt := top 25
abbrev s_head_of : Stmt := top 40
abbrev s_long_form : Stmt := top 41
abbrev s_short_form : Stmt := top 42
abbrev s_form_of : Stmt := top 43
abbrev s_read_part : Stmt := top 44
abbrev s_read_head : Stmt := top 45
abbrev s_read_long : Stmt := top 46
abbrev s_read_short : Stmt := top 47
abbrev s_state_of : Stmt := top 48
abbrev s_Instruction___init__ : Stmt := inClass (top 67) 0
abbrev s_Instruction_vectors_met : Stmt := inClass (top 67) 1
abbrev s_Instruction_least_machine : Stmt := inClass (top 67) 2
abbrev s_lane_count : Stmt := top 68
abbrev s_is_instruction : Stmt := top 69
abbrev s_instruction_rows : Stmt := top 70
abbrev s_powers : Stmt := top 73
abbrev s_paired : Stmt := top 74
abbrev s_Runner___init__ : Stmt := inClass (top 75) 0
abbrev s_Runner_shifted : Stmt := inClass (top 75) 1
abbrev s_Runner_lanes_made : Stmt := inClass (top 75) 2
abbrev s_Runner_write : Stmt := inClass (top 75) 3
abbrev s_Runner_bits_less : Stmt := inClass (top 75) 4
abbrev s_Runner_change : Stmt := inClass (top 75) 5
abbrev s_Runner_next_place : Stmt := inClass (top 75) 6
abbrev s_Runner_step : Stmt := inClass (top 75) 7
abbrev s_Runner_run : Stmt := inClass (top 75) 8
abbrev s_Refusal___init__ : Stmt := inClass (top 87) 0
abbrev s_need : Stmt := top 88
abbrev s_Desk___init__ : Stmt := inClass (top 89) 0
abbrev s_Desk_replace : Stmt := inClass (top 89) 1
abbrev s_state_in : Stmt := top 90
abbrev s_with_length : Stmt := top 91
abbrev s_new : Stmt := top 92
abbrev s_run : Stmt := top 93
abbrev s_save : Stmt := top 94
abbrev s_load : Stmt := top 95
abbrev s_turn_form : Stmt := top 96
abbrev s_peek : Stmt := top 97
abbrev s_copied : Stmt := top 98
abbrev s_poke : Stmt := top 99
abbrev s_differ : Stmt := top 100
abbrev s_answer : Stmt := top 102
abbrev s_answers : Stmt := top 103
theorem sc_State___init__ : FnScope ["self", "at"] ["self"] (defScope s_State___init__) := ⟨rfl, rfl, rfl, by decide +kernel, rfl, by decide +kernel, by decide +kernel⟩
theorem sc_State_part : FnScope ["self", "weight", "first", "last", "lanes"] ["self", "weight"] (defScope s_State_part) := ⟨rfl, rfl, rfl, by decide +kernel, rfl, by decide +kernel, by decide +kernel⟩
theorem sc_State_set_part : FnScope ["self", "weight", "numbers", "at", "first", "last", "size", "lanes"] ["self", "weight", "numbers"] (defScope s_State_set_part) := ⟨rfl, rfl, rfl, by decide +kernel, rfl, by decide +kernel, by decide +kernel⟩
theorem sc_State_used : FnScope ["self", "weight", "number"] ["self"] (defScope s_State_used) := ⟨rfl, rfl, rfl, by decide +kernel, rfl, by decide +kernel, by decide +kernel⟩
theorem sc_joined : FnScope ["rows", "found", "row"] ["rows"] (defScope s_joined) := ⟨rfl, rfl, rfl, by decide +kernel, rfl, by decide +kernel, by decide +kernel⟩
theorem sc_lanes_of : FnScope ["weight"] ["weight"] (defScope s_lanes_of) := ⟨rfl, rfl, rfl, by decide +kernel, rfl, by decide +kernel, by decide +kernel⟩
theorem sc_number_count : FnScope ["weight", "first", "last"] ["weight"] (defScope s_number_count) := ⟨rfl, rfl, rfl, by decide +kernel, rfl, by decide +kernel, by decide +kernel⟩
theorem sc_has_all : FnScope ["components", "used", "weight"] ["components", "used"] (defScope s_has_all) := ⟨rfl, rfl, rfl, by decide +kernel, rfl, by decide +kernel, by decide +kernel⟩
theorem sc_number_row : FnScope ["number", "found", "turn"] ["number"] (defScope s_number_row) := ⟨rfl, rfl, rfl, by decide +kernel, rfl, by decide +kernel, by decide +kernel⟩
theorem sc_rows_of : FnScope ["numbers", "number"] ["numbers"] (defScope s_rows_of) := ⟨rfl, rfl, rfl, by decide +kernel, rfl, by decide +kernel, by decide +kernel⟩
theorem sc_number_in : FnScope ["row", "found", "byte"] ["row"] (defScope s_number_in) := ⟨rfl, rfl, rfl, by decide +kernel, rfl, by decide +kernel, by decide +kernel⟩
theorem sc_numbers_in : FnScope ["row", "at"] ["row"] (defScope s_numbers_in) := ⟨rfl, rfl, rfl, by decide +kernel, rfl, by decide +kernel, by decide +kernel⟩
theorem sc_head_of : FnScope ["state", "form", "used", "byte", "found", "number"] ["state", "form"] (defScope s_head_of) := ⟨rfl, rfl, rfl, by decide +kernel, rfl, by decide +kernel, by decide +kernel⟩
theorem sc_long_form : FnScope ["state", "components", "found", "weight"] ["state", "components"] (defScope s_long_form) := ⟨rfl, rfl, rfl, by decide +kernel, rfl, by decide +kernel, by decide +kernel⟩
theorem sc_short_form : FnScope ["state", "used", "found", "weight"] ["state"] (defScope s_short_form) := ⟨rfl, rfl, rfl, by decide +kernel, rfl, by decide +kernel, by decide +kernel⟩
theorem sc_form_of : FnScope ["state", "form", "components"] ["state", "form", "components"] (defScope s_form_of) := ⟨rfl, rfl, rfl, by decide +kernel, rfl, by decide +kernel, by decide +kernel⟩
theorem sc_read_part : FnScope ["state", "row", "at", "weight", "end"] ["state", "row", "at", "weight"] (defScope s_read_part) := ⟨rfl, rfl, rfl, by decide +kernel, rfl, by decide +kernel, by decide +kernel⟩
theorem sc_read_head : FnScope ["row", "state", "places", "at", "place"] ["row"] (defScope s_read_head) := ⟨rfl, rfl, rfl, by decide +kernel, rfl, by decide +kernel, by decide +kernel⟩
theorem sc_read_long : FnScope ["row", "state", "at", "weight"] ["row"] (defScope s_read_long) := ⟨rfl, rfl, rfl, by decide +kernel, rfl, by decide +kernel, by decide +kernel⟩
theorem sc_read_short : FnScope ["row", "used", "some", "state", "at", "weight"] ["row", "used"] (defScope s_read_short) := ⟨rfl, rfl, rfl, by decide +kernel, rfl, by decide +kernel, by decide +kernel⟩
theorem sc_state_of : FnScope ["row"] ["row"] (defScope s_state_of) := ⟨rfl, rfl, rfl, by decide +kernel, rfl, by decide +kernel, by decide +kernel⟩
theorem sc_Instruction___init__ : FnScope ["self", "row"] ["self", "row"] (defScope s_Instruction___init__) := ⟨rfl, rfl, rfl, by decide +kernel, rfl, by decide +kernel, by decide +kernel⟩
theorem sc_Instruction_vectors_met : FnScope ["self"] ["self"] (defScope s_Instruction_vectors_met) := ⟨rfl, rfl, rfl, by decide +kernel, rfl, by decide +kernel, by decide +kernel⟩
theorem sc_Instruction_least_machine : FnScope ["self", "at"] ["self"] (defScope s_Instruction_least_machine) := ⟨rfl, rfl, rfl, by decide +kernel, rfl, by decide +kernel, by decide +kernel⟩
theorem sc_lane_count : FnScope ["width"] ["width"] (defScope s_lane_count) := ⟨rfl, rfl, rfl, by decide +kernel, rfl, by decide +kernel, by decide +kernel⟩
theorem sc_is_instruction : FnScope ["row", "place", "kind", "width", "mask", "goal", "one", "other", "first", "second", "third", "is_narrow", "is_bare"] ["row", "place"] (defScope s_is_instruction) := ⟨rfl, rfl, rfl, by decide +kernel, rfl, by decide +kernel, by decide +kernel⟩
theorem sc_instruction_rows : FnScope ["code", "at"] ["code"] (defScope s_instruction_rows) := ⟨rfl, rfl, rfl, by decide +kernel, rfl, by decide +kernel, by decide +kernel⟩
theorem sc_powers : FnScope ["found", "turn"] [] (defScope s_powers) := ⟨rfl, rfl, rfl, by decide +kernel, rfl, by decide +kernel, by decide +kernel⟩
theorem sc_paired : FnScope ["kind", "ones", "others", "both", "one", "other"] ["kind", "ones", "others"] (defScope s_paired) := ⟨rfl, rfl, rfl, by decide +kernel, rfl, by decide +kernel, by decide +kernel⟩
theorem sc_Runner___init__ : FnScope ["self", "state"] ["self", "state"] (defScope s_Runner___init__) := ⟨rfl, rfl, rfl, by decide +kernel, rfl, by decide +kernel, by decide +kernel⟩
theorem sc_Runner_shifted : FnScope ["self", "kind", "ones", "by", "one"] ["self", "kind", "ones", "by"] (defScope s_Runner_shifted) := ⟨rfl, rfl, rfl, by decide +kernel, rfl, by decide +kernel, by decide +kernel⟩
theorem sc_Runner_lanes_made : FnScope ["self", "one", "state", "ones", "at"] ["self", "one"] (defScope s_Runner_lanes_made) := ⟨rfl, rfl, rfl, by decide +kernel, rfl, by decide +kernel, by decide +kernel⟩
theorem sc_Runner_write : FnScope ["self", "one", "lanes", "state", "bits", "old", "at"] ["self", "one", "lanes"] (defScope s_Runner_write) := ⟨rfl, rfl, rfl, by decide +kernel, rfl, by decide +kernel, by decide +kernel⟩
theorem sc_Runner_bits_less : FnScope ["self", "one", "ones", "others", "at"] ["self", "one"] (defScope s_Runner_bits_less) := ⟨rfl, rfl, rfl, by decide +kernel, rfl, by decide +kernel, by decide +kernel⟩
theorem sc_Runner_change : FnScope ["self", "one", "words", "masks"] ["self", "one"] (defScope s_Runner_change) := ⟨rfl, rfl, rfl, by decide +kernel, rfl, by decide +kernel, by decide +kernel⟩
theorem sc_Runner_next_place : FnScope ["self", "one", "place", "words"] ["self", "one", "place"] (defScope s_Runner_next_place) := ⟨rfl, rfl, rfl, by decide +kernel, rfl, by decide +kernel, by decide +kernel⟩
theorem sc_Runner_step : FnScope ["self", "one", "place", "lanes"] ["self", "one", "place"] (defScope s_Runner_step) := ⟨rfl, rfl, rfl, by decide +kernel, rfl, by decide +kernel, by decide +kernel⟩
theorem sc_Runner_run : FnScope ["self", "code", "place", "most", "turn"] ["self", "code", "place", "most"] (defScope s_Runner_run) := ⟨rfl, rfl, rfl, by decide +kernel, rfl, by decide +kernel, by decide +kernel⟩
theorem sc_Refusal___init__ : FnScope ["self", "code"] ["self", "code"] (defScope s_Refusal___init__) := ⟨rfl, rfl, rfl, by decide +kernel, rfl, by decide +kernel, by decide +kernel⟩
theorem sc_need : FnScope ["holds", "code"] ["holds", "code"] (defScope s_need) := ⟨rfl, rfl, rfl, by decide +kernel, rfl, by decide +kernel, by decide +kernel⟩
theorem sc_Desk___init__ : FnScope ["self"] ["self"] (defScope s_Desk___init__) := ⟨rfl, rfl, rfl, by decide +kernel, rfl, by decide +kernel, by decide +kernel⟩
theorem sc_Desk_replace : FnScope ["self", "components", "state"] ["self", "components", "state"] (defScope s_Desk_replace) := ⟨rfl, rfl, rfl, by decide +kernel, rfl, by decide +kernel, by decide +kernel⟩
theorem sc_state_in : FnScope ["many", "row", "found"] ["many", "row"] (defScope s_state_in) := ⟨rfl, rfl, rfl, by decide +kernel, rfl, by decide +kernel, by decide +kernel⟩
theorem sc_with_length : FnScope ["row", "room"] ["row", "room"] (defScope s_with_length) := ⟨rfl, rfl, rfl, by decide +kernel, rfl, by decide +kernel, by decide +kernel⟩
theorem sc_new : FnScope ["desk", "numbers"] ["desk", "numbers"] (defScope s_new) := ⟨rfl, rfl, rfl, by decide +kernel, rfl, by decide +kernel, by decide +kernel⟩
theorem sc_run : FnScope ["desk", "numbers", "many", "first", "most", "rows", "code", "place", "row", "one"] ["desk", "numbers"] (defScope s_run) := ⟨rfl, rfl, rfl, by decide +kernel, rfl, by decide +kernel, by decide +kernel⟩
theorem sc_save : FnScope ["desk", "numbers", "room", "form"] ["desk", "numbers"] (defScope s_save) := ⟨rfl, rfl, rfl, by decide +kernel, rfl, by decide +kernel, by decide +kernel⟩
theorem sc_load : FnScope ["desk", "numbers", "many", "components", "state"] ["desk", "numbers"] (defScope s_load) := ⟨rfl, rfl, rfl, by decide +kernel, rfl, by decide +kernel, by decide +kernel⟩
theorem sc_turn_form : FnScope ["desk", "numbers", "many", "room", "form", "components", "state"] ["desk", "numbers"] (defScope s_turn_form) := ⟨rfl, rfl, rfl, by decide +kernel, rfl, by decide +kernel, by decide +kernel⟩
theorem sc_peek : FnScope ["desk", "numbers", "at", "found"] ["desk", "numbers"] (defScope s_peek) := ⟨rfl, rfl, rfl, by decide +kernel, rfl, by decide +kernel, by decide +kernel⟩
theorem sc_copied : FnScope ["state", "found", "weight"] ["state"] (defScope s_copied) := ⟨rfl, rfl, rfl, by decide +kernel, rfl, by decide +kernel, by decide +kernel⟩
theorem sc_poke : FnScope ["desk", "numbers", "at", "row", "state", "told", "byte"] ["desk", "numbers"] (defScope s_poke) := ⟨rfl, rfl, rfl, by decide +kernel, rfl, by decide +kernel, by decide +kernel⟩
theorem sc_differ : FnScope ["desk", "numbers", "many", "others", "one", "other", "weight"] ["desk", "numbers"] (defScope s_differ) := ⟨rfl, rfl, rfl, by decide +kernel, rfl, by decide +kernel, by decide +kernel⟩
theorem sc_answer : FnScope ["desk", "deed", "numbers", "e"] ["desk", "deed", "numbers"] (defScope s_answer) := ⟨rfl, rfl, rfl, by decide +kernel, rfl, by decide +kernel, by decide +kernel⟩
theorem sc_answers : FnScope ["calls", "desk", "found", "at", "end", "deed", "told"] ["calls"] (defScope s_answers) := ⟨rfl, rfl, rfl, by decide +kernel, rfl, by decide +kernel, by decide +kernel⟩
theorem lk_here {k : Str} {v : V} {r : List (Str × V)} : List.lookup k ((k, v) :: r) = some v := by
  have e : (k == k) = true := beq_self_eq_true k
  simp only [List.lookup, e]
theorem lk_past {k g : Str} {v : V} {r : List (Str × V)} (h : (k == g) = false) : List.lookup k ((g, v) :: r) = List.lookup k r := by
  simp only [List.lookup, h]
theorem put_here {f : Str} {v x : V} {r : List (Str × V)} : putF f v ((f, x) :: r) = (f, v) :: r := if_pos rfl
theorem put_past {f g : Str} {v x : V} {r : List (Str × V)} (h : ¬ g = f) : putF f v ((g, x) :: r) = (g, x) :: putF f v r := if_neg h
structure Foot where
  a : Addr
  dx : Addr
  wa : Addr
  va : Addr
  ka : Addr
  rows : List Addr
def sF (f : Foot) : List (Str × V) := [("words", .ref f.wa), ("vectors", .ref f.va), ("masks", .ref f.ka)]
theorem sF_words (f : Foot) : (sF f).lookup ("words" : Str) = some (.ref f.wa) := lk_here
theorem sF_vectors (f : Foot) : (sF f).lookup ("vectors" : Str) = some (.ref f.va) := ((lk_past (by decide +kernel)).trans lk_here)
theorem sF_masks (f : Foot) : (sF f).lookup ("masks" : Str) = some (.ref f.ka) := ((lk_past (by decide +kernel)).trans ((lk_past (by decide +kernel)).trans lk_here))
theorem sF_part (f : Foot) : (sF f).lookup ("part" : Str) = none := ((lk_past (by decide +kernel)).trans ((lk_past (by decide +kernel)).trans ((lk_past (by decide +kernel)).trans rfl)))
theorem sF_set_part (f : Foot) : (sF f).lookup ("set_part" : Str) = none := ((lk_past (by decide +kernel)).trans ((lk_past (by decide +kernel)).trans ((lk_past (by decide +kernel)).trans rfl)))
theorem sF_used (f : Foot) : (sF f).lookup ("used" : Str) = none := ((lk_past (by decide +kernel)).trans ((lk_past (by decide +kernel)).trans ((lk_past (by decide +kernel)).trans rfl)))
def iF (x : Sd62.Step) : List (Str × V) := [("kind", .int (x.kind : Int)), ("lanes", .int (Sd62.lanes x.width : Int)), ("mask", .int (x.mask : Int)), ("goal", .int (x.d : Int)), ("one", .int (x.a : Int)), ("other", .int (x.b : Int))]
theorem iF_kind (x : Sd62.Step) : (iF x).lookup ("kind" : Str) = some (.int (x.kind : Int)) := lk_here
theorem iF_lanes (x : Sd62.Step) : (iF x).lookup ("lanes" : Str) = some (.int (Sd62.lanes x.width : Int)) := ((lk_past (by decide +kernel)).trans lk_here)
theorem iF_mask (x : Sd62.Step) : (iF x).lookup ("mask" : Str) = some (.int (x.mask : Int)) := ((lk_past (by decide +kernel)).trans ((lk_past (by decide +kernel)).trans lk_here))
theorem iF_goal (x : Sd62.Step) : (iF x).lookup ("goal" : Str) = some (.int (x.d : Int)) := ((lk_past (by decide +kernel)).trans ((lk_past (by decide +kernel)).trans ((lk_past (by decide +kernel)).trans lk_here)))
theorem iF_one (x : Sd62.Step) : (iF x).lookup ("one" : Str) = some (.int (x.a : Int)) := ((lk_past (by decide +kernel)).trans ((lk_past (by decide +kernel)).trans ((lk_past (by decide +kernel)).trans ((lk_past (by decide +kernel)).trans lk_here))))
theorem iF_other (x : Sd62.Step) : (iF x).lookup ("other" : Str) = some (.int (x.b : Int)) := ((lk_past (by decide +kernel)).trans ((lk_past (by decide +kernel)).trans ((lk_past (by decide +kernel)).trans ((lk_past (by decide +kernel)).trans ((lk_past (by decide +kernel)).trans lk_here)))))
theorem iF_vectors_met (x : Sd62.Step) : (iF x).lookup ("vectors_met" : Str) = none := ((lk_past (by decide +kernel)).trans ((lk_past (by decide +kernel)).trans ((lk_past (by decide +kernel)).trans ((lk_past (by decide +kernel)).trans ((lk_past (by decide +kernel)).trans ((lk_past (by decide +kernel)).trans rfl))))))
theorem iF_least_machine (x : Sd62.Step) : (iF x).lookup ("least_machine" : Str) = none := ((lk_past (by decide +kernel)).trans ((lk_past (by decide +kernel)).trans ((lk_past (by decide +kernel)).trans ((lk_past (by decide +kernel)).trans ((lk_past (by decide +kernel)).trans ((lk_past (by decide +kernel)).trans rfl))))))
def rF (st pw : Addr) : List (Str × V) := [("state", .ref st), ("powers", .ref pw)]
theorem rF_state (st pw : Addr) : (rF st pw).lookup ("state" : Str) = some (.ref st) := lk_here
theorem rF_powers (st pw : Addr) : (rF st pw).lookup ("powers" : Str) = some (.ref pw) := ((lk_past (by decide +kernel)).trans lk_here)
theorem rF_shifted (st pw : Addr) : (rF st pw).lookup ("shifted" : Str) = none := ((lk_past (by decide +kernel)).trans ((lk_past (by decide +kernel)).trans rfl))
theorem rF_lanes_made (st pw : Addr) : (rF st pw).lookup ("lanes_made" : Str) = none := ((lk_past (by decide +kernel)).trans ((lk_past (by decide +kernel)).trans rfl))
theorem rF_write (st pw : Addr) : (rF st pw).lookup ("write" : Str) = none := ((lk_past (by decide +kernel)).trans ((lk_past (by decide +kernel)).trans rfl))
theorem rF_bits_less (st pw : Addr) : (rF st pw).lookup ("bits_less" : Str) = none := ((lk_past (by decide +kernel)).trans ((lk_past (by decide +kernel)).trans rfl))
theorem rF_change (st pw : Addr) : (rF st pw).lookup ("change" : Str) = none := ((lk_past (by decide +kernel)).trans ((lk_past (by decide +kernel)).trans rfl))
theorem rF_next_place (st pw : Addr) : (rF st pw).lookup ("next_place" : Str) = none := ((lk_past (by decide +kernel)).trans ((lk_past (by decide +kernel)).trans rfl))
theorem rF_step (st pw : Addr) : (rF st pw).lookup ("step" : Str) = none := ((lk_past (by decide +kernel)).trans ((lk_past (by decide +kernel)).trans rfl))
theorem rF_run (st pw : Addr) : (rF st pw).lookup ("run" : Str) = none := ((lk_past (by decide +kernel)).trans ((lk_past (by decide +kernel)).trans rfl))
def dF (c : Nat) (st : Addr) : List (Str × V) := [("components", .int (c : Int)), ("state", .ref st)]
theorem dF_components (c : Nat) (st : Addr) : (dF c st).lookup ("components" : Str) = some (.int (c : Int)) := lk_here
theorem dF_state (c : Nat) (st : Addr) : (dF c st).lookup ("state" : Str) = some (.ref st) := ((lk_past (by decide +kernel)).trans lk_here)
theorem dF_replace (c : Nat) (st : Addr) : (dF c st).lookup ("replace" : Str) = none := ((lk_past (by decide +kernel)).trans ((lk_past (by decide +kernel)).trans rfl))
theorem sF_new (f : Foot) : putF "masks" (.ref f.ka) (putF "vectors" (.ref f.va) (putF "words" (.ref f.wa) [])) = sF f := by
  show putF "masks" (.ref f.ka) (putF "vectors" (.ref f.va) [("words", .ref f.wa)]) = _
  rw [put_past (by decide +kernel)]
  show putF "masks" (.ref f.ka) [("words", .ref f.wa), ("vectors", .ref f.va)] = _
  rw [put_past (by decide +kernel), put_past (by decide +kernel)]
  rfl
theorem sF_put_words (f : Foot) (p : Addr) : putF "words" (.ref p) (sF f) = sF { f with wa := p } := put_here
theorem sF_put_masks (f : Foot) (p : Addr) : putF "masks" (.ref p) (sF f) = sF { f with ka := p } := (put_past (by decide +kernel)).trans (congrArg _ ((put_past (by decide +kernel)).trans (congrArg _ put_here)))
theorem dF_put_components (c c' : Nat) (st : Addr) : putF "components" (.int (c' : Int)) (dF c st) = dF c' st := put_here
theorem dF_put_state (c : Nat) (st st' : Addr) : putF "state" (.ref st') (dF c st) = dF c st' := (put_past (by decide +kernel)).trans (congrArg _ put_here)
theorem dF_new (c : Nat) (st : Addr) : putF "state" (.ref st) (putF "components" (.int (c : Int)) []) = dF c st := (put_past (by decide +kernel)).trans rfl
theorem rF_new (st pw : Addr) : putF "powers" (.ref pw) (putF "state" (.ref st) []) = rF st pw := (put_past (by decide +kernel)).trans rfl
/-- a state's content -/
structure StC (C : Addr) (H : Hp) (f : Foot) (s : Sd62.St) : Prop where
  ins : H f.a = some (.ins C f.dx (sF f))
  wl : H f.wa = some (.lst (nv s.m))
  vl : H f.va = some (.lst (f.rows.map V.ref))
  kl : H f.ka = some (.lst (nv s.k))
  rw : Rows H f.rows s.v
theorem StC.mono {C : Addr} {H H' : Hp} {f : Foot} {s : Sd62.St} (h : StC C H f s) (e : Ex H H') : StC C H' f s := ⟨e _ _ h.ins, e _ _ h.wl, e _ _ h.vl, e _ _ h.kl, h.rw.mono e⟩
def boundsRows : List (Nat × Nat × Nat × Bool × Bool) := [(32, 32, 32, false, false), (32, 32, 32, false, false), (32, 32, 32, false, false), (32, 32, 32, false, false), (32, 32, 32, false, false), (32, 32, 32, false, false), (32, 32, 32, false, false), (32, 32, 32, false, false), (32, 32, 64, false, false), (32, 32, 64, false, false), (32, 32, 64, false, false), (32, 32, 8, false, false), (32, 8, 1, false, false), (32, 8, 1, false, false), (8, 32, 1, false, true), (8, 8, 8, true, true), (8, 8, 8, true, true), (8, 32, 32, false, true), (8, 8, 8, true, true), (8, 8, 8, true, true), (8, 8, 1, false, true), (8, 8, 1, true, true), (8, 8, 1, true, true), (8, 256, 1, true, true)]
abbrev bounds := boundsRows
def boundsV (r : Nat × Nat × Nat × Bool × Bool) : List V := [.int (r.1 : Int), .int (r.2.1 : Int), .int (r.2.2.1 : Int), .bl r.2.2.2.1, .bl r.2.2.2.2]
structure Ad where
  cState : Addr
  cInstruction : Addr
  cRunner : Addr
  cDesk : Addr
  cRefusal : Addr
  iRef : Addr
  aMACHINES : Addr
  aWEIGHTS : Addr
  aHEAD : Addr
  aMARKS : Addr
  aSIZES : Addr
  aMORE : Addr
  aBOUNDS : Addr
  aCALLS : Addr
  bs : List Addr
  fs : List Addr
/-- the dict SIZES of the written part -/
structure DctI (K : PySem.W.Frag) (a : Addr) : Prop where
  ok : ∃ t1 u1 t2 u2 t3 u3 n, K.lookup a = some { cls := .type "dict", data := .dict #[⟨576, .int 576 t1, .int 3 u1⟩, ⟨832, .int 832 t2, .int 7 u2⟩, ⟨2688, .int 2688 t3, .int 231 u3⟩] n }
  ne : (a == sysModules) = false
def sizeV (n : Int) : Option Int := if n = 576 then some 3 else if n = 832 then some 7 else if n = 2688 then some 231 else none
section
variable {X : Cx} {d : Addr} {o i : Expr} {pos : Pos} {td ty : TE}
theorem dctI_map {P : Program} {w : World} {K : PySem.W.Frag} {h : Heap} (D : DctI K d) (X : K.In h) : ∃ f : Key → Option Value, h.MapOf (mixKind P w) d f ∧ ∀ n : Int, RelO ((sizeV n).map V.int) (f (.inl n)) := by
  obtain ⟨t1, u1, t2, u2, t3, u3, n, e⟩ := D.ok
  have hd : h.DictOf (mixKind P w) d [(.inl 576, .int 3 u1), (.inl 832, .int 7 u2), (.inl 2688, .int 231 u3)] := by
    refine ⟨_, _, n, X _ _ e, ⟨rfl, rfl, rfl⟩, rfl, ?_, ?_, ?_⟩
    · intro en hen
      have hen' : en ∈ ([⟨576, .int 576 t1, .int 3 u1⟩, ⟨832, .int 832 t2, .int 7 u2⟩, ⟨2688, .int 2688 t3, .int 231 u3⟩] : List DictEntry) := by simpa using hen
      rcases List.mem_cons.mp hen' with rfl | hen'
      · exact ⟨.inl 576, keyIs_int 576 t1, (by decide +kernel : (576 : Int) = hashInt 576)⟩
      · rcases List.mem_cons.mp hen' with rfl | hen'
        · exact ⟨.inl 832, keyIs_int 832 t2, (by decide +kernel : (832 : Int) = hashInt 832)⟩
        · rcases List.mem_cons.mp hen' with rfl | hen'
          · exact ⟨.inl 2688, keyIs_int 2688 t3, (by decide +kernel : (2688 : Int) = hashInt 2688)⟩
          · cases hen'
    · exact .cons (keyIs_int 576 t1) rfl (.cons (keyIs_int 832 t2) rfl (.cons (keyIs_int 2688 t3) rfl .nil))
    · show ([Sum.inl 576, Sum.inl 832, Sum.inl 2688] : List Key).Nodup
      decide
  refine ⟨_, hd.mapOf, fun n => ?_⟩
  unfold sizeV valueAt
  by_cases h1 : n = 576
  · subst h1
    exact ⟨u1, rfl⟩
  · by_cases h2 : n = 832
    · subst h2
      exact ⟨u2, rfl⟩
    · by_cases h3 : n = 2688
      · subst h3
        exact ⟨u3, rfl⟩
      · rw [if_neg h1, if_neg h2, if_neg h3]
        have e1 : decide ((Sum.inl 576 : Key) = Sum.inl n) = false := decide_eq_false fun z => h1 (by injection z with z; exact z.symm)
        have e2 : decide ((Sum.inl 832 : Key) = Sum.inl n) = false := decide_eq_false fun z => h2 (by injection z with z; exact z.symm)
        have e3 : decide ((Sum.inl 2688 : Key) = Sum.inl n) = false := decide_eq_false fun z => h3 (by injection z with z; exact z.symm)
        rw [List.find?_cons, e1, List.find?_cons, e2, List.find?_cons, e3, List.find?_nil]
        trivial
theorem dctI_type {K : PySem.W.Frag} {s : Shared} (D : DctI K d) (X : K.In s.heap) : s.TypeIs (.ref d) "dict" := by
  obtain ⟨t1, u1, t2, u2, t3, u3, n, e⟩ := D.ok
  exact ⟨_, X _ _ e, rfl⟩
def tKNot (d : Addr) (ty td : TE) : TE := fun σ H Q => ty σ H fun y H1 => td σ H1 fun x H2 => ∃ n : Int, y = .int n ∧ x = .ref d ∧ Q (.bl (!(sizeV n).isSome)) H2
theorem pc_knot (D : DctI X.K d) (hi : PE X i ty) (ho : PE X o td) : PC X .NotIn i o (tKNot d ty td) := by
  refine ⟨fun pins s σ H Q I h => ?_⟩
  refine thn (hi.run pins s σ H _ I h) fun iv s1 ⟨y, H1, I1, ry, q1⟩ => thn (ho.run pins s1 σ H1 _ I1 q1) fun u s2 ⟨x, H2, I2, rx, n, ey, ex, q2⟩ => ?_
  subst ex ey
  obtain rfl : u = Value.ref d := rx
  obtain ⟨t, rfl⟩ := ry
  obtain ⟨f, hm, hf⟩ := dctI_map (P := X.prog) (w := X.w) D I2.kIn
  refine wpAny_notIn_of (knd := mixKind X.prog X.w) (k := .inl n) (keyIs_int n t) D.ne hm ?_
  have e := (hf n).isSome_eq
  rw [Option.isSome_map] at e
  rw [← e]
  exact ⟨.bl (!(sizeV n).isSome), H2, I2.tok _, rfl, q2⟩
def tKGet (d : Addr) (td ty : TE) : TE := fun σ H Q => td σ H fun x H1 => ty σ H1 fun y H2 => ∃ n v : Int, y = .int n ∧ x = .ref d ∧ sizeV n = some v ∧ Q (.int v) H2
theorem pe_kget (D : DctI X.K d) (ho : PE X o td) (hi : PE X i ty) (hs : NoSl i) : PE X (.Subscript o i pos) (tKGet d td ty) := by
  refine ⟨fun pins s σ H Q I h => ?_⟩
  refine subD_of PySem.F.slot_dict_getitem.lookup hs (thn (ho.run pins s σ H _ I h) fun u s1 ⟨x, H1, I1, rx, q1⟩ => thn (hi.run pins s1 σ H1 _ I1 q1) fun iv s2 ⟨y, H2, I2, ry, n, v, ey, ex, hv, q2⟩ => ?_)
  subst ex ey
  obtain rfl : u = Value.ref d := rx
  obtain ⟨t, rfl⟩ := ry
  obtain ⟨f, hm, hf⟩ := dctI_map (P := X.prog) (w := X.w) D I2.kIn
  have hn := hf n
  rw [hv] at hn
  obtain ⟨u, hu, ru⟩ := RelO.some_of (v := .int v) (o := f (.inl n)) hn
  exact ⟨dctI_type D I2.kIn, wpAny_getItem_of (knd := mixKind X.prog X.w) (k := .inl n) (keyIs_int n t) hm hu ⟨.int v, H2, I2.tok _, ru, q2⟩⟩
end
structure Txt (K : PySem.W.Frag) (mg : Str → Option Value) (A : Ad) : Prop where
  g_M_COUNT : ∃ u, mg "M_COUNT" = some u ∧ RelV (.int 8) u
  g_V_COUNT : ∃ u, mg "V_COUNT" = some u ∧ RelV (.int 32) u
  g_LOW_COUNT : ∃ u, mg "LOW_COUNT" = some u ∧ RelV (.int 16) u
  g_K_COUNT : ∃ u, mg "K_COUNT" = some u ∧ RelV (.int 8) u
  g_LANES : ∃ u, mg "LANES" = some u ∧ RelV (.int 8) u
  g_WORD_SIZE : ∃ u, mg "WORD_SIZE" = some u ∧ RelV (.int 8) u
  g_BASE : ∃ u, mg "BASE" = some u ∧ RelV (.int 256) u
  g_FULL : ∃ u, mg "FULL" = some u ∧ RelV (.int 18446744073709551616) u
  g_BASIC : ∃ u, mg "BASIC" = some u ∧ RelV (.int 1) u
  g_LOW_LANES : ∃ u, mg "LOW_LANES" = some u ∧ RelV (.int 2) u
  g_NEXT_LANES : ∃ u, mg "NEXT_LANES" = some u ∧ RelV (.int 4) u
  g_MASKS : ∃ u, mg "MASKS" = some u ∧ RelV (.int 32) u
  g_HIGH_LANES : ∃ u, mg "HIGH_LANES" = some u ∧ RelV (.int 64) u
  g_HIGH_VECTORS : ∃ u, mg "HIGH_VECTORS" = some u ∧ RelV (.int 128) u
  g_M_PLACE : ∃ u, mg "M_PLACE" = some u ∧ RelV (.int 32) u
  g_M_STEP : ∃ u, mg "M_STEP" = some u ∧ RelV (.int 16) u
  g_LOW_PLACE : ∃ u, mg "LOW_PLACE" = some u ∧ RelV (.int 160) u
  g_USED_PLACE : ∃ u, mg "USED_PLACE" = some u ∧ RelV (.int 512) u
  g_FORM_PLACE : ∃ u, mg "FORM_PLACE" = some u ∧ RelV (.int 520) u
  g_HEAD_SIZE : ∃ u, mg "HEAD_SIZE" = some u ∧ RelV (.int 576) u
  g_GAP_SIZE : ∃ u, mg "GAP_SIZE" = some u ∧ RelV (.int 256) u
  g_SHORT_FORM : ∃ u, mg "SHORT_FORM" = some u ∧ RelV (.int 9223372036854775808) u
  g_MOST_BYTES : ∃ u, mg "MOST_BYTES" = some u ∧ RelV (.int 2688) u
  g_SIZE : ∃ u, mg "SIZE" = some u ∧ RelV (.int 6) u
  g_MOST_WIDTH : ∃ u, mg "MOST_WIDTH" = some u ∧ RelV (.int 2) u
  g_MOST_MASK : ∃ u, mg "MOST_MASK" = some u ∧ RelV (.int 7) u
  g_ROTATE : ∃ u, mg "ROTATE" = some u ∧ RelV (.int 11) u
  g_FILL : ∃ u, mg "FILL" = some u ∧ RelV (.int 12) u
  g_RISE : ∃ u, mg "RISE" = some u ∧ RelV (.int 13) u
  g_LANE_SUM : ∃ u, mg "LANE_SUM" = some u ∧ RelV (.int 14) u
  g_M_SUM : ∃ u, mg "M_SUM" = some u ∧ RelV (.int 15) u
  g_M_APART : ∃ u, mg "M_APART" = some u ∧ RelV (.int 16) u
  g_LESS : ∃ u, mg "LESS" = some u ∧ RelV (.int 17) u
  g_K_BOTH : ∃ u, mg "K_BOTH" = some u ∧ RelV (.int 18) u
  g_K_APART : ∃ u, mg "K_APART" = some u ∧ RelV (.int 19) u
  g_K_NOT : ∃ u, mg "K_NOT" = some u ∧ RelV (.int 20) u
  g_M_FROM_K : ∃ u, mg "M_FROM_K" = some u ∧ RelV (.int 21) u
  g_K_FROM_M : ∃ u, mg "K_FROM_M" = some u ∧ RelV (.int 22) u
  g_LOOP : ∃ u, mg "LOOP" = some u ∧ RelV (.int 23) u
  g_HALF : ∃ u, mg "HALF" = some u ∧ RelV (.int 4294967296) u
  g_OUT_OF_RANGE : ∃ u, mg "OUT_OF_RANGE" = some u ∧ RelV (.int (-1)) u
  g_NONE_SUCH : ∃ u, mg "NONE_SUCH" = some u ∧ RelV (.int (-2)) u
  g_NO_COMPONENT : ∃ u, mg "NO_COMPONENT" = some u ∧ RelV (.int (-3)) u
  g_NO_ROOM : ∃ u, mg "NO_ROOM" = some u ∧ RelV (.int (-4)) u
  g_MOST_CODE : ∃ u, mg "MOST_CODE" = some u ∧ RelV (.int 4096) u
  g_MOST_STEPS : ∃ u, mg "MOST_STEPS" = some u ∧ RelV (.int 1000000) u
  g_FIRST_M : ∃ u, mg "FIRST_M" = some u ∧ RelV (.int 32) u
  g_FIRST_K : ∃ u, mg "FIRST_K" = some u ∧ RelV (.int 40) u
  g_ALL_PLACE : ∃ u, mg "ALL_PLACE" = some u ∧ RelV (.int 48) u
  g_CELL_SIZE : ∃ u, mg "CELL_SIZE" = some u ∧ RelV (.int 64) u
  g_MACHINES : ∃ u, mg "MACHINES" = some u ∧ RelV (.ref A.aMACHINES) u
  g_WEIGHTS : ∃ u, mg "WEIGHTS" = some u ∧ RelV (.ref A.aWEIGHTS) u
  g_HEAD : ∃ u, mg "HEAD" = some u ∧ RelV (.ref A.aHEAD) u
  g_MARKS : ∃ u, mg "MARKS" = some u ∧ RelV (.ref A.aMARKS) u
  g_SIZES : ∃ u, mg "SIZES" = some u ∧ RelV (.ref A.aSIZES) u
  g_MORE : ∃ u, mg "MORE" = some u ∧ RelV (.ref A.aMORE) u
  g_BOUNDS : ∃ u, mg "BOUNDS" = some u ∧ RelV (.ref A.aBOUNDS) u
  g_CALLS : ∃ u, mg "CALLS" = some u ∧ RelV (.ref A.aCALLS) u
  b_range : mg "range" = none
  b_list : mg "list" = none
  b_len : mg "len" = none
  b_sum : mg "sum" = none
  b_any : mg "any" = none
  b_all : mg "all" = none
  b_reversed : mg "reversed" = none
  b_zip : mg "zip" = none
  b_min : mg "min" = none
  b_max : mg "max" = none
  b_enumerate : mg "enumerate" = none
  cl_State : Cls K A.cState
  cl_Instruction : Cls K A.cInstruction
  cl_Runner : Cls K A.cRunner
  cl_Desk : Cls K A.cDesk
  n_State_words : NoAttr K A.cState "words"
  n_State_vectors : NoAttr K A.cState "vectors"
  n_State_masks : NoAttr K A.cState "masks"
  n_Instruction_kind : NoAttr K A.cInstruction "kind"
  n_Instruction_lanes : NoAttr K A.cInstruction "lanes"
  n_Instruction_mask : NoAttr K A.cInstruction "mask"
  n_Instruction_goal : NoAttr K A.cInstruction "goal"
  n_Instruction_one : NoAttr K A.cInstruction "one"
  n_Instruction_other : NoAttr K A.cInstruction "other"
  n_Runner_state : NoAttr K A.cRunner "state"
  n_Runner_powers : NoAttr K A.cRunner "powers"
  n_Desk_components : NoAttr K A.cDesk "components"
  n_Desk_state : NoAttr K A.cDesk "state"
  low : PySem.RefX.RefTxt K mg A.cRefusal A.iRef
  t_MACHINES : ∀ H, SqT K H A.aMACHINES (nv [3, 7, 231])
  t_WEIGHTS : ∀ H, SqT K H A.aWEIGHTS (nv [1, 2, 4, 32, 64, 128])
  t_MORE : ∀ H, SqT K H A.aMORE (nv [4, 32, 64, 128])
  l_HEAD : ∀ H, SqL K H A.aHEAD (nv [127, 3, 0, 0])
  l_MARKS : ∀ H, SqL K H A.aMARKS (nv [128, 31, 0, 0, 255, 255, 0, 0])
  t_BOUNDS : ∀ H, SqT K H A.aBOUNDS (A.bs.map V.ref)
  t_bounds : ∀ (i : Nat) (r : Nat × Nat × Nat × Bool × Bool), bounds[i]? = some r → ∃ b, A.bs[i]? = some b ∧ ∀ H, SqT K H b (boundsV r)
  d_SIZES : DctI K A.aSIZES
  t_CALLS : ∀ H, SqT K H A.aCALLS (A.fs.map V.ref)
  f_CALLS : ∀ (i : Nat) (x : Str), (["new", "run", "save", "load", "turn_form", "peek", "poke", "differ"] : List Str)[i]? = some x → ∃ f, A.fs[i]? = some f ∧ mg x = some (.ref f)
  D_State___init__ : MakT K mg "State" A.cState "State.__init__" s_State___init__ ["self"]
  D_State_part : MetT K A.cState "part" "State.part" s_State_part ["self", "weight"]
  D_State_set_part : MetT K A.cState "set_part" "State.set_part" s_State_set_part ["self", "weight", "numbers"]
  D_State_used : MetT K A.cState "used" "State.used" s_State_used ["self"]
  D_joined : DefT K mg "joined" "joined" s_joined ["rows"]
  D_lanes_of : DefT K mg "lanes_of" "lanes_of" s_lanes_of ["weight"]
  D_number_count : DefT K mg "number_count" "number_count" s_number_count ["weight"]
  D_has_all : DefT K mg "has_all" "has_all" s_has_all ["components", "used"]
  D_number_row : DefT K mg "number_row" "number_row" s_number_row ["number"]
  D_rows_of : DefT K mg "rows_of" "rows_of" s_rows_of ["numbers"]
  D_number_in : DefT K mg "number_in" "number_in" s_number_in ["row"]
  D_numbers_in : DefT K mg "numbers_in" "numbers_in" s_numbers_in ["row"]
  D_head_of : DefT K mg "head_of" "head_of" s_head_of ["state", "form"]
  D_long_form : DefT K mg "long_form" "long_form" s_long_form ["state", "components"]
  D_short_form : DefT K mg "short_form" "short_form" s_short_form ["state"]
  D_form_of : DefT K mg "form_of" "form_of" s_form_of ["state", "form", "components"]
  D_read_part : DefT K mg "read_part" "read_part" s_read_part ["state", "row", "at", "weight"]
  D_read_head : DefT K mg "read_head" "read_head" s_read_head ["row"]
  D_read_long : DefT K mg "read_long" "read_long" s_read_long ["row"]
  D_read_short : DefT K mg "read_short" "read_short" s_read_short ["row", "used"]
  D_state_of : DefT K mg "state_of" "state_of" s_state_of ["row"]
  D_Instruction___init__ : MakT K mg "Instruction" A.cInstruction "Instruction.__init__" s_Instruction___init__ ["self", "row"]
  D_Instruction_vectors_met : MetT K A.cInstruction "vectors_met" "Instruction.vectors_met" s_Instruction_vectors_met ["self"]
  D_Instruction_least_machine : MetT K A.cInstruction "least_machine" "Instruction.least_machine" s_Instruction_least_machine ["self"]
  D_lane_count : DefT K mg "lane_count" "lane_count" s_lane_count ["width"]
  D_is_instruction : DefT K mg "is_instruction" "is_instruction" s_is_instruction ["row", "place"]
  D_instruction_rows : DefT K mg "instruction_rows" "instruction_rows" s_instruction_rows ["code"]
  D_powers : DefT K mg "powers" "powers" s_powers []
  D_paired : DefT K mg "paired" "paired" s_paired ["kind", "ones", "others"]
  D_Runner___init__ : MakT K mg "Runner" A.cRunner "Runner.__init__" s_Runner___init__ ["self", "state"]
  D_Runner_shifted : MetT K A.cRunner "shifted" "Runner.shifted" s_Runner_shifted ["self", "kind", "ones", "by"]
  D_Runner_lanes_made : MetT K A.cRunner "lanes_made" "Runner.lanes_made" s_Runner_lanes_made ["self", "one"]
  D_Runner_write : MetT K A.cRunner "write" "Runner.write" s_Runner_write ["self", "one", "lanes"]
  D_Runner_bits_less : MetT K A.cRunner "bits_less" "Runner.bits_less" s_Runner_bits_less ["self", "one"]
  D_Runner_change : MetT K A.cRunner "change" "Runner.change" s_Runner_change ["self", "one"]
  D_Runner_next_place : MetT K A.cRunner "next_place" "Runner.next_place" s_Runner_next_place ["self", "one", "place"]
  D_Runner_step : MetT K A.cRunner "step" "Runner.step" s_Runner_step ["self", "one", "place"]
  D_Runner_run : MetT K A.cRunner "run" "Runner.run" s_Runner_run ["self", "code", "place", "most"]
  D_need : DefT K mg "need" "need" s_need ["holds", "code"]
  D_Desk___init__ : MakT K mg "Desk" A.cDesk "Desk.__init__" s_Desk___init__ ["self"]
  D_Desk_replace : MetT K A.cDesk "replace" "Desk.replace" s_Desk_replace ["self", "components", "state"]
  D_state_in : DefT K mg "state_in" "state_in" s_state_in ["many", "row"]
  D_with_length : DefT K mg "with_length" "with_length" s_with_length ["row", "room"]
  D_new : DefT K mg "new" "new" s_new ["desk", "numbers"]
  D_run : DefT K mg "run" "run" s_run ["desk", "numbers"]
  D_save : DefT K mg "save" "save" s_save ["desk", "numbers"]
  D_load : DefT K mg "load" "load" s_load ["desk", "numbers"]
  D_turn_form : DefT K mg "turn_form" "turn_form" s_turn_form ["desk", "numbers"]
  D_peek : DefT K mg "peek" "peek" s_peek ["desk", "numbers"]
  D_copied : DefT K mg "copied" "copied" s_copied ["state"]
  D_poke : DefT K mg "poke" "poke" s_poke ["desk", "numbers"]
  D_differ : DefT K mg "differ" "differ" s_differ ["desk", "numbers"]
  D_answer : DefT K mg "answer" "answer" s_answer ["desk", "deed", "numbers"]
  D_answers : DefT K mg "answers" "answers" s_answers ["calls"]
theorem ifEq {a b : Int} {A B : Prop} (h1 : a = b → A) (h2 : a ≠ b → B) : if decide (V.int a = V.int b) = true then A else B := by
  by_cases h : a = b
  · rw [h, decide_eq_true rfl]; exact iteT (h1 h)
  · rw [decide_eq_false (fun z => h (by injection z))]; exact iteF (h2 h)
theorem ifNe {a b : Int} {A B : Prop} (h1 : a ≠ b → A) (h2 : a = b → B) : if (!decide (V.int a = V.int b)) = true then A else B := by
  by_cases h : a = b
  · rw [h, decide_eq_true rfl]; exact iteF (h2 h)
  · rw [decide_eq_false (fun z => h (by injection z))]; exact iteT (h1 h)
theorem dInt {a b : Int} : decide (V.int a = V.int b) = decide (a = b) := by
  by_cases h : a = b
  · rw [decide_eq_true h, h, decide_eq_true rfl]
  · rw [decide_eq_false h, decide_eq_false (fun z => h (by injection z))]
theorem inV2 {n a b : Nat} : (if false = true then !inV (.int (n : Int)) [.int (a : Int), .int (b : Int)] else inV (.int (n : Int)) [.int (a : Int), .int (b : Int)]) = decide (n = a ∨ n = b) := by
  rw [if_neg Bool.false_ne_true]
  show ((a : Int) == (n : Int) || ((b : Int) == (n : Int) || false)) = _
  rw [Bool.or_false]
  by_cases h1 : n = a
  · subst h1; rw [beq_self_eq_true, Bool.true_or, decide_eq_true (Or.inl rfl)]
  · have e1 : ((a : Int) == (n : Int)) = false := beq_eq_false_iff_ne.mpr (by omega)
    rw [e1, Bool.false_or]
    by_cases h2 : n = b
    · subst h2; rw [beq_self_eq_true, decide_eq_true (Or.inr rfl)]
    · rw [beq_eq_false_iff_ne.mpr (by omega : (b : Int) ≠ (n : Int)), decide_eq_false (by omega)]
theorem inV3 {n a b c : Nat} : (if false = true then !inV (.int (n : Int)) (nv [a, b, c]) else inV (.int (n : Int)) (nv [a, b, c])) = decide (n = a ∨ n = b ∨ n = c) := by
  rw [if_neg Bool.false_ne_true]
  show ((a : Int) == (n : Int) || ((b : Int) == (n : Int) || ((c : Int) == (n : Int) || false))) = _
  rw [Bool.or_false]
  by_cases h1 : n = a
  · subst h1; rw [beq_self_eq_true, Bool.true_or, decide_eq_true (Or.inl rfl)]
  · rw [beq_eq_false_iff_ne.mpr (by omega : (a : Int) ≠ (n : Int)), Bool.false_or]
    by_cases h2 : n = b
    · subst h2; rw [beq_self_eq_true, Bool.true_or, decide_eq_true (Or.inr (Or.inl rfl))]
    · rw [beq_eq_false_iff_ne.mpr (by omega : (b : Int) ≠ (n : Int)), Bool.false_or]
      by_cases h3 : n = c
      · subst h3; rw [beq_self_eq_true, decide_eq_true (Or.inr (Or.inr rfl))]
      · rw [beq_eq_false_iff_ne.mpr (by omega : (c : Int) ≠ (n : Int)), decide_eq_false (by omega)]
theorem ifD {p : Prop} [Decidable p] {A B : Prop} (h1 : p → A) (h2 : ¬ p → B) : if decide p = true then A else B := by
  by_cases h : p
  · rw [decide_eq_true h]; exact iteT (h1 h)
  · rw [decide_eq_false h]; exact iteF (h2 h)
theorem ifB {b : Bool} {A B : Prop} (h1 : b = true → A) (h2 : b = false → B) : if b = true then A else B := by
  cases b
  · exact iteF (h2 rfl)
  · exact iteT (h1 rfl)
theorem ifTt {b : Bool} {A B : Prop} (hb : b = true) (h : A) : if b = true then A else B := by rw [hb]; exact iteT h
theorem ifFf {b : Bool} {A B : Prop} (hb : b = false) (h : B) : if b = true then A else B := by rw [hb]; exact iteF h
theorem szl {n : Nat} (h : n ≤ 16000000) : n ≤ sizeLine := Nat.le_trans h (by decide)
theorem szt {n : Nat} (h : n < 16000000) : n < sizeLine := Nat.lt_of_lt_of_le h (by decide)
end VP

local macro_rules | `(tactic| walk_at "lk") => `(tactic| with_reducible first | exact VP.sF_words _ | exact VP.sF_vectors _ | exact VP.sF_masks _ | exact VP.iF_kind _ | exact VP.iF_lanes _ | exact VP.iF_mask _ | exact VP.iF_goal _ | exact VP.iF_one _ | exact VP.iF_other _ | exact VP.rF_state _ _ | exact VP.rF_powers _ _ | exact VP.dF_components _ _ | exact VP.dF_state _ _)
local macro_rules | `(tactic| walk_at "cl") => `(tactic| with_reducible first | exact VP.Txt.cl_State (by assumption) | exact VP.Txt.cl_Instruction (by assumption) | exact VP.Txt.cl_Runner (by assumption) | exact VP.Txt.cl_Desk (by assumption))
local macro_rules | `(tactic| walk_at "na") => `(tactic| with_reducible first | exact VP.Txt.n_State_words (by assumption) | exact VP.Txt.n_State_vectors (by assumption) | exact VP.Txt.n_State_masks (by assumption) | exact VP.Txt.n_Instruction_kind (by assumption) | exact VP.Txt.n_Instruction_lanes (by assumption) | exact VP.Txt.n_Instruction_mask (by assumption) | exact VP.Txt.n_Instruction_goal (by assumption) | exact VP.Txt.n_Instruction_one (by assumption) | exact VP.Txt.n_Instruction_other (by assumption) | exact VP.Txt.n_Runner_state (by assumption) | exact VP.Txt.n_Runner_powers (by assumption) | exact VP.Txt.n_Desk_components (by assumption) | exact VP.Txt.n_Desk_state (by assumption))
local macro_rules | `(tactic| walk_at "side") => `(tactic| first | omega | exact VP.mulL (by omega) | exact VP.divW (by omega) (by omega) | decide | assumption)
local macro_rules | `(tactic| walk_at "fld") => `(tactic| refine ⟨_, _, _, _, _, rfl, (by with_reducible assumption), (by walk_at "cl"), (by walk_at "na"), (by walk_at "lk"), ?_⟩)
local macro_rules | `(tactic| walk_at "mt") => `(tactic| with_reducible first | exact VP.sF_part _ | exact VP.sF_set_part _ | exact VP.sF_used _ | exact VP.iF_vectors_met _ | exact VP.iF_least_machine _ | exact VP.rF_shifted _ _ | exact VP.rF_lanes_made _ _ | exact VP.rF_write _ _ | exact VP.rF_bits_less _ _ | exact VP.rF_change _ _ | exact VP.rF_next_place _ _ | exact VP.rF_step _ _ | exact VP.rF_run _ _ | exact VP.dF_replace _ _)
local macro_rules | `(tactic| walk_at "meth") => `(tactic| refine ⟨_, _, _, rfl, (by with_reducible assumption), (by walk_at "mt"), ?_⟩)
local macro_rules | `(tactic| walk_at "s") => `(tactic| first | refine ⟨_, rfl, ?_⟩ | refine ⟨_, _, rfl, rfl, ?_⟩ | refine ⟨rfl, ?_⟩ | walk_at "fld" | walk_at "meth" | refine And.intro (by walk_at "side") ?_)
local macro_rules | `(tactic| walk_at "ss") => `(tactic| repeat walk_at "s")
/-! ### bytes and numbers: the small defs -/
namespace VP
open PySem PySem.Spec PyProof.Rows L2
open Evl (Ex RetL RetV)

/-! ### comprehensions over any walk -/
theorem lc_vals {J : It} {n : Nat} {G : Hp → Prop} {Y : Nat → Hp → V → Hp → Prop} (wk : Walk J n G Y) {g : TG} {tt : TT} {te : TE} {vs : List Nat} {σ : L2.St} {H1 : Hp} {D : Addr} {Qd : Hp → Prop} (f : Nat → Bool) (v : Nat → V)
    (hn : n ≤ 100000) (hD : H1 D = none) (hG : ∀ H, Ex H1 H → G H)
    (hs : ∀ i x H H' (R : V → Hp → Prop) (S : Hp → Prop), i < n → Ex H1 H → Y i H x H' → (f i = true → ∀ H4, Ex H H4 → R (v i) H4) → (f i = false → ∀ H4, Ex H H4 → S H4) →
      g x (wipe σ vs) H' fun σ2 H2 => wipe σ2 vs = wipe σ vs ∧ tt σ2 H2 fun b H3 => if b = true then te σ2 H3 R else S H3)
    (hd : ∀ H, Ex H1 H → H D = some (.lst (Evl.given n f v)) → Qd H) :
    ∃ W : Nat → Nat → Hp → Prop, (∃ m, W 0 m (upd H1 D (.lst []))) ∧ ∀ i m H, W i m H →
      (J.stop i H ∧ Qd H) ∨ (J.go i H ∧ ∃ Nx : Hp → Prop, (∀ H', Nx H' → ∃ m', m' < m ∧ W (i + 1) m' H') ∧ ∀ x H', J.yld i H x H' → g x (wipe σ vs) H' fun σ2 H2 => wipe σ2 vs = wipe σ vs ∧ tt σ2 H2 fun b H3 =>
        if b = true then te σ2 H3 fun y H4 => ∃ acc, H4 D = some (.lst acc) ∧ acc.length < sizeLine ∧ Nx (upd H4 D (.lst (acc ++ [y]))) else Nx H3) := by
  refine lc_it wk (fun i H => Ex H1 H ∧ H D = some (.lst (Evl.given i f v))) ⟨Ex.new hD, upd_same⟩ (fun i H _ h => hG H h.1) ?_ (fun H h => hd H h.1 h.2)
  rintro i x H H' hi ⟨e, hl⟩ y
  refine hs i x H H' _ _ hi e y (fun hf H4 e4 => ?_) (fun hf H4 e4 => ?_)
  · refine ⟨_, e4 _ _ hl, szt (by have := Evl.given_len i f v; omega), Evl.Ex.mut (e.trans e4) hD, ?_⟩
    rw [Evl.given_yes hf]
    exact upd_same
  · refine ⟨e.trans e4, ?_⟩
    rw [Evl.given_no hf]
    exact e4 _ _ hl
theorem lc_refs {J : It} {n : Nat} {G : Hp → Prop} {Y : Nat → Hp → V → Hp → Prop} (wk : Walk J n G Y) {g : TG} {te : TE} {vs : List Nat} {σ : L2.St} {H1 : Hp} {D : Addr} {Qd : Hp → Prop} (Prd : Nat → HO → Prop)
    (hn : n ≤ 100000) (hD : H1 D = none) (hG : ∀ H, Ex H1 H → G H)
    (hs : ∀ i x H H' (R : V → Hp → Prop), i < n → Ex H1 H → Y i H x H' → (∀ p o H4, Ex H H4 → H p = none → H4 p = some o → Prd i o → R (.ref p) H4) →
      g x (wipe σ vs) H' fun σ2 H2 => wipe σ2 vs = wipe σ vs ∧ te σ2 H2 R)
    (hd : ∀ (as : List Addr) (H : Hp), Ex H1 H → H D = some (.lst (as.map V.ref)) → as.length = n → (∀ (i : Nat) (a : Addr), as[i]? = some a → H1 a = none ∧ a ≠ D ∧ ∃ o, H a = some o ∧ Prd i o) → Qd H) :
    ∃ W : Nat → Nat → Hp → Prop, (∃ m, W 0 m (upd H1 D (.lst []))) ∧ ∀ i m H, W i m H →
      (J.stop i H ∧ Qd H) ∨ (J.go i H ∧ ∃ Nx : Hp → Prop, (∀ H', Nx H' → ∃ m', m' < m ∧ W (i + 1) m' H') ∧ ∀ x H', J.yld i H x H' → g x (wipe σ vs) H' fun σ2 H2 => wipe σ2 vs = wipe σ vs ∧ tYes σ2 H2 fun b H3 =>
        if b = true then te σ2 H3 fun y H4 => ∃ acc, H4 D = some (.lst acc) ∧ acc.length < sizeLine ∧ Nx (upd H4 D (.lst (acc ++ [y]))) else Nx H3) := by
  refine lc_it wk (fun i H => Ex H1 H ∧ ∃ as : List Addr, H D = some (.lst (as.map V.ref)) ∧ as.length = i ∧ ∀ (j : Nat) (a : Addr), as[j]? = some a → H1 a = none ∧ a ≠ D ∧ ∃ o, H a = some o ∧ Prd j o)
    ⟨Ex.new hD, [], upd_same, rfl, fun j a h => by simp at h⟩ (fun i H _ h => hG H h.1) ?_ (fun H h => let ⟨e, as, h1, h2, h3⟩ := h; hd as H e h1 h2 h3)
  rintro i x H H' hi ⟨e, as, hl, hlen, hat⟩ y
  refine hs i x H H' (fun y H4 => ∃ acc, H4 D = some (.lst acc) ∧ acc.length < sizeLine ∧ _) hi e y (fun p o H4 e4 hp h4 hP => ?_)
  have hpD : p ≠ D := fun z => by rw [z, hl] at hp; cases hp
  refine ⟨_, e4 _ _ hl, szt (by rw [List.length_map]; omega), Evl.Ex.mut (e.trans e4) hD, as ++ [p], by rw [upd_same, List.map_append]; rfl, by rw [List.length_append, hlen]; rfl, fun j a hj => ?_⟩
  by_cases hjl : j < as.length
  · rw [List.getElem?_append_left hjl] at hj
    obtain ⟨h1, h2, u, h3, h5⟩ := hat j a hj
    exact ⟨h1, h2, u, by rw [upd_ne h2]; exact e4 _ _ h3, h5⟩
  · rw [List.getElem?_append_right (by omega)] at hj
    have hj0 : j - as.length = 0 := by
      cases hk : j - as.length with
      | zero => rfl
      | succ k => rw [hk] at hj; simp at hj
    rw [hj0] at hj
    cases hj
    have hji : j = i := by omega
    subst hji
    exact ⟨Evl.fresh_back e hp, hpD, o, by rw [upd_ne hpD]; exact h4, hP⟩
theorem rows_of_refs {H : Hp} {as : List Addr} {n : Nat} {r : Nat → List Nat} (hl : as.length = n) (h : ∀ (i : Nat) (a : Addr), as[i]? = some a → ∃ o, H a = some o ∧ o = .lst (nv (r i))) : Rows H as ((List.range n).map r) := by
  refine ⟨by rw [List.length_map, List.length_range, hl], fun i a xs h1 h2 => ?_⟩
  obtain ⟨o, ho, rfl⟩ := h i a h1
  rw [List.getElem?_map] at h2
  have hi := (List.getElem?_eq_some_iff.mp h1).1
  rw [List.getElem?_range (by omega)] at h2
  cases h2
  exact ho
theorem given_all (n : Nat) (v : Nat → V) : Evl.given n (fun _ => true) v = (List.range n).map v := by
  unfold Evl.given
  rw [List.filter_eq_self.mpr (fun _ _ => rfl)]
def spJoined (K : PySem.W.Frag) : Sp := spOf (fun (⟨a, _, _⟩ : Addr × List Addr × List (List Nat)) => [.ref a]) fun ⟨a, as, xss⟩ H Q _ =>
  SqL K H a (as.map V.ref) ∧ Rows H as xss ∧ xss.flatten.length ≤ 100000 ∧ RetL (nv xss.flatten) H Q
def spLanesOf : Sp := spOf (fun i : Nat => [.int (i : Int)]) fun i H Q _ => (i = 2 ∨ i = 4 ∨ i = 64) ∧
  ∀ p H', Ex H H' → H p = none → H' p = some (.tup (nv [fstL i, lstL i])) → Q (.ref p) H'
def spNumberRow : Sp := spOf (fun i : Nat => [.int (i : Int)]) fun i H Q _ => RetL (nv (Sd62.spread i 8)) H Q
section
variable {P : Program} {w : World} {K : PySem.W.Frag} {mg : Str → Option Value} {base : Heap} {A : Ad}
theorem flat_take_succ {xss : List (List Nat)} {i : Nat} {xs : List Nat} (h : xss[i]? = some xs) : (xss.take (i + 1)).flatten = (xss.take i).flatten ++ xs := by
  rw [List.take_succ, h, Option.toList_some, List.flatten_append, List.flatten_singleton]
theorem flat_take_len (xss : List (List Nat)) (i : Nat) : (xss.take i).flatten.length ≤ xss.flatten.length := by
  have h := congrArg (fun l => (List.flatten l).length) (List.take_append_drop i xss)
  simp only [List.flatten_append, List.length_append] at h
  omega
theorem ok_joined (T : Txt K mg A) : Cal P w K mg base 1 "joined" (spJoined K) := by
  refine Cal.of T.D_joined sc_joined (spOf_len fun ⟨_, _, _⟩ => rfl) fun f cdv A' outer s H vs Q E hr h => ?_
  have nd := sc_joined.nd
  obtain ⟨⟨a, as, xss⟩, rfl, hL, hR, hz, k⟩ := h
  refine ⟨_, (pss_cons (ps_set (i := 1) nd rfl (Or.inl rfl) (pe_lst pa_nil))
 (pss_cons (ps_for PassesOwn.never rfl (pi_listK (K := K) rfl (pv 0)) (pg_name (i := 2) nd rfl (Or.inl rfl)) (pss_one (ps_expr (pe_bm PySem.F.plainAttrs_list PySem.F.slot_list_extend PySem.F.type_list_extend mt_extend (pv 1) (pa_cons (pv 2) pa_nil)))))
 (pss_one (ps_ret (pv 1))))), ?_⟩
  refine ⟨Nat.zero_le _, fun l hl => ?_⟩
  have e0 : Ex H (upd H l (.lst [])) := Ex.new hl
  refine ⟨_, rfl, a, rfl, ⟨_, Evl.ex_l e0 hL⟩, for_list (K := K) (a := a) (xs := as.map V.ref) (fun i σ H' => ∃ v : Option V, σ = [some (.ref a), some (.ref l), v] ∧ Ex H H' ∧ H' l = some (.lst (nv (xss.take i).flatten)))
    ⟨none, rfl, e0, upd_same⟩ (fun i σ H' _ ⟨_, _, e, _⟩ => Evl.ex_l e hL) ?_ ?_⟩
  · rintro i y σ H' hi ⟨v, rfl, e, hl'⟩
    rw [List.getElem?_map] at hi
    cases hb : as[i]? with
    | none => rw [hb] at hi; cases hi
    | some b =>
      rw [hb] at hi
      have ey := Option.some.inj hi
      subst ey
      obtain ⟨xs, hx, hbx⟩ := hR.at hb
      have hle := flat_take_len xss (i + 1)
      rw [flat_take_succ hx, List.length_append] at hle
      refine ⟨_, rfl, Or.inl ⟨rfl, _, SqL.of hl'⟩, _, rfl, l, b, _, _, rfl, rfl, hl', e _ _ hbx, szl (by rw [nv_length, nv_length]; omega), ?_⟩
      refine ⟨some (.ref b), rfl, fun c o hc => ?_, ?_⟩
      · rw [upd_ne (ne_of_none hc hl)]
        exact e c o hc
      · rw [upd_same, flat_take_succ hx, nv_append]
  · rintro σ H' ⟨v, rfl, e, hl'⟩
    rw [List.length_map, hR.1, List.take_length] at hl'
    exact ⟨_, rfl, k l H' hl e hl'⟩
theorem ok_lanes_of (T : Txt K mg A) : Cal P w K mg base 1 "lanes_of" spLanesOf := by
  refine Cal.of T.D_lanes_of sc_lanes_of (spOf_len fun _ => rfl) fun f cdv A' outer s H vs Q E hr h => ?_
  have nd := sc_lanes_of.nd
  obtain ⟨n, rfl, hn, k⟩ := h
  refine ⟨_, (pss_cons (ps_if (pt_cmpR op_eq (pv 0) (pe_gv rfl T.g_LOW_LANES) (nomark _)) (pss_one (ps_ret (pe_tup (pa_cons pe_int (pa_cons pe_int pa_nil))))) pss_nil)
 (pss_one (ps_ret (pe_ifExp (pt_cmpR op_eq (pv 0) (pe_gv rfl T.g_NEXT_LANES) (nomark _)) (pe_tup (pa_cons pe_int (pa_cons pe_int pa_nil))) (pe_tup (pa_cons pe_int (pa_cons pe_int pa_nil))))))), ?_⟩
  walk_at "ss"
  refine ifEq (fun c => ?_) fun c => ?_
  · have hn2 : n = 2 := by omega
    subst hn2
    exact ⟨by decide, fun p hp => k p _ (Ex.new hp) hp upd_same⟩
  · walk_at "ss"
    refine ifEq (fun c => ?_) fun c => ?_
    · have hn2 : n = 4 := by omega
      subst hn2
      exact ⟨by decide, fun p hp => k p _ (Ex.new hp) hp upd_same⟩
    · have hn2 : n = 64 := by omega
      subst hn2
      exact ⟨by decide, fun p hp => k p _ (Ex.new hp) hp upd_same⟩
theorem ok_number_row (T : Txt K mg A) : Cal P w K mg base 1 "number_row" spNumberRow := by
  refine Cal.of T.D_number_row sc_number_row (spOf_len fun _ => rfl) fun f cdv A' outer s H vs Q E hr h => ?_
  have nd := sc_number_row.nd
  obtain ⟨n, rfl, k⟩ := h
  refine ⟨_, (pss_cons (ps_set (i := 1) nd rfl (Or.inl rfl) (pe_lst pa_nil))
 (pss_cons (ps_for PassesOwn.never rfl (pi_range1 rfl T.b_range (pa_cons (pe_gv rfl T.g_WORD_SIZE) pa_nil)) (pg_name (i := 2) nd rfl (Or.inl rfl)) (pss_cons (ps_expr (pe_bm PySem.F.plainAttrs_list PySem.F.slot_list_append PySem.F.type_list_append mt_append (pv 1) (pa_cons (pe_op op_mod (pv 0) (pe_gv rfl T.g_BASE)) pa_nil)))
 (pss_one (ps_set (i := 0) nd rfl (Or.inl rfl) (pe_op op_fdivW (pv 0) (pe_gv rfl T.g_BASE))))))
 (pss_one (ps_ret (pv 1))))), ?_⟩
  refine ⟨Nat.zero_le _, fun l hl => ?_⟩
  have e0 : Ex H (upd H l (.lst [])) := Ex.new hl
  refine ⟨8, rfl, by decide, by decide, for_range (lo := 0) (n := 8) (fun i σ H' => ∃ v : Option V, σ = [some (.int ((n / 256 ^ i : Nat) : Int)), some (.ref l), v] ∧ Ex H H' ∧ H' l = some (.lst (nv ((Sd62.spread n 8).take i))))
    ⟨none, by rw [Nat.pow_zero, Nat.div_one]; rfl, e0, upd_same⟩ ?_ ?_⟩
  · rintro i σ H' hi ⟨v, rfl, e, hl'⟩
    refine ⟨_, rfl, Or.inl ⟨rfl, _, SqL.of hl'⟩, ?_⟩
    walk_at "ss"
    refine ⟨l, _, _, rfl, rfl, hl', szt (by rw [nv_length, List.length_take, spread_length]; omega), ?_⟩
    refine ⟨_, rfl, _, _, rfl, rfl, divW (by decide) (by decide), ?_⟩
    refine ⟨some (.int (0 + (i : Int))), ?_, fun c o hc => ?_, ?_⟩
    · show [some (V.int (((n / 256 ^ i : Nat) : Int) / 256)), some (V.ref l), some (V.int (0 + (i : Int)))] = _
      rw [Nat.pow_succ, ← Nat.div_div_eq_div_mul]
      rfl
    · rw [upd_ne (ne_of_none hc hl)]
      exact e c o hc
    · rw [upd_same, spread_more hi, nv_append]
      rfl
  · rintro σ H' ⟨v, rfl, e, hl'⟩
    rw [List.take_of_length_le (by rw [spread_length]; exact Nat.le_refl _)] at hl'
    exact ⟨_, rfl, k l H' hl e hl'⟩
end

def spRowsOf (K : PySem.W.Frag) : Sp := spOf (fun (⟨a, _⟩ : Addr × List Nat) => [.ref a]) fun ⟨a, ns⟩ H Q _ => SqL K H a (nv ns) ∧ ns.length ≤ 10000 ∧ RetL (nv (Sd62.words ns)) H Q
def spNumberIn (K : PySem.W.Frag) : Sp := spOf (fun (⟨a, _⟩ : Addr × List Nat) => [.ref a]) fun ⟨a, ns⟩ H Q _ => SqL K H a (nv ns) ∧ RetV (.int (numOf ns : Int)) H Q
def spNumbersIn (K : PySem.W.Frag) : Sp := spOf (fun (⟨a, _⟩ : Addr × List Nat) => [.ref a]) fun ⟨a, ns⟩ H Q _ => SqL K H a (nv ns) ∧ ns.length ≤ 40000 ∧ RetL (nv (numsOf ns)) H Q
def spNumberCount : Sp := spOf (fun i : Nat => [.int (i : Int)]) fun i H Q _ => isW i ∧ RetV (.int (countOf i : Int)) H Q
def hasAllB (c u : Nat) : Bool := ([1, 2, 4, 32, 64, 128] : List Nat).all fun w => decide (c / w % 2 = 1) || decide (u / w % 2 = 0)
def spHasAll : Sp := spOf (fun (⟨c, u⟩ : Nat × Nat) => [.int (c : Int), .int (u : Int)]) fun ⟨c, u⟩ H Q _ => RetV (.bl (hasAllB c u)) H Q
section
variable {P : Program} {w : World} {K : PySem.W.Frag} {mg : Str → Option Value} {base : Heap} {A : Ad}
theorem map_range_get {α : Type} (l : List α) (d : α) : (List.range l.length).map (fun i => l.getD i d) = l := by
  apply List.ext_getElem?
  intro i
  rw [List.getElem?_map]
  by_cases h : i < l.length
  · rw [List.getElem?_range h, Option.map_some, List.getD_eq_getElem?_getD, List.getElem?_eq_getElem h]
    rfl
  · rw [List.getElem?_eq_none (by rw [List.length_range]; omega), List.getElem?_eq_none (by omega)]
    rfl
theorem words_flat (ns : List Nat) : ((List.range ns.length).map fun i => Sd62.spread (ns.getD i 0) 8).flatten = Sd62.words ns := by
  have e : ((List.range ns.length).map fun i => Sd62.spread (ns.getD i 0) 8) = ns.map fun x => Sd62.spread x 8 := by
    conv => rhs; rw [← map_range_get ns 0]
    rw [List.map_map]
    rfl
  rw [e]
  show _ = ns.flatMap fun x => Sd62.spread x 8
  rw [List.flatMap_def]
theorem ok_rows_of (T : Txt K mg A) : Cal P w K mg base 2 "rows_of" (spRowsOf K) := by
  have c_joined := ok_joined (P := P) (w := w) (base := base) T
  have c_number_row := ok_number_row (P := P) (w := w) (base := base) T
  refine Cal.of T.D_rows_of sc_rows_of (spOf_len fun ⟨_, _⟩ => rfl) fun f cdv A' outer s H vs Q E hr h => ?_
  have nd := sc_rows_of.nd
  obtain ⟨⟨a, ns⟩, rfl, hL, hz, k⟩ := h
  refine ⟨_, (pss_one (ps_ret (pe_c c_joined hr (by decide) rfl (pa_cons (pe_lc (own := [("number", 1)]) (g := gName 1) rfl nd (pi_listK (K := K) rfl (pv 0)) (blkOk_by (own := [("number", 1)]) (N := ["numbers", "number"]) (sc := defScope s_rows_of) (by decide +kernel)) (fun _ _ _ _ _ => by exact (pg_name (i := 1) nd rfl (Or.inl rfl))) (fun _ _ _ _ _ => by exact pts_nil) (fun _ _ _ _ _ => by exact (pe_c c_number_row hr (by decide) rfl (pa_cons (pv 1) pa_nil)))) pa_nil)))), ?_⟩
  refine ⟨_, rfl, a, rfl, ⟨_, hL⟩, fun D hD => ?_⟩
  refine lc_refs (walk_list (K := K) (a := a) (xs := nv ns)) (fun i o => o = .lst (nv (Sd62.spread (ns.getD i 0) 8))) (by rw [nv_length]; omega) hD (fun H' e => Evl.ex_l e hL) ?_ ?_
  · rintro i x H1 H2 R hi e ⟨rfl, hx⟩ k1
    obtain ⟨n, hn, rfl⟩ := nv_get_of hx
    refine ⟨rfl, _, rfl, n, rfl, fun p H4 hp e4 h4 => k1 p _ H4 e4 hp h4 ?_⟩
    rw [List.getD_eq_getElem?_getD, hn]
    rfl
  · intro as H1 e hl hlen hat
    rw [nv_length] at hlen
    refine ⟨⟨D, as, _⟩, rfl, SqL.of hl, rows_of_refs hlen fun i b hb => (hat i b hb).2.2, ?_, ?_⟩
    · rw [words_flat, words_length]
      omega
    · rw [words_flat]
      exact RetL.on k e
theorem ok_number_in (T : Txt K mg A) : Cal P w K mg base 1 "number_in" (spNumberIn K) := by
  refine Cal.of T.D_number_in sc_number_in (spOf_len fun ⟨_, _⟩ => rfl) fun f cdv A' outer s H vs Q E hr h => ?_
  have nd := sc_number_in.nd
  obtain ⟨⟨a, ns⟩, rfl, hL, k⟩ := h
  refine ⟨_, (pss_cons (ps_set (i := 1) nd rfl (Or.inl rfl) pe_int)
 (pss_cons (ps_for PassesOwn.never rfl (pi_revK (K := K) rfl rfl T.b_reversed (pa_cons (pv 0) pa_nil)) (pg_name (i := 2) nd rfl (Or.inl rfl)) (pss_one (ps_set (i := 1) nd rfl (Or.inl rfl) (pe_op op_add (pe_op op_mul (pe_gv rfl T.g_BASE) (pv 1)) (pv 2)))))
 (pss_one (ps_ret (pv 1))))), ?_⟩
  refine ⟨_, rfl, a, _, rfl, hL, for_it (walk_rev (K := K) (a := a) (xs := nv ns)) (fun i σ H' => H' = H ∧ ∃ v : Option V, σ = [some (.ref a), some (.int (numOf (ns.drop (ns.length - i)) : Int)), v])
    ⟨rfl, none, by rw [Nat.sub_zero, List.drop_length]; rfl⟩ (fun i σ H' _ ⟨e, _⟩ => by rw [e]; exact hL) ?_ ?_⟩
  · rintro i x σ H1 H2 hi ⟨rfl, v, rfl⟩ ⟨rfl, hx⟩
    rw [nv_length] at hi hx
    obtain ⟨b, hb, rfl⟩ := nv_get_of hx
    refine ⟨_, rfl, _, _, rfl, rfl, .inl ⟨by decide, by decide⟩, _, rfl, _, _, rfl, rfl, rfl, some (.int (b : Int)), ?_⟩
    have e2 : ns.drop (ns.length - (i + 1)) = b :: ns.drop (ns.length - i) := by
      have h1 : ns.length - (i + 1) < ns.length := by omega
      rw [List.drop_eq_getElem_cons h1, show ns.length - (i + 1) + 1 = ns.length - i by omega]
      have h2 : ns.length - 1 - i = ns.length - (i + 1) := by omega
      rw [h2, List.getElem?_eq_getElem h1] at hb
      rw [Option.some.inj hb]
    rw [e2]
    show [some (V.ref a), some (V.int (256 * ((numOf (ns.drop (ns.length - i)) : Nat) : Int) + (b : Int))), some (V.int (b : Int))] = [some (V.ref a), some (V.int ((b + 256 * numOf (ns.drop (ns.length - i)) : Nat) : Int)), some (V.int (b : Int))]
    rw [show (256 * ((numOf (ns.drop (ns.length - i)) : Nat) : Int) + (b : Int)) = ((b + 256 * numOf (ns.drop (ns.length - i)) : Nat) : Int) by omega]
  · rintro σ H1 ⟨rfl, v, rfl⟩
    rw [nv_length, Nat.sub_self, List.drop_zero]
    exact ⟨_, rfl, k _ (Ex.refl _)⟩
theorem rgc_up {j : Nat} {c : Nat} (hc : 0 < c) (hc2 : c < 1000) (hj : j ≤ 100000) : RgC 0 (j : Int) (c : Int) ((j + c - 1) / c) := by
  have hs : Builtin.Range.rangeSize 0 (j : Int) (c : Int) = (((j + c - 1) / c : Nat) : Int) := by
    unfold Builtin.Range.rangeSize
    rw [if_pos (by omega)]
    by_cases h : j = 0
    · subst h
      rw [if_neg (by omega), Nat.div_eq_of_lt (by omega)]
      rfl
    · rw [if_pos (by omega)]
      have e1 : (j : Int) - 0 - 1 = ((j - 1 : Nat) : Int) := by omega
      have e2 : j + c - 1 = (j - 1) + c := by omega
      rw [e1, e2, Nat.add_div_right _ hc]
      rfl
  have hb : (j + c - 1) / c ≤ j + c - 1 := Nat.div_le_self _ _
  generalize (j + c - 1) / c = q at hb hs ⊢
  refine ⟨by omega, by omega, ?_, hs⟩
  unfold Builtin.Range.small
  rw [hs]
  unfold Builtin.Range.rangeFitsLong
  rw [if_pos (by omega)]
  simp only [Bool.and_eq_true, Bool.or_eq_true, decide_eq_true_eq]
  omega
theorem ok_numbers_in (T : Txt K mg A) : Cal P w K mg base 2 "numbers_in" (spNumbersIn K) := by
  have c_number_in := ok_number_in (P := P) (w := w) (base := base) T
  refine Cal.of T.D_numbers_in sc_numbers_in (spOf_len fun ⟨_, _⟩ => rfl) fun f cdv A' outer s H vs Q E hr h => ?_
  have nd := sc_numbers_in.nd
  obtain ⟨⟨a, ns⟩, rfl, hL, hz, k⟩ := h
  refine ⟨_, (pss_one (ps_ret (pe_lc (own := [("at", 1)]) (g := gName 1) rfl nd (pi_range3 rfl T.b_range (pa_cons pe_int (pa_cons (pe_callB (call_lenK (K := K) rfl) (by rfl) T.b_len PySem.boot_len (pa_cons (pv 0) pa_nil)) (pa_cons (pe_gv rfl T.g_WORD_SIZE) pa_nil)))) (blkOk_by (own := [("at", 1)]) (N := ["row", "at"]) (sc := defScope s_numbers_in) (by decide +kernel)) (fun _ _ _ _ _ => by exact (pg_name (i := 1) nd rfl (Or.inl rfl))) (fun _ _ _ _ _ => by exact pts_nil) (fun _ _ _ _ _ => by exact (pe_c c_number_in hr (by decide) rfl (pa_cons (pe_slice (sl_listK (K := K) rfl) (pv 0) (po_some (pv 1)) (po_some (pe_op op_add (pv 1) (pe_gv rfl T.g_WORD_SIZE)))) pa_nil)))))), ?_⟩
  refine ⟨_, rfl, a, _, rfl, .inl hL, 0, _, 8, (ns.length + 7) / 8, rfl, ?_, fun D hD => ?_⟩
  · rw [nv_length]
    exact rgc_up (j := ns.length) (c := 8) (by decide) (by decide) (by omega)
  refine lc_vals (walk_rangeC (lo := 0) (c := 8)) (fun _ => true) (fun i => .int (numOf ((ns.drop (8 * i)).take 8) : Int)) (by omega) hD (fun _ _ => trivial) ?_ ?_
  · rintro i x H1 H2 R S hi e ⟨rfl, rfl⟩ k1 _
    refine ⟨rfl, ?_⟩
    refine ⟨_, rfl, _, rfl, _, rfl, _, rfl, _, _, rfl, rfl, _, rfl, a, _, rfl, Evl.ex_l e hL, fun p hp => ?_⟩
    have e2 : cutV (nv ns) (some (0 + ((i : Nat) : Int) * 8)) (some (0 + ((i : Nat) : Int) * 8 + 8)) = nv ((ns.drop (8 * i)).take 8) := by
      have a1 : (0 + ((i : Nat) : Int) * 8) = ((8 * i : Nat) : Int) := by omega
      have a2 : (0 + ((i : Nat) : Int) * 8 + 8) = ((8 * i + 8 : Nat) : Int) := by omega
      rw [a1, show ((8 * i : Nat) : Int) + 8 = ((8 * i + 8 : Nat) : Int) by omega, cut_nn, nv_drop, nv_take, show 8 * i + 8 - 8 * i = 8 by omega]
    refine laid (G := fun H' => spNumberIn K [.ref p] H' R E0) hp fun H3 e3 h3 => ?_
    rw [e2] at h3
    exact ⟨⟨p, _⟩, rfl, SqL.of h3, fun H4 e4 => k1 rfl H4 (e3.trans e4)⟩
  · intro H1 e hl
    rw [given_all] at hl
    refine k D H1 hD e ?_
    rw [hl]
    unfold numsOf nv
    rw [List.map_map]
    rfl
theorem ok_number_count (T : Txt K mg A) : Cal P w K mg base 2 "number_count" spNumberCount := by
  have c_lanes_of := ok_lanes_of (P := P) (w := w) (base := base) T
  refine Cal.of T.D_number_count sc_number_count (spOf_len fun _ => rfl) fun f cdv A' outer s H vs Q E hr h => ?_
  have nd := sc_number_count.nd
  obtain ⟨n, rfl, hn, k⟩ := h
  refine ⟨_, (pss_cons (ps_if (pt_cmpR (op_inK (K := K) rfl) (pv 0) (pe_tup (pa_cons (pe_gv rfl T.g_BASIC) (pa_cons (pe_gv rfl T.g_MASKS) pa_nil))) (by rfl)) (pss_one (ps_ret (pe_gv rfl T.g_M_COUNT))) pss_nil)
 (pss_cons (ps_if (pt_cmpR op_eq (pv 0) (pe_gv rfl T.g_HIGH_VECTORS) (nomark _)) (pss_one (ps_ret (pe_op op_mul (pe_gv rfl T.g_LANES) (pe_op op_sub (pe_gv rfl T.g_V_COUNT) (pe_gv rfl T.g_LOW_COUNT))))) pss_nil)
 (pss_cons (ps_asg (pe_c c_lanes_of hr (by decide) rfl (pa_cons (pv 0) pa_nil)) (pg_tupK (K := K) rfl rfl (pgs_cons (pg_name (i := 1) nd rfl (Or.inl rfl)) (pgs_cons (pg_name (i := 2) nd rfl (Or.inl rfl)) pgs_nil))))
 (pss_one (ps_ret (pe_op op_mul (pe_gv rfl T.g_LOW_COUNT) (pe_op op_sub (pv 2) (pv 1)))))))), ?_⟩
  walk_at "ss"
  intro p hp
  refine ⟨p, _, rfl, .inr (SqT.of upd_same), rfl, rfl, _, rfl, ?_⟩
  have e1 : Ex H (upd H p (.tup [V.int 1, V.int 32])) := Ex.new hp
  generalize upd H p (.tup [V.int 1, V.int 32]) = H1 at e1 ⊢
  refine ifB (fun c => ?_) fun c => ?_
  · have c' := (inV2 (n := n) (a := 1) (b := 32)).symm.trans c
    have h1 := of_decide_eq_true c'
    have h2 : countOf n = 8 := if_pos h1
    rw [h2] at k
    exact RetV.on k e1 _ (Ex.refl _)
  · have c' := (inV2 (n := n) (a := 1) (b := 32)).symm.trans c
    have h1 := of_decide_eq_false c'
    walk_at "ss"
    refine ifEq (fun c2 => ?_) fun c2 => ?_
    · have h2 : n = 128 := by omega
      subst h2
      walk_at "ss"
      exact RetV.on k e1 _ (Ex.refl _)
    · refine ⟨_, rfl, n, rfl, ?_, fun q H2 e2 hq h2 => ?_⟩
      · unfold isW at hn
        omega
      refine ⟨q, _, rfl, SqT.of h2, rfl, _, _, rfl, _, _, rfl, rfl, ?_⟩
      walk_at "ss"
      have h4 : countOf n = 16 * (lstL n - fstL n) := by
        unfold countOf
        rw [if_neg h1, if_neg (by omega)]
      have h5 : fstL n ≤ lstL n := by
        unfold fstL lstL
        split
        · decide
        · split <;> decide
      rw [h4] at k
      have h6 : (16 : Int) * ((lstL n : Int) - (fstL n : Int)) = ((16 * (lstL n - fstL n) : Nat) : Int) := by omega
      show Q (V.int ((16 : Int) * ((lstL n : Int) - (fstL n : Int)))) H2
      rw [h6]
      exact RetV.on k e1 _ e2
theorem ok_has_all (T : Txt K mg A) : Cal P w K mg base 1 "has_all" spHasAll := by
  refine Cal.of T.D_has_all sc_has_all (spOf_len fun ⟨_, _⟩ => rfl) fun f cdv A' outer s H vs Q E hr h => ?_
  have nd := sc_has_all.nd
  obtain ⟨⟨c, u⟩, rfl, k⟩ := h
  refine ⟨_, (pss_one (ps_ret (pe_callB (cr_allK (K := K) rfl rfl) (by rfl) T.b_all (by decide +kernel) (pa_cons (pe_lc (own := [("weight", 2)]) (g := gName 2) rfl nd (pi_tupK (K := K) rfl (pe_gv rfl T.g_WEIGHTS)) (blkOk_by (own := [("weight", 2)]) (N := ["components", "used", "weight"]) (sc := defScope s_has_all) (by decide +kernel)) (fun _ _ _ _ _ => by exact (pg_name (i := 2) nd rfl (Or.inl rfl))) (fun _ _ _ _ _ => by exact pts_nil) (fun _ _ _ _ _ => by exact (pe_or (pe_cmpR op_eq (pe_op op_mod (pe_op op_fdivW (pv 0) (pv 2)) pe_int) pe_int (nomark _)) (pe_one (pe_cmpR op_eq (pe_op op_mod (pe_op op_fdivW (pv 1) (pv 2)) pe_int) pe_int (nomark _)))))) pa_nil)))), ?_⟩
  refine ⟨_, rfl, ⟨_, T.t_WEIGHTS H⟩, fun D hD => ?_⟩
  refine lc_vals (walk_tup (K := K) (a := A.aWEIGHTS) (xs := nv [1, 2, 4, 32, 64, 128])) (fun _ => true) (fun i => .bl (let wt := ([1, 2, 4, 32, 64, 128] : List Nat).getD i 0; decide (c / wt % 2 = 1) || decide (u / wt % 2 = 0))) (by decide) hD (fun H' e => T.t_WEIGHTS H') ?_ ?_
  · rintro i x H1 H2 R S hi e ⟨rfl, hx⟩ k1 _
    obtain ⟨wt, hw, rfl⟩ := nv_get_of hx
    have hwt : 0 < wt ∧ wt ≤ 128 := by
      have h := List.mem_of_getElem? hw
      have h2 : wt = 1 ∨ wt = 2 ∨ wt = 4 ∨ wt = 32 ∨ wt = 64 ∨ wt = 128 := by simpa using h
      omega
    have eg : ([1, 2, 4, 32, 64, 128] : List Nat).getD i 0 = wt := by rw [List.getD_eq_getElem?_getD, hw]; rfl
    have k2 := k1 rfl H2 (Ex.refl _)
    simp only [eg] at k2
    refine ⟨rfl, ?_⟩
    walk_at "ss"
    refine ifEq (fun c1 => ?_) fun c1 => ?_
    · have h1 : c / wt % 2 = 1 := by
        have h2 : (((c / wt % 2 : Nat) : Int)) = 1 := c1
        omega
      rw [decide_eq_true h1] at k2
      exact k2
    · have h1 : ¬ c / wt % 2 = 1 := fun z => c1 (by show (((c / wt % 2 : Nat) : Int)) = 1; rw [z]; rfl)
      rw [decide_eq_false h1, Bool.false_or] at k2
      walk_at "ss"
      show R (V.bl (decide (V.int ((u : Int) / (wt : Int) % 2) = V.int 0))) H2
      rw [dInt]
      have h3 : decide ((u : Int) / (wt : Int) % 2 = 0) = decide (u / wt % 2 = 0) := by
        have h4 : ((u : Int) / (wt : Int) % 2) = ((u / wt % 2 : Nat) : Int) := rfl
        rw [h4]
        exact decide_eq_decide.mpr (by omega)
      rw [h3]
      exact k2
  · intro H1 e hl
    rw [given_all] at hl
    refine ⟨D, (List.range 6).map fun i => (let wt := ([1, 2, 4, 32, 64, 128] : List Nat).getD i 0; decide (c / wt % 2 = 1) || decide (u / wt % 2 = 0)), rfl, SqL.of (hl.trans ?_), ?_⟩
    · rw [List.map_map]
      rfl
    · have e2 : ((List.range 6).map fun i => (let wt := ([1, 2, 4, 32, 64, 128] : List Nat).getD i 0; decide (c / wt % 2 = 1) || decide (u / wt % 2 = 0))).all id = hasAllB c u := rfl
      rw [e2]
      exact RetV.on (v := .bl (hasAllB c u)) k e _ (Ex.refl _)
end
end VP

/-! ### states in the heap -/
namespace VP
open PySem PySem.Spec PyProof.Rows L2
open Evl (Ex RetL RetV)
structure Apart (f : Foot) : Prop where
  wv : f.wa ≠ f.va
  wk : f.wa ≠ f.ka
  vk : f.va ≠ f.ka
  rw : ∀ r ∈ f.rows, r ≠ f.wa ∧ r ≠ f.va ∧ r ≠ f.ka
structure Free (H0 : Hp) (f : Foot) : Prop where
  a : H0 f.a = none
  wa : H0 f.wa = none
  va : H0 f.va = none
  ka : H0 f.ka = none
  rows : ∀ r ∈ f.rows, H0 r = none
/-- a state at a: all of it stands outside H0, and what H0 knows stands in H -/
structure StAt (C : Addr) (H0 H : Hp) (a : Addr) (s : Sd62.St) : Prop where
  ex : ∃ f : Foot, f.a = a ∧ StC C H f s ∧ Apart f ∧ Free H0 f
  sm : Ex H0 H
  wf : Wf s
theorem Free.less {H0 H1 : Hp} {f : Foot} (h : Free H1 f) (e : Ex H0 H1) : Free H0 f := ⟨Evl.fresh_back e h.a, Evl.fresh_back e h.wa, Evl.fresh_back e h.va, Evl.fresh_back e h.ka, fun r hr => Evl.fresh_back e (h.rows r hr)⟩
theorem StAt.mono {C : Addr} {H0 H H' : Hp} {a : Addr} {s : Sd62.St} (h : StAt C H0 H a s) (e : Ex H H') : StAt C H0 H' a s := by
  obtain ⟨f, h1, h2, h3, h4⟩ := h.ex
  exact ⟨⟨f, h1, h2.mono e, h3, h4⟩, h.sm.trans e, h.wf⟩
theorem StAt.less {C : Addr} {H0 H1 H : Hp} {a : Addr} {s : Sd62.St} (h : StAt C H1 H a s) (e : Ex H0 H1) : StAt C H0 H a s := by
  obtain ⟨f, h1, h2, h3, h4⟩ := h.ex
  exact ⟨⟨f, h1, h2, h3, h4.less e⟩, e.trans h.sm, h.wf⟩
/-- H0 and all that was laid since H -/
def grow (H0 H H1 : Hp) : Hp := fun b => if (H b).isSome then H0 b else H1 b
theorem grow_old {H0 H H1 : Hp} (e : Ex H0 H) : Ex H0 (grow H0 H H1) := fun b o h => by
  unfold grow
  rw [if_pos (by rw [e b o h]; rfl)]
  exact h
theorem grow_in {H0 H H1 : Hp} (e : Ex H0 H) (e1 : Ex H H1) : Ex (grow H0 H H1) H1 := fun b o h => by
  unfold grow at h
  split at h
  · exact e1 b o (e b o h)
  · exact h
theorem grow_new {H0 H H1 : Hp} {p : Addr} {o : HO} (hp : H p = none) (h : H1 p = some o) : grow H0 H H1 p = some o := by
  unfold grow
  rw [if_neg (by rw [hp]; decide)]
  exact h
theorem StAt.grow {C : Addr} {H0 H H1 : Hp} {a : Addr} {s : Sd62.St} (h : StAt C H0 H a s) (e : Ex H H1) : StAt C (grow H0 H H1) H1 a s := by
  obtain ⟨f, h1, h2, h3, h4⟩ := h.ex
  have key : ∀ {b : Addr} {o : HO}, H b = some o → H0 b = none → VP.grow H0 H H1 b = none := fun {b o} k n => by
    unfold VP.grow
    rw [if_pos (by rw [k]; rfl)]
    exact n
  refine ⟨⟨f, h1, h2.mono e, h3, key h2.ins h4.a, key h2.wl h4.wa, key h2.vl h4.va, key h2.kl h4.ka, fun r hr => ?_⟩, grow_in h.sm e, h.wf⟩
  obtain ⟨i, hi⟩ := List.mem_iff_getElem?.mp hr
  obtain ⟨xs, _, hx⟩ := h2.rw.at hi
  exact key hx (h4.rows r hr)
def spStateInit (C : Addr) : Sp := spOf (fun (⟨_, p, _⟩ : Hp × Addr × Addr) => [.ref p]) fun ⟨H0, p, dx⟩ H Q _ =>
  Ex H0 H ∧ H0 p = none ∧ H p = some (.ins C dx []) ∧ ∀ H', StAt C H0 H' p Sd62.fresh → Q .non H'
theorem mk_state {C : Addr} {σ : L2.St} {H : Hp} {Q : VK} (h : ∀ x H2, StAt C H H2 x Sd62.fresh → Q (.ref x) H2) : tMk0 C (spStateInit C) σ H Q := fun x dx hx hdx ne =>
  ⟨⟨H, x, dx⟩, rfl, (Ex.new hdx).trans (Ex.new (by rw [upd_ne (Ne.symm ne)]; exact hx)), hx, upd_same, fun H' hs => ⟨rfl, h x H' hs⟩⟩
def spPart (C : Addr) : Sp := spOf (fun (⟨f, _, n⟩ : Foot × Sd62.St × Nat) => [.ref f.a, .int (n : Int)]) fun ⟨f, s, n⟩ H Q _ => StC C H f s ∧ Wf s ∧ isW n ∧ RetL (nv (partOf s n)) H Q
def spUsed (C : Addr) : Sp := spOf (fun (⟨f, _⟩ : Foot × Sd62.St) => [.ref f.a]) fun ⟨f, s⟩ H Q _ => StC C H f s ∧ Wf s ∧ RetV (.int (Sd62.used s : Int)) H Q
section
variable {P : Program} {w : World} {K : PySem.W.Frag} {mg : Str → Option Value} {base : Heap} {A : Ad}
theorem ok_State (T : Txt K mg A) : Mak P w K mg base 1 "State" A.cState (spStateInit A.cState) := by
  refine Mak.of T.D_State___init__ sc_State___init__ (spOf_len fun ⟨_, _, _⟩ => rfl) fun f cdv A' outer s H vs Q E hr h => ?_
  have nd := sc_State___init__.nd
  obtain ⟨⟨H0, p, dx⟩, rfl, e0, hp0, hp, k⟩ := h
  refine ⟨_, (pss_cons (ps_fld (pv 0) (pe_op op_rep (pe_lst (pa_cons pe_int pa_nil)) (pe_gv rfl T.g_M_COUNT)) rfl)
 (pss_cons (ps_fld (pv 0) (pe_lc (own := [("at", 1)]) (g := gName 1) rfl nd (pi_range1 rfl T.b_range (pa_cons (pe_gv rfl T.g_V_COUNT) pa_nil)) (blkOk_by (own := [("at", 1)]) (N := ["self", "at"]) (sc := defScope s_State___init__) (by decide +kernel)) (fun _ _ _ _ _ => by exact (pg_name (i := 1) nd rfl (Or.inl rfl))) (fun _ _ _ _ _ => by exact pts_nil) (fun _ _ _ _ _ => by exact (pe_op op_rep (pe_lst (pa_cons pe_int pa_nil)) (pe_gv rfl T.g_LANES)))) rfl)
 (pss_one (ps_fld (pv 0) (pe_op op_rep (pe_lst (pa_cons pe_int pa_nil)) (pe_gv rfl T.g_K_COUNT)) rfl)))), ?_⟩
  refine ⟨by decide, fun q hq => ⟨q, 8, _, rfl, rfl, upd_same, by decide, by decide, by decide, fun wa hwa => ?_⟩⟩
  have e1 : Ex H (upd (upd H q (.lst [V.int 0])) wa (.lst (List.replicate (8 : Int).toNat [V.int 0]).flatten)) := (Ex.new hq).trans (Ex.new hwa)
  have hwl : upd (upd H q (.lst [V.int 0])) wa (.lst (List.replicate (8 : Int).toNat [V.int 0]).flatten) wa = some (.lst (nv (List.replicate 8 0))) := upd_same
  have wf := Evl.fresh_back (Ex.new hq) hwa
  generalize upd (upd H q (.lst [V.int 0])) wa (.lst (List.replicate (8 : Int).toNat [V.int 0]).flatten) = H1 at e1 hwl ⊢
  have npw : p ≠ wa := ne_of_none hp wf
  refine ⟨_, rfl, p, A.cState, dx, [], rfl, e1 _ _ hp, T.cl_State, T.n_State_words, by decide, ?_⟩
  have e2 : Ex H0 (upd H1 p (.ins A.cState dx (putF "words" (.ref wa) []))) := Evl.Ex.mut (e0.trans e1) hp0
  have hp2 : upd H1 p (.ins A.cState dx (putF "words" (.ref wa) [])) p = some (.ins A.cState dx (putF "words" (.ref wa) [])) := upd_same
  have hw2 : upd H1 p (.ins A.cState dx (putF "words" (.ref wa) [])) wa = some (.lst (nv (List.replicate 8 0))) := by rw [upd_ne npw.symm]; exact hwl
  generalize upd H1 p (.ins A.cState dx (putF "words" (.ref wa) [])) = H2 at e2 hp2 hw2 ⊢
  refine ⟨32, rfl, by decide, by decide, fun va hva => ?_⟩
  refine lc_refs (walk_range (lo := 0) (n := 32)) (fun _ o => o = .lst (nv (List.replicate 8 0))) (by decide) hva (fun _ _ => trivial) ?_ ?_
  · rintro i x H3 H4 R hi e ⟨rfl, rfl⟩ k1
    refine ⟨rfl, by decide, fun q hq => ⟨q, 8, _, rfl, rfl, upd_same, by decide, by decide, by decide, fun r hr => ?_⟩⟩
    exact k1 r _ _ ((Ex.new hq).trans (Ex.new hr)) (Evl.fresh_back (Ex.new hq) hr) upd_same rfl
  · intro rows H3 e3 hv3 hlen hat
    have npv : p ≠ va := ne_of_none hp2 hva
    have nwv : wa ≠ va := ne_of_none hw2 hva
    have hp3 := e3 _ _ hp2
    refine ⟨_, rfl, p, A.cState, dx, _, rfl, hp3, T.cl_State, T.n_State_vectors, Nat.lt_of_le_of_lt (length_putF _ _ _) (by decide), ?_⟩
    have e4 : Ex H0 (upd H3 p (.ins A.cState dx (putF "vectors" (.ref va) (putF "words" (.ref wa) [])))) := Evl.Ex.mut (e2.trans e3) hp0
    have oth : ∀ b o, b ≠ p → H3 b = some o → upd H3 p (.ins A.cState dx (putF "vectors" (.ref va) (putF "words" (.ref wa) []))) b = some o := fun b o hb h => by rw [upd_ne hb]; exact h
    have hp4 : upd H3 p (.ins A.cState dx (putF "vectors" (.ref va) (putF "words" (.ref wa) []))) p = some (.ins A.cState dx (putF "vectors" (.ref va) (putF "words" (.ref wa) []))) := upd_same
    generalize upd H3 p (.ins A.cState dx (putF "vectors" (.ref va) (putF "words" (.ref wa) []))) = H4 at e4 hp4 oth ⊢
    have hw4 := oth wa _ npw.symm (e3 _ _ hw2)
    have hv4 := oth va _ npv.symm hv3
    have hr4 : ∀ (i : Nat) (a : Addr), rows[i]? = some a → H2 a = none ∧ a ≠ va ∧ H4 a = some (.lst (nv (List.replicate 8 0))) := fun i a ha => by
      obtain ⟨h1, h2, o, h3, rfl⟩ := hat i a ha
      exact ⟨h1, h2, oth a _ (fun z => by rw [z] at h1; rw [hp2] at h1; cases h1) h3⟩
    refine ⟨by decide, fun q hq => ⟨q, 8, _, rfl, rfl, upd_same, by decide, by decide, by decide, fun ka hka => ?_⟩⟩
    have e5 : Ex H4 (upd (upd H4 q (.lst [V.int 0])) ka (.lst (List.replicate (8 : Int).toNat [V.int 0]).flatten)) := (Ex.new hq).trans (Ex.new hka)
    have hkl : upd (upd H4 q (.lst [V.int 0])) ka (.lst (List.replicate (8 : Int).toNat [V.int 0]).flatten) ka = some (.lst (nv (List.replicate 8 0))) := upd_same
    have kf := Evl.fresh_back (Ex.new hq) hka
    generalize upd (upd H4 q (.lst [V.int 0])) ka (.lst (List.replicate (8 : Int).toNat [V.int 0]).flatten) = H5 at e5 hkl ⊢
    have npk : p ≠ ka := ne_of_none hp4 kf
    refine ⟨_, rfl, p, A.cState, dx, _, rfl, e5 _ _ hp4, T.cl_State, T.n_State_masks, Nat.lt_of_le_of_lt (Nat.le_trans (length_putF _ _ _) (Nat.succ_le_succ (length_putF _ _ _))) (by decide), ?_⟩
    let ft : Foot := ⟨p, dx, wa, va, ka, rows⟩
    have hfs : putF "masks" (.ref ka) (putF "vectors" (.ref va) (putF "words" (.ref wa) [])) = sF ft := sF_new ft
    have oth2 : ∀ b o, b ≠ p → H5 b = some o → upd H5 p (.ins A.cState dx (putF "masks" (.ref ka) (putF "vectors" (.ref va) (putF "words" (.ref wa) [])))) b = some o := fun b o hb h => by rw [upd_ne hb]; exact h
    refine k _ ⟨⟨ft, rfl, ⟨by rw [hfs]; exact upd_same, oth2 _ _ npw.symm (e5 _ _ hw4), oth2 _ _ npv.symm (e5 _ _ hv4), oth2 _ _ npk.symm hkl, ?_⟩, ⟨nwv, ne_of_none hw4 kf, ne_of_none hv4 kf, fun r hr => ?_⟩, ⟨hp0, Evl.fresh_back e0 wf, Evl.fresh_back e2 hva, Evl.fresh_back e4 kf, fun r hr => ?_⟩⟩, Evl.Ex.mut (e4.trans e5) hp0, fresh_wf⟩
    · refine ⟨hlen, fun i a xs h1 h2 => ?_⟩
      obtain ⟨g1, g2, g3⟩ := hr4 i a h1
      have hx : xs = List.replicate 8 0 := by
        have hi : i < rows.length := (List.getElem?_eq_some_iff.mp h1).1
        rw [show Sd62.fresh.v = List.replicate 32 (List.replicate 8 0) from rfl, List.getElem?_replicate, if_pos (by omega)] at h2
        exact (Option.some.inj h2).symm
      rw [hx]
      exact oth2 a _ (fun z => by rw [z, hp2] at g1; cases g1) (e5 _ _ g3)
    · obtain ⟨i, hi⟩ := List.mem_iff_getElem?.mp hr
      obtain ⟨g1, g2, g3⟩ := hr4 i r hi
      exact ⟨fun z => (by rw [z, hw2] at g1; cases g1), g2, ne_of_none g3 kf⟩
    · obtain ⟨i, hi⟩ := List.mem_iff_getElem?.mp hr
      exact Evl.fresh_back e2 (hr4 i r hi).1
theorem ok_part (T : Txt K mg A) : Met P w K mg base 2 A.cState "part" (spPart A.cState) := by
  have c_joined := ok_joined (P := P) (w := w) (base := base) T
  have c_lanes_of := ok_lanes_of (P := P) (w := w) (base := base) T
  refine Met.of T.D_State_part sc_State_part (spOf_len fun ⟨_, _, _⟩ => rfl) fun f cdv A' outer s H vs Q E hr h => ?_
  have nd := sc_State_part.nd
  obtain ⟨⟨f, st, n⟩, hv, hc, wf, hw, k⟩ := h
  obtain rfl : vs = [V.ref f.a, V.int (n : Int)] := hv
  have ins := hc.ins
  have hwl := hc.wl
  have hkl := hc.kl
  have hvl := hc.vl
  refine ⟨_, (pss_cons (ps_if (pt_cmpR op_eq (pv 1) (pe_gv rfl T.g_BASIC) (nomark _)) (pss_one (ps_ret (pe_callTy (call_listK (K := K) rfl) (by rfl) T.b_list (by decide +kernel) (pa_cons (pe_fldK (K := K) rfl (pv 0) rfl) pa_nil)))) pss_nil)
 (pss_cons (ps_if (pt_cmpR op_eq (pv 1) (pe_gv rfl T.g_MASKS) (nomark _)) (pss_one (ps_ret (pe_callTy (call_listK (K := K) rfl) (by rfl) T.b_list (by decide +kernel) (pa_cons (pe_fldK (K := K) rfl (pv 0) rfl) pa_nil)))) pss_nil)
 (pss_cons (ps_if (pt_cmpR op_eq (pv 1) (pe_gv rfl T.g_HIGH_VECTORS) (nomark _)) (pss_one (ps_ret (pe_c c_joined hr (by decide) rfl (pa_cons (pe_slice (sl_listK (K := K) rfl) (pe_fldK (K := K) rfl (pv 0) rfl) (po_some (pe_gv rfl T.g_LOW_COUNT)) po_none) pa_nil)))) pss_nil)
 (pss_cons (ps_asg (pe_c c_lanes_of hr (by decide) rfl (pa_cons (pv 1) pa_nil)) (pg_tupK (K := K) rfl rfl (pgs_cons (pg_name (i := 2) nd rfl (Or.inr rfl)) (pgs_cons (pg_name (i := 3) nd rfl (Or.inr rfl)) pgs_nil))))
 (pss_one (ps_ret (pe_c c_joined hr (by decide) rfl (pa_cons (pe_lc (own := [("lanes", 4)]) (g := gName 4) rfl nd (pi_listK (K := K) rfl (pe_slice (sl_listK (K := K) rfl) (pe_fldK (K := K) rfl (pv 0) rfl) po_none (po_some (pe_gv rfl T.g_LOW_COUNT)))) (blkOk_by (own := [("lanes", 4)]) (N := ["self", "weight", "first", "last", "lanes"]) (sc := defScope s_State_part) (by decide +kernel)) (fun _ _ _ _ _ => by exact (pg_name (i := 4) nd rfl (Or.inl rfl))) (fun _ _ _ _ _ => by exact pts_nil) (fun _ _ _ _ _ => by exact (pe_slice (sl_listK (K := K) rfl) (pv 4) (po_some (pv 2)) (po_some (pv 3))))) pa_nil)))))))), ?_⟩
  walk_at "ss"
  refine ifEq (fun c => ?_) fun c => ?_
  · have hn : n = 1 := by omega
    subst hn
    walk_at "ss"
    exact ⟨_, _, rfl, .inl (SqL.of hwl), fun l hl => k l _ hl (Ex.new hl) upd_same⟩
  walk_at "ss"
  refine ifEq (fun c2 => ?_) fun c2 => ?_
  · have hn : n = 32 := by omega
    subst hn
    walk_at "ss"
    exact ⟨_, _, rfl, .inl (SqL.of hkl), fun l hl => k l _ hl (Ex.new hl) upd_same⟩
  walk_at "ss"
  refine ifEq (fun c3 => ?_) fun c3 => ?_
  · have hn : n = 128 := by omega
    subst hn
    walk_at "ss"
    refine ⟨_, _, rfl, SqL.of hvl, fun p hp => ?_⟩
    refine laid (G := fun H' => spJoined K [.ref p] H' Q E0) hp fun H1 e1 h1 => ?_
    have e2 : cutV (f.rows.map V.ref) (some 16) none = (f.rows.drop 16).map V.ref := (cut_from _ 16).trans List.map_drop.symm
    rw [e2] at h1
    have hl : (st.v.drop 16).flatten.length ≤ 100000 := by
      rw [flat_len (k := 8) (fun l hl => wf.row l (List.mem_of_mem_drop hl)), List.length_drop, wf.v32]
      decide
    exact ⟨⟨p, f.rows.drop 16, st.v.drop 16⟩, rfl, SqL.of h1, (hc.rw.mono e1).skip 16, hl, RetL.on k e1⟩
  · have hn : n = 2 ∨ n = 4 ∨ n = 64 := by
      unfold isW at hw
      omega
    refine ⟨_, rfl, n, rfl, hn, fun q H1 e1 hq h1 => ?_⟩
    refine ⟨q, _, rfl, SqT.of h1, rfl, _, _, rfl, _, _, rfl, rfl, ?_⟩
    have ins1 := e1 _ _ ins
    walk_at "ss"
    refine ⟨_, _, rfl, SqL.of (e1 _ _ hvl), fun p hp => ?_⟩
    have e2 : cutV (f.rows.map V.ref) none (some 16) = (f.rows.take 16).map V.ref := (cut_to _ 16).trans List.map_take.symm
    rw [e2]
    have e3 : Ex H1 (upd H1 p (.lst ((f.rows.take 16).map V.ref))) := Ex.new hp
    have h2 : upd H1 p (.lst ((f.rows.take 16).map V.ref)) p = some (.lst ((f.rows.take 16).map V.ref)) := upd_same
    generalize upd H1 p (.lst ((f.rows.take 16).map V.ref)) = H2 at e3 h2 ⊢
    refine ⟨p, rfl, ⟨_, SqL.of h2⟩, fun D hD => ?_⟩
    have hR := (hc.rw.mono (e1.trans e3)).cut 16
    have h16 : f.rows.length = 32 := hc.rw.1.trans wf.v32
    refine lc_refs (walk_list (K := K) (a := p) (xs := (f.rows.take 16).map V.ref)) (fun i o => o = .lst (nv ((((st.v.take 16).getD i []).drop (fstL n)).take (lstL n - fstL n)))) (by rw [List.length_map, List.length_take]; omega) hD (fun H' e => Evl.ex_l e (SqL.of h2)) ?_ ?_
    · rintro i x H3 H4 R hi e ⟨rfl, hx⟩ k1
      rw [List.getElem?_map] at hx
      cases hb : (f.rows.take 16)[i]? with
      | none => rw [hb] at hx; cases hx
      | some b =>
        rw [hb] at hx
        obtain rfl : V.ref b = x := Option.some.inj hx
        obtain ⟨xs, h4, h5⟩ := hR.at hb
        have h6 := e _ _ h5
        refine ⟨rfl, ?_⟩
        walk_at "ss"
        refine ⟨_, _, rfl, SqL.of h6, fun r hr => k1 r _ _ (Ex.new hr) hr upd_same ?_⟩
        show HO.lst (cutV (nv xs) (some (fstL n : Int)) (some (lstL n : Int))) = _
        rw [cut_nn, nv_drop, nv_take, List.getD_eq_getElem?_getD, h4]
        rfl
    · intro as H3 e4 hl hlen hat
      have hlen2 : as.length = 16 := by rw [hlen, List.length_map, List.length_take]; omega
      have hlv : (st.v.take 16).length = 16 := by rw [List.length_take, wf.v32]; rfl
      have hp1 : partOf st n = ((List.range 16).map fun i => (((st.v.take 16).getD i []).drop (fstL n)).take (lstL n - fstL n)).flatten := by
        have h7 : ((List.range 16).map fun i => (((st.v.take 16).getD i []).drop (fstL n)).take (lstL n - fstL n)) = (st.v.take 16).map fun l => (l.drop (fstL n)).take (lstL n - fstL n) := by
          conv => rhs; rw [← map_range_get (st.v.take 16) []]
          rw [List.map_map, hlv]
          rfl
        rw [h7]
        unfold partOf
        rw [if_neg (by omega), if_neg (by omega), if_neg (by omega)]
      refine ⟨⟨D, as, _⟩, rfl, SqL.of hl, rows_of_refs hlen2 fun i b hb => (hat i b hb).2.2, ?_, ?_⟩
      · rw [← hp1, part_len wf hw]
        unfold countOf fstL lstL
        rcases hn with rfl | rfl | rfl <;> decide
      · rw [← hp1]
        exact RetL.on k (e1.trans (e3.trans e4))
theorem some0_any (l : List Nat) : ((List.range l.length).map fun i => decide (l.getD i 0 ≠ 0)).any id = Sd62.some0 l := by
  have e : ((List.range l.length).map fun i => decide (l.getD i 0 ≠ 0)) = l.map fun x => decide (x ≠ 0) := by
    conv => rhs; rw [← map_range_get l 0]
    rw [List.map_map]
    rfl
  rw [e, List.any_map]
  unfold Sd62.some0
  congr 1
  funext x
  by_cases h : x = 0
  · subst h; rfl
  · show decide (x ≠ 0) = (x != 0)
    rw [decide_eq_true h]
    exact (bne_iff_ne.mpr h).symm
theorem ok_used (T : Txt K mg A) : Met P w K mg base 3 A.cState "used" (spUsed A.cState) := by
  have c_State_part := ok_part (P := P) (w := w) (base := base) T
  refine Met.of T.D_State_used sc_State_used (spOf_len fun ⟨_, _⟩ => rfl) fun f cdv A' outer s H vs Q E hr h => ?_
  have nd := sc_State_used.nd
  obtain ⟨⟨f, st⟩, hv, hc, wf, k⟩ := h
  obtain rfl : vs = [V.ref f.a] := hv
  refine ⟨_, (pss_one (ps_ret (pe_callB (cr_sumK (K := K) rfl rfl) (by rfl) T.b_sum (by decide +kernel) (pa_cons (pe_lc (own := [("weight", 1)]) (g := gName 1) rfl nd (pi_tupK (K := K) rfl (pe_gv rfl T.g_WEIGHTS)) (blkOk_by (own := [("weight", 1)]) (N := ["self", "weight", "number"]) (sc := defScope s_State_used) (by decide +kernel)) (fun _ _ _ _ _ => by exact (pg_name (i := 1) nd rfl (Or.inl rfl))) (fun _ _ _ _ _ => by exact (pts_one (pt_val (pe_callB (cr_anyK (K := K) rfl rfl) (by rfl) T.b_any (by decide +kernel) (pa_cons (pe_lc (own := [("number", 2)]) (g := gName 2) rfl nd (pi_listK (K := K) rfl (pe_m T.cl_State c_State_part hr (by decide) (pv 0) (pa_cons (pv 1) pa_nil))) (blkOk_by (own := [("number", 2)]) (N := ["self", "weight", "number"]) (by kernel_rfl)) (fun _ _ _ _ _ => by exact (pg_name (i := 2) nd rfl (Or.inl rfl))) (fun _ _ _ _ _ => by exact pts_nil) (fun _ _ _ _ _ => by exact (pe_cmpR op_ne (pv 2) pe_int (nomark _)))) pa_nil))))) (fun _ _ _ _ _ => by exact (pv 1))) pa_nil)))), ?_⟩
  refine ⟨_, rfl, ⟨_, T.t_WEIGHTS H⟩, fun D hD => ?_⟩
  refine lc_vals (walk_tup (K := K) (a := A.aWEIGHTS) (xs := nv [1, 2, 4, 32, 64, 128])) (fun i => Sd62.some0 (partOf st (([1, 2, 4, 32, 64, 128] : List Nat).getD i 0))) (fun i => .int ((([1, 2, 4, 32, 64, 128] : List Nat).getD i 0 : Nat) : Int)) (by decide) hD (fun H' e => T.t_WEIGHTS H') ?_ ?_
  · rintro i x H1 H2 R S hi e ⟨rfl, hx⟩ kT kF
    obtain ⟨wt, hw, rfl⟩ := nv_get_of hx
    have hwt : isW wt := by
      have h := List.mem_of_getElem? hw
      have h2 : wt = 1 ∨ wt = 2 ∨ wt = 4 ∨ wt = 32 ∨ wt = 64 ∨ wt = 128 := by simpa using h
      exact h2
    have eg : ([1, 2, 4, 32, 64, 128] : List Nat).getD i 0 = wt := by rw [List.getD_eq_getElem?_getD, hw]; rfl
    simp only [eg] at kT kF
    have hc1 := hc.mono e
    have ins := hc1.ins
    refine ⟨rfl, ?_⟩
    walk_at "ss"
    refine ⟨⟨f, st, wt⟩, rfl, hc1, wf, hwt, fun q H3 hq e3 h3 => ?_⟩
    refine ⟨q, rfl, ⟨_, SqL.of h3⟩, fun D2 hD2 => ?_⟩
    have hpl := part_len wf hwt
    have hp128 : countOf wt ≤ 128 := by
      unfold countOf fstL lstL
      rcases hwt with rfl | rfl | rfl | rfl | rfl | rfl <;> decide
    refine lc_vals (walk_list (K := K) (a := q) (xs := nv (partOf st wt))) (fun _ => true) (fun i => .bl (decide ((partOf st wt).getD i 0 ≠ 0))) (by rw [nv_length]; omega) hD2 (fun H' e => SqL.of (e _ _ h3)) ?_ ?_
    · rintro j y H4 H5 R2 S2 hj e4 ⟨rfl, hy⟩ k2 _
      obtain ⟨n, hn, rfl⟩ := nv_get_of hy
      have eg2 : (partOf st wt).getD j 0 = n := by rw [List.getD_eq_getElem?_getD, hn]; rfl
      simp only [eg2] at k2
      refine ⟨rfl, ?_⟩
      walk_at "ss"
      show R2 (V.bl (!decide (V.int (n : Int) = V.int 0))) H5
      have h6 : (!decide (V.int (n : Int) = V.int 0)) = decide (n ≠ 0) := by
        rw [dInt, ← decide_not]
        exact decide_eq_decide.mpr (by omega)
      rw [h6]
      exact k2 trivial _ (Ex.refl _)
    · intro H4 e4 hl
      rw [given_all, nv_length] at hl
      refine ⟨D2, (List.range (partOf st wt).length).map fun i => decide ((partOf st wt).getD i 0 ≠ 0), rfl, SqL.of (hl.trans ?_), _, rfl, ?_⟩
      · rw [List.map_map]
        rfl
      · rw [some0_any]
        cases hb : Sd62.some0 (partOf st wt) with
        | true => exact iteT ⟨_, rfl, kT hb _ (e3.trans e4)⟩
        | false => exact iteF (kF hb _ (e3.trans e4))
  · intro H1 e hl
    refine ⟨D, ((([1, 2, 4, 32, 64, 128] : List Nat).filter fun w => Sd62.some0 (partOf st w)).map fun n => ((n : Nat) : Int)), rfl, SqL.of (hl.trans ?_), ?_⟩
    · have h1 : Evl.given 6 (fun i => Sd62.some0 (partOf st (([1, 2, 4, 32, 64, 128] : List Nat).getD i 0))) (fun i => V.int ((([1, 2, 4, 32, 64, 128] : List Nat).getD i 0 : Nat) : Int)) = nv (([1, 2, 4, 32, 64, 128] : List Nat).filter fun w => Sd62.some0 (partOf st w)) := by
        have h2 := map_range_get ([1, 2, 4, 32, 64, 128] : List Nat) 0
        conv => rhs; rw [← h2]
        rw [List.filter_map]
        unfold Evl.given nv
        rw [List.map_map]
        rfl
      show some (HO.lst (Evl.given 6 _ _)) = _
      rw [h1, nv_ints]
    · rw [sum_cast]
      have h3 : (([1, 2, 4, 32, 64, 128] : List Nat).filter fun w => Sd62.some0 (partOf st w)).sum = Sd62.used st := used_of wf
      rw [h3]
      exact RetV.on k e _ (Ex.refl _)
end
end VP

/-! ### states changed -/
namespace VP
open PySem PySem.Spec PyProof.Rows L2
open Evl (Ex RetL RetV)
theorem mem_set_of {α : Type} {l : List α} {j : Nat} {x y : α} (h : y ∈ l.set j x) : y = x ∨ y ∈ l := by
  rcases List.mem_or_eq_of_mem_set h with h | h
  · exact .inr h
  · exact .inl h
theorem Wf.row_set {s : Sd62.St} (wf : Wf s) {xs : List Nat} (hx : xs.length = 8) (hlt : ∀ n ∈ xs, n < 2 ^ 64) (j : Nat) : Wf { s with v := s.v.set j xs } := by
  refine ⟨wf.m8, wf.k8, by rw [List.length_set]; exact wf.v32, fun l hl => ?_, wf.mlt, wf.klt, fun l hl => ?_⟩
  · rcases mem_set_of hl with e | e
    · rw [e]; exact hx
    · exact wf.row l e
  · rcases mem_set_of hl with e | e
    · rw [e]; exact hlt
    · exact wf.vlt l e
theorem Wf.word_set {s : Sd62.St} (wf : Wf s) {n : Nat} (hn : n < 2 ^ 64) (j : Nat) : Wf { s with m := s.m.set j n } := by
  refine ⟨by rw [List.length_set]; exact wf.m8, wf.k8, wf.v32, wf.row, fun l hl => ?_, wf.klt, wf.vlt⟩
  rcases mem_set_of hl with e | e
  · rw [e]; exact hn
  · exact wf.mlt l e
theorem Wf.mask_set {s : Sd62.St} (wf : Wf s) {n : Nat} (hn : n < 2 ^ 64) (j : Nat) : Wf { s with k := s.k.set j n } := by
  refine ⟨wf.m8, by rw [List.length_set]; exact wf.k8, wf.v32, wf.row, wf.mlt, fun l hl => ?_, wf.vlt⟩
  rcases mem_set_of hl with e | e
  · rw [e]; exact hn
  · exact wf.klt l e
theorem Wf.words {s : Sd62.St} (wf : Wf s) {l : List Nat} (hl : l.length = 8) (hlt : ∀ n ∈ l, n < 2 ^ 64) : Wf { s with m := l } := ⟨hl, wf.k8, wf.v32, wf.row, hlt, wf.klt, wf.vlt⟩
theorem Wf.masks {s : Sd62.St} (wf : Wf s) {l : List Nat} (hl : l.length = 8) (hlt : ∀ n ∈ l, n < 2 ^ 64) : Wf { s with k := l } := ⟨wf.m8, hl, wf.v32, wf.row, wf.mlt, hlt, wf.vlt⟩
section
variable {C : Addr} {H0 H : Hp} {f : Foot} {s : Sd62.St}
theorem StC.ne_a (hc : StC C H f s) : f.a ≠ f.wa ∧ f.a ≠ f.va ∧ f.a ≠ f.ka ∧ ∀ r ∈ f.rows, r ≠ f.a := by
  refine ⟨ne_of hc.ins hc.wl (by intro z; cases z), ne_of hc.ins hc.vl (by intro z; cases z), ne_of hc.ins hc.kl (by intro z; cases z), fun r hr => ?_⟩
  obtain ⟨i, hi⟩ := List.mem_iff_getElem?.mp hr
  obtain ⟨xs, _, hx⟩ := hc.rw.at hi
  exact ne_of hx hc.ins (by intro z; cases z)
theorem Rows.upd_off {H : Hp} {rows : List Addr} {v : List (List Nat)} (h : Rows H rows v) {b : Addr} {o : HO} (hb : ∀ r ∈ rows, r ≠ b) : Rows (upd H b o) rows v :=
  ⟨h.1, fun i a xs h1 h2 => by rw [upd_ne (hb a (List.mem_of_getElem? h1))]; exact h.2 i a xs h1 h2⟩
theorem at_row (hc : StC C H f s) (ha : Apart f) (hf : Free H0 f) (e0 : Ex H0 H) (wf : Wf s) {p : Addr} {xs : List Nat} {j : Nat} (hp : H p = some (.lst (nv xs))) (np : p ≠ f.wa ∧ p ≠ f.va ∧ p ≠ f.ka) (p0 : H0 p = none)
    (hx : xs.length = 8) (hlt : ∀ n ∈ xs, n < 2 ^ 64) : StAt C H0 (upd H f.va (.lst ((f.rows.map V.ref).set j (.ref p)))) f.a { s with v := s.v.set j xs } := by
  have na := hc.ne_a
  refine ⟨⟨{ f with rows := f.rows.set j p }, rfl, ⟨?_, ?_, ?_, ?_, ?_⟩, ⟨ha.wv, ha.wk, ha.vk, fun r hr => ?_⟩, ⟨hf.a, hf.wa, hf.va, hf.ka, fun r hr => ?_⟩⟩, Evl.Ex.mut e0 hf.va, wf.row_set hx hlt j⟩
  · show upd H f.va _ f.a = _
    rw [upd_ne na.2.1]
    exact hc.ins
  · show upd H f.va _ f.wa = _
    rw [upd_ne ha.wv]
    exact hc.wl
  · show upd H f.va _ f.va = _
    rw [upd_same, List.map_set]
  · show upd H f.va _ f.ka = _
    rw [upd_ne ha.vk.symm]
    exact hc.kl
  · refine ⟨by rw [List.length_set, List.length_set]; exact hc.rw.1, fun i a ys h1 h2 => ?_⟩
    have h1' : (f.rows.set j p)[i]? = some a := h1
    have h2' : (s.v.set j xs)[i]? = some ys := h2
    by_cases hij : j = i
    · subst hij
      have hl : j < f.rows.length := by
        have := (List.getElem?_eq_some_iff.mp h1').1
        rw [List.length_set] at this
        exact this
      rw [List.getElem?_set_self hl] at h1'
      rw [List.getElem?_set_self (by rw [← hc.rw.1]; exact hl)] at h2'
      cases h1'
      cases h2'
      rw [upd_ne np.2.1]
      exact hp
    · rw [List.getElem?_set_ne hij] at h1' h2'
      rw [upd_ne (ha.rw a (List.mem_of_getElem? h1')).2.1]
      exact hc.rw.2 i a ys h1' h2'
  · rcases mem_set_of hr with e | e
    · rw [e]; exact np
    · exact ha.rw r e
  · rcases mem_set_of hr with e | e
    · rw [e]; exact p0
    · exact hf.rows r e
theorem at_word (hc : StC C H f s) (ha : Apart f) (hf : Free H0 f) (e0 : Ex H0 H) (wf : Wf s) {n : Nat} {j : Nat} (hn : n < 2 ^ 64) : StAt C H0 (upd H f.wa (.lst ((nv s.m).set j (.int (n : Int))))) f.a { s with m := s.m.set j n } := by
  have na := hc.ne_a
  refine ⟨⟨f, rfl, ⟨?_, ?_, ?_, ?_, hc.rw.upd_off fun r hr => (ha.rw r hr).1⟩, ha, hf⟩, Evl.Ex.mut e0 hf.wa, wf.word_set hn j⟩
  · rw [upd_ne na.1]; exact hc.ins
  · rw [upd_same, nv_set]
  · rw [upd_ne ha.wv.symm]; exact hc.vl
  · rw [upd_ne ha.wk.symm]; exact hc.kl
theorem at_mask (hc : StC C H f s) (ha : Apart f) (hf : Free H0 f) (e0 : Ex H0 H) (wf : Wf s) {n : Nat} {j : Nat} (hn : n < 2 ^ 64) : StAt C H0 (upd H f.ka (.lst ((nv s.k).set j (.int (n : Int))))) f.a { s with k := s.k.set j n } := by
  have na := hc.ne_a
  refine ⟨⟨f, rfl, ⟨?_, ?_, ?_, ?_, hc.rw.upd_off fun r hr => (ha.rw r hr).2.2⟩, ha, hf⟩, Evl.Ex.mut e0 hf.ka, wf.mask_set hn j⟩
  · rw [upd_ne na.2.2.1]; exact hc.ins
  · rw [upd_ne ha.wk]; exact hc.wl
  · rw [upd_ne ha.vk]; exact hc.vl
  · rw [upd_same, nv_set]
theorem at_words (hc : StC C H f s) (ha : Apart f) (hf : Free H0 f) (e0 : Ex H0 H) (wf : Wf s) {p : Addr} {l : List Nat} (hp : H p = some (.lst (nv l))) (np : p ≠ f.va ∧ p ≠ f.ka ∧ ∀ r ∈ f.rows, r ≠ p) (p0 : H0 p = none)
    (hl : l.length = 8) (hlt : ∀ n ∈ l, n < 2 ^ 64) : StAt C H0 (upd H f.a (.ins C f.dx (putF "words" (.ref p) (sF f)))) f.a { s with m := l } := by
  have na := hc.ne_a
  have npa : p ≠ f.a := ne_of hp hc.ins (by intro z; cases z)
  refine ⟨⟨{ f with wa := p }, rfl, ⟨?_, ?_, ?_, ?_, hc.rw.upd_off na.2.2.2⟩, ⟨np.1, np.2.1, ha.vk, fun r hr => ⟨np.2.2 r hr, (ha.rw r hr).2.1, (ha.rw r hr).2.2⟩⟩, ⟨hf.a, p0, hf.va, hf.ka, hf.rows⟩⟩, Evl.Ex.mut e0 hf.a, wf.words hl hlt⟩
  · show upd H f.a _ f.a = _
    rw [upd_same, sF_put_words]
  · show upd H f.a _ p = _
    rw [upd_ne npa]; exact hp
  · show upd H f.a _ f.va = _
    rw [upd_ne na.2.1.symm]; exact hc.vl
  · show upd H f.a _ f.ka = _
    rw [upd_ne na.2.2.1.symm]; exact hc.kl
theorem at_masks (hc : StC C H f s) (ha : Apart f) (hf : Free H0 f) (e0 : Ex H0 H) (wf : Wf s) {p : Addr} {l : List Nat} (hp : H p = some (.lst (nv l))) (np : p ≠ f.wa ∧ p ≠ f.va ∧ ∀ r ∈ f.rows, r ≠ p) (p0 : H0 p = none)
    (hl : l.length = 8) (hlt : ∀ n ∈ l, n < 2 ^ 64) : StAt C H0 (upd H f.a (.ins C f.dx (putF "masks" (.ref p) (sF f)))) f.a { s with k := l } := by
  have na := hc.ne_a
  have npa : p ≠ f.a := ne_of hp hc.ins (by intro z; cases z)
  refine ⟨⟨{ f with ka := p }, rfl, ⟨?_, ?_, ?_, ?_, hc.rw.upd_off na.2.2.2⟩, ⟨ha.wv, np.1.symm, np.2.1.symm, fun r hr => ⟨(ha.rw r hr).1, (ha.rw r hr).2.1, np.2.2 r hr⟩⟩, ⟨hf.a, hf.wa, hf.va, p0, hf.rows⟩⟩, Evl.Ex.mut e0 hf.a, wf.masks hl hlt⟩
  · show upd H f.a _ f.a = _
    rw [upd_same, sF_put_masks]
  · show upd H f.a _ f.wa = _
    rw [upd_ne na.1.symm]; exact hc.wl
  · show upd H f.a _ f.va = _
    rw [upd_ne na.2.1.symm]; exact hc.vl
  · show upd H f.a _ p = _
    rw [upd_ne npa]; exact hp
theorem StC.new_ne (hc : StC C H f s) {p : Addr} (hp : H p = none) : p ≠ f.a ∧ p ≠ f.wa ∧ p ≠ f.va ∧ p ≠ f.ka ∧ ∀ r ∈ f.rows, r ≠ p := by
  refine ⟨fun z => ?_, fun z => ?_, fun z => ?_, fun z => ?_, fun r hr z => ?_⟩
  · rw [z, hc.ins] at hp; cases hp
  · rw [z, hc.wl] at hp; cases hp
  · rw [z, hc.vl] at hp; cases hp
  · rw [z, hc.kl] at hp; cases hp
  · obtain ⟨i, hi⟩ := List.mem_iff_getElem?.mp hr
    obtain ⟨xs, _, hx⟩ := hc.rw.at hi
    rw [z, hp] at hx; cases hx
end
/-- rows stored one behind another -/
def rowsSet (g : Nat → List Nat) (o : Nat) : Nat → List (List Nat) → List (List Nat)
  | 0, v => v
  | k + 1, v => (rowsSet g o k v).set (o + k) (g k)
theorem rowsSet_length (g : Nat → List Nat) (o : Nat) : ∀ (k : Nat) (v : List (List Nat)), (rowsSet g o k v).length = v.length
  | 0, _ => rfl
  | k + 1, v => by
    show ((rowsSet g o k v).set (o + k) (g k)).length = _
    rw [List.length_set, rowsSet_length g o k v]
theorem rowsSet_out (g : Nat → List Nat) (o : Nat) : ∀ (k : Nat) (v : List (List Nat)) (j : Nat), (j < o ∨ o + k ≤ j) → (rowsSet g o k v)[j]? = v[j]?
  | 0, _, _, _ => rfl
  | k + 1, v, j, h => by
    show ((rowsSet g o k v).set (o + k) (g k))[j]? = _
    rw [List.getElem?_set_ne (by omega), rowsSet_out g o k v j (by omega)]
theorem rowsSet_in (g : Nat → List Nat) (o : Nat) : ∀ (k : Nat) (v : List (List Nat)) (j : Nat), j < k → o + k ≤ v.length → (rowsSet g o k v)[o + j]? = some (g j)
  | 0, _, _, h, _ => absurd h (Nat.not_lt_zero _)
  | k + 1, v, j, h, hv => by
    show ((rowsSet g o k v).set (o + k) (g k))[o + j]? = _
    by_cases e : j = k
    · subst e
      rw [List.getElem?_set_self (by rw [rowsSet_length]; omega)]
    · rw [List.getElem?_set_ne (by omega), rowsSet_in g o k v j (by omega) (by omega)]
def rowOf (s : Sd62.St) (n : Nat) (l : List Nat) (i : Nat) : List Nat :=
  if n = 128 then (l.drop (8 * i)).take 8
  else ((s.v.getD i []).take (fstL n) ++ (l.drop ((lstL n - fstL n) * i)).take (lstL n - fstL n)) ++ (s.v.getD i []).drop (lstL n)
def setPart (s : Sd62.St) (n : Nat) (l : List Nat) : Sd62.St :=
  if n = 1 then { s with m := l } else if n = 32 then { s with k := l }
  else { s with v := rowsSet (rowOf s n l) (if n = 128 then 16 else 0) 16 s.v }
def spSetPart (K : PySem.W.Frag) (C : Addr) : Sp := spOf (fun (⟨_, a, _, n, l, _⟩ : Hp × Addr × Sd62.St × Nat × Addr × List Nat) => [.ref a, .int (n : Int), .ref l]) fun ⟨H0, a, s, n, l, ls⟩ H Q _ =>
  StAt C H0 H a s ∧ isW n ∧ SqL K H0 l (nv ls) ∧ ls.length = countOf n ∧ (∀ x ∈ ls, x < 2 ^ 64) ∧ ∀ H', StAt C H0 H' a (setPart s n ls) → Q .non H'
section
variable {P : Program} {w : World} {K : PySem.W.Frag} {mg : Str → Option Value} {base : Heap} {A : Ad}
theorem ok_set_part (T : Txt K mg A) : Met P w K mg base 2 A.cState "set_part" (spSetPart K A.cState) := by
  have c_lanes_of := ok_lanes_of (P := P) (w := w) (base := base) T
  refine Met.of T.D_State_set_part sc_State_set_part (spOf_len fun ⟨_, _, _, _, _, _⟩ => rfl) fun f cdv A' outer s H vs Q E hr h => ?_
  have nd := sc_State_set_part.nd
  obtain ⟨⟨H0, a, st, n, l, ls⟩, hv, hS, hw, hl, hlen, hlt, k⟩ := h
  obtain rfl : vs = [V.ref a, V.int (n : Int), V.ref l] := hv
  refine ⟨_, (pss_one (ps_if (pt_cmpR op_eq (pv 1) (pe_gv rfl T.g_BASIC) (nomark _)) (pss_one (ps_fld (pv 0) (pe_callTy (call_listK (K := K) rfl) (by rfl) T.b_list (by decide +kernel) (pa_cons (pv 2) pa_nil)) rfl)) (pss_one (ps_if (pt_cmpR op_eq (pv 1) (pe_gv rfl T.g_MASKS) (nomark _)) (pss_one (ps_fld (pv 0) (pe_callTy (call_listK (K := K) rfl) (by rfl) T.b_list (by decide +kernel) (pa_cons (pv 2) pa_nil)) rfl)) (pss_one (ps_if (pt_cmpR op_eq (pv 1) (pe_gv rfl T.g_HIGH_VECTORS) (nomark _)) (pss_one (ps_for PassesOwn.never rfl (pi_range1 rfl T.b_range (pa_cons (pe_op op_sub (pe_gv rfl T.g_V_COUNT) (pe_gv rfl T.g_LOW_COUNT)) pa_nil)) (pg_name (i := 3) nd rfl (Or.inl rfl)) (pss_one (ps_asg (pe_slice (sl_listK (K := K) rfl) (pv 2) (po_some (pe_op op_mul (pe_gv rfl T.g_LANES) (pv 3))) (po_some (pe_op op_add (pe_op op_mul (pe_gv rfl T.g_LANES) (pv 3)) (pe_gv rfl T.g_LANES)))) (pg_sub (pe_fldK (K := K) rfl (pv 0) rfl) (pe_op op_add (pe_gv rfl T.g_LOW_COUNT) (pv 3)) set_list))))) (pss_cons (ps_asg (pe_c c_lanes_of hr (by decide) rfl (pa_cons (pv 1) pa_nil)) (pg_tupK (K := K) rfl rfl (pgs_cons (pg_name (i := 4) nd rfl (Or.inl rfl)) (pgs_cons (pg_name (i := 5) nd rfl (Or.inl rfl)) pgs_nil))))
 (pss_cons (ps_set (i := 6) nd rfl (Or.inl rfl) (pe_op op_sub (pv 5) (pv 4)))
 (pss_one (ps_for PassesOwn.never rfl (pi_range1 rfl T.b_range (pa_cons (pe_gv rfl T.g_LOW_COUNT) pa_nil)) (pg_name (i := 3) nd rfl (Or.inl rfl)) (pss_cons (ps_set (i := 7) nd rfl (Or.inl rfl) (pe_ix (ix_listK (K := K) rfl) (pe_fldK (K := K) rfl (pv 0) rfl) (pv 3) (fun _ _ => rfl)))
 (pss_one (ps_asg (pe_op (op_catK (K := K) rfl) (pe_op (op_catK (K := K) rfl) (pe_slice (sl_listK (K := K) rfl) (pv 7) po_none (po_some (pv 4))) (pe_slice (sl_listK (K := K) rfl) (pv 2) (po_some (pe_op op_mul (pv 6) (pv 3))) (po_some (pe_op op_add (pe_op op_mul (pv 6) (pv 3)) (pv 6))))) (pe_slice (sl_listK (K := K) rfl) (pv 7) (po_some (pv 5)) po_none)) (pg_sub (pe_fldK (K := K) rfl (pv 0) rfl) (pv 3) set_list)))))))))))))), ?_⟩
  obtain ⟨f, rfl, hc, hap, hfr⟩ := hS.ex
  have ins := hc.ins
  walk_at "ss"
  refine ifEq (fun c => ?_) fun c => ?_
  · have hn : n = 1 := by omega
    subst hn
    walk_at "ss"
    refine ⟨_, _, rfl, .inl (Evl.ex_l hS.sm hl), fun p hp => ?_⟩
    have nn := hc.new_ne hp
    refine ⟨_, rfl, f.a, A.cState, f.dx, sF f, rfl, by rw [upd_ne nn.1.symm]; exact ins, T.cl_State, T.n_State_words, by show 3 < 1000; decide, ?_⟩
    exact k _ (at_words (hc.mono (Ex.new hp)) hap hfr (hS.sm.trans (Ex.new hp)) hS.wf upd_same ⟨nn.2.2.1, nn.2.2.2.1, nn.2.2.2.2⟩ (Evl.fresh_back hS.sm hp) hlen hlt)
  walk_at "ss"
  refine ifEq (fun c2 => ?_) fun c2 => ?_
  · have hn : n = 32 := by omega
    subst hn
    walk_at "ss"
    refine ⟨_, _, rfl, .inl (Evl.ex_l hS.sm hl), fun p hp => ?_⟩
    have nn := hc.new_ne hp
    refine ⟨_, rfl, f.a, A.cState, f.dx, sF f, rfl, by rw [upd_ne nn.1.symm]; exact ins, T.cl_State, T.n_State_masks, by show 3 < 1000; decide, ?_⟩
    exact k _ (at_masks (hc.mono (Ex.new hp)) hap hfr (hS.sm.trans (Ex.new hp)) hS.wf upd_same ⟨nn.2.1, nn.2.2.1, nn.2.2.2.2⟩ (Evl.fresh_back hS.sm hp) hlen hlt)
  walk_at "ss"
  refine ifEq (fun c3 => ?_) fun c3 => ?_
  · have hn : n = 128 := by omega
    subst hn
    refine ⟨32, 16, rfl, rfl, 16, rfl, by decide, by decide, for_range (lo := 0) (n := 16) (fun i σ H' => (∃ v4 : Option V, σ = [some (.ref f.a), some (.int 128), some (.ref l), v4, none, none, none, none]) ∧ StAt A.cState H0 H' f.a { st with v := rowsSet (rowOf st 128 ls) 16 i st.v })
      ⟨⟨none, rfl⟩, hS⟩ ?_ ?_⟩
    · rintro i σ H1 hi ⟨⟨v4, rfl⟩, hS1⟩
      obtain ⟨g, ga, hc1, hap1, hfr1⟩ := hS1.ex
      have ins1 := hc1.ins
      rw [ga] at ins1
      walk_at "ss"
      refine ⟨_, _, rfl, Evl.ex_l hS1.sm hl, fun p hp => ?_⟩
      have nn := hc1.new_ne hp
      have e2 : cutV (nv ls) (some (8 * (0 + (i : Int)))) (some (8 * (0 + (i : Int)) + 8)) = nv ((ls.drop (8 * i)).take 8) := by
        rw [show 8 * (0 + (i : Int)) = ((8 * i : Nat) : Int) by omega, show ((8 * i : Nat) : Int) + 8 = ((8 * i + 8 : Nat) : Int) by omega, cut_nn, nv_drop, nv_take, show 8 * i + 8 - 8 * i = 8 by omega]
      have x1 : Ex H1 (upd H1 p (.lst (cutV (nv ls) (some (8 * (0 + (i : Int)))) (some (8 * (0 + (i : Int)) + 8))))) := Ex.new hp
      have y1 : upd H1 p (.lst (cutV (nv ls) (some (8 * (0 + (i : Int)))) (some (8 * (0 + (i : Int)) + 8)))) p = some (.lst (nv ((ls.drop (8 * i)).take 8))) := by rw [upd_same, e2]
      generalize upd H1 p (.lst (cutV (nv ls) (some (8 * (0 + (i : Int)))) (some (8 * (0 + (i : Int)) + 8)))) = H2 at x1 y1 ⊢
      have ins2 := x1 _ _ ins1
      walk_at "ss"
      have hr32 : g.rows.length = 32 := hc1.rw.1.trans hS1.wf.v32
      refine ⟨g.va, g.rows.map V.ref, 16 + (0 + (i : Int)), 16 + i, rfl, rfl, x1 _ _ hc1.vl, ?_, ⟨some (.int (0 + (i : Int))), rfl⟩, ?_⟩
      · rw [List.length_map, show (16 + (0 + (i : Int))) = ((16 + i : Nat) : Int) by omega]
        exact Evl.ixN_nat (by omega)
      · have h5 := at_row (j := 16 + i) (hc1.mono x1) hap1 hfr1 (hS1.sm.trans x1) hS1.wf y1 ⟨nn.2.1, nn.2.2.1, nn.2.2.2.1⟩ (Evl.fresh_back hS1.sm hp) (by rw [List.length_take, List.length_drop, hlen]; show min 8 (128 - 8 * i) = 8; omega) (fun x hx => hlt x (List.mem_of_mem_drop (List.mem_of_mem_take hx)))
        rw [ga] at h5
        exact h5
    · rintro σ H1 ⟨_, hS1⟩
      exact k H1 hS1
  · have hn : n = 2 ∨ n = 4 ∨ n = 64 := by
      unfold isW at hw
      omega
    have hb : fstL n ≤ lstL n ∧ lstL n ≤ 8 := by
      unfold fstL lstL
      rcases hn with rfl | rfl | rfl <;> decide
    have hcnt : countOf n = 16 * (lstL n - fstL n) := by
      unfold countOf
      rw [if_neg (by omega), if_neg (by omega)]
    refine ⟨_, rfl, n, rfl, hn, fun q H1 e1 hq h1 => ?_⟩
    refine ⟨q, _, rfl, SqT.of h1, rfl, _, _, rfl, _, _, rfl, rfl, ?_⟩
    walk_at "ss"
    have hsp : setPart st n ls = { st with v := rowsSet (rowOf st n ls) 0 16 st.v } := by
      unfold setPart
      rw [if_neg (by omega), if_neg (by omega), if_neg (by omega)]
    refine for_range (lo := 0) (n := 16) (fun i σ H' => (∃ v3 v7 : Option V, σ = [some (.ref f.a), some (.int (n : Int)), some (.ref l), v3, some (.int (fstL n : Int)), some (.int (lstL n : Int)), some (.int ((lstL n : Int) - (fstL n : Int))), v7]) ∧ StAt A.cState H0 H' f.a { st with v := rowsSet (rowOf st n ls) 0 i st.v })
      ⟨⟨none, none, rfl⟩, hS.mono e1⟩ ?_ ?_
    · rintro i σ H2 hi ⟨⟨v3, v7, rfl⟩, hS1⟩
      obtain ⟨g, ga, hc1, hap1, hfr1⟩ := hS1.ex
      have ins1 := hc1.ins
      rw [ga] at ins1
      have hr32 : g.rows.length = 32 := hc1.rw.1.trans hS1.wf.v32
      have hget : ({ st with v := rowsSet (rowOf st n ls) 0 i st.v } : Sd62.St).v[i]? = some (st.v.getD i []) := by
        show (rowsSet (rowOf st n ls) 0 i st.v)[i]? = _
        have hlt2 : i < st.v.length := by rw [hS.wf.v32]; omega
        rw [rowsSet_out _ _ _ _ _ (by omega), List.getD_eq_getElem?_getD, List.getElem?_eq_getElem hlt2]
        rfl
      obtain ⟨b, hb1, hb2⟩ := hc1.rw.get hget
      have hrow8 : (st.v.getD i []).length = 8 := by
        have hlt2 : i < st.v.length := by rw [hS.wf.v32]; omega
        rw [List.getD_eq_getElem?_getD, List.getElem?_eq_getElem hlt2]
        exact hS.wf.row _ (List.getElem_mem hlt2)
      have hrowlt : ∀ x ∈ st.v.getD i [], x < 2 ^ 64 := by
        have hlt2 : i < st.v.length := by rw [hS.wf.v32]; omega
        rw [List.getD_eq_getElem?_getD, List.getElem?_eq_getElem hlt2]
        exact hS.wf.vlt _ (List.getElem_mem hlt2)
      walk_at "ss"
      refine ⟨g.va, _, _, .ref b, rfl, rfl, SqL.of hc1.vl, ?_, ?_⟩
      · rw [show (0 + (i : Int)) = ((i : Nat) : Int) by omega]
        refine atI_nat ?_
        rw [List.getElem?_map, hb1]
        rfl
      walk_at "ss"
      refine ⟨b, _, rfl, SqL.of hb2, fun p1 hp1 => ?_⟩
      have x1 : Ex H2 (upd H2 p1 (.lst (cutV (nv (st.v.getD i [])) none (some (fstL n : Int))))) := Ex.new hp1
      have y1 : upd H2 p1 (.lst (cutV (nv (st.v.getD i [])) none (some (fstL n : Int)))) p1 = some (.lst (nv ((st.v.getD i []).take (fstL n)))) := by rw [upd_same, cut_to, nv_take]
      generalize upd H2 p1 (.lst (cutV (nv (st.v.getD i [])) none (some (fstL n : Int)))) = H3 at x1 y1 ⊢
      walk_at "ss"
      refine ⟨l, _, rfl, Evl.ex_l (hS1.sm.trans x1) hl, fun p2 hp2 => ?_⟩
      have c2' : cutV (nv ls) (some (((lstL n : Int) - (fstL n : Int)) * (0 + (i : Int)))) (some (((lstL n : Int) - (fstL n : Int)) * (0 + (i : Int)) + ((lstL n : Int) - (fstL n : Int)))) = nv ((ls.drop ((lstL n - fstL n) * i)).take (lstL n - fstL n)) := by
        have z1 : (lstL n : Int) - (fstL n : Int) = ((lstL n - fstL n : Nat) : Int) := by omega
        rw [z1, show (0 + (i : Int)) = ((i : Nat) : Int) by omega, ← Int.natCast_mul, ← Int.natCast_add, cut_nn, nv_drop, nv_take, Nat.add_sub_cancel_left]
      have x2 : Ex H3 (upd H3 p2 (.lst (cutV (nv ls) (some (((lstL n : Int) - (fstL n : Int)) * (0 + (i : Int)))) (some (((lstL n : Int) - (fstL n : Int)) * (0 + (i : Int)) + ((lstL n : Int) - (fstL n : Int))))))) := Ex.new hp2
      have y2 : upd H3 p2 (.lst (cutV (nv ls) (some (((lstL n : Int) - (fstL n : Int)) * (0 + (i : Int)))) (some (((lstL n : Int) - (fstL n : Int)) * (0 + (i : Int)) + ((lstL n : Int) - (fstL n : Int)))))) p2 = some (.lst (nv ((ls.drop ((lstL n - fstL n) * i)).take (lstL n - fstL n)))) := by rw [upd_same, c2']
      generalize upd H3 p2 (.lst (cutV (nv ls) (some (((lstL n : Int) - (fstL n : Int)) * (0 + (i : Int)))) (some (((lstL n : Int) - (fstL n : Int)) * (0 + (i : Int)) + ((lstL n : Int) - (fstL n : Int)))))) = H4 at x2 y2 ⊢
      have hz := hb
      have len1 : ((st.v.getD i []).take (fstL n)).length ≤ 8 := by rw [List.length_take]; omega
      have len2 : ((ls.drop ((lstL n - fstL n) * i)).take (lstL n - fstL n)).length ≤ 8 := by rw [List.length_take]; omega
      refine ⟨p1, p2, _, _, rfl, rfl, SqL.of (x2 _ _ y1), SqL.of y2, szl (by rw [nv_length, nv_length]; omega), fun p3 hp3 => ?_⟩
      rw [← nv_append]
      have x3 := Ex.new (o := .lst (nv ((st.v.getD i []).take (fstL n) ++ (ls.drop ((lstL n - fstL n) * i)).take (lstL n - fstL n)))) hp3
      have y3 : upd H4 p3 (.lst (nv ((st.v.getD i []).take (fstL n) ++ (ls.drop ((lstL n - fstL n) * i)).take (lstL n - fstL n)))) p3 = _ := upd_same
      generalize upd H4 p3 (.lst (nv ((st.v.getD i []).take (fstL n) ++ (ls.drop ((lstL n - fstL n) * i)).take (lstL n - fstL n)))) = H5 at x3 y3 ⊢
      walk_at "ss"
      refine ⟨b, _, rfl, SqL.of (x3 _ _ (x2 _ _ (x1 _ _ hb2))), fun p4 hp4 => ?_⟩
      rw [cut_from, nv_drop]
      have x4 := Ex.new (o := .lst (nv ((st.v.getD i []).drop (lstL n)))) hp4
      have y4 : upd H5 p4 (.lst (nv ((st.v.getD i []).drop (lstL n)))) p4 = _ := upd_same
      generalize upd H5 p4 (.lst (nv ((st.v.getD i []).drop (lstL n)))) = H6 at x4 y4 ⊢
      refine ⟨p3, p4, _, _, rfl, rfl, SqL.of (x4 _ _ y3), SqL.of y4, szl (by rw [nv_length, nv_length, List.length_append, List.length_drop]; omega), fun p hp => ?_⟩
      rw [← nv_append]
      have hrowdef : (st.v.getD i []).take (fstL n) ++ (ls.drop ((lstL n - fstL n) * i)).take (lstL n - fstL n) ++ (st.v.getD i []).drop (lstL n) = rowOf st n ls i := by
        unfold rowOf
        rw [if_neg (by omega)]
      rw [hrowdef]
      have x5 := Ex.new (o := .lst (nv (rowOf st n ls i))) hp
      have y5 : upd H6 p (.lst (nv (rowOf st n ls i))) p = _ := upd_same
      have xx := ((x1.trans x2).trans x3).trans x4
      have nn := (hc1.mono xx).new_ne hp
      have p0 := Evl.fresh_back (hS1.sm.trans xx) hp
      generalize upd H6 p (.lst (nv (rowOf st n ls i))) = H7 at x5 y5 ⊢
      have xx2 := xx.trans x5
      have ins2 := xx2 _ _ ins1
      walk_at "ss"
      refine ⟨g.va, g.rows.map V.ref, 0 + (i : Int), 0 + i, rfl, rfl, xx2 _ _ hc1.vl, ?_, ⟨some (.int (0 + (i : Int))), some (.ref b), rfl⟩, ?_⟩
      · rw [List.length_map, show (0 + (i : Int)) = ((0 + i : Nat) : Int) by omega]
        exact Evl.ixN_nat (by omega)
      · have hl8 : (rowOf st n ls i).length = 8 := by
          rw [← hrowdef, List.length_append, List.length_append, List.length_take, List.length_take, List.length_drop, List.length_drop, hrow8, hlen, hcnt]
          have hm : (lstL n - fstL n) * i + (lstL n - fstL n) ≤ 16 * (lstL n - fstL n) := by
            rw [← Nat.mul_succ, Nat.mul_comm 16]
            exact Nat.mul_le_mul_left _ hi
          omega
        have hl64 : ∀ x ∈ rowOf st n ls i, x < 2 ^ 64 := by
          rw [← hrowdef]
          intro x hx
          rcases List.mem_append.mp hx with hx | hx
          · rcases List.mem_append.mp hx with hx | hx
            · exact hrowlt x (List.mem_of_mem_take hx)
            · exact hlt x (List.mem_of_mem_drop (List.mem_of_mem_take hx))
          · exact hrowlt x (List.mem_of_mem_drop hx)
        have h5 := at_row (j := 0 + i) (hc1.mono xx2) hap1 hfr1 (hS1.sm.trans xx2) hS1.wf y5 ⟨nn.2.1, nn.2.2.1, nn.2.2.2.1⟩ p0 hl8 hl64
        rw [ga] at h5
        exact h5
    · rintro σ H2 ⟨_, hS1⟩
      rw [hsp] at k
      exact k H2 hS1
end
end VP

/-! ### what calls and lists evaluate to -/
namespace VP
open PySem PySem.Spec PyProof.Rows L2
open Evl (Ex RetL RetV Ev EvL EvT EvA EvO)
/-- some list with these items -/
def EvQ (K : PySem.W.Frag) (te : TE) (σ : L2.St) (H : Hp) (xs : List V) : Prop := ∀ H1, Ex H H1 → ∀ Q : VK, (∀ p H2, Ex H1 H2 → SqL K H2 p xs → Q (.ref p) H2) → te σ H1 Q
section
variable {K : PySem.W.Frag} {σ : L2.St} {H H' : Hp} {ta tb te : TE} {a b ns : List Nat} {C : Addr}
theorem EvQ.mono {xs : List V} (h : EvQ K te σ H xs) (e : Ex H H') : EvQ K te σ H' xs := fun H1 e1 Q q => h H1 (e.trans e1) Q q
theorem eq_new {xs : List V} (h : EvL te σ H xs) : EvQ K te σ H xs := fun H1 e Q q => h H1 e Q fun p H2 _ e2 h2 => q p H2 e2 (SqL.of h2)
theorem eq_val {p : Addr} {xs : List V} (h : Ev te σ H (.ref p)) (hs : SqL K H p xs) : EvQ K te σ H xs := fun H1 e Q q => h H1 e Q fun H2 e2 => q p H2 e2 (Evl.ex_l (e.trans e2) hs)
theorem eq_var {i : Nat} {p : Addr} {xs : List V} (h : σ[i]? = some (some (.ref p))) (hs : SqL K H p xs) : EvQ K (tVar i) σ H xs := eq_val (Evl.ev_var h) hs
theorem eq_glob {p : Addr} {xs : List V} (hs : ∀ H, SqL K H p xs) : EvQ K (tC (.ref p)) σ H xs := eq_val Evl.ev_c (hs H)
theorem el_cat (ha : EvQ K ta σ H (nv a)) (hb : EvQ K tb σ H (nv b)) (hz : a.length + b.length ≤ 100000) : EvL (tOp (rCatS K) ta tb) σ H (nv (a ++ b)) := fun H1 e Q q =>
  ha H1 e _ fun p H2 e2 h2 => hb H2 (e.trans e2) _ fun r H3 e3 h3 => ⟨p, r, _, _, rfl, rfl, Evl.ex_l e3 h2, h3, szl (by rw [nv_length, nv_length]; omega), fun t ht => by
    rw [← nv_append]
    exact q t _ (Evl.fresh_back (e2.trans e3) ht) ((e2.trans e3).trans (Ex.new ht)) upd_same⟩
theorem el_is {xs ys : List V} (h : EvL te σ H xs) (e : xs = ys) : EvL te σ H ys := e ▸ h
theorem flat_rep (v : V) : ∀ k : Nat, (List.replicate k [v]).flatten = List.replicate k v
  | 0 => rfl
  | k + 1 => by rw [List.replicate_succ, List.flatten_cons, List.replicate_succ, flat_rep v k]; rfl
theorem el_rep {n k : Nat} {z : Int} (ha : Ev ta σ H (.int (n : Int))) (hb : Ev tb σ H (.int z)) (hz : z = (k : Int)) (hk : k ≤ 10000) : EvL (tOp rRep (tLst (tCons ta tNil)) tb) σ H (nv (List.replicate k n)) := fun H1 e Q q =>
  ha H1 e _ fun H2 e2 => ⟨(by show 1 ≤ sizeLine; decide), fun p hp => hb _ ((e.trans e2).trans (Ex.new hp)) _ fun H3 e3 => ⟨p, z, _, rfl, rfl, e3 _ _ upd_same, by omega, by omega, szl (by show 1 * z.toNat ≤ _; omega), fun t ht => by
    rw [hz, Int.toNat_natCast, flat_rep, ← nv_replicate]
    exact q t _ (Evl.fresh_back (e2.trans ((Ex.new hp).trans e3)) ht) ((e2.trans ((Ex.new hp).trans e3)).trans (Ex.new ht)) upd_same⟩⟩
theorem el_one {n : Nat} (ha : Ev ta σ H (.int (n : Int))) : EvL (tLst (tCons ta tNil)) σ H (nv [n]) := fun H1 e Q q =>
  ha H1 e _ fun H2 e2 => ⟨(by show 1 ≤ sizeLine; decide), fun p hp => q p _ (Evl.fresh_back e2 hp) (e2.trans (Ex.new hp)) upd_same⟩
theorem el_two {n m : Nat} (ha : Ev ta σ H (.int (n : Int))) (hb : Ev tb σ H (.int (m : Int))) : EvL (tLst (tCons ta (tCons tb tNil))) σ H (nv [n, m]) := fun H1 e Q q =>
  ha H1 e _ fun H2 e2 => hb H2 (e.trans e2) _ fun H3 e3 => ⟨(by show 2 ≤ sizeLine; decide), fun p hp => q p _ (Evl.fresh_back (e2.trans e3) hp) ((e2.trans e3).trans (Ex.new hp)) upd_same⟩
theorem el_slice {xs : List V} {tl th : TO} {lo hi : Option Int} (h : EvQ K te σ H xs) (h1 : EvO tl σ H lo) (h2 : EvO th σ H hi) : EvL (tSl (rSlL K) te tl th) σ H (cutV xs lo hi) := fun H1 e Q q =>
  h H1 e _ fun p H2 e2 hs => h1 H2 (e.trans e2) _ fun H3 e3 => h2 H3 ((e.trans e2).trans e3) _ fun H4 e4 => ⟨p, xs, rfl, Evl.ex_l (e3.trans e4) hs, fun r hr => q r _ (Evl.fresh_back ((e2.trans e3).trans e4) hr) (((e2.trans e3).trans e4).trans (Ex.new hr)) upd_same⟩
theorem el_cut {o1 o2 : Nat} {z1 z2 : Int} (h : EvQ K te σ H (nv ns)) (h1 : Ev ta σ H (.int z1)) (h2 : Ev tb σ H (.int z2)) (e1 : z1 = (o1 : Int)) (e2 : z2 = (o2 : Int)) : EvL (tSl (rSlL K) te (tPart ta) (tPart tb)) σ H (nv ((ns.drop o1).take (o2 - o1))) :=
  el_is (el_slice h (Evl.eo_some h1) (Evl.eo_some h2)) (by rw [e1, e2, cut_nn, nv_drop, nv_take])
theorem el_to {o2 : Nat} {z2 : Int} (h : EvQ K te σ H (nv ns)) (h2 : Ev tb σ H (.int z2)) (e2 : z2 = (o2 : Int)) : EvL (tSl (rSlL K) te tNoPart (tPart tb)) σ H (nv (ns.take o2)) :=
  el_is (el_slice h Evl.eo_none (Evl.eo_some h2)) (by rw [e2, cut_to, nv_take])
theorem el_from {o1 : Nat} {z1 : Int} (h : EvQ K te σ H (nv ns)) (h1 : Ev ta σ H (.int z1)) (e1 : z1 = (o1 : Int)) : EvL (tSl (rSlL K) te (tPart ta) tNoPart) σ H (nv (ns.drop o1)) :=
  el_is (el_slice h (Evl.eo_some h1) Evl.eo_none) (by rw [e1, cut_from, nv_drop])
theorem ev_len {xs : List V} (h : EvQ K te σ H xs) : Ev (tCB (Evl.rLenS K) (tCons te tNil)) σ H (.int (xs.length : Int)) := fun H1 e Q q => h H1 e _ fun p H2 e2 hs => ⟨p, xs, rfl, .inl hs, q H2 e2⟩
theorem ev_item {l : List Nat} {i n : Nat} {z : Int} (h : EvQ K ta σ H (nv l)) (hi : Ev tb σ H (.int z)) (hz : z = (i : Int)) (hn : l[i]? = some n) : Ev (tOp (rIxL K) ta tb) σ H (.int (n : Int)) := fun H1 e Q q =>
  h H1 e _ fun p H2 e2 hs => hi H2 (e.trans e2) _ fun H3 e3 => ⟨p, _, z, _, rfl, rfl, Evl.ex_l e3 hs, by rw [hz]; exact at_nv hn, q H3 (e2.trans e3)⟩
theorem ev_add {i j : Int} (ha : Ev ta σ H (.int i)) (hb : Ev tb σ H (.int j)) : Ev (tOp (rI0 fun i j => .int (i + j)) ta tb) σ H (.int (i + j)) := Evl.ev_op ha hb Evl.rv_I0
theorem ev_sub {i j : Int} (ha : Ev ta σ H (.int i)) (hb : Ev tb σ H (.int j)) : Ev (tOp (rI0 fun i j => .int (i - j)) ta tb) σ H (.int (i - j)) := Evl.ev_op ha hb Evl.rv_I0
theorem ev_mul {i j : Int} (ha : Ev ta σ H (.int i)) (hb : Ev tb σ H (.int j)) (hc : CMul i j) : Ev (tOp (rI CMul fun i j => .int (i * j)) ta tb) σ H (.int (i * j)) := Evl.ev_op ha hb (Evl.rv_I hc)
theorem ev_div {i j : Int} (ha : Ev ta σ H (.int i)) (hb : Ev tb σ H (.int j)) (hc : CDivW i j) : Ev (tOp (rI CDivW fun i j => .int (i / j)) ta tb) σ H (.int (i / j)) := Evl.ev_op ha hb (Evl.rv_I hc)
theorem ev_mod {i j : Int} (ha : Ev ta σ H (.int i)) (hb : Ev tb σ H (.int j)) (hc : 0 < j) : Ev (tOp (rI (fun _ j => 0 < j) fun i j => .int (i % j)) ta tb) σ H (.int (i % j)) := Evl.ev_op ha hb (Evl.rv_I hc)
theorem et_eqI {i j : Int} (ha : Ev ta σ H (.int i)) (hb : Ev tb σ H (.int j)) : EvT (tTest (tOp rEq ta tb)) σ H (decide (i = j)) := Evl.et_is (Evl.et_test (Evl.ev_op ha hb (Evl.rv_eq rfl))) dInt
theorem et_neI {i j : Int} (ha : Ev ta σ H (.int i)) (hb : Ev tb σ H (.int j)) : EvT (tTest (tOp rNe ta tb)) σ H (!decide (i = j)) := Evl.et_is (Evl.et_test (Evl.ev_op ha hb (Evl.rv_ne rfl))) (by rw [dInt])
theorem et_I0 {i j : Int} {g : Int → Int → Bool} (ha : Ev ta σ H (.int i)) (hb : Ev tb σ H (.int j)) : EvT (tTest (tOp (rI0 fun i j => .bl (g i j)) ta tb)) σ H (g i j) := Evl.et_test (Evl.ev_op ha hb Evl.rv_I0)
/-! calls -/
theorem el_rows_of (h : EvQ K te σ H (nv ns)) (hz : ns.length ≤ 10000) : EvL (tCallS (spRowsOf K) (fun _ => E0) (tCons te tNil)) σ H (nv (Sd62.words ns)) := fun H1 e Q q =>
  h H1 e _ fun p H2 e2 hs => ⟨⟨p, ns⟩, rfl, hs, hz, fun r H3 hr e3 h3 => q r H3 (Evl.fresh_back e2 hr) (e2.trans e3) h3⟩
theorem el_number_row {n : Nat} (h : Ev te σ H (.int (n : Int))) : EvL (tCallS spNumberRow (fun _ => E0) (tCons te tNil)) σ H (nv (Sd62.spread n 8)) := fun H1 e Q q =>
  h H1 e _ fun H2 e2 => ⟨n, rfl, fun r H3 hr e3 h3 => q r H3 (Evl.fresh_back e2 hr) (e2.trans e3) h3⟩
theorem ev_number_in (h : EvQ K te σ H (nv ns)) : Ev (tCallS (spNumberIn K) (fun _ => E0) (tCons te tNil)) σ H (.int (numOf ns : Int)) := fun H1 e Q q =>
  h H1 e _ fun p H2 e2 hs => ⟨⟨p, ns⟩, rfl, hs, fun H3 e3 => q H3 (e2.trans e3)⟩
theorem el_numbers_in (h : EvQ K te σ H (nv ns)) (hz : ns.length ≤ 40000) : EvL (tCallS (spNumbersIn K) (fun _ => E0) (tCons te tNil)) σ H (nv (numsOf ns)) := fun H1 e Q q =>
  h H1 e _ fun p H2 e2 hs => ⟨⟨p, ns⟩, rfl, hs, hz, fun r H3 hr e3 h3 => q r H3 (Evl.fresh_back e2 hr) (e2.trans e3) h3⟩
theorem ev_number_count {n : Nat} {z : Int} (h : Ev te σ H (.int z)) (hz : z = (n : Int)) (hw : isW n) : Ev (tCallS spNumberCount (fun _ => E0) (tCons te tNil)) σ H (.int (countOf n : Int)) := fun H1 e Q q =>
  h H1 e _ fun H2 e2 => ⟨n, by rw [hz], hw, fun H3 e3 => q H3 (e2.trans e3)⟩
theorem ev_has_all {c u : Nat} (ha : Ev ta σ H (.int (c : Int))) (hb : Ev tb σ H (.int (u : Int))) : Ev (tCallS spHasAll (fun _ => E0) (tCons ta (tCons tb tNil))) σ H (.bl (hasAllB c u)) := fun H1 e Q q =>
  ha H1 e _ fun H2 e2 => hb H2 (e.trans e2) _ fun H3 e3 => ⟨⟨c, u⟩, rfl, fun H4 e4 => q H4 ((e2.trans e3).trans e4)⟩
theorem el_part {f : Foot} {s : Sd62.St} {n : Nat} {z : Int} (hc : StC C H f s) (wf : Wf s) (ho : Ev te σ H (.ref f.a)) (hn : Ev ta σ H (.int z)) (hz : z = (n : Int)) (hw : isW n) : EvL (tMethS C "part" (spPart C) te (tCons ta tNil)) σ H (nv (partOf s n)) := fun H1 e Q q =>
  ho H1 e _ fun H2 e2 => ⟨f.a, f.dx, sF f, rfl, (hc.mono (e.trans e2)).ins, sF_part f, hn H2 (e.trans e2) _ fun H3 e3 => ⟨⟨f, s, n⟩, by rw [hz], hc.mono ((e.trans e2).trans e3), wf, hw, fun r H4 hr e4 h4 => q r H4 (Evl.fresh_back (e2.trans e3) hr) ((e2.trans e3).trans e4) h4⟩⟩
theorem ev_used {f : Foot} {s : Sd62.St} (hc : StC C H f s) (wf : Wf s) (ho : Ev te σ H (.ref f.a)) : Ev (tMeth0 C "used" (spUsed C) te) σ H (.int (Sd62.used s : Int)) := fun H1 e Q q =>
  ho H1 e _ fun H2 e2 => ⟨f.a, f.dx, sF f, rfl, (hc.mono (e.trans e2)).ins, sF_used f, ⟨f, s⟩, rfl, hc.mono (e.trans e2), wf, fun H3 e3 => q H3 (e2.trans e3)⟩
end
/-! ### forms -/
def headOf (s : Sd62.St) (c : Nat) : List Nat := Sd62.legacy s ++ Sd62.header (Sd62.used s) c
def spHeadOf (C : Addr) : Sp := spOf (fun (⟨f, _, n⟩ : Foot × Sd62.St × Nat) => [.ref f.a, .int (n : Int)]) fun ⟨f, s, n⟩ H Q _ => StC C H f s ∧ Wf s ∧ RetL (nv (headOf s n)) H Q
def byteOf (s : Sd62.St) : Nat := Sd62.bit (Sd62.some0 s.m) 255
def cellOf (s : Sd62.St) (x : Nat) : List Nat := Sd62.spread x 8 ++ ([byteOf s, byteOf s] ++ Sd62.zeros 6)
theorem cell_len (s : Sd62.St) : ∀ l : List Nat, (l.flatMap (cellOf s)).length = 16 * l.length
  | [] => rfl
  | x :: l => by
    rw [List.flatMap_cons, List.length_append, cell_len s l, List.length_cons]
    show (Sd62.spread x 8 ++ ([byteOf s, byteOf s] ++ Sd62.zeros 6)).length + _ = _
    rw [List.length_append, spread_length]
    show 8 + 8 + _ = _
    omega
theorem flatMap_take_succ {α β : Type} (g : α → List β) {l : List α} {i : Nat} {x : α} (h : l[i]? = some x) : (l.take (i + 1)).flatMap g = (l.take i).flatMap g ++ g x := by
  rw [List.take_succ, h, Option.toList_some, List.flatMap_append, List.flatMap_cons, List.flatMap_nil, List.append_nil]
section
variable {P : Program} {w : World} {K : PySem.W.Frag} {mg : Str → Option Value} {base : Heap} {A : Ad}
theorem ok_head_of (T : Txt K mg A) : Cal P w K mg base 4 "head_of" (spHeadOf A.cState) := by
  have c_State_used := ok_used (P := P) (w := w) (base := base) T
  have c_State_part := ok_part (P := P) (w := w) (base := base) T
  have c_number_row := ok_number_row (P := P) (w := w) (base := base) T
  have c_rows_of := ok_rows_of (P := P) (w := w) (base := base) T
  refine Cal.of T.D_head_of sc_head_of (spOf_len fun ⟨_, _, _⟩ => rfl) fun f cdv A' outer s H vs Q E hr h => ?_
  have nd := sc_head_of.nd
  obtain ⟨⟨f, st, n⟩, hv, hc, wf, k⟩ := h
  obtain rfl : vs = [V.ref f.a, V.int (n : Int)] := hv
  refine ⟨_, (pss_cons (ps_set (i := 2) nd rfl (Or.inl rfl) (pe_m0 T.cl_State c_State_used hr (by decide) (pv 0)))
 (pss_cons (ps_set (i := 3) nd rfl (Or.inl rfl) (pe_ifExp (pt_cmpR op_eq (pe_op op_mod (pv 2) pe_int) pe_int (nomark _)) pe_int pe_int))
 (pss_cons (ps_set (i := 4) nd rfl (Or.inl rfl) (pe_op (op_catK (K := K) rfl) (pe_op (op_catK (K := K) rfl) (pe_op (op_catK (K := K) rfl) (pe_gv rfl T.g_HEAD) (pe_lst (pa_cons (pv 3) pa_nil))) (pe_op op_rep (pe_lst (pa_cons pe_int pa_nil)) pe_int)) (pe_gv rfl T.g_MARKS)))
 (pss_cons (ps_for PassesOwn.never rfl (pi_listK (K := K) rfl (pe_m T.cl_State c_State_part hr (by decide) (pv 0) (pa_cons (pe_gv rfl T.g_BASIC) pa_nil))) (pg_name (i := 5) nd rfl (Or.inl rfl)) (pss_one (ps_set (i := 4) nd rfl (Or.inl rfl) (pe_op (op_catK (K := K) rfl) (pe_op (op_catK (K := K) rfl) (pe_op (op_catK (K := K) rfl) (pv 4) (pe_c c_number_row hr (by decide) rfl (pa_cons (pv 5) pa_nil))) (pe_lst (pa_cons (pv 3) (pa_cons (pv 3) pa_nil)))) (pe_op op_rep (pe_lst (pa_cons pe_int pa_nil)) pe_int)))))
 (pss_cons (ps_set (i := 4) nd rfl (Or.inl rfl) (pe_op (op_catK (K := K) rfl) (pe_op (op_catK (K := K) rfl) (pv 4) (pe_c c_rows_of hr (by decide) rfl (pa_cons (pe_m T.cl_State c_State_part hr (by decide) (pv 0) (pa_cons (pe_gv rfl T.g_LOW_LANES) pa_nil)) pa_nil))) (pe_op op_rep (pe_lst (pa_cons pe_int pa_nil)) pe_int)))
 (pss_one (ps_ret (pe_op (op_catK (K := K) rfl) (pe_op (op_catK (K := K) rfl) (pe_op (op_catK (K := K) rfl) (pv 4) (pe_c c_number_row hr (by decide) rfl (pa_cons (pv 2) pa_nil))) (pe_c c_number_row hr (by decide) rfl (pa_cons (pv 1) pa_nil))) (pe_op op_rep (pe_lst (pa_cons pe_int pa_nil)) pe_int))))))))), ?_⟩
  refine Evl.q_asg (ev_used hc wf (Evl.ev_var rfl)) fun H1 e1 => ?_
  refine Evl.q_asg (v := .int (byteOf st : Int)) (Evl.ev_if (et_eqI (ev_mod (Evl.ev_var rfl) Evl.ev_c (by decide)) Evl.ev_c) (fun hb => ?_) (fun hb => ?_)) fun H2 e2 => ?_
  · have h1 : Sd62.used st % 2 = 1 := by
      have := of_decide_eq_true hb
      omega
    have h2 : byteOf st = 255 := by
      unfold byteOf
      rw [(used_odd st).mp h1]
      rfl
    rw [h2]
    exact Evl.ev_c
  · have h1 : ¬ Sd62.used st % 2 = 1 := by
      have := of_decide_eq_false hb
      omega
    have h2 : byteOf st = 0 := by
      unfold byteOf
      cases hm : Sd62.some0 st.m with
      | true => exact absurd ((used_odd st).mpr hm) h1
      | false => rfl
    rw [h2]
    exact Evl.ev_c
  have hc2 := (hc.mono e1).mono e2
  refine Evl.q_asgL (xs := nv ((([127, 3, 0, 0] ++ [byteOf st]) ++ List.replicate 19 0) ++ [128, 31, 0, 0, 255, 255, 0, 0])) (el_cat (eq_new (el_cat (eq_new (el_cat (eq_glob T.l_HEAD) (eq_new (el_one (Evl.ev_var rfl))) (by simp))) (eq_new (el_rep (n := 0) Evl.ev_c Evl.ev_c rfl (by decide))) (by simp))) (eq_glob T.l_MARKS) (by simp)) fun l H3 hl e3 h3 => ?_
  have hc3 := hc2.mono e3
  generalize hpre : (([127, 3, 0, 0] ++ [byteOf st]) ++ List.replicate 19 0) ++ [128, 31, 0, 0, 255, 255, 0, 0] = pre at h3
  have hprel : pre.length = 32 := by rw [← hpre]; simp
  refine Evl.q_forNLn (K := K) (el_part (n := 1) hc3 wf (Evl.ev_var rfl) Evl.ev_c rfl (.inl rfl)) (fun p i σ H' => Ex H3 H' ∧ H' p = some (.lst (nv st.m)) ∧ ∃ (l : Addr) (v : Option V), σ = [some (.ref f.a), some (.int (n : Int)), some (.int (Sd62.used st : Int)), some (.int (byteOf st : Int)), some (.ref l), v] ∧ SqL K H' l (nv (pre ++ (st.m.take i).flatMap (cellOf st))))
    (fun p H4 _ e4 h4 => ⟨e4, h4, l, none, rfl, SqL.of ((e4 _ _ h3).trans (by rw [List.take_zero, List.flatMap_nil, List.append_nil]))⟩) (fun p i σ H' _ h => SqL.of h.2.1) ?_ ?_
  · rintro p i x σ H4 hx ⟨e4, hp4, l4, v4, rfl, hl4⟩
    obtain ⟨m, hm, rfl⟩ := nv_get_of hx
    rw [part_1] at hm
    have him := (List.getElem?_eq_some_iff.mp hm).1
    have him8 : i < 8 := by rw [← wf.m8]; exact him
    have hlen : (pre ++ (st.m.take i).flatMap (cellOf st)).length ≤ 1000 := by
      rw [List.length_append, hprel, cell_len, List.length_take]
      omega
    refine Evl.s_asgL (xs := nv (((pre ++ (st.m.take i).flatMap (cellOf st)) ++ Sd62.spread m 8) ++ [byteOf st, byteOf st] ++ List.replicate 6 0)) (el_cat (eq_new (el_cat (eq_new (el_cat (eq_var rfl hl4) (eq_new (el_number_row (Evl.ev_var rfl))) ?_)) (eq_new (el_two (Evl.ev_var rfl) (Evl.ev_var rfl))) ?_)) (eq_new (el_rep (n := 0) Evl.ev_c Evl.ev_c rfl (by decide))) ?_) fun l5 H5 hl5 e5 h5 => ?_
    · rw [spread_length]; omega
    · rw [List.length_append, spread_length]; show _ + 2 ≤ _; omega
    · rw [List.length_append, List.length_append, spread_length, List.length_replicate]; show _ + 2 + _ ≤ _; omega
    · refine ⟨e4.trans e5, e5 _ _ hp4, l5, some (.int (m : Int)), rfl, SqL.of (h5.trans ?_)⟩
      rw [flatMap_take_succ (cellOf st) hm]
      show some (HO.lst (nv (pre ++ (st.m.take i).flatMap (cellOf st) ++ Sd62.spread m 8 ++ [byteOf st, byteOf st] ++ List.replicate 6 0))) = some (HO.lst (nv (pre ++ ((st.m.take i).flatMap (cellOf st) ++ (Sd62.spread m 8 ++ ([byteOf st, byteOf st] ++ Sd62.zeros 6))))))
      simp only [List.append_assoc]
      rfl
  · rintro p σ H4 ⟨e4, hp4, l4, v4, rfl, hl4⟩
    rw [nv_length, part_1, List.take_length] at hl4
    have hc4 := hc3.mono e4
    have hlm : ((st.m).flatMap (cellOf st)).length = 128 := by rw [cell_len, wf.m8]
    have hl2 : (Sd62.words (partOf st 2)).length = 256 := by rw [words_length, part_len wf (.inr (.inl rfl))]; rfl
    have hp2 : (partOf st 2).length ≤ 10000 := by rw [part_len wf (.inr (.inl rfl))]; decide
    refine Evl.q_asgL (xs := nv (((pre ++ (st.m).flatMap (cellOf st)) ++ Sd62.words (partOf st 2)) ++ List.replicate 96 0)) (el_cat (eq_new (el_cat (eq_var rfl hl4) (eq_new (el_rows_of (eq_new (el_part (n := 2) hc4 wf (Evl.ev_var rfl) Evl.ev_c rfl (.inr (.inl rfl)))) hp2)) ?_)) (eq_new (el_rep (n := 0) Evl.ev_c Evl.ev_c rfl (by decide))) ?_) fun l5 H5 hl5 e5 h5 => ?_
    · rw [List.length_append]; omega
    · rw [List.length_append, List.length_append, List.length_replicate]; omega
    refine Evl.s_retL (xs := nv (headOf st n)) (el_is (el_cat (eq_new (el_cat (eq_new (el_cat (eq_var rfl (SqL.of h5)) (eq_new (el_number_row (Evl.ev_var rfl))) ?_)) (eq_new (el_number_row (Evl.ev_var rfl))) ?_)) (eq_new (el_rep (n := 0) (k := 48) Evl.ev_c Evl.ev_c rfl (by decide))) ?_) ?_) fun p6 H6 hp6 e6 h6 => ?_
    · rw [List.length_append, List.length_append, List.length_append, List.length_replicate, spread_length]; omega
    · rw [List.length_append, List.length_append, List.length_append, List.length_append, List.length_replicate, spread_length, spread_length]; omega
    · rw [List.length_append, List.length_append, List.length_append, List.length_append, List.length_append, List.length_replicate, List.length_replicate, spread_length, spread_length]; omega
    · refine congrArg nv ?_
      rw [← hpre, part_2]
      unfold headOf Sd62.legacy Sd62.header Sd62.zeros
      show _ = ([127, 3, 0, 0, byteOf st] ++ (List.replicate 19 0 ++ ([128, 31, 0, 0, 255, 255, 0, 0] ++ (st.m.flatMap (cellOf st) ++ (Sd62.words (Sd62.lanesOf st 0 16 0 2) ++ List.replicate 96 0))))) ++ (Sd62.spread (Sd62.used st) 8 ++ (Sd62.spread n 8 ++ List.replicate 48 0))
      simp only [List.append_assoc]
      rfl
    · exact k p6 H6 (Evl.fresh_back ((((e1.trans e2).trans e3).trans e4).trans e5) hp6) (((((e1.trans e2).trans e3).trans e4).trans e5).trans e6) h6
theorem head_len {s : Sd62.St} (wf : Wf s) (n : Nat) : (headOf s n).length = 576 := by
  unfold headOf Sd62.legacy Sd62.header Sd62.zeros
  rw [← part_2]
  have h1 : (s.m.flatMap fun x => Sd62.spread x 8 ++ ([Sd62.bit (Sd62.some0 s.m) 255, Sd62.bit (Sd62.some0 s.m) 255] ++ List.replicate 6 0)).length = 128 := by
    have h := cell_len s s.m
    rw [wf.m8] at h
    exact h
  have h2 : (Sd62.words (partOf s 2)).length = 256 := by rw [words_length, part_len wf (.inr (.inl rfl))]; rfl
  simp only [List.length_append, List.length_cons, List.length_nil, List.length_replicate, spread_length, h1, h2]
theorem and_pow {u k : Nat} : (u &&& 2 ^ k = 0) ↔ u / 2 ^ k % 2 = 0 := by
  have e : (u &&& 2 ^ k = 0) ↔ u.testBit k = false := by
    constructor
    · intro h
      have h2 := congrArg (fun x => x.testBit k) h
      simp only [Nat.testBit_and, Nat.testBit_two_pow, Nat.zero_testBit, decide_true, Bool.and_true] at h2
      exact h2
    · intro h
      apply Nat.eq_of_testBit_eq
      intro i
      rw [Nat.testBit_and, Nat.testBit_two_pow, Nat.zero_testBit]
      by_cases hi : k = i
      · subst hi; rw [h]; rfl
      · rw [decide_eq_false hi, Bool.and_false]
  rw [e, Nat.testBit_eq_decide_div_mod_eq, decide_eq_false_iff_not]
  omega
def moreOf (s : Sd62.St) (w : Nat) : List Nat := if Sd62.used s / w % 2 = 1 then Sd62.words (partOf s w) else []
theorem short_of {s : Sd62.St} (wf : Wf s) : Sd62.short s = headOf s (2 ^ 63 + Sd62.used s) ++ ([4, 32, 64, 128] : List Nat).flatMap (moreOf s) := by
  unfold Sd62.short headOf
  have key : ∀ (k : Nat), (if Sd62.used s &&& 2 ^ k = 0 then ([] : List Nat) else Sd62.words (partOf s (2 ^ k))) = moreOf s (2 ^ k) := fun k => by
    unfold moreOf
    by_cases h : Sd62.used s / 2 ^ k % 2 = 0
    · rw [if_pos (and_pow.mpr h), if_neg (by omega)]
    · rw [if_neg (fun z => h (and_pow.mp z)), if_pos (by omega)]
  have k2 := key 2
  have k5 := key 5
  have k6 := key 6
  have k7 := key 7
  simp only [show (2 : Nat) ^ 2 = 4 by decide, show (2 : Nat) ^ 5 = 32 by decide, show (2 : Nat) ^ 6 = 64 by decide, show (2 : Nat) ^ 7 = 128 by decide] at k2 k5 k6 k7
  rw [part_4] at k2
  rw [part_32] at k5
  rw [part_64] at k6
  rw [part_128 wf] at k7
  show Sd62.legacy s ++ (Sd62.header (Sd62.used s) (2 ^ 63 + Sd62.used s) ++ ((if Sd62.used s &&& 4 = 0 then ([] : List Nat) else Sd62.words (Sd62.lanesOf s 0 16 2 2)) ++ ((if Sd62.used s &&& 32 = 0 then ([] : List Nat) else Sd62.words s.k) ++ ((if Sd62.used s &&& 64 = 0 then ([] : List Nat) else Sd62.words (Sd62.lanesOf s 0 16 4 4)) ++ (if Sd62.used s &&& 128 = 0 then ([] : List Nat) else Sd62.words (Sd62.lanesOf s 16 16 0 8)))))) = _
  rw [k2, k5, k6, k7]
  simp only [List.flatMap_cons, List.flatMap_nil, List.append_nil, List.append_assoc]
def isMac (c : Nat) : Prop := c = 3 ∨ c = 7 ∨ c = 231
def spLongForm (C : Addr) : Sp := spOf (fun (⟨f, _, n⟩ : Foot × Sd62.St × Nat) => [.ref f.a, .int (n : Int)]) fun ⟨f, s, n⟩ H Q _ => StC C H f s ∧ Wf s ∧ isMac n ∧ RetL (nv (Sd62.long n s)) H Q
def spShortForm (C : Addr) : Sp := spOf (fun (⟨f, _⟩ : Foot × Sd62.St) => [.ref f.a]) fun ⟨f, s⟩ H Q _ => StC C H f s ∧ Wf s ∧ RetL (nv (Sd62.short s)) H Q
def formOf (s : Sd62.St) (how p : Nat) : List Nat := if how = 0 then Sd62.long p s else Sd62.short s
def spFormOf (C : Addr) : Sp := spOf (fun (⟨f, _, n, c⟩ : Foot × Sd62.St × Nat × Nat) => [.ref f.a, .int (n : Int), .int (c : Int)]) fun ⟨f, s, n, c⟩ H Q _ => StC C H f s ∧ Wf s ∧ isMac c ∧ RetL (nv (formOf s n c)) H Q
theorem el_head_of {σ : L2.St} {H : Hp} {ta tb : TE} {C : Addr} {f : Foot} {s : Sd62.St} {n : Nat} {z : Int} (hc : StC C H f s) (wf : Wf s) (ha : Ev ta σ H (.ref f.a)) (hb : Ev tb σ H (.int z)) (hz : z = (n : Int)) : EvL (tCallS (spHeadOf C) (fun _ => E0) (tCons ta (tCons tb tNil))) σ H (nv (headOf s n)) := fun H1 e Q q =>
  ha H1 e _ fun H2 e2 => hb H2 (e.trans e2) _ fun H3 e3 => ⟨⟨f, s, n⟩, by rw [hz], hc.mono ((e.trans e2).trans e3), wf, fun r H4 hr e4 h4 => q r H4 (Evl.fresh_back (e2.trans e3) hr) ((e2.trans e3).trans e4) h4⟩
theorem more_len {s : Sd62.St} (wf : Wf s) {w : Nat} (hw : isW w) : (Sd62.words (partOf s w)).length ≤ 1024 := by
  rw [words_length, part_len wf hw]
  unfold countOf fstL lstL
  rcases hw with rfl | rfl | rfl | rfl | rfl | rfl <;> decide
theorem el_rows_part {σ : L2.St} {H : Hp} {to tn : TE} {C : Addr} {f : Foot} {s : Sd62.St} {n : Nat} {z : Int} (hc : StC C H f s) (wf : Wf s) (ho : Ev to σ H (.ref f.a)) (hn : Ev tn σ H (.int z)) (hz : z = (n : Int)) (hw : isW n) :
    EvL (tCallS (spRowsOf K) (fun _ => E0) (tCons (tMethS C "part" (spPart C) to (tCons tn tNil)) tNil)) σ H (nv (Sd62.words (partOf s n))) := by
  refine el_rows_of (eq_new (el_part hc wf ho hn hz hw)) ?_
  have := more_len wf hw
  rw [words_length] at this
  omega
theorem ok_long_form (T : Txt K mg A) : Cal P w K mg base 5 "long_form" (spLongForm A.cState) := by
  have c_head_of := ok_head_of (P := P) (w := w) (base := base) T
  have c_State_part := ok_part (P := P) (w := w) (base := base) T
  have c_rows_of := ok_rows_of (P := P) (w := w) (base := base) T
  refine Cal.of T.D_long_form sc_long_form (spOf_len fun ⟨_, _, _⟩ => rfl) fun f cdv A' outer s H vs Q E hr h => ?_
  have nd := sc_long_form.nd
  obtain ⟨⟨f, st, n⟩, hv, hc, wf, hm, k⟩ := h
  obtain rfl : vs = [V.ref f.a, V.int (n : Int)] := hv
  refine ⟨_, (pss_cons (ps_set (i := 2) nd rfl (Or.inl rfl) (pe_c c_head_of hr (by decide) rfl (pa_cons (pv 0) (pa_cons pe_int pa_nil))))
 (pss_cons (ps_if (pt_cmpR op_gt (pv 1) pe_int (nomark _)) (pss_one (ps_set (i := 2) nd rfl (Or.inl rfl) (pe_op (op_catK (K := K) rfl) (pv 2) (pe_c c_rows_of hr (by decide) rfl (pa_cons (pe_m T.cl_State c_State_part hr (by decide) (pv 0) (pa_cons (pe_gv rfl T.g_NEXT_LANES) pa_nil)) pa_nil))))) pss_nil)
 (pss_cons (ps_if (pt_cmpR op_gt (pv 1) pe_int (nomark _)) (pss_cons (ps_set (i := 2) nd rfl (Or.inl rfl) (pe_op (op_catK (K := K) rfl) (pv 2) (pe_op op_rep (pe_lst (pa_cons pe_int pa_nil)) (pe_gv rfl T.g_GAP_SIZE))))
 (pss_one (ps_for PassesOwn.never rfl (pi_tupK (K := K) rfl (pe_slice (sl_tupK (K := K) rfl) (pe_gv rfl T.g_MORE) (po_some pe_int) po_none)) (pg_name (i := 3) nd rfl (Or.inl rfl)) (pss_one (ps_set (i := 2) nd rfl (Or.inl rfl) (pe_op (op_catK (K := K) rfl) (pv 2) (pe_c c_rows_of hr (by decide) rfl (pa_cons (pe_m T.cl_State c_State_part hr (by decide) (pv 0) (pa_cons (pv 3) pa_nil)) pa_nil)))))))) pss_nil)
 (pss_one (ps_ret (pv 2)))))), ?_⟩
  refine Evl.q_asgL (el_head_of (n := 0) hc wf (Evl.ev_var rfl) Evl.ev_c rfl) fun l H1 hl e1 h1 => ?_
  have hc1 := hc.mono e1
  have hlen := head_len wf 0
  refine Evl.q_when (et_I0 (Evl.ev_var rfl) Evl.ev_c) (fun hb H2 e2 => ?_) (fun hb H2 e2 => ?_)
  · have hn : n = 7 ∨ n = 231 := by
      have := of_decide_eq_true hb
      unfold isMac at hm
      omega
    have hl4 := more_len wf (w := 4) (.inr (.inr (.inl rfl)))
    refine Evl.s_asgL (el_cat (eq_var rfl (SqL.of (e2 _ _ h1))) (eq_new (el_rows_part (n := 4) (hc1.mono e2) wf (Evl.ev_var rfl) Evl.ev_c rfl (.inr (.inr (.inl rfl))))) (by omega)) fun l2 H3 hl2 e3 h3 => ?_
    have hc3 := (hc1.mono e2).mono e3
    refine Evl.q_when (et_I0 (Evl.ev_var rfl) Evl.ev_c) (fun hb2 H4 e4 => ?_) (fun hb2 H4 e4 => ?_)
    · have hn2 : n = 231 := by
        have := of_decide_eq_true hb2
        omega
      subst hn2
      have hlen2 : (headOf st 0 ++ Sd62.words (partOf st 4)).length ≤ 2000 := by rw [List.length_append]; omega
      refine Evl.q_asgL (el_cat (eq_var rfl (SqL.of (e4 _ _ h3))) (eq_new (el_rep (n := 0) (k := 256) Evl.ev_c Evl.ev_c rfl (by decide))) (by rw [List.length_replicate]; omega)) fun l3 H5 hl3 e5 h5 => ?_
      have hc5 := (hc3.mono e4).mono e5
      generalize hpre : headOf st 0 ++ Sd62.words (partOf st 4) ++ List.replicate 256 0 = pre at h5
      have hprel : pre.length ≤ 3000 := by rw [← hpre, List.length_append, List.length_replicate]; omega
      refine ⟨_, rfl, A.aMORE, _, rfl, T.t_MORE _, by decide, fun p hp => ?_⟩
      have e6 : Ex H5 (upd H5 p (.tup (cutV (nv [4, 32, 64, 128]) (some 1) none))) := Ex.new hp
      have h6 : upd H5 p (.tup (cutV (nv [4, 32, 64, 128]) (some 1) none)) p = some (.tup (nv [32, 64, 128])) := upd_same
      generalize upd H5 p (.tup (cutV (nv [4, 32, 64, 128]) (some 1) none)) = H6 at e6 h6 ⊢
      refine ⟨p, rfl, ⟨_, SqT.of h6⟩, for_tup (K := K) (a := p) (xs := nv [32, 64, 128]) (fun i σ H' => Ex H6 H' ∧ ∃ (l : Addr) (v : Option V), σ = [some (.ref f.a), some (.int (231 : Int)), some (.ref l), v] ∧ H l = none ∧ H' l = some (.lst (nv (pre ++ (([32, 64, 128] : List Nat).take i).flatMap fun w => Sd62.words (partOf st w)))))
        ⟨Ex.refl _, l3, none, rfl, Evl.fresh_back (((e1.trans e2).trans e3).trans e4) hl3, (e6 _ _ h5).trans (by rw [List.take_zero, List.flatMap_nil, List.append_nil])⟩ (fun i σ H' _ h => Evl.ex_t h.1 (SqT.of h6)) ?_ ?_⟩
      · rintro i x σ H7 hx ⟨e7, l7, v7, rfl, f7, hl7⟩
        obtain ⟨wt, hw, rfl⟩ := nv_get_of hx
        have hwt : isW wt := by
          have h := List.mem_of_getElem? hw
          have h2 : wt = 32 ∨ wt = 64 ∨ wt = 128 := by simpa using h
          exact .inr (.inr (.inr h2))
        have hi3 : i < 3 := (List.getElem?_eq_some_iff.mp hw).1
        have hml := more_len wf hwt
        have hsz : (pre ++ (([32, 64, 128] : List Nat).take i).flatMap fun w => Sd62.words (partOf st w)).length ≤ 3000 + 3072 := by
          rw [List.length_append]
          have q1 := more_len wf (w := 32) (.inr (.inr (.inr (.inl rfl))))
          have q2 := more_len wf (w := 64) (.inr (.inr (.inr (.inr (.inl rfl)))))
          match i, hi3 with
          | 0, _ => simp; omega
          | 1, _ => simp; omega
          | 2, _ => simp; omega
        refine Evl.s_asgL (el_cat (eq_var rfl (SqL.of hl7)) (eq_new (el_rows_part (n := wt) ((hc5.mono e6).mono e7) wf (Evl.ev_var rfl) (Evl.ev_var rfl) rfl hwt)) (by omega)) fun l8 H8 hl8 e8 h8 => ?_
        refine ⟨e7.trans e8, l8, some (.int (wt : Int)), rfl, Evl.fresh_back ((((((e1.trans e2).trans e3).trans e4).trans e5).trans e6).trans e7) hl8, h8.trans ?_⟩
        rw [flatMap_take_succ _ hw, List.append_assoc]
      · rintro σ H7 ⟨e7, l7, v7, rfl, f7, hl7⟩
        have hfin : pre ++ (([32, 64, 128] : List Nat).take 3).flatMap (fun w => Sd62.words (partOf st w)) = Sd62.long 231 st := by
          rw [← hpre]
          unfold Sd62.long headOf
          rw [if_neg (by decide), if_pos rfl, ← part_4, ← part_64, ← part_128 wf]
          show _ = _ ++ (_ ++ (_ ++ (Sd62.zeros 256 ++ (Sd62.words (partOf st 32) ++ _))))
          simp only [List.take, List.flatMap_cons, List.flatMap_nil, List.append_nil, List.append_assoc]
          rfl
        have hl7' : H7 l7 = some (.lst (nv (Sd62.long 231 st))) := by rw [← hfin]; exact hl7
        exact ⟨_, rfl, k l7 H7 f7 ((((((e1.trans e2).trans e3).trans e4).trans e5).trans e6).trans e7) hl7'⟩
    · have hn2 : n = 7 := by
        have := of_decide_eq_false hb2
        omega
      subst hn2
      refine ⟨_, rfl, k l2 H4 (Evl.fresh_back (e1.trans e2) hl2) (((e1.trans e2).trans e3).trans e4) ((e4 _ _ h3).trans ?_)⟩
      unfold Sd62.long headOf
      rw [if_neg (by decide), if_neg (by decide), ← part_4, List.append_nil, List.append_assoc]
  · have hn : n = 3 := by
      have := of_decide_eq_false hb
      unfold isMac at hm
      omega
    subst hn
    refine Evl.q_when (et_I0 (Evl.ev_var rfl) Evl.ev_c) (fun hb2 => absurd (of_decide_eq_true hb2) (by decide)) (fun hb2 H4 e4 => ?_)
    refine ⟨_, rfl, k l H4 hl ((e1.trans e2).trans e4) ((e4 _ _ (e2 _ _ h1)).trans ?_)⟩
    unfold Sd62.long headOf
    rw [if_pos rfl, if_neg (by decide), List.append_nil, List.append_nil]
theorem more_le {s : Sd62.St} (wf : Wf s) {w : Nat} (hw : isW w) : (moreOf s w).length ≤ 1024 := by
  unfold moreOf
  split
  · exact more_len wf hw
  · exact Nat.zero_le _
theorem ok_short_form (T : Txt K mg A) : Cal P w K mg base 5 "short_form" (spShortForm A.cState) := by
  have c_head_of := ok_head_of (P := P) (w := w) (base := base) T
  have c_State_part := ok_part (P := P) (w := w) (base := base) T
  have c_State_used := ok_used (P := P) (w := w) (base := base) T
  have c_rows_of := ok_rows_of (P := P) (w := w) (base := base) T
  refine Cal.of T.D_short_form sc_short_form (spOf_len fun ⟨_, _⟩ => rfl) fun f cdv A' outer s H vs Q E hr h => ?_
  have nd := sc_short_form.nd
  obtain ⟨⟨f, st⟩, hv, hc, wf, k⟩ := h
  obtain rfl : vs = [V.ref f.a] := hv
  refine ⟨_, (pss_cons (ps_set (i := 1) nd rfl (Or.inl rfl) (pe_m0 T.cl_State c_State_used hr (by decide) (pv 0)))
 (pss_cons (ps_set (i := 2) nd rfl (Or.inl rfl) (pe_c c_head_of hr (by decide) rfl (pa_cons (pv 0) (pa_cons (pe_op op_add (pe_gv rfl T.g_SHORT_FORM) (pv 1)) pa_nil))))
 (pss_cons (ps_for PassesOwn.never rfl (pi_tupK (K := K) rfl (pe_gv rfl T.g_MORE)) (pg_name (i := 3) nd rfl (Or.inl rfl)) (pss_one (ps_if (pt_cmpR op_eq (pe_op op_mod (pe_op op_fdivW (pv 1) (pv 3)) pe_int) pe_int (nomark _)) (pss_one (ps_set (i := 2) nd rfl (Or.inl rfl) (pe_op (op_catK (K := K) rfl) (pv 2) (pe_c c_rows_of hr (by decide) rfl (pa_cons (pe_m T.cl_State c_State_part hr (by decide) (pv 0) (pa_cons (pv 3) pa_nil)) pa_nil))))) pss_nil)))
 (pss_one (ps_ret (pv 2)))))), ?_⟩
  refine Evl.q_asg (ev_used hc wf (Evl.ev_var rfl)) fun H1 e1 => ?_
  have hc1 := hc.mono e1
  refine Evl.q_asgL (el_head_of (n := 2 ^ 63 + Sd62.used st) hc1 wf (Evl.ev_var rfl) (ev_add Evl.ev_c (Evl.ev_var rfl)) (by omega)) fun l H2 hl e2 h2 => ?_
  have hc2 := hc1.mono e2
  have hlen := head_len wf (2 ^ 63 + Sd62.used st)
  rw [short_of wf] at k
  generalize headOf st (2 ^ 63 + Sd62.used st) = pre at k h2 hlen
  refine ⟨A.aMORE, rfl, ⟨_, T.t_MORE _⟩, for_tup (K := K) (a := A.aMORE) (xs := nv [4, 32, 64, 128]) (fun i σ H' => Ex H2 H' ∧ ∃ (l : Addr) (v : Option V), σ = [some (.ref f.a), some (.int (Sd62.used st : Int)), some (.ref l), v] ∧ H l = none ∧ H' l = some (.lst (nv (pre ++ (([4, 32, 64, 128] : List Nat).take i).flatMap (moreOf st)))))
    ⟨Ex.refl _, l, none, rfl, Evl.fresh_back e1 hl, h2.trans (by rw [List.take_zero, List.flatMap_nil, List.append_nil])⟩ (fun i σ H' _ _ => T.t_MORE H') ?_ ?_⟩
  · rintro i x σ H3 hx ⟨e3, l3, v3, rfl, f3, h3⟩
    obtain ⟨wt, hw, rfl⟩ := nv_get_of hx
    have hw4 : wt = 4 ∨ wt = 32 ∨ wt = 64 ∨ wt = 128 := by
      have h := List.mem_of_getElem? hw
      simpa using h
    have hwt : isW wt := by unfold isW; omega
    have hi4 : i < 4 := (List.getElem?_eq_some_iff.mp hw).1
    have hml := more_len wf hwt
    have hsz : (pre ++ (([4, 32, 64, 128] : List Nat).take i).flatMap (moreOf st)).length ≤ 576 + 4096 := by
      rw [List.length_append]
      have q0 := more_le wf (w := 4) (.inr (.inr (.inl rfl)))
      have q1 := more_le wf (w := 32) (.inr (.inr (.inr (.inl rfl))))
      have q2 := more_le wf (w := 64) (.inr (.inr (.inr (.inr (.inl rfl)))))
      match i, hi4 with
      | 0, _ => simp; omega
      | 1, _ => simp; omega
      | 2, _ => simp; omega
      | 3, _ => simp; omega
    have hstep : (([4, 32, 64, 128] : List Nat).take (i + 1)).flatMap (moreOf st) = (([4, 32, 64, 128] : List Nat).take i).flatMap (moreOf st) ++ moreOf st wt := flatMap_take_succ _ hw
    refine Evl.s_when (et_eqI (ev_mod (ev_div (Evl.ev_var rfl) (Evl.ev_var rfl) (divW (by omega) (by omega))) Evl.ev_c (by decide)) Evl.ev_c) (fun hb H4 e4 => ?_) (fun hb H4 e4 => ?_)
    · have hu : Sd62.used st / wt % 2 = 1 := by
        have h := of_decide_eq_true hb
        have h2 : ((Sd62.used st / wt % 2 : Nat) : Int) = 1 := h
        omega
      refine Evl.s_asgL (el_cat (eq_var rfl (SqL.of (e4 _ _ h3))) (eq_new (el_rows_part (n := wt) ((hc2.mono e3).mono e4) wf (Evl.ev_var rfl) (Evl.ev_var rfl) rfl hwt)) (by omega)) fun l5 H5 hl5 e5 h5 => ?_
      refine ⟨(e3.trans e4).trans e5, l5, some (.int (wt : Int)), rfl, Evl.fresh_back (((e1.trans e2).trans e3).trans e4) hl5, h5.trans ?_⟩
      rw [hstep, List.append_assoc]
      unfold moreOf
      rw [if_pos hu]
    · have hu : ¬ Sd62.used st / wt % 2 = 1 := by
        have h := of_decide_eq_false hb
        intro z
        exact h (by show ((Sd62.used st / wt % 2 : Nat) : Int) = 1; omega)
      refine ⟨e3.trans e4, l3, some (.int (wt : Int)), rfl, f3, (e4 _ _ h3).trans ?_⟩
      rw [hstep]
      have hm0 : moreOf st wt = [] := if_neg hu
      rw [hm0, List.append_nil]
  · rintro σ H3 ⟨e3, l3, v3, rfl, f3, h3⟩
    exact ⟨_, rfl, k l3 H3 f3 ((e1.trans e2).trans e3) h3⟩
theorem ok_form_of (T : Txt K mg A) : Cal P w K mg base 6 "form_of" (spFormOf A.cState) := by
  have c_long_form := ok_long_form (P := P) (w := w) (base := base) T
  have c_short_form := ok_short_form (P := P) (w := w) (base := base) T
  refine Cal.of T.D_form_of sc_form_of (spOf_len fun ⟨_, _, _, _⟩ => rfl) fun f cdv A' outer s H vs Q E hr h => ?_
  have nd := sc_form_of.nd
  obtain ⟨⟨f, st, n, c⟩, hv, hc, wf, hm, k⟩ := h
  obtain rfl : vs = [V.ref f.a, V.int (n : Int), V.int (c : Int)] := hv
  refine ⟨_, (pss_one (ps_ret (pe_ifExp (pt_cmpR op_eq (pv 1) pe_int (nomark _)) (pe_c c_long_form hr (by decide) rfl (pa_cons (pv 0) (pa_cons (pv 2) pa_nil))) (pe_c c_short_form hr (by decide) rfl (pa_cons (pv 0) pa_nil))))), ?_⟩
  walk_at "ss"
  refine ifEq (fun c1 => ?_) fun c1 => ?_
  · have hn : n = 0 := by omega
    subst hn
    walk_at "ss"
    exact ⟨⟨f, st, c⟩, rfl, hc, wf, hm, k⟩
  · have hk : formOf st n c = Sd62.short st := if_neg (by omega)
    rw [hk] at k
    walk_at "ss"
    exact ⟨⟨f, st⟩, rfl, hc, wf, k⟩
end
end VP

/-! ### checkpoints read -/
namespace VP
open PySem PySem.Spec PyProof.Rows L2
open Evl (Ex RetL RetV Ev EvL EvT EvA EvO)
def dN (l : List Nat) : PyData := .list (l.map fun n => PyData.int ((n : Nat) : Int))
section
variable {K : PySem.W.Frag} {H : Hp}
theorem dpAll_nv : ∀ l : List Nat, DpAll K H (nv l) (l.map fun n => PyData.int ((n : Nat) : Int))
  | [] => .nil
  | n :: l => .cons (.int _) (dpAll_nv l)
theorem dp_nv {a : Addr} {l : List Nat} (h : SqL K H a (nv l)) : Dp K H (.ref a) (dN l) := .lst h (dpAll_nv l)
theorem eqvAll_dN : ∀ a b : List Nat, PyData.eqvAll (a.map fun n => PyData.int ((n : Nat) : Int)) (b.map fun n => PyData.int ((n : Nat) : Int)) = decide (a = b)
  | [], [] => by simp [PyData.eqvAll]
  | [], _ :: _ => by simp [PyData.eqvAll]
  | _ :: _, [] => by simp [PyData.eqvAll]
  | x :: a, y :: b => by
    show (PyData.eqv (.int (x : Int)) (.int (y : Int)) && PyData.eqvAll _ _) = _
    rw [eqvAll_dN a b]
    have e : PyData.eqv (.int (x : Int)) (.int (y : Int)) = decide (x = y) := by
      show ((x : Int) == (y : Int)) = _
      by_cases h : x = y
      · subst h; rw [beq_self_eq_true, decide_eq_true rfl]
      · rw [decide_eq_false h, beq_eq_false_iff_ne.mpr (by omega)]
    rw [e]
    by_cases h : x = y
    · subst h
      rw [decide_eq_true rfl, Bool.true_and]
      exact decide_eq_decide.mpr ⟨fun h => by rw [h], fun h => by injection h⟩
    · rw [decide_eq_false h, Bool.false_and, decide_eq_false (fun z => h (by injection z))]
theorem eqv_dN (a b : List Nat) : PyData.eqv (dN a) (dN b) = decide (a = b) := eqvAll_dN a b
theorem canAll_dN : ∀ l : List Nat, PyData.canLayAll0 (l.map fun n => PyData.int ((n : Nat) : Int)) = true
  | [] => by simp [PyData.canLayAll0]
  | n :: l => by
    show (PyData.canLay0 (.int (n : Int)) && PyData.canLayAll0 _) = true
    rw [canAll_dN l]
    simp [PyData.canLay0]
theorem depthAll_dN : ∀ l : List Nat, PyData.depthAll (l.map fun n => PyData.int ((n : Nat) : Int)) = 0
  | [] => by simp [PyData.depthAll]
  | n :: l => by
    show max (PyData.depth (.int (n : Int))) (PyData.depthAll _) = 0
    rw [depthAll_dN l]
    simp [PyData.depth]
theorem shaped_dN (l : List Nat) : SeqAt.shaped (dN l) = true := by
  unfold SeqAt.shaped
  rw [Bool.and_eq_true]
  refine ⟨canAll_dN l, decide_eq_true ?_⟩
  show PyData.depthAll _ + 1 ≤ 64
  rw [depthAll_dN]
  decide
end
theorem number_lt {ls : List Nat} (hb : ∀ x ∈ ls, x < 256) (o : Nat) : Sd62.number ls o 8 < 2 ^ 64 := by
  rw [number_of]
  exact numOf_lt64 (fun b h => hb b (List.mem_of_mem_drop (List.mem_of_mem_take h))) (by rw [List.length_take]; omega)
theorem numbers_lt {ls : List Nat} (hb : ∀ x ∈ ls, x < 256) (o n : Nat) : ∀ x ∈ Sd62.numbers ls o n, x < 2 ^ 64 := by
  intro x hx
  unfold Sd62.numbers at hx
  obtain ⟨i, _, rfl⟩ := List.mem_map.mp hx
  exact number_lt hb _
theorem numbers_len (ls : List Nat) (o n : Nat) : (Sd62.numbers ls o n).length = n := by
  unfold Sd62.numbers
  rw [List.length_map, List.length_range]
theorem q_mkState {C : Addr} {σ : L2.St} {H : Hp} {D : Ends} {tz : TS} {i : Nat} (k : ∀ x H2, StAt C H H2 x Sd62.fresh → tz D (σ.set i (some (.ref x))) H2) : tSeq (tAsg (tMk0 C (spStateInit C)) (gName i)) tz D σ H := by
  show tMk0 C (spStateInit C) σ H (fun x H1 => gName i x σ H1 (tz D))
  exact mk_state k
def moreW : List Nat := [4, 32, 64, 128]
def mOf (ls : List Nat) : List Nat := (List.range 8).map fun i => Sd62.number ls (32 + 16 * i) 8
def headSt (ls : List Nat) : Sd62.St := setPart (setPart Sd62.fresh 1 (mOf ls)) 2 (Sd62.numbers ls 160 32)
def spReadPart (K : PySem.W.Frag) (C : Addr) : Sp := spOf (fun (⟨_, a, _, r, _, o, w⟩ : Hp × Addr × Sd62.St × Addr × List Nat × Nat × Nat) => [.ref a, .ref r, .int (o : Int), .int (w : Int)]) fun ⟨H0, a, s, r, ls, o, w⟩ H Q _ =>
  StAt C H0 H a s ∧ SqL K H0 r (nv ls) ∧ (∀ x ∈ ls, x < 256) ∧ ls.length ≤ 10000 ∧ isW w ∧ o + 8 * countOf w ≤ ls.length ∧ ∀ H', StAt C H0 H' a (setPart s w (Sd62.numbers ls o (countOf w))) → Q (.int ((o + 8 * countOf w : Nat) : Int)) H'
def spReadHead (K : PySem.W.Frag) (C : Addr) : Sp := spOf (fun (⟨r, _⟩ : Addr × List Nat) => [.ref r]) fun ⟨r, ls⟩ H Q _ =>
  SqL K H r (nv ls) ∧ (∀ x ∈ ls, x < 256) ∧ 576 ≤ ls.length ∧ ls.length ≤ 10000 ∧ ∀ a H', StAt C H H' a (headSt ls) → Q (.ref a) H'
section
variable {P : Program} {w : World} {K : PySem.W.Frag} {mg : Str → Option Value} {base : Heap} {A : Ad}
theorem count_le {n : Nat} (hw : isW n) : countOf n ≤ 128 := by
  unfold countOf fstL lstL
  rcases hw with rfl | rfl | rfl | rfl | rfl | rfl <;> decide
theorem ok_read_part (T : Txt K mg A) : Cal P w K mg base 3 "read_part" (spReadPart K A.cState) := by
  have c_number_count := ok_number_count (P := P) (w := w) (base := base) T
  have c_State_set_part := ok_set_part (P := P) (w := w) (base := base) T
  have c_numbers_in := ok_numbers_in (P := P) (w := w) (base := base) T
  refine Cal.of T.D_read_part sc_read_part (spOf_len fun ⟨_, _, _, _, _, _, _⟩ => rfl) fun f cdv A' outer s H vs Q E hr h => ?_
  have nd := sc_read_part.nd
  obtain ⟨⟨H0, a, st, r, ls, o, n⟩, hv, hS, hL, hb, hlen, hw, hle, k⟩ := h
  obtain rfl : vs = [V.ref a, V.ref r, V.int (o : Int), V.int (n : Int)] := hv
  refine ⟨_, (pss_cons (ps_set (i := 4) nd rfl (Or.inl rfl) (pe_op op_add (pv 2) (pe_op op_mul (pe_gv rfl T.g_WORD_SIZE) (pe_c c_number_count hr (by decide) rfl (pa_cons (pv 3) pa_nil)))))
 (pss_cons (ps_expr (pe_m T.cl_State c_State_set_part hr (by decide) (pv 0) (pa_cons (pv 3) (pa_cons (pe_c c_numbers_in hr (by decide) rfl (pa_cons (pe_slice (sl_listK (K := K) rfl) (pv 1) (po_some (pv 2)) (po_some (pv 4))) pa_nil)) pa_nil))))
 (pss_one (ps_ret (pv 4))))), ?_⟩
  refine Evl.q_asg (v := .int ((o + 8 * countOf n : Nat) : Int)) (Evl.ev_is (ev_add (Evl.ev_var rfl) (ev_mul Evl.ev_c (ev_number_count (Evl.ev_var rfl) rfl hw) (mulL (by decide)))) (congrArg V.int (by omega))) fun H1 e1 => ?_
  have hS1 := hS.mono e1
  obtain ⟨g, ga, hc1, hap1, hfr1⟩ := hS1.ex
  have ins1 := hc1.ins
  rw [ga] at ins1
  refine ⟨_, rfl, a, g.dx, sF g, rfl, ins1, sF_set_part g, _, rfl, ?_⟩
  refine el_numbers_in (K := K) (eq_new (el_cut (o1 := o) (o2 := o + 8 * countOf n) (eq_var (K := K) rfl (Evl.ex_l hS1.sm hL)) (Evl.ev_var rfl) (Evl.ev_var rfl) rfl rfl)) (by rw [List.length_take, List.length_drop]; omega) H1 (Ex.refl _) _ fun p H2 hp e2 h2 => ?_
  rw [Nat.add_sub_cancel_left, numsOf_numbers hle] at h2
  refine ⟨⟨grow H0 H1 H2, a, st, n, p, Sd62.numbers ls o (countOf n)⟩, rfl, hS1.grow e2, hw, SqL.of (grow_new hp h2), numbers_len _ _ _, numbers_lt hb _ _, fun H3 hS3 => ?_⟩
  exact ⟨_, rfl, k H3 (hS3.less (grow_old hS1.sm))⟩
theorem ok_read_head (T : Txt K mg A) : Cal P w K mg base 4 "read_head" (spReadHead K A.cState) := by
  have c_number_count := ok_number_count (P := P) (w := w) (base := base) T
  have c_State := ok_State (P := P) (w := w) (base := base) T
  have c_State_set_part := ok_set_part (P := P) (w := w) (base := base) T
  have c_number_in := ok_number_in (P := P) (w := w) (base := base) T
  have c_read_part := ok_read_part (P := P) (w := w) (base := base) T
  refine Cal.of T.D_read_head sc_read_head (spOf_len fun ⟨_, _⟩ => rfl) fun f cdv A' outer s H vs Q E hr h => ?_
  have nd := sc_read_head.nd
  obtain ⟨⟨r, ls⟩, hv, hL, hb, h576, hlen, k⟩ := h
  obtain rfl : vs = [V.ref r] := hv
  refine ⟨_, (pss_cons (ps_set (i := 1) nd rfl (Or.inl rfl) (pe_k0 c_State hr (by decide) rfl))
 (pss_cons (ps_setLc (i := 2) (own := [("at", 3)]) (g := gName 3) rfl nd rfl rfl (sw_true rfl rfl rfl (by decide +kernel)) (pi_range1 rfl T.b_range (pa_cons (pe_c c_number_count hr (by decide) rfl (pa_cons (pe_gv rfl T.g_BASIC) pa_nil)) pa_nil)) (blkOk_by (own := [("at", 3)]) (N := ["row", "state", "places", "at", "place"]) (sc := defScope s_read_head) (by decide +kernel)) (fun _ _ _ _ _ => by exact (pg_name (i := 3) nd rfl (Or.inl rfl))) (fun _ _ _ _ _ => by exact pts_nil) (fun _ _ _ _ _ => by exact (pe_op op_add (pe_gv rfl T.g_M_PLACE) (pe_op op_mul (pe_gv rfl T.g_M_STEP) (pv 3)))))
 (pss_cons (ps_expr (pe_m T.cl_State c_State_set_part hr (by decide) (pv 1) (pa_cons (pe_gv rfl T.g_BASIC) (pa_cons (pe_lc (own := [("place", 4)]) (g := gName 4) rfl nd (pi_listK (K := K) rfl (pv 2)) (blkOk_by (own := [("place", 4)]) (N := ["row", "state", "places", "at", "place"]) (sc := defScope s_read_head) (by decide +kernel)) (fun _ _ _ _ _ => by exact (pg_name (i := 4) nd rfl (Or.inl rfl))) (fun _ _ _ _ _ => by exact pts_nil) (fun _ _ _ _ _ => by exact (pe_c c_number_in hr (by decide) rfl (pa_cons (pe_slice (sl_listK (K := K) rfl) (pv 0) (po_some (pv 4)) (po_some (pe_op op_add (pv 4) (pe_gv rfl T.g_WORD_SIZE)))) pa_nil)))) pa_nil))))
 (pss_cons (ps_expr (pe_c c_read_part hr (by decide) rfl (pa_cons (pv 1) (pa_cons (pv 0) (pa_cons (pe_gv rfl T.g_LOW_PLACE) (pa_cons (pe_gv rfl T.g_LOW_LANES) pa_nil))))))
 (pss_one (ps_ret (pv 1))))))), ?_⟩
  refine q_mkState fun a H1 hS1 => ?_
  refine ev_number_count (σ := []) (n := 1) Evl.ev_c rfl (.inl rfl) H1 (Ex.refl _) _ fun H2 e2 => ⟨8, rfl, by decide, by decide, fun D hD => ?_⟩
  have hS2 := hS1.mono e2
  refine lc_vals (walk_range (lo := 0) (n := 8)) (fun _ => true) (fun i => .int ((32 + 16 * i : Nat) : Int)) (by decide) hD (fun _ _ => trivial) ?_ ?_
  · rintro i x H3 H4 R S hi e ⟨rfl, rfl⟩ k1 _
    refine ⟨rfl, ?_⟩
    walk_at "ss"
    have e5 : (32 : Int) + 16 * (0 + (i : Int)) = ((32 + 16 * i : Nat) : Int) := by omega
    show R (V.int ((32 : Int) + 16 * (0 + (i : Int)))) H4
    rw [e5]
    exact k1 rfl _ (Ex.refl _)
  · intro H3 e3 hl3
    rw [given_all] at hl3
    have hS3 := hS2.mono e3
    obtain ⟨g, ga, hc3, hap3, hfr3⟩ := hS3.ex
    have ins3 := hc3.ins
    rw [ga] at ins3
    have hl3' : H3 D = some (.lst (nv ((List.range 8).map fun i => 32 + 16 * i))) := hl3
    refine ⟨_, rfl, a, g.dx, sF g, rfl, ins3, sF_set_part g, _, rfl, D, rfl, ⟨_, SqL.of hl3'⟩, fun D2 hD2 => ?_⟩
    refine lc_vals (walk_list (K := K) (a := D) (xs := nv ((List.range 8).map fun i => 32 + 16 * i))) (fun _ => true) (fun i => .int ((Sd62.number ls (32 + 16 * i) 8 : Nat) : Int)) (by decide) hD2 (fun H' e => SqL.of (e _ _ hl3')) ?_ ?_
    · rintro i x H4 H5 R S hi e ⟨rfl, hx⟩ k1 _
      obtain ⟨n, hn, rfl⟩ := nv_get_of hx
      have hi8 : i < 8 := hi
      have hn2 : n = 32 + 16 * i := by
        rw [List.getElem?_map, List.getElem?_range hi8] at hn
        exact (Option.some.inj hn).symm
      subst hn2
      refine ⟨rfl, ?_⟩
      refine ev_number_in (K := K) (eq_new (el_cut (o1 := 32 + 16 * i) (o2 := 32 + 16 * i + 8) (eq_var (K := K) rfl (Evl.ex_l ((hS3.sm).trans e) hL)) (Evl.ev_var rfl) (ev_add (Evl.ev_var rfl) Evl.ev_c) rfl (by omega))) H5 (Ex.refl _) _ fun H6 e6 => ?_
      rw [Nat.add_sub_cancel_left, ← number_of]
      exact k1 rfl _ e6
    · intro H4 e4 hl4
      rw [given_all] at hl4
      have hl4' : H4 D2 = some (.lst (nv (mOf ls))) := by
        rw [hl4]
        unfold mOf nv
        rw [List.map_map]
        rfl
      have hmlt : ∀ x ∈ mOf ls, x < 2 ^ 64 := by
        intro x hx
        obtain ⟨i, _, rfl⟩ := List.mem_map.mp hx
        exact number_lt hb _
      refine ⟨⟨grow H H3 H4, a, Sd62.fresh, 1, D2, mOf ls⟩, rfl, hS3.grow e4, .inl rfl, SqL.of (grow_new hD2 hl4'), rfl, hmlt, fun H5 hS5 => ?_⟩
      have hS5' := hS5.less (grow_old hS3.sm)
      refine ⟨_, rfl, _, rfl, ⟨H, a, _, r, ls, 160, 2⟩, rfl, hS5', hL, hb, hlen, .inr (.inl rfl), by show 160 + 8 * 32 ≤ ls.length; omega, fun H6 hS6 => ?_⟩
      exact ⟨_, rfl, k a H6 hS6⟩
end
end VP

/-! ### long and short forms read -/
namespace VP
open PySem PySem.Spec PyProof.Rows L2
open Evl (Ex RetL RetV Ev EvL EvT EvA EvO)
def sizeN (n : Nat) : Option Nat := if n = 576 then some 3 else if n = 832 then some 7 else if n = 2688 then some 231 else none
theorem sizeV_N (n : Nat) : sizeV (n : Int) = (sizeN n).map fun p => ((p : Nat) : Int) := by
  unfold sizeV sizeN
  by_cases h1 : n = 576
  · rw [if_pos h1, if_pos (by omega)]; rfl
  · rw [if_neg h1, if_neg (by omega)]
    by_cases h2 : n = 832
    · rw [if_pos h2, if_pos (by omega)]; rfl
    · rw [if_neg h2, if_neg (by omega)]
      by_cases h3 : n = 2688
      · rw [if_pos h3, if_pos (by omega)]; rfl
      · rw [if_neg h3, if_neg (by omega)]; rfl
theorem sizeN_mac {n p : Nat} (h : sizeN n = some p) : isMac p ∧ (n = 576 ∨ n = 832 ∨ n = 2688) := by
  unfold sizeN at h
  unfold isMac
  split at h
  · cases h; omega
  · split at h
    · cases h; omega
    · split at h
      · cases h; omega
      · cases h
def wAt (i : Nat) : Nat := moreW.getD i 0
def longAt (n : Nat) : Nat → Nat
  | 0 => 576
  | i + 1 => if longAt n i < n then (if wAt i = 4 ∧ longAt n i + 8 * countOf (wAt i) < n then longAt n i + 8 * countOf (wAt i) + 256 else longAt n i + 8 * countOf (wAt i)) else longAt n i
def longSt (ls : List Nat) : Nat → Sd62.St
  | 0 => headSt ls
  | i + 1 => if longAt ls.length i < ls.length then setPart (longSt ls i) (wAt i) (Sd62.numbers ls (longAt ls.length i) (countOf (wAt i))) else longSt ls i
def readLong (ls : List Nat) : Option Sd62.St := match sizeN ls.length with
  | none => none
  | some p => if Sd62.long p (longSt ls 4) = ls then some (longSt ls 4) else none
/-- a state, or None -/
def RetS (C : Addr) (o : Option Sd62.St) (H : Hp) (Q : VK) : Prop := match o with
  | none => ∀ H', Ex H H' → Q .non H'
  | some s => ∀ a H', StAt C H H' a s → Q (.ref a) H'
def spReadLong (K : PySem.W.Frag) (C : Addr) : Sp := spOf (fun (⟨r, _⟩ : Addr × List Nat) => [.ref r]) fun ⟨r, ls⟩ H Q _ =>
  SqL K H r (nv ls) ∧ (∀ x ∈ ls, x < 256) ∧ 576 ≤ ls.length ∧ ls.length ≤ 2688 ∧ RetS C (readLong ls) H Q
section
variable {P : Program} {w : World} {K : PySem.W.Frag} {mg : Str → Option Value} {base : Heap} {A : Ad}
theorem wAt_get {i x : Nat} (h : ([4, 32, 64, 128] : List Nat)[i]? = some x) : wAt i = x := by
  unfold wAt moreW
  rw [List.getD_eq_getElem?_getD, h]
  rfl
theorem longAt_ok : ∀ n ∈ ([576, 832, 2688] : List Nat), ∀ i ∈ List.range 4, longAt n i < n → longAt n i + 8 * countOf (wAt i) ≤ n := by decide
theorem ok_read_long (T : Txt K mg A) : Cal P w K mg base 6 "read_long" (spReadLong K A.cState) := by
  have c_read_head := ok_read_head (P := P) (w := w) (base := base) T
  have c_read_part := ok_read_part (P := P) (w := w) (base := base) T
  have c_long_form := ok_long_form (P := P) (w := w) (base := base) T
  refine Cal.of T.D_read_long sc_read_long (spOf_len fun ⟨_, _⟩ => rfl) fun f cdv A' outer s H vs Q E hr h => ?_
  have nd := sc_read_long.nd
  obtain ⟨⟨r, ls⟩, hv, hL, hb, h576, hlen, k⟩ := h
  obtain rfl : vs = [V.ref r] := hv
  refine ⟨_, (pss_cons (ps_if (pt_cmp (pc_knot T.d_SIZES (pe_callB (call_lenK (K := K) rfl) (by rfl) T.b_len PySem.boot_len (pa_cons (pv 0) pa_nil)) (pe_gv rfl T.g_SIZES))) (pss_one (ps_ret pe_non)) pss_nil)
 (pss_cons (ps_set (i := 1) nd rfl (Or.inl rfl) (pe_c c_read_head hr (by decide) rfl (pa_cons (pv 0) pa_nil)))
 (pss_cons (ps_set (i := 2) nd rfl (Or.inl rfl) (pe_gv rfl T.g_HEAD_SIZE))
 (pss_cons (ps_for PassesOwn.never rfl (pi_tupK (K := K) rfl (pe_gv rfl T.g_MORE)) (pg_name (i := 3) nd rfl (Or.inl rfl)) (pss_one (ps_if (pt_cmpR op_lt (pv 2) (pe_callB (call_lenK (K := K) rfl) (by rfl) T.b_len PySem.boot_len (pa_cons (pv 0) pa_nil)) (nomark _)) (pss_cons (ps_set (i := 2) nd rfl (Or.inl rfl) (pe_c c_read_part hr (by decide) rfl (pa_cons (pv 1) (pa_cons (pv 0) (pa_cons (pv 2) (pa_cons (pv 3) pa_nil))))))
 (pss_one (ps_if (PW.pt (pw_and (pt_cmpR op_eq (pv 3) (pe_gv rfl T.g_NEXT_LANES) (nomark _)) (pw_and1 (pt_cmpR op_lt (pv 2) (pe_callB (call_lenK (K := K) rfl) (by rfl) T.b_len PySem.boot_len (pa_cons (pv 0) pa_nil)) (nomark _))))) (pss_one (ps_set (i := 2) nd rfl (Or.inl rfl) (pe_op op_add (pv 2) (pe_gv rfl T.g_GAP_SIZE)))) pss_nil))) pss_nil)))
 (pss_one (ps_ret (pe_ifExp (pt_cmpR (op_eqK (K := K) rfl hr.units) (pe_c c_long_form hr (by decide) rfl (pa_cons (pv 1) (pa_cons (pe_kget T.d_SIZES (pe_gv rfl T.g_SIZES) (pe_callB (call_lenK (K := K) rfl) (by rfl) T.b_len PySem.boot_len (pa_cons (pv 0) pa_nil)) (fun _ _ => rfl)) pa_nil))) (pv 0) (nomark _)) (pv 1) pe_non))))))), ?_⟩
  refine ⟨_, rfl, r, _, rfl, .inl hL, _, rfl, rfl, _, rfl, ?_⟩
  rw [nv_length, sizeV_N, Option.isSome_map]
  cases hsz : sizeN ls.length with
  | none =>
    have hk : readLong ls = none := by unfold readLong; rw [hsz]
    rw [hk] at k
    exact iteT (k H (Ex.refl _))
  | some p =>
    have hk : readLong ls = if Sd62.long p (longSt ls 4) = ls then some (longSt ls 4) else none := by unfold readLong; rw [hsz]
    obtain ⟨hmac, hn⟩ := sizeN_mac hsz
    have hn' : ls.length ∈ ([576, 832, 2688] : List Nat) := by
      rcases hn with h | h | h <;> rw [h] <;> decide
    refine iteF ?_
    refine ⟨_, rfl, ⟨r, ls⟩, rfl, hL, hb, h576, by omega, fun a H1 hS1 => ?_⟩
    refine ⟨A.aMORE, rfl, ⟨_, T.t_MORE _⟩, for_tup (K := K) (a := A.aMORE) (xs := nv [4, 32, 64, 128]) (fun i σ H' => (∃ v : Option V, σ = [some (.ref r), some (.ref a), some (.int (longAt ls.length i : Int)), v]) ∧ StAt A.cState H H' a (longSt ls i))
      ⟨⟨none, rfl⟩, hS1⟩ (fun i σ H' _ _ => T.t_MORE H') ?_ ?_⟩
    · rintro i x σ H2 hx ⟨⟨v2, rfl⟩, hS2⟩
      obtain ⟨wt, hw, rfl⟩ := nv_get_of hx
      have hi4 : i < 4 := (List.getElem?_eq_some_iff.mp hw).1
      have hwi := wAt_get hw
      have hw4 : wt = 4 ∨ wt = 32 ∨ wt = 64 ∨ wt = 128 := by
        have h := List.mem_of_getElem? hw
        simpa using h
      have hwt : isW wt := by unfold isW; omega
      have hst : longSt ls (i + 1) = if longAt ls.length i < ls.length then setPart (longSt ls i) (wAt i) (Sd62.numbers ls (longAt ls.length i) (countOf (wAt i))) else longSt ls i := rfl
      have hat : longAt ls.length (i + 1) = if longAt ls.length i < ls.length then (if wAt i = 4 ∧ longAt ls.length i + 8 * countOf (wAt i) < ls.length then longAt ls.length i + 8 * countOf (wAt i) + 256 else longAt ls.length i + 8 * countOf (wAt i)) else longAt ls.length i := rfl
      rw [hwi] at hst hat
      refine Evl.s_when (et_I0 (Evl.ev_var rfl) (ev_len (K := K) (eq_var (K := K) rfl (Evl.ex_l hS2.sm hL)))) (fun hc H3 e3 => ?_) (fun hc H3 e3 => ?_)
      · have hlt : longAt ls.length i < ls.length := by
          have h := of_decide_eq_true hc
          rw [nv_length] at h
          omega
        have hok := longAt_ok ls.length hn' i (List.mem_range.mpr hi4) hlt
        rw [hwi] at hok
        rw [if_pos hlt] at hst hat
        refine ⟨_, rfl, _, rfl, _, rfl, _, rfl, ⟨H, a, longSt ls i, r, ls, longAt ls.length i, wt⟩, rfl, hS2.mono e3, hL, hb, by omega, hwt, hok, fun H4 hS4 => ?_⟩
        rw [← hst] at hS4
        refine Evl.s_when (Evl.et_and (et_eqI (Evl.ev_var rfl) Evl.ev_c) (fun _ => et_I0 (Evl.ev_var rfl) (ev_len (K := K) (eq_var (K := K) rfl (Evl.ex_l hS4.sm hL))))) (fun hc2 H5 e5 => ?_) (fun hc2 H5 e5 => ?_)
        · have hc3 := Bool.and_eq_true_iff.mp hc2
          have h1 := of_decide_eq_true hc3.1
          have h2 := of_decide_eq_true hc3.2
          rw [nv_length] at h2
          rw [if_pos ⟨by omega, by omega⟩] at hat
          refine Evl.s_asg (v := .int (longAt ls.length (i + 1) : Int)) (Evl.ev_is (ev_add (Evl.ev_var rfl) Evl.ev_c) (by rw [hat]; rfl)) fun H6 e6 => ?_
          exact ⟨⟨_, rfl⟩, (hS4.mono e5).mono e6⟩
        · have hc3 : ¬ (wt = 4 ∧ longAt ls.length i + 8 * countOf wt < ls.length) := fun ⟨z1, z2⟩ => by
            rw [nv_length, decide_eq_true (by omega), decide_eq_true (by omega)] at hc2
            cases hc2
          rw [if_neg hc3] at hat
          refine ⟨⟨some (.int (wt : Int)), ?_⟩, hS4.mono e5⟩
          rw [hat]
          rfl
      · have hlt : ¬ longAt ls.length i < ls.length := by
          have h := of_decide_eq_false hc
          rw [nv_length] at h
          omega
        rw [if_neg hlt] at hst hat
        refine ⟨⟨some (.int (wt : Int)), ?_⟩, ?_⟩
        · rw [hat]; rfl
        · rw [hst]; exact hS2.mono e3
    · rintro σ H2 ⟨⟨v2, rfl⟩, hS2⟩
      have hS2' : StAt A.cState H H2 a (longSt ls 4) := hS2
      obtain ⟨g, ga, hc2, hap2, hfr2⟩ := hS2'.ex
      refine ⟨_, rfl, _, rfl, r, _, rfl, .inl (Evl.ex_l hS2.sm hL), _, (p : Int), rfl, rfl, ?_, ⟨g, longSt ls 4, p⟩, by rw [← ga], hc2, hS2'.wf, hmac, fun q H3 hq e3 h3 => ?_⟩
      · rw [nv_length, sizeV_N, hsz]; rfl
      refine ⟨_, rfl, dN (Sd62.long p (longSt ls 4)), dN ls, dp_nv (SqL.of h3), dp_nv (Evl.ex_l (hS2.sm.trans e3) hL), shaped_dN _, shaped_dN _, _, rfl, ?_⟩
      rw [eqv_dN]
      refine ifD (fun c => ?_) (fun c => ?_)
      · rw [hk, if_pos c] at k
        exact ⟨_, rfl, k a H3 (hS2'.mono e3)⟩
      · rw [hk, if_neg c] at k
        exact k H3 (hS2.sm.trans e3)
theorem someOf_isW {u x : Nat} (h : x ∈ moreW.filter fun w => decide (u / w % 2 = 1)) : isW x := by
  have h2 := (List.mem_filter.mp h).1
  have h3 : x = 4 ∨ x = 32 ∨ x = 64 ∨ x = 128 := by simpa [moreW] using h2
  unfold isW
  omega
end
def someOf (u : Nat) : List Nat := moreW.filter fun w => decide (u / w % 2 = 1)
def shortAt (u : Nat) (i : Nat) : Nat := 576 + 8 * (((someOf u).take i).map countOf).sum
def shortSt (ls : List Nat) (u : Nat) : Nat → Sd62.St
  | 0 => headSt ls
  | i + 1 => match (someOf u)[i]? with
    | none => shortSt ls u i
    | some w => setPart (shortSt ls u i) w (Sd62.numbers ls (shortAt u i) (countOf w))
def readShort (ls : List Nat) (u : Nat) : Option Sd62.St :=
  if ls.length = 576 + 8 * ((someOf u).map countOf).sum then (if Sd62.short (shortSt ls u (someOf u).length) = ls then some (shortSt ls u (someOf u).length) else none) else none
def spReadShort (K : PySem.W.Frag) (C : Addr) : Sp := spOf (fun (⟨r, _, u⟩ : Addr × List Nat × Nat) => [.ref r, .int (u : Int)]) fun ⟨r, ls, u⟩ H Q _ =>
  SqL K H r (nv ls) ∧ (∀ x ∈ ls, x < 256) ∧ 576 ≤ ls.length ∧ ls.length ≤ 2688 ∧ RetS C (readShort ls u) H Q
section
variable {P : Program} {w : World} {K : PySem.W.Frag} {mg : Str → Option Value} {base : Heap} {A : Ad}
theorem given_filter (l : List Nat) (p : Nat → Bool) : Evl.given l.length (fun i => p (l.getD i 0)) (fun i => V.int ((l.getD i 0 : Nat) : Int)) = nv (l.filter p) := by
  conv => rhs; rw [← map_range_get l 0]
  rw [List.filter_map]
  unfold Evl.given nv
  rw [List.map_map]
  rfl
theorem sum_take_le : ∀ (l : List Nat) (i : Nat), (l.take i).sum ≤ l.sum
  | [], i => by simp
  | x :: l, 0 => by simp
  | x :: l, i + 1 => by
    rw [List.take_succ_cons, List.sum_cons, List.sum_cons]
    have := sum_take_le l i
    omega
theorem ok_read_short (T : Txt K mg A) : Cal P w K mg base 6 "read_short" (spReadShort K A.cState) := by
  have c_number_count := ok_number_count (P := P) (w := w) (base := base) T
  have c_read_head := ok_read_head (P := P) (w := w) (base := base) T
  have c_read_part := ok_read_part (P := P) (w := w) (base := base) T
  have c_short_form := ok_short_form (P := P) (w := w) (base := base) T
  refine Cal.of T.D_read_short sc_read_short (spOf_len fun ⟨_, _, _⟩ => rfl) fun f cdv A' outer s H vs Q E hr h => ?_
  have nd := sc_read_short.nd
  obtain ⟨⟨r, ls, u⟩, hv, hL, hb, h576, hlen, k⟩ := h
  obtain rfl : vs = [V.ref r, V.int (u : Int)] := hv
  refine ⟨_, (pss_cons (ps_setLc (i := 2) (own := [("weight", 5)]) (g := gName 5) rfl nd rfl rfl (sw_true rfl rfl rfl (by decide +kernel)) (pi_tupK (K := K) rfl (pe_gv rfl T.g_MORE)) (blkOk_by (own := [("weight", 5)]) (N := ["row", "used", "some", "state", "at", "weight"]) (sc := defScope s_read_short) (by decide +kernel)) (fun _ _ _ _ _ => by exact (pg_name (i := 5) nd rfl (Or.inl rfl))) (fun _ _ _ _ _ => by exact (pts_one (pt_cmpR op_eq (pe_op op_mod (pe_op op_fdivW (pv 1) (pv 5)) pe_int) pe_int (nomark _)))) (fun _ _ _ _ _ => by exact (pv 5)))
 (pss_cons (ps_if (pt_cmpR op_ne (pe_callB (call_lenK (K := K) rfl) (by rfl) T.b_len PySem.boot_len (pa_cons (pv 0) pa_nil)) (pe_op op_add (pe_gv rfl T.g_HEAD_SIZE) (pe_op op_mul (pe_gv rfl T.g_WORD_SIZE) (pe_callB (cr_sumK (K := K) rfl rfl) (by rfl) T.b_sum (by decide +kernel) (pa_cons (pe_lc (own := [("weight", 5)]) (g := gName 5) rfl nd (pi_listK (K := K) rfl (pv 2)) (blkOk_by (own := [("weight", 5)]) (N := ["row", "used", "some", "state", "at", "weight"]) (sc := defScope s_read_short) (by decide +kernel)) (fun _ _ _ _ _ => by exact (pg_name (i := 5) nd rfl (Or.inl rfl))) (fun _ _ _ _ _ => by exact pts_nil) (fun _ _ _ _ _ => by exact (pe_c c_number_count hr (by decide) rfl (pa_cons (pv 5) pa_nil)))) pa_nil)))) (nomark _)) (pss_one (ps_ret pe_non)) pss_nil)
 (pss_cons (ps_set (i := 3) nd rfl (Or.inl rfl) (pe_c c_read_head hr (by decide) rfl (pa_cons (pv 0) pa_nil)))
 (pss_cons (ps_set (i := 4) nd rfl (Or.inl rfl) (pe_gv rfl T.g_HEAD_SIZE))
 (pss_cons (ps_for PassesOwn.never rfl (pi_listK (K := K) rfl (pv 2)) (pg_name (i := 5) nd rfl (Or.inl rfl)) (pss_one (ps_set (i := 4) nd rfl (Or.inl rfl) (pe_c c_read_part hr (by decide) rfl (pa_cons (pv 3) (pa_cons (pv 0) (pa_cons (pv 4) (pa_cons (pv 5) pa_nil))))))))
 (pss_one (ps_ret (pe_ifExp (pt_cmpR (op_eqK (K := K) rfl hr.units) (pe_c c_short_form hr (by decide) rfl (pa_cons (pv 3) pa_nil)) (pv 0) (nomark _)) (pv 3) pe_non)))))))), ?_⟩
  refine ⟨A.aMORE, rfl, ⟨_, T.t_MORE _⟩, fun D hD => ?_⟩
  refine lc_vals (walk_tup (K := K) (a := A.aMORE) (xs := nv [4, 32, 64, 128])) (fun i => decide (u / (moreW.getD i 0) % 2 = 1)) (fun i => .int ((moreW.getD i 0 : Nat) : Int)) (by decide) hD (fun H' _ => T.t_MORE H') ?_ ?_
  · rintro i x H1 H2 R S hi e ⟨rfl, hx⟩ kT kF
    obtain ⟨wt, hw, rfl⟩ := nv_get_of hx
    have hwi : moreW.getD i 0 = wt := wAt_get hw
    have hw4 : wt = 4 ∨ wt = 32 ∨ wt = 64 ∨ wt = 128 := by
      have h := List.mem_of_getElem? hw
      simpa using h
    simp only [hwi] at kT kF
    refine ⟨rfl, ?_⟩
    refine (et_eqI (ev_mod (ev_div (Evl.ev_var rfl) (Evl.ev_var rfl) (divW (by omega) (by omega))) Evl.ev_c (by decide)) Evl.ev_c) H2 (Ex.refl _) _ fun H3 e3 => ?_
    refine ifD (fun c => ?_) (fun c => ?_)
    · have hu : u / wt % 2 = 1 := by
        have h2 : ((u / wt % 2 : Nat) : Int) = 1 := c
        omega
      exact ⟨_, rfl, kT (decide_eq_true hu) _ e3⟩
    · have hu : ¬ u / wt % 2 = 1 := fun z => c (by show ((u / wt % 2 : Nat) : Int) = 1; omega)
      exact kF (decide_eq_false hu) _ e3
  · intro H1 e1 hl1
    have hl1' : H1 D = some (.lst (nv (someOf u))) := by
      rw [hl1]
      exact congrArg (fun z => some (HO.lst z)) (given_filter moreW fun w => decide (u / w % 2 = 1))
    have hsl : (someOf u).length ≤ 4 := List.length_filter_le _ _
    -- sum([number_count(weight) for weight in some])
    refine ⟨_, rfl, r, _, rfl, .inl (Evl.ex_l e1 hL), ?_⟩
    refine ⟨_, rfl, D, rfl, ⟨_, SqL.of hl1'⟩, fun D2 hD2 => ?_⟩
    refine lc_vals (walk_list (K := K) (a := D) (xs := nv (someOf u))) (fun _ => true) (fun i => .int ((countOf ((someOf u).getD i 0) : Nat) : Int)) (by rw [nv_length]; omega) hD2 (fun H' e => SqL.of (e _ _ hl1')) ?_ ?_
    · rintro i x H2 H3 R S hi e ⟨rfl, hx⟩ k1 _
      obtain ⟨wt, hw, rfl⟩ := nv_get_of hx
      have hwi : (someOf u).getD i 0 = wt := by rw [List.getD_eq_getElem?_getD, hw]; rfl
      simp only [hwi] at k1
      refine ⟨rfl, ?_⟩
      exact ev_number_count (Evl.ev_var rfl) rfl (someOf_isW (List.mem_of_getElem? hw)) H3 (Ex.refl _) _ fun H4 e4 => k1 trivial _ e4
    · intro H2 e2 hl2
      rw [given_all, nv_length] at hl2
      have hl2' : H2 D2 = some (.lst (((someOf u).map fun w => ((countOf w : Nat) : Int)).map V.int)) := by
        rw [hl2]
        have h5 := map_range_get (someOf u) 0
        conv => rhs; rw [← h5]
        rw [List.map_map, List.map_map]
        rfl
      refine ⟨D2, _, rfl, SqL.of hl2', _, _, rfl, rfl, mulL (by decide), _, _, rfl, rfl, rfl, _, rfl, ?_⟩
      have hsum : ((someOf u).map fun w => ((countOf w : Nat) : Int)).sum = ((((someOf u).map countOf).sum : Nat) : Int) := by
        rw [← sum_cast, List.map_map]; rfl
      rw [nv_length, hsum]
      refine ifNe (fun c => ?_) (fun c => ?_)
      · have hk : readShort ls u = none := by
          unfold readShort
          rw [if_neg (by omega)]
        rw [hk] at k
        exact k H2 (e1.trans e2)
      · have hls : ls.length = 576 + 8 * ((someOf u).map countOf).sum := by omega
        have hk : readShort ls u = if Sd62.short (shortSt ls u (someOf u).length) = ls then some (shortSt ls u (someOf u).length) else none := by
          unfold readShort
          rw [if_pos hls]
        have e12 := e1.trans e2
        refine ⟨_, rfl, ⟨r, ls⟩, rfl, Evl.ex_l e12 hL, hb, h576, by omega, fun a H3 hS3 => ?_⟩
        have hl3 : ∀ H', Ex H2 H' → SqL K H' D (nv (someOf u)) := fun H' e => SqL.of (e _ _ (e2 _ _ hl1'))
        have h0 : (576 : Int) = (shortAt u 0 : Int) := by
          unfold shortAt
          rw [List.take_zero]
          rfl
        refine ⟨_, rfl, D, rfl, ⟨_, hl3 _ hS3.sm⟩, for_list (K := K) (a := D) (xs := nv (someOf u)) (fun i σ H' => (∃ v : Option V, σ = [some (.ref r), some (.int (u : Int)), some (.ref D), some (.ref a), some (.int (shortAt u i : Int)), v]) ∧ StAt A.cState H2 H' a (shortSt ls u i))
          ⟨⟨none, rfl⟩, hS3⟩ (fun i σ H' _ h => hl3 _ h.2.sm) ?_ ?_⟩
        · rintro i x σ H4 hx ⟨⟨v4, rfl⟩, hS4⟩
          obtain ⟨wt, hw, rfl⟩ := nv_get_of hx
          have hwt : isW wt := someOf_isW (List.mem_of_getElem? hw)
          have hst : shortSt ls u (i + 1) = setPart (shortSt ls u i) wt (Sd62.numbers ls (shortAt u i) (countOf wt)) := by
            show (match (someOf u)[i]? with | none => shortSt ls u i | some w => setPart (shortSt ls u i) w (Sd62.numbers ls (shortAt u i) (countOf w))) = _
            rw [hw]
          have hat : shortAt u (i + 1) = shortAt u i + 8 * countOf wt := by
            unfold shortAt
            rw [List.take_succ, hw, Option.toList_some, List.map_append, List.sum_append, List.map_singleton, List.sum_singleton]
            omega
          have hle : shortAt u i + 8 * countOf wt ≤ ls.length := by
            rw [← hat, hls]
            unfold shortAt
            have := sum_take_le ((someOf u).map countOf) (i + 1)
            rw [← List.map_take] at this
            omega
          refine ⟨_, rfl, _, rfl, _, rfl, _, rfl, ⟨H2, a, shortSt ls u i, r, ls, shortAt u i, wt⟩, rfl, hS4, Evl.ex_l e12 hL, hb, by omega, hwt, hle, fun H5 hS5 => ?_⟩
          refine ⟨⟨some (.int (wt : Int)), ?_⟩, ?_⟩
          · rw [hat]; rfl
          · rw [hst]; exact hS5
        · rintro σ H4 ⟨⟨v4, rfl⟩, hS4⟩
          rw [nv_length] at hS4
          obtain ⟨g, ga, hc4, hap4, hfr4⟩ := hS4.ex
          refine ⟨_, rfl, ⟨g, _⟩, by rw [← ga], hc4, hS4.wf, fun q H5 hq e5 h5 => ?_⟩
          refine ⟨_, rfl, dN _, dN ls, dp_nv (SqL.of h5), dp_nv (Evl.ex_l ((e12.trans hS4.sm).trans e5) hL), shaped_dN _, shaped_dN _, _, rfl, ?_⟩
          rw [eqv_dN]
          refine ifD (fun c2 => ?_) (fun c2 => ?_)
          · rw [hk, if_pos c2] at k
            exact ⟨_, rfl, k a H5 ((hS4.less e12).mono e5)⟩
          · rw [hk, if_neg c2] at k
            exact k H5 ((e12.trans hS4.sm).trans e5)
end
theorem ev_chainLL {σ : L2.St} {H : Hp} {ta tb tc : TE} {i j k : Int} (ha : Ev ta σ H (.int i)) (hb : Ev tb σ H (.int j)) (hc : Ev tc σ H (.int k)) :
    Ev (tChain (rI0 fun i j => .bl (decide (i ≤ j))) (rI0 fun i j => .bl (decide (i ≤ j))) ta tb tc) σ H (.bl (decide (i ≤ j) && decide (j ≤ k))) := fun H1 e Q q =>
  ha H1 e _ fun H2 e2 => hb H2 (e.trans e2) _ fun H3 e3 => ⟨i, j, rfl, rfl, _, rfl, by
    by_cases h : i ≤ j
    · rw [decide_eq_true h, Bool.true_and] at q
      rw [decide_eq_true h]
      exact iteT (hc H3 ((e.trans e2).trans e3) _ fun H4 e4 => ⟨j, k, rfl, rfl, q H4 ((e2.trans e3).trans e4)⟩)
    · rw [decide_eq_false h, Bool.false_and] at q
      rw [decide_eq_false h]
      exact iteF (q H3 (e2.trans e3))⟩
theorem not_f {b : Bool} (h : (!b) = false) : b = true := by
  cases b
  · cases h
  · rfl
/-- what state_of finds -/
def readOf (ls : List Nat) : Option Sd62.St :=
  if 576 ≤ ls.length ∧ ls.length ≤ 2688 then (if Sd62.number ls 520 8 = 0 then readLong ls else readShort ls (Sd62.number ls 512 8)) else none
def spStateOf (K : PySem.W.Frag) (C : Addr) : Sp := spOf (fun (⟨r, _⟩ : Addr × List Nat) => [.ref r]) fun ⟨r, ls⟩ H Q _ => SqL K H r (nv ls) ∧ (∀ x ∈ ls, x < 256) ∧ RetS C (readOf ls) H Q
section
variable {P : Program} {w : World} {K : PySem.W.Frag} {mg : Str → Option Value} {base : Heap} {A : Ad}
theorem RetS.on {C : Addr} {o : Option Sd62.St} {H H1 : Hp} {Q : VK} (k : RetS C o H Q) (e : Ex H H1) : RetS C o H1 Q := by
  cases o with
  | none => exact fun H' e' => k H' (e.trans e')
  | some s => exact fun a H' hs => k a H' (hs.less e)
theorem ok_state_of (T : Txt K mg A) : Cal P w K mg base 7 "state_of" (spStateOf K A.cState) := by
  have c_number_in := ok_number_in (P := P) (w := w) (base := base) T
  have c_read_long := ok_read_long (P := P) (w := w) (base := base) T
  have c_read_short := ok_read_short (P := P) (w := w) (base := base) T
  refine Cal.of T.D_state_of sc_state_of (spOf_len fun ⟨_, _⟩ => rfl) fun f cdv A' outer s H vs Q E hr h => ?_
  have nd := sc_state_of.nd
  obtain ⟨⟨r, ls⟩, hv, hL, hb, k⟩ := h
  obtain rfl : vs = [V.ref r] := hv
  refine ⟨_, (pss_cons (ps_if (pt_not (pt_chain op_le op_le (pe_gv rfl T.g_HEAD_SIZE) (pe_callB (call_lenK (K := K) rfl) (by rfl) T.b_len PySem.boot_len (pa_cons (pv 0) pa_nil)) (pe_gv rfl T.g_MOST_BYTES))) (pss_one (ps_ret pe_non)) pss_nil)
 (pss_cons (ps_if (pt_cmpR op_eq (pe_c c_number_in hr (by decide) rfl (pa_cons (pe_slice (sl_listK (K := K) rfl) (pv 0) (po_some (pe_gv rfl T.g_FORM_PLACE)) (po_some (pe_op op_add (pe_gv rfl T.g_FORM_PLACE) (pe_gv rfl T.g_WORD_SIZE)))) pa_nil)) pe_int (nomark _)) (pss_one (ps_ret (pe_c c_read_long hr (by decide) rfl (pa_cons (pv 0) pa_nil)))) pss_nil)
 (pss_one (ps_ret (pe_c c_read_short hr (by decide) rfl (pa_cons (pv 0) (pa_cons (pe_c c_number_in hr (by decide) rfl (pa_cons (pe_slice (sl_listK (K := K) rfl) (pv 0) (po_some (pe_gv rfl T.g_USED_PLACE)) (po_some (pe_op op_add (pe_gv rfl T.g_USED_PLACE) (pe_gv rfl T.g_WORD_SIZE)))) pa_nil)) pa_nil))))))), ?_⟩
  have hq : EvQ K (tVar 0) (L2.start ["row"] [V.ref r]) H (nv ls) := eq_var rfl hL
  refine Evl.q_when (Evl.et_not (Evl.et_test (ev_chainLL Evl.ev_c (ev_len hq) Evl.ev_c))) (fun hc H1 e1 => ?_) (fun hc H1 e1 => ?_)
  · have hn : ¬ (576 ≤ ls.length ∧ ls.length ≤ 2688) := fun ⟨z1, z2⟩ => by
      rw [nv_length, decide_eq_true (by omega), decide_eq_true (by omega)] at hc
      cases hc
    have hk : readOf ls = none := if_neg hn
    rw [hk] at k
    exact k H1 e1
  · have hc2 := not_f hc
    rw [nv_length] at hc2
    have hc3 := Bool.and_eq_true_iff.mp hc2
    have h1 := of_decide_eq_true hc3.1
    have h2 := of_decide_eq_true hc3.2
    have hr1 : 576 ≤ ls.length ∧ ls.length ≤ 2688 := by omega
    have hk : readOf ls = if Sd62.number ls 520 8 = 0 then readLong ls else readShort ls (Sd62.number ls 512 8) := if_pos hr1
    have hL1 := Evl.ex_l e1 hL
    have hq1 : EvQ K (tVar 0) (L2.start ["row"] [V.ref r]) H1 (nv ls) := eq_var rfl hL1
    have k1 := k.on e1
    refine Evl.q_when (et_eqI (ev_number_in (eq_new (el_cut (o1 := 520) (o2 := 528) hq1 Evl.ev_c (ev_add Evl.ev_c Evl.ev_c) rfl rfl))) Evl.ev_c) (fun hd H2 e2 => ?_) (fun hd H2 e2 => ?_)
    · have h3 := of_decide_eq_true hd
      have h4 : Sd62.number ls 520 8 = 0 := by
        rw [number_of]
        have h5 : ((numOf ((ls.drop 520).take (528 - 520)) : Nat) : Int) = 0 := h3
        exact Int.ofNat.inj h5
      rw [hk, if_pos h4] at k1
      exact ⟨_, rfl, ⟨r, ls⟩, rfl, Evl.ex_l e2 hL1, hb, hr1.1, hr1.2, RetS.on k1 e2⟩
    · have h3 := of_decide_eq_false hd
      have h4 : ¬ Sd62.number ls 520 8 = 0 := fun z => h3 (by
        rw [number_of] at z
        show ((numOf ((ls.drop 520).take 8) : Nat) : Int) = 0
        rw [z]
        rfl)
      rw [hk, if_neg h4] at k1
      refine ⟨_, rfl, ?_⟩
      refine ev_number_in (K := K) (σ := L2.start ["row"] [V.ref r]) (eq_new (el_cut (o1 := 512) (o2 := 520) (hq1.mono e2) Evl.ev_c (ev_add Evl.ev_c Evl.ev_c) rfl rfl)) H2 (Ex.refl _) _ fun H3 e3 => ?_
      refine ⟨⟨r, ls, Sd62.number ls 512 8⟩, ?_, Evl.ex_l (e2.trans e3) hL1, hb, hr1.1, hr1.2, RetS.on k1 (e2.trans e3)⟩
      rw [number_of]
end
end VP

/-! ### instructions -/
namespace VP
open PySem PySem.Spec PyProof.Rows L2
open Evl (Ex RetL RetV Ev EvL EvT EvA EvO)
def rowS (x : Sd62.Step) : List Nat := [x.kind, x.width, x.mask, x.d, x.a, x.b]
/-- everything but the bounds, by a row of the table -/
def goodB (p : Nat) (x : Sd62.Step) (r : Nat × Nat × Nat × Bool × Bool) : Bool :=
  !(decide (r.1 ≤ x.d) || (decide (r.2.1 ≤ x.a) || decide (r.2.2.1 ≤ x.b))) && (!((r.2.2.2.1 && decide (x.width ≠ 0)) || (r.2.2.2.2 && decide (x.mask ≠ 0))) &&
    (if x.kind = 23 then decide (1 ≤ x.a) && decide (x.a ≤ p) else decide (x.kind ≠ 11) || decide (x.b < Sd62.lanes x.width)))
theorem lanes_le {w : Nat} (h : w ≤ 2) : Sd62.lanes w ≤ 8 := by
  rcases (by omega : w = 0 ∨ w = 1 ∨ w = 2) with rfl | rfl | rfl <;> decide
theorem good_bounds {p : Nat} {x : Sd62.Step} {r : Nat × Nat × Nat × Bool × Bool} (hk : x.kind ≤ 23) (hw : x.width ≤ 2) (hm : x.mask ≤ 7) (ha : x.a < 256) (hr : boundsRows[x.kind]? = some r) : Sd62.good p x = goodB p x r := by
  obtain ⟨k, w, m, d, a, b⟩ := x
  dsimp only at hk hw hm ha hr
  have hl := lanes_le hw
  have hk' : k = 0 ∨ k = 1 ∨ k = 2 ∨ k = 3 ∨ k = 4 ∨ k = 5 ∨ k = 6 ∨ k = 7 ∨ k = 8 ∨ k = 9 ∨ k = 10 ∨ k = 11 ∨ k = 12 ∨ k = 13 ∨ k = 14 ∨ k = 15 ∨ k = 16 ∨ k = 17 ∨ k = 18 ∨ k = 19 ∨ k = 20 ∨ k = 21 ∨ k = 22 ∨ k = 23 := by omega
  rw [Bool.eq_iff_iff]
  rcases hk' with rfl | rfl | rfl | rfl | rfl | rfl | rfl | rfl | rfl | rfl | rfl | rfl | rfl | rfl | rfl | rfl | rfl | rfl | rfl | rfl | rfl | rfl | rfl | rfl <;>
    (simp only [boundsRows, List.getElem?_cons_succ, List.getElem?_cons_zero, Option.some.injEq] at hr
     subst hr
     simp [Sd62.good, goodB, Sd62.KINDS]
     try omega)
theorem bounds_len : boundsRows.length = 24 := rfl
structure InsAt (C : Addr) (H : Hp) (a : Addr) (x : Sd62.Step) : Prop where
  ex : ∃ dx, H a = some (.ins C dx (iF x))
theorem InsAt.mono {C : Addr} {H H' : Hp} {a : Addr} {x : Sd62.Step} (h : InsAt C H a x) (e : Ex H H') : InsAt C H' a x := let ⟨dx, h1⟩ := h.ex; ⟨dx, e _ _ h1⟩
def spInstInit (K : PySem.W.Frag) (C : Addr) : Sp := spOf (fun (⟨p, _, r, _⟩ : Addr × Addr × Addr × Sd62.Step) => [.ref p, .ref r]) fun ⟨p, dx, r, x⟩ H Q _ =>
  H p = some (.ins C dx []) ∧ SqL K H r (nv (rowS x)) ∧ x.width ≤ 2 ∧ ∀ H', (∀ b o, H b = some o → b ≠ p → H' b = some o) → H' p = some (.ins C dx (iF x)) → Q .non H'
def spLaneCount : Sp := spOf (fun i : Nat => [.int (i : Int)]) fun i H Q _ => i ≤ 2 ∧ RetV (.int (Sd62.lanes i : Int)) H Q
def spVectorsMet (C : Addr) : Sp := spOf (fun (⟨a, _⟩ : Addr × Sd62.Step) => [.ref a]) fun ⟨a, x⟩ H Q _ => InsAt C H a x ∧ RetL (nv (Sd62.regs x)) H Q
def spLeast (C : Addr) : Sp := spOf (fun (⟨a, _⟩ : Addr × Sd62.Step) => [.ref a]) fun ⟨a, x⟩ H Q _ => InsAt C H a x ∧ x.width ≤ 2 ∧ RetV (.int (Sd62.needs x : Int)) H Q
def spIsInst (K : PySem.W.Frag) : Sp := spOf (fun (⟨r, _, p⟩ : Addr × Sd62.Step × Nat) => [.ref r, .int (p : Int)]) fun ⟨r, x, p⟩ H Q _ => SqL K H r (nv (rowS x)) ∧ x.a < 256 ∧ RetV (.bl (Sd62.good p x)) H Q
def rowsOf (ls : List Nat) : List (List Nat) := (List.range ((ls.length + 5) / 6)).map fun i => (ls.drop (6 * i)).take 6
def spInstRows (K : PySem.W.Frag) : Sp := spOf (fun (⟨r, _⟩ : Addr × List Nat) => [.ref r]) fun ⟨r, ls⟩ H Q _ => SqL K H r (nv ls) ∧ ls.length ≤ 40000 ∧
  ∀ (D : Addr) (as : List Addr) H', Ex H H' → H D = none → H' D = some (.lst (as.map V.ref)) → Rows H' as (rowsOf ls) → Q (.ref D) H'
section
variable {P : Program} {w : World} {K : PySem.W.Frag} {mg : Str → Option Value} {base : Heap} {A : Ad}
theorem ok_lane_count (T : Txt K mg A) : Cal P w K mg base 1 "lane_count" spLaneCount := by
  refine Cal.of T.D_lane_count sc_lane_count (spOf_len fun _ => rfl) fun f cdv A' outer s H vs Q E hr h => ?_
  have nd := sc_lane_count.nd
  obtain ⟨n, hv, hn, k⟩ := h
  obtain rfl : vs = [V.int (n : Int)] := hv
  refine ⟨_, (pss_one (ps_ret (pe_ix (ix_tupK (K := K) rfl) (pe_tup (pa_cons pe_int (pa_cons pe_int (pa_cons pe_int pa_nil)))) (pv 0) (fun _ _ => rfl)))), ?_⟩
  refine ⟨by decide, fun p hp => ⟨_, rfl, p, _, _, .int (Sd62.lanes n : Int), rfl, rfl, SqT.of upd_same, ?_, k _ (Ex.new hp)⟩⟩
  refine atI_nat ?_
  rcases (by omega : n = 0 ∨ n = 1 ∨ n = 2) with rfl | rfl | rfl <;> rfl
theorem ev_lane_count {σ : L2.St} {H : Hp} {te : TE} {n : Nat} (h : Ev te σ H (.int (n : Int))) (hn : n ≤ 2) : Ev (tCallS spLaneCount (fun _ => E0) (tCons te tNil)) σ H (.int (Sd62.lanes n : Int)) := fun H1 e Q q =>
  h H1 e _ fun H2 e2 => ⟨n, rfl, hn, fun H3 e3 => q H3 (e2.trans e3)⟩
theorem iF_new (x : Sd62.Step) : putF "other" (.int (x.b : Int)) (putF "one" (.int (x.a : Int)) (putF "goal" (.int (x.d : Int)) (putF "mask" (.int (x.mask : Int)) (putF "lanes" (.int (Sd62.lanes x.width : Int)) (putF "kind" (.int (x.kind : Int)) []))))) = iF x := by
  generalize hk : (V.int (x.kind : Int)) = k
  generalize hl : (V.int (Sd62.lanes x.width : Int)) = l
  generalize hm : (V.int (x.mask : Int)) = m
  generalize hd : (V.int (x.d : Int)) = d
  generalize ha : (V.int (x.a : Int)) = a
  generalize hb : (V.int (x.b : Int)) = b
  have h1 : putF "kind" k [] = ([("kind", k)] : List (Str × V)) := rfl
  have h2 : putF "lanes" l [("kind", k)] = ([("kind", k), ("lanes", l)] : List (Str × V)) := (put_past (by decide +kernel)).trans rfl
  have h3 : putF "mask" m [("kind", k), ("lanes", l)] = ([("kind", k), ("lanes", l), ("mask", m)] : List (Str × V)) := (put_past (by decide +kernel)).trans (congrArg _ ((put_past (by decide +kernel)).trans rfl))
  have h4 : putF "goal" d [("kind", k), ("lanes", l), ("mask", m)] = ([("kind", k), ("lanes", l), ("mask", m), ("goal", d)] : List (Str × V)) := (put_past (by decide +kernel)).trans (congrArg _ ((put_past (by decide +kernel)).trans (congrArg _ ((put_past (by decide +kernel)).trans rfl))))
  have h5 : putF "one" a [("kind", k), ("lanes", l), ("mask", m), ("goal", d)] = ([("kind", k), ("lanes", l), ("mask", m), ("goal", d), ("one", a)] : List (Str × V)) := (put_past (by decide +kernel)).trans (congrArg _ ((put_past (by decide +kernel)).trans (congrArg _ ((put_past (by decide +kernel)).trans (congrArg _ ((put_past (by decide +kernel)).trans rfl))))))
  have h6 : putF "other" b [("kind", k), ("lanes", l), ("mask", m), ("goal", d), ("one", a)] = ([("kind", k), ("lanes", l), ("mask", m), ("goal", d), ("one", a), ("other", b)] : List (Str × V)) := (put_past (by decide +kernel)).trans (congrArg _ ((put_past (by decide +kernel)).trans (congrArg _ ((put_past (by decide +kernel)).trans (congrArg _ ((put_past (by decide +kernel)).trans (congrArg _ ((put_past (by decide +kernel)).trans rfl))))))))
  rw [h1, h2, h3, h4, h5, h6, ← hk, ← hl, ← hm, ← hd, ← ha, ← hb]
  rfl
theorem len_put {f : Str} {v : V} {fs : List (Str × V)} {n : Nat} (h : fs.length ≤ n) : (putF f v fs).length ≤ n + 1 := Nat.le_trans (length_putF _ _ _) (Nat.succ_le_succ h)
theorem ok_Instruction (T : Txt K mg A) : Mak P w K mg base 2 "Instruction" A.cInstruction (spInstInit K A.cInstruction) := by
  have c_lane_count := ok_lane_count (P := P) (w := w) (base := base) T
  refine Mak.of T.D_Instruction___init__ sc_Instruction___init__ (spOf_len fun ⟨_, _, _, _⟩ => rfl) fun f cdv A' outer s H vs Q E hr h => ?_
  have nd := sc_Instruction___init__.nd
  obtain ⟨⟨p, dx, r, x⟩, hv, hp, hL, hw, k⟩ := h
  obtain rfl : vs = [V.ref p, V.ref r] := hv
  refine ⟨_, (pss_cons (ps_fld (pv 0) (pe_ix (ix_listK (K := K) rfl) (pv 1) pe_int (fun _ _ => rfl)) rfl)
 (pss_cons (ps_fld (pv 0) (pe_c c_lane_count hr (by decide) rfl (pa_cons (pe_ix (ix_listK (K := K) rfl) (pv 1) pe_int (fun _ _ => rfl)) pa_nil)) rfl)
 (pss_cons (ps_fld (pv 0) (pe_ix (ix_listK (K := K) rfl) (pv 1) pe_int (fun _ _ => rfl)) rfl)
 (pss_cons (ps_fld (pv 0) (pe_ix (ix_listK (K := K) rfl) (pv 1) pe_int (fun _ _ => rfl)) rfl)
 (pss_cons (ps_fld (pv 0) (pe_ix (ix_listK (K := K) rfl) (pv 1) pe_int (fun _ _ => rfl)) rfl)
 (pss_one (ps_fld (pv 0) (pe_ix (ix_listK (K := K) rfl) (pv 1) pe_int (fun _ _ => rfl)) rfl))))))), ?_⟩
  have npr : ∀ {H' : Hp} {fs : List (Str × V)}, SqL K H' r (nv (rowS x)) → H' p = some (.ins A.cInstruction dx fs) → ∀ o, SqL K (upd H' p o) r (nv (rowS x)) := fun {H' fs} h1 h2 o => by
    rcases h1 with (h1 | ⟨u, h1⟩) | h1
    · exact .inl (.inl (by rw [upd_ne (ne_of h1 h2 (by intro z; cases z))]; exact h1))
    · exact .inl (.inr ⟨u, by rw [upd_ne (ne_of h1 h2 (by intro z; cases z))]; exact h1⟩)
    · exact .inr h1
  have step : ∀ {H1 : Hp} {fs : List (Str × V)} (o : HO), (∀ b u, H b = some u → b ≠ p → H1 b = some u) → ∀ b u, H b = some u → b ≠ p → upd H1 p o b = some u := fun {H1 fs} o h1 b u h2 h3 => by
    rw [upd_ne h3]; exact h1 b u h2 h3
  have s0 : ∀ b u, H b = some u → b ≠ p → H b = some u := fun _ _ h _ => h
  -- kind
  refine ⟨_, rfl, r, _, 0, .int (x.kind : Int), rfl, rfl, hL, atI_nat rfl, _, rfl, p, A.cInstruction, dx, [], rfl, hp, T.cl_Instruction, T.n_Instruction_kind, by decide, ?_⟩
  have s1 := step (fs := []) (.ins A.cInstruction dx (putF "kind" (.int (x.kind : Int)) [])) s0
  have l1 := npr hL hp (.ins A.cInstruction dx (putF "kind" (.int (x.kind : Int)) []))
  have q1 : upd H p (.ins A.cInstruction dx (putF "kind" (.int (x.kind : Int)) [])) p = _ := upd_same
  generalize upd H p (.ins A.cInstruction dx (putF "kind" (.int (x.kind : Int)) [])) = H1 at s1 l1 q1 ⊢
  -- lanes
  refine ⟨_, rfl, r, _, 1, .int (x.width : Int), rfl, rfl, l1, atI_nat rfl, x.width, rfl, hw, fun H1' e1 => ?_⟩
  have s1' : ∀ b u, H b = some u → b ≠ p → H1' b = some u := fun b u h1 h2 => e1 _ _ (s1 b u h1 h2)
  have l1' := Evl.ex_l e1 l1
  have q1' := e1 _ _ q1
  refine ⟨_, rfl, p, A.cInstruction, dx, _, rfl, q1', T.cl_Instruction, T.n_Instruction_lanes, Nat.lt_of_le_of_lt (len_put (Nat.le_refl 0)) (by decide), ?_⟩
  have s2 := step (fs := []) (.ins A.cInstruction dx (putF "lanes" (.int (Sd62.lanes x.width : Int)) (putF "kind" (.int (x.kind : Int)) []))) s1'
  have l2 := npr l1' q1' (.ins A.cInstruction dx (putF "lanes" (.int (Sd62.lanes x.width : Int)) (putF "kind" (.int (x.kind : Int)) [])))
  have q2 : upd H1' p (.ins A.cInstruction dx (putF "lanes" (.int (Sd62.lanes x.width : Int)) (putF "kind" (.int (x.kind : Int)) []))) p = _ := upd_same
  generalize upd H1' p (.ins A.cInstruction dx (putF "lanes" (.int (Sd62.lanes x.width : Int)) (putF "kind" (.int (x.kind : Int)) []))) = H2 at s2 l2 q2 ⊢
  have z2 : (putF "lanes" (.int (Sd62.lanes x.width : Int)) (putF "kind" (.int (x.kind : Int)) [])).length ≤ 2 := len_put (len_put (Nat.le_refl 0))
  generalize hf2 : putF "lanes" (.int (Sd62.lanes x.width : Int)) (putF "kind" (.int (x.kind : Int)) []) = F2 at q2 z2 ⊢
  -- mask
  refine ⟨_, rfl, r, _, 2, .int (x.mask : Int), rfl, rfl, l2, atI_nat rfl, _, rfl, p, A.cInstruction, dx, _, rfl, q2, T.cl_Instruction, T.n_Instruction_mask, Nat.lt_of_le_of_lt z2 (by decide), ?_⟩
  have s3 := step (fs := []) (.ins A.cInstruction dx (putF "mask" (.int (x.mask : Int)) F2)) s2
  have l3 := npr l2 q2 (.ins A.cInstruction dx (putF "mask" (.int (x.mask : Int)) F2))
  have q3 : upd H2 p (.ins A.cInstruction dx (putF "mask" (.int (x.mask : Int)) F2)) p = _ := upd_same
  generalize upd H2 p (.ins A.cInstruction dx (putF "mask" (.int (x.mask : Int)) F2)) = H3 at s3 l3 q3 ⊢
  have z3 : (putF "mask" (.int (x.mask : Int)) F2).length ≤ 3 := len_put z2
  generalize hf3 : putF "mask" (.int (x.mask : Int)) F2 = F3 at q3 z3 ⊢
  -- goal
  refine ⟨_, rfl, r, _, 3, .int (x.d : Int), rfl, rfl, l3, atI_nat rfl, _, rfl, p, A.cInstruction, dx, _, rfl, q3, T.cl_Instruction, T.n_Instruction_goal, Nat.lt_of_le_of_lt z3 (by decide), ?_⟩
  have s4 := step (fs := []) (.ins A.cInstruction dx (putF "goal" (.int (x.d : Int)) F3)) s3
  have l4 := npr l3 q3 (.ins A.cInstruction dx (putF "goal" (.int (x.d : Int)) F3))
  have q4 : upd H3 p (.ins A.cInstruction dx (putF "goal" (.int (x.d : Int)) F3)) p = _ := upd_same
  generalize upd H3 p (.ins A.cInstruction dx (putF "goal" (.int (x.d : Int)) F3)) = H4 at s4 l4 q4 ⊢
  have z4 : (putF "goal" (.int (x.d : Int)) F3).length ≤ 4 := len_put z3
  generalize hf4 : putF "goal" (.int (x.d : Int)) F3 = F4 at q4 z4 ⊢
  -- one
  refine ⟨_, rfl, r, _, 4, .int (x.a : Int), rfl, rfl, l4, atI_nat rfl, _, rfl, p, A.cInstruction, dx, _, rfl, q4, T.cl_Instruction, T.n_Instruction_one, Nat.lt_of_le_of_lt z4 (by decide), ?_⟩
  have s5 := step (fs := []) (.ins A.cInstruction dx (putF "one" (.int (x.a : Int)) F4)) s4
  have l5 := npr l4 q4 (.ins A.cInstruction dx (putF "one" (.int (x.a : Int)) F4))
  have q5 : upd H4 p (.ins A.cInstruction dx (putF "one" (.int (x.a : Int)) F4)) p = _ := upd_same
  generalize upd H4 p (.ins A.cInstruction dx (putF "one" (.int (x.a : Int)) F4)) = H5 at s5 l5 q5 ⊢
  have z5 : (putF "one" (.int (x.a : Int)) F4).length ≤ 5 := len_put z4
  generalize hf5 : putF "one" (.int (x.a : Int)) F4 = F5 at q5 z5 ⊢
  -- other
  refine ⟨_, rfl, r, _, 5, .int (x.b : Int), rfl, rfl, l5, atI_nat rfl, _, rfl, p, A.cInstruction, dx, _, rfl, q5, T.cl_Instruction, T.n_Instruction_other, Nat.lt_of_le_of_lt z5 (by decide), ?_⟩
  refine k _ (step (fs := []) _ s5) ?_
  rw [upd_same, ← hf5, ← hf4, ← hf3, ← hf2, iF_new]
theorem ok_vectors_met (T : Txt K mg A) : Met P w K mg base 1 A.cInstruction "vectors_met" (spVectorsMet A.cInstruction) := by
  refine Met.of T.D_Instruction_vectors_met sc_Instruction_vectors_met (spOf_len fun ⟨_, _⟩ => rfl) fun f cdv A' outer s H vs Q E hr h => ?_
  have nd := sc_Instruction_vectors_met.nd
  obtain ⟨⟨a, x⟩, hv, hi, k⟩ := h
  obtain rfl : vs = [V.ref a] := hv
  refine ⟨_, (pss_cons (ps_if (pt_cmpR op_lt (pe_fldK (K := K) rfl (pv 0) rfl) pe_int (nomark _)) (pss_one (ps_ret (pe_lst (pa_cons (pe_fldK (K := K) rfl (pv 0) rfl) (pa_cons (pe_fldK (K := K) rfl (pv 0) rfl) (pa_cons (pe_fldK (K := K) rfl (pv 0) rfl) pa_nil)))))) pss_nil)
 (pss_cons (ps_if (pt_cmpR op_le (pe_fldK (K := K) rfl (pv 0) rfl) (pe_gv rfl T.g_ROTATE) (nomark _)) (pss_one (ps_ret (pe_lst (pa_cons (pe_fldK (K := K) rfl (pv 0) rfl) (pa_cons (pe_fldK (K := K) rfl (pv 0) rfl) pa_nil))))) pss_nil)
 (pss_cons (ps_if (pt_cmpR (op_inK (K := K) rfl) (pe_fldK (K := K) rfl (pv 0) rfl) (pe_tup (pa_cons (pe_gv rfl T.g_FILL) (pa_cons (pe_gv rfl T.g_RISE) pa_nil))) (by rfl)) (pss_one (ps_ret (pe_lst (pa_cons (pe_fldK (K := K) rfl (pv 0) rfl) pa_nil)))) pss_nil)
 (pss_cons (ps_if (pt_cmpR op_eq (pe_fldK (K := K) rfl (pv 0) rfl) (pe_gv rfl T.g_LANE_SUM) (nomark _)) (pss_one (ps_ret (pe_lst (pa_cons (pe_fldK (K := K) rfl (pv 0) rfl) pa_nil)))) pss_nil)
 (pss_one (ps_ret (pe_ifExp (pt_cmpR op_eq (pe_fldK (K := K) rfl (pv 0) rfl) (pe_gv rfl T.g_LESS) (nomark _)) (pe_lst (pa_cons (pe_fldK (K := K) rfl (pv 0) rfl) (pa_cons (pe_fldK (K := K) rfl (pv 0) rfl) pa_nil))) (pe_lst pa_nil)))))))), ?_⟩
  obtain ⟨dx, ins⟩ := hi.ex
  unfold Sd62.regs at k
  walk_at "ss"
  refine ifD (fun c => ?_) fun c => ?_
  · rw [if_pos (by omega)] at k
    walk_at "ss"
    exact ⟨szl (by simp), fun p hp => k p _ hp (Ex.new hp) upd_same⟩
  rw [if_neg (by omega)] at k
  walk_at "ss"
  refine ifD (fun c2 => ?_) fun c2 => ?_
  · rw [if_pos (by omega)] at k
    walk_at "ss"
    exact ⟨szl (by simp), fun p hp => k p _ hp (Ex.new hp) upd_same⟩
  rw [if_neg (by omega)] at k
  walk_at "ss"
  intro q hq
  refine ⟨q, _, rfl, .inr (SqT.of upd_same), rfl, rfl, _, rfl, ?_⟩
  have e1 : Ex H (upd H q (.tup [V.int 12, V.int 13])) := Ex.new hq
  generalize upd H q (.tup [V.int 12, V.int 13]) = H1 at e1 ⊢
  have ins1 := e1 _ _ ins
  refine ifB (fun c3 => ?_) fun c3 => ?_
  · have c3' := of_decide_eq_true ((inV2 (n := x.kind) (a := 12) (b := 13)).symm.trans c3)
    rw [if_pos (by omega)] at k
    walk_at "ss"
    exact ⟨szl (by simp), fun p hp => k p _ (Evl.fresh_back e1 hp) (e1.trans (Ex.new hp)) upd_same⟩
  have c3' := of_decide_eq_false ((inV2 (n := x.kind) (a := 12) (b := 13)).symm.trans c3)
  rw [if_neg (by omega)] at k
  walk_at "ss"
  refine ifEq (fun c4 => ?_) fun c4 => ?_
  · rw [if_pos (by omega)] at k
    walk_at "ss"
    exact ⟨szl (by simp), fun p hp => k p _ (Evl.fresh_back e1 hp) (e1.trans (Ex.new hp)) upd_same⟩
  rw [if_neg (by omega)] at k
  walk_at "ss"
  refine ifEq (fun c5 => ?_) fun c5 => ?_
  · rw [if_pos (by omega)] at k
    walk_at "ss"
    exact ⟨szl (by simp), fun p hp => k p _ (Evl.fresh_back e1 hp) (e1.trans (Ex.new hp)) upd_same⟩
  · rw [if_neg (by omega)] at k
    walk_at "ss"
    exact fun p hp => k p _ (Evl.fresh_back e1 hp) (e1.trans (Ex.new hp)) upd_same
end
end VP

/-! ### more values of texts; the rest of the instructions -/
namespace VP
open PySem PySem.Spec PyProof.Rows L2
open Evl (Ex RetL RetV Ev EvL EvT EvA EvO)
section
variable {K : PySem.W.Frag} {σ : L2.St} {H H' : Hp} {ta tb te tl : TE} {tt : TT} {ns : List Nat} {C : Addr} {j : Nat} {vs : List Nat}
theorem et_yes : EvT tYes σ H true := fun H1 _ Q q => q H1 (Ex.refl H1)
theorem ev_fld {a dx : Addr} {fs : List (Str × V)} {f : Str} {v : V} (ho : Ev te σ H (.ref a)) (hi : H a = some (.ins C dx fs)) (cl : Cls K C) (na : NoAttr K C f) (lk : fs.lookup f = some v) : Ev (tFld K te f) σ H v := fun H1 e Q q =>
  ho H1 e _ fun H2 e2 => ⟨a, C, dx, fs, v, rfl, (e.trans e2) _ _ hi, cl, na, lk, q H2 e2⟩
theorem ev_ins {a : Addr} {x : Sd62.Step} {f : Str} {v : V} (ho : Ev te σ H (.ref a)) (hi : InsAt C H a x) (cl : Cls K C) (na : NoAttr K C f) (lk : (iF x).lookup f = some v) : Ev (tFld K te f) σ H v :=
  let ⟨_, h⟩ := hi.ex; ev_fld ho h cl na lk
theorem el_filterQ (p : Nat → Bool) (f : Nat → V) (h : EvQ K tl σ H (nv ns)) (hz : ns.length ≤ 40000) (hw : ∀ x, wipe ((wipe σ vs).set j (some x)) vs = wipe σ vs)
    (ht : ∀ n H1, Ex H H1 → n ∈ ns → EvT tt ((wipe σ vs).set j (some (.int ((n : Nat) : Int)))) H1 (p n)) (he : ∀ n H1, Ex H H1 → n ∈ ns → p n = true → Ev te ((wipe σ vs).set j (some (.int ((n : Nat) : Int)))) H1 (f n)) :
    EvL (tLc (iList K tl) (gName j) tt te vs) σ H ((ns.filter p).map f) := fun H0 e Q q => h H0 e _ fun a H1 e1 hx => ⟨a, rfl, ⟨_, hx⟩, fun Dl hD => by
  refine lc_vals (walk_list (K := K) (a := a) (xs := nv ns)) (fun i => p (ns.getD i 0)) (fun i => f (ns.getD i 0)) (by rw [nv_length]; omega) hD (fun H' e => Evl.ex_l e hx) ?_ ?_
  · rintro i x H2 H3 R S hi e2 ⟨rfl, hx2⟩ kT kF
    obtain ⟨n, hn, rfl⟩ := nv_get_of hx2
    have hg : ns.getD i 0 = n := by rw [List.getD_eq_getElem?_getD, hn]; rfl
    simp only [hg] at kT kF
    have hm := List.mem_of_getElem? hn
    refine ⟨hw _, ht n H3 ((e.trans e1).trans e2) hm H3 (Ex.refl _) _ fun H4 e4 => ?_⟩
    cases hp : p n with
    | true => exact iteT (he n H4 (((e.trans e1).trans e2).trans e4) hm hp H4 (Ex.refl _) _ fun H5 e5 => kT hp H5 (e4.trans e5))
    | false => exact iteF (kF hp H4 e4)
  · intro H2 e2 hl
    refine q Dl H2 (Evl.fresh_back e1 hD) (e1.trans e2) (hl.trans ?_)
    rw [nv_length]
    conv => rhs; rw [← map_range_get ns 0]
    rw [List.filter_map, List.map_map]
    rfl⟩
theorem el_mapQ (f : Nat → V) (h : EvQ K tl σ H (nv ns)) (hz : ns.length ≤ 40000) (hw : ∀ x, wipe ((wipe σ vs).set j (some x)) vs = wipe σ vs)
    (he : ∀ n H1, Ex H H1 → n ∈ ns → Ev te ((wipe σ vs).set j (some (.int ((n : Nat) : Int)))) H1 (f n)) : EvL (tLc (iList K tl) (gName j) tYes te vs) σ H (ns.map f) :=
  el_is (el_filterQ (fun _ => true) f h hz hw (fun _ _ _ _ => et_yes) (fun n H1 e hn _ => he n H1 e hn)) (by rw [List.filter_eq_self.mpr (fun _ _ => rfl)])
theorem el_rangeF {n : Nat} {t : TA} (p : Nat → Bool) (f : Nat → V) (h : EvA t σ H [.int (n : Int)]) (hz : n ≤ 40000) (hw : ∀ x, wipe ((wipe σ vs).set j (some x)) vs = wipe σ vs)
    (ht : ∀ i H1, Ex H H1 → i < n → EvT tt ((wipe σ vs).set j (some (.int ((i : Nat) : Int)))) H1 (p i)) (he : ∀ i H1, Ex H H1 → i < n → p i = true → Ev te ((wipe σ vs).set j (some (.int ((i : Nat) : Int)))) H1 (f i)) :
    EvL (tLc (iRng1 t) (gName j) tt te vs) σ H (((List.range n).filter p).map f) :=
  Evl.el_lcR1 p f h ⟨by omega, by omega⟩ hw (fun i H1 e hi => ht i H1 e (by omega)) (fun i H1 e hi hp => he i H1 e (by omega) hp)
theorem el_rangeM {n : Nat} {t : TA} (f : Nat → V) (h : EvA t σ H [.int (n : Int)]) (hz : n ≤ 40000) (hw : ∀ x, wipe ((wipe σ vs).set j (some x)) vs = wipe σ vs)
    (he : ∀ i H1, Ex H H1 → i < n → Ev te ((wipe σ vs).set j (some (.int ((i : Nat) : Int)))) H1 (f i)) : EvL (tLc (iRng1 t) (gName j) tYes te vs) σ H ((List.range n).map f) :=
  el_is (el_rangeF (fun _ => true) f h hz hw (fun _ _ _ _ => et_yes) (fun n H1 e hn _ => he n H1 e hn)) (by rw [List.filter_eq_self.mpr (fun _ _ => rfl)])
theorem ev_any {bs : List Bool} (h : EvL te σ H (bs.map V.bl)) : Ev (tCB (rAny K) (tCons te tNil)) σ H (.bl (bs.any id)) := fun H1 e Q q => h H1 e _ fun p H2 _ e2 h2 => ⟨p, bs, rfl, SqL.of h2, q H2 e2⟩
theorem ev_all {bs : List Bool} (h : EvL te σ H (bs.map V.bl)) : Ev (tCB (rAll K) (tCons te tNil)) σ H (.bl (bs.all id)) := fun H1 e Q q => h H1 e _ fun p H2 _ e2 h2 => ⟨p, bs, rfl, SqL.of h2, q H2 e2⟩
theorem ev_sum (h : EvL te σ H (nv ns)) : Ev (tCB (rSum K) (tCons te tNil)) σ H (.int (ns.sum : Int)) := fun H1 e Q q => h H1 e _ fun p H2 _ e2 h2 => ⟨p, ns.map fun n => ((n : Nat) : Int), rfl, SqL.of (h2.trans (by rw [nv_ints])), by rw [sum_cast]; exact q H2 e2⟩
theorem dIntN {a b : Nat} : decide (((a : Nat) : Int) = (b : Int)) = decide (a = b) := decide_eq_decide.mpr (by omega)
theorem leIntN {a b : Nat} : decide (((a : Nat) : Int) ≤ (b : Int)) = decide (a ≤ b) := decide_eq_decide.mpr (by omega)
theorem ltIntN {a b : Nat} : decide (((a : Nat) : Int) < (b : Int)) = decide (a < b) := decide_eq_decide.mpr (by omega)
end
section
variable {P : Program} {w : World} {K : PySem.W.Frag} {mg : Str → Option Value} {base : Heap} {A : Ad}
theorem any_map_bl (ns : List Nat) (p : Nat → Bool) : (ns.map fun n => V.bl (p n)) = (ns.map p).map V.bl := by rw [List.map_map]; rfl
theorem lanes_8 {w : Nat} (h : w ≤ 2) : Sd62.lanes w = 8 ↔ w = 2 := by
  rcases (by omega : w = 0 ∨ w = 1 ∨ w = 2) with rfl | rfl | rfl <;> decide
theorem lanes_4 {w : Nat} (h : w ≤ 2) : Sd62.lanes w = 4 ↔ w = 1 := by
  rcases (by omega : w = 0 ∨ w = 1 ∨ w = 2) with rfl | rfl | rfl <;> decide
theorem regs_len (x : Sd62.Step) : (Sd62.regs x).length ≤ 3 := by
  unfold Sd62.regs
  repeat' split
  all_goals simp
theorem ok_least_machine (T : Txt K mg A) : Met P w K mg base 2 A.cInstruction "least_machine" (spLeast A.cInstruction) := by
  have c_Instruction_vectors_met := ok_vectors_met (P := P) (w := w) (base := base) T
  refine Met.of T.D_Instruction_least_machine sc_Instruction_least_machine (spOf_len fun ⟨_, _⟩ => rfl) fun f cdv A' outer s H vs Q E hr h => ?_
  have nd := sc_Instruction_least_machine.nd
  obtain ⟨⟨a, x⟩, hv, hi, hw, k⟩ := h
  obtain rfl : vs = [V.ref a] := hv
  refine ⟨_, (pss_cons (ps_if (PW.pt (pw_or (pt_cmpR op_eq (pe_fldK (K := K) rfl (pv 0) rfl) pe_int (nomark _)) (pw_or (pt_cmpR op_ne (pe_fldK (K := K) rfl (pv 0) rfl) pe_int (nomark _)) (pw_or1 (pt_chain op_le op_le (pe_gv rfl T.g_LESS) (pe_fldK (K := K) rfl (pv 0) rfl) (pe_gv rfl T.g_K_FROM_M)))))) (pss_one (ps_ret pe_int)) pss_nil)
 (pss_cons (ps_if (pt_val (pe_callB (cr_anyK (K := K) rfl rfl) (by rfl) T.b_any (by decide +kernel) (pa_cons (pe_lc (own := [("at", 1)]) (g := gName 1) rfl nd (pi_listK (K := K) rfl (pe_m0 T.cl_Instruction c_Instruction_vectors_met hr (by decide) (pv 0))) (blkOk_by (own := [("at", 1)]) (N := ["self", "at"]) (sc := defScope s_Instruction_least_machine) (by decide +kernel)) (fun _ _ _ _ _ => by exact (pg_name (i := 1) nd rfl (Or.inl rfl))) (fun _ _ _ _ _ => by exact pts_nil) (fun _ _ _ _ _ => by exact (pe_cmpR op_ge (pv 1) (pe_gv rfl T.g_LOW_COUNT) (nomark _)))) pa_nil))) (pss_one (ps_ret pe_int)) pss_nil)
 (pss_one (ps_ret (pe_ifExp (pt_cmpR op_eq (pe_fldK (K := K) rfl (pv 0) rfl) pe_int (nomark _)) pe_int pe_int))))), ?_⟩
  have h8 := lanes_8 hw
  have h4 := lanes_4 hw
  refine Evl.q_when (Evl.et_or (et_eqI (ev_ins (Evl.ev_var rfl) hi T.cl_Instruction T.n_Instruction_lanes (iF_lanes x)) Evl.ev_c) fun _ => Evl.et_or (et_neI (ev_ins (Evl.ev_var rfl) hi T.cl_Instruction T.n_Instruction_mask (iF_mask x)) Evl.ev_c) fun _ =>
    Evl.et_test (ev_chainLL Evl.ev_c (ev_ins (Evl.ev_var rfl) hi T.cl_Instruction T.n_Instruction_kind (iF_kind x)) Evl.ev_c)) (fun hc H1 e1 => ?_) (fun hc H1 e1 => ?_)
  · have hn : Sd62.needs x = 231 := by
      unfold Sd62.needs
      refine if_pos ?_
      simp only [Bool.or_eq_true, Bool.and_eq_true, decide_eq_true_eq, Bool.not_eq_true', decide_eq_false_iff_not] at hc
      omega
    rw [hn] at k
    exact k H1 e1
  · simp only [Bool.or_eq_false_iff, Bool.and_eq_false_iff, decide_eq_false_iff_not, Bool.not_eq_false', decide_eq_true_eq] at hc
    have hi1 := hi.mono e1
    refine Evl.q_when (b := (Sd62.regs x).any fun r => decide (16 ≤ r)) (Evl.et_is (Evl.et_test (ev_any (K := K) (el_is (el_mapQ (K := K) (ns := Sd62.regs x) (j := 1) (fun n => V.bl (decide (16 ≤ n))) (eq_new (fun H2 e2 Q q => ?_)) ?_ (fun _ => rfl) (fun n H2 e2 hn => ?_)) (any_map_bl _ _)))) ?_) (fun hd H2 e2 => ?_) (fun hd H2 e2 => ?_)
    · obtain ⟨dx, ins⟩ := (hi1.mono e2).ex
      exact ⟨_, rfl, a, dx, iF x, rfl, ins, iF_vectors_met x, ⟨a, x⟩, rfl, hi1.mono e2, fun p H3 hp e3 h3 => q p H3 hp e3 h3⟩
    · exact Nat.le_trans (regs_len x) (by decide)
    · exact Evl.ev_is (Evl.ev_op (Evl.ev_var rfl) Evl.ev_c Evl.rv_I0) (by
        show V.bl (decide (((n : Nat) : Int) ≥ 16)) = _
        rw [show decide (((n : Nat) : Int) ≥ 16) = decide (16 ≤ n) from decide_eq_decide.mpr (by omega)])
    · rw [List.any_map]; rfl
    · have hn : Sd62.needs x = 231 := by
        unfold Sd62.needs
        exact if_pos (.inr (.inr (.inr hd)))
      rw [hn] at k
      exact k H2 (e1.trans e2)
    · have hn : Sd62.needs x = if x.width = 1 then 7 else 3 := by
        unfold Sd62.needs
        refine if_neg ?_
        rintro (z | z | z | z)
        · omega
        · omega
        · omega
        · rw [hd] at z; cases z
      rw [hn] at k
      refine Evl.s_ret (v := .int ((if x.width = 1 then 7 else 3 : Nat) : Int)) (Evl.ev_if (et_eqI (ev_ins (Evl.ev_var rfl) (hi1.mono e2) T.cl_Instruction T.n_Instruction_lanes (iF_lanes x)) Evl.ev_c) (fun hb => ?_) (fun hb => ?_)) fun H3 e3 => k H3 ((e1.trans e2).trans e3)
      · have hb' := of_decide_eq_true hb
        rw [if_pos (by omega)]
        exact Evl.ev_c
      · have hb' := of_decide_eq_false hb
        rw [if_neg (by omega)]
        exact Evl.ev_c
theorem and4_f {a b c d : Bool} (h : a = false ∨ b = false ∨ c = false) : (a && (b && (c && d))) = false := by
  rcases h with rfl | rfl | rfl
  · rfl
  · cases a <;> rfl
  · cases a <;> cases b <;> rfl
theorem good_out {p : Nat} {x : Sd62.Step} (h : 23 < x.kind ∨ 2 < x.width ∨ 7 < x.mask) : Sd62.good p x = false :=
  and4_f (by
    rcases h with h | h | h
    · exact .inl (decide_eq_false (by show ¬ x.kind < 24; omega))
    · exact .inr (.inl (decide_eq_false (by omega)))
    · exact .inr (.inr (decide_eq_false (by omega))))
theorem ok_is_instruction (T : Txt K mg A) : Cal P w K mg base 2 "is_instruction" (spIsInst K) := by
  have c_lane_count := ok_lane_count (P := P) (w := w) (base := base) T
  refine Cal.of T.D_is_instruction sc_is_instruction (spOf_len fun ⟨_, _, _⟩ => rfl) fun f cdv A' outer s H vs Q E hr h => ?_
  have nd := sc_is_instruction.nd
  obtain ⟨⟨r, x, p⟩, hv, hL, ha, k⟩ := h
  obtain rfl : vs = [V.ref r, V.int (p : Int)] := hv
  refine ⟨_, (pss_cons (ps_asg (pv 0) (pg_lstK (K := K) rfl rfl (pgs_cons (pg_name (i := 2) nd rfl (Or.inl rfl)) (pgs_cons (pg_name (i := 3) nd rfl (Or.inl rfl)) (pgs_cons (pg_name (i := 4) nd rfl (Or.inl rfl)) (pgs_cons (pg_name (i := 5) nd rfl (Or.inl rfl)) (pgs_cons (pg_name (i := 6) nd rfl (Or.inl rfl)) (pgs_cons (pg_name (i := 7) nd rfl (Or.inl rfl)) pgs_nil))))))))
 (pss_cons (ps_if (PW.pt (pw_or (pt_cmpR op_gt (pv 2) (pe_gv rfl T.g_LOOP) (nomark _)) (pw_or (pt_cmpR op_gt (pv 3) (pe_gv rfl T.g_MOST_WIDTH) (nomark _)) (pw_or1 (pt_cmpR op_gt (pv 4) (pe_gv rfl T.g_MOST_MASK) (nomark _)))))) (pss_one (ps_ret pe_bl)) pss_nil)
 (pss_cons (ps_asg (pe_ix (ix_tupK (K := K) rfl) (pe_gv rfl T.g_BOUNDS) (pv 2) (fun _ _ => rfl)) (pg_tupK (K := K) rfl rfl (pgs_cons (pg_name (i := 8) nd rfl (Or.inl rfl)) (pgs_cons (pg_name (i := 9) nd rfl (Or.inl rfl)) (pgs_cons (pg_name (i := 10) nd rfl (Or.inl rfl)) (pgs_cons (pg_name (i := 11) nd rfl (Or.inl rfl)) (pgs_cons (pg_name (i := 12) nd rfl (Or.inl rfl)) pgs_nil)))))))
 (pss_cons (ps_if (PW.pt (pw_or (pt_cmpR op_ge (pv 5) (pv 8) (nomark _)) (pw_or (pt_cmpR op_ge (pv 6) (pv 9) (nomark _)) (pw_or1 (pt_cmpR op_ge (pv 7) (pv 10) (nomark _)))))) (pss_one (ps_ret pe_bl)) pss_nil)
 (pss_cons (ps_if (PW.pt (pw_or (PW.pt (pw_and (pt_val (pv 11)) (pw_and1 (pt_cmpR op_ne (pv 3) pe_int (nomark _))))) (pw_or1 (PW.pt (pw_and (pt_val (pv 12)) (pw_and1 (pt_cmpR op_ne (pv 4) pe_int (nomark _)))))))) (pss_one (ps_ret pe_bl)) pss_nil)
 (pss_cons (ps_if (pt_cmpR op_eq (pv 2) (pe_gv rfl T.g_LOOP) (nomark _)) (pss_one (ps_ret (pe_chain op_le op_le pe_int (pv 6) (pv 1)))) pss_nil)
 (pss_one (ps_ret (pe_or (pe_cmpR op_ne (pv 2) (pe_gv rfl T.g_ROTATE) (nomark _)) (pe_one (pe_cmpR op_lt (pv 7) (pe_c c_lane_count hr (by decide) rfl (pa_cons (pv 3) pa_nil)) (nomark _)))))))))))), ?_⟩
  refine ⟨_, rfl, r, _, rfl, hL, rfl, _, _, rfl, _, _, rfl, _, _, rfl, _, _, rfl, _, _, rfl, _, _, rfl, rfl, ?_⟩
  refine Evl.q_when (Evl.et_or (et_I0 (Evl.ev_var rfl) Evl.ev_c) fun _ => Evl.et_or (et_I0 (Evl.ev_var rfl) Evl.ev_c) fun _ => et_I0 (Evl.ev_var rfl) Evl.ev_c) (fun hc H1 e1 => ?_) (fun hc H1 e1 => ?_)
  · have hg : Sd62.good p x = false := good_out (by
      simp only [Bool.or_eq_true, decide_eq_true_eq] at hc
      omega)
    rw [hg] at k
    exact k H1 e1
  simp only [Bool.or_eq_false_iff, decide_eq_false_iff_not] at hc
  obtain ⟨hk, hw, hm⟩ := hc
  have hk : x.kind ≤ 23 := by omega
  have hw : x.width ≤ 2 := by omega
  have hm : x.mask ≤ 7 := by omega
  obtain ⟨bd, hbd⟩ : ∃ bd, boundsRows[x.kind]? = some bd := ⟨_, List.getElem?_eq_getElem (by rw [bounds_len]; omega)⟩
  obtain ⟨b, hb1, hb2⟩ := T.t_bounds _ _ hbd
  have hg := good_bounds (p := p) hk hw hm ha hbd
  rw [hg] at k
  refine ⟨_, rfl, A.aBOUNDS, _, (x.kind : Int), .ref b, rfl, rfl, T.t_BOUNDS _, atI_nat (by rw [List.getElem?_map, hb1]; rfl), b, _, rfl, hb2 _, rfl, _, _, rfl, _, _, rfl, _, _, rfl, _, _, rfl, _, _, rfl, rfl, ?_⟩
  refine Evl.q_when (Evl.et_or (et_I0 (Evl.ev_var rfl) (Evl.ev_var rfl)) fun _ => Evl.et_or (et_I0 (Evl.ev_var rfl) (Evl.ev_var rfl)) fun _ => et_I0 (Evl.ev_var rfl) (Evl.ev_var rfl)) (fun hc H2 e2 => ?_) (fun hc H2 e2 => ?_)
  · have hz : goodB p x bd = false := by
      unfold goodB
      have h1 : (decide (bd.1 ≤ x.d) || (decide (bd.2.1 ≤ x.a) || decide (bd.2.2.1 ≤ x.b))) = true := by
        simp only [Bool.or_eq_true, decide_eq_true_eq] at hc ⊢
        omega
      rw [h1]
      rfl
    rw [hz] at k
    exact k H2 (e1.trans e2)
  have h1 : (decide (bd.1 ≤ x.d) || (decide (bd.2.1 ≤ x.a) || decide (bd.2.2.1 ≤ x.b))) = false := by
    simp only [Bool.or_eq_false_iff, decide_eq_false_iff_not] at hc ⊢
    omega
  refine Evl.q_when (Evl.et_or (Evl.et_and (Evl.et_test (Evl.ev_var (v := .bl bd.2.2.2.1) rfl)) fun _ => et_neI (Evl.ev_var rfl) Evl.ev_c) fun _ => Evl.et_and (Evl.et_test (Evl.ev_var (v := .bl bd.2.2.2.2) rfl)) fun _ => et_neI (Evl.ev_var rfl) Evl.ev_c) (fun hd H3 e3 => ?_) (fun hd H3 e3 => ?_)
  · have hz : goodB p x bd = false := by
      unfold goodB
      have h2 : ((bd.2.2.2.1 && decide (x.width ≠ 0)) || (bd.2.2.2.2 && decide (x.mask ≠ 0))) = true := by
        have hz1 : (!decide (((x.width : Nat) : Int) = 0)) = decide (x.width ≠ 0) := by rw [← decide_not]; exact decide_eq_decide.mpr (by omega)
        have hz2 : (!decide (((x.mask : Nat) : Int) = 0)) = decide (x.mask ≠ 0) := by rw [← decide_not]; exact decide_eq_decide.mpr (by omega)
        rw [hz1, hz2] at hd
        exact hd
      rw [h1, h2]
      rfl
    rw [hz] at k
    exact k H3 ((e1.trans e2).trans e3)
  have h2 : ((bd.2.2.2.1 && decide (x.width ≠ 0)) || (bd.2.2.2.2 && decide (x.mask ≠ 0))) = false := by
    have hz1 : (!decide (((x.width : Nat) : Int) = 0)) = decide (x.width ≠ 0) := by rw [← decide_not]; exact decide_eq_decide.mpr (by omega)
    have hz2 : (!decide (((x.mask : Nat) : Int) = 0)) = decide (x.mask ≠ 0) := by rw [← decide_not]; exact decide_eq_decide.mpr (by omega)
    rw [hz1, hz2] at hd
    exact hd
  have hz : goodB p x bd = if x.kind = 23 then decide (1 ≤ x.a) && decide (x.a ≤ p) else decide (x.kind ≠ 11) || decide (x.b < Sd62.lanes x.width) := by
    unfold goodB
    rw [h1, h2]
    rfl
  rw [hz] at k
  refine Evl.q_when (et_eqI (Evl.ev_var rfl) Evl.ev_c) (fun hf H4 e4 => ?_) (fun hf H4 e4 => ?_)
  · have hf' := of_decide_eq_true hf
    rw [if_pos (by omega)] at k
    refine Evl.s_ret (v := .bl (decide (1 ≤ x.a) && decide (x.a ≤ p))) (Evl.ev_is (ev_chainLL Evl.ev_c (Evl.ev_var rfl) (Evl.ev_var rfl)) ?_) fun H5 e5 => k H5 ((((e1.trans e2).trans e3).trans e4).trans e5)
    rw [show decide ((1 : Int) ≤ ((x.a : Nat) : Int)) = decide (1 ≤ x.a) from decide_eq_decide.mpr (by omega), leIntN]
  · have hf' := of_decide_eq_false hf
    rw [if_neg (by omega)] at k
    refine Evl.s_ret (v := .bl (decide (x.kind ≠ 11) || decide (x.b < Sd62.lanes x.width))) (Evl.ev_is (Evl.ev_orV (Evl.ev_op (Evl.ev_var rfl) Evl.ev_c (Evl.rv_ne rfl)) fun _ => Evl.ev_op (Evl.ev_var rfl) (ev_lane_count (Evl.ev_var rfl) hw) Evl.rv_I0) ?_) fun H5 e5 => k H5 ((((e1.trans e2).trans e3).trans e4).trans e5)
    rw [dInt, ltIntN, show (!decide (((x.kind : Nat) : Int) = 11)) = decide (x.kind ≠ 11) by rw [← decide_not]; exact decide_eq_decide.mpr (by omega)]
theorem ok_instruction_rows (T : Txt K mg A) : Cal P w K mg base 1 "instruction_rows" (spInstRows K) := by
  refine Cal.of T.D_instruction_rows sc_instruction_rows (spOf_len fun ⟨_, _⟩ => rfl) fun f cdv A' outer s H vs Q E hr h => ?_
  have nd := sc_instruction_rows.nd
  obtain ⟨⟨r, ns⟩, hv, hL, hz, k⟩ := h
  obtain rfl : vs = [V.ref r] := hv
  refine ⟨_, (pss_one (ps_ret (pe_lc (own := [("at", 1)]) (g := gName 1) rfl nd (pi_range3 rfl T.b_range (pa_cons pe_int (pa_cons (pe_callB (call_lenK (K := K) rfl) (by rfl) T.b_len PySem.boot_len (pa_cons (pv 0) pa_nil)) (pa_cons (pe_gv rfl T.g_SIZE) pa_nil)))) (blkOk_by (own := [("at", 1)]) (N := ["code", "at"]) (sc := defScope s_instruction_rows) (by decide +kernel)) (fun _ _ _ _ _ => by exact (pg_name (i := 1) nd rfl (Or.inl rfl))) (fun _ _ _ _ _ => by exact pts_nil) (fun _ _ _ _ _ => by exact (pe_slice (sl_listK (K := K) rfl) (pv 0) (po_some (pv 1)) (po_some (pe_op op_add (pv 1) (pe_gv rfl T.g_SIZE)))))))), ?_⟩
  refine ⟨_, rfl, r, _, rfl, .inl hL, 0, _, 6, (ns.length + 5) / 6, rfl, ?_, fun D hD => ?_⟩
  · rw [nv_length]
    exact rgc_up (j := ns.length) (c := 6) (by decide) (by decide) (by omega)
  refine lc_refs (walk_rangeC (lo := 0) (c := 6)) (fun i o => o = .lst (nv ((ns.drop (6 * i)).take 6))) (by omega) hD (fun _ _ => trivial) ?_ ?_
  · rintro i x H1 H2 R hi e ⟨rfl, rfl⟩ k1
    refine ⟨rfl, ?_⟩
    refine ⟨_, rfl, _, rfl, _, rfl, _, rfl, _, _, rfl, rfl, _, rfl, r, _, rfl, Evl.ex_l e hL, fun p hp => ?_⟩
    have e2 : cutV (nv ns) (some (0 + ((i : Nat) : Int) * 6)) (some (0 + ((i : Nat) : Int) * 6 + 6)) = nv ((ns.drop (6 * i)).take 6) := by
      rw [show (0 + ((i : Nat) : Int) * 6) = ((6 * i : Nat) : Int) by omega, show ((6 * i : Nat) : Int) + 6 = ((6 * i + 6 : Nat) : Int) by omega, cut_nn, nv_drop, nv_take, show 6 * i + 6 - 6 * i = 6 by omega]
    rw [e2]
    exact k1 p _ _ (Ex.new hp) hp upd_same rfl
  · intro as H1 e hl hlen hat
    exact k D as H1 e hD hl (rows_of_refs hlen fun i b hb => (hat i b hb).2.2)
end
end VP

/-! ### list(zip(a, b)) -/
namespace PySem
namespace ZpL
open PySem.W PyProof.Rows
theorem zip_no_len : typeLookup (.type "zip") "__len__" = pure none := by rw [typeLookup_type, builtinLookup_eq_fast]; kernel_rfl
theorem zip_no_hint : typeLookup (.type "zip") "__length_hint__" = pure none := by rw [typeLookup_type, builtinLookup_eq_fast]; kernel_rfl
structure ZpG (xs ys : Array Value) (lo : Addr) (h : Heap) (as : List Addr) : Prop where
  rise : as.Pairwise (· < ·)
  above : ∀ a ∈ as, lo < a
  pairs : ∀ (j : Nat) (a : Addr), as[j]? = some a → ∃ x y, xs[j]? = some x ∧ ys[j]? = some y ∧ h.get? a = some { cls := .type "tuple", data := .seq #[x, y] }
theorem ZpG.there {xs ys : Array Value} {lo : Addr} {h : Heap} {as : List Addr} (g : ZpG xs ys lo h as) {a : Addr} (ha : a ∈ as) : a < h.objs.size := by
  obtain ⟨j, hj⟩ := List.mem_iff_getElem?.mp ha
  obtain ⟨_, _, _, _, e⟩ := g.pairs j a hj
  exact Heap.lt_size e
structure ZpSt (h : Heap) (z TI TO i1 i2 l1 l2 S : Addr) (xs ys : Array Value) (i : Nat) : Prop where
  ti : IsPair h TI (.ref i1) (.ref i2)
  h1 : h.IsListIter i1 l1 i
  h2 : h.IsListIter i2 l2 i
  hl1 : h.IsList l1 xs
  hl2 : h.IsList l2 ys
  hz : (IsZip h z TI TO .none ∧ ∃ a b, IsPair h TO a b) ∨ ∃ T f oT, IsZipHeld h z TI TO T f ∧ h.get? T = some oT ∧ T ≠ z ∧ T ≠ i1 ∧ T ≠ i2 ∧ T ≠ S
/-- what the list's address is not -/
structure Off (z TI TO i1 i2 l1 l2 S : Addr) : Prop where
  z : z ≠ S
  ti : TI ≠ S
  to : TO ≠ S
  i1 : i1 ≠ S
  i2 : i2 ≠ S
  l1 : l1 ≠ S
  l2 : l2 ≠ S
theorem ZpSt.keep {h h' : Heap} {z TI TO i1 i2 l1 l2 S : Addr} {xs ys : Array Value} {i : Nat} (st : ZpSt h z TI TO i1 i2 l1 l2 S xs ys i) (o : Off z TI TO i1 i2 l1 l2 S) (hk : ∀ b u, b ≠ S → h.get? b = some u → h'.get? b = some u) : ZpSt h' z TI TO i1 i2 l1 l2 S xs ys i := by
  refine ⟨hk _ _ o.ti st.ti, st.h1.at fun u e => hk _ u o.i1 e, st.h2.at fun u e => hk _ u o.i2 e, st.hl1.at fun u e => hk _ u o.l1 e, st.hl2.at fun u e => hk _ u o.l2 e, ?_⟩
  rcases st.hz with ⟨hz, a, b, hTO⟩ | ⟨T, f, oT, hz, hT, r1, r2, r3, r4⟩
  · exact .inl ⟨hk _ _ o.z hz, a, b, hk _ _ o.to hTO⟩
  · exact .inr ⟨T, f, oT, hk _ _ o.z hz, hk _ _ r4 hT, r1, r2, r3, r4⟩
section
variable {prog : Program} {w : World} {A : Around} {E : Value → Shared → Prop} {s : Shared} {z TI TO i1 i2 l1 l2 S : Addr} {xs ys : Array Value} {i : Nat}
theorem zp_item {x y : Value} {Q : Option Value → Shared → Prop} (D : ZipApart z TI TO i1 i2 l1 l2) (st : ZpSt s.heap z TI TO i1 i2 l1 l2 S xs ys i) (hS : S < s.heap.objs.size) (ex : xs[i]? = some x) (ey : ys[i]? = some y)
    (hQ : ∀ h', ZpSt h' z TI TO i1 i2 l1 l2 S xs ys (i + 1) → IsPair h' s.heap.objs.size x y → h'.objs.size = s.heap.objs.size + 1 → (∀ c o, c ≠ z → c ≠ TO → c ≠ i1 → c ≠ i2 → s.heap.get? c = some o → h'.get? c = some o) → Q (some (.ref s.heap.objs.size)) { s with heap := h' }) :
    wpAny (model prog w) A (pyNext (.ref z)) Q E s := by
  obtain ⟨hTI, h1, h2, hl1, hl2, hz⟩ := st
  have lt : ∀ {c o}, s.heap.get? c = some o → s.heap.objs.size ≠ c := fun e => Nat.ne_of_gt (Heap.lt_size e)
  have n1 : s.heap.objs.size ≠ i1 := let ⟨_, e, _⟩ := h1; lt e
  have n2 : s.heap.objs.size ≠ i2 := let ⟨_, e, _⟩ := h2; lt e
  rcases hz with ⟨hz, a, b, hTO⟩ | ⟨T, f, oT, hz, hT, r1, r2, r3, r4⟩
  · refine wpAny_pyNext_zip_item D hz hTI hTO h1 h2 hl1 hl2 ex ey fun h' a1 a2 a3 a4 a5 a6 hk => ?_
    exact hQ h' ⟨hk _ _ D.TIz D.TITO D.TIi1 D.TIi2 hTI, a3, a4, hl1.at fun o e => hk _ o D.l1z D.l1TO D.l1i1 D.l1i2 e, hl2.at fun o e => hk _ o D.l2z D.l2TO D.l2i1 D.l2i2 e,
      .inr ⟨s.heap.objs.size, false, _, a1, a5, lt hz, n1, n2, Nat.ne_of_gt hS⟩⟩ a5 a6 hk
  · refine wpAny_pyNext_zip_item_held D hz hT hTI h1 h2 hl1 hl2 ex ey fun h' a1 a3 a4 a5 a6 hk => ?_
    exact hQ h' ⟨hk _ _ D.TIz D.TIi1 D.TIi2 hTI, a3, a4, hl1.at fun o e => hk _ o D.l1z D.l1i1 D.l1i2 e, hl2.at fun o e => hk _ o D.l2z D.l2i1 D.l2i2 e,
      .inr ⟨T, true, oT, a1, hk _ _ r1 r2 r3 hT, r1, r2, r3, r4⟩⟩ a5 a6 fun c o c1 _ c3 c4 e => hk c o c1 c3 c4 e
theorem zp_done {Q : Option Value → Shared → Prop} (hh : A.handled = none) (D : ZipApart z TI TO i1 i2 l1 l2) (st : ZpSt s.heap z TI TO i1 i2 l1 l2 S xs ys i) (hend : xs[i]? = none)
    (hQ : ∀ h', (∀ c o, c ≠ z → c ≠ TO → c ≠ i1 → c ≠ i2 → s.heap.get? c = some o → h'.get? c = some o) → Q none { s with heap := h' }) : wpAny (model prog w) A (pyNext (.ref z)) Q E s := by
  obtain ⟨hTI, h1, h2, hl1, hl2, hz⟩ := st
  rcases hz with ⟨hz, a, b, hTO⟩ | ⟨T, f, oT, hz, hT, r1, r2, r3, r4⟩
  · exact wpAny_pyNext_zip_end hh D hz hTI hTO h1 h2 hl1 hl2 (.inl hend) fun h' hk => hQ h' hk
  · exact wpAny_pyNext_zip_end_held hh D hz hT hTI h1 h2 hl1 hl2 (.inl hend) fun h' hk => hQ h' fun c o c1 _ c3 c4 e => hk c o c1 c3 c4 e
theorem zp_loop {R : Result → Shared → Prop} (hh : A.handled = none) (D : ZipApart z TI TO i1 i2 l1 l2) (o : Off z TI TO i1 i2 l1 l2 S) (lo : z < S ∧ TO < S ∧ i1 < S ∧ i2 < S) (hn : xs.size ≤ sizeLine) (hl : xs.size = ys.size) (res : Value) {h₁ : Heap}
    (hR : ∀ h' acc c as, (∀ b u, b ≠ S → b ≠ z → b ≠ TO → b ≠ i1 → b ≠ i2 → h₁.get? b = some u → h'.get? b = some u) → h'.get? S = some { cls := .type "list", dict := none, data := .seq acc c, slots := #[] } → as.length = xs.size → ZpG xs ys S h' as →
      acc.toList = as.map Value.ref → R (.ok (.ret res)) { s with heap := h' }) :
    ∀ (k i : Nat) (h : Heap) (c : Nat) (acc : Array Value) (as : List Addr), xs.size - i = k → i ≤ xs.size → ZpSt h z TI TO i1 i2 l1 l2 S xs ys i → (∀ b u, b ≠ S → b ≠ z → b ≠ TO → b ≠ i1 → b ≠ i2 → h₁.get? b = some u → h.get? b = some u) →
      h.get? S = some { cls := .type "list", dict := none, data := .seq acc c, slots := #[] } → acc.toList = as.map Value.ref → as.length = i → ZpG xs ys S h as →
      codeAny (model prog w) A (.builtin "list.extend.loop" ⟨[.ref S, .ref z, res], []⟩) R { s with heap := h } := by
  have off : ∀ {a : Addr}, S < a → a ≠ z ∧ a ≠ TO ∧ a ≠ i1 ∧ a ≠ i2 := fun {a} h => ⟨Nat.ne_of_gt (Nat.lt_trans lo.1 h), Nat.ne_of_gt (Nat.lt_trans lo.2.1 h), Nat.ne_of_gt (Nat.lt_trans lo.2.2.1 h), Nat.ne_of_gt (Nat.lt_trans lo.2.2.2 h)⟩
  intro k
  induction k with
  | zero =>
    intro i h c acc as hk hi hst hkeep hS hacc hal hG
    refine codeAny_builtin PySem.F.entry_extend_loop ?_
    rw [Around.under_plainId PySem.F.plain_extend_loop _]
    show wpAny _ A.in1 (pyNext (.ref z) >>= _) _ _ _
    refine wpAny_bind (zp_done (s := { s with heap := h }) (A := A.in1) hh D hst (Array.getElem?_eq_none (by omega)) fun h' he => ?_)
    refine wpAny_pure (hR h' acc c as (fun b u b1 b2 b3 b4 b5 e => he b u b2 b3 b4 b5 (hkeep b u b1 b2 b3 b4 b5 e)) (he S _ (Ne.symm o.z) (Ne.symm o.to) (Ne.symm o.i1) (Ne.symm o.i2) hS) (by omega) ⟨hG.rise, hG.above, fun j a hj => ?_⟩ hacc)
    obtain ⟨x, y, e1, e2, e3⟩ := hG.pairs j a hj
    obtain ⟨n1, n2, n3, n4⟩ := off (hG.above a (List.mem_of_getElem? hj))
    exact ⟨x, y, e1, e2, he a _ n1 n2 n3 n4 e3⟩
  | succ k ih =>
    intro i h c acc as hk hi hst hkeep hS hacc hal hG
    have hlt : i < xs.size := by omega
    have ex := Array.getElem?_eq_getElem hlt
    have ey := Array.getElem?_eq_getElem (xs := ys) (i := i) (by omega)
    have hsz : acc.size = i := by rw [← Array.length_toList, hacc, List.length_map, hal]
    have hSl : S < h.objs.size := Heap.lt_size hS
    refine codeAny_builtin PySem.F.entry_extend_loop ?_
    rw [Around.under_plainId PySem.F.plain_extend_loop _]
    show wpAny _ A.in1 (pyNext (.ref z) >>= _) _ _ _
    refine wpAny_bind (zp_item (s := { s with heap := h }) D hst hSl ex ey fun h' hst' ht hz hkp => ?_)
    dsimp only at ht hz hkp ⊢
    have hS' := hkp S _ (Ne.symm o.z) (Ne.symm o.to) (Ne.symm o.i1) (Ne.symm o.i2) hS
    have up : ∀ b u, b ≠ S → h'.get? b = some u → (h'.update S (Obj.mapSeq (·.push (Value.ref h.objs.size)))).get? b = some u := fun b u hb e => (Heap.get?_update_other _ _ (Ne.symm hb)).trans e
    show wpAny _ A.in1 (updateSeq S (·.push (Value.ref h.objs.size)) >>= _) _ _ _
    refine wpAny_bind ?_
    refine wpAny_updateSeq hS' rfl (wpAny_pure ⟨plainId_quiet PySem.F.plain_extend_loop _, ih (i + 1) _ _ (acc.push (Value.ref h.objs.size)) (as ++ [h.objs.size]) (by omega) hlt (hst'.keep o up)
      (fun b u b1 b2 b3 b4 b5 e => up b u b1 (hkp b u b2 b3 b4 b5 (hkeep b u b1 b2 b3 b4 b5 e))) (Heap.get?_update_self _ hS' rfl) (by rw [Array.toList_push, hacc, List.map_append]; rfl) (by rw [List.length_append, hal]; rfl) ⟨?_, ?_, ?_⟩⟩) (by rw [hsz]; omega) (by show (acc.push (Value.ref h.objs.size)).size ≤ sizeLine + 1; rw [Array.size_push, hsz]; omega)
    · refine List.pairwise_append.mpr ⟨hG.rise, List.pairwise_singleton _ _, fun a ha b hb => ?_⟩
      rw [List.mem_singleton.mp hb]
      exact hG.there ha
    · intro a ha
      rcases List.mem_append.mp ha with ha | ha
      · exact hG.above a ha
      · rw [List.mem_singleton.mp ha]; exact hSl
    · intro j b hj
      rcases Nat.lt_trichotomy j as.length with q1 | q1 | q1
      · rw [List.getElem?_append_left q1] at hj
        obtain ⟨x', y', e1, e2, e3⟩ := hG.pairs j b hj
        have hb := hG.above b (List.mem_of_getElem? hj)
        obtain ⟨n1, n2, n3, n4⟩ := off hb
        exact ⟨x', y', e1, e2, up b _ (Nat.ne_of_gt hb) (hkp b _ n1 n2 n3 n4 e3)⟩
      · subst q1
        have hb : h.objs.size = b := by simpa using hj
        subst hb
        exact ⟨_, _, by rw [hal]; exact ex, by rw [hal]; exact ey, up _ _ (Nat.ne_of_gt hSl) ht⟩
      · have hnone : (as ++ [h.objs.size])[j]? = none := List.getElem?_eq_none (by rw [List.length_append, List.length_singleton]; omega)
        rw [hnone] at hj; cases hj
theorem zp_call {Q : Value → Shared → Prop} (hh : A.handled = none) (D : ZipApart z TI TO i1 i2 l1 l2) (hz : IsZip s.heap z TI TO .none) (hTI : IsPair s.heap TI (.ref i1) (.ref i2)) (hTO : ∃ a b, IsPair s.heap TO a b)
    (h1 : s.heap.IsListIter i1 l1 0) (h2 : s.heap.IsListIter i2 l2 0) (hl1 : s.heap.IsList l1 xs) (hl2 : s.heap.IsList l2 ys) (hn : xs.size ≤ sizeLine) (hl : xs.size = ys.size)
    (hQ : ∀ h' acc c as, (∀ b u, b ≠ z → b ≠ TO → b ≠ i1 → b ≠ i2 → s.heap.get? b = some u → h'.get? b = some u) → h'.get? s.heap.objs.size = some { cls := .type "list", dict := none, data := .seq acc c, slots := #[] } → as.length = xs.size → ZpG xs ys s.heap.objs.size h' as →
      acc.toList = as.map Value.ref → Q (.ref s.heap.objs.size) { s with heap := h' }) :
    wpAny (model prog w) A (call (.type "list") [.ref z]) Q E s := by
  have lz : z < s.heap.objs.size := Heap.lt_size hz
  have lTI : TI < s.heap.objs.size := Heap.lt_size hTI
  have lTO : TO < s.heap.objs.size := let ⟨_, _, e⟩ := hTO; Heap.lt_size e
  have li1 : i1 < s.heap.objs.size := let ⟨_, e, _⟩ := h1; Heap.lt_size e
  have li2 : i2 < s.heap.objs.size := let ⟨_, e, _⟩ := h2; Heap.lt_size e
  have ll1 : l1 < s.heap.objs.size := let ⟨_, e, _⟩ := hl1; Heap.lt_size e
  have ll2 : l2 < s.heap.objs.size := let ⟨_, e, _⟩ := hl2; Heap.lt_size e
  have o : Off z TI TO i1 i2 l1 l2 s.heap.objs.size := ⟨Nat.ne_of_lt lz, Nat.ne_of_lt lTI, Nat.ne_of_lt lTO, Nat.ne_of_lt li1, Nat.ne_of_lt li2, Nat.ne_of_lt ll1, Nat.ne_of_lt ll2⟩
  refine callType_codes (Q₁ := fun obj s₁ => obj = .ref s.heap.objs.size ∧ s₁ = { s with heap := s.heap.push { cls := .type "list", data := .seq #[] } }) F.called_list (F.typeCall_list_1 _) F.entry_list_init
    (code_list_new _ ⟨rfl, rfl⟩) fun obj s₁ h₁ => ?_
  obtain ⟨rfl, rfl⟩ := h₁
  have hS : (s.heap.push { cls := .type "list", data := .seq #[] }).get? s.heap.objs.size = some { cls := .type "list", data := .seq #[] } := Heap.get?_push_size _ rfl
  refine ⟨⟨_, hS, rfl⟩, F.args_list_init_2 _ _, ?_⟩
  show wpAny _ A.in1.in1 (do let old ← Builtin.List.listItems (.ref s.heap.objs.size); Builtin.List.listUpdate (.ref s.heap.objs.size) (fun _ => #[]); letGo old.toList.reverse; Builtin.List.listExtendWith (.ref s.heap.objs.size) (.ref z) .none) _ _ _
  refine wpAny_bind ?_
  unfold Builtin.List.listItems
  refine wpAny_bind (wpAny_seqItems hS rfl (wpAny_pure ?_))
  show wpAny _ A.in1.in1 (updateSeq s.heap.objs.size (fun _ => #[]) >>= fun _ => letGo (#[] : Array Value).toList.reverse >>= fun _ => Builtin.List.listExtendWith (.ref s.heap.objs.size) (.ref z) .none) _ _ _
  refine wpAny_bind (wpAny_updateSeq hS rfl ?_)
  have hS2 := Heap.get?_update_self (Obj.mapSeq (fun _ => (#[] : Array Value))) hS rfl
  refine wpAny_bind (wpAny_letGo ?_)
  unfold Builtin.List.listExtendWith
  have up : ∀ (h : Heap) (f : Obj → Obj), (∀ b u, s.heap.get? b = some u → h.get? b = some u) → ∀ b u, s.heap.get? b = some u → (h.update s.heap.objs.size f).get? b = some u := fun h f q b u e =>
    (Heap.get?_update_other _ _ (Ne.symm (Nat.ne_of_lt (Heap.lt_size e)))).trans (q b u e)
  have k1 : ∀ b u, s.heap.get? b = some u → (s.heap.push { cls := .type "list", data := .seq #[] }).get? b = some u := fun b u e => Heap.get?_push_of_some _ e
  have k2 := up _ (Obj.mapSeq (fun _ => (#[] : Array Value))) k1
  have gty : ∀ {h : Heap}, (∀ b u, s.heap.get? b = some u → h.get? b = some u) → IsZip h z TI TO .none := fun {h} q => q _ _ hz
  have ty : ∀ {h : Heap}, (∀ b u, s.heap.get? b = some u → h.get? b = some u) → Shared.TypeIs { s with heap := h } (.ref z) "zip" := fun {h} q => ⟨_, gty q, rfl⟩
  refine wpAny_bind (wpAny_typeOf (ty k2) ?_)
  have e1 : Builtin.List.listSameRef (.ref s.heap.objs.size) (.ref z) = false := by simp [Builtin.List.listSameRef, (Ne.symm o.z)]
  have e2 : (Value.type "zip" == Value.type "list") = false := by decide
  have e3 : (Value.type "zip" == Value.type "tuple") = false := by decide
  simp only [e1, e2, e3, Bool.or_false, Bool.false_eq_true, if_false]
  refine wpAny_bind (wpAny_pyIter_zip (s := { s with heap := _ }) (gty k2) ?_)
  refine wpAny_bind (wpAny_holding ?_)
  unfold Builtin.List.listLengthHint
  refine wpAny_bind (wpAny_specialOf (ty k2) zip_no_len ?_)
  show wpAny _ A.in1.in1 (specialOf (Value.ref z) (Str.ofString "__length_hint__") >>= _) _ _ _
  refine wpAny_bind (wpAny_specialOf (ty k2) zip_no_hint ?_)
  refine wpAny_pure ?_
  show wpAny _ A.in1.in1 (rule "list.extend.makes-room" >>= fun _ => Builtin.List.listTouch (.ref s.heap.objs.size) >>= fun _ =>
    again (.builtin "list.extend.loop" ⟨[.ref s.heap.objs.size, .ref z, .none], []⟩)) _ _ _
  refine wpAny_bind (wpAny_rule ?_)
  refine wpAny_bind ?_
  show wpAny _ A.in1.in1 (updateSeq s.heap.objs.size (·.push .none) >>= fun _ => updateSeq s.heap.objs.size (·.pop)) _ _ _
  refine wpAny_bind (wpAny_updateSeq hS2 rfl ?_)
  have hS3 := Heap.get?_update_self (Obj.mapSeq (·.push Value.none)) hS2 rfl
  refine wpAny_updateSeq (hz := by seq_fits) hS3 rfl ?_
  have hS4 := Heap.get?_update_self (Obj.mapSeq (·.pop)) hS3 rfl
  have k4 := up _ (Obj.mapSeq (·.pop)) (up _ (Obj.mapSeq (·.push Value.none)) k2)
  refine wpAny_pure ⟨plainId_quiet F.plain_extend_loop _, ?_⟩
  refine zp_loop (A := A.in1) (s := s) (h₁ := s.heap) hh D o ⟨lz, lTO, li1, li2⟩ hn hl .none (fun h' acc c as hk' hS' hlen hG hacc => ⟨rfl, hQ h' acc c as (fun b u b2 b3 b4 b5 e => hk' b u (Nat.ne_of_lt (Heap.lt_size e)) b2 b3 b4 b5 e) hS' hlen hG hacc⟩)
    xs.size 0 _ _ #[] [] (Nat.sub_zero _) (Nat.zero_le _) ⟨k4 _ _ hTI, h1.at fun u e => k4 _ u e, h2.at fun u e => k4 _ u e, hl1.at fun u e => k4 _ u e, hl2.at fun u e => k4 _ u e, .inl ⟨k4 _ _ hz, let ⟨a, b, e⟩ := hTO; ⟨a, b, k4 _ _ e⟩⟩⟩
    (fun b u _ _ _ _ _ e => k4 b u e) hS4 rfl rfl ⟨List.Pairwise.nil, (fun _ ha => nomatch ha), (fun j a hj => by simp at hj)⟩
end
end ZpL
end PySem
namespace L2
open PySem PySem.Spec PyProof.Rows
/-- pairs tracked at their addresses -/
def putP : Hp → List Addr → List (V × V) → Hp
  | H, a :: as, p :: ps => putP (upd H a (.tup [p.1, p.2])) as ps
  | H, _, _ => H
theorem putP_off {b : Addr} : ∀ (as : List Addr) (ps : List (V × V)) (H : Hp), b ∉ as → putP H as ps b = H b
  | [], _, _, _ => rfl
  | _ :: _, [], _, _ => rfl
  | a :: as, p :: ps, H, h => by
    show putP (upd H a (.tup [p.1, p.2])) as ps b = H b
    rw [putP_off as ps _ (fun z => h (List.mem_cons_of_mem _ z)), upd_ne (fun z => h (by rw [z]; exact List.mem_cons_self))]
theorem putP_at : ∀ (as : List Addr) (ps : List (V × V)) (H : Hp), as.Nodup → ∀ (j : Nat) (t : Addr) (p : V × V), as[j]? = some t → ps[j]? = some p → putP H as ps t = some (.tup [p.1, p.2])
  | [], _, _, _, j, t, p, h, _ => by simp at h
  | _ :: _, [], _, _, j, t, p, _, h => by simp at h
  | a :: as, q :: ps, H, hn, 0, t, p, h1, h2 => by
    have hn' := List.nodup_cons.mp hn
    cases h1
    cases h2
    show putP (upd H a (.tup [q.1, q.2])) as ps a = _
    rw [putP_off as ps _ hn'.1, upd_same]
  | a :: as, q :: ps, H, hn, j + 1, t, p, h1, h2 => putP_at as ps (upd H a (.tup [q.1, q.2])) (List.nodup_cons.mp hn).2 j t p h1 h2
theorem vals_at : ∀ {vs : List V} {us : List Value}, Vals vs us → ∀ {j : Nat} {u : Value}, us[j]? = some u → ∃ v, vs[j]? = some v ∧ RelV v u
  | _, _, .nil, j, u, h => by simp at h
  | _, _, .cons r t, 0, u, h => by cases h; exact ⟨_, rfl, r⟩
  | _, _, .cons r t, j + 1, u, h => vals_at t h
theorem vals_refs2 : ∀ as : List Addr, Vals (as.map V.ref) (as.map Value.ref)
  | [] => .nil
  | _ :: as => .cons rfl (vals_refs2 as)
def tListZip (K : PySem.W.Frag) (ta : TA) : TE := fun σ H Q => ta σ H fun vs H1 => ∃ (a b : Addr) (xs ys : List V), vs = [.ref a, .ref b] ∧ SqL K H1 a xs ∧ SqL K H1 b ys ∧ xs.length = ys.length ∧
  ∀ (H' : Hp) (p : Addr) (ts : List Addr), (∀ c o, H1 c = some o → H' c = some o) → H1 p = none → H' p = some (.lst (ts.map V.ref)) → ts.length = xs.length →
    (∀ (j : Nat) (t : Addr) (x y : V), ts[j]? = some t → xs[j]? = some x → ys[j]? = some y → H' t = some (.tup [x, y])) → Q (.ref p) H'
section
variable {X : Cx} {K : PySem.W.Frag} {e1 e2 : Expr} {t : TA} {p p2 cpos pos : Pos}
theorem zip_laid {pins : List (Addr × Obj)} {σ : L2.St} {H : Hp} {s : Shared} {h' : Heap} {tk : Nat} {xs ys : List V} {us ws : List Value} {S : Addr} {acc : Array Value} {c : Nat} {as : List Addr} (I : Inv X pins σ H s) (hz : xs.length ≤ sizeLine) (rx : Vals xs us) (ry : Vals ys ws)
    (hk : ∀ b o, s.heap.get? b = some o → h'.get? b = some o) (hSl : s.heap.objs.size ≤ S) (hS : h'.get? S = some { cls := .type "list", dict := none, data := .seq acc c, slots := #[] }) (hl : as.length = xs.length) (hG : PySem.ZpL.ZpG us.toArray ws.toArray S h' as) (hacc : acc.toList = as.map Value.ref) :
    ∃ H' : Hp, (∀ b o, H b = some o → H' b = some o) ∧ H S = none ∧ H' S = some (.lst (as.map V.ref)) ∧ (∀ (j : Nat) (t : Addr) (x y : V), as[j]? = some t → xs[j]? = some x → ys[j]? = some y → H' t = some (.tup [x, y])) ∧ Inv X pins σ H' { s with heap := h', toks := tk } := by
  have hSn : S ∉ as := fun z => Nat.lt_irrefl _ (hG.above _ z)
  have nd : as.Nodup := List.Pairwise.imp (fun {a b} (h : a < b) => Nat.ne_of_lt h) hG.rise
  have new : ∀ t ∈ as, H t = none := fun t ht => I.hok.fresh (Nat.le_trans hSl (Nat.le_of_lt (hG.above t ht)))
  have newS : H S = none := I.hok.fresh hSl
  have atP := putP_at as (xs.zip ys) (upd H S (.lst (as.map V.ref))) nd
  have off : ∀ b, b ∉ as → b ≠ S → putP (upd H S (.lst (as.map V.ref))) as (xs.zip ys) b = H b := fun b h1 h2 => by rw [putP_off as _ _ h1, upd_ne h2]
  have low : ∀ b o, s.heap.get? b = some o → b ∉ as ∧ b ≠ S := fun b o e => ⟨fun z => absurd (Heap.lt_size e) (Nat.not_lt.mpr (Nat.le_trans hSl (Nat.le_of_lt (hG.above b z)))), Nat.ne_of_lt (Nat.lt_of_lt_of_le (Heap.lt_size e) hSl)⟩
  have kp : ∀ b u, H b = some u → (putP (upd H S (.lst (as.map V.ref))) as (xs.zip ys)) b = some u := fun b u e => by
    rw [off b (fun z => by rw [new b z] at e; cases e) (fun z => by rw [z, newS] at e; cases e)]
    exact e
  have eS : putP (upd H S (.lst (as.map V.ref))) as (xs.zip ys) S = some (.lst (as.map V.ref)) := by rw [putP_off as _ _ hSn, upd_same]
  refine ⟨putP (upd H S (.lst (as.map V.ref))) as (xs.zip ys), kp, newS, eS, fun j t x y h1 h2 h3 => atP j t (x, y) h1 (by rw [List.getElem?_zip_eq_some]; exact ⟨h2, h3⟩), ?_⟩
  refine I.call' (ch := []) rfl ⟨fun b o q _ _ _ => hk b o q, fun b o q _ _ _ => ⟨o.slots, hk b o q⟩, fun b o q n _ => ?_, fun b o q _ => ⟨o, hk b o q⟩, fun b xs q => kp b _ q, fun b o u q => kp b _ q, fun b ps q => ⟨#[], by rw [kp b _ q]; simp⟩⟩ (fun b u q => ?_) I.bare fun b z => by simp at z
  · obtain ⟨z1, z2⟩ := low b o q
    rw [off b z1 z2]
    exact n
  · by_cases hb : b ∈ as
    · obtain ⟨j, hj⟩ := List.mem_iff_getElem?.mp hb
      obtain ⟨x, y, f1, f2, f3⟩ := hG.pairs j b hj
      obtain ⟨v1, g1, r1⟩ := vals_at rx (by simpa using f1)
      obtain ⟨v2, g2, r2⟩ := vals_at ry (by simpa using f2)
      have e3 := atP j b (v1, v2) hj (by rw [List.getElem?_zip_eq_some]; exact ⟨g1, g2⟩)
      rw [e3] at q
      cases q
      exact ⟨by show 2 ≤ sizeLine; decide, [x, y], .cons r1 (.cons r2 .nil), ⟨_, f3, rfl, _, rfl⟩⟩
    · by_cases hb2 : b = S
      · rw [hb2] at q ⊢
        rw [eS] at q
        cases q
        refine ⟨by rw [List.length_map]; omega, acc.toList, c, by rw [hacc]; exact vals_refs2 as, ?_⟩
        rw [Array.toArray_toList]
        exact hS
      · rw [off b hb hb2] at q
        exact (I.hok b u q).stay (fun d v _ y => hk d v y) (fun d y => kp d _ y) fun d xs y => kp d _ y
/-- list(zip(e1, e2)) -/
theorem pe_listZip (hK : X.K = K) (hc : X.calm = true) (hg : Gl X "list") (hm : X.mg "list" = none) (hg2 : Gl X "zip") (hm2 : X.mg "zip" = none) (ha : PA X [e1, e2] t)
    (hs : starEach [.Call (.Name "zip" p2) [e1, e2] [] cpos] X.env = (false, eval (.Call (.Name "zip" p2) [e1, e2] [] cpos) X.env) :: starEach [] X.env := by rfl)
    (hs2 : starEach [e1, e2] X.env = (false, eval e1 X.env) :: starEach [e2] X.env := by rfl) (hpl : (backTo cpos (starEach [e2] X.env)).any (·.1) = false := by rfl) :
    PE X (.Call (.Name "list" p) [.Call (.Name "zip" p2) [e1, e2] [] cpos] [] pos) (tListZip K t) := by
  subst hK
  refine ⟨fun pins s σ H Q I hq => ?_⟩
  refine wpAny_Call_Name_kw (ld_blt I hg hm boot_list ?_)
  refine PyProof.Rows.callWith_type1 ?_ hs rfl
  rw [hs]
  show wpAny _ _ (spliced ((false, eval (.Call (.Name "zip" p2) [e1, e2] [] cpos) X.env) :: backTo pos (starEach [] X.env))) _ _ s
  refine Calls.spliced_cons ?_
  refine Call_ (ld_blt I hg2 hm2 PyProof.Rows.boot_zip (PyProof.Rows.callWith_type1 (thn (ha.run cpos pins s σ H _ I hq) fun us s1 ⟨vs, H1, I1, r1, q1⟩ => ?_) hs2 hpl))
  obtain ⟨a, b, xs, ys, ex, hqx, hqy, hl, q⟩ := q1
  subst ex
  cases r1 with
  | cons r rr =>
    cases rr with
    | cons r' rr =>
      cases rr
      cases r
      cases r'
      obtain ⟨its, rv, pl1, z1⟩ := I1.list hqx
      obtain ⟨its2, rv2, pl2, z2⟩ := I1.list hqy
      have la : a < s1.heap.objs.size := pl1.lt
      have lb : b < s1.heap.objs.size := pl2.lt
      have D := PySem.W.ktu_apart s1.heap.objs.size a b la lb
      have n1 := rv.length
      have n2 := rv2.length
      refine call_zip_2 pl1.isList pl2.isList fun h' hz hTI hTO h1 h2 hsz hk => ?_
      refine Calls.spliced_nil ?_
      have g1 : h'.IsList a its.toArray := pl1.isList.at fun o e => hk _ o e
      have g2 : h'.IsList b its2.toArray := pl2.isList.at fun o e => hk _ o e
      refine PySem.ZpL.zp_call (s := { s1 with heap := h' }) (I1.ok.hd hc) D hz hTI ⟨_, _, hTO⟩ h1 h2 g1 g2 (by rw [List.size_toArray]; omega) (by rw [List.size_toArray, List.size_toArray]; omega) fun h3 acc c as hk3 hS hlen hG hacc => ?_
      have hsz' : s1.heap.objs.size ≤ h'.objs.size := by rw [hsz]; exact Nat.le_add_right _ _
      have hk4 : ∀ b o, s1.heap.get? b = some o → h3.get? b = some o := fun b o e => by
        have hlt := Heap.lt_size e
        exact hk3 b o (PySem.W.ktu_ne 4 hlt) (PySem.W.ktu_ne 3 hlt) (Nat.ne_of_lt hlt) (PySem.W.ktu_ne 1 hlt) (hk b o e)
      obtain ⟨H', k1, k2, k3, k5, J⟩ := zip_laid (tk := s1.toks) I1 (by omega) rv rv2 hk4 hsz' hS (by rw [hlen, List.size_toArray]; omega) hG hacc
      exact ⟨.ref _, H', J, rfl, q H' _ as k1 k2 k3 (by rw [hlen, List.size_toArray]; omega) k5⟩
end
end L2

/-! ### executing: powers, pairs, shifts -/
namespace VP
open PySem PySem.Spec PyProof.Rows L2
open Evl (Ex RetL RetV Ev EvL EvT EvA EvO)
def powersL : List Nat := (List.range 65).map (2 ^ ·)
theorem powers_get {i : Nat} (h : i < 65) : powersL[i]? = some (2 ^ i) := by
  unfold powersL
  rw [List.getElem?_map, List.getElem?_range h]
  rfl
theorem zip_range {α : Type} (F : Nat → Nat → α) : ∀ (as bs : List Nat), as.length = bs.length → ((List.range as.length).map fun i => F (as.getD i 0) (bs.getD i 0)) = (as.zip bs).map fun p => F p.1 p.2
  | [], _, _ => rfl
  | _ :: _, [], h => by cases h
  | x :: as, y :: bs, h => by
    rw [List.length_cons, List.range_succ_eq_map, List.map_cons, List.map_map, List.zip_cons_cons, List.map_cons, ← zip_range F as bs (Nat.succ.inj h)]
    rfl
section
variable {K : PySem.W.Frag} {σ : L2.St} {H H' : Hp} {ta tb te tl : TE} {ns : List Nat} {C : Addr} {vs : List Nat}
theorem el_pairs {q i j : Nat} {b : Addr} {ts : List Addr} {as bs : List Nat} (f : Nat → Nat → Nat) (h : σ[q]? = some (some (.ref b))) (hb : SqL K H b (ts.map V.ref)) (hl : ts.length = as.length) (hl2 : as.length = bs.length) (hz : as.length ≤ 40000)
    (hat : ∀ (k : Nat) (t : Addr) (x y : V), ts[k]? = some t → (nv as)[k]? = some x → (nv bs)[k]? = some y → SqT K H t [x, y]) (hw : ∀ x y, wipe (((wipe σ vs).set i (some x)).set j (some y)) vs = wipe σ vs)
    (he : ∀ x y H1, Ex H H1 → x ∈ as → y ∈ bs → Ev te (((wipe σ vs).set i (some (.int ((x : Nat) : Int)))).set j (some (.int ((y : Nat) : Int)))) H1 (.int ((f x y : Nat) : Int))) :
    EvL (tLc (iList K (tVar q)) (gTup K 2 (gCons (gName i) (gCons (gName j) gNil))) tYes te vs) σ H (nv ((as.zip bs).map fun p => f p.1 p.2)) := fun H1 e Q qq => ⟨_, h, b, rfl, ⟨_, Evl.ex_l e hb⟩, fun Dl hD => by
  refine lc_vals (walk_list (K := K) (a := b) (xs := ts.map V.ref)) (fun _ => true) (fun k => .int ((f (as.getD k 0) (bs.getD k 0) : Nat) : Int)) (by rw [List.length_map]; omega) hD (fun H' e2 => Evl.ex_l (e.trans e2) hb) ?_ ?_
  · rintro k v H2 H3 R S hi e2 ⟨rfl, hx2⟩ kT kF
    rw [List.getElem?_map] at hx2
    cases ht : ts[k]? with
    | none => rw [ht] at hx2; cases hx2
    | some t =>
      rw [ht] at hx2
      obtain rfl : V.ref t = v := Option.some.inj hx2
      have hk := (List.getElem?_eq_some_iff.mp ht).1
      have ha : as[k]? = some (as[k]'(by omega)) := List.getElem?_eq_getElem _
      have hb2 : bs[k]? = some (bs[k]'(by omega)) := List.getElem?_eq_getElem _
      have ga : as.getD k 0 = as[k]'(by omega) := by rw [List.getD_eq_getElem?_getD, ha]; rfl
      have gb : bs.getD k 0 = bs[k]'(by omega) := by rw [List.getD_eq_getElem?_getD, hb2]; rfl
      have hp := hat k t _ _ ht (nv_get ha) (nv_get hb2)
      refine ⟨t, _, rfl, Evl.ex_t (e.trans e2) hp, rfl, _, _, rfl, _, _, rfl, rfl, hw _ _, ?_⟩
      refine iteT (B := S H3) (he _ _ H3 (e.trans e2) (List.getElem_mem _) (List.getElem_mem _) H3 (Ex.refl _) _ fun H5 e5 => ?_)
      have k2 := kT rfl H5 e5
      rw [ga, gb] at k2
      exact k2
  · intro H2 e2 hl3
    refine qq Dl H2 hD e2 (hl3.trans ?_)
    rw [given_all, List.length_map, hl, ← zip_range f as bs hl2]
    unfold nv
    rw [List.map_map]
    rfl⟩
theorem lane_lt {k x y : Nat} (hk : k < 8) (hx : x < 2 ^ 64) (hy : y < 2 ^ 64) : Sd62.lane k x y < 2 ^ 64 := by
  unfold Sd62.lane
  rcases (by omega : k = 0 ∨ k = 1 ∨ k = 2 ∨ k = 3 ∨ k = 4 ∨ k = 5 ∨ k = 6 ∨ k = 7) with rfl | rfl | rfl | rfl | rfl | rfl | rfl | rfl
  · rw [if_pos rfl]; exact Nat.mod_lt _ (by decide)
  · rw [if_neg (by decide), if_pos rfl]; exact Nat.mod_lt _ (by decide)
  · rw [if_neg (by decide), if_neg (by decide), if_pos rfl]
    have h1 : x % 2 ^ 32 ≤ 2 ^ 32 - 1 := by omega
    have h2 : y % 2 ^ 32 ≤ 2 ^ 32 - 1 := by omega
    exact Nat.lt_of_le_of_lt (Nat.mul_le_mul h1 h2) (by decide)
  · rw [if_neg (by decide), if_neg (by decide), if_neg (by decide), if_pos rfl]; exact Nat.xor_lt_two_pow hx hy
  · rw [if_neg (by decide), if_neg (by decide), if_neg (by decide), if_neg (by decide), if_pos rfl]; exact Nat.and_lt_two_pow _ hy
  · rw [if_neg (by decide), if_neg (by decide), if_neg (by decide), if_neg (by decide), if_neg (by decide), if_pos rfl]; exact Nat.or_lt_two_pow hx hy
  · rw [if_neg (by decide), if_neg (by decide), if_neg (by decide), if_neg (by decide), if_neg (by decide), if_neg (by decide), if_pos rfl]; omega
  · rw [if_neg (by decide), if_neg (by decide), if_neg (by decide), if_neg (by decide), if_neg (by decide), if_neg (by decide), if_neg (by decide), if_pos rfl]; omega
end
def spPowers : Sp := spOf (fun _ : Unit => []) fun _ H Q _ => RetL (nv powersL) H Q
def spPaired (K : PySem.W.Frag) : Sp := spOf (fun (⟨n, a, _, b, _⟩ : Nat × Addr × List Nat × Addr × List Nat) => [.int (n : Int), .ref a, .ref b]) fun ⟨n, a, as, b, bs⟩ H Q _ =>
  n < 8 ∧ SqL K H a (nv as) ∧ SqL K H b (nv bs) ∧ as.length = bs.length ∧ as.length ≤ 8 ∧ (∀ x ∈ as, x < 2 ^ 64) ∧ (∀ x ∈ bs, x < 2 ^ 64) ∧ RetL (nv ((as.zip bs).map fun y => Sd62.lane n y.1 y.2)) H Q
section
variable {P : Program} {w : World} {K : PySem.W.Frag} {mg : Str → Option Value} {base : Heap} {A : Ad}
theorem ok_powers (T : Txt K mg A) : Cal P w K mg base 1 "powers" spPowers := by
  refine Cal.of T.D_powers sc_powers (spOf_len fun _ => rfl) fun f cdv A' outer s H vs Q E hr h => ?_
  have nd := sc_powers.nd
  obtain ⟨_, hv, k⟩ := h
  obtain rfl : vs = [] := hv
  refine ⟨_, (pss_cons (ps_set (i := 0) nd rfl (Or.inl rfl) (pe_lst (pa_cons pe_int pa_nil)))
 (pss_cons (ps_for PassesOwn.never rfl (pi_range1 rfl T.b_range (pa_cons pe_int pa_nil)) (pg_name (i := 1) nd rfl (Or.inl rfl)) (pss_one (ps_expr (pe_bm PySem.F.plainAttrs_list PySem.F.slot_list_append PySem.F.type_list_append mt_append (pv 0) (pa_cons (pe_op op_mul pe_int (pe_ix (ix_listK (K := K) rfl) (pv 0) (pe_un un_neg pe_int) (fun _ _ => rfl))) pa_nil)))))
 (pss_one (ps_ret (pv 0))))), ?_⟩
  refine ⟨by show 1 ≤ sizeLine; decide, fun l hl => ?_⟩
  have e0 : Ex H (upd H l (.lst [V.int 1])) := Ex.new hl
  refine ⟨64, rfl, by decide, by decide, for_range (lo := 0) (n := 64) (fun i σ H' => ∃ v : Option V, σ = [some (.ref l), v] ∧ Ex H H' ∧ H' l = some (.lst (nv ((List.range (i + 1)).map (2 ^ ·)))))
    ⟨none, rfl, e0, upd_same⟩ ?_ ?_⟩
  · rintro i σ H' hi ⟨v, rfl, e, hl'⟩
    refine ⟨_, rfl, Or.inl ⟨rfl, _, SqL.of hl'⟩, ?_⟩
    have hat : atI (nv ((List.range (i + 1)).map (2 ^ ·))) (-1) = some (V.int ((2 ^ i : Nat) : Int)) := by
      unfold atI ixN
      rw [nv_length, List.length_map, List.length_range, if_neg (by decide), if_pos (by omega), Option.bind_some, show ((-1 : Int) + ((i + 1 : Nat) : Int)).toNat = i by omega]
      refine nv_get ?_
      rw [List.getElem?_map, List.getElem?_range (by omega)]
      rfl
    refine ⟨_, rfl, _, rfl, l, _, -1, _, rfl, rfl, SqL.of hl', hat, _, _, rfl, rfl, mulL (by decide), ?_⟩
    refine ⟨l, _, _, rfl, rfl, hl', szt (by rw [nv_length, List.length_map, List.length_range]; omega), ?_⟩
    refine ⟨some (.int (0 + (i : Int))), rfl, fun c o hc => ?_, ?_⟩
    · rw [upd_ne (ne_of_none hc hl)]
      exact e c o hc
    · rw [upd_same, List.range_succ (n := i + 1), List.map_append, nv_append]
      have e2 : (2 : Int) * ((2 ^ i : Nat) : Int) = ((2 ^ (i + 1) : Nat) : Int) := by
        rw [Nat.pow_succ]
        omega
      show some (HO.lst (nv ((List.range (i + 1)).map (2 ^ ·)) ++ [V.int ((2 : Int) * ((2 ^ i : Nat) : Int))])) = _
      rw [e2]
      rfl
  · rintro σ H' ⟨v, rfl, e, hl'⟩
    exact ⟨_, rfl, k l H' hl e hl'⟩
theorem lane_0 (x y : Nat) : ((x : Int) + (y : Int)) % 18446744073709551616 = ((Sd62.lane 0 x y : Nat) : Int) := by
  rw [show Sd62.lane 0 x y = (x + y) % Sd62.W from if_pos rfl]
  unfold Sd62.W
  omega
theorem lane_1 {x y : Nat} (hx : x < 2 ^ 64) (hy : y < 2 ^ 64) : ((x : Int) - (y : Int)) % 18446744073709551616 = ((Sd62.lane 1 x y : Nat) : Int) := by
  rw [show Sd62.lane 1 x y = (x + Sd62.W - y) % Sd62.W by unfold Sd62.lane; rw [if_neg (by decide), if_pos rfl]]
  unfold Sd62.W
  omega
theorem lane_2 (x y : Nat) : ((x : Int) % 4294967296) * ((y : Int) % 4294967296) = ((Sd62.lane 2 x y : Nat) : Int) := by
  rw [show Sd62.lane 2 x y = x % 2 ^ 32 * (y % 2 ^ 32) by unfold Sd62.lane; rw [if_neg (by decide), if_neg (by decide), if_pos rfl], Int.natCast_mul, Int.natCast_emod, Int.natCast_emod]
  rfl
theorem lane_3 (x y : Nat) : Builtin.bitXor (x : Int) (y : Int) = ((Sd62.lane 3 x y : Nat) : Int) := by
  rw [show Sd62.lane 3 x y = x ^^^ y by unfold Sd62.lane; rw [if_neg (by decide), if_neg (by decide), if_neg (by decide), if_pos rfl], Bits.bitXor_pp (Int.natCast_nonneg x) (Int.natCast_nonneg y), Int.toNat_natCast, Int.toNat_natCast]
theorem lane_4 (x y : Nat) : Builtin.bitAnd (x : Int) (y : Int) = ((Sd62.lane 4 x y : Nat) : Int) := by
  rw [show Sd62.lane 4 x y = x &&& y by unfold Sd62.lane; rw [if_neg (by decide), if_neg (by decide), if_neg (by decide), if_neg (by decide), if_pos rfl]]
  exact PySem.W.os_band x y
theorem lane_5 (x y : Nat) : Builtin.bitOr (x : Int) (y : Int) = ((Sd62.lane 5 x y : Nat) : Int) := by
  rw [show Sd62.lane 5 x y = x ||| y by unfold Sd62.lane; rw [if_neg (by decide), if_neg (by decide), if_neg (by decide), if_neg (by decide), if_neg (by decide), if_pos rfl], Bits.bitOr_pp (Int.natCast_nonneg x) (Int.natCast_nonneg y), Int.toNat_natCast, Int.toNat_natCast]
theorem lane_6 (x y : Nat) : (if ((y : Nat) : Int) < (x : Int) then ((y : Nat) : Int) else (x : Int)) = ((Sd62.lane 6 x y : Nat) : Int) := by
  rw [show Sd62.lane 6 x y = min x y by unfold Sd62.lane; rw [if_neg (by decide), if_neg (by decide), if_neg (by decide), if_neg (by decide), if_neg (by decide), if_neg (by decide), if_pos rfl]]
  split <;> omega
theorem lane_7 (x y : Nat) : (if ((y : Nat) : Int) > (x : Int) then ((y : Nat) : Int) else (x : Int)) = ((Sd62.lane 7 x y : Nat) : Int) := by
  rw [show Sd62.lane 7 x y = max x y by unfold Sd62.lane; rw [if_neg (by decide), if_neg (by decide), if_neg (by decide), if_neg (by decide), if_neg (by decide), if_neg (by decide), if_neg (by decide), if_pos rfl]]
  split <;> omega
theorem ok_paired (T : Txt K mg A) : Cal P w K mg base 1 "paired" (spPaired K) := by
  refine Cal.of T.D_paired sc_paired (spOf_len fun ⟨_, _, _, _, _⟩ => rfl) fun f cdv A' outer s H vs Q E hr h => ?_
  have nd := sc_paired.nd
  obtain ⟨⟨n, a, as, b, bs⟩, hv, hn, hA, hB, hl, h8, la, lb, k⟩ := h
  obtain rfl : vs = [V.int (n : Int), V.ref a, V.ref b] := hv
  refine ⟨_, (pss_cons (ps_set (i := 3) nd rfl (Or.inl rfl) (pe_listZip (K := K) rfl rfl (by rfl) T.b_list (by rfl) T.b_zip (pa_cons (pv 1) (pa_cons (pv 2) pa_nil))))
 (pss_cons (ps_if (pt_cmpR op_eq (pv 0) pe_int (nomark _)) (pss_one (ps_ret (pe_lc (own := [("one", 4), ("other", 5)]) (g := gTup K 2 (gCons (gName 4) (gCons (gName 5) gNil))) rfl nd (pi_listK (K := K) rfl (pv 3)) (blkOk_by (own := [("one", 4), ("other", 5)]) (N := ["kind", "ones", "others", "both", "one", "other"]) (sc := defScope s_paired) (by decide +kernel)) (fun _ _ _ _ _ => by exact (pg_tupK (K := K) rfl rfl (pgs_cons (pg_name (i := 4) nd rfl (Or.inl rfl)) (pgs_cons (pg_name (i := 5) nd rfl (Or.inl rfl)) pgs_nil)))) (fun _ _ _ _ _ => by exact pts_nil) (fun _ _ _ _ _ => by exact (pe_op op_mod (pe_op op_add (pv 4) (pv 5)) (pe_gv rfl T.g_FULL)))))) pss_nil)
 (pss_cons (ps_if (pt_cmpR op_eq (pv 0) pe_int (nomark _)) (pss_one (ps_ret (pe_lc (own := [("one", 4), ("other", 5)]) (g := gTup K 2 (gCons (gName 4) (gCons (gName 5) gNil))) rfl nd (pi_listK (K := K) rfl (pv 3)) (blkOk_by (own := [("one", 4), ("other", 5)]) (N := ["kind", "ones", "others", "both", "one", "other"]) (sc := defScope s_paired) (by decide +kernel)) (fun _ _ _ _ _ => by exact (pg_tupK (K := K) rfl rfl (pgs_cons (pg_name (i := 4) nd rfl (Or.inl rfl)) (pgs_cons (pg_name (i := 5) nd rfl (Or.inl rfl)) pgs_nil)))) (fun _ _ _ _ _ => by exact pts_nil) (fun _ _ _ _ _ => by exact (pe_op op_mod (pe_op op_sub (pv 4) (pv 5)) (pe_gv rfl T.g_FULL)))))) pss_nil)
 (pss_cons (ps_if (pt_cmpR op_eq (pv 0) pe_int (nomark _)) (pss_one (ps_ret (pe_lc (own := [("one", 4), ("other", 5)]) (g := gTup K 2 (gCons (gName 4) (gCons (gName 5) gNil))) rfl nd (pi_listK (K := K) rfl (pv 3)) (blkOk_by (own := [("one", 4), ("other", 5)]) (N := ["kind", "ones", "others", "both", "one", "other"]) (sc := defScope s_paired) (by decide +kernel)) (fun _ _ _ _ _ => by exact (pg_tupK (K := K) rfl rfl (pgs_cons (pg_name (i := 4) nd rfl (Or.inl rfl)) (pgs_cons (pg_name (i := 5) nd rfl (Or.inl rfl)) pgs_nil)))) (fun _ _ _ _ _ => by exact pts_nil) (fun _ _ _ _ _ => by exact (pe_op op_mul (pe_op op_mod (pv 4) (pe_gv rfl T.g_HALF)) (pe_op op_mod (pv 5) (pe_gv rfl T.g_HALF))))))) pss_nil)
 (pss_cons (ps_if (pt_cmpR op_eq (pv 0) pe_int (nomark _)) (pss_one (ps_ret (pe_lc (own := [("one", 4), ("other", 5)]) (g := gTup K 2 (gCons (gName 4) (gCons (gName 5) gNil))) rfl nd (pi_listK (K := K) rfl (pv 3)) (blkOk_by (own := [("one", 4), ("other", 5)]) (N := ["kind", "ones", "others", "both", "one", "other"]) (sc := defScope s_paired) (by decide +kernel)) (fun _ _ _ _ _ => by exact (pg_tupK (K := K) rfl rfl (pgs_cons (pg_name (i := 4) nd rfl (Or.inl rfl)) (pgs_cons (pg_name (i := 5) nd rfl (Or.inl rfl)) pgs_nil)))) (fun _ _ _ _ _ => by exact pts_nil) (fun _ _ _ _ _ => by exact (pe_op op_xor (pv 4) (pv 5)))))) pss_nil)
 (pss_cons (ps_if (pt_cmpR op_eq (pv 0) pe_int (nomark _)) (pss_one (ps_ret (pe_lc (own := [("one", 4), ("other", 5)]) (g := gTup K 2 (gCons (gName 4) (gCons (gName 5) gNil))) rfl nd (pi_listK (K := K) rfl (pv 3)) (blkOk_by (own := [("one", 4), ("other", 5)]) (N := ["kind", "ones", "others", "both", "one", "other"]) (sc := defScope s_paired) (by decide +kernel)) (fun _ _ _ _ _ => by exact (pg_tupK (K := K) rfl rfl (pgs_cons (pg_name (i := 4) nd rfl (Or.inl rfl)) (pgs_cons (pg_name (i := 5) nd rfl (Or.inl rfl)) pgs_nil)))) (fun _ _ _ _ _ => by exact pts_nil) (fun _ _ _ _ _ => by exact (pe_op op_and (pv 4) (pv 5)))))) pss_nil)
 (pss_cons (ps_if (pt_cmpR op_eq (pv 0) pe_int (nomark _)) (pss_one (ps_ret (pe_lc (own := [("one", 4), ("other", 5)]) (g := gTup K 2 (gCons (gName 4) (gCons (gName 5) gNil))) rfl nd (pi_listK (K := K) rfl (pv 3)) (blkOk_by (own := [("one", 4), ("other", 5)]) (N := ["kind", "ones", "others", "both", "one", "other"]) (sc := defScope s_paired) (by decide +kernel)) (fun _ _ _ _ _ => by exact (pg_tupK (K := K) rfl rfl (pgs_cons (pg_name (i := 4) nd rfl (Or.inl rfl)) (pgs_cons (pg_name (i := 5) nd rfl (Or.inl rfl)) pgs_nil)))) (fun _ _ _ _ _ => by exact pts_nil) (fun _ _ _ _ _ => by exact (pe_op op_or (pv 4) (pv 5)))))) pss_nil)
 (pss_cons (ps_if (pt_cmpR op_eq (pv 0) pe_int (nomark _)) (pss_one (ps_ret (pe_lc (own := [("one", 4), ("other", 5)]) (g := gTup K 2 (gCons (gName 4) (gCons (gName 5) gNil))) rfl nd (pi_listK (K := K) rfl (pv 3)) (blkOk_by (own := [("one", 4), ("other", 5)]) (N := ["kind", "ones", "others", "both", "one", "other"]) (sc := defScope s_paired) (by decide +kernel)) (fun _ _ _ _ _ => by exact (pg_tupK (K := K) rfl rfl (pgs_cons (pg_name (i := 4) nd rfl (Or.inl rfl)) (pgs_cons (pg_name (i := 5) nd rfl (Or.inl rfl)) pgs_nil)))) (fun _ _ _ _ _ => by exact pts_nil) (fun _ _ _ _ _ => by exact (pe_callB (call_min2 rfl) (by rfl) T.b_min (by decide +kernel) (pa_cons (pv 4) (pa_cons (pv 5) pa_nil))))))) pss_nil)
 (pss_one (ps_ret (pe_lc (own := [("one", 4), ("other", 5)]) (g := gTup K 2 (gCons (gName 4) (gCons (gName 5) gNil))) rfl nd (pi_listK (K := K) rfl (pv 3)) (blkOk_by (own := [("one", 4), ("other", 5)]) (N := ["kind", "ones", "others", "both", "one", "other"]) (sc := defScope s_paired) (by decide +kernel)) (fun _ _ _ _ _ => by exact (pg_tupK (K := K) rfl rfl (pgs_cons (pg_name (i := 4) nd rfl (Or.inl rfl)) (pgs_cons (pg_name (i := 5) nd rfl (Or.inl rfl)) pgs_nil)))) (fun _ _ _ _ _ => by exact pts_nil) (fun _ _ _ _ _ => by exact (pe_callB (call_max2 rfl) (by rfl) T.b_max (by decide +kernel) (pa_cons (pv 4) (pa_cons (pv 5) pa_nil))))))))))))))), ?_⟩
  refine ⟨_, rfl, _, rfl, a, b, nv as, nv bs, rfl, hA, hB, by rw [nv_length, nv_length]; exact hl, fun H1 p ts e1 hp hp1 hlen hat => ?_⟩
  rw [nv_length] at hlen
  have el : ∀ {te : TE} {H2 : Hp}, Ex H1 H2 → (∀ x y H3, Ex H2 H3 → x ∈ as → y ∈ bs → Ev te [some (V.int (n : Int)), some (.ref a), some (.ref b), some (.ref p), some (.int (x : Int)), some (.int (y : Int))] H3 (.int ((Sd62.lane n x y : Nat) : Int))) →
      EvL (tLc (iList K (tVar 3)) (gTup K 2 (gCons (gName 4) (gCons (gName 5) gNil))) tYes te [4, 5]) [some (V.int (n : Int)), some (.ref a), some (.ref b), some (.ref p), none, none] H2 (nv ((as.zip bs).map fun y => Sd62.lane n y.1 y.2)) := fun {te H2} e2 he =>
    el_pairs (K := K) (ts := ts) (Sd62.lane n) rfl (SqL.of (e2 _ _ hp1)) hlen hl (by omega) (fun k t x y h1 h2 h3 => SqT.of (e2 _ _ (hat k t x y h1 h2 h3))) (fun _ _ => rfl) he
  have k1 : RetL (nv ((as.zip bs).map fun y => Sd62.lane n y.1 y.2)) H1 Q := RetL.on k e1
  refine Evl.q_when (et_eqI (Evl.ev_var rfl) Evl.ev_c) (fun hc H2 e2 => ?_) (fun hc0 H2 e2 => ?_)
  · have hc := of_decide_eq_true hc
    obtain rfl : n = 0 := by omega
    exact Evl.s_retL (el e2 fun x y H3 e3 hx hy => Evl.ev_is (ev_mod (ev_add (Evl.ev_var rfl) (Evl.ev_var rfl)) Evl.ev_c (by decide)) (congrArg V.int (lane_0 x y))) (RetL.on k1 e2)
  refine Evl.q_when (et_eqI (Evl.ev_var rfl) Evl.ev_c) (fun hc H3 e3 => ?_) (fun hc1 H3 e3 => ?_)
  · have hc := of_decide_eq_true hc
    obtain rfl : n = 1 := by omega
    exact Evl.s_retL (el (e2.trans e3) fun x y H3 e3 hx hy => Evl.ev_is (ev_mod (ev_sub (Evl.ev_var rfl) (Evl.ev_var rfl)) Evl.ev_c (by decide)) (congrArg V.int (lane_1 (la x hx) (lb y hy)))) (RetL.on k1 (e2.trans e3))
  refine Evl.q_when (et_eqI (Evl.ev_var rfl) Evl.ev_c) (fun hc H4 e4 => ?_) (fun hc2 H4 e4 => ?_)
  · have hc := of_decide_eq_true hc
    obtain rfl : n = 2 := by omega
    exact Evl.s_retL (el ((e2.trans e3).trans e4) fun x y H3 e3 hx hy => Evl.ev_is (ev_mul (ev_mod (Evl.ev_var rfl) Evl.ev_c (by decide)) (ev_mod (Evl.ev_var rfl) Evl.ev_c (by decide)) (mulL (by omega))) (congrArg V.int (lane_2 x y))) (RetL.on k1 ((e2.trans e3).trans e4))
  refine Evl.q_when (et_eqI (Evl.ev_var rfl) Evl.ev_c) (fun hc H5 e5 => ?_) (fun hc3 H5 e5 => ?_)
  · have hc := of_decide_eq_true hc
    obtain rfl : n = 3 := by omega
    exact Evl.s_retL (el (((e2.trans e3).trans e4).trans e5) fun x y H3 e3 hx hy => Evl.ev_is (Evl.ev_op (Evl.ev_var rfl) (Evl.ev_var rfl) Evl.rv_I0) (congrArg V.int (lane_3 x y))) (RetL.on k1 (((e2.trans e3).trans e4).trans e5))
  have e5' := ((e2.trans e3).trans e4).trans e5
  refine Evl.q_when (et_eqI (Evl.ev_var rfl) Evl.ev_c) (fun hc H6 e6 => ?_) (fun hc4 H6 e6 => ?_)
  · have hc := of_decide_eq_true hc
    obtain rfl : n = 4 := by omega
    exact Evl.s_retL (el (e5'.trans e6) fun x y H3 e3 hx hy => Evl.ev_is (Evl.ev_op (Evl.ev_var rfl) (Evl.ev_var rfl) Evl.rv_I0) (congrArg V.int (lane_4 x y))) (RetL.on k1 (e5'.trans e6))
  refine Evl.q_when (et_eqI (Evl.ev_var rfl) Evl.ev_c) (fun hc H7 e7 => ?_) (fun hc5 H7 e7 => ?_)
  · have hc := of_decide_eq_true hc
    obtain rfl : n = 5 := by omega
    exact Evl.s_retL (el ((e5'.trans e6).trans e7) fun x y H3 e3 hx hy => Evl.ev_is (Evl.ev_op (Evl.ev_var rfl) (Evl.ev_var rfl) Evl.rv_I0) (congrArg V.int (lane_5 x y))) (RetL.on k1 ((e5'.trans e6).trans e7))
  have e7' := (e5'.trans e6).trans e7
  refine Evl.q_when (et_eqI (Evl.ev_var rfl) Evl.ev_c) (fun hc H8 e8 => ?_) (fun hc6 H8 e8 => ?_)
  · have hc := of_decide_eq_true hc
    obtain rfl : n = 6 := by omega
    refine Evl.s_retL (el (e7'.trans e8) fun x y H3 e3 hx hy => fun H9 e9 R q => ⟨_, rfl, _, rfl, _, _, rfl, ?_⟩) (RetL.on k1 (e7'.trans e8))
    rw [lane_6]
    exact q H9 (Ex.refl _)
  · have hc0 := of_decide_eq_false hc0
    have hc1 := of_decide_eq_false hc1
    have hc2 := of_decide_eq_false hc2
    have hc3 := of_decide_eq_false hc3
    have hc4 := of_decide_eq_false hc4
    have hc5 := of_decide_eq_false hc5
    have hc6 := of_decide_eq_false hc6
    obtain rfl : n = 7 := by omega
    refine Evl.s_retL (el (e7'.trans e8) fun x y H3 e3 hx hy => fun H9 e9 R q => ⟨_, rfl, _, rfl, _, _, rfl, ?_⟩) (RetL.on k1 (e7'.trans e8))
    rw [lane_7]
    exact q H9 (Ex.refl _)
end
end VP

/-! ### executing: the runner -/
namespace VP
open PySem PySem.Spec PyProof.Rows L2
open Evl (Ex RetL RetV Ev EvL EvT EvA EvO)
structure RunAt (C : Addr) (H : Hp) (r st : Addr) : Prop where
  ex : ∃ dx pw, H r = some (.ins C dx (rF st pw)) ∧ H pw = some (.lst (nv powersL))
theorem RunAt.mono {C : Addr} {H H' : Hp} {r st : Addr} (h : RunAt C H r st) (e : Ex H H') : RunAt C H' r st := let ⟨dx, pw, h1, h2⟩ := h.ex; ⟨dx, pw, e _ _ h1, e _ _ h2⟩
/-- what good says of the operands -/
structure GoodF (p : Nat) (x : Sd62.Step) : Prop where
  kind : x.kind < 24
  width : x.width ≤ 2
  mask : x.mask < 8
  dv : x.kind < 14 → x.d < 32
  av : x.kind < 12 ∨ x.kind = 14 ∨ x.kind = 17 → x.a < 32
  bv : x.kind < 8 ∨ x.kind = 17 → x.b < 32
  bs : 8 ≤ x.kind → x.kind < 11 → x.b < 64
  br : x.kind = 11 → x.b < Sd62.lanes x.width
  aw : x.kind = 12 ∨ x.kind = 13 ∨ x.kind = 15 ∨ x.kind = 16 ∨ (18 ≤ x.kind ∧ x.kind < 23) → x.a < 8
  dw : 14 ≤ x.kind → x.d < 8
  bw : x.kind = 15 ∨ x.kind = 16 ∨ x.kind = 18 ∨ x.kind = 19 → x.b < 8
  lo : x.kind = 23 → 1 ≤ x.a ∧ x.a ≤ p
theorem good_facts {p : Nat} {x : Sd62.Step} (h : Sd62.good p x = true) : GoodF p x := by
  obtain ⟨k, w, m, d, a, b⟩ := x
  have hk : k < 24 := by
    apply Decidable.byContradiction
    intro z
    rw [good_out (.inl (by show 23 < k; omega))] at h
    cases h
  have hk' : k = 0 ∨ k = 1 ∨ k = 2 ∨ k = 3 ∨ k = 4 ∨ k = 5 ∨ k = 6 ∨ k = 7 ∨ k = 8 ∨ k = 9 ∨ k = 10 ∨ k = 11 ∨ k = 12 ∨ k = 13 ∨ k = 14 ∨ k = 15 ∨ k = 16 ∨ k = 17 ∨ k = 18 ∨ k = 19 ∨ k = 20 ∨ k = 21 ∨ k = 22 ∨ k = 23 := by omega
  rcases hk' with rfl | rfl | rfl | rfl | rfl | rfl | rfl | rfl | rfl | rfl | rfl | rfl | rfl | rfl | rfl | rfl | rfl | rfl | rfl | rfl | rfl | rfl | rfl | rfl <;>
    (simp [Sd62.good, Sd62.KINDS] at h
     constructor <;> dsimp only <;> omega)
theorem lanes_pos (w : Nat) : 2 ≤ Sd62.lanes w := by
  unfold Sd62.lanes
  have : 0 < 2 ^ w := Nat.pow_pos (by decide)
  omega
/-- the lanes that an instruction makes -/
def made (s : Sd62.St) (x : Sd62.Step) : List Nat :=
  if x.kind < 8 then (((s.V x.a).take (Sd62.lanes x.width)).zip ((s.V x.b).take (Sd62.lanes x.width))).map fun y => Sd62.lane x.kind y.1 y.2
  else if x.kind < 11 then ((s.V x.a).take (Sd62.lanes x.width)).map fun y => Sd62.lane x.kind y x.b
  else if x.kind = 11 then ((s.V x.a).take (Sd62.lanes x.width)).drop x.b ++ ((s.V x.a).take (Sd62.lanes x.width)).take x.b
  else if x.kind = 12 then List.replicate (Sd62.lanes x.width) (s.M x.a)
  else (List.range (Sd62.lanes x.width)).map fun i => (s.M x.a + i) % Sd62.W
section
variable {s : Sd62.St} {x : Sd62.Step} {p : Nat}
theorem v_mem (wf : Wf s) {i : Nat} (h : i < 32) : s.v[i]? = some (s.V i) ∧ s.V i ∈ s.v := by
  have h2 : i < s.v.length := by rw [wf.v32]; exact h
  have e : s.V i = s.v[i] := by
    unfold Sd62.St.V
    rw [List.getD_eq_getElem?_getD, List.getElem?_eq_getElem h2]
    rfl
  rw [e]
  exact ⟨List.getElem?_eq_getElem h2, List.getElem_mem h2⟩
theorem v_len (wf : Wf s) {i : Nat} (h : i < 32) : (s.V i).length = 8 := wf.row _ (v_mem wf h).2
theorem v_lt (wf : Wf s) {i : Nat} (h : i < 32) : ∀ n ∈ s.V i, n < 2 ^ 64 := wf.vlt _ (v_mem wf h).2
theorem m_mem (wf : Wf s) {i : Nat} (h : i < 8) : s.m[i]? = some (s.M i) ∧ s.M i < 2 ^ 64 := by
  have h2 : i < s.m.length := by rw [wf.m8]; exact h
  have e : s.M i = s.m[i] := by
    unfold Sd62.St.M
    rw [List.getD_eq_getElem?_getD, List.getElem?_eq_getElem h2]
    rfl
  rw [e]
  exact ⟨List.getElem?_eq_getElem h2, wf.mlt _ (List.getElem_mem h2)⟩
theorem k_mem (wf : Wf s) {i : Nat} (h : i < 8) : s.k[i]? = some (s.K i) ∧ s.K i < 2 ^ 64 := by
  have h2 : i < s.k.length := by rw [wf.k8]; exact h
  have e : s.K i = s.k[i] := by
    unfold Sd62.St.K
    rw [List.getD_eq_getElem?_getD, List.getElem?_eq_getElem h2]
    rfl
  rw [e]
  exact ⟨List.getElem?_eq_getElem h2, wf.klt _ (List.getElem_mem h2)⟩
theorem tk_len (wf : Wf s) {i w : Nat} (h : i < 32) (hw : w ≤ 2) : ((s.V i).take (Sd62.lanes w)).length = Sd62.lanes w := by
  have := lanes_le hw
  rw [List.length_take, v_len wf h]
  omega
theorem lane_lt2 {k a b : Nat} (hk : 8 ≤ k ∧ k < 11) (ha : a < 2 ^ 64) : Sd62.lane k a b < 2 ^ 64 := by
  unfold Sd62.lane
  rcases (by omega : k = 8 ∨ k = 9 ∨ k = 10) with rfl | rfl | rfl
  · exact Nat.mod_lt _ (by decide)
  · exact Nat.lt_of_le_of_lt (Nat.div_le_self _ _) ha
  · exact Nat.mod_lt _ (by decide)
theorem made_ok (wf : Wf s) (g : GoodF p x) (hk : x.kind < 14) : (made s x).length = Sd62.lanes x.width ∧ ∀ n ∈ made s x, n < 2 ^ 64 := by
  unfold made
  have mem : ∀ {i n : Nat}, i < 32 → n ∈ (s.V i).take (Sd62.lanes x.width) → n < 2 ^ 64 := fun hi hn => v_lt wf hi _ (List.mem_of_mem_take hn)
  split
  · rename_i c
    have ha := g.av (.inl (by omega))
    have hb := g.bv (.inl c)
    refine ⟨by rw [List.length_map, List.length_zip, tk_len wf ha g.width, tk_len wf hb g.width, Nat.min_self], fun n hn => ?_⟩
    obtain ⟨⟨y, z⟩, h1, rfl⟩ := List.mem_map.mp hn
    exact lane_lt c (mem ha (List.of_mem_zip h1).1) (mem hb (List.of_mem_zip h1).2)
  · split
    · rename_i c0 c
      have ha := g.av (.inl (by omega))
      refine ⟨by rw [List.length_map, tk_len wf ha g.width], fun n hn => ?_⟩
      obtain ⟨y, h1, rfl⟩ := List.mem_map.mp hn
      exact lane_lt2 ⟨by omega, c⟩ (mem ha h1)
    · split
      · rename_i c0 c1 c
        have ha := g.av (.inl (by omega))
        have hb := g.br c
        refine ⟨by rw [List.length_append, List.length_drop, List.length_take (i := x.b), tk_len wf ha g.width]; omega, fun n hn => ?_⟩
        rcases List.mem_append.mp hn with h | h
        · exact mem ha (List.mem_of_mem_drop h)
        · exact mem ha (List.mem_of_mem_take h)
      · split
        · rename_i c0 c1 c2 c
          have ha := g.aw (.inl c)
          exact ⟨List.length_replicate, fun n hn => by rw [List.eq_of_mem_replicate hn]; exact (m_mem wf ha).2⟩
        · refine ⟨by rw [List.length_map, List.length_range], fun n hn => ?_⟩
          obtain ⟨y, h1, rfl⟩ := List.mem_map.mp hn
          exact Nat.mod_lt _ (by decide)
theorem getD_of {l : List Nat} {i : Nat} (h : i < l.length) : l.getD i 0 = l[i] := by rw [List.getD_eq_getElem?_getD, List.getElem?_eq_getElem h]; rfl
theorem rotated (l : List Nat) {b : Nat} (hb : b < l.length) : ((List.range l.length).map fun i => l.getD ((i + b) % l.length) 0) = l.drop b ++ l.take b := by
  apply List.ext_getElem
  · rw [List.length_map, List.length_range, List.length_append, List.length_drop, List.length_take]; omega
  · intro i h1 h2
    rw [List.length_map, List.length_range] at h1
    rw [List.getElem_map, List.getElem_range]
    have hm : (i + b) % l.length < l.length := Nat.mod_lt _ (by omega)
    rw [getD_of hm]
    by_cases c : i + b < l.length
    · rw [List.getElem_append_left (by rw [List.length_drop]; omega), List.getElem_drop]
      congr 1
      rw [Nat.mod_eq_of_lt c, Nat.add_comm]
    · rw [List.getElem_append_right (by rw [List.length_drop]; omega), List.getElem_take]
      congr 1
      rw [Nat.mod_eq_sub_mod (by omega), Nat.mod_eq_of_lt (by omega), List.length_drop]
      omega
theorem step_made (wf : Wf s) (g : GoodF p x) (hk : x.kind < 14) : Sd62.step s p x = (s.write x (made s x), p + 1) := by
  unfold Sd62.step made
  dsimp only
  by_cases c0 : x.kind < 8
  · rw [if_pos c0, if_pos c0]
  rw [if_neg c0, if_neg c0]
  by_cases c1 : x.kind < 11
  · rw [if_pos c1, if_pos c1]
  rw [if_neg c1, if_neg c1]
  by_cases c2 : x.kind = 11
  · rw [if_pos c2, if_pos c2]
    have ha := g.av (.inl (by omega))
    have h := rotated ((s.V x.a).take (Sd62.lanes x.width)) (b := x.b) (by rw [tk_len wf ha g.width]; exact g.br c2)
    rw [tk_len wf ha g.width] at h
    rw [h]
  rw [if_neg c2, if_neg c2]
  by_cases c3 : x.kind = 12
  · rw [if_pos c3, if_pos c3]
  rw [if_neg c3, if_neg c3, if_pos (by omega)]
end
section
variable {K : PySem.W.Frag} {σ : L2.St} {H H' : Hp} {ta tb te tl ti tv : TE} {C : Addr} {f : Foot} {s : Sd62.St}
theorem eq_vec {i : Nat} (hc : StC C H f s) (wf : Wf s) (hv : Ev tv σ H (.ref f.va)) (hi : Ev ti σ H (.int (i : Int))) (h : i < 32) : EvQ K (tOp (rIxL K) tv ti) σ H (nv (s.V i)) := fun H1 e Q q => by
  obtain ⟨a, h1, h2⟩ := hc.rw.get (v_mem wf h).1
  exact hv H1 e _ fun H2 e2 => hi H2 (e.trans e2) _ fun H3 e3 => ⟨f.va, f.rows.map V.ref, (i : Int), .ref a, rfl, rfl, SqL.of (e3 _ _ (e2 _ _ (e _ _ hc.vl))), atI_nat (by rw [List.getElem?_map, h1]; rfl), q a H3 (e2.trans e3) (SqL.of (e3 _ _ (e2 _ _ (e _ _ h2))))⟩
theorem ev_word {i : Nat} (hc : StC C H f s) (wf : Wf s) (hv : Ev tv σ H (.ref f.wa)) (hi : Ev ti σ H (.int (i : Int))) (h : i < 8) : Ev (tOp (rIxL K) tv ti) σ H (.int (s.M i : Int)) := ev_item (eq_val hv (SqL.of hc.wl)) hi rfl (m_mem wf h).1
theorem ev_kay {i : Nat} (hc : StC C H f s) (wf : Wf s) (hv : Ev tv σ H (.ref f.ka)) (hi : Ev ti σ H (.int (i : Int))) (h : i < 8) : Ev (tOp (rIxL K) tv ti) σ H (.int (s.K i : Int)) := ev_item (eq_val hv (SqL.of hc.kl)) hi rfl (k_mem wf h).1
theorem ev_pow {r st : Addr} {i : Nat} {z : Int} (hr : RunAt C H r st) (ho : Ev te σ H (.ref r)) (cl : Cls K C) (na : NoAttr K C "powers") (hi : Ev ti σ H (.int z)) (hz : z = (i : Int)) (h : i < 65) : Ev (tOp (rIxL K) (tFld K te "powers") ti) σ H (.int ((2 ^ i : Nat) : Int)) := by
  obtain ⟨dx, pw, h1, h2⟩ := hr.ex
  exact ev_item (eq_val (ev_fld ho h1 cl na (rF_powers st pw)) (SqL.of h2)) hi hz (powers_get h)
theorem ev_rst {r st : Addr} (hr : RunAt C H r st) (ho : Ev te σ H (.ref r)) (cl : Cls K C) (na : NoAttr K C "state") : Ev (tFld K te "state") σ H (.ref st) := by
  obtain ⟨dx, pw, h1, h2⟩ := hr.ex
  exact ev_fld ho h1 cl na (rF_state st pw)
end
def spRunnerInit (C : Addr) : Sp := spOf (fun (⟨p, _, st⟩ : Addr × Addr × Addr) => [.ref p, .ref st]) fun ⟨p, dx, st⟩ H Q _ =>
  H p = some (.ins C dx []) ∧ ∀ H' pw, (∀ b o, H b = some o → b ≠ p → H' b = some o) → H pw = none → H' p = some (.ins C dx (rF st pw)) → H' pw = some (.lst (nv powersL)) → Q .non H'
def spShifted (K : PySem.W.Frag) (C : Addr) : Sp := spOf (fun (⟨r, _, n, l, _, b⟩ : Addr × Addr × Nat × Addr × List Nat × Nat) => [.ref r, .int (n : Int), .ref l, .int (b : Int)]) fun ⟨r, st, n, l, as, b⟩ H Q _ =>
  RunAt C H r st ∧ 8 ≤ n ∧ n < 11 ∧ SqL K H l (nv as) ∧ as.length ≤ 8 ∧ (∀ x ∈ as, x < 2 ^ 64) ∧ b < 64 ∧ RetL (nv (as.map fun y => Sd62.lane n y b)) H Q
theorem lane_8 (x y : Nat) : ((x : Int) * ((2 ^ y : Nat) : Int)) % 18446744073709551616 = ((Sd62.lane 8 x y : Nat) : Int) := by
  rw [show Sd62.lane 8 x y = x * 2 ^ y % Sd62.W by unfold Sd62.lane; rw [if_neg (by decide), if_neg (by decide), if_neg (by decide), if_neg (by decide), if_neg (by decide), if_neg (by decide), if_neg (by decide), if_neg (by decide), if_pos rfl], Int.natCast_emod, Int.natCast_mul]
  rfl
theorem lane_9 (x y : Nat) : (x : Int) / ((2 ^ y : Nat) : Int) = ((Sd62.lane 9 x y : Nat) : Int) := by
  rw [show Sd62.lane 9 x y = x / 2 ^ y by unfold Sd62.lane; rw [if_neg (by decide), if_neg (by decide), if_neg (by decide), if_neg (by decide), if_neg (by decide), if_neg (by decide), if_neg (by decide), if_neg (by decide), if_neg (by decide), if_pos rfl], Int.natCast_ediv]
theorem rot_lt {x y : Nat} (hx : x < 2 ^ 64) (hy : y < 64) : x * 2 ^ y % Sd62.W + x / 2 ^ (64 - y) < Sd62.W := by
  have e : Sd62.W = 2 ^ (64 - y) * 2 ^ y := by
    rw [← Nat.pow_add, show 64 - y + y = 64 by omega]
    rfl
  have hx' : x < 2 ^ (64 - y) * 2 ^ y := by rw [← e]; exact hx
  have hn : 0 < 2 ^ (64 - y) := Nat.pow_pos (by decide)
  have h1 : x * 2 ^ y % Sd62.W = x % 2 ^ (64 - y) * 2 ^ y := by rw [e, Nat.mul_mod_mul_right]
  have h2 : x / 2 ^ (64 - y) < 2 ^ y := by
    rw [Nat.div_lt_iff_lt_mul hn, Nat.mul_comm]
    exact hx'
  have h3 : x % 2 ^ (64 - y) + 1 ≤ 2 ^ (64 - y) := Nat.mod_lt _ hn
  have h4 := Nat.mul_le_mul_right (2 ^ y) h3
  rw [Nat.add_mul, Nat.one_mul] at h4
  rw [h1, e]
  omega
theorem lane_10 {x y : Nat} (hx : x < 2 ^ 64) (hy : y < 64) : ((x : Int) * ((2 ^ y : Nat) : Int)) % 18446744073709551616 + (x : Int) / ((2 ^ (64 - y) : Nat) : Int) = ((Sd62.lane 10 x y : Nat) : Int) := by
  rw [show Sd62.lane 10 x y = (x * 2 ^ y % Sd62.W + x / 2 ^ (64 - y)) % Sd62.W by unfold Sd62.lane; rw [if_neg (by decide), if_neg (by decide), if_neg (by decide), if_neg (by decide), if_neg (by decide), if_neg (by decide), if_neg (by decide), if_neg (by decide), if_neg (by decide), if_neg (by decide)], Nat.mod_eq_of_lt (rot_lt hx hy), Int.natCast_add, Int.natCast_emod, Int.natCast_mul, Int.natCast_ediv]
  rfl
theorem pow_lt70 {i : Nat} (h : i < 65) : ((2 ^ i : Nat) : Int) < 2 ^ 70 := by
  have h1 : 2 ^ i ≤ 2 ^ 64 := Nat.pow_le_pow_right (by decide) (by omega)
  have h2 : (2 : Nat) ^ 64 < 2 ^ 70 := by decide
  have h3 := Nat.lt_of_le_of_lt h1 h2
  have h4 : ((2 ^ i : Nat) : Int) < ((2 ^ 70 : Nat) : Int) := Int.ofNat_lt.mpr h3
  exact h4
theorem pow_pos' (i : Nat) : (0 : Int) < ((2 ^ i : Nat) : Int) := Int.ofNat_lt.mpr (Nat.pow_pos (by decide))
section
variable {P : Program} {w : World} {K : PySem.W.Frag} {mg : Str → Option Value} {base : Heap} {A : Ad}
theorem ok_Runner (T : Txt K mg A) : Mak P w K mg base 2 "Runner" A.cRunner (spRunnerInit A.cRunner) := by
  have c_powers := ok_powers (P := P) (w := w) (base := base) T
  refine Mak.of T.D_Runner___init__ sc_Runner___init__ (spOf_len fun ⟨_, _, _⟩ => rfl) fun f cdv A' outer s H vs Q E hr h => ?_
  have nd := sc_Runner___init__.nd
  obtain ⟨⟨p, dx, st⟩, hv, hp, k⟩ := h
  obtain rfl : vs = [V.ref p, V.ref st] := hv
  refine ⟨_, (pss_cons (ps_fld (pv 0) (pv 1) rfl)
 (pss_one (ps_fld (pv 0) (pe_c0 c_powers hr (by decide) rfl) rfl))), ?_⟩
  refine ⟨_, rfl, _, rfl, p, A.cRunner, dx, [], rfl, hp, T.cl_Runner, T.n_Runner_state, by decide, ?_⟩
  refine ⟨(), rfl, fun l H2 hl e2 h2 => ⟨_, rfl, p, A.cRunner, dx, _, rfl, e2 _ _ upd_same, T.cl_Runner, T.n_Runner_powers, Nat.lt_of_le_of_lt (length_putF _ _ _) (by decide), ?_⟩⟩
  have np : l ≠ p := fun z => by rw [z, upd_same] at hl; cases hl
  refine k _ l (fun b o hb nb => ?_) (by rw [upd_ne np] at hl; exact hl) ?_ ?_
  · rw [upd_ne nb]
    exact e2 b o (by rw [upd_ne nb]; exact hb)
  · rw [upd_same, rF_new]
  · rw [upd_ne np]; exact h2
theorem ok_shifted (T : Txt K mg A) : Met P w K mg base 1 A.cRunner "shifted" (spShifted K A.cRunner) := by
  refine Met.of T.D_Runner_shifted sc_Runner_shifted (spOf_len fun ⟨_, _, _, _, _, _⟩ => rfl) fun f cdv A' outer s H vs Q E hr h => ?_
  have nd := sc_Runner_shifted.nd
  obtain ⟨⟨r, st, n, l, as, b⟩, hv, hR, n8, n11, hL, h8, hlt, hb, k⟩ := h
  obtain rfl : vs = [V.ref r, V.int (n : Int), V.ref l, V.int (b : Int)] := hv
  refine ⟨_, (pss_cons (ps_if (pt_cmpR op_eq (pv 1) pe_int (nomark _)) (pss_one (ps_ret (pe_lc (own := [("one", 4)]) (g := gName 4) rfl nd (pi_listK (K := K) rfl (pv 2)) (blkOk_by (own := [("one", 4)]) (N := ["self", "kind", "ones", "by", "one"]) (sc := defScope s_Runner_shifted) (by decide +kernel)) (fun _ _ _ _ _ => by exact (pg_name (i := 4) nd rfl (Or.inl rfl))) (fun _ _ _ _ _ => by exact pts_nil) (fun _ _ _ _ _ => by exact (pe_op op_mod (pe_op op_mul (pv 4) (pe_ix (ix_listK (K := K) rfl) (pe_fldK (K := K) rfl (pv 0) rfl) (pv 3) (fun _ _ => rfl))) (pe_gv rfl T.g_FULL)))))) pss_nil)
 (pss_cons (ps_if (pt_cmpR op_eq (pv 1) pe_int (nomark _)) (pss_one (ps_ret (pe_lc (own := [("one", 4)]) (g := gName 4) rfl nd (pi_listK (K := K) rfl (pv 2)) (blkOk_by (own := [("one", 4)]) (N := ["self", "kind", "ones", "by", "one"]) (sc := defScope s_Runner_shifted) (by decide +kernel)) (fun _ _ _ _ _ => by exact (pg_name (i := 4) nd rfl (Or.inl rfl))) (fun _ _ _ _ _ => by exact pts_nil) (fun _ _ _ _ _ => by exact (pe_op op_fdivW (pv 4) (pe_ix (ix_listK (K := K) rfl) (pe_fldK (K := K) rfl (pv 0) rfl) (pv 3) (fun _ _ => rfl))))))) pss_nil)
 (pss_one (ps_ret (pe_lc (own := [("one", 4)]) (g := gName 4) rfl nd (pi_listK (K := K) rfl (pv 2)) (blkOk_by (own := [("one", 4)]) (N := ["self", "kind", "ones", "by", "one"]) (sc := defScope s_Runner_shifted) (by decide +kernel)) (fun _ _ _ _ _ => by exact (pg_name (i := 4) nd rfl (Or.inl rfl))) (fun _ _ _ _ _ => by exact pts_nil) (fun _ _ _ _ _ => by exact (pe_op op_add (pe_op op_mod (pe_op op_mul (pv 4) (pe_ix (ix_listK (K := K) rfl) (pe_fldK (K := K) rfl (pv 0) rfl) (pv 3) (fun _ _ => rfl))) (pe_gv rfl T.g_FULL)) (pe_op op_fdivW (pv 4) (pe_ix (ix_listK (K := K) rfl) (pe_fldK (K := K) rfl (pv 0) rfl) (pe_op op_sub pe_int (pv 3)) (fun _ _ => rfl)))))))))), ?_⟩
  have e8 : (nv (as.map fun y => Sd62.lane n y b)) = as.map fun y => V.int ((Sd62.lane n y b : Nat) : Int) := by unfold nv; rw [List.map_map]; rfl
  refine Evl.q_when (et_eqI (Evl.ev_var rfl) Evl.ev_c) (fun hc H2 e2 => ?_) (fun hc0 H2 e2 => ?_)
  · have hc := of_decide_eq_true hc
    obtain rfl : n = 8 := by omega
    refine Evl.s_retL (el_is (el_mapQ (K := K) (fun y => V.int ((Sd62.lane 8 y b : Nat) : Int)) (eq_var rfl (Evl.ex_l e2 hL)) (by omega) (fun _ => rfl) fun y H3 e3 hy => ?_) e8.symm) (RetL.on k e2)
    have hy' := hlt y hy
    exact Evl.ev_is (ev_mod (ev_mul (Evl.ev_var rfl) (ev_pow (hR.mono (e2.trans e3)) (Evl.ev_var rfl) T.cl_Runner T.n_Runner_powers (Evl.ev_var rfl) rfl (by omega)) (mulL (by omega))) Evl.ev_c (by decide)) (congrArg V.int (lane_8 y b))
  refine Evl.q_when (et_eqI (Evl.ev_var rfl) Evl.ev_c) (fun hc H3 e3 => ?_) (fun hc1 H3 e3 => ?_)
  · have hc := of_decide_eq_true hc
    obtain rfl : n = 9 := by omega
    refine Evl.s_retL (el_is (el_mapQ (K := K) (fun y => V.int ((Sd62.lane 9 y b : Nat) : Int)) (eq_var rfl (Evl.ex_l (e2.trans e3) hL)) (by omega) (fun _ => rfl) fun y H4 e4 hy => ?_) e8.symm) (RetL.on k (e2.trans e3))
    exact Evl.ev_is (ev_div (Evl.ev_var rfl) (ev_pow (hR.mono ((e2.trans e3).trans e4)) (Evl.ev_var rfl) T.cl_Runner T.n_Runner_powers (Evl.ev_var rfl) rfl (by omega)) (divW (pow_pos' b) (pow_lt70 (by omega)))) (congrArg V.int (lane_9 y b))
  · have hc0 := of_decide_eq_false hc0
    have hc1 := of_decide_eq_false hc1
    obtain rfl : n = 10 := by omega
    refine Evl.s_retL (el_is (el_mapQ (K := K) (fun y => V.int ((Sd62.lane 10 y b : Nat) : Int)) (eq_var rfl (Evl.ex_l (e2.trans e3) hL)) (by omega) (fun _ => rfl) fun y H4 e4 hy => ?_) e8.symm) (RetL.on k (e2.trans e3))
    have hy' := hlt y hy
    have hR4 := hR.mono ((e2.trans e3).trans e4)
    exact Evl.ev_is (ev_add (ev_mod (ev_mul (Evl.ev_var rfl) (ev_pow hR4 (Evl.ev_var rfl) T.cl_Runner T.n_Runner_powers (Evl.ev_var rfl) rfl (by omega)) (mulL (by omega))) Evl.ev_c (by decide))
      (ev_div (Evl.ev_var rfl) (ev_pow (i := 64 - b) hR4 (Evl.ev_var rfl) T.cl_Runner T.n_Runner_powers (ev_sub Evl.ev_c (Evl.ev_var rfl)) (by omega) (by omega)) (divW (pow_pos' _) (pow_lt70 (by omega))))) (congrArg V.int (lane_10 hy' hb))
end
end VP

/-! ### executing: one instruction -/
namespace VP
open PySem PySem.Spec PyProof.Rows L2
open Evl (Ex RetL RetV Ev EvL EvT EvA EvO)
/-! plain -/
def wrow (s : Sd62.St) (x : Sd62.Step) (l : List Nat) : List Nat := (List.range 8).map fun i => if Sd62.lanes x.width ≤ i then 0 else if x.mask = 0 ∨ Sd62.bitOf (s.K x.mask) i = 1 then l.getD i 0 else (s.V x.d).getD i 0
theorem write_row (s : Sd62.St) (x : Sd62.Step) (l : List Nat) : s.write x l = { s with v := s.v.set x.d (wrow s x l) } := rfl
theorem range_split (g : Nat → Nat) {n : Nat} (h : n ≤ 8) : ((List.range 8).map fun i => if n ≤ i then 0 else g i) = (List.range n).map g ++ List.replicate (8 - n) 0 := by
  apply List.ext_getElem
  · rw [List.length_append, List.length_map, List.length_map, List.length_range, List.length_range, List.length_replicate]; omega
  · intro i h1 h2
    rw [List.length_map, List.length_range] at h1
    rw [List.getElem_map, List.getElem_range]
    by_cases c : n ≤ i
    · rw [if_pos c, List.getElem_append_right (by rw [List.length_map, List.length_range]; exact c), List.getElem_replicate]
    · rw [if_neg c, List.getElem_append_left (by rw [List.length_map, List.length_range]; omega), List.getElem_map, List.getElem_range]
theorem wrow_plain {s : Sd62.St} {x : Sd62.Step} {l : List Nat} (hw : x.width ≤ 2) (hm : x.mask = 0) (hl : l.length = Sd62.lanes x.width) : wrow s x l = l ++ List.replicate (8 - Sd62.lanes x.width) 0 := by
  unfold wrow
  rw [range_split _ (lanes_le hw)]
  congr 1
  conv => rhs; rw [← map_range_get l 0, hl]
  refine List.map_congr_left fun i _ => ?_
  rw [if_pos (.inl hm)]
theorem wrow_masked {s : Sd62.St} {x : Sd62.Step} {l : List Nat} (hw : x.width ≤ 2) (hm : x.mask ≠ 0) : wrow s x l = ((List.range (Sd62.lanes x.width)).map fun i => if Sd62.bitOf (s.K x.mask) i = 1 then l.getD i 0 else (s.V x.d).getD i 0) ++ List.replicate (8 - Sd62.lanes x.width) 0 := by
  unfold wrow
  rw [range_split _ (lanes_le hw)]
  congr 1
  refine List.map_congr_left fun i _ => ?_
  by_cases c : Sd62.bitOf (s.K x.mask) i = 1
  · rw [if_pos (.inr c), if_pos c]
  · rw [if_neg (fun z => z.elim hm c), if_neg c]
theorem bits_range (p : Nat → Bool) : ∀ n, Sd62.bits ((List.range n).map p) = (((List.range n).filter p).map (2 ^ ·)).sum
  | 0 => rfl
  | n + 1 => by
    have ih := bits_range p n
    rw [List.range_succ, List.map_append, List.filter_append, List.map_append, List.sum_append, ← ih]
    unfold Sd62.bits
    rw [List.zipIdx_append, List.foldl_append, List.length_map, List.length_range]
    cases hp : p n with
    | true => simp [hp, Sd62.bit]
    | false => simp [hp, Sd62.bit]
theorem bits_lt (p : Nat → Bool) : ∀ n, (((List.range n).filter p).map (2 ^ ·)).sum < 2 ^ n
  | 0 => Nat.zero_lt_one
  | n + 1 => by
    have ih := bits_lt p n
    rw [List.range_succ, List.filter_append, List.map_append, List.sum_append, Nat.pow_succ]
    cases hp : p n with
    | true =>
      have e : ((List.filter p [n]).map (2 ^ ·)).sum = 2 ^ n := by simp [hp]
      omega
    | false =>
      have e : ((List.filter p [n]).map (2 ^ ·)).sum = 0 := by simp [hp]
      omega
theorem fold_sum : ∀ (l : List Nat) (a : Nat), a < Sd62.W → l.foldl (fun x y => (x + y) % Sd62.W) a = (a + l.sum) % Sd62.W
  | [], a, h => by rw [List.foldl_nil, List.sum_nil, Nat.add_zero, Nat.mod_eq_of_lt h]
  | x :: l, a, h => by
    rw [List.foldl_cons, fold_sum l _ (Nat.mod_lt _ (by decide)), List.sum_cons, Nat.mod_add_mod, Nat.add_assoc]
theorem sum_eq (l : List Nat) : Sd62.sum l = l.sum % Sd62.W := by
  unfold Sd62.sum
  rw [fold_sum l 0 (by decide), Nat.zero_add]
def lessP (s : Sd62.St) (x : Sd62.Step) (i : Nat) : Bool := decide ((s.V x.a).getD i 0 < (s.V x.b).getD i 0)
def lessN (s : Sd62.St) (x : Sd62.Step) : Nat := (((List.range (Sd62.lanes x.width)).filter (lessP s x)).map (2 ^ ·)).sum
theorem less_bits {s : Sd62.St} (wf : Wf s) {x : Sd62.Step} (hw : x.width ≤ 2) (ha : x.a < 32) (hb : x.b < 32) : Sd62.bits ((((s.V x.a).take (Sd62.lanes x.width)).zip ((s.V x.b).take (Sd62.lanes x.width))).map fun y => decide (y.1 < y.2)) = lessN s x := by
  have e := zip_range (fun a b => decide (a < b)) ((s.V x.a).take (Sd62.lanes x.width)) ((s.V x.b).take (Sd62.lanes x.width)) (by rw [tk_len wf ha hw, tk_len wf hb hw])
  rw [← e, tk_len wf ha hw, bits_range]
  unfold lessN
  congr 2
  refine List.filter_congr fun i hi => ?_
  have hi' := List.mem_range.mp hi
  unfold lessP
  simp only [List.getD_eq_getElem?_getD, List.getElem?_take, if_pos hi']
/-- what an instruction that writes no lanes leaves -/
def chg (s : Sd62.St) (x : Sd62.Step) : Sd62.St :=
  if x.kind = 14 then s.setM x.d (((s.V x.a).take (Sd62.lanes x.width)).sum % Sd62.W)
  else if x.kind = 15 then s.setM x.d ((s.M x.a + s.M x.b) % Sd62.W)
  else if x.kind = 16 then s.setM x.d (s.M x.a ^^^ s.M x.b)
  else if x.kind = 17 then s.setK x.d (lessN s x)
  else if x.kind = 18 then s.setK x.d (s.K x.a &&& s.K x.b)
  else if x.kind = 19 then s.setK x.d (s.K x.a ^^^ s.K x.b)
  else if x.kind = 20 then s.setK x.d (2 ^ Sd62.lanes x.width - 1 - s.K x.a % 2 ^ Sd62.lanes x.width)
  else if x.kind = 21 then s.setM x.d (s.K x.a)
  else if x.kind = 22 then s.setK x.d (s.M x.a)
  else s
def loopY (s : Sd62.St) (x : Sd62.Step) : Nat := (s.M x.d + Sd62.W - 1) % Sd62.W
def nxtS (s : Sd62.St) (x : Sd62.Step) : Sd62.St := if x.kind = 23 then s.setM x.d (loopY s x) else s
def nxtP (s : Sd62.St) (p : Nat) (x : Sd62.Step) : Nat := if x.kind = 23 then (if loopY s x = 0 then p + 1 else p - x.a) else p + 1
theorem step_chg {s : Sd62.St} (wf : Wf s) {p : Nat} {x : Sd62.Step} (g : GoodF p x) (hk : 14 ≤ x.kind) : Sd62.step s p x = (nxtS (chg s x) x, nxtP (chg s x) p x) := by
  have hk2 := g.kind
  unfold Sd62.step chg nxtS nxtP
  dsimp only
  rw [if_neg (by omega), if_neg (by omega), if_neg (by omega), if_neg (by omega), if_neg (by omega)]
  by_cases c1 : x.kind = 14
  · rw [if_pos c1, if_pos c1, if_neg (by omega), if_neg (by omega), sum_eq]
  rw [if_neg c1, if_neg c1]
  by_cases c2 : x.kind = 15
  · rw [if_pos c2, if_pos c2, if_neg (by omega), if_neg (by omega)]
  rw [if_neg c2, if_neg c2]
  by_cases c3 : x.kind = 16
  · rw [if_pos c3, if_pos c3, if_neg (by omega), if_neg (by omega)]
  rw [if_neg c3, if_neg c3]
  by_cases c4 : x.kind = 17
  · rw [if_pos c4, if_pos c4, if_neg (by omega), if_neg (by omega), less_bits wf g.width (g.av (.inr (.inr c4))) (g.bv (.inr c4))]
  rw [if_neg c4, if_neg c4]
  by_cases c5 : x.kind = 18
  · rw [if_pos c5, if_pos c5, if_neg (by omega), if_neg (by omega)]
  rw [if_neg c5, if_neg c5]
  by_cases c6 : x.kind = 19
  · rw [if_pos c6, if_pos c6, if_neg (by omega), if_neg (by omega)]
  rw [if_neg c6, if_neg c6]
  by_cases c7 : x.kind = 20
  · rw [if_pos c7, if_pos c7, if_neg (by omega), if_neg (by omega)]
  rw [if_neg c7, if_neg c7]
  by_cases c8 : x.kind = 21
  · rw [if_pos c8, if_pos c8, if_neg (by omega), if_neg (by omega)]
  rw [if_neg c8, if_neg c8]
  by_cases c9 : x.kind = 22
  · rw [if_pos c9, if_pos c9, if_neg (by omega), if_neg (by omega)]
  have c10 : x.kind = 23 := by omega
  rw [if_neg c9, if_neg c9, if_pos c10, if_pos c10]
  rfl
/-! stores -/
section
variable {K : PySem.W.Frag} {σ : L2.St} {H0 H H' : Hp} {ta tb te tl ti tv tw : TE} {C : Addr} {f : Foot} {s : Sd62.St} {D : Ends}
theorem s_setV {xs : List Nat} {j : Nat} (hc : StC C H f s) (ha : Apart f) (hf : Free H0 f) (e0 : Ex H0 H) (wf : Wf s) (he : EvL te σ H (nv xs)) (hv : Ev tv σ H (.ref f.va)) (hi : Ev ti σ H (.int (j : Int))) (hj : j < 32) (hx : xs.length = 8) (hlt : ∀ n ∈ xs, n < 2 ^ 64)
    (k : ∀ H', StAt C H0 H' f.a { s with v := s.v.set j xs } → D.nx σ H') : tAsg te (gSub tv ti rSetL) D σ H :=
  he H (Ex.refl H) _ fun p H1 hp e1 h1 => hv H1 e1 _ fun H2 e2 => hi H2 (e1.trans e2) _ fun H3 e3 => by
    have ee := (e1.trans e2).trans e3
    have nn := hc.new_ne hp
    refine ⟨f.va, f.rows.map V.ref, (j : Int), j, rfl, rfl, ee _ _ hc.vl, Evl.ixN_nat (by rw [List.length_map, hc.rw.1, wf.v32]; exact hj), k _ ?_⟩
    exact at_row (hc.mono ee) ha hf (e0.trans ee) wf (e3 _ _ (e2 _ _ h1)) ⟨nn.2.1, nn.2.2.1, nn.2.2.2.1⟩ (Evl.fresh_back e0 hp) hx hlt
theorem s_setW {n j : Nat} {z : Int} (hc : StC C H f s) (ha : Apart f) (hf : Free H0 f) (e0 : Ex H0 H) (wf : Wf s) (he : Ev te σ H (.int z)) (hz : z = (n : Int)) (hv : Ev tv σ H (.ref f.wa)) (hi : Ev ti σ H (.int (j : Int))) (hj : j < 8) (hlt : n < 2 ^ 64)
    (k : ∀ H', StAt C H0 H' f.a (s.setM j n) → D.nx σ H') : tAsg te (gSub tv ti rSetL) D σ H :=
  he H (Ex.refl H) _ fun H1 e1 => hv H1 e1 _ fun H2 e2 => hi H2 (e1.trans e2) _ fun H3 e3 => by
    have ee := (e1.trans e2).trans e3
    subst hz
    exact ⟨f.wa, nv s.m, (j : Int), j, rfl, rfl, ee _ _ hc.wl, Evl.ixN_nat (by rw [nv_length, wf.m8]; exact hj), k _ (at_word (hc.mono ee) ha hf (e0.trans ee) wf hlt)⟩
theorem s_setKy {n j : Nat} {z : Int} (hc : StC C H f s) (ha : Apart f) (hf : Free H0 f) (e0 : Ex H0 H) (wf : Wf s) (he : Ev te σ H (.int z)) (hz : z = (n : Int)) (hv : Ev tv σ H (.ref f.ka)) (hi : Ev ti σ H (.int (j : Int))) (hj : j < 8) (hlt : n < 2 ^ 64)
    (k : ∀ H', StAt C H0 H' f.a (s.setK j n) → D.nx σ H') : tAsg te (gSub tv ti rSetL) D σ H :=
  he H (Ex.refl H) _ fun H1 e1 => hv H1 e1 _ fun H2 e2 => hi H2 (e1.trans e2) _ fun H3 e3 => by
    have ee := (e1.trans e2).trans e3
    subst hz
    exact ⟨f.ka, nv s.k, (j : Int), j, rfl, rfl, ee _ _ hc.kl, Evl.ixN_nat (by rw [nv_length, wf.k8]; exact hj), k _ (at_mask (hc.mono ee) ha hf (e0.trans ee) wf hlt)⟩
theorem el_paired {t1 t2 t3 : TE} {n : Nat} {as bs : List Nat} (h1 : Ev t1 σ H (.int (n : Int))) (h2 : EvL t2 σ H (nv as)) (h3 : EvL t3 σ H (nv bs)) (hn : n < 8) (hl : as.length = bs.length) (h8 : as.length ≤ 8) (la : ∀ x ∈ as, x < 2 ^ 64) (lb : ∀ x ∈ bs, x < 2 ^ 64) :
    EvL (tCallS (spPaired K) (fun _ => E0) (tCons t1 (tCons t2 (tCons t3 tNil)))) σ H (nv ((as.zip bs).map fun y => Sd62.lane n y.1 y.2)) := fun H1 e Q q =>
  h1 H1 e _ fun H2 e2 => h2 H2 (e.trans e2) _ fun p H3 hp e3 hp3 => h3 H3 ((e.trans e2).trans e3) _ fun r H4 hr e4 hr4 =>
    ⟨⟨n, p, as, r, bs⟩, rfl, hn, SqL.of (e4 _ _ hp3), SqL.of hr4, hl, h8, la, lb, fun l H5 hl5 e5 h5 => q l H5 (Evl.fresh_back ((e2.trans e3).trans e4) hl5) (((e2.trans e3).trans e4).trans e5) h5⟩
theorem el_shifted {t0 t1 t2 t3 : TE} {r st : Addr} {n b : Nat} {as : List Nat} (hR : RunAt C H r st) (h0 : Ev t0 σ H (.ref r)) (h1 : Ev t1 σ H (.int (n : Int))) (h2 : EvL t2 σ H (nv as)) (h3 : Ev t3 σ H (.int (b : Int))) (n8 : 8 ≤ n) (n11 : n < 11) (h8 : as.length ≤ 8) (la : ∀ x ∈ as, x < 2 ^ 64) (hb : b < 64) :
    EvL (tMethS C "shifted" (spShifted K C) t0 (tCons t1 (tCons t2 (tCons t3 tNil)))) σ H (nv (as.map fun y => Sd62.lane n y b)) := fun H1 e Q q => by
  obtain ⟨dx, pw, hr1, hr2⟩ := hR.ex
  exact h0 H1 e _ fun H1' e1' => ⟨r, dx, _, rfl, e1' _ _ (e _ _ hr1), rF_shifted _ _, h1 H1' (e.trans e1') _ fun H2 e2 => h2 H2 ((e.trans e1').trans e2) _ fun p H3 hp e3 hp3 => h3 H3 (((e.trans e1').trans e2).trans e3) _ fun H4 e4 =>
    ⟨⟨r, st, n, p, as, b⟩, rfl, hR.mono ((((e.trans e1').trans e2).trans e3).trans e4), n8, n11, SqL.of (e4 _ _ hp3), h8, la, hb, fun l H5 hl5 e5 h5 => q l H5 (Evl.fresh_back (((e1'.trans e2).trans e3).trans e4) hl5) ((((e1'.trans e2).trans e3).trans e4).trans e5) h5⟩⟩
end
def spLanesMade (A : Ad) : Sp := spOf (fun (⟨r, i, _, _, _, _⟩ : Addr × Addr × Foot × Sd62.St × Sd62.Step × Nat) => [.ref r, .ref i]) fun ⟨r, i, f, s, x, p⟩ H Q _ =>
  RunAt A.cRunner H r f.a ∧ StC A.cState H f s ∧ Wf s ∧ InsAt A.cInstruction H i x ∧ GoodF p x ∧ (x.kind < 14 → RetL (nv (made s x)) H Q) ∧ (14 ≤ x.kind → RetV .non H Q)
def spBitsLess (A : Ad) : Sp := spOf (fun (⟨r, i, _, _, _, _⟩ : Addr × Addr × Foot × Sd62.St × Sd62.Step × Nat) => [.ref r, .ref i]) fun ⟨r, i, f, s, x, p⟩ H Q _ =>
  RunAt A.cRunner H r f.a ∧ StC A.cState H f s ∧ Wf s ∧ InsAt A.cInstruction H i x ∧ GoodF p x ∧ x.kind = 17 ∧ RetV (.int (lessN s x : Int)) H Q
def spWrite (K : PySem.W.Frag) (A : Ad) : Sp := spOf (fun (⟨_, r, i, _, l, _, _, _, _⟩ : Hp × Addr × Addr × Addr × Addr × Sd62.St × Sd62.Step × Nat × List Nat) => [.ref r, .ref i, .ref l]) fun ⟨H0, r, i, a, l, s, x, p, ls⟩ H Q _ =>
  StAt A.cState H0 H a s ∧ RunAt A.cRunner H0 r a ∧ InsAt A.cInstruction H0 i x ∧ GoodF p x ∧ x.kind < 14 ∧ SqL K H l (nv ls) ∧ ls.length = Sd62.lanes x.width ∧ (∀ n ∈ ls, n < 2 ^ 64) ∧ ∀ H', StAt A.cState H0 H' a (s.write x ls) → Q .non H'
def spChange (A : Ad) : Sp := spOf (fun (⟨_, r, i, _, _, _, _⟩ : Hp × Addr × Addr × Addr × Sd62.St × Sd62.Step × Nat) => [.ref r, .ref i]) fun ⟨H0, r, i, a, s, x, p⟩ H Q _ =>
  StAt A.cState H0 H a s ∧ RunAt A.cRunner H0 r a ∧ InsAt A.cInstruction H0 i x ∧ GoodF p x ∧ 14 ≤ x.kind ∧ ∀ H', StAt A.cState H0 H' a (chg s x) → Q .non H'
def spNext (A : Ad) : Sp := spOf (fun (⟨_, r, i, _, _, _, p⟩ : Hp × Addr × Addr × Addr × Sd62.St × Sd62.Step × Nat) => [.ref r, .ref i, .int (p : Int)]) fun ⟨H0, r, i, a, s, x, p⟩ H Q _ =>
  StAt A.cState H0 H a s ∧ RunAt A.cRunner H0 r a ∧ InsAt A.cInstruction H0 i x ∧ GoodF p x ∧ ∀ H', StAt A.cState H0 H' a (nxtS s x) → Q (.int (nxtP s p x : Int)) H'
section
variable {P : Program} {w : World} {K : PySem.W.Frag} {mg : Str → Option Value} {base : Heap} {A : Ad}
theorem ok_lanes_made (T : Txt K mg A) : Met P w K mg base 2 A.cRunner "lanes_made" (spLanesMade A) := by
  have c_paired := ok_paired (P := P) (w := w) (base := base) T
  have c_Runner_shifted := ok_shifted (P := P) (w := w) (base := base) T
  refine Met.of T.D_Runner_lanes_made sc_Runner_lanes_made (spOf_len fun ⟨_, _, _, _, _, _⟩ => rfl) fun f cdv A' outer s H vs Q E hr h => ?_
  have nd := sc_Runner_lanes_made.nd
  obtain ⟨⟨r, i, f, st, x, p⟩, hv, hR, hc, wf, hi, g, k, kn⟩ := h
  obtain rfl : vs = [V.ref r, V.ref i] := hv
  refine ⟨_, (pss_cons (ps_set (i := 2) nd rfl (Or.inr rfl) (pe_fldK (K := K) rfl (pv 0) rfl))
 (pss_cons (ps_if (pt_cmpR op_lt (pe_fldK (K := K) rfl (pv 1) rfl) pe_int (nomark _)) (pss_one (ps_ret (pe_c c_paired hr (by decide) rfl (pa_cons (pe_fldK (K := K) rfl (pv 1) rfl) (pa_cons (pe_slice (sl_listK (K := K) rfl) (pe_ix (ix_listK (K := K) rfl) (pe_fldK (K := K) rfl (pv 2) rfl) (pe_fldK (K := K) rfl (pv 1) rfl) (fun _ _ => rfl)) po_none (po_some (pe_fldK (K := K) rfl (pv 1) rfl))) (pa_cons (pe_slice (sl_listK (K := K) rfl) (pe_ix (ix_listK (K := K) rfl) (pe_fldK (K := K) rfl (pv 2) rfl) (pe_fldK (K := K) rfl (pv 1) rfl) (fun _ _ => rfl)) po_none (po_some (pe_fldK (K := K) rfl (pv 1) rfl))) pa_nil)))))) pss_nil)
 (pss_cons (ps_if (pt_cmpR op_lt (pe_fldK (K := K) rfl (pv 1) rfl) (pe_gv rfl T.g_ROTATE) (nomark _)) (pss_one (ps_ret (pe_m T.cl_Runner c_Runner_shifted hr (by decide) (pv 0) (pa_cons (pe_fldK (K := K) rfl (pv 1) rfl) (pa_cons (pe_slice (sl_listK (K := K) rfl) (pe_ix (ix_listK (K := K) rfl) (pe_fldK (K := K) rfl (pv 2) rfl) (pe_fldK (K := K) rfl (pv 1) rfl) (fun _ _ => rfl)) po_none (po_some (pe_fldK (K := K) rfl (pv 1) rfl))) (pa_cons (pe_fldK (K := K) rfl (pv 1) rfl) pa_nil)))))) pss_nil)
 (pss_cons (ps_if (pt_cmpR op_eq (pe_fldK (K := K) rfl (pv 1) rfl) (pe_gv rfl T.g_ROTATE) (nomark _)) (pss_cons (ps_set (i := 3) nd rfl (Or.inl rfl) (pe_slice (sl_listK (K := K) rfl) (pe_ix (ix_listK (K := K) rfl) (pe_fldK (K := K) rfl (pv 2) rfl) (pe_fldK (K := K) rfl (pv 1) rfl) (fun _ _ => rfl)) po_none (po_some (pe_fldK (K := K) rfl (pv 1) rfl))))
 (pss_one (ps_ret (pe_op (op_catK (K := K) rfl) (pe_slice (sl_listK (K := K) rfl) (pv 3) (po_some (pe_fldK (K := K) rfl (pv 1) rfl)) po_none) (pe_slice (sl_listK (K := K) rfl) (pv 3) po_none (po_some (pe_fldK (K := K) rfl (pv 1) rfl))))))) pss_nil)
 (pss_cons (ps_if (pt_cmpR op_eq (pe_fldK (K := K) rfl (pv 1) rfl) (pe_gv rfl T.g_FILL) (nomark _)) (pss_one (ps_ret (pe_op op_rep (pe_lst (pa_cons (pe_ix (ix_listK (K := K) rfl) (pe_fldK (K := K) rfl (pv 2) rfl) (pe_fldK (K := K) rfl (pv 1) rfl) (fun _ _ => rfl)) pa_nil)) (pe_fldK (K := K) rfl (pv 1) rfl)))) pss_nil)
 (pss_cons (ps_if (pt_cmpR op_eq (pe_fldK (K := K) rfl (pv 1) rfl) (pe_gv rfl T.g_RISE) (nomark _)) (pss_one (ps_ret (pe_lc (own := [("at", 4)]) (g := gName 4) rfl nd (pi_range1 rfl T.b_range (pa_cons (pe_fldK (K := K) rfl (pv 1) rfl) pa_nil)) (blkOk_by (own := [("at", 4)]) (N := ["self", "one", "state", "ones", "at"]) (sc := defScope s_Runner_lanes_made) (by decide +kernel)) (fun _ _ _ _ _ => by exact (pg_name (i := 4) nd rfl (Or.inl rfl))) (fun _ _ _ _ _ => by exact pts_nil) (fun _ _ _ _ _ => by exact (pe_op op_mod (pe_op op_add (pe_ix (ix_listK (K := K) rfl) (pe_fldK (K := K) rfl (pv 2) rfl) (pe_fldK (K := K) rfl (pv 1) rfl) (fun _ _ => rfl)) (pv 4)) (pe_gv rfl T.g_FULL)))))) pss_nil)
 (pss_one (ps_ret pe_non)))))))), ?_⟩
  refine Evl.q_asg (ev_rst hR (Evl.ev_var rfl) T.cl_Runner T.n_Runner_state) fun H1 e1 => ?_
  have ik : ∀ {σ : L2.St} {H2 : Hp}, Ex H H2 → σ[1]? = some (some (.ref i)) → Ev (tFld K (tVar 1) "kind") σ H2 (.int (x.kind : Int)) := fun e h => ev_ins (Evl.ev_var h) (hi.mono e) T.cl_Instruction T.n_Instruction_kind (iF_kind x)
  have il : ∀ {σ : L2.St} {H2 : Hp}, Ex H H2 → σ[1]? = some (some (.ref i)) → Ev (tFld K (tVar 1) "lanes") σ H2 (.int (Sd62.lanes x.width : Int)) := fun e h => ev_ins (Evl.ev_var h) (hi.mono e) T.cl_Instruction T.n_Instruction_lanes (iF_lanes x)
  have io : ∀ {σ : L2.St} {H2 : Hp}, Ex H H2 → σ[1]? = some (some (.ref i)) → Ev (tFld K (tVar 1) "one") σ H2 (.int (x.a : Int)) := fun e h => ev_ins (Evl.ev_var h) (hi.mono e) T.cl_Instruction T.n_Instruction_one (iF_one x)
  have ib : ∀ {σ : L2.St} {H2 : Hp}, Ex H H2 → σ[1]? = some (some (.ref i)) → Ev (tFld K (tVar 1) "other") σ H2 (.int (x.b : Int)) := fun e h => ev_ins (Evl.ev_var h) (hi.mono e) T.cl_Instruction T.n_Instruction_other (iF_other x)
  have sv : ∀ {σ : L2.St} {H2 : Hp}, Ex H H2 → σ[2]? = some (some (.ref f.a)) → Ev (tFld K (tVar 2) "vectors") σ H2 (.ref f.va) := fun e h => ev_fld (Evl.ev_var h) (hc.mono e).ins T.cl_State T.n_State_vectors (sF_vectors f)
  have sw : ∀ {σ : L2.St} {H2 : Hp}, Ex H H2 → σ[2]? = some (some (.ref f.a)) → Ev (tFld K (tVar 2) "words") σ H2 (.ref f.wa) := fun e h => ev_fld (Evl.ev_var h) (hc.mono e).ins T.cl_State T.n_State_words (sF_words f)
  have tk : ∀ {σ : L2.St} {H2 : Hp} {ti : TE} {j : Nat}, Ex H H2 → σ[1]? = some (some (.ref i)) → σ[2]? = some (some (.ref f.a)) → Ev ti σ H2 (.int (j : Int)) → j < 32 → EvL (tSl (rSlL K) (tOp (rIxL K) (tFld K (tVar 2) "vectors") ti) tNoPart (tPart (tFld K (tVar 1) "lanes"))) σ H2 (nv ((st.V j).take (Sd62.lanes x.width))) :=
    fun e h1 h2 hj hj2 => el_to (eq_vec (hc.mono e) wf (sv e h2) hj hj2) (il e h1) rfl
  have mem : ∀ {j n : Nat}, j < 32 → n ∈ (st.V j).take (Sd62.lanes x.width) → n < 2 ^ 64 := fun hi hn => v_lt wf hi _ (List.mem_of_mem_take hn)
  have l8 := lanes_le g.width
  refine Evl.q_when (et_I0 (ik e1 rfl) Evl.ev_c) (fun hcn H2 e2 => ?_) (fun hc0 H2 e2 => ?_)
  · have c := of_decide_eq_true hcn
    have c : x.kind < 8 := by omega
    have k := k (by omega)
    unfold made at k
    rw [if_pos c] at k
    have ha := g.av (.inl (by omega))
    have hb := g.bv (.inl c)
    exact Evl.s_retL (el_paired (ik (e1.trans e2) rfl) (tk (e1.trans e2) rfl rfl (io (e1.trans e2) rfl) ha) (tk (e1.trans e2) rfl rfl (ib (e1.trans e2) rfl) hb) c (by rw [tk_len wf ha g.width, tk_len wf hb g.width]) (by rw [tk_len wf ha g.width]; exact l8) (fun y hy => mem ha hy) (fun y hy => mem hb hy)) (RetL.on k (e1.trans e2))
  have c0 := of_decide_eq_false hc0
  have c0 : ¬ x.kind < 8 := by omega
  have e2' := e1.trans e2
  refine Evl.q_when (et_I0 (ik e2' rfl) Evl.ev_c) (fun hcn H3 e3 => ?_) (fun hc1 H3 e3 => ?_)
  · have c := of_decide_eq_true hcn
    have c : x.kind < 11 := by omega
    have k := k (by omega)
    unfold made at k
    rw [if_neg c0, if_pos c] at k
    have ha := g.av (.inl (by omega))
    exact Evl.s_retL (el_shifted (hR.mono (e2'.trans e3)) (Evl.ev_var rfl) (ik (e2'.trans e3) rfl) (tk (e2'.trans e3) rfl rfl (io (e2'.trans e3) rfl) ha) (ib (e2'.trans e3) rfl) (by omega) c (by rw [tk_len wf ha g.width]; exact l8) (fun y hy => mem ha hy) (g.bs (by omega) c)) (RetL.on k (e2'.trans e3))
  have c1 := of_decide_eq_false hc1
  have c1 : ¬ x.kind < 11 := by omega
  have e3' := e2'.trans e3
  refine Evl.q_when (et_eqI (ik e3' rfl) Evl.ev_c) (fun hcn H4 e4 => ?_) (fun hc2 H4 e4 => ?_)
  · have c := of_decide_eq_true hcn
    have c : x.kind = 11 := by omega
    have k := k (by omega)
    unfold made at k
    rw [if_neg c0, if_neg c1, if_pos c] at k
    have ha := g.av (.inl (by omega))
    refine Evl.q_asgL (tk (e3'.trans e4) rfl rfl (io (e3'.trans e4) rfl) ha) fun l H5 hl e5 h5 => ?_
    have e5' := (e3'.trans e4).trans e5
    exact Evl.s_retL (el_cat (eq_new (el_from (eq_var rfl (SqL.of h5)) (ib e5' rfl) rfl)) (eq_new (el_to (eq_var rfl (SqL.of h5)) (ib e5' rfl) rfl)) (by rw [List.length_drop, List.length_take (i := x.b), tk_len wf ha g.width]; omega)) (RetL.on k e5')
  have c2 := of_decide_eq_false hc2
  have c2 : ¬ x.kind = 11 := by omega
  have e4' := e3'.trans e4
  refine Evl.q_when (et_eqI (ik e4' rfl) Evl.ev_c) (fun hcn H5 e5 => ?_) (fun hc3 H5 e5 => ?_)
  · have c := of_decide_eq_true hcn
    have c : x.kind = 12 := by omega
    have k := k (by omega)
    unfold made at k
    rw [if_neg c0, if_neg c1, if_neg c2, if_pos c] at k
    have ha := g.aw (.inl c)
    exact Evl.s_retL (el_rep (ev_word (hc.mono (e4'.trans e5)) wf (sw (e4'.trans e5) rfl) (io (e4'.trans e5) rfl) ha) (il (e4'.trans e5) rfl) rfl (by omega)) (RetL.on k (e4'.trans e5))
  have c3 := of_decide_eq_false hc3
  have c3 : ¬ x.kind = 12 := by omega
  have e5' := e4'.trans e5
  refine Evl.q_when (et_eqI (ik e5' rfl) Evl.ev_c) (fun hcn H6 e6 => ?_) (fun hc4 H6 e6 => ?_)
  · have c := of_decide_eq_true hcn
    have c : x.kind = 13 := by omega
    have k := k (by omega)
    unfold made at k
    rw [if_neg c0, if_neg c1, if_neg c2, if_neg c3] at k
    have ha := g.aw (.inr (.inl c))
    refine Evl.s_retL (el_is (el_rangeM (n := Sd62.lanes x.width) (fun y => V.int (((st.M x.a + y) % Sd62.W : Nat) : Int)) (Evl.ea_cons (il (e5'.trans e6) rfl) Evl.ea_nil) (by omega) (fun _ => rfl) fun y H7 e7 hy => ?_) (by unfold nv; rw [List.map_map]; rfl)) (RetL.on k (e5'.trans e6))
    refine Evl.ev_is (ev_mod (ev_add (ev_word (hc.mono ((e5'.trans e6).trans e7)) wf (sw ((e5'.trans e6).trans e7) rfl) (io ((e5'.trans e6).trans e7) rfl) ha) (Evl.ev_var rfl)) Evl.ev_c (by decide)) (congrArg V.int ?_)
    unfold Sd62.W
    omega
  have c4 := of_decide_eq_false hc4
  exact Evl.s_ret Evl.ev_c (RetV.on (kn (by omega)) (e5'.trans e6))
theorem ok_bits_less (T : Txt K mg A) : Met P w K mg base 1 A.cRunner "bits_less" (spBitsLess A) := by
  refine Met.of T.D_Runner_bits_less sc_Runner_bits_less (spOf_len fun ⟨_, _, _, _, _, _⟩ => rfl) fun f cdv A' outer s H vs Q E hr h => ?_
  have nd := sc_Runner_bits_less.nd
  obtain ⟨⟨r, i, f, st, x, p⟩, hv, hR, hc, wf, hi, g, hk, k⟩ := h
  obtain rfl : vs = [V.ref r, V.ref i] := hv
  refine ⟨_, (pss_cons (ps_asg (pe_tup (pa_cons (pe_ix (ix_listK (K := K) rfl) (pe_fldK (K := K) rfl (pe_fldK (K := K) rfl (pv 0) rfl) rfl) (pe_fldK (K := K) rfl (pv 1) rfl) (fun _ _ => rfl)) (pa_cons (pe_ix (ix_listK (K := K) rfl) (pe_fldK (K := K) rfl (pe_fldK (K := K) rfl (pv 0) rfl) rfl) (pe_fldK (K := K) rfl (pv 1) rfl) (fun _ _ => rfl)) pa_nil))) (pg_tupK (K := K) rfl rfl (pgs_cons (pg_name (i := 2) nd rfl (Or.inr rfl)) (pgs_cons (pg_name (i := 3) nd rfl (Or.inr rfl)) pgs_nil))))
 (pss_one (ps_ret (pe_callB (cr_sumK (K := K) rfl rfl) (by rfl) T.b_sum (by decide +kernel) (pa_cons (pe_lc (own := [("at", 4)]) (g := gName 4) rfl nd (pi_range1 rfl T.b_range (pa_cons (pe_fldK (K := K) rfl (pv 1) rfl) pa_nil)) (blkOk_by (own := [("at", 4)]) (N := ["self", "one", "ones", "others", "at"]) (sc := defScope s_Runner_bits_less) (by decide +kernel)) (fun _ _ _ _ _ => by exact (pg_name (i := 4) nd rfl (Or.inl rfl))) (fun _ _ _ _ _ => by exact (pts_one (pt_cmpR op_lt (pe_ix (ix_listK (K := K) rfl) (pv 2) (pv 4) (fun _ _ => rfl)) (pe_ix (ix_listK (K := K) rfl) (pv 3) (pv 4) (fun _ _ => rfl)) (nomark _)))) (fun _ _ _ _ _ => by exact (pe_ix (ix_listK (K := K) rfl) (pe_fldK (K := K) rfl (pv 0) rfl) (pv 4) (fun _ _ => rfl)))) pa_nil))))), ?_⟩
  have ha := g.av (.inr (.inr hk))
  have hb := g.bv (.inr hk)
  have l8 := lanes_le g.width
  have sv : ∀ {σ : L2.St} {H2 : Hp}, Ex H H2 → σ[0]? = some (some (.ref r)) → Ev (tFld K (tFld K (tVar 0) "state") "vectors") σ H2 (.ref f.va) := fun e h => ev_fld (ev_rst (hR.mono e) (Evl.ev_var h) T.cl_Runner T.n_Runner_state) (hc.mono e).ins T.cl_State T.n_State_vectors (sF_vectors f)
  refine eq_vec (K := K) hc wf (sv (Ex.refl _) rfl) (ev_ins (Evl.ev_var rfl) hi T.cl_Instruction T.n_Instruction_one (iF_one x)) ha H (Ex.refl _) _ fun p1 H1 e1 h1 => ?_
  refine eq_vec (K := K) (hc.mono e1) wf (sv e1 rfl) (ev_ins (Evl.ev_var rfl) (hi.mono e1) T.cl_Instruction T.n_Instruction_other (iF_other x)) hb H1 (Ex.refl _) _ fun p2 H2 e2 h2 => ?_
  refine ⟨by show 2 ≤ sizeLine; decide, fun t ht => ⟨t, _, rfl, SqT.of upd_same, rfl, _, _, rfl, _, _, rfl, rfl, ?_⟩⟩
  have e3 := Ex.new (o := .tup [V.ref p1, V.ref p2]) ht
  have h1' := Evl.ex_l e3 (Evl.ex_l e2 h1)
  have h2' := Evl.ex_l e3 h2
  have ee := (e1.trans e2).trans e3
  generalize upd H2 t (.tup [V.ref p1, V.ref p2]) = H3 at e3 h1' h2' ee ⊢
  have la := v_len wf ha
  have lb := v_len wf hb
  refine Evl.s_ret (Evl.ev_is (ev_sum (K := K) (ns := ((List.range (Sd62.lanes x.width)).filter (lessP st x)).map (2 ^ ·)) (el_is (el_rangeF (n := Sd62.lanes x.width) (lessP st x) (fun y => V.int ((2 ^ y : Nat) : Int)) (Evl.ea_cons (ev_ins (Evl.ev_var rfl) (hi.mono ee) T.cl_Instruction T.n_Instruction_lanes (iF_lanes x)) Evl.ea_nil) (by omega) (fun _ => rfl) (fun y H4 e4 hy => ?_) (fun y H4 e4 hy _ => ?_)) (by unfold nv; rw [List.map_map]; rfl))) rfl) (RetV.on k ee)
  · have ga : (st.V x.a)[y]? = some ((st.V x.a).getD y 0) := by rw [getD_of (by omega)]; exact List.getElem?_eq_getElem _
    have gb : (st.V x.b)[y]? = some ((st.V x.b).getD y 0) := by rw [getD_of (by omega)]; exact List.getElem?_eq_getElem _
    exact Evl.et_is (et_I0 (ev_item (K := K) (eq_var rfl (Evl.ex_l e4 h1')) (Evl.ev_var rfl) rfl ga) (ev_item (K := K) (eq_var rfl (Evl.ex_l e4 h2')) (Evl.ev_var rfl) rfl gb)) ltIntN
  · exact ev_pow (hR.mono (ee.trans e4)) (Evl.ev_var rfl) T.cl_Runner T.n_Runner_powers (Evl.ev_var rfl) rfl (by omega)
theorem ok_write (T : Txt K mg A) : Met P w K mg base 1 A.cRunner "write" (spWrite K A) := by
  refine Met.of T.D_Runner_write sc_Runner_write (spOf_len fun ⟨_, _, _, _, _, _, _, _, _⟩ => rfl) fun f cdv A' outer s H vs Q E hr h => ?_
  have nd := sc_Runner_write.nd
  obtain ⟨⟨H0, r, i, a, l, st, x, p, ls⟩, hv, hS, hR0, hi0, g, hk, hL, hlen, hlt, k⟩ := h
  obtain rfl : vs = [V.ref r, V.ref i, V.ref l] := hv
  refine ⟨_, (pss_cons (ps_set (i := 3) nd rfl (Or.inl rfl) (pe_fldK (K := K) rfl (pv 0) rfl))
 (pss_cons (ps_if (pt_cmpR op_ne (pe_fldK (K := K) rfl (pv 1) rfl) pe_int (nomark _)) (pss_cons (ps_set (i := 4) nd rfl (Or.inr rfl) (pe_ix (ix_listK (K := K) rfl) (pe_fldK (K := K) rfl (pv 3) rfl) (pe_fldK (K := K) rfl (pv 1) rfl) (fun _ _ => rfl)))
 (pss_cons (ps_set (i := 5) nd rfl (Or.inr rfl) (pe_ix (ix_listK (K := K) rfl) (pe_fldK (K := K) rfl (pv 3) rfl) (pe_fldK (K := K) rfl (pv 1) rfl) (fun _ _ => rfl)))
 (pss_one (ps_set (i := 2) nd rfl (Or.inr rfl) (pe_lc (own := [("at", 6)]) (g := gName 6) rfl nd (pi_range1 rfl T.b_range (pa_cons (pe_fldK (K := K) rfl (pv 1) rfl) pa_nil)) (blkOk_by (own := [("at", 6)]) (N := ["self", "one", "lanes", "state", "bits", "old", "at"]) (sc := defScope s_Runner_write) (by decide +kernel)) (fun _ _ _ _ _ => by exact (pg_name (i := 6) nd rfl (Or.inl rfl))) (fun _ _ _ _ _ => by exact pts_nil) (fun _ _ _ _ _ => by exact (pe_ifExp (pt_cmpR op_eq (pe_op op_mod (pe_op op_fdivW (pv 4) (pe_ix (ix_listK (K := K) rfl) (pe_fldK (K := K) rfl (pv 0) rfl) (pv 6) (fun _ _ => rfl))) pe_int) pe_int (nomark _)) (pe_ix (ix_listK (K := K) rfl) (pv 2) (pv 6) (fun _ _ => rfl)) (pe_ix (ix_listK (K := K) rfl) (pv 5) (pv 6) (fun _ _ => rfl))))))))) pss_nil)
 (pss_one (ps_asg (pe_op (op_catK (K := K) rfl) (pv 2) (pe_op op_rep (pe_lst (pa_cons pe_int pa_nil)) (pe_op op_sub (pe_gv rfl T.g_LANES) (pe_fldK (K := K) rfl (pv 1) rfl)))) (pg_sub (pe_fldK (K := K) rfl (pv 3) rfl) (pe_fldK (K := K) rfl (pv 1) rfl) set_list))))), ?_⟩
  obtain ⟨f, rfl, hc, hap, hfr⟩ := hS.ex
  have wf := hS.wf
  have hR := hR0.mono hS.sm
  have hi := hi0.mono hS.sm
  have hd := g.dv hk
  have l8 := lanes_le g.width
  have il : ∀ {σ : L2.St} {H2 : Hp}, Ex H H2 → σ[1]? = some (some (.ref i)) → Ev (tFld K (tVar 1) "lanes") σ H2 (.int (Sd62.lanes x.width : Int)) := fun e h => ev_ins (Evl.ev_var h) (hi.mono e) T.cl_Instruction T.n_Instruction_lanes (iF_lanes x)
  have ig : ∀ {σ : L2.St} {H2 : Hp}, Ex H H2 → σ[1]? = some (some (.ref i)) → Ev (tFld K (tVar 1) "goal") σ H2 (.int (x.d : Int)) := fun e h => ev_ins (Evl.ev_var h) (hi.mono e) T.cl_Instruction T.n_Instruction_goal (iF_goal x)
  have im : ∀ {σ : L2.St} {H2 : Hp}, Ex H H2 → σ[1]? = some (some (.ref i)) → Ev (tFld K (tVar 1) "mask") σ H2 (.int (x.mask : Int)) := fun e h => ev_ins (Evl.ev_var h) (hi.mono e) T.cl_Instruction T.n_Instruction_mask (iF_mask x)
  have sv : ∀ {σ : L2.St} {H2 : Hp}, Ex H H2 → σ[3]? = some (some (.ref f.a)) → Ev (tFld K (tVar 3) "vectors") σ H2 (.ref f.va) := fun e h => ev_fld (Evl.ev_var h) (hc.mono e).ins T.cl_State T.n_State_vectors (sF_vectors f)
  have sk : ∀ {σ : L2.St} {H2 : Hp}, Ex H H2 → σ[3]? = some (some (.ref f.a)) → Ev (tFld K (tVar 3) "masks") σ H2 (.ref f.ka) := fun e h => ev_fld (Evl.ev_var h) (hc.mono e).ins T.cl_State T.n_State_masks (sF_masks f)
  have fin : ∀ (l' : Addr) (ls' : List Nat) (v4 v5 : Option V) (H2 : Hp), Ex H H2 → SqL K H2 l' (nv ls') → ls'.length = Sd62.lanes x.width → (∀ n ∈ ls', n < 2 ^ 64) → wrow st x ls = ls' ++ List.replicate (8 - Sd62.lanes x.width) 0 →
      tAsg (tOp (rCatS K) (tVar 2) (tOp rRep (tLst (tCons (tC (.int 0)) tNil)) (tOp (rI0 fun i j => .int (i - j)) (tC (.int 8)) (tFld K (tVar 1) "lanes")))) (gSub (tFld K (tVar 3) "vectors") (tFld K (tVar 1) "goal") rSetL) { nx := fun _ H' => Q .non H', rt := Q } [some (.ref r), some (.ref i), some (.ref l'), some (.ref f.a), v4, v5, none] H2 := by
    intro l' ls' v4 v5 H2 e2 hl' hlen' hlt' hrow
    refine s_setV (xs := ls' ++ List.replicate (8 - Sd62.lanes x.width) 0) (j := x.d) (hc.mono e2) hap hfr (hS.sm.trans e2) wf (el_cat (eq_var rfl hl') (eq_new (el_rep (n := 0) (k := 8 - Sd62.lanes x.width) Evl.ev_c (ev_sub Evl.ev_c (il e2 rfl)) (by omega) (by omega))) (by rw [List.length_replicate]; omega)) (sv e2 rfl) (ig e2 rfl) hd ?_ ?_ fun H' hS' => ?_
    · rw [List.length_append, List.length_replicate, hlen']; omega
    · intro n hn
      rcases List.mem_append.mp hn with h | h
      · exact hlt' n h
      · rw [List.eq_of_mem_replicate h]; decide
    · rw [← hrow] at hS'
      exact k H' hS'
  refine Evl.q_asg (ev_rst hR (Evl.ev_var rfl) T.cl_Runner T.n_Runner_state) fun H1 e1 => ?_
  refine Evl.q_when (et_neI (im e1 rfl) Evl.ev_c) (fun hm H2 e2 => ?_) (fun hm H2 e2 => ?_)
  · have hm0 : x.mask ≠ 0 := by
      intro z
      rw [z] at hm
      cases hm
    have e2' := e1.trans e2
    refine Evl.q_asg (ev_kay (hc.mono e2') wf (sk e2' rfl) (im e2' rfl) g.mask) fun H3 e3 => ?_
    have e3' := e2'.trans e3
    refine eq_vec (K := K) (hc.mono e3') wf (sv e3' rfl) (ig e3' rfl) hd H3 (Ex.refl _) _ fun po H4 e4 h4 => ?_
    have e4' := e3'.trans e4
    refine Evl.s_asgL (xs := nv ((List.range (Sd62.lanes x.width)).map fun y => if Sd62.bitOf (st.K x.mask) y = 1 then ls.getD y 0 else (st.V x.d).getD y 0)) (el_is (el_rangeM (n := Sd62.lanes x.width) (fun y => V.int ((if Sd62.bitOf (st.K x.mask) y = 1 then ls.getD y 0 else (st.V x.d).getD y 0 : Nat) : Int)) (Evl.ea_cons (il e4' rfl) Evl.ea_nil) (by omega) (fun _ => rfl) fun y H5 e5 hy => ?_) (by unfold nv; rw [List.map_map]; rfl)) fun l' H5 hl' e5 h5 => ?_
    · have hbit : ((st.K x.mask : Nat) : Int) / ((2 ^ y : Nat) : Int) % 2 = ((Sd62.bitOf (st.K x.mask) y : Nat) : Int) := by
        unfold Sd62.bitOf
        rw [Int.natCast_emod, Int.natCast_ediv]
        rfl
      refine Evl.ev_if (et_eqI (Evl.ev_is (ev_mod (ev_div (Evl.ev_var rfl) (ev_pow (hR.mono (e4'.trans e5)) (Evl.ev_var rfl) T.cl_Runner T.n_Runner_powers (Evl.ev_var rfl) rfl (by omega)) (divW (pow_pos' y) (pow_lt70 (by omega)))) Evl.ev_c (by decide)) (congrArg V.int hbit)) Evl.ev_c) (fun hb => ?_) (fun hb => ?_)
      · have hb' := of_decide_eq_true hb
        rw [if_pos (by omega)]
        exact ev_item (K := K) (eq_var rfl (Evl.ex_l (e4'.trans e5) hL)) (Evl.ev_var rfl) rfl (by rw [getD_of (by omega)]; exact List.getElem?_eq_getElem _)
      · have hb' := of_decide_eq_false hb
        have lo := v_len wf hd
        rw [if_neg (by omega)]
        exact ev_item (K := K) (eq_var rfl (Evl.ex_l e5 h4)) (Evl.ev_var rfl) rfl (by rw [getD_of (by omega)]; exact List.getElem?_eq_getElem _)
    · refine fin l' _ (some (.int (st.K x.mask : Int))) (some (.ref po)) H5 (e4'.trans e5) (SqL.of h5) (by rw [List.length_map, List.length_range]) (fun n hn => ?_) (wrow_masked g.width hm0)
      obtain ⟨y, hy, rfl⟩ := List.mem_map.mp hn
      have hy' := List.mem_range.mp hy
      have lo := v_len wf hd
      split
      · rw [getD_of (by omega)]; exact hlt _ (List.getElem_mem _)
      · rw [getD_of (by omega)]; exact v_lt wf hd _ (List.getElem_mem _)
  · have hm0 : x.mask = 0 := by
      apply Decidable.byContradiction
      intro z
      rw [decide_eq_false (by omega)] at hm
      cases hm
    exact fin l ls none none H2 (e1.trans e2) (Evl.ex_l (e1.trans e2) hL) hlen hlt (wrow_plain g.width hm0 hlen)
end
end VP

/-! ### executing: change, step, run -/
namespace VP
open PySem PySem.Spec PyProof.Rows L2
open Evl (Ex RetL RetV Ev EvL EvT EvA EvO)
theorem StAt.foot {C : Addr} {H0 H : Hp} {a : Addr} {s : Sd62.St} (h : StAt C H0 H a s) : ∃ f : Foot, f.a = a ∧ StC C H f s ∧ Apart f ∧ Free H0 f := h.ex
theorem at_wordC {C : Addr} {H : Hp} {f : Foot} {s : Sd62.St} {n j : Nat} (hc : StC C H f s) (ha : Apart f) : StC C (upd H f.wa (.lst ((nv s.m).set j (.int (n : Int))))) f { s with m := s.m.set j n } := by
  have na := hc.ne_a
  refine ⟨?_, ?_, ?_, ?_, hc.rw.upd_off fun r hr => (ha.rw r hr).1⟩
  · rw [upd_ne na.1]; exact hc.ins
  · rw [upd_same, nv_set]
  · rw [upd_ne ha.wv.symm]; exact hc.vl
  · rw [upd_ne ha.wk.symm]; exact hc.kl
theorem q_par {i j : Nat} {ta tb : TE} {tz : TS} {D : Ends} {v w : V} {σ : L2.St} {H : Hp} (ha : Ev ta σ H v) (hb : Ev tb σ H w) (k : ∀ H1, Ex H H1 → tz D ((σ.set i (some v)).set j (some w)) H1) : tSeq (tPar i j (tCons ta (tCons tb tNil))) tz D σ H :=
  ha H (Ex.refl _) _ fun H1 e1 => hb H1 e1 _ fun H2 e2 => ⟨_, _, rfl, k H2 (e1.trans e2)⟩
theorem lessN_lt {s : Sd62.St} {x : Sd62.Step} (hw : x.width ≤ 2) : lessN s x < 2 ^ 64 := by
  unfold lessN
  refine Nat.lt_of_lt_of_le (bits_lt _ _) ?_
  exact Nat.pow_le_pow_right (by decide) (Nat.le_trans (lanes_le hw) (by decide))
theorem setM_get {s : Sd62.St} (wf : Wf s) {i n : Nat} (h : i < 8) : (s.setM i n).M i = n := by
  unfold Sd62.St.setM Sd62.St.M
  have h2 : i < s.m.length := by rw [wf.m8]; exact h
  show (s.m.set i n).getD i 0 = n
  rw [List.getD_eq_getElem?_getD, List.getElem?_set_self h2]
  rfl
theorem sum_lt_int (l : List Nat) : (l.sum : Int) % 18446744073709551616 = ((l.sum % Sd62.W : Nat) : Int) := by
  unfold Sd62.W
  omega
theorem loop_int {s : Sd62.St} (wf : Wf s) {x : Sd62.Step} (hd : x.d < 8) : ((s.M x.d : Nat) : Int) - 1 = ((s.M x.d : Nat) : Int) - 1 ∧ (((s.M x.d : Nat) : Int) - 1) % 18446744073709551616 = ((loopY s x : Nat) : Int) := by
  have h := (m_mem wf hd).2
  refine ⟨rfl, ?_⟩
  unfold loopY Sd62.W
  omega
section
variable {P : Program} {w : World} {K : PySem.W.Frag} {mg : Str → Option Value} {base : Heap} {A : Ad}
theorem ok_change (T : Txt K mg A) : Met P w K mg base 2 A.cRunner "change" (spChange A) := by
  have c_Runner_bits_less := ok_bits_less (P := P) (w := w) (base := base) T
  refine Met.of T.D_Runner_change sc_Runner_change (spOf_len fun ⟨_, _, _, _, _, _, _⟩ => rfl) fun f cdv A' outer s H vs Q E hr h => ?_
  have nd := sc_Runner_change.nd
  obtain ⟨⟨H0, r, i, a, st, x, p⟩, hv, hS, hR0, hi0, g, hk, k⟩ := h
  obtain rfl : vs = [V.ref r, V.ref i] := hv
  refine ⟨_, (pss_cons (ps_par (i := 2) (j := 3) (by rfl) nd rfl rfl (by decide) rfl rfl (pa_cons (pe_fldK (K := K) rfl (pe_fldK (K := K) rfl (pv 0) rfl) rfl) (pa_cons (pe_fldK (K := K) rfl (pe_fldK (K := K) rfl (pv 0) rfl) rfl) pa_nil)) (by rfl))
 (pss_one (ps_if (pt_cmpR op_eq (pe_fldK (K := K) rfl (pv 1) rfl) (pe_gv rfl T.g_LANE_SUM) (nomark _)) (pss_one (ps_asg (pe_op op_mod (pe_callB (cr_sumK (K := K) rfl rfl) (by rfl) T.b_sum (by decide +kernel) (pa_cons (pe_slice (sl_listK (K := K) rfl) (pe_ix (ix_listK (K := K) rfl) (pe_fldK (K := K) rfl (pe_fldK (K := K) rfl (pv 0) rfl) rfl) (pe_fldK (K := K) rfl (pv 1) rfl) (fun _ _ => rfl)) po_none (po_some (pe_fldK (K := K) rfl (pv 1) rfl))) pa_nil)) (pe_gv rfl T.g_FULL)) (pg_sub (pv 2) (pe_fldK (K := K) rfl (pv 1) rfl) set_list))) (pss_one (ps_if (pt_cmpR op_eq (pe_fldK (K := K) rfl (pv 1) rfl) (pe_gv rfl T.g_M_SUM) (nomark _)) (pss_one (ps_asg (pe_op op_mod (pe_op op_add (pe_ix (ix_listK (K := K) rfl) (pv 2) (pe_fldK (K := K) rfl (pv 1) rfl) (fun _ _ => rfl)) (pe_ix (ix_listK (K := K) rfl) (pv 2) (pe_fldK (K := K) rfl (pv 1) rfl) (fun _ _ => rfl))) (pe_gv rfl T.g_FULL)) (pg_sub (pv 2) (pe_fldK (K := K) rfl (pv 1) rfl) set_list))) (pss_one (ps_if (pt_cmpR op_eq (pe_fldK (K := K) rfl (pv 1) rfl) (pe_gv rfl T.g_M_APART) (nomark _)) (pss_one (ps_asg (pe_op op_xor (pe_ix (ix_listK (K := K) rfl) (pv 2) (pe_fldK (K := K) rfl (pv 1) rfl) (fun _ _ => rfl)) (pe_ix (ix_listK (K := K) rfl) (pv 2) (pe_fldK (K := K) rfl (pv 1) rfl) (fun _ _ => rfl))) (pg_sub (pv 2) (pe_fldK (K := K) rfl (pv 1) rfl) set_list))) (pss_one (ps_if (pt_cmpR op_eq (pe_fldK (K := K) rfl (pv 1) rfl) (pe_gv rfl T.g_LESS) (nomark _)) (pss_one (ps_asg (pe_m T.cl_Runner c_Runner_bits_less hr (by decide) (pv 0) (pa_cons (pv 1) pa_nil)) (pg_sub (pv 3) (pe_fldK (K := K) rfl (pv 1) rfl) set_list))) (pss_one (ps_if (pt_cmpR op_eq (pe_fldK (K := K) rfl (pv 1) rfl) (pe_gv rfl T.g_K_BOTH) (nomark _)) (pss_one (ps_asg (pe_op op_and (pe_ix (ix_listK (K := K) rfl) (pv 3) (pe_fldK (K := K) rfl (pv 1) rfl) (fun _ _ => rfl)) (pe_ix (ix_listK (K := K) rfl) (pv 3) (pe_fldK (K := K) rfl (pv 1) rfl) (fun _ _ => rfl))) (pg_sub (pv 3) (pe_fldK (K := K) rfl (pv 1) rfl) set_list))) (pss_one (ps_if (pt_cmpR op_eq (pe_fldK (K := K) rfl (pv 1) rfl) (pe_gv rfl T.g_K_APART) (nomark _)) (pss_one (ps_asg (pe_op op_xor (pe_ix (ix_listK (K := K) rfl) (pv 3) (pe_fldK (K := K) rfl (pv 1) rfl) (fun _ _ => rfl)) (pe_ix (ix_listK (K := K) rfl) (pv 3) (pe_fldK (K := K) rfl (pv 1) rfl) (fun _ _ => rfl))) (pg_sub (pv 3) (pe_fldK (K := K) rfl (pv 1) rfl) set_list))) (pss_one (ps_if (pt_cmpR op_eq (pe_fldK (K := K) rfl (pv 1) rfl) (pe_gv rfl T.g_K_NOT) (nomark _)) (pss_one (ps_asg (pe_op op_sub (pe_op op_sub (pe_ix (ix_listK (K := K) rfl) (pe_fldK (K := K) rfl (pv 0) rfl) (pe_fldK (K := K) rfl (pv 1) rfl) (fun _ _ => rfl)) pe_int) (pe_op op_mod (pe_ix (ix_listK (K := K) rfl) (pv 3) (pe_fldK (K := K) rfl (pv 1) rfl) (fun _ _ => rfl)) (pe_ix (ix_listK (K := K) rfl) (pe_fldK (K := K) rfl (pv 0) rfl) (pe_fldK (K := K) rfl (pv 1) rfl) (fun _ _ => rfl)))) (pg_sub (pv 3) (pe_fldK (K := K) rfl (pv 1) rfl) set_list))) (pss_one (ps_if (pt_cmpR op_eq (pe_fldK (K := K) rfl (pv 1) rfl) (pe_gv rfl T.g_M_FROM_K) (nomark _)) (pss_one (ps_asg (pe_ix (ix_listK (K := K) rfl) (pv 3) (pe_fldK (K := K) rfl (pv 1) rfl) (fun _ _ => rfl)) (pg_sub (pv 2) (pe_fldK (K := K) rfl (pv 1) rfl) set_list))) (pss_one (ps_if (pt_cmpR op_eq (pe_fldK (K := K) rfl (pv 1) rfl) (pe_gv rfl T.g_K_FROM_M) (nomark _)) (pss_one (ps_asg (pe_ix (ix_listK (K := K) rfl) (pv 2) (pe_fldK (K := K) rfl (pv 1) rfl) (fun _ _ => rfl)) (pg_sub (pv 3) (pe_fldK (K := K) rfl (pv 1) rfl) set_list))) pss_nil))))))))))))))))))), ?_⟩
  obtain ⟨f, rfl, hc, hap, hfr⟩ := hS.foot
  have wf := hS.wf
  have hR := hR0.mono hS.sm
  have hi := hi0.mono hS.sm
  have hk2 := g.kind
  have hd := g.dw hk
  have l8 := lanes_le g.width
  have ik : ∀ {σ : L2.St} {H2 : Hp}, Ex H H2 → σ[1]? = some (some (.ref i)) → Ev (tFld K (tVar 1) "kind") σ H2 (.int (x.kind : Int)) := fun e h => ev_ins (Evl.ev_var h) (hi.mono e) T.cl_Instruction T.n_Instruction_kind (iF_kind x)
  have il : ∀ {σ : L2.St} {H2 : Hp}, Ex H H2 → σ[1]? = some (some (.ref i)) → Ev (tFld K (tVar 1) "lanes") σ H2 (.int (Sd62.lanes x.width : Int)) := fun e h => ev_ins (Evl.ev_var h) (hi.mono e) T.cl_Instruction T.n_Instruction_lanes (iF_lanes x)
  have io : ∀ {σ : L2.St} {H2 : Hp}, Ex H H2 → σ[1]? = some (some (.ref i)) → Ev (tFld K (tVar 1) "one") σ H2 (.int (x.a : Int)) := fun e h => ev_ins (Evl.ev_var h) (hi.mono e) T.cl_Instruction T.n_Instruction_one (iF_one x)
  have ib : ∀ {σ : L2.St} {H2 : Hp}, Ex H H2 → σ[1]? = some (some (.ref i)) → Ev (tFld K (tVar 1) "other") σ H2 (.int (x.b : Int)) := fun e h => ev_ins (Evl.ev_var h) (hi.mono e) T.cl_Instruction T.n_Instruction_other (iF_other x)
  have ig : ∀ {σ : L2.St} {H2 : Hp}, Ex H H2 → σ[1]? = some (some (.ref i)) → Ev (tFld K (tVar 1) "goal") σ H2 (.int (x.d : Int)) := fun e h => ev_ins (Evl.ev_var h) (hi.mono e) T.cl_Instruction T.n_Instruction_goal (iF_goal x)
  have rs : ∀ {σ : L2.St} {H2 : Hp}, Ex H H2 → σ[0]? = some (some (.ref r)) → Ev (tFld K (tVar 0) "state") σ H2 (.ref f.a) := fun e h => ev_rst (hR.mono e) (Evl.ev_var h) T.cl_Runner T.n_Runner_state
  have sv : ∀ {σ : L2.St} {H2 : Hp}, Ex H H2 → σ[0]? = some (some (.ref r)) → Ev (tFld K (tFld K (tVar 0) "state") "vectors") σ H2 (.ref f.va) := fun e h => ev_fld (rs e h) (hc.mono e).ins T.cl_State T.n_State_vectors (sF_vectors f)
  refine q_par (ev_fld (rs (Ex.refl _) rfl) hc.ins T.cl_State T.n_State_words (sF_words f)) (ev_fld (rs (Ex.refl _) rfl) hc.ins T.cl_State T.n_State_masks (sF_masks f)) fun H2 e2' => ?_
  have setw : ∀ {n : Nat} {z : Int} {te : TE} {H3 : Hp}, Ex H H3 → Ev te [some (.ref r), some (.ref i), some (.ref f.wa), some (.ref f.ka)] H3 (.int z) → z = (n : Int) → n < 2 ^ 64 → chg st x = st.setM x.d n →
      tAsg te (gSub (tVar 2) (tFld K (tVar 1) "goal") rSetL) { nx := fun _ H' => Q .non H', rt := Q } [some (.ref r), some (.ref i), some (.ref f.wa), some (.ref f.ka)] H3 := fun e he hz hn hg =>
    s_setW (hc.mono e) hap hfr (hS.sm.trans e) wf he hz (Evl.ev_var rfl) (ig e rfl) hd hn fun H' hS' => k H' (by rw [hg]; exact hS')
  have setk : ∀ {n : Nat} {z : Int} {te : TE} {H3 : Hp}, Ex H H3 → Ev te [some (.ref r), some (.ref i), some (.ref f.wa), some (.ref f.ka)] H3 (.int z) → z = (n : Int) → n < 2 ^ 64 → chg st x = st.setK x.d n →
      tAsg te (gSub (tVar 3) (tFld K (tVar 1) "goal") rSetL) { nx := fun _ H' => Q .non H', rt := Q } [some (.ref r), some (.ref i), some (.ref f.wa), some (.ref f.ka)] H3 := fun e he hz hn hg =>
    s_setKy (hc.mono e) hap hfr (hS.sm.trans e) wf he hz (Evl.ev_var rfl) (ig e rfl) hd hn fun H' hS' => k H' (by rw [hg]; exact hS')
  have W0 : 0 < Sd62.W := by decide
  refine Evl.s_if (et_eqI (ik e2' rfl) Evl.ev_c) (fun hb H3 e3 => ?_) (fun hb1 H3 e3 => ?_)
  · have c := of_decide_eq_true hb
    have ha := g.av (.inr (.inl (by omega)))
    refine setw (e2'.trans e3) (ev_mod (ev_sum (K := K) (ns := (st.V x.a).take (Sd62.lanes x.width)) (el_to (eq_vec (hc.mono (e2'.trans e3)) wf (sv (e2'.trans e3) rfl) (io (e2'.trans e3) rfl) ha) (il (e2'.trans e3) rfl) rfl)) Evl.ev_c (by decide)) (sum_lt_int _) (Nat.mod_lt _ W0) ?_
    unfold chg
    rw [if_pos (by omega)]
  have c1 := of_decide_eq_false hb1
  have e3' := e2'.trans e3
  refine Evl.s_if (et_eqI (ik e3' rfl) Evl.ev_c) (fun hb H4 e4 => ?_) (fun hb2 H4 e4 => ?_)
  · have c := of_decide_eq_true hb
    have ha := g.aw (.inr (.inr (.inl (by omega))))
    have hbb := g.bw (.inl (by omega))
    refine setw (n := (st.M x.a + st.M x.b) % Sd62.W) (e3'.trans e4) (ev_mod (ev_add (ev_word (hc.mono (e3'.trans e4)) wf (Evl.ev_var rfl) (io (e3'.trans e4) rfl) ha) (ev_word (hc.mono (e3'.trans e4)) wf (Evl.ev_var rfl) (ib (e3'.trans e4) rfl) hbb)) Evl.ev_c (by decide)) ?_ (Nat.mod_lt _ W0) ?_
    · unfold Sd62.W; omega
    · unfold chg
      rw [if_neg (by omega), if_pos (by omega)]
  have c2 := of_decide_eq_false hb2
  have e4' := e3'.trans e4
  refine Evl.s_if (et_eqI (ik e4' rfl) Evl.ev_c) (fun hb H5 e5 => ?_) (fun hb3 H5 e5 => ?_)
  · have c := of_decide_eq_true hb
    have ha := g.aw (.inr (.inr (.inr (.inl (by omega)))))
    have hbb := g.bw (.inr (.inl (by omega)))
    refine setw (n := st.M x.a ^^^ st.M x.b) (e4'.trans e5) (Evl.ev_op (ev_word (hc.mono (e4'.trans e5)) wf (Evl.ev_var rfl) (io (e4'.trans e5) rfl) ha) (ev_word (hc.mono (e4'.trans e5)) wf (Evl.ev_var rfl) (ib (e4'.trans e5) rfl) hbb) Evl.rv_I0) ?_ (Nat.xor_lt_two_pow (m_mem wf ha).2 (m_mem wf hbb).2) ?_
    · rw [Bits.bitXor_pp (Int.natCast_nonneg _) (Int.natCast_nonneg _), Int.toNat_natCast, Int.toNat_natCast]
    · unfold chg
      rw [if_neg (by omega), if_neg (by omega), if_pos (by omega)]
  have c3 := of_decide_eq_false hb3
  have e5' := e4'.trans e5
  refine Evl.s_if (et_eqI (ik e5' rfl) Evl.ev_c) (fun hb H6 e6 => ?_) (fun hb4 H6 e6 => ?_)
  · have c := of_decide_eq_true hb
    refine setk (n := lessN st x) (e5'.trans e6) (te := tMethS A.cRunner "bits_less" (spBitsLess A) (tVar 0) (tCons (tVar 1) tNil)) (fun H7 e7 R q => ?_) rfl (lessN_lt g.width) ?_
    · obtain ⟨dx, pw, hr1, hr2⟩ := (hR.mono ((e5'.trans e6).trans e7)).ex
      exact ⟨_, rfl, r, dx, _, rfl, hr1, rF_bits_less _ _, _, rfl, ⟨r, i, f, st, x, p⟩, rfl, hR.mono ((e5'.trans e6).trans e7), hc.mono ((e5'.trans e6).trans e7), wf, hi.mono ((e5'.trans e6).trans e7), g, by omega, fun H8 e8 => q H8 e8⟩
    · unfold chg
      rw [if_neg (by omega), if_neg (by omega), if_neg (by omega), if_pos (by omega)]
  have c4 := of_decide_eq_false hb4
  have e6' := e5'.trans e6
  refine Evl.s_if (et_eqI (ik e6' rfl) Evl.ev_c) (fun hb H7 e7 => ?_) (fun hb5 H7 e7 => ?_)
  · have c := of_decide_eq_true hb
    have ha := g.aw (.inr (.inr (.inr (.inr ⟨by omega, by omega⟩))))
    have hbb := g.bw (.inr (.inr (.inl (by omega))))
    refine setk (n := st.K x.a &&& st.K x.b) (e6'.trans e7) (Evl.ev_op (ev_kay (hc.mono (e6'.trans e7)) wf (Evl.ev_var rfl) (io (e6'.trans e7) rfl) ha) (ev_kay (hc.mono (e6'.trans e7)) wf (Evl.ev_var rfl) (ib (e6'.trans e7) rfl) hbb) Evl.rv_I0) (PySem.W.os_band _ _) (Nat.and_lt_two_pow _ (k_mem wf hbb).2) ?_
    unfold chg
    rw [if_neg (by omega), if_neg (by omega), if_neg (by omega), if_neg (by omega), if_pos (by omega)]
  have c5 := of_decide_eq_false hb5
  have e7' := e6'.trans e7
  refine Evl.s_if (et_eqI (ik e7' rfl) Evl.ev_c) (fun hb H8 e8 => ?_) (fun hb6 H8 e8 => ?_)
  · have c := of_decide_eq_true hb
    have ha := g.aw (.inr (.inr (.inr (.inr ⟨by omega, by omega⟩))))
    have hbb := g.bw (.inr (.inr (.inr (by omega))))
    refine setk (n := st.K x.a ^^^ st.K x.b) (e7'.trans e8) (Evl.ev_op (ev_kay (hc.mono (e7'.trans e8)) wf (Evl.ev_var rfl) (io (e7'.trans e8) rfl) ha) (ev_kay (hc.mono (e7'.trans e8)) wf (Evl.ev_var rfl) (ib (e7'.trans e8) rfl) hbb) Evl.rv_I0) ?_ (Nat.xor_lt_two_pow (k_mem wf ha).2 (k_mem wf hbb).2) ?_
    · rw [Bits.bitXor_pp (Int.natCast_nonneg _) (Int.natCast_nonneg _), Int.toNat_natCast, Int.toNat_natCast]
    · unfold chg
      rw [if_neg (by omega), if_neg (by omega), if_neg (by omega), if_neg (by omega), if_neg (by omega), if_pos (by omega)]
  have c6 := of_decide_eq_false hb6
  have e8' := e7'.trans e8
  refine Evl.s_if (et_eqI (ik e8' rfl) Evl.ev_c) (fun hb H9 e9 => ?_) (fun hb7 H9 e9 => ?_)
  · have c := of_decide_eq_true hb
    have ha := g.aw (.inr (.inr (.inr (.inr ⟨by omega, by omega⟩))))
    have e9' := e8'.trans e9
    have pw := ev_pow (K := K) (te := tVar 0) (ti := tFld K (tVar 1) "lanes") (σ := [some (.ref r), some (.ref i), some (.ref f.wa), some (.ref f.ka)]) (hR.mono e9') (Evl.ev_var rfl) T.cl_Runner T.n_Runner_powers (il e9' rfl) rfl (by omega)
    have hm : st.K x.a % 2 ^ Sd62.lanes x.width < 2 ^ Sd62.lanes x.width := Nat.mod_lt _ (Nat.pow_pos (by decide))
    have hle : 2 ^ Sd62.lanes x.width ≤ 2 ^ 8 := Nat.pow_le_pow_right (by decide) l8
    refine setk (n := 2 ^ Sd62.lanes x.width - 1 - st.K x.a % 2 ^ Sd62.lanes x.width) e9' (ev_sub (ev_sub pw Evl.ev_c) (ev_mod (ev_kay (hc.mono e9') wf (Evl.ev_var rfl) (io e9' rfl) ha) pw (pow_pos' _))) ?_ ?_ ?_
    · rw [← Int.natCast_emod]
      generalize 2 ^ Sd62.lanes x.width = m at hm ⊢
      omega
    · omega
    · unfold chg
      rw [if_neg (by omega), if_neg (by omega), if_neg (by omega), if_neg (by omega), if_neg (by omega), if_neg (by omega), if_pos (by omega)]
  have c7 := of_decide_eq_false hb7
  have e9' := e8'.trans e9
  refine Evl.s_if (et_eqI (ik e9' rfl) Evl.ev_c) (fun hb H10 e10 => ?_) (fun hb8 H10 e10 => ?_)
  · have c := of_decide_eq_true hb
    have ha := g.aw (.inr (.inr (.inr (.inr ⟨by omega, by omega⟩))))
    refine setw (n := st.K x.a) (e9'.trans e10) (ev_kay (hc.mono (e9'.trans e10)) wf (Evl.ev_var rfl) (io (e9'.trans e10) rfl) ha) rfl (k_mem wf ha).2 ?_
    unfold chg
    rw [if_neg (by omega), if_neg (by omega), if_neg (by omega), if_neg (by omega), if_neg (by omega), if_neg (by omega), if_neg (by omega), if_pos (by omega)]
  have c8 := of_decide_eq_false hb8
  have e10' := e9'.trans e10
  refine Evl.s_when (et_eqI (ik e10' rfl) Evl.ev_c) (fun hb H11 e11 => ?_) (fun hb9 H11 e11 => ?_)
  · have c := of_decide_eq_true hb
    have ha := g.aw (.inr (.inr (.inr (.inr ⟨by omega, by omega⟩))))
    refine setk (n := st.M x.a) (e10'.trans e11) (ev_word (hc.mono (e10'.trans e11)) wf (Evl.ev_var rfl) (io (e10'.trans e11) rfl) ha) rfl (m_mem wf ha).2 ?_
    unfold chg
    rw [if_neg (by omega), if_neg (by omega), if_neg (by omega), if_neg (by omega), if_neg (by omega), if_neg (by omega), if_neg (by omega), if_neg (by omega), if_pos (by omega)]
  · have c9 := of_decide_eq_false hb9
    have hg : chg st x = st := by
      unfold chg
      rw [if_neg (by omega), if_neg (by omega), if_neg (by omega), if_neg (by omega), if_neg (by omega), if_neg (by omega), if_neg (by omega), if_neg (by omega), if_neg (by omega)]
    rw [hg] at k
    exact k H11 (hS.mono (e10'.trans e11))
theorem ok_next_place (T : Txt K mg A) : Met P w K mg base 1 A.cRunner "next_place" (spNext A) := by
  refine Met.of T.D_Runner_next_place sc_Runner_next_place (spOf_len fun ⟨_, _, _, _, _, _, _⟩ => rfl) fun f cdv A' outer s H vs Q E hr h => ?_
  have nd := sc_Runner_next_place.nd
  obtain ⟨⟨H0, r, i, a, st, x, p⟩, hv, hS, hR0, hi0, g, k⟩ := h
  obtain rfl : vs = [V.ref r, V.ref i, V.int (p : Int)] := hv
  refine ⟨_, (pss_cons (ps_if (pt_cmpR op_ne (pe_fldK (K := K) rfl (pv 1) rfl) (pe_gv rfl T.g_LOOP) (nomark _)) (pss_one (ps_ret (pe_op op_add (pv 2) pe_int))) pss_nil)
 (pss_cons (ps_set (i := 3) nd rfl (Or.inl rfl) (pe_fldK (K := K) rfl (pe_fldK (K := K) rfl (pv 0) rfl) rfl))
 (pss_cons (ps_asg (pe_op op_mod (pe_op op_sub (pe_ix (ix_listK (K := K) rfl) (pv 3) (pe_fldK (K := K) rfl (pv 1) rfl) (fun _ _ => rfl)) pe_int) (pe_gv rfl T.g_FULL)) (pg_sub (pv 3) (pe_fldK (K := K) rfl (pv 1) rfl) set_list))
 (pss_one (ps_ret (pe_ifExp (pt_cmpR op_ne (pe_ix (ix_listK (K := K) rfl) (pv 3) (pe_fldK (K := K) rfl (pv 1) rfl) (fun _ _ => rfl)) pe_int (nomark _)) (pe_op op_sub (pv 2) (pe_fldK (K := K) rfl (pv 1) rfl)) (pe_op op_add (pv 2) pe_int))))))), ?_⟩
  obtain ⟨f, rfl, hc, hap, hfr⟩ := hS.foot
  have wf := hS.wf
  have hR := hR0.mono hS.sm
  have hi := hi0.mono hS.sm
  unfold nxtS nxtP at k
  refine Evl.q_when (et_neI (ev_ins (Evl.ev_var rfl) hi T.cl_Instruction T.n_Instruction_kind (iF_kind x)) Evl.ev_c) (fun hb H1 e1 => ?_) (fun hb H1 e1 => ?_)
  · have c : x.kind ≠ 23 := fun z => by rw [z] at hb; cases hb
    rw [if_neg c, if_neg c] at k
    exact Evl.s_ret (v := .int ((p + 1 : Nat) : Int)) (Evl.ev_is (ev_add (Evl.ev_var rfl) Evl.ev_c) rfl) fun H2 e2 => k H2 (hS.mono (e1.trans e2))
  · have c : x.kind = 23 := by
      apply Decidable.byContradiction
      intro z
      rw [decide_eq_false (by omega)] at hb
      cases hb
    rw [if_pos c, if_pos c] at k
    have hd := g.dw (by omega)
    have hlo := g.lo c
    refine Evl.q_asg (ev_fld (ev_rst (hR.mono e1) (Evl.ev_var rfl) T.cl_Runner T.n_Runner_state) (hc.mono e1).ins T.cl_State T.n_State_words (sF_words f)) fun H2 e2 => ?_
    have e2' := e1.trans e2
    have ig : ∀ {σ : L2.St} {H3 : Hp}, Ex H0 H3 → σ[1]? = some (some (.ref i)) → Ev (tFld K (tVar 1) "goal") σ H3 (.int (x.d : Int)) := fun e h => ev_ins (Evl.ev_var h) (hi0.mono e) T.cl_Instruction T.n_Instruction_goal (iF_goal x)
    have hcx := hc.mono e2'
    refine (ev_mod (ev_sub (ev_word (K := K) (σ := [some (.ref r), some (.ref i), some (.int (p : Int)), some (.ref f.wa)]) hcx wf (Evl.ev_var rfl) (ig (hS.sm.trans e2') rfl) hd) Evl.ev_c) Evl.ev_c (by decide)) H2 (Ex.refl _) _ fun H3 e3 => ⟨_, rfl, ?_⟩
    refine ig ((hS.sm.trans e2').trans e3) rfl H3 (Ex.refl _) _ fun H4 e4 => ?_
    have hc4 := (hcx.mono e3).mono e4
    have e04 := ((hS.sm.trans e2').trans e3).trans e4
    have hly : loopY st x < 2 ^ 64 := Nat.mod_lt _ (by decide)
    refine ⟨f.wa, nv st.m, (x.d : Int), x.d, rfl, rfl, hc4.wl, Evl.ixN_nat (by rw [nv_length, wf.m8]; exact hd), ?_⟩
    rw [(loop_int wf hd).2]
    have hS5 := at_word (j := x.d) hc4 hap hfr e04 wf hly
    have hc5 := at_wordC (j := x.d) (n := loopY st x) hc4 hap
    generalize upd H4 f.wa (.lst ((nv st.m).set x.d (.int ((loopY st x : Nat) : Int)))) = H5 at hS5 hc5 ⊢
    have hget : (st.setM x.d (loopY st x)).M x.d = loopY st x := setM_get wf hd
    have ew := ev_word (K := K) (σ := [some (.ref r), some (.ref i), some (.int (p : Int)), some (.ref f.wa)]) (ti := tFld K (tVar 1) "goal") (tv := tVar 3) hc5 hS5.wf (Evl.ev_var rfl) (ig hS5.sm rfl) hd
    have e5 : ({ st with m := st.m.set x.d (loopY st x) } : Sd62.St).M x.d = loopY st x := hget
    rw [e5] at ew
    refine Evl.s_ret (v := .int ((if loopY st x = 0 then p + 1 else p - x.a : Nat) : Int)) (Evl.ev_if (et_neI ew Evl.ev_c) (fun hb2 => ?_) (fun hb2 => ?_)) fun H6 e6 => k H6 (hS5.mono e6)
    · have hz : ¬ loopY st x = 0 := fun z => by rw [z] at hb2; cases hb2
      rw [if_neg hz]
      exact Evl.ev_is (ev_sub (Evl.ev_var rfl) (ev_ins (Evl.ev_var rfl) (hi0.mono hS5.sm) T.cl_Instruction T.n_Instruction_one (iF_one x))) (by rw [Int.ofNat_sub hlo.2])
    · have hz : loopY st x = 0 := by
        apply Decidable.byContradiction
        intro z
        rw [decide_eq_false (by omega)] at hb2
        cases hb2
      rw [if_pos hz]
      exact Evl.ev_is (ev_add (Evl.ev_var rfl) Evl.ev_c) rfl
end
end VP
namespace VP
open PySem PySem.Spec PyProof.Rows L2
open Evl (Ex RetL RetV Ev EvL EvT EvA EvO)
def spStep (A : Ad) : Sp := spOf (fun (⟨_, r, i, _, _, _, p⟩ : Hp × Addr × Addr × Addr × Sd62.St × Sd62.Step × Nat) => [.ref r, .ref i, .int (p : Int)]) fun ⟨H0, r, i, a, s, x, p⟩ H Q _ =>
  StAt A.cState H0 H a s ∧ RunAt A.cRunner H0 r a ∧ InsAt A.cInstruction H0 i x ∧ GoodF p x ∧ ∀ H', StAt A.cState H0 H' a (Sd62.step s p x).1 → Q (.int ((Sd62.step s p x).2 : Int)) H'
structure CodeAt (A : Ad) (K : PySem.W.Frag) (H : Hp) (c : Addr) (xs : List Sd62.Step) : Prop where
  ex : ∃ is : List Addr, SqL K H c (is.map V.ref) ∧ is.length = xs.length ∧ ∀ (j : Nat) (i : Addr) (x : Sd62.Step), is[j]? = some i → xs[j]? = some x → InsAt A.cInstruction H i x
def spRun (K : PySem.W.Frag) (A : Ad) : Sp := spOf (fun (⟨_, r, c, _, _, _, p, n⟩ : Hp × Addr × Addr × Addr × Sd62.St × List Sd62.Step × Nat × Nat) => [.ref r, .ref c, .int (p : Int), .int (n : Int)]) fun ⟨H0, r, c, a, s, xs, p, n⟩ H Q _ =>
  StAt A.cState H0 H a s ∧ RunAt A.cRunner H0 r a ∧ CodeAt A K H0 c xs ∧ (∀ (j : Nat) (x : Sd62.Step), xs[j]? = some x → GoodF j x) ∧ p ≤ xs.length ∧ n ≤ 1000000 ∧
    ∀ H', StAt A.cState H0 H' a (Sd62.run xs n s p).1 → Q (.int ((Sd62.run xs n s p).2 : Int)) H'
theorem run_end {xs : List Sd62.Step} {p : Nat} {s : Sd62.St} (h : xs[p]? = none) : ∀ n, Sd62.run xs n s p = (s, p)
  | 0 => rfl
  | n + 1 => by
    show (match xs[p]? with | none => (s, p) | some x => _) = _
    rw [h]
theorem run_some {xs : List Sd62.Step} {p : Nat} {s : Sd62.St} {x : Sd62.Step} (h : xs[p]? = some x) (n : Nat) : Sd62.run xs (n + 1) s p = Sd62.run xs n (Sd62.step s p x).1 (Sd62.step s p x).2 := by
  show (match xs[p]? with | none => (s, p) | some x => _) = _
  rw [h]
theorem step_place {s : Sd62.St} (wf : Wf s) {p : Nat} {x : Sd62.Step} (g : GoodF p x) : (Sd62.step s p x).2 ≤ p + 1 := by
  by_cases c : x.kind < 14
  · rw [step_made wf g c]; exact Nat.le_refl _
  · rw [step_chg wf g (by omega)]
    show nxtP _ _ _ ≤ _
    unfold nxtP
    split
    · split
      · exact Nat.le_refl _
      · omega
    · exact Nat.le_refl _
section
variable {P : Program} {w : World} {K : PySem.W.Frag} {mg : Str → Option Value} {base : Heap} {A : Ad}
theorem ok_step (T : Txt K mg A) : Met P w K mg base 3 A.cRunner "step" (spStep A) := by
  have c_Runner_lanes_made := ok_lanes_made (P := P) (w := w) (base := base) T
  have c_Runner_change := ok_change (P := P) (w := w) (base := base) T
  have c_Runner_write := ok_write (P := P) (w := w) (base := base) T
  have c_Runner_next_place := ok_next_place (P := P) (w := w) (base := base) T
  refine Met.of T.D_Runner_step sc_Runner_step (spOf_len fun ⟨_, _, _, _, _, _, _⟩ => rfl) fun f cdv A' outer s H vs Q E hr h => ?_
  have nd := sc_Runner_step.nd
  obtain ⟨⟨H0, r, i, a, st, x, p⟩, hv, hS, hR0, hi0, g, k⟩ := h
  obtain rfl : vs = [V.ref r, V.ref i, V.int (p : Int)] := hv
  refine ⟨_, (pss_cons (ps_set (i := 3) nd rfl (Or.inl rfl) (pe_m T.cl_Runner c_Runner_lanes_made hr (by decide) (pv 0) (pa_cons (pv 1) pa_nil)))
 (pss_cons (ps_if (pt_cmpR op_isN (pv 3) pe_non (nomark _)) (pss_one (ps_expr (pe_m T.cl_Runner c_Runner_change hr (by decide) (pv 0) (pa_cons (pv 1) pa_nil)))) (pss_one (ps_expr (pe_m T.cl_Runner c_Runner_write hr (by decide) (pv 0) (pa_cons (pv 1) (pa_cons (pv 3) pa_nil))))))
 (pss_one (ps_ret (pe_m T.cl_Runner c_Runner_next_place hr (by decide) (pv 0) (pa_cons (pv 1) (pa_cons (pv 2) pa_nil))))))), ?_⟩
  obtain ⟨f, rfl, hc, hap, hfr⟩ := hS.foot
  have wf := hS.wf
  have hR := hR0.mono hS.sm
  have hi := hi0.mono hS.sm
  have rr : ∀ {H1 : Hp}, Ex H0 H1 → ∃ dx pw, H1 r = some (.ins A.cRunner dx (rF f.a pw)) := fun e => let ⟨dx, pw, h1, _⟩ := (hR0.mono e).ex; ⟨dx, pw, h1⟩
  obtain ⟨dx, pw, hr1⟩ := rr hS.sm
  by_cases hk : x.kind < 14
  · rw [step_made wf g hk] at k
    have hm := made_ok wf g hk
    refine ⟨_, rfl, r, dx, _, rfl, hr1, rF_lanes_made _ _, _, rfl, ⟨r, i, f, st, x, p⟩, rfl, hR, hc, wf, hi, g, fun _ l H1 hl e1 h1 => ?_, fun z => absurd hk (by omega)⟩
    have hS1 := hS.mono e1
    obtain ⟨dx1, pw1, hr1'⟩ := rr hS1.sm
    refine ⟨_, rfl, rfl, _, rfl, ?_⟩
    rw [decide_eq_false (p := V.ref l = V.non) (by intro z; cases z)]
    refine iteF ?_
    refine ⟨_, rfl, r, dx1, _, rfl, hr1', rF_write _ _, _, rfl, _, rfl, ⟨H0, r, i, f.a, l, st, x, p, made st x⟩, rfl, hS1, hR0, hi0, g, hk, SqL.of h1, hm.1, hm.2, fun H2 hS2 => ?_⟩
    obtain ⟨dx2, pw2, hr2⟩ := rr hS2.sm
    refine ⟨_, rfl, r, dx2, _, rfl, hr2, rF_next_place _ _, _, rfl, _, rfl, ⟨H0, r, i, f.a, _, x, p⟩, rfl, hS2, hR0, hi0, g, fun H3 hS3 => ?_⟩
    have n1 : nxtS (st.write x (made st x)) x = st.write x (made st x) := if_neg (by omega)
    have n2 : nxtP (st.write x (made st x)) p x = p + 1 := if_neg (by omega)
    rw [n1] at hS3
    rw [n2]
    exact k H3 hS3
  · rw [step_chg wf g (by omega)] at k
    refine ⟨_, rfl, r, dx, _, rfl, hr1, rF_lanes_made _ _, _, rfl, ⟨r, i, f, st, x, p⟩, rfl, hR, hc, wf, hi, g, fun z => absurd z hk, fun _ H1 e1 => ?_⟩
    have hS1 := hS.mono e1
    obtain ⟨dx1, pw1, hr1'⟩ := rr hS1.sm
    refine ⟨_, rfl, rfl, _, rfl, ?_⟩
    rw [decide_eq_true (p := V.non = V.non) rfl]
    refine iteT ?_
    refine ⟨_, rfl, r, dx1, _, rfl, hr1', rF_change _ _, _, rfl, ⟨H0, r, i, f.a, st, x, p⟩, rfl, hS1, hR0, hi0, g, by omega, fun H2 hS2 => ?_⟩
    obtain ⟨dx2, pw2, hr2⟩ := rr hS2.sm
    exact ⟨_, rfl, r, dx2, _, rfl, hr2, rF_next_place _ _, _, rfl, _, rfl, ⟨H0, r, i, f.a, _, x, p⟩, rfl, hS2, hR0, hi0, g, fun H3 hS3 => k H3 hS3⟩
theorem ok_Runner_run (T : Txt K mg A) : Met P w K mg base 4 A.cRunner "run" (spRun K A) := by
  have c_Runner_step := ok_step (P := P) (w := w) (base := base) T
  refine Met.of T.D_Runner_run sc_Runner_run (spOf_len fun ⟨_, _, _, _, _, _, _, _⟩ => rfl) fun f cdv A' outer s H vs Q E hr h => ?_
  have nd := sc_Runner_run.nd
  obtain ⟨⟨H0, r, c, a, st, xs, p, n⟩, hv, hS, hR0, hC0, hg, hp, hn, k⟩ := h
  obtain rfl : vs = [V.ref r, V.ref c, V.int (p : Int), V.int (n : Int)] := hv
  refine ⟨_, (pss_cons (ps_for PassesOwn.never rfl (pi_range1 rfl T.b_range (pa_cons (pv 3) pa_nil)) (pg_name (i := 4) nd rfl (Or.inl rfl)) (pss_cons (ps_if (pt_cmpR op_eq (pv 2) (pe_callB (call_lenK (K := K) rfl) (by rfl) T.b_len PySem.boot_len (pa_cons (pv 1) pa_nil)) (nomark _)) (pss_one (ps_ret (pv 2))) pss_nil)
 (pss_one (ps_set (i := 2) nd rfl (Or.inl rfl) (pe_m T.cl_Runner c_Runner_step hr (by decide) (pv 0) (pa_cons (pe_ix (ix_listK (K := K) rfl) (pv 1) (pv 2) (fun _ _ => rfl)) (pa_cons (pv 2) pa_nil)))))))
 (pss_one (ps_ret (pv 2)))), ?_⟩
  obtain ⟨is, hcl, hlen, hins⟩ := hC0.ex
  refine ⟨_, rfl, (n : Int), rfl, by omega, by omega, ?_⟩
  rw [Int.toNat_natCast]
  refine for_range (lo := 0) (n := n) (fun i σ H' => ∃ (s' : Sd62.St) (p' : Nat) (v : Option V), σ = [some (.ref r), some (.ref c), some (.int (p' : Int)), some (.int (n : Int)), v] ∧ StAt A.cState H0 H' a s' ∧ p' ≤ xs.length ∧ Sd62.run xs n st p = Sd62.run xs (n - i) s' p')
    ⟨st, p, none, rfl, hS, hp, rfl⟩ ?_ ?_
  · rintro i σ H1 hi ⟨s', p', v, rfl, hS1, hp', hrun⟩
    have hq : EvQ K (tVar 1) [some (.ref r), some (.ref c), some (.int (p' : Int)), some (.int (n : Int)), some (V.int (0 + (i : Int)))] H1 (is.map V.ref) := eq_var rfl (Evl.ex_l hS1.sm hcl)
    refine Evl.q_when (et_eqI (Evl.ev_var rfl) (ev_len hq)) (fun hb H2 e2 => ?_) (fun hb H2 e2 => ?_)
    · have c1 := of_decide_eq_true hb
      rw [List.length_map, hlen] at c1
      have hx : xs[p']? = none := List.getElem?_eq_none (by omega)
      rw [run_end hx] at hrun
      rw [hrun] at k
      exact ⟨_, rfl, k H2 (hS1.mono e2)⟩
    · have c1 := of_decide_eq_false hb
      rw [List.length_map, hlen] at c1
      have hlt : p' < xs.length := by omega
      have hx : xs[p']? = some xs[p'] := List.getElem?_eq_getElem hlt
      have hi2 : is[p']? = some (is[p']'(by omega)) := List.getElem?_eq_getElem _
      have hS2 := hS1.mono e2
      obtain ⟨dx, pw, hr1, _⟩ := (hR0.mono hS2.sm).ex
      refine ⟨_, rfl, r, dx, _, rfl, hr1, rF_step _ _, _, rfl, _, rfl, c, _, (p' : Int), .ref (is[p']'(by omega)), rfl, rfl, Evl.ex_l hS2.sm hcl, atI_nat (by rw [List.getElem?_map, hi2]; rfl), _, rfl, ⟨H0, r, is[p']'(by omega), a, s', xs[p'], p'⟩, rfl, hS2, hR0, hins p' _ _ hi2 hx, hg p' _ hx, fun H3 hS3 => ?_⟩
      refine ⟨(Sd62.step s' p' xs[p']).1, (Sd62.step s' p' xs[p']).2, some (V.int (0 + (i : Int))), rfl, hS3, ?_, ?_⟩
      · have := step_place hS2.wf (hg p' _ hx)
        omega
      · rw [hrun, show n - i = (n - (i + 1)) + 1 by omega, run_some hx]
  · rintro σ H1 ⟨s', p', v, rfl, hS1, hp', hrun⟩
    rw [Nat.sub_self] at hrun
    have h0 : Sd62.run xs 0 s' p' = (s', p') := rfl
    rw [hrun, h0] at k
    exact ⟨_, rfl, k H1 hS1⟩
end
end VP

/-! ### the machine: refusing, the desk, checkpoints -/
namespace VP
open PySem PySem.Spec PyProof.Rows L2
open Evl (Ex RetL RetV Ev EvL EvT EvA EvO)
def spNeed (CR : Addr) : Sp := spOf (fun (⟨b, c⟩ : Bool × Int) => [.bl b, .int c]) fun ⟨b, c⟩ H Q E => (b = true → RetV .non H Q) ∧ (b = false → RetX CR c H E)
theorem q_need {CR : Addr} {te tc : TE} {b : Bool} {c : Int} {W : WX} {tz : TS} {D : Ends} {σ : L2.St} {H : Hp} (hb : Ev te σ H (.bl b)) (hc : Ev tc σ H (.int c)) (hx : b = false → ∀ H1, Ex H H1 → RetX CR c H1 (fun cls d H' => W cls d σ H'))
    (k : b = true → ∀ H1, Ex H H1 → tz D σ H1) : tSeq (tDrop (tCallS (spNeed CR) (WE W) (tCons te (tCons tc tNil)))) tz D σ H :=
  hb H (Ex.refl _) _ fun H1 e1 => hc H1 e1 _ fun H2 e2 => ⟨⟨b, c⟩, rfl, fun z H3 e3 => k z H3 ((e1.trans e2).trans e3), fun z => hx z H2 (e1.trans e2)⟩
theorem s_fldK {K : PySem.W.Frag} {ta : TE} {C : Addr} {f : Str} {D : Ends} {σ : L2.St} {H : Hp} (k : ∀ x H2, StAt C H H2 x Sd62.fresh → ta σ H2 fun y H3 => ∃ a C' dx fs, y = .ref a ∧ H3 a = some (.ins C' dx fs) ∧ Cls K C' ∧ NoAttr K C' f ∧ fs.length < 1000 ∧ D.nx σ (upd H3 a (.ins C' dx (putF f (.ref x) fs)))) :
    sFld K ta (tMk0 C (spStateInit C)) f D σ H := mk_state k
theorem q_asgS {K : PySem.W.Frag} {C : Addr} {te : TE} {ls : List Nat} {i : Nat} {tz : TS} {D : Ends} {σ : L2.St} {H : Hp} (h : EvQ K te σ H (nv ls)) (hb : ∀ x ∈ ls, x < 256) (kn : readOf ls = none → ∀ H1, Ex H H1 → tz D (σ.set i (some .non)) H1)
    (ks : ∀ s, readOf ls = some s → ∀ a H1, StAt C H H1 a s → tz D (σ.set i (some (.ref a))) H1) : tSeq (tAsg (tCallS (spStateOf K C) (fun _ => E0) (tCons te tNil)) (gName i)) tz D σ H :=
  h H (Ex.refl _) _ fun p H1 e1 hs => ⟨⟨p, ls⟩, rfl, hs, hb, by
    cases hr : readOf ls with
    | none => exact fun H2 e2 => kn hr H2 (e1.trans e2)
    | some s => exact fun a H2 hS => ks s hr a H2 (hS.less e1)⟩
theorem upd_twice {H : Hp} {d : Addr} {a b : HO} : upd (upd H d a) d b = upd H d b := by
  funext x
  by_cases h : x = d
  · subst h; rw [upd_same, upd_same]
  · rw [upd_ne h, upd_ne h, upd_ne h]
theorem Ex.both {H H' : Hp} {d : Addr} {o : HO} (e : Ex H H') : Ex (upd H d o) (upd H' d o) := fun b u h => by
  by_cases hb : b = d
  · subst hb; rw [upd_same] at h ⊢; exact h
  · rw [upd_ne hb] at h ⊢; exact e b u h
/-- the desk at d, its state's things outside H0 and other than d -/
structure DeskAt (A : Ad) (H0 H : Hp) (d : Addr) (c : Nat) (s : Sd62.St) : Prop where
  ex : ∃ dx st, H d = some (.ins A.cDesk dx (dF c st)) ∧ StAt A.cState (upd H0 d (.ins A.cDesk dx (dF c st))) H st s
  fr : H0 d = none
theorem DeskAt.mono {A : Ad} {H0 H H' : Hp} {d : Addr} {c : Nat} {s : Sd62.St} (h : DeskAt A H0 H d c s) (e : Ex H H') : DeskAt A H0 H' d c s := let ⟨dx, st, h1, h2⟩ := h.ex; ⟨⟨dx, st, e _ _ h1, h2.mono e⟩, h.fr⟩
theorem DeskAt.sm {A : Ad} {H0 H : Hp} {d : Addr} {c : Nat} {s : Sd62.St} (h : DeskAt A H0 H d c s) : Ex H0 H := let ⟨_, _, _, h2⟩ := h.ex; (Ex.new h.fr).trans h2.sm
theorem DeskAt.wf {A : Ad} {H0 H : Hp} {d : Addr} {c : Nat} {s : Sd62.St} (h : DeskAt A H0 H d c s) : Wf s := let ⟨_, _, _, h2⟩ := h.ex; h2.wf
theorem DeskAt.put {A : Ad} {H0 Hf H : Hp} {d dx st : Addr} {c : Nat} {s : Sd62.St} {o : HO} (e0 : Ex H0 Hf) (h0 : H0 d = none) (hf : Hf d = some o) (h : StAt A.cState Hf H st s) : DeskAt A H0 (upd H d (.ins A.cDesk dx (dF c st))) d c s := by
  obtain ⟨f, fa, hc, hap, hfr⟩ := h.ex
  have nd : ∀ {b : Addr}, Hf b = none → b ≠ d := fun {b} hb z => by rw [z, hf] at hb; cases hb
  have keep : ∀ {b : Addr} {u v : HO}, Hf b = none → H b = some u → upd H d v b = some u := fun {b u v} hb h => by rw [upd_ne (nd hb)]; exact h
  have off : ∀ {b : Addr} {v : HO}, Hf b = none → upd H0 d v b = none := fun {b v} hb => by rw [upd_ne (nd hb)]; exact Evl.fresh_back e0 hb
  refine ⟨⟨dx, st, upd_same, ⟨f, fa, ⟨keep hfr.a hc.ins, keep hfr.wa hc.wl, keep hfr.va hc.vl, keep hfr.ka hc.kl, hc.rw.upd_off fun r hr => nd (hfr.rows r hr)⟩, hap, ⟨off hfr.a, off hfr.wa, off hfr.va, off hfr.ka, fun r hr => off (hfr.rows r hr)⟩⟩, ?_, h.wf⟩, h0⟩
  exact Ex.both (e0.trans h.sm)
def spDeskInit (A : Ad) : Sp := spOf (fun (⟨_, p, _⟩ : Hp × Addr × Addr) => [.ref p]) fun ⟨H0, p, dx⟩ H Q _ => Ex H0 H ∧ H0 p = none ∧ H p = some (.ins A.cDesk dx []) ∧ ∀ H', DeskAt A H0 H' p 0 Sd62.fresh → Q .non H'
def spReplace (A : Ad) : Sp := spOf (fun (⟨_, _, d, _, _, _, c', st', _⟩ : Hp × Hp × Addr × Addr × Nat × Addr × Nat × Addr × Sd62.St) => [.ref d, .int (c' : Int), .ref st']) fun ⟨H0, Hf, d, dx, c, st, c', st', s'⟩ H Q _ =>
  Ex H0 Hf ∧ H0 d = none ∧ (∃ o, Hf d = some o) ∧ H d = some (.ins A.cDesk dx (dF c st)) ∧ StAt A.cState Hf H st' s' ∧ ∀ H', DeskAt A H0 H' d c' s' → Q .non H'
def spStateIn (K : PySem.W.Frag) (A : Ad) : Sp := spOf (fun (⟨m, r, _⟩ : Nat × Addr × List Nat) => [.int (m : Int), .ref r]) fun ⟨m, r, ls⟩ H Q E => SqL K H r (nv ls) ∧ (∀ x ∈ ls, x < 256) ∧
  (2688 < m → RetX A.cRefusal (-2) H E) ∧ (m ≤ 2688 → match readOf ls with | none => RetX A.cRefusal (-2) H E | some s => ∀ a H', StAt A.cState H H' a s → Q (.ref a) H')
def spWithLength (K : PySem.W.Frag) (A : Ad) : Sp := spOf (fun (⟨r, _, m⟩ : Addr × List Nat × Nat) => [.ref r, .int (m : Int)]) fun ⟨r, ls, m⟩ H Q E => SqL K H r (nv ls) ∧ ls.length ≤ 50000 ∧
  (m < ls.length → RetX A.cRefusal (-4) H E) ∧ (ls.length ≤ m → RetL (nv (ls.length :: ls)) H Q)
section
variable {P : Program} {w : World} {K : PySem.W.Frag} {mg : Str → Option Value} {base : Heap} {A : Ad}
theorem ok_need (T : Txt K mg A) : Cal P w K mg base 3 "need" (spNeed A.cRefusal) := by
  refine Cal.ofX T.D_need sc_need (spOf_len fun ⟨_, _⟩ => rfl) fun f cdv A' outer s H vs Q E hr h => ?_
  have nd := sc_need.nd
  obtain ⟨⟨b, c⟩, hv, kT, kF⟩ := h
  obtain rfl : vs = [V.bl b, V.int c] := hv
  have tk := takes_of (X := cxOf (L2.CX P w) P w K mg base ["holds", "code"] "need" (defScope s_need) f cdv A' outer s H E) rfl rfl rfl rfl
  refine ⟨_, (pss_one (ps_if (pt_not (pt_val (pv 0))) (pss_one (ps_raiseRef rfl T.low hr tk (pa_cons (pv 1) pa_nil))) pss_nil)), ?_⟩
  refine Evl.s_when (Evl.et_not (Evl.et_test (Evl.ev_var rfl))) (fun hb H1 e1 => ?_) (fun hb H1 e1 => ?_)
  · have hf : b = false := by cases b <;> first | rfl | cases hb
    exact ⟨_, rfl, _, rfl, fun d hd => kF hf d _ (e1.trans (Ex.new hd)) (Evl.fresh_back e1 hd) upd_same⟩
  · exact kT (not_f hb) H1 e1
theorem ok_Desk (T : Txt K mg A) : Mak P w K mg base 3 "Desk" A.cDesk (spDeskInit A) := by
  have c_State := ok_State (P := P) (w := w) (base := base) T
  refine Mak.of T.D_Desk___init__ sc_Desk___init__ (spOf_len fun ⟨_, _, _⟩ => rfl) fun f cdv A' outer s H vs Q E hr h => ?_
  have nd := sc_Desk___init__.nd
  obtain ⟨⟨H0, p, dx⟩, hv, e0, h0, hp, k⟩ := h
  obtain rfl : vs = [V.ref p] := hv
  refine ⟨_, (pss_cons (ps_fld (pv 0) pe_int rfl)
 (pss_one (ps_fld (pv 0) (pe_k0 c_State hr (by decide) rfl) rfl))), ?_⟩
  refine ⟨_, rfl, p, A.cDesk, dx, [], rfl, hp, T.cl_Desk, T.n_Desk_components, by decide, ?_⟩
  have e1 : Ex H0 (upd H p (.ins A.cDesk dx (putF "components" (.int 0) []))) := Evl.Ex.mut e0 h0
  refine s_fldK fun x H2 hS => ⟨_, rfl, p, A.cDesk, dx, _, rfl, hS.sm _ _ upd_same, T.cl_Desk, T.n_Desk_state, Nat.lt_of_le_of_lt (length_putF _ _ _) (by decide), ?_⟩
  have hd : putF "state" (.ref x) (putF "components" (.int 0) []) = dF 0 x := dF_new 0 x
  rw [hd]
  exact k _ (DeskAt.put e1 h0 upd_same hS)
theorem ok_replace (T : Txt K mg A) : Met P w K mg base 1 A.cDesk "replace" (spReplace A) := by
  refine Met.of T.D_Desk_replace sc_Desk_replace (spOf_len fun ⟨_, _, _, _, _, _, _, _, _⟩ => rfl) fun f cdv A' outer s H vs Q E hr h => ?_
  have nd := sc_Desk_replace.nd
  obtain ⟨⟨H0, Hf, d, dx, c, st, c', st', s'⟩, hv, e0, h0, ⟨o, hf⟩, hd, hS, k⟩ := h
  obtain rfl : vs = [V.ref d, V.int (c' : Int), V.ref st'] := hv
  refine ⟨_, (pss_cons (ps_fld (pv 0) (pv 1) rfl)
 (pss_one (ps_fld (pv 0) (pv 2) rfl))), ?_⟩
  refine ⟨_, rfl, _, rfl, d, A.cDesk, dx, _, rfl, hd, T.cl_Desk, T.n_Desk_components, by show 2 < 1000; decide, ?_⟩
  rw [dF_put_components]
  refine ⟨_, rfl, _, rfl, d, A.cDesk, dx, _, rfl, upd_same, T.cl_Desk, T.n_Desk_state, by show 2 < 1000; decide, ?_⟩
  rw [dF_put_state, upd_twice]
  exact k _ (DeskAt.put e0 h0 hf hS)
theorem ok_state_in (T : Txt K mg A) : Cal P w K mg base 8 "state_in" (spStateIn K A) := by
  have c_need := ok_need (P := P) (w := w) (base := base) T
  have c_state_of := ok_state_of (P := P) (w := w) (base := base) T
  refine Cal.ofX T.D_state_in sc_state_in (spOf_len fun ⟨_, _, _⟩ => rfl) fun f cdv A' outer s H vs Q E hr h => ?_
  have nd := sc_state_in.nd
  obtain ⟨⟨m, r, ls⟩, hv, hL, hb, kX, k⟩ := h
  obtain rfl : vs = [V.int (m : Int), V.ref r] := hv
  have tk := takes_of (X := cxOf (L2.CX P w) P w K mg base ["many", "row", "found"] "state_in" (defScope s_state_in) f cdv A' outer s H E) rfl rfl rfl rfl
  refine ⟨_, (pss_cons (ps_expr (pe_cX c_need hr (by decide) rfl tk (pa_cons (pe_cmpR op_le (pv 0) (pe_gv rfl T.g_MOST_BYTES) (nomark _)) (pa_cons (pe_gv rfl T.g_NONE_SUCH) pa_nil))))
 (pss_cons (ps_set (i := 2) nd rfl (Or.inl rfl) (pe_c c_state_of hr (by decide) rfl (pa_cons (pv 1) pa_nil)))
 (pss_cons (ps_expr (pe_cX c_need hr (by decide) rfl tk (pa_cons (pe_cmpR op_notN (pv 2) pe_non (nomark _)) (pa_cons (pe_gv rfl T.g_NONE_SUCH) pa_nil))))
 (pss_one (ps_ret (pv 2)))))), ?_⟩
  refine q_need (b := decide (m ≤ 2688)) (Evl.ev_is (Evl.ev_op (Evl.ev_var rfl) Evl.ev_c Evl.rv_I0) (congrArg V.bl (decide_eq_decide.mpr (by omega)))) Evl.ev_c (fun hf H1 e1 => RetX.go (kX (by have := of_decide_eq_false hf; omega)) e1) fun ht H1 e1 => ?_
  have k := k (of_decide_eq_true ht)
  refine q_asgS (K := K) (C := A.cState) (eq_var rfl (Evl.ex_l e1 hL)) hb (fun hn H2 e2 => ?_) (fun st hst a H2 hS => ?_)
  · rw [hn] at k
    exact q_need (b := false) (Evl.ev_is (v := .bl (!decide (V.non = V.non))) (fun H3 e3 R q => ⟨_, rfl, rfl, q H3 (Ex.refl _)⟩) rfl) Evl.ev_c (fun _ H3 e3 => RetX.go (H1 := H3) k ((e1.trans e2).trans e3)) fun z => by cases z
  · rw [hst] at k
    exact q_need (b := true) (Evl.ev_is (v := .bl (!decide (V.ref a = V.non))) (fun H3 e3 R q => ⟨_, rfl, rfl, q H3 (Ex.refl _)⟩) (by rw [decide_eq_false (by intro z; cases z)]; rfl)) Evl.ev_c (fun z => by cases z) fun _ H3 e3 => ⟨_, rfl, k a H3 ((hS.less e1).mono e3)⟩
theorem ok_with_length (T : Txt K mg A) : Cal P w K mg base 4 "with_length" (spWithLength K A) := by
  have c_need := ok_need (P := P) (w := w) (base := base) T
  refine Cal.ofX T.D_with_length sc_with_length (spOf_len fun ⟨_, _, _⟩ => rfl) fun f cdv A' outer s H vs Q E hr h => ?_
  have nd := sc_with_length.nd
  obtain ⟨⟨r, ls, m⟩, hv, hL, hz, kX, k⟩ := h
  obtain rfl : vs = [V.ref r, V.int (m : Int)] := hv
  have tk := takes_of (X := cxOf (L2.CX P w) P w K mg base ["row", "room"] "with_length" (defScope s_with_length) f cdv A' outer s H E) rfl rfl rfl rfl
  refine ⟨_, (pss_cons (ps_expr (pe_cX c_need hr (by decide) rfl tk (pa_cons (pe_cmpR op_le (pe_callB (call_lenK (K := K) rfl) (by rfl) T.b_len PySem.boot_len (pa_cons (pv 0) pa_nil)) (pv 1) (nomark _)) (pa_cons (pe_gv rfl T.g_NO_ROOM) pa_nil))))
 (pss_one (ps_ret (pe_op (op_catK (K := K) rfl) (pe_lst (pa_cons (pe_callB (call_lenK (K := K) rfl) (by rfl) T.b_len PySem.boot_len (pa_cons (pv 0) pa_nil)) pa_nil)) (pv 0))))), ?_⟩
  have hq : EvQ K (tVar 0) (L2.start ["row", "room"] [V.ref r, V.int (m : Int)]) H (nv ls) := eq_var rfl hL
  refine q_need (b := decide (ls.length ≤ m)) (Evl.ev_is (Evl.ev_op (ev_len hq) (Evl.ev_var rfl) Evl.rv_I0) (congrArg V.bl (by rw [nv_length]; exact decide_eq_decide.mpr (by omega)))) Evl.ev_c (fun hf H1 e1 => RetX.go (kX (by have := of_decide_eq_false hf; omega)) e1) fun ht H1 e1 => ?_
  refine Evl.s_retL (xs := nv ([ls.length] ++ ls)) (el_cat (eq_new (el_one (Evl.ev_is (ev_len (hq.mono e1)) (by rw [nv_length])))) (hq.mono e1) (by show 1 + ls.length ≤ _; omega)) (RetL.on (k (of_decide_eq_true ht)) e1)
end
end VP

/-! ### the machine: new, save, load, turn, peek -/
namespace VP
open PySem PySem.Spec PyProof.Rows L2
open Evl (Ex RetL RetV Ev EvL EvT EvA EvO)
/-- what a call comes to: its code where it is refused; else what is told, and the machine behind it -/
abbrev Outc := Int ⊕ (List Nat × Nat × Sd62.St)
def RetO (A : Ad) (H0 H : Hp) (d : Addr) (o : Outc) (Q : VK) (E : XK) : Prop := match o with
  | .inl z => RetX A.cRefusal z H E
  | .inr (l, c', s') => ∀ p H', DeskAt A H0 H' d c' s' → H0 p = none → H' p = some (.lst (nv l)) → Q (.ref p) H'
theorem RetO.on {A : Ad} {H0 H H1 : Hp} {d : Addr} {o : Outc} {Q : VK} {E : XK} (k : RetO A H0 H d o Q E) (e : Ex H H1) : RetO A H0 H1 d o Q E := by
  cases o with
  | inl z => exact RetX.go k e
  | inr x => exact k
def spOp (K : PySem.W.Frag) (A : Ad) (pre : List Nat → Nat → Sd62.St → Prop) (out : List Nat → Nat → Sd62.St → Outc) : Sp := spOf (fun (⟨_, d, l, _, _, _⟩ : Hp × Addr × Addr × List Nat × Nat × Sd62.St) => [.ref d, .ref l]) fun ⟨H0, d, l, ns, c, s⟩ H Q E =>
  DeskAt A H0 H d c s ∧ SqL K H l (nv ns) ∧ pre ns c s ∧ RetO A H0 H d (out ns c s) Q E
def putOf (room how c : Nat) (s0 : Sd62.St) (c' : Nat) (s' : Sd62.St) : Outc := if (formOf s0 how c).length ≤ room then .inr ((formOf s0 how c).length :: formOf s0 how c, c', s') else .inl (-4)
def preNew (ns : List Nat) (_ : Nat) (_ : Sd62.St) : Prop := ∃ p, ns = [p]
def outNew (ns : List Nat) (_ : Nat) (_ : Sd62.St) : Outc := if ns.headD 0 = 3 ∨ ns.headD 0 = 7 ∨ ns.headD 0 = 231 then .inr ([0], ns.headD 0, Sd62.fresh) else .inl (-1)
def preSave (ns : List Nat) (c : Nat) (_ : Sd62.St) : Prop := (∃ r h, ns = [r, h]) ∧ isMac c
def outSave (ns : List Nat) (c : Nat) (s : Sd62.St) : Outc := if ns.getD 1 0 ≤ 1 then putOf (ns.getD 0 0) (ns.getD 1 0) c s c s else .inl (-1)
def preLoad (ns : List Nat) (_ : Nat) (_ : Sd62.St) : Prop := ∃ n p l, ns = n :: p :: l ∧ ∀ x ∈ l, x < 256
def outLoad (ns : List Nat) (_ : Nat) (_ : Sd62.St) : Outc :=
  if ns.getD 1 0 = 3 ∨ ns.getD 1 0 = 7 ∨ ns.getD 1 0 = 231 then (if ns.getD 0 0 ≤ 2688 then (match readOf (ns.drop 2) with
    | none => .inl (-2)
    | some s' => if hasAllB (ns.getD 1 0) (Sd62.used s') = true then .inr ([0], ns.getD 1 0, s') else .inl (-3)) else .inl (-2)) else .inl (-1)
def preTurn (ns : List Nat) (_ : Nat) (_ : Sd62.St) : Prop := ∃ n r h p l, ns = n :: r :: h :: p :: l ∧ ∀ x ∈ l, x < 256
def outTurn (ns : List Nat) (c : Nat) (s : Sd62.St) : Outc :=
  if ns.getD 2 0 ≤ 1 ∧ (ns.getD 3 0 = 3 ∨ ns.getD 3 0 = 7 ∨ ns.getD 3 0 = 231) then (if ns.getD 0 0 ≤ 2688 then (match readOf (ns.drop 4) with
    | none => .inl (-2)
    | some s' => if hasAllB (ns.getD 3 0) (Sd62.used s') = true then putOf (ns.getD 1 0) (ns.getD 2 0) (ns.getD 3 0) s' c s else .inl (-3)) else .inl (-2)) else .inl (-1)
def prePeek (ns : List Nat) (_ : Nat) (_ : Sd62.St) : Prop := ∃ w, ns = [w]
def outPeek (ns : List Nat) (c : Nat) (s : Sd62.St) : Outc := if ns.headD 0 ≤ 48 then .inr (0 :: Sd62.register ⟨c, s⟩ (ns.headD 0), c, s) else .inl (-1)
section
variable {K : PySem.W.Frag} {σ : L2.St} {H H' : Hp} {ta tb tc te : TE} {C : Addr}
theorem el_form_of {f : Foot} {s : Sd62.St} {n c : Nat} (hc : StC C H f s) (wf : Wf s) (hm : isMac c) (ha : Ev ta σ H (.ref f.a)) (hb : Ev tb σ H (.int (n : Int))) (hcc : Ev tc σ H (.int (c : Int))) : EvL (tCallS (spFormOf C) (fun _ => E0) (tCons ta (tCons tb (tCons tc tNil)))) σ H (nv (formOf s n c)) := fun H1 e Q q =>
  ha H1 e _ fun H2 e2 => hb H2 (e.trans e2) _ fun H3 e3 => hcc H3 ((e.trans e2).trans e3) _ fun H4 e4 => ⟨⟨f, s, n, c⟩, rfl, hc.mono (((e.trans e2).trans e3).trans e4), wf, hm, fun r H5 hr e5 h5 => q r H5 (Evl.fresh_back ((e2.trans e3).trans e4) hr) (((e2.trans e3).trans e4).trans e5) h5⟩
theorem moreOf_len {s : Sd62.St} (wf : Wf s) {w : Nat} (hw : isW w) : (moreOf s w).length ≤ 1024 := by
  unfold moreOf
  split
  · exact more_len wf hw
  · simp
theorem form_len {s : Sd62.St} (wf : Wf s) {n c : Nat} : (formOf s n c).length ≤ 50000 := by
  unfold formOf
  split
  · have h0 := head_len wf 0
    unfold headOf at h0
    rw [List.length_append] at h0
    unfold Sd62.long
    have h4 := more_len wf (w := 4) (.inr (.inr (.inl rfl)))
    have h32 := more_len wf (w := 32) (.inr (.inr (.inr (.inl rfl))))
    have h64 := more_len wf (w := 64) (.inr (.inr (.inr (.inr (.inl rfl)))))
    have h128 := more_len wf (w := 128) (.inr (.inr (.inr (.inr (.inr rfl)))))
    rw [part_4] at h4
    rw [part_32] at h32
    rw [part_64] at h64
    rw [part_128 wf] at h128
    have a1 : (if c = 3 then [] else Sd62.words (Sd62.lanesOf s 0 16 2 2)).length ≤ 1024 := by
      split
      · simp
      · exact h4
    have a2 : (if c = 231 then Sd62.zeros 256 ++ (Sd62.words s.k ++ (Sd62.words (Sd62.lanesOf s 0 16 4 4) ++ Sd62.words (Sd62.lanesOf s 16 16 0 8))) else []).length ≤ 10000 := by
      split
      · rw [List.length_append, List.length_append, List.length_append]
        show 256 + _ ≤ _
        omega
      · simp
    rw [List.length_append, List.length_append, List.length_append]
    omega
  · rw [short_of wf, List.length_append, head_len wf]
    have h4 := moreOf_len wf (w := 4) (.inr (.inr (.inl rfl)))
    have h32 := moreOf_len wf (w := 32) (.inr (.inr (.inr (.inl rfl))))
    have h64 := moreOf_len wf (w := 64) (.inr (.inr (.inr (.inr (.inl rfl)))))
    have h128 := moreOf_len wf (w := 128) (.inr (.inr (.inr (.inr (.inr rfl)))))
    simp only [List.flatMap_cons, List.flatMap_nil, List.length_append, List.length_nil]
    omega
theorem ev_inM {mg : Str → Option Value} {A : Ad} (T : Txt K mg A) {n : Nat} (h : Ev te σ H (.int (n : Int))) : Ev (tOp (rIn K false) te (tC (.ref A.aMACHINES))) σ H (.bl (decide (n = 3 ∨ n = 7 ∨ n = 231))) := fun H1 e Q q =>
  h H1 e _ fun H2 e2 => ⟨A.aMACHINES, _, rfl, .inr (T.t_MACHINES _), rfl, rfl, by rw [inV3]; exact q H2 e2⟩
/-- a desk's fields -/
theorem ev_dc {A : Ad} {mg : Str → Option Value} (T : Txt K mg A) {H0 : Hp} {d : Addr} {c : Nat} {s : Sd62.St} (hd : DeskAt A H0 H d c s) (ho : Ev te σ H (.ref d)) : Ev (tFld K te "components") σ H (.int (c : Int)) :=
  let ⟨_, st, h1, _⟩ := hd.ex; ev_fld ho h1 T.cl_Desk T.n_Desk_components (dF_components c st)
theorem DeskAt.foot {A : Ad} {H0 : Hp} {d : Addr} {c : Nat} {s : Sd62.St} (hd : DeskAt A H0 H d c s) : ∃ (dx : Addr) (f : Foot), H d = some (.ins A.cDesk dx (dF c f.a)) ∧ StC A.cState H f s ∧ StAt A.cState (upd H0 d (.ins A.cDesk dx (dF c f.a))) H f.a s := by
  obtain ⟨dx, st, h1, h2⟩ := hd.ex
  obtain ⟨f, rfl, hc, _, _⟩ := h2.foot
  exact ⟨dx, f, h1, hc, h2⟩
theorem ev_ds {A : Ad} {mg : Str → Option Value} (T : Txt K mg A) {d dx : Addr} {c : Nat} {st : Addr} (hd : H d = some (.ins A.cDesk dx (dF c st))) (ho : Ev te σ H (.ref d)) : Ev (tFld K te "state") σ H (.ref st) := ev_fld ho hd T.cl_Desk T.n_Desk_state (dF_state c st)
theorem q_asgSI {A : Ad} {tm : TE} {ls : List Nat} {m i : Nat} {z : Int} {W : WX} {tz : TS} {D : Ends} (hm : Ev tm σ H (.int z)) (hz : z = (m : Int)) (h : EvQ K te σ H (nv ls)) (hb : ∀ x ∈ ls, x < 256) (hx : (2688 < m ∨ readOf ls = none) → ∀ H1, Ex H H1 → RetX A.cRefusal (-2) H1 (fun cls d H' => W cls d σ H'))
    (ks : m ≤ 2688 → ∀ s, readOf ls = some s → ∀ a H1, StAt A.cState H H1 a s → tz D (σ.set i (some (.ref a))) H1) : tSeq (tAsg (tCallS (spStateIn K A) (WE W) (tCons tm (tCons te tNil))) (gName i)) tz D σ H :=
  hm H (Ex.refl _) _ fun H0 e0 => h H0 e0 _ fun p H1 e1 hs => ⟨⟨m, p, ls⟩, by rw [hz], hs, hb, fun hlt => hx (.inl hlt) H1 (e0.trans e1), fun hle => by
    cases hr : readOf ls with
    | none => exact hx (.inr hr) H1 (e0.trans e1)
    | some s => exact fun a H2 hS => ks hle s hr a H2 (hS.less (e0.trans e1))⟩
theorem s_retWL {A : Ad} {tm : TE} {ls : List Nat} {m : Nat} {W : WX} {D : Ends} (h : EvL te σ H (nv ls)) (hm : Ev tm σ H (.int (m : Int))) (hl : ls.length ≤ 50000) (hx : m < ls.length → ∀ H1, Ex H H1 → RetX A.cRefusal (-4) H1 (fun cls d H' => W cls d σ H'))
    (k : ls.length ≤ m → ∀ p H1, Ex H H1 → H1 p = some (.lst (nv (ls.length :: ls))) → H p = none → D.rt (.ref p) H1) : tRet (tCallS (spWithLength K A) (WE W) (tCons te (tCons tm tNil))) D σ H :=
  h H (Ex.refl _) _ fun p H1 hp e1 h1 => hm H1 e1 _ fun H2 e2 => ⟨⟨p, ls, m⟩, rfl, SqL.of (e2 _ _ h1), hl, fun hlt => hx hlt H2 (e1.trans e2), fun hle q H3 hq e3 h3 => k hle q H3 ((e1.trans e2).trans e3) h3 (Evl.fresh_back (e1.trans e2) hq)⟩
end
section
variable {P : Program} {w : World} {K : PySem.W.Frag} {mg : Str → Option Value} {base : Heap} {A : Ad}
theorem ok_new (T : Txt K mg A) : Cal P w K mg base 4 "new" (spOp K A preNew outNew) := by
  have c_need := ok_need (P := P) (w := w) (base := base) T
  have c_Desk_replace := ok_replace (P := P) (w := w) (base := base) T
  have c_State := ok_State (P := P) (w := w) (base := base) T
  refine Cal.ofX T.D_new sc_new (spOf_len fun ⟨_, _, _, _, _, _⟩ => rfl) fun f cdv A' outer s H vs Q E hr h => ?_
  have nd := sc_new.nd
  obtain ⟨⟨H0, d, l, ns, c, st⟩, hv, hD, hL, ⟨p, rfl⟩, k⟩ := h
  obtain rfl : vs = [V.ref d, V.ref l] := hv
  have tk := takes_of (X := cxOf (L2.CX P w) P w K mg base ["desk", "numbers"] "new" (defScope s_new) f cdv A' outer s H E) rfl rfl rfl rfl
  refine ⟨_, (pss_cons (ps_expr (pe_cX c_need hr (by decide) rfl tk (pa_cons (pe_cmpR (op_inK (K := K) rfl) (pe_ix (ix_listK (K := K) rfl) (pv 1) pe_int (fun _ _ => rfl)) (pe_gv rfl T.g_MACHINES) (by rfl)) (pa_cons (pe_gv rfl T.g_OUT_OF_RANGE) pa_nil))))
 (pss_cons (ps_expr (pe_m T.cl_Desk c_Desk_replace hr (by decide) (pv 0) (pa_cons (pe_ix (ix_listK (K := K) rfl) (pv 1) pe_int (fun _ _ => rfl)) (pa_cons (pe_k0 c_State hr (by decide) rfl) pa_nil))))
 (pss_one (ps_ret (pe_lst (pa_cons pe_int pa_nil)))))), ?_⟩
  have ix : ∀ {H1 : Hp}, Ex H H1 → Ev (tOp (rIxL K) (tVar 1) (tC (.int 0))) (L2.start ["desk", "numbers"] [V.ref d, V.ref l]) H1 (.int (p : Int)) := fun e => ev_item (i := 0) (eq_var rfl (Evl.ex_l e hL)) Evl.ev_c rfl rfl
  refine q_need (ev_inM T (ix (Ex.refl _))) Evl.ev_c (fun hf H1 e1 => ?_) fun ht H1 e1 => ?_
  · have ho : outNew [p] c st = .inl (-1) := if_neg (of_decide_eq_false hf)
    rw [ho] at k
    exact RetX.go k e1
  · have ho : outNew [p] c st = .inr ([0], p, Sd62.fresh) := if_pos (of_decide_eq_true ht)
    rw [ho] at k
    have hD1 := hD.mono e1
    obtain ⟨dx, sa, hd, _⟩ := hD1.ex
    refine ⟨_, rfl, d, dx, _, rfl, hd, dF_replace c sa, ?_⟩
    refine ix e1 H1 (Ex.refl _) _ fun H2 e2 => mk_state fun x H3 hS => ⟨⟨H0, H2, d, dx, c, sa, p, x, Sd62.fresh⟩, rfl, hD1.sm.trans e2, hD.fr, ⟨_, e2 _ _ hd⟩, hS.sm _ _ (e2 _ _ hd), hS, fun H4 hD4 => ?_⟩
    exact Evl.s_retL (σ := []) (el_one (n := 0) Evl.ev_c) fun q H5 hq e5 h5 => k q H5 (hD4.mono e5) (Evl.fresh_back hD4.sm hq) h5
theorem ok_save (T : Txt K mg A) : Cal P w K mg base 7 "save" (spOp K A preSave outSave) := by
  have c_need := ok_need (P := P) (w := w) (base := base) T
  have c_with_length := ok_with_length (P := P) (w := w) (base := base) T
  have c_form_of := ok_form_of (P := P) (w := w) (base := base) T
  refine Cal.ofX T.D_save sc_save (spOf_len fun ⟨_, _, _, _, _, _⟩ => rfl) fun f cdv A' outer s H vs Q E hr h => ?_
  have nd := sc_save.nd
  obtain ⟨⟨H0, d, l, ns, c, st⟩, hv, hD, hL, ⟨⟨r, n, rfl⟩, hm⟩, k⟩ := h
  obtain rfl : vs = [V.ref d, V.ref l] := hv
  have tk := takes_of (X := cxOf (L2.CX P w) P w K mg base ["desk", "numbers", "room", "form"] "save" (defScope s_save) f cdv A' outer s H E) rfl rfl rfl rfl
  refine ⟨_, (pss_cons (ps_asg (pv 1) (pg_lstK (K := K) rfl rfl (pgs_cons (pg_name (i := 2) nd rfl (Or.inl rfl)) (pgs_cons (pg_name (i := 3) nd rfl (Or.inl rfl)) pgs_nil))))
 (pss_cons (ps_expr (pe_cX c_need hr (by decide) rfl tk (pa_cons (pe_cmpR op_le (pv 3) pe_int (nomark _)) (pa_cons (pe_gv rfl T.g_OUT_OF_RANGE) pa_nil))))
 (pss_one (ps_ret (pe_cX c_with_length hr (by decide) rfl tk (pa_cons (pe_c c_form_of hr (by decide) rfl (pa_cons (pe_fldK (K := K) rfl (pv 0) rfl) (pa_cons (pv 3) (pa_cons (pe_fldK (K := K) rfl (pv 0) rfl) pa_nil)))) (pa_cons (pv 2) pa_nil))))))), ?_⟩
  refine ⟨_, rfl, l, _, rfl, hL, rfl, _, _, rfl, _, _, rfl, rfl, ?_⟩
  refine q_need (b := decide (n ≤ 1)) (Evl.ev_is (Evl.ev_op (Evl.ev_var rfl) Evl.ev_c Evl.rv_I0) (congrArg V.bl (decide_eq_decide.mpr (by omega)))) Evl.ev_c (fun hf H1 e1 => ?_) fun ht H1 e1 => ?_
  · have ho : outSave [r, n] c st = .inl (-1) := if_neg (of_decide_eq_false hf)
    rw [ho] at k
    exact RetX.go k e1
  · have ho : outSave [r, n] c st = putOf r n c st c st := if_pos (of_decide_eq_true ht)
    rw [ho] at k
    unfold putOf at k
    have hD1 := hD.mono e1
    obtain ⟨dx, fo, hd, hc, _⟩ := hD1.foot
    refine s_retWL (el_form_of hc hD.wf hm (ev_ds T hd (Evl.ev_var rfl)) (Evl.ev_var rfl) (ev_dc T hD1 (Evl.ev_var rfl))) (Evl.ev_var rfl) (form_len hD.wf) (fun hlt H2 e2 => ?_) (fun hle q H2 e2 h2 hq => ?_)
    · rw [if_neg (by omega)] at k
      exact RetX.go k (e1.trans e2)
    · rw [if_pos hle] at k
      exact k q H2 (hD1.mono e2) (Evl.fresh_back hD1.sm hq) h2
theorem ok_load (T : Txt K mg A) : Cal P w K mg base 9 "load" (spOp K A preLoad outLoad) := by
  have c_need := ok_need (P := P) (w := w) (base := base) T
  have c_state_in := ok_state_in (P := P) (w := w) (base := base) T
  have c_has_all := ok_has_all (P := P) (w := w) (base := base) T
  have c_State_used := ok_used (P := P) (w := w) (base := base) T
  have c_Desk_replace := ok_replace (P := P) (w := w) (base := base) T
  refine Cal.ofX T.D_load sc_load (spOf_len fun ⟨_, _, _, _, _, _⟩ => rfl) fun f cdv A' outer s H vs Q E hr h => ?_
  have nd := sc_load.nd
  obtain ⟨⟨H0, d, l, ns, c, st⟩, hv, hD, hL, ⟨n, p, ls, rfl, hb⟩, k⟩ := h
  obtain rfl : vs = [V.ref d, V.ref l] := hv
  have tk := takes_of (X := cxOf (L2.CX P w) P w K mg base ["desk", "numbers", "many", "components", "state"] "load" (defScope s_load) f cdv A' outer s H E) rfl rfl rfl rfl
  refine ⟨_, (pss_cons (ps_asg (pe_slice (sl_listK (K := K) rfl) (pv 1) po_none (po_some pe_int)) (pg_lstK (K := K) rfl rfl (pgs_cons (pg_name (i := 2) nd rfl (Or.inl rfl)) (pgs_cons (pg_name (i := 3) nd rfl (Or.inl rfl)) pgs_nil))))
 (pss_cons (ps_expr (pe_cX c_need hr (by decide) rfl tk (pa_cons (pe_cmpR (op_inK (K := K) rfl) (pv 3) (pe_gv rfl T.g_MACHINES) (by rfl)) (pa_cons (pe_gv rfl T.g_OUT_OF_RANGE) pa_nil))))
 (pss_cons (ps_set (i := 4) nd rfl (Or.inl rfl) (pe_cX c_state_in hr (by decide) rfl tk (pa_cons (pv 2) (pa_cons (pe_slice (sl_listK (K := K) rfl) (pv 1) (po_some pe_int) po_none) pa_nil))))
 (pss_cons (ps_expr (pe_cX c_need hr (by decide) rfl tk (pa_cons (pe_c c_has_all hr (by decide) rfl (pa_cons (pv 3) (pa_cons (pe_m0 T.cl_State c_State_used hr (by decide) (pv 4)) pa_nil))) (pa_cons (pe_gv rfl T.g_NO_COMPONENT) pa_nil))))
 (pss_cons (ps_expr (pe_m T.cl_Desk c_Desk_replace hr (by decide) (pv 0) (pa_cons (pv 3) (pa_cons (pv 4) pa_nil))))
 (pss_one (ps_ret (pe_lst (pa_cons pe_int pa_nil))))))))), ?_⟩
  refine el_to (o2 := 2) (ns := n :: p :: ls) (eq_var (K := K) rfl hL) Evl.ev_c rfl H (Ex.refl _) _ fun l2 H1 hl2 e1 h2 => ?_
  refine ⟨l2, _, rfl, SqL.of h2, rfl, _, _, rfl, _, _, rfl, rfl, ?_⟩
  refine q_need (ev_inM T (Evl.ev_var rfl)) Evl.ev_c (fun hf H2 e2 => ?_) fun ht H2 e2 => ?_
  · have ho : outLoad (n :: p :: ls) c st = .inl (-1) := if_neg (of_decide_eq_false hf)
    rw [ho] at k
    exact RetX.go k (e1.trans e2)
  have e12 := e1.trans e2
  refine q_asgSI (m := n) (ls := ls) (Evl.ev_var rfl) rfl (eq_new (el_from (o1 := 2) (ns := n :: p :: ls) (eq_var rfl (Evl.ex_l e12 hL)) Evl.ev_c rfl)) hb (fun hx H3 e3 => ?_) (fun hn s' hs a H3 hS => ?_)
  · have ho : outLoad (n :: p :: ls) c st = .inl (-2) := by
      refine (if_pos (of_decide_eq_true ht)).trans ?_
      show (if n ≤ 2688 then _ else _) = _
      by_cases c1 : n ≤ 2688
      · rw [if_pos c1]
        show (match readOf ls with | none => _ | some s' => _) = _
        rcases hx with z | z
        · omega
        · rw [z]
      · rw [if_neg c1]
    rw [ho] at k
    exact RetX.go k (e12.trans e3)
  have ho : outLoad (n :: p :: ls) c st = if hasAllB p (Sd62.used s') = true then .inr ([0], p, s') else .inl (-3) := by
    refine (if_pos (of_decide_eq_true ht)).trans ((if_pos hn).trans ?_)
    show (match readOf ls with | none => _ | some s' => _) = _
    rw [hs]
    rfl
  rw [ho] at k
  obtain ⟨fo, rfl, hc, _, _⟩ := hS.foot
  refine q_need (ev_has_all (c := p) (Evl.ev_var rfl) (ev_used hc hS.wf (Evl.ev_var rfl))) Evl.ev_c (fun hf H4 e4 => ?_) fun ht2 H4 e4 => ?_
  · rw [if_neg (by rw [hf]; decide)] at k
    exact RetX.go k ((e12.trans hS.sm).trans e4)
  · rw [if_pos ht2] at k
    have hD2 := hD.mono e12
    obtain ⟨dx, sa, hd, _⟩ := hD2.ex
    have hd4 := e4 _ _ (hS.sm _ _ hd)
    refine ⟨_, rfl, d, dx, _, rfl, hd4, dF_replace c sa, _, rfl, _, rfl, ⟨H0, H2, d, dx, c, sa, p, fo.a, s'⟩, rfl, hD2.sm, hD.fr, ⟨_, hd⟩, hd4, hS.mono e4, fun H5 hD5 => ?_⟩
    exact Evl.s_retL (σ := []) (el_one (n := 0) Evl.ev_c) fun q H6 hq e6 h6 => k q H6 (hD5.mono e6) (Evl.fresh_back hD5.sm hq) h6
theorem ok_turn_form (T : Txt K mg A) : Cal P w K mg base 9 "turn_form" (spOp K A preTurn outTurn) := by
  have c_need := ok_need (P := P) (w := w) (base := base) T
  have c_state_in := ok_state_in (P := P) (w := w) (base := base) T
  have c_has_all := ok_has_all (P := P) (w := w) (base := base) T
  have c_State_used := ok_used (P := P) (w := w) (base := base) T
  have c_with_length := ok_with_length (P := P) (w := w) (base := base) T
  have c_form_of := ok_form_of (P := P) (w := w) (base := base) T
  refine Cal.ofX T.D_turn_form sc_turn_form (spOf_len fun ⟨_, _, _, _, _, _⟩ => rfl) fun f cdv A' outer s H vs Q E hr h => ?_
  have nd := sc_turn_form.nd
  obtain ⟨⟨H0, d, l, ns, c, st⟩, hv, hD, hL, ⟨n, r, m, p, ls, rfl, hb⟩, k⟩ := h
  obtain rfl : vs = [V.ref d, V.ref l] := hv
  have tk := takes_of (X := cxOf (L2.CX P w) P w K mg base ["desk", "numbers", "many", "room", "form", "components", "state"] "turn_form" (defScope s_turn_form) f cdv A' outer s H E) rfl rfl rfl rfl
  refine ⟨_, (pss_cons (ps_asg (pe_slice (sl_listK (K := K) rfl) (pv 1) po_none (po_some pe_int)) (pg_lstK (K := K) rfl rfl (pgs_cons (pg_name (i := 2) nd rfl (Or.inl rfl)) (pgs_cons (pg_name (i := 3) nd rfl (Or.inl rfl)) (pgs_cons (pg_name (i := 4) nd rfl (Or.inl rfl)) (pgs_cons (pg_name (i := 5) nd rfl (Or.inl rfl)) pgs_nil))))))
 (pss_cons (ps_expr (pe_cX c_need hr (by decide) rfl tk (pa_cons (pe_and (pe_cmpR op_le (pv 4) pe_int (nomark _)) (pe_one (pe_cmpR (op_inK (K := K) rfl) (pv 5) (pe_gv rfl T.g_MACHINES) (by rfl)))) (pa_cons (pe_gv rfl T.g_OUT_OF_RANGE) pa_nil))))
 (pss_cons (ps_set (i := 6) nd rfl (Or.inl rfl) (pe_cX c_state_in hr (by decide) rfl tk (pa_cons (pv 2) (pa_cons (pe_slice (sl_listK (K := K) rfl) (pv 1) (po_some pe_int) po_none) pa_nil))))
 (pss_cons (ps_expr (pe_cX c_need hr (by decide) rfl tk (pa_cons (pe_c c_has_all hr (by decide) rfl (pa_cons (pv 5) (pa_cons (pe_m0 T.cl_State c_State_used hr (by decide) (pv 6)) pa_nil))) (pa_cons (pe_gv rfl T.g_NO_COMPONENT) pa_nil))))
 (pss_one (ps_ret (pe_cX c_with_length hr (by decide) rfl tk (pa_cons (pe_c c_form_of hr (by decide) rfl (pa_cons (pv 6) (pa_cons (pv 4) (pa_cons (pv 5) pa_nil)))) (pa_cons (pv 3) pa_nil))))))))), ?_⟩
  refine el_to (o2 := 4) (ns := n :: r :: m :: p :: ls) (eq_var (K := K) rfl hL) Evl.ev_c rfl H (Ex.refl _) _ fun l2 H1 hl2 e1 h2 => ?_
  refine ⟨l2, _, rfl, SqL.of h2, rfl, _, _, rfl, _, _, rfl, _, _, rfl, _, _, rfl, rfl, ?_⟩
  refine q_need (b := decide (m ≤ 1) && decide (p = 3 ∨ p = 7 ∨ p = 231)) (Evl.ev_andV (Evl.ev_is (Evl.ev_op (Evl.ev_var rfl) Evl.ev_c Evl.rv_I0) (congrArg V.bl (decide_eq_decide.mpr (by omega)))) fun _ => ev_inM T (Evl.ev_var rfl)) Evl.ev_c (fun hf H2 e2 => ?_) fun ht H2 e2 => ?_
  · have ho : outTurn (n :: r :: m :: p :: ls) c st = .inl (-1) := if_neg (fun z => by
      have z1 : m ≤ 1 := z.1
      have z2 : p = 3 ∨ p = 7 ∨ p = 231 := z.2
      rw [decide_eq_true z1, decide_eq_true z2] at hf
      cases hf)
    rw [ho] at k
    exact RetX.go k (e1.trans e2)
  have ht' := Bool.and_eq_true_iff.mp ht
  have hm1 := of_decide_eq_true ht'.1
  have hp1 := of_decide_eq_true ht'.2
  have e12 := e1.trans e2
  refine q_asgSI (m := n) (ls := ls) (Evl.ev_var rfl) rfl (eq_new (el_from (o1 := 4) (ns := n :: r :: m :: p :: ls) (eq_var rfl (Evl.ex_l e12 hL)) Evl.ev_c rfl)) hb (fun hx H3 e3 => ?_) (fun hn s' hs a H3 hS => ?_)
  · have ho : outTurn (n :: r :: m :: p :: ls) c st = .inl (-2) := by
      refine (if_pos (show m ≤ 1 ∧ (p = 3 ∨ p = 7 ∨ p = 231) from ⟨hm1, hp1⟩)).trans ?_
      show (if n ≤ 2688 then _ else _) = _
      by_cases c1 : n ≤ 2688
      · rw [if_pos c1]
        show (match readOf ls with | none => _ | some s' => _) = _
        rcases hx with z | z
        · omega
        · rw [z]
      · rw [if_neg c1]
    rw [ho] at k
    exact RetX.go k (e12.trans e3)
  have ho : outTurn (n :: r :: m :: p :: ls) c st = if hasAllB p (Sd62.used s') = true then putOf r m p s' c st else .inl (-3) := by
    refine (if_pos (show m ≤ 1 ∧ (p = 3 ∨ p = 7 ∨ p = 231) from ⟨hm1, hp1⟩)).trans ((if_pos hn).trans ?_)
    show (match readOf ls with | none => _ | some s' => _) = _
    rw [hs]
    rfl
  rw [ho] at k
  obtain ⟨fo, rfl, hc, _, _⟩ := hS.foot
  refine q_need (ev_has_all (c := p) (Evl.ev_var rfl) (ev_used hc hS.wf (Evl.ev_var rfl))) Evl.ev_c (fun hf H4 e4 => ?_) fun ht2 H4 e4 => ?_
  · rw [if_neg (by rw [hf]; decide)] at k
    exact RetX.go k ((e12.trans hS.sm).trans e4)
  · rw [if_pos ht2] at k
    unfold putOf at k
    have hD4 := hD.mono ((e12.trans hS.sm).trans e4)
    refine s_retWL (el_form_of (n := m) (c := p) (hc.mono e4) hS.wf hp1 (Evl.ev_var rfl) (Evl.ev_var rfl) (Evl.ev_var rfl)) (m := r) (Evl.ev_var rfl) (form_len hS.wf) (fun hlt H5 e5 => ?_) (fun hle q H5 e5 h5 hq => ?_)
    · rw [if_neg (by omega)] at k
      exact RetX.go k (((e12.trans hS.sm).trans e4).trans e5)
    · rw [if_pos hle] at k
      exact k q H5 (hD4.mono e5) (Evl.fresh_back hD4.sm hq) h5
theorem reg_v (o : Sd62.Obj) {w : Nat} (h : w < 32) : Sd62.register o w = Sd62.words (o.st.V w) := if_pos h
theorem words_one (n : Nat) : Sd62.words [n] = Sd62.spread n 8 := by
  show Sd62.spread n 8 ++ [] = _
  rw [List.append_nil]
theorem ok_peek (T : Txt K mg A) : Cal P w K mg base 4 "peek" (spOp K A prePeek outPeek) := by
  have c_need := ok_need (P := P) (w := w) (base := base) T
  have c_rows_of := ok_rows_of (P := P) (w := w) (base := base) T
  have c_number_row := ok_number_row (P := P) (w := w) (base := base) T
  have c_State_used := ok_used (P := P) (w := w) (base := base) T
  refine Cal.ofX T.D_peek sc_peek (spOf_len fun ⟨_, _, _, _, _, _⟩ => rfl) fun f cdv A' outer s H vs Q E hr h => ?_
  have nd := sc_peek.nd
  obtain ⟨⟨H0, d, l, ns, c, st⟩, hv, hD, hL, ⟨n, rfl⟩, k⟩ := h
  obtain rfl : vs = [V.ref d, V.ref l] := hv
  have tk := takes_of (X := cxOf (L2.CX P w) P w K mg base ["desk", "numbers", "at", "found"] "peek" (defScope s_peek) f cdv A' outer s H E) rfl rfl rfl rfl
  refine ⟨_, (pss_cons (ps_set (i := 2) nd rfl (Or.inl rfl) (pe_ix (ix_listK (K := K) rfl) (pv 1) pe_int (fun _ _ => rfl)))
 (pss_cons (ps_expr (pe_cX c_need hr (by decide) rfl tk (pa_cons (pe_cmpR op_le (pv 2) (pe_gv rfl T.g_ALL_PLACE) (nomark _)) (pa_cons (pe_gv rfl T.g_OUT_OF_RANGE) pa_nil))))
 (pss_cons (ps_if (pt_cmpR op_lt (pv 2) (pe_gv rfl T.g_V_COUNT) (nomark _)) (pss_one (ps_ret (pe_op (op_catK (K := K) rfl) (pe_lst (pa_cons pe_int pa_nil)) (pe_c c_rows_of hr (by decide) rfl (pa_cons (pe_ix (ix_listK (K := K) rfl) (pe_fldK (K := K) rfl (pe_fldK (K := K) rfl (pv 0) rfl) rfl) (pv 2) (fun _ _ => rfl)) pa_nil))))) pss_nil)
 (pss_cons (ps_if (pt_cmpR op_lt (pv 2) (pe_gv rfl T.g_FIRST_K) (nomark _)) (pss_one (ps_set (i := 3) nd rfl (Or.inl rfl) (pe_c c_number_row hr (by decide) rfl (pa_cons (pe_ix (ix_listK (K := K) rfl) (pe_fldK (K := K) rfl (pe_fldK (K := K) rfl (pv 0) rfl) rfl) (pe_op op_sub (pv 2) (pe_gv rfl T.g_FIRST_M)) (fun _ _ => rfl)) pa_nil)))) (pss_one (ps_if (pt_cmpR op_lt (pv 2) (pe_gv rfl T.g_ALL_PLACE) (nomark _)) (pss_one (ps_set (i := 3) nd rfl (Or.inl rfl) (pe_c c_number_row hr (by decide) rfl (pa_cons (pe_ix (ix_listK (K := K) rfl) (pe_fldK (K := K) rfl (pe_fldK (K := K) rfl (pv 0) rfl) rfl) (pe_op op_sub (pv 2) (pe_gv rfl T.g_FIRST_K)) (fun _ _ => rfl)) pa_nil)))) (pss_one (ps_set (i := 3) nd rfl (Or.inl rfl) (pe_op (op_catK (K := K) rfl) (pe_c c_number_row hr (by decide) rfl (pa_cons (pe_m0 T.cl_State c_State_used hr (by decide) (pe_fldK (K := K) rfl (pv 0) rfl)) pa_nil)) (pe_c c_number_row hr (by decide) rfl (pa_cons (pe_fldK (K := K) rfl (pv 0) rfl) pa_nil))))))))
 (pss_one (ps_ret (pe_op (op_catK (K := K) rfl) (pe_op (op_catK (K := K) rfl) (pe_lst (pa_cons pe_int pa_nil)) (pv 3)) (pe_op op_rep (pe_lst (pa_cons pe_int pa_nil)) (pe_op op_sub (pe_gv rfl T.g_CELL_SIZE) (pe_callB (call_lenK (K := K) rfl) (by rfl) T.b_len PySem.boot_len (pa_cons (pv 3) pa_nil))))))))))), ?_⟩
  have wf := hD.wf
  refine Evl.q_asg (v := .int (n : Int)) (ev_item (i := 0) (eq_var rfl hL) Evl.ev_c rfl rfl) fun H1 e1 => ?_
  refine q_need (b := decide (n ≤ 48)) (Evl.ev_is (Evl.ev_op (Evl.ev_var rfl) Evl.ev_c Evl.rv_I0) (congrArg V.bl (decide_eq_decide.mpr (by omega)))) Evl.ev_c (fun hf H2 e2 => ?_) fun ht H2 e2 => ?_
  · have ho : outPeek [n] c st = .inl (-1) := if_neg (of_decide_eq_false hf)
    rw [ho] at k
    exact RetX.go k (e1.trans e2)
  have hn := of_decide_eq_true ht
  have ho : outPeek [n] c st = .inr (0 :: Sd62.register ⟨c, st⟩ n, c, st) := if_pos hn
  rw [ho] at k
  have hD2 := hD.mono (e1.trans e2)
  obtain ⟨dx, fo, hd, hc, _⟩ := hD2.foot
  have es : ∀ {σ : L2.St} {H3 : Hp}, Ex H2 H3 → σ[0]? = some (some (.ref d)) → Ev (tFld K (tVar 0) "state") σ H3 (.ref fo.a) := fun e h => ev_ds T (e _ _ hd) (Evl.ev_var h)
  refine Evl.q_when (et_I0 (Evl.ev_var rfl) Evl.ev_c) (fun hb H3 e3 => ?_) (fun hb H3 e3 => ?_)
  · have c1 := of_decide_eq_true hb
    have c1 : n < 32 := by omega
    rw [reg_v _ c1] at k
    exact Evl.s_retL (xs := nv ([0] ++ Sd62.words (st.V n))) (el_cat (eq_new (el_one (n := 0) Evl.ev_c)) (eq_new (el_rows_of (eq_vec (hc.mono e3) wf (ev_fld (es e3 rfl) (hc.mono e3).ins T.cl_State T.n_State_vectors (sF_vectors fo)) (Evl.ev_var rfl) c1) (by rw [v_len wf c1]; decide))) (by rw [words_length, v_len wf c1]; decide)) fun q H4 hq e4 h4 => k q H4 (hD2.mono (e3.trans e4)) (Evl.fresh_back (hD2.mono e3).sm hq) h4
  have c1 := of_decide_eq_false hb
  have c1 : ¬ n < 32 := by omega
  have fin : ∀ (q : Addr) (ls : List Nat) (H4 : Hp), Ex H3 H4 → SqL K H4 q (nv ls) → ls.length ≤ 64 → [0] ++ ls ++ List.replicate (64 - ls.length) 0 = 0 :: Sd62.register ⟨c, st⟩ n →
      tRet (tOp (rCatS K) (tOp (rCatS K) (tLst (tCons (tC (.int 0)) tNil)) (tVar 3)) (tOp rRep (tLst (tCons (tC (.int 0)) tNil)) (tOp (rI0 fun i j => .int (i - j)) (tC (.int 64)) (tCB (Evl.rLenS K) (tCons (tVar 3) tNil))))) { nx := fun _ H' => Q .non H', rt := Q } [some (.ref d), some (.ref l), some (.int (n : Int)), some (.ref q)] H4 := by
    intro q ls H4 e4 hq hle hreg
    have hqv : EvQ K (tVar 3) [some (.ref d), some (.ref l), some (.int (n : Int)), some (.ref q)] H4 (nv ls) := eq_var rfl hq
    refine Evl.s_retL (xs := nv ([0] ++ ls ++ List.replicate (64 - ls.length) 0)) (el_cat (eq_new (el_cat (eq_new (el_one (n := 0) Evl.ev_c)) hqv (by show 1 + ls.length ≤ _; omega))) (eq_new (el_rep (n := 0) (k := 64 - ls.length) Evl.ev_c (ev_sub Evl.ev_c (ev_len hqv)) (by rw [nv_length]; omega) (by omega))) (by rw [List.length_append, List.length_replicate]; show 1 + ls.length + _ ≤ _; omega)) fun q2 H5 hq2 e5 h5 => ?_
    rw [hreg] at h5
    exact k q2 H5 (hD2.mono ((e3.trans e4).trans e5)) (Evl.fresh_back (hD2.mono (e3.trans e4)).sm hq2) h5
  refine Evl.q_if (et_I0 (Evl.ev_var rfl) Evl.ev_c) (fun hb2 H4 e4 => ?_) (fun hb2 H4 e4 => ?_)
  · have c2 := of_decide_eq_true hb2
    have c2 : n < 40 := by omega
    have e34 := e3.trans e4
    refine Evl.s_asgL (el_number_row (n := st.M (n - 32)) (ev_word (i := n - 32) (hc.mono e34) wf (ev_fld (es e34 rfl) (hc.mono e34).ins T.cl_State T.n_State_words (sF_words fo)) (Evl.ev_is (ev_sub (Evl.ev_var rfl) Evl.ev_c) (congrArg V.int (by omega))) (by omega))) fun q H5 hq e5 h5 => ?_
    refine fin q _ H5 (e4.trans e5) (SqL.of h5) (by rw [spread_length]; decide) ?_
    rw [spread_length]
    unfold Sd62.register
    rw [if_neg c1, if_pos c2, words_one]
    rfl
  · have c2 := of_decide_eq_false hb2
    have c2 : ¬ n < 40 := by omega
    refine Evl.s_if (et_I0 (Evl.ev_var rfl) Evl.ev_c) (fun hb3 H5 e5 => ?_) (fun hb3 H5 e5 => ?_)
    · have c3 := of_decide_eq_true hb3
      have c3 : n < 48 := by omega
      have e35 := (e3.trans e4).trans e5
      refine Evl.s_asgL (el_number_row (n := st.K (n - 40)) (ev_kay (i := n - 40) (hc.mono e35) wf (ev_fld (es e35 rfl) (hc.mono e35).ins T.cl_State T.n_State_masks (sF_masks fo)) (Evl.ev_is (ev_sub (Evl.ev_var rfl) Evl.ev_c) (congrArg V.int (by omega))) (by omega))) fun q H6 hq e6 h6 => ?_
      refine fin q _ H6 ((e4.trans e5).trans e6) (SqL.of h6) (by rw [spread_length]; decide) ?_
      rw [spread_length]
      unfold Sd62.register
      rw [if_neg c1, if_neg c2, if_pos c3, words_one]
      rfl
    · have c3 := of_decide_eq_false hb3
      have c3 : ¬ n < 48 := by omega
      have e35 := (e3.trans e4).trans e5
      refine Evl.s_asgL (xs := nv (Sd62.spread (Sd62.used st) 8 ++ Sd62.spread c 8)) (el_cat (eq_new (el_number_row (ev_used (hc.mono e35) wf (es e35 rfl)))) (eq_new (el_number_row (ev_dc T (hD2.mono e35) (Evl.ev_var rfl)))) (by rw [spread_length, spread_length]; decide)) fun q H6 hq e6 h6 => ?_
      refine fin q _ H6 ((e4.trans e5).trans e6) (SqL.of h6) (by rw [List.length_append, spread_length, spread_length]; decide) ?_
      rw [List.length_append, spread_length, spread_length]
      unfold Sd62.register
      rw [if_neg c1, if_neg c2, if_neg c3]
      have e2 : Sd62.words [Sd62.used st, c] = Sd62.spread (Sd62.used st) 8 ++ Sd62.spread c 8 := by
        show Sd62.spread (Sd62.used st) 8 ++ (Sd62.spread c 8 ++ []) = _
        rw [List.append_nil]
      show _ = 0 :: (Sd62.words [Sd62.used st, c] ++ Sd62.zeros 48)
      rw [e2]
      rfl
end
end VP

/-! ### plain: a state by its six components -/
namespace VP
def rowLo (a b c : List Nat) (i : Nat) : List Nat := (a.drop (2 * i)).take 2 ++ ((b.drop (2 * i)).take 2 ++ (c.drop (4 * i)).take 4)
def rowHi (d : List Nat) (i : Nat) : List Nat := (d.drop (8 * i)).take 8
def nf (m k a b c d : List Nat) : Sd62.St := ⟨m, (List.range 16).map (rowLo a b c) ++ (List.range 16).map (rowHi d), k⟩
structure NfL (a b c d : List Nat) : Prop where
  a : a.length = 32
  b : b.length = 32
  c : c.length = 64
  d : d.length = 128
theorem nf_low {m k a b c d : List Nat} {i : Nat} (h : i < 16) : (nf m k a b c d).v[i]? = some (rowLo a b c i) := by
  show ((List.range 16).map (rowLo a b c) ++ (List.range 16).map (rowHi d))[i]? = _
  rw [List.getElem?_append_left (by rw [List.length_map, List.length_range]; exact h), List.getElem?_map, List.getElem?_range h]
  rfl
theorem nf_high {m k a b c d : List Nat} {i : Nat} (h : i < 16) : (nf m k a b c d).v[16 + i]? = some (rowHi d i) := by
  show ((List.range 16).map (rowLo a b c) ++ (List.range 16).map (rowHi d))[16 + i]? = _
  rw [List.getElem?_append_right (by rw [List.length_map, List.length_range]; omega), List.length_map, List.length_range, Nat.add_sub_cancel_left, List.getElem?_map, List.getElem?_range h]
  rfl
theorem nf_len (m k a b c d : List Nat) : (nf m k a b c d).v.length = 32 := by
  show ((List.range 16).map (rowLo a b c) ++ (List.range 16).map (rowHi d)).length = _
  rw [List.length_append, List.length_map, List.length_map, List.length_range]
/-- two tables of 32 rows are one if they are row by row -/
theorem rows_ext {u v : List (List Nat)} (hu : u.length = 32) (hv : v.length = 32) (h1 : ∀ i, i < 16 → u[i]? = v[i]?) (h2 : ∀ i, i < 16 → u[16 + i]? = v[16 + i]?) : u = v := by
  apply List.ext_getElem?
  intro i
  by_cases c1 : i < 16
  · exact h1 i c1
  · by_cases c2 : i < 32
    · have := h2 (i - 16) (by omega)
      rw [show 16 + (i - 16) = i by omega] at this
      exact this
    · rw [List.getElem?_eq_none (by omega), List.getElem?_eq_none (by omega)]
theorem set_1 (m k a b c d l : List Nat) : setPart (nf m k a b c d) 1 l = nf l k a b c d := rfl
theorem set_32 (m k a b c d l : List Nat) : setPart (nf m k a b c d) 32 l = nf m l a b c d := rfl
theorem set_rows {s : Sd62.St} {w : Nat} {l : List Nat} (h : w = 2 ∨ w = 4 ∨ w = 64) : setPart s w l = { s with v := rowsSet (rowOf s w l) 0 16 s.v } := by
  unfold setPart
  rw [if_neg (by omega), if_neg (by omega), if_neg (by omega)]
theorem dt_len {l : List Nat} {n i : Nat} (h : n * i + n ≤ l.length) : ((l.drop (n * i)).take n).length = n := by rw [List.length_take, List.length_drop]; omega
theorem nf_getD {m k a b c d : List Nat} {i : Nat} (h : i < 16) : (nf m k a b c d).v.getD i [] = rowLo a b c i := by rw [List.getD_eq_getElem?_getD, nf_low h]; rfl
theorem set_low {m k a b c d l a' b' c' : List Nat} {w : Nat} (hw : w = 2 ∨ w = 4 ∨ w = 64) (h : ∀ i, i < 16 → rowOf (nf m k a b c d) w l i = rowLo a' b' c' i) : setPart (nf m k a b c d) w l = nf m k a' b' c' d := by
  rw [set_rows hw]
  show (⟨m, rowsSet (rowOf (nf m k a b c d) w l) 0 16 (nf m k a b c d).v, k⟩ : Sd62.St) = ⟨m, (nf m k a' b' c' d).v, k⟩
  have e : rowsSet (rowOf (nf m k a b c d) w l) 0 16 (nf m k a b c d).v = (nf m k a' b' c' d).v := by
    refine rows_ext (by rw [rowsSet_length, nf_len]) (nf_len ..) (fun i hi => ?_) (fun i hi => ?_)
    · have := rowsSet_in (rowOf (nf m k a b c d) w l) 0 16 (nf m k a b c d).v i hi (by rw [nf_len]; decide)
      rw [Nat.zero_add] at this
      rw [this, nf_low hi, h i hi]
    · rw [rowsSet_out _ _ _ _ _ (by omega), nf_high hi, nf_high hi]
  rw [e]
theorem set_2 {m k a b c d l : List Nat} (n : NfL a b c d) (hl : l.length = 32) : setPart (nf m k a b c d) 2 l = nf m k l b c d := by
  refine set_low (.inl rfl) fun i hi => ?_
  unfold rowOf
  rw [if_neg (by decide), nf_getD hi]
  show ((rowLo a b c i).take 0 ++ (l.drop (2 * i)).take 2) ++ (rowLo a b c i).drop 2 = _
  have h1 : ((a.drop (2 * i)).take 2).length = 2 := dt_len (by rw [n.a]; omega)
  unfold rowLo
  rw [List.take_zero, List.nil_append, List.drop_left' h1]
theorem set_4 {m k a b c d l : List Nat} (n : NfL a b c d) (hl : l.length = 32) : setPart (nf m k a b c d) 4 l = nf m k a l c d := by
  refine set_low (.inr (.inl rfl)) fun i hi => ?_
  unfold rowOf
  rw [if_neg (by decide), nf_getD hi]
  show ((rowLo a b c i).take 2 ++ (l.drop (2 * i)).take 2) ++ (rowLo a b c i).drop 4 = _
  have h1 : ((a.drop (2 * i)).take 2).length = 2 := dt_len (by rw [n.a]; omega)
  have h2 : ((b.drop (2 * i)).take 2).length = 2 := dt_len (by rw [n.b]; omega)
  unfold rowLo
  rw [List.take_left' h1]
  have e : ((a.drop (2 * i)).take 2 ++ ((b.drop (2 * i)).take 2 ++ (c.drop (4 * i)).take 4)).drop 4 = (c.drop (4 * i)).take 4 := by
    rw [← List.append_assoc, List.drop_left' (by rw [List.length_append, h1, h2])]
  rw [e, List.append_assoc]
theorem set_64 {m k a b c d l : List Nat} (n : NfL a b c d) (hl : l.length = 64) : setPart (nf m k a b c d) 64 l = nf m k a b l d := by
  refine set_low (.inr (.inr rfl)) fun i hi => ?_
  unfold rowOf
  rw [if_neg (by decide), nf_getD hi]
  show ((rowLo a b c i).take 4 ++ (l.drop (4 * i)).take 4) ++ (rowLo a b c i).drop 8 = _
  have h1 : ((a.drop (2 * i)).take 2).length = 2 := dt_len (by rw [n.a]; omega)
  have h2 : ((b.drop (2 * i)).take 2).length = 2 := dt_len (by rw [n.b]; omega)
  have h3 : ((c.drop (4 * i)).take 4).length = 4 := dt_len (by rw [n.c]; omega)
  unfold rowLo
  have e : (((a.drop (2 * i)).take 2 ++ (b.drop (2 * i)).take 2) ++ (c.drop (4 * i)).take 4).drop 8 = [] := List.drop_eq_nil_of_le (by rw [List.length_append, List.length_append, h1, h2, h3]; decide)
  rw [← List.append_assoc, List.take_left' (by rw [List.length_append, h1, h2]), e, List.append_nil, List.append_assoc]
theorem set_128 {m k a b c d l : List Nat} (hl : l.length = 128) : setPart (nf m k a b c d) 128 l = nf m k a b c l := by
  have h0 : setPart (nf m k a b c d) 128 l = { nf m k a b c d with v := rowsSet (rowOf (nf m k a b c d) 128 l) 16 16 (nf m k a b c d).v } := rfl
  rw [h0]
  show (⟨m, rowsSet (rowOf (nf m k a b c d) 128 l) 16 16 (nf m k a b c d).v, k⟩ : Sd62.St) = ⟨m, (nf m k a b c l).v, k⟩
  have e : rowsSet (rowOf (nf m k a b c d) 128 l) 16 16 (nf m k a b c d).v = (nf m k a b c l).v := by
    refine rows_ext (by rw [rowsSet_length, nf_len]) (nf_len ..) (fun i hi => ?_) (fun i hi => ?_)
    · rw [rowsSet_out _ _ _ _ _ (by omega), nf_low hi, nf_low hi]
    · rw [rowsSet_in _ _ _ _ _ hi (by rw [nf_len]; decide), nf_high hi]
      rfl
  rw [e]
def z32 : List Nat := List.replicate 32 0
def z64 : List Nat := List.replicate 64 0
def z128 : List Nat := List.replicate 128 0
def z8 : List Nat := List.replicate 8 0
theorem fresh_nf : Sd62.fresh = nf z8 z8 z32 z32 z64 z128 := by decide
theorem zL : NfL z32 z32 z64 z128 := ⟨rfl, rfl, rfl, rfl⟩
/-- every state is its components -/
theorem nf_of {s : Sd62.St} (wf : Wf s) : s = nf s.m s.k (partOf s 2) (partOf s 4) (partOf s 64) (partOf s 128) := by
  have hcut : ∀ (v : List (List Nat)) (k i : Nat), (∀ l ∈ v, l.length = k) → i < v.length → (v.flatten.drop (k * i)).take k = v.getD i [] := by
    intro v
    induction v with
    | nil => intro k i _ h; exact absurd h (Nat.not_lt_zero _)
    | cons x v ih =>
      intro k i hv hi
      have hx := hv x List.mem_cons_self
      rw [List.flatten_cons]
      cases i with
      | zero =>
        rw [Nat.mul_zero, List.drop_zero, List.take_left' hx]
        rfl
      | succ i =>
        rw [Nat.mul_succ, Nat.add_comm, ← List.drop_drop, List.drop_left' hx, ih k i (fun l hl => hv l (List.mem_cons_of_mem _ hl)) (by rw [List.length_cons] at hi; omega)]
        rfl
  have low : ∀ (f n i : Nat), f + n ≤ 8 → i < 16 → ((((s.v.take 16).map fun l => (l.drop f).take n).flatten).drop (n * i)).take n = ((s.v.getD i []).drop f).take n := by
    intro f n i hfn hi
    have hlen : ((s.v.take 16).map fun l => (l.drop f).take n).length = 16 := by rw [List.length_map, List.length_take, wf.v32]; rfl
    rw [hcut _ n i (fun l hl => ?_) (by rw [hlen]; exact hi), List.getD_eq_getElem?_getD, List.getElem?_map, List.getElem?_take, if_pos hi]
    · have h2 : i < s.v.length := by rw [wf.v32]; omega
      rw [List.getD_eq_getElem?_getD, List.getElem?_eq_getElem h2]
      rfl
    · obtain ⟨x, hx, rfl⟩ := List.mem_map.mp hl
      rw [List.length_take, List.length_drop, wf.row x (List.mem_of_mem_take hx)]
      omega
  have hv : s.v = (nf s.m s.k (partOf s 2) (partOf s 4) (partOf s 64) (partOf s 128)).v := by
    refine rows_ext wf.v32 (nf_len ..) (fun i hi => ?_) (fun i hi => ?_)
    · have h2 : i < s.v.length := by rw [wf.v32]; omega
      rw [nf_low hi, List.getElem?_eq_getElem h2]
      have e0 : s.v.getD i [] = s.v[i] := by rw [List.getD_eq_getElem?_getD, List.getElem?_eq_getElem h2]; rfl
      have h8 := wf.row _ (List.getElem_mem h2)
      unfold rowLo
      have e2 := low 0 2 i (by decide) hi
      have e4 := low 2 2 i (by decide) hi
      have e64 := low 4 4 i (by decide) hi
      rw [e0] at e2 e4 e64
      have p2 : partOf s 2 = ((s.v.take 16).map fun l => (l.drop 0).take 2).flatten := rfl
      have p4 : partOf s 4 = ((s.v.take 16).map fun l => (l.drop 2).take 2).flatten := rfl
      have p64 : partOf s 64 = ((s.v.take 16).map fun l => (l.drop 4).take 4).flatten := rfl
      rw [p2, p4, p64, e2, e4, e64, List.drop_zero]
      have q1 : (s.v[i].drop 4).take 4 = s.v[i].drop 4 := List.take_of_length_le (by rw [List.length_drop, h8]; decide)
      have q2 : (s.v[i].drop 2).take 2 ++ s.v[i].drop 4 = s.v[i].drop 2 := by
        have := List.take_append_drop 2 (s.v[i].drop 2)
        rw [List.drop_drop] at this
        exact this
      rw [q1, q2, List.take_append_drop]
    · have h2 : 16 + i < s.v.length := by rw [wf.v32]; omega
      rw [nf_high hi, List.getElem?_eq_getElem h2]
      unfold rowHi
      have p128 : partOf s 128 = (s.v.drop 16).flatten := rfl
      rw [p128, hcut (s.v.drop 16) 8 i (fun l hl => wf.row l (List.mem_of_mem_drop hl)) (by rw [List.length_drop, wf.v32]; omega), List.getD_eq_getElem?_getD, List.getElem?_drop, List.getElem?_eq_getElem h2]
      rfl
  obtain ⟨m, v, k⟩ := s
  show (⟨m, v, k⟩ : Sd62.St) = ⟨m, _, k⟩
  exact congrArg (fun z => (⟨m, z, k⟩ : Sd62.St)) hv
/-- a copy, component by component -/
def copySt (s : Sd62.St) : Nat → Sd62.St
  | 0 => Sd62.fresh
  | i + 1 => match ([1, 2, 4, 32, 64, 128] : List Nat)[i]? with
    | none => copySt s i
    | some w => setPart (copySt s i) w (partOf s w)
theorem copy_is {s : Sd62.St} (wf : Wf s) : copySt s 6 = s := by
  have l2 := part_len wf (w := 2) (.inr (.inl rfl))
  have l4 := part_len wf (w := 4) (.inr (.inr (.inl rfl)))
  have l64 := part_len wf (w := 64) (.inr (.inr (.inr (.inr (.inl rfl)))))
  have l128 := part_len wf (w := 128) (.inr (.inr (.inr (.inr (.inr rfl)))))
  have e : copySt s 6 = setPart (setPart (setPart (setPart (setPart (setPart Sd62.fresh 1 (partOf s 1)) 2 (partOf s 2)) 4 (partOf s 4)) 32 (partOf s 32)) 64 (partOf s 64)) 128 (partOf s 128) := rfl
  rw [e, fresh_nf, set_1, set_2 zL l2, set_4 ⟨l2, rfl, rfl, rfl⟩ l4, set_32, set_64 ⟨l2, l4, rfl, rfl⟩ l64, set_128 l128]
  exact (nf_of wf).symm
end VP

/-! ### the machine: copied, poke, differ -/
namespace VP
open PySem PySem.Spec PyProof.Rows L2
open Evl (Ex RetL RetV Ev EvL EvT EvA EvO)
def spCopied (A : Ad) : Sp := spOf (fun (⟨f, _⟩ : Foot × Sd62.St) => [.ref f.a]) fun ⟨f, s⟩ H Q _ => StC A.cState H f s ∧ Wf s ∧ ∀ a H', StAt A.cState H H' a s → Q (.ref a) H'
def prePoke (ns : List Nat) (_ : Nat) (_ : Sd62.St) : Prop := ∃ n row, ns = n :: row ∧ row.length = 64 ∧ ∀ x ∈ row, x < 256
def pokeSt (s : Sd62.St) (n : Nat) (row : List Nat) : Sd62.St :=
  if n < 32 then { s with v := s.v.set n (numsOf row) } else if n < 40 then s.setM (n - 32) ((numsOf row).getD 0 0) else s.setK (n - 40) ((numsOf row).getD 0 0)
def outPoke (ns : List Nat) (c : Nat) (s : Sd62.St) : Outc :=
  if ns.headD 0 < 48 then (if ns.headD 0 < 32 ∨ Sd62.some0 (ns.drop 9) = false then (if hasAllB c (Sd62.used (pokeSt s (ns.headD 0) (ns.drop 1))) = true then .inr ([0], c, pokeSt s (ns.headD 0) (ns.drop 1)) else .inl (-3)) else .inl (-2)) else .inl (-1)
def preDiffer (ns : List Nat) (_ : Nat) (_ : Sd62.St) : Prop := ∃ n m l, ns = n :: m :: l ∧ (∀ x ∈ l, x < 256)
def diffOf (s t : Sd62.St) : Nat := (([1, 2, 4, 32, 64, 128] : List Nat).filter fun w => decide (partOf s w ≠ partOf t w)).sum
def outDiffer (ns : List Nat) (c : Nat) (s : Sd62.St) : Outc :=
  if ns.getD 0 0 ≤ 2688 ∧ ns.getD 1 0 ≤ 2688 then (match readOf ((ns.drop 2).take (ns.getD 0 0)), readOf (ns.drop (2 + ns.getD 0 0)) with
    | some x, some y => .inr ([diffOf x y], c, s)
    | _, _ => .inl (-2)) else .inl (-2)
section
variable {P : Program} {w : World} {K : PySem.W.Frag} {mg : Str → Option Value} {base : Heap} {A : Ad}
theorem ok_copied (T : Txt K mg A) : Cal P w K mg base 3 "copied" (spCopied A) := by
  have c_State := ok_State (P := P) (w := w) (base := base) T
  have c_State_part := ok_part (P := P) (w := w) (base := base) T
  have c_State_set_part := ok_set_part (P := P) (w := w) (base := base) T
  refine Cal.of T.D_copied sc_copied (spOf_len fun ⟨_, _⟩ => rfl) fun f cdv A' outer s H vs Q E hr h => ?_
  have nd := sc_copied.nd
  obtain ⟨⟨f, st⟩, hv, hc, wf, k⟩ := h
  obtain rfl : vs = [V.ref f.a] := hv
  refine ⟨_, (pss_cons (ps_set (i := 1) nd rfl (Or.inl rfl) (pe_k0 c_State hr (by decide) rfl))
 (pss_cons (ps_for PassesOwn.never rfl (pi_tupK (K := K) rfl (pe_gv rfl T.g_WEIGHTS)) (pg_name (i := 2) nd rfl (Or.inl rfl)) (pss_one (ps_expr (pe_m T.cl_State c_State_set_part hr (by decide) (pv 1) (pa_cons (pv 2) (pa_cons (pe_m T.cl_State c_State_part hr (by decide) (pv 0) (pa_cons (pv 2) pa_nil)) pa_nil))))))
 (pss_one (ps_ret (pv 1))))), ?_⟩
  refine q_mkState fun a H1 hS1 => ?_
  refine ⟨_, rfl, ⟨_, T.t_WEIGHTS _⟩, for_tup (K := K) (a := A.aWEIGHTS) (xs := nv [1, 2, 4, 32, 64, 128]) (fun i σ H' => (∃ v : Option V, σ = [some (.ref f.a), some (.ref a), v]) ∧ StAt A.cState H H' a (copySt st i))
    ⟨⟨none, rfl⟩, hS1⟩ (fun _ _ H' _ _ => T.t_WEIGHTS H') ?_ ?_⟩
  · rintro i x σ H2 hx ⟨⟨v, rfl⟩, hS2⟩
    obtain ⟨wt, hw, rfl⟩ := nv_get_of hx
    have hwt : isW wt := by
      have h := List.mem_of_getElem? hw
      have h2 : wt = 1 ∨ wt = 2 ∨ wt = 4 ∨ wt = 32 ∨ wt = 64 ∨ wt = 128 := by simpa using h
      exact h2
    have hst : copySt st (i + 1) = setPart (copySt st i) wt (partOf st wt) := by
      show (match ([1, 2, 4, 32, 64, 128] : List Nat)[i]? with | none => copySt st i | some w => setPart (copySt st i) w (partOf st w)) = _
      rw [hw]
    have hc2 := hc.mono hS2.sm
    obtain ⟨g, ga, hcg, _, _⟩ := hS2.foot
    refine ⟨_, rfl, a, g.dx, sF g, rfl, by rw [← ga]; exact hcg.ins, sF_set_part g, _, rfl, ?_⟩
    refine el_part (n := wt) hc2 wf (Evl.ev_var rfl) (Evl.ev_var rfl) rfl hwt H2 (Ex.refl _) _ fun p H3 hp e3 h3 => ?_
    refine ⟨⟨grow H H2 H3, a, copySt st i, wt, p, partOf st wt⟩, rfl, hS2.grow e3, hwt, SqL.of (grow_new hp h3), part_len wf hwt, part_lt wf, fun H4 hS4 => ?_⟩
    refine ⟨⟨some (.int (wt : Int)), rfl⟩, ?_⟩
    rw [hst]
    exact hS4.less (grow_old hS2.sm)
  · rintro σ H2 ⟨⟨v, rfl⟩, hS2⟩
    have hS2' : StAt A.cState H H2 a (copySt st 6) := hS2
    rw [copy_is wf] at hS2'
    exact ⟨_, rfl, k a H2 hS2'⟩
theorem ok_poke (T : Txt K mg A) : Cal P w K mg base 4 "poke" (spOp K A prePoke outPoke) := by
  have c_need := ok_need (P := P) (w := w) (base := base) T
  have c_copied := ok_copied (P := P) (w := w) (base := base) T
  have c_numbers_in := ok_numbers_in (P := P) (w := w) (base := base) T
  have c_has_all := ok_has_all (P := P) (w := w) (base := base) T
  have c_State_used := ok_used (P := P) (w := w) (base := base) T
  refine Cal.ofX T.D_poke sc_poke (spOf_len fun ⟨_, _, _, _, _, _⟩ => rfl) fun f cdv A' outer s H vs Q E hr h => ?_
  have nd := sc_poke.nd
  obtain ⟨⟨H0, d, l, ns, c, st⟩, hv, hD, hL, ⟨n, row, rfl, hrow, hb⟩, k⟩ := h
  obtain rfl : vs = [V.ref d, V.ref l] := hv
  have tk := takes_of (X := cxOf (L2.CX P w) P w K mg base ["desk", "numbers", "at", "row", "state", "told", "byte"] "poke" (defScope s_poke) f cdv A' outer s H E) rfl rfl rfl rfl
  refine ⟨_, (pss_cons (ps_par (i := 2) (j := 3) (by rfl) nd rfl rfl (by decide) rfl rfl (pa_cons (pe_ix (ix_listK (K := K) rfl) (pv 1) pe_int (fun _ _ => rfl)) (pa_cons (pe_slice (sl_listK (K := K) rfl) (pv 1) (po_some pe_int) po_none) pa_nil)) (by rfl))
 (pss_cons (ps_expr (pe_cX c_need hr (by decide) rfl tk (pa_cons (pe_cmpR op_lt (pv 2) (pe_gv rfl T.g_ALL_PLACE) (nomark _)) (pa_cons (pe_gv rfl T.g_OUT_OF_RANGE) pa_nil))))
 (pss_cons (ps_expr (pe_cX c_need hr (by decide) rfl tk (pa_cons (pe_or (pe_cmpR op_lt (pv 2) (pe_gv rfl T.g_V_COUNT) (nomark _)) (pe_one (pe_not (pe_callB (cr_anyK (K := K) rfl rfl) (by rfl) T.b_any (by decide +kernel) (pa_cons (pe_lc (own := [("byte", 6)]) (g := gName 6) rfl nd (pi_listK (K := K) rfl (pe_slice (sl_listK (K := K) rfl) (pv 3) (po_some (pe_gv rfl T.g_WORD_SIZE)) po_none)) (blkOk_by (own := [("byte", 6)]) (N := ["desk", "numbers", "at", "row", "state", "told", "byte"]) (sc := defScope s_poke) (by decide +kernel)) (fun _ _ _ _ _ => by exact (pg_name (i := 6) nd rfl (Or.inl rfl))) (fun _ _ _ _ _ => by exact pts_nil) (fun _ _ _ _ _ => by exact (pe_cmpR op_ne (pv 6) pe_int (nomark _)))) pa_nil))))) (pa_cons (pe_gv rfl T.g_NONE_SUCH) pa_nil))))
 (pss_cons (ps_set (i := 4) nd rfl (Or.inl rfl) (pe_c c_copied hr (by decide) rfl (pa_cons (pe_fldK (K := K) rfl (pv 0) rfl) pa_nil)))
 (pss_cons (ps_set (i := 5) nd rfl (Or.inl rfl) (pe_c c_numbers_in hr (by decide) rfl (pa_cons (pv 3) pa_nil)))
 (pss_cons (ps_if (pt_cmpR op_lt (pv 2) (pe_gv rfl T.g_V_COUNT) (nomark _)) (pss_one (ps_asg (pe_slice (sl_listK (K := K) rfl) (pv 5) po_none (po_some (pe_gv rfl T.g_LANES))) (pg_sub (pe_fldK (K := K) rfl (pv 4) rfl) (pv 2) set_list))) (pss_one (ps_if (pt_cmpR op_lt (pv 2) (pe_gv rfl T.g_FIRST_K) (nomark _)) (pss_one (ps_asg (pe_ix (ix_listK (K := K) rfl) (pv 5) pe_int (fun _ _ => rfl)) (pg_sub (pe_fldK (K := K) rfl (pv 4) rfl) (pe_op op_sub (pv 2) (pe_gv rfl T.g_FIRST_M)) set_list))) (pss_one (ps_asg (pe_ix (ix_listK (K := K) rfl) (pv 5) pe_int (fun _ _ => rfl)) (pg_sub (pe_fldK (K := K) rfl (pv 4) rfl) (pe_op op_sub (pv 2) (pe_gv rfl T.g_FIRST_K)) set_list))))))
 (pss_cons (ps_expr (pe_cX c_need hr (by decide) rfl tk (pa_cons (pe_c c_has_all hr (by decide) rfl (pa_cons (pe_fldK (K := K) rfl (pv 0) rfl) (pa_cons (pe_m0 T.cl_State c_State_used hr (by decide) (pv 4)) pa_nil))) (pa_cons (pe_gv rfl T.g_NO_COMPONENT) pa_nil))))
 (pss_cons (ps_fld (pv 0) (pv 4) rfl)
 (pss_one (ps_ret (pe_lst (pa_cons pe_int pa_nil)))))))))))), ?_⟩
  have hnums : (numsOf row).length = 8 := by
    unfold numsOf
    rw [List.length_map, List.length_range, hrow]
  have hnlt : ∀ x ∈ numsOf row, x < 2 ^ 64 := by
    intro x hx
    unfold numsOf at hx
    obtain ⟨i, _, rfl⟩ := List.mem_map.mp hx
    exact numOf_lt64 (fun b h => hb b (List.mem_of_mem_drop (List.mem_of_mem_take h))) (by rw [List.length_take]; omega)
  refine ev_item (i := 0) (n := n) (K := K) (σ := L2.start ["desk", "numbers", "at", "row", "state", "told", "byte"] [V.ref d, V.ref l]) (eq_var rfl hL) Evl.ev_c rfl rfl H (Ex.refl _) _ fun H1 e1 => ?_
  refine el_from (o1 := 1) (ns := n :: row) (eq_var (K := K) rfl (Evl.ex_l e1 hL)) Evl.ev_c rfl H1 (Ex.refl _) _ fun r H2 hr2 e2 h2 => ⟨_, _, rfl, ?_⟩
  have h2 : H2 r = some (.lst (nv row)) := h2
  have e12 := e1.trans e2
  refine q_need (b := decide (n < 48)) (Evl.ev_is (Evl.ev_op (Evl.ev_var rfl) Evl.ev_c Evl.rv_I0) (congrArg V.bl (decide_eq_decide.mpr (by omega)))) Evl.ev_c (fun hf H3 e3 => ?_) fun ht H3 e3 => ?_
  · have ho : outPoke (n :: row) c st = .inl (-1) := if_neg (of_decide_eq_false hf)
    rw [ho] at k
    exact RetX.go k (e12.trans e3)
  have hn := of_decide_eq_true ht
  have e13 := e12.trans e3
  have hrow3 : EvQ K (tVar 3) [some (.ref d), some (.ref l), some (.int (n : Int)), some (.ref r), none, none, none] H3 (nv row) := eq_var rfl (SqL.of (e3 _ _ h2))
  refine q_need (b := decide (n < 32) || !(Sd62.some0 (row.drop 8))) (Evl.ev_orV (Evl.ev_is (Evl.ev_op (Evl.ev_var rfl) Evl.ev_c Evl.rv_I0) (congrArg V.bl (decide_eq_decide.mpr (by omega)))) fun _ =>
    Evl.ev_notV (Evl.ev_is (ev_any (K := K) (el_is (el_mapQ (K := K) (fun y => V.bl (decide (y ≠ 0))) (eq_new (el_from (o1 := 8) hrow3 Evl.ev_c rfl)) (by rw [List.length_drop]; omega) (fun _ => rfl) fun y H4 e4 hy => ?_) (any_map_bl _ _))) (congrArg V.bl ?_))) Evl.ev_c (fun hf H4 e4 => ?_) fun ht2 H4 e4 => ?_
  · refine Evl.ev_is (Evl.ev_op (Evl.ev_var rfl) Evl.ev_c (Evl.rv_ne rfl)) (congrArg V.bl ?_)
    rw [dInt, ← decide_not]
    exact decide_eq_decide.mpr (by omega)
  · unfold Sd62.some0
    rw [List.any_map]
    congr 1
    funext y
    by_cases h : y = 0
    · subst h; rfl
    · show decide (y ≠ 0) = (y != 0)
      rw [decide_eq_true h]
      exact (bne_iff_ne.mpr h).symm
  · have ho : outPoke (n :: row) c st = .inl (-2) := by
      refine (if_pos hn).trans (if_neg fun z => ?_)
      have hf' := Bool.or_eq_false_iff.mp hf
      rcases z with z | z
      · exact of_decide_eq_false hf'.1 z
      · have z' : Sd62.some0 (row.drop 8) = false := z
        rw [z'] at hf'
        cases hf'.2
    rw [ho] at k
    exact RetX.go k (e13.trans e4)
  have ho : outPoke (n :: row) c st = if hasAllB c (Sd62.used (pokeSt st n row)) = true then .inr ([0], c, pokeSt st n row) else .inl (-3) := by
    refine (if_pos hn).trans (if_pos ?_)
    rcases Bool.or_eq_true_iff.mp ht2 with z | z
    · exact .inl (of_decide_eq_true z)
    · refine .inr ?_
      show Sd62.some0 (row.drop 8) = false
      cases hz : Sd62.some0 (row.drop 8) with
      | false => rfl
      | true => rw [hz] at z; cases z
  rw [ho] at k
  have e14 := e13.trans e4
  have hD4 := hD.mono e14
  obtain ⟨dx, fo, hd4, hc4, _⟩ := hD4.foot
  refine ⟨_, rfl, d, A.cDesk, dx, _, _, rfl, hd4, T.cl_Desk, T.n_Desk_state, dF_state c fo.a, ⟨fo, st⟩, rfl, hc4, hD.wf, fun a H5 hS5 => ?_⟩
  have h2' : SqL K H4 r (nv row) := SqL.of (e4 _ _ (e3 _ _ h2))
  refine Evl.q_asgL (el_numbers_in (K := K) (eq_var rfl (Evl.ex_l hS5.sm h2')) (by omega)) fun t H6 ht6 e6 h6 => ?_
  obtain ⟨g, rfl, hcg, hapg, hfrg⟩ := hS5.foot
  have hcg6 := hcg.mono e6
  have fin : ∀ H7, StAt A.cState H4 H7 g.a (pokeSt st n row) →
      tSeq (tDrop (tCallS (spNeed A.cRefusal) (WE fun cls d x H => E cls d H) (tCons (tCallS spHasAll (fun _ => E0) (tCons (tFld K (tVar 0) "components") (tCons (tMeth0 A.cState "used" (spUsed A.cState) (tVar 4)) tNil))) (tCons (tC (.int (-3))) tNil))))
        (tSeq (sFld K (tVar 0) (tVar 4) "state") (tRet (tLst (tCons (tC (.int 0)) tNil)))) { nx := fun _ H' => Q .non H', rt := Q } [some (.ref d), some (.ref l), some (.int (n : Int)), some (.ref r), some (.ref g.a), some (.ref t), none] H7 := by
    intro H7 hS7
    have hD7 := hD4.mono hS7.sm
    obtain ⟨g7, hg7, hc7, _, _⟩ := hS7.foot
    refine q_need (ev_has_all (c := c) (ev_dc T hD7 (Evl.ev_var rfl)) (ev_used hc7 hS7.wf (by rw [hg7]; exact Evl.ev_var rfl))) Evl.ev_c (fun hf H8 e8 => ?_) fun ht3 H8 e8 => ?_
    · rw [if_neg (by rw [hf]; decide)] at k
      exact RetX.go k ((e14.trans hS7.sm).trans e8)
    · rw [if_pos ht3] at k
      have hd8 := e8 _ _ (hS7.sm _ _ hd4)
      refine ⟨_, rfl, _, rfl, d, A.cDesk, dx, _, rfl, hd8, T.cl_Desk, T.n_Desk_state, by show 2 < 1000; decide, ?_⟩
      rw [dF_put_state]
      have hD8 := DeskAt.put (A := A) (dx := dx) (c := c) hD4.sm hD.fr hd4 (hS7.mono e8)
      exact Evl.s_retL (σ := []) (el_one (n := 0) Evl.ev_c) fun q H9 hq e9 h9 => k q H9 (hD8.mono e9) (Evl.fresh_back hD8.sm hq) h9
  have wf := hD.wf
  have tq : EvQ K (tVar 5) [some (.ref d), some (.ref l), some (.int (n : Int)), some (.ref r), some (.ref g.a), some (.ref t), none] H6 (nv (numsOf row)) := eq_var rfl (SqL.of h6)
  have e46 := hS5.sm.trans e6
  have t0 : (numsOf row)[0]? = some ((numsOf row).getD 0 0) := by rw [getD_of (by omega)]; exact List.getElem?_eq_getElem _
  have t0lt : (numsOf row).getD 0 0 < 2 ^ 64 := by rw [getD_of (by omega)]; exact hnlt _ (List.getElem_mem _)
  refine Evl.q_if (et_I0 (Evl.ev_var rfl) Evl.ev_c) (fun hb1 H7 e7 => ?_) (fun hb1 H7 e7 => ?_)
  · have c1 := of_decide_eq_true hb1
    have c1 : n < 32 := by omega
    have hp : pokeSt st n row = { st with v := st.v.set n (numsOf row) } := if_pos c1
    rw [hp] at fin
    have ht8 : (numsOf row).take 8 = numsOf row := List.take_of_length_le (by omega)
    refine s_setV (xs := numsOf row) (j := n) (hcg6.mono e7) hapg hfrg (e46.trans e7) wf (el_is (el_to (o2 := 8) (tq.mono e7) Evl.ev_c rfl) (by rw [ht8])) (ev_fld (Evl.ev_var rfl) (hcg6.mono e7).ins T.cl_State T.n_State_vectors (sF_vectors g)) (Evl.ev_var rfl) c1 hnums hnlt fun H8 hS8 => fin H8 hS8
  have c1 := of_decide_eq_false hb1
  have c1 : ¬ n < 32 := by omega
  refine Evl.s_if (et_I0 (Evl.ev_var rfl) Evl.ev_c) (fun hb2 H8 e8 => ?_) (fun hb2 H8 e8 => ?_)
  · have c2 := of_decide_eq_true hb2
    have c2 : n < 40 := by omega
    have hp : pokeSt st n row = st.setM (n - 32) ((numsOf row).getD 0 0) := by
      unfold pokeSt
      rw [if_neg c1, if_pos c2]
    rw [hp] at fin
    have e78 := e7.trans e8
    exact s_setW (n := (numsOf row).getD 0 0) (j := n - 32) (hcg6.mono e78) hapg hfrg (e46.trans e78) wf (ev_item (i := 0) (tq.mono e78) Evl.ev_c rfl t0) rfl (ev_fld (Evl.ev_var rfl) (hcg6.mono e78).ins T.cl_State T.n_State_words (sF_words g)) (Evl.ev_is (ev_sub (Evl.ev_var rfl) Evl.ev_c) (congrArg V.int (by omega))) (by omega) t0lt fun H9 hS9 => fin H9 hS9
  · have c2 := of_decide_eq_false hb2
    have c2 : ¬ n < 40 := by omega
    have hp : pokeSt st n row = st.setK (n - 40) ((numsOf row).getD 0 0) := by
      unfold pokeSt
      rw [if_neg c1, if_neg c2]
    rw [hp] at fin
    have e78 := e7.trans e8
    exact s_setKy (n := (numsOf row).getD 0 0) (j := n - 40) (hcg6.mono e78) hapg hfrg (e46.trans e78) wf (ev_item (i := 0) (tq.mono e78) Evl.ev_c rfl t0) rfl (ev_fld (Evl.ev_var rfl) (hcg6.mono e78).ins T.cl_State T.n_State_masks (sF_masks g)) (Evl.ev_is (ev_sub (Evl.ev_var rfl) Evl.ev_c) (congrArg V.int (by omega))) (by omega) t0lt fun H9 hS9 => fin H9 hS9
theorem ok_differ (T : Txt K mg A) : Cal P w K mg base 9 "differ" (spOp K A preDiffer outDiffer) := by
  have c_need := ok_need (P := P) (w := w) (base := base) T
  have c_state_in := ok_state_in (P := P) (w := w) (base := base) T
  have c_State_part := ok_part (P := P) (w := w) (base := base) T
  refine Cal.ofX T.D_differ sc_differ (spOf_len fun ⟨_, _, _, _, _, _⟩ => rfl) fun f cdv A' outer s H vs Q E hr h => ?_
  have nd := sc_differ.nd
  obtain ⟨⟨H0, d, l, ns, c, st⟩, hv, hD, hL, ⟨n, m, ls, rfl, hb⟩, k⟩ := h
  obtain rfl : vs = [V.ref d, V.ref l] := hv
  have tk := takes_of (X := cxOf (L2.CX P w) P w K mg base ["desk", "numbers", "many", "others", "one", "other", "weight"] "differ" (defScope s_differ) f cdv A' outer s H E) rfl rfl rfl rfl
  refine ⟨_, (pss_cons (ps_asg (pe_slice (sl_listK (K := K) rfl) (pv 1) po_none (po_some pe_int)) (pg_lstK (K := K) rfl rfl (pgs_cons (pg_name (i := 2) nd rfl (Or.inl rfl)) (pgs_cons (pg_name (i := 3) nd rfl (Or.inl rfl)) pgs_nil))))
 (pss_cons (ps_expr (pe_cX c_need hr (by decide) rfl tk (pa_cons (pe_and (pe_cmpR op_le (pv 2) (pe_gv rfl T.g_MOST_BYTES) (nomark _)) (pe_one (pe_cmpR op_le (pv 3) (pe_gv rfl T.g_MOST_BYTES) (nomark _)))) (pa_cons (pe_gv rfl T.g_NONE_SUCH) pa_nil))))
 (pss_cons (ps_set (i := 4) nd rfl (Or.inr rfl) (pe_cX c_state_in hr (by decide) rfl tk (pa_cons (pv 2) (pa_cons (pe_slice (sl_listK (K := K) rfl) (pv 1) (po_some pe_int) (po_some (pe_op op_add pe_int (pv 2)))) pa_nil))))
 (pss_cons (ps_set (i := 5) nd rfl (Or.inr rfl) (pe_cX c_state_in hr (by decide) rfl tk (pa_cons (pv 3) (pa_cons (pe_slice (sl_listK (K := K) rfl) (pv 1) (po_some (pe_op op_add pe_int (pv 2))) po_none) pa_nil))))
 (pss_one (ps_ret (pe_lst (pa_cons (pe_callB (cr_sumK (K := K) rfl rfl) (by rfl) T.b_sum (by decide +kernel) (pa_cons (pe_lc (own := [("weight", 6)]) (g := gName 6) rfl nd (pi_tupK (K := K) rfl (pe_gv rfl T.g_WEIGHTS)) (blkOk_by (own := [("weight", 6)]) (N := ["desk", "numbers", "many", "others", "one", "other", "weight"]) (sc := defScope s_differ) (by decide +kernel)) (fun _ _ _ _ _ => by exact (pg_name (i := 6) nd rfl (Or.inl rfl))) (fun _ _ _ _ _ => by exact (pts_one (pt_cmpR (op_neK (K := K) rfl hr.units) (pe_m T.cl_State c_State_part hr (by decide) (pv 4) (pa_cons (pv 6) pa_nil)) (pe_m T.cl_State c_State_part hr (by decide) (pv 5) (pa_cons (pv 6) pa_nil)) (nomark _)))) (fun _ _ _ _ _ => by exact (pv 6))) pa_nil)) pa_nil)))))))), ?_⟩
  refine el_to (o2 := 2) (ns := n :: m :: ls) (eq_var (K := K) rfl hL) Evl.ev_c rfl H (Ex.refl _) _ fun l2 H1 hl2 e1 h2 => ?_
  refine ⟨l2, _, rfl, SqL.of h2, rfl, _, _, rfl, _, _, rfl, rfl, ?_⟩
  refine q_need (b := decide (n ≤ 2688) && decide (m ≤ 2688)) (Evl.ev_andV (Evl.ev_is (Evl.ev_op (Evl.ev_var rfl) Evl.ev_c Evl.rv_I0) (congrArg V.bl (decide_eq_decide.mpr (by omega)))) fun _ => Evl.ev_is (Evl.ev_op (Evl.ev_var rfl) Evl.ev_c Evl.rv_I0) (congrArg V.bl (decide_eq_decide.mpr (by omega)))) Evl.ev_c (fun hf H2 e2 => ?_) fun ht H2 e2 => ?_
  · have ho : outDiffer (n :: m :: ls) c st = .inl (-2) := if_neg (fun z => by
      have z1 : n ≤ 2688 := z.1
      have z2 : m ≤ 2688 := z.2
      rw [decide_eq_true z1, decide_eq_true z2] at hf
      cases hf)
    rw [ho] at k
    exact RetX.go k (e1.trans e2)
  have ht' := Bool.and_eq_true_iff.mp ht
  have hn := of_decide_eq_true ht'.1
  have hm := of_decide_eq_true ht'.2
  have e12 := e1.trans e2
  have ho : outDiffer (n :: m :: ls) c st = match readOf (ls.take n), readOf (ls.drop n) with
    | some x, some y => .inr ([diffOf x y], c, st)
    | _, _ => .inl (-2) := by
    refine (if_pos (show n ≤ 2688 ∧ m ≤ 2688 from ⟨hn, hm⟩)).trans ?_
    have q1 : (n :: m :: ls).drop (2 + n) = ls.drop n := by rw [Nat.add_comm]; rfl
    show (match readOf (ls.take n), readOf ((n :: m :: ls).drop (2 + n)) with | some x, some y => _ | _, _ => _) = _
    rw [q1]
  have cut1 : ((n :: m :: ls).drop 2).take (2 + n - 2) = ls.take n := by rw [Nat.add_sub_cancel_left]; rfl
  refine q_asgSI (m := n) (ls := ls.take n) (Evl.ev_var rfl) rfl (eq_new (el_is (el_cut (o1 := 2) (o2 := 2 + n) (ns := n :: m :: ls) (eq_var rfl (Evl.ex_l e12 hL)) Evl.ev_c (ev_add Evl.ev_c (Evl.ev_var rfl)) rfl (by omega)) (by rw [cut1]))) (fun x hx => hb x (List.mem_of_mem_take hx)) (fun hx H3 e3 => ?_) (fun _ s1 hs1 a1 H3 hS3 => ?_)
  · have h0 : readOf (ls.take n) = none := by
      rcases hx with z | z
      · omega
      · exact z
    rw [ho, h0] at k
    exact RetX.go (c := -2) k (e12.trans e3)
  have e13 := e12.trans hS3.sm
  refine q_asgSI (m := m) (ls := ls.drop n) (Evl.ev_var rfl) rfl (eq_new (el_is (el_from (o1 := 2 + n) (ns := n :: m :: ls) (eq_var rfl (Evl.ex_l e13 hL)) (ev_add Evl.ev_c (Evl.ev_var rfl)) (by omega)) (by rw [Nat.add_comm 2 n]; rfl))) (fun x hx => hb x (List.mem_of_mem_drop hx)) (fun hx H4 e4 => ?_) (fun _ s2 hs2 a2 H4 hS4 => ?_)
  · have h0 : readOf (ls.drop n) = none := by
      rcases hx with z | z
      · omega
      · exact z
    rw [ho, hs1, h0] at k
    exact RetX.go (c := -2) k (e13.trans e4)
  rw [ho, hs1, hs2] at k
  obtain ⟨f1, rfl, hc1, _, _⟩ := (hS3.mono hS4.sm).foot
  obtain ⟨f2, rfl, hc2, _, _⟩ := hS4.foot
  have wf1 := hS3.wf
  have wf2 := hS4.wf
  refine Evl.s_retL (xs := nv [diffOf s1 s2]) (el_one ?_) fun q H5 hq e5 h5 => k q H5 (hD.mono ((e13.trans hS4.sm).trans e5)) (Evl.fresh_back (hD.mono (e13.trans hS4.sm)).sm hq) h5
  intro H5 e5 R q
  refine ⟨_, rfl, ⟨_, T.t_WEIGHTS _⟩, fun Dl hDl => ?_⟩
  refine lc_vals (walk_tup (K := K) (a := A.aWEIGHTS) (xs := nv [1, 2, 4, 32, 64, 128])) (fun i => decide (partOf s1 (([1, 2, 4, 32, 64, 128] : List Nat).getD i 0) ≠ partOf s2 (([1, 2, 4, 32, 64, 128] : List Nat).getD i 0))) (fun i => .int ((([1, 2, 4, 32, 64, 128] : List Nat).getD i 0 : Nat) : Int)) (by decide) hDl (fun H' e => T.t_WEIGHTS H') ?_ ?_
  · rintro i x H6 H7 R2 S2 hi e6 ⟨rfl, hx⟩ kT kF
    obtain ⟨wt, hw, rfl⟩ := nv_get_of hx
    have hwt : isW wt := by
      have h := List.mem_of_getElem? hw
      have h2 : wt = 1 ∨ wt = 2 ∨ wt = 4 ∨ wt = 32 ∨ wt = 64 ∨ wt = 128 := by simpa using h
      exact h2
    have eg : ([1, 2, 4, 32, 64, 128] : List Nat).getD i 0 = wt := by rw [List.getD_eq_getElem?_getD, hw]; rfl
    simp only [eg] at kT kF
    have e57 := e5.trans e6
    refine ⟨rfl, ?_⟩
    refine el_part (n := wt) (hc1.mono e57) wf1 (Evl.ev_var rfl) (Evl.ev_var rfl) rfl hwt H7 (Ex.refl _) _ fun p1 H8 hp1 e8 h8 => ?_
    refine el_part (n := wt) (hc2.mono (e57.trans e8)) wf2 (Evl.ev_var rfl) (Evl.ev_var rfl) rfl hwt H8 (Ex.refl _) _ fun p2 H9 hp2 e9 h9 => ?_
    refine ⟨dN _, dN _, dp_nv (SqL.of (e9 _ _ h8)), dp_nv (SqL.of h9), shaped_dN _, shaped_dN _, _, rfl, ?_⟩
    rw [eqv_dN, ← decide_not]
    by_cases c1 : partOf s1 wt ≠ partOf s2 wt
    · rw [decide_eq_true c1]
      exact iteT ⟨_, rfl, kT (decide_eq_true c1) _ (e8.trans e9)⟩
    · rw [decide_eq_false c1]
      exact iteF (kF (decide_eq_false c1) _ (e8.trans e9))
  · intro H6 e6 hl6
    have h1 := given_filter ([1, 2, 4, 32, 64, 128] : List Nat) fun w => decide (partOf s1 w ≠ partOf s2 w)
    refine ⟨Dl, ((([1, 2, 4, 32, 64, 128] : List Nat).filter fun w => decide (partOf s1 w ≠ partOf s2 w)).map fun n => ((n : Nat) : Int)), rfl, SqL.of (hl6.trans ?_), ?_⟩
    · rw [← nv_ints]
      exact congrArg (fun z => some (HO.lst z)) h1
    · rw [sum_cast]
      exact q H6 e6
end
end VP

/-! ### the machine: run -/
namespace VP
open PySem PySem.Spec PyProof.Rows L2
open Evl (Ex RetL RetV Ev EvL EvT EvA EvO)
theorem rowsOf_len {ls : List Nat} {n : Nat} (h : ls.length = 6 * n) : rowsOf ls = (List.range n).map fun i => (ls.drop (6 * i)).take 6 := by
  unfold rowsOf
  rw [h, show (6 * n + 5) / 6 = n by omega]
theorem steps_rows : ∀ (n : Nat) (ls : List Nat), ls.length = 6 * n → rowsOf ls = (Sd62.steps ls).map rowS ∧ (Sd62.steps ls).length = n
  | 0, ls, h => by
    have e : ls = [] := List.eq_nil_of_length_eq_zero (by omega)
    subst e
    exact ⟨rfl, rfl⟩
  | n + 1, ls, h => by
    match ls, h with
    | a :: b :: c :: d :: e :: f :: r, h =>
      have hr : r.length = 6 * n := by simp only [List.length_cons] at h; omega
      obtain ⟨h1, h2⟩ := steps_rows n r hr
      refine ⟨?_, by show (Sd62.steps r).length + 1 = _; rw [h2]⟩
      rw [rowsOf_len h, List.range_succ_eq_map, List.map_cons, List.map_map]
      show _ = rowS ⟨a, b, c, d, e, f⟩ :: (Sd62.steps r).map rowS
      rw [← h1, rowsOf_len hr]
      congr 1
    | [], h => simp only [List.length_nil] at h; omega
    | [a], h => simp only [List.length_nil, List.length_cons] at h; omega
    | [a, b], h => simp only [List.length_nil, List.length_cons] at h; omega
    | [a, b, c], h => simp only [List.length_nil, List.length_cons] at h; omega
    | [a, b, c, d], h => simp only [List.length_nil, List.length_cons] at h; omega
    | [a, b, c, d, e], h => simp only [List.length_nil, List.length_cons] at h; omega
theorem steps_byte : ∀ (n : Nat) (ls : List Nat), ls.length = 6 * n → (∀ x ∈ ls, x < 256) → ∀ x ∈ Sd62.steps ls, x.a < 256
  | 0, ls, h, _, x, hx => by
    have e : ls = [] := List.eq_nil_of_length_eq_zero (by omega)
    subst e
    cases hx
  | n + 1, ls, h, hb, x, hx => by
    match ls, h, hb, hx with
    | a :: b :: c :: d :: e :: f :: r, h, hb, hx =>
      have hr : r.length = 6 * n := by simp only [List.length_cons] at h; omega
      have hx' : x ∈ (⟨a, b, c, d, e, f⟩ : Sd62.Step) :: Sd62.steps r := hx
      rcases List.mem_cons.mp hx' with z | z
      · rw [z]; exact hb e (by simp)
      · exact steps_byte n r hr (fun y hy => hb y (by simp [hy])) x z
    | [], h, _, _ => simp only [List.length_nil] at h; omega
    | [a], h, _, _ => simp only [List.length_nil, List.length_cons] at h; omega
    | [a, b], h, _, _ => simp only [List.length_nil, List.length_cons] at h; omega
    | [a, b, c], h, _, _ => simp only [List.length_nil, List.length_cons] at h; omega
    | [a, b, c, d], h, _, _ => simp only [List.length_nil, List.length_cons] at h; omega
    | [a, b, c, d, e], h, _, _ => simp only [List.length_nil, List.length_cons] at h; omega
def d0 : Sd62.Step := ⟨0, 0, 0, 0, 0, 0⟩
def goods (xs : List Sd62.Step) : Bool := ((List.range xs.length).map fun i => Sd62.good i (xs.getD i d0)).all id
def haves (c : Nat) (xs : List Sd62.Step) : Bool := ((List.range xs.length).map fun i => decide (Sd62.needs (xs.getD i d0) ≤ c)).all id
theorem goods_at {xs : List Sd62.Step} (h : goods xs = true) {j : Nat} {x : Sd62.Step} (hx : xs[j]? = some x) : GoodF j x := by
  have hj := (List.getElem?_eq_some_iff.mp hx).1
  have e : xs.getD j d0 = x := by rw [List.getD_eq_getElem?_getD, hx]; rfl
  unfold goods at h
  have h2 := List.all_eq_true.mp h (Sd62.good j (xs.getD j d0)) (List.mem_map.mpr ⟨j, List.mem_range.mpr hj, rfl⟩)
  rw [e] at h2
  exact good_facts h2
def preRun (ns : List Nat) (_ : Nat) (_ : Sd62.St) : Prop := ∃ n f m ls, ns = n :: f :: m :: ls ∧ (n ≤ 4096 → ls.length = 6 * n) ∧ ∀ x ∈ ls, x < 256
def outRun (ns : List Nat) (c : Nat) (s : Sd62.St) : Outc :=
  if ns.getD 0 0 ≤ 4096 ∧ ns.getD 1 0 ≤ ns.getD 0 0 ∧ ns.getD 2 0 ≤ 1000000 then
    (if goods (Sd62.steps (ns.drop 3)) = true then (if haves c (Sd62.steps (ns.drop 3)) = true then
      .inr ([(Sd62.run (Sd62.steps (ns.drop 3)) (ns.getD 2 0) s (ns.getD 1 0)).2], c, (Sd62.run (Sd62.steps (ns.drop 3)) (ns.getD 2 0) s (ns.getD 1 0)).1) else .inl (-3)) else .inl (-2)) else .inl (-1)
section
variable {P : Program} {w : World} {K : PySem.W.Frag} {mg : Str → Option Value} {base : Heap} {A : Ad}
theorem gName_go {i : Nat} {v : V} {σ : L2.St} {H : Hp} {Q : L2.St → Hp → Prop} (h : Q (σ.set i (some v)) H) : gName i v σ H Q := h
theorem el_is_instr {H : Hp} {D : Addr} {as : List Addr} {xs : List Sd62.Step} {σ : L2.St} (hD : H D = some (.lst (as.map V.ref))) (hR : Rows H as (xs.map rowS)) (hz : xs.length ≤ 5000) (hb : ∀ x ∈ xs, x.a < 256) (h5 : σ[5]? = some (some (.ref D))) (hlen : σ.length = 10) :
    EvL (tLc (iEnum K (tCons (tVar 5) tNil)) (gTup K 2 (gCons (gName 7) (gCons (gName 8) gNil))) tYes (tCallS (spIsInst K) (fun _ => E0) (tCons (tVar 8) (tCons (tVar 7) tNil))) [7, 8]) σ H (((List.range xs.length).map fun i => Sd62.good i (xs.getD i d0)).map V.bl) := fun H1 e1 Q q => by
  refine ⟨_, h5, D, _, rfl, Evl.ex_l e1 (SqL.of hD), fun Dl hDl => ?_⟩
  have hl : as.length = xs.length := by rw [hR.1, List.length_map]
  refine lc_vals (walk_enum (K := K) (a := D) (xs := as.map V.ref)) (fun _ => true) (fun i => .bl (Sd62.good i (xs.getD i d0))) (by rw [List.length_map]; omega) hDl (fun H' e => Evl.ex_l (e1.trans e) (SqL.of hD)) ?_ ?_
  · rintro i x H2 H3 R S hi e2 ⟨T, u, v, rfl, hT, rfl, hu, hv⟩ k1 _
    obtain rfl : V.int (i : Int) = u := Option.some.inj hu
    have hv : (as.map V.ref)[i]? = some v := hv
    rw [List.getElem?_map] at hv
    cases ha : as[i]? with
    | none => rw [ha] at hv; cases hv
    | some a =>
      rw [ha] at hv
      obtain rfl : V.ref a = v := Option.some.inj hv
      obtain ⟨row, hrow, hrowl⟩ := hR.at ha
      rw [List.getElem?_map] at hrow
      cases hx : xs[i]? with
      | none => rw [hx] at hrow; cases hrow
      | some x =>
        rw [hx] at hrow
        obtain rfl : rowS x = row := Option.some.inj hrow
        have eg : xs.getD i d0 = x := by rw [List.getD_eq_getElem?_getD, hx]; rfl
        simp only [eg] at k1
        have e3 : Ex H2 (upd H2 T (.tup [V.int (i : Int), V.ref a])) := Ex.new hT
        have hq : SqL K (upd H2 T (.tup [V.int (i : Int), V.ref a])) a (nv (rowS x)) := SqL.of (e3 _ _ (e2 _ _ (e1 _ _ hrowl)))
        refine ⟨T, _, rfl, SqT.of upd_same, rfl, _, _, rfl, _, _, rfl, rfl, ?_, ?_⟩
        · show wipe (((wipe σ [7, 8]).set 7 _).set 8 _) [7, 8] = wipe σ [7, 8]
          show ((((((σ.set 8 none).set 7 none).set 7 _).set 8 _).set 8 none).set 7 none) = ((σ.set 8 none).set 7 none)
          apply List.ext_getElem?
          intro j
          by_cases j7 : 7 = j
          · subst j7; simp [hlen]
          · by_cases j8 : 8 = j
            · subst j8; simp [hlen]
            · simp [List.getElem?_set_ne j7, List.getElem?_set_ne j8]
        · refine iteT (B := S (upd H2 T (.tup [V.int (i : Int), V.ref a]))) ⟨.ref a, ?_, .int (i : Int), ?_, ⟨a, x, i⟩, rfl, hq, hb x (List.mem_of_getElem? hx), fun H5 e5 => ?_⟩
          · show ((((σ.set 8 none).set 7 none).set 7 _).set 8 _)[8]? = _
            simp [hlen]
          · show ((((σ.set 8 none).set 7 none).set 7 _).set 8 _)[7]? = _
            simp [hlen]
          · exact k1 trivial H5 (e3.trans e5)
  · intro H2 e2 hl2
    refine q Dl H2 hDl e2 (hl2.trans ?_)
    rw [given_all, List.length_map, hl, List.map_map]
    rfl
theorem ok_run (T : Txt K mg A) : Cal P w K mg base 5 "run" (spOp K A preRun outRun) := by
  have c_need := ok_need (P := P) (w := w) (base := base) T
  have c_instruction_rows := ok_instruction_rows (P := P) (w := w) (base := base) T
  have c_is_instruction := ok_is_instruction (P := P) (w := w) (base := base) T
  have c_Instruction := ok_Instruction (P := P) (w := w) (base := base) T
  have c_Instruction_least_machine := ok_least_machine (P := P) (w := w) (base := base) T
  have c_Runner := ok_Runner (P := P) (w := w) (base := base) T
  have c_Runner_run := ok_Runner_run (P := P) (w := w) (base := base) T
  refine Cal.ofX T.D_run sc_run (spOf_len fun ⟨_, _, _, _, _, _⟩ => rfl) fun f cdv A' outer s H vs Q E hr h => ?_
  have nd := sc_run.nd
  obtain ⟨⟨H0, d, l, ns, c, st⟩, hv, hD, hL, ⟨n, fst, m, ls, rfl, hlen, hb⟩, k⟩ := h
  obtain rfl : vs = [V.ref d, V.ref l] := hv
  have tk := takes_of (X := cxOf (L2.CX P w) P w K mg base ["desk", "numbers", "many", "first", "most", "rows", "code", "place", "row", "one"] "run" (defScope s_run) f cdv A' outer s H E) rfl rfl rfl rfl
  refine ⟨_, (pss_cons (ps_asg (pe_slice (sl_listK (K := K) rfl) (pv 1) po_none (po_some pe_int)) (pg_lstK (K := K) rfl rfl (pgs_cons (pg_name (i := 2) nd rfl (Or.inl rfl)) (pgs_cons (pg_name (i := 3) nd rfl (Or.inl rfl)) (pgs_cons (pg_name (i := 4) nd rfl (Or.inl rfl)) pgs_nil)))))
 (pss_cons (ps_expr (pe_cX c_need hr (by decide) rfl tk (pa_cons (pe_and (pe_cmpR op_le (pv 2) (pe_gv rfl T.g_MOST_CODE) (nomark _)) (pe_and (pe_cmpR op_le (pv 3) (pv 2) (nomark _)) (pe_one (pe_cmpR op_le (pv 4) (pe_gv rfl T.g_MOST_STEPS) (nomark _))))) (pa_cons (pe_gv rfl T.g_OUT_OF_RANGE) pa_nil))))
 (pss_cons (ps_set (i := 5) nd rfl (Or.inl rfl) (pe_c c_instruction_rows hr (by decide) rfl (pa_cons (pe_slice (sl_listK (K := K) rfl) (pv 1) (po_some pe_int) po_none) pa_nil)))
 (pss_cons (ps_expr (pe_cX c_need hr (by decide) rfl tk (pa_cons (pe_callB (cr_allK (K := K) rfl rfl) (by rfl) T.b_all (by decide +kernel) (pa_cons (pe_lc (own := [("place", 7), ("row", 8)]) (g := gTup K 2 (gCons (gName 7) (gCons (gName 8) gNil))) rfl nd (pi_enumK (K := K) rfl rfl T.b_enumerate (pa_cons (pv 5) pa_nil)) (blkOk_by (own := [("place", 7), ("row", 8)]) (N := ["desk", "numbers", "many", "first", "most", "rows", "code", "place", "row", "one"]) (sc := defScope s_run) (by decide +kernel)) (fun _ _ _ _ _ => by exact (pg_tupK (K := K) rfl rfl (pgs_cons (pg_name (i := 7) nd rfl (Or.inl rfl)) (pgs_cons (pg_name (i := 8) nd rfl (Or.inl rfl)) pgs_nil)))) (fun _ _ _ _ _ => by exact pts_nil) (fun _ _ _ _ _ => by exact (pe_c c_is_instruction hr (by decide) rfl (pa_cons (pv 8) (pa_cons (pv 7) pa_nil))))) pa_nil)) (pa_cons (pe_gv rfl T.g_NONE_SUCH) pa_nil))))
 (pss_cons (ps_setLc (i := 6) (own := [("row", 8)]) (g := gName 8) rfl nd rfl rfl (sw_true rfl rfl rfl (by decide +kernel)) (pi_listK (K := K) rfl (pv 5)) (blkOk_by (own := [("row", 8)]) (N := ["desk", "numbers", "many", "first", "most", "rows", "code", "place", "row", "one"]) (sc := defScope s_run) (by decide +kernel)) (fun _ _ _ _ _ => by exact (pg_name (i := 8) nd rfl (Or.inl rfl))) (fun _ _ _ _ _ => by exact pts_nil) (fun _ _ _ _ _ => by exact (pe_k c_Instruction hr (by decide) rfl (pa_cons (pv 8) pa_nil))))
 (pss_cons (ps_expr (pe_cX c_need hr (by decide) rfl tk (pa_cons (pe_callB (cr_allK (K := K) rfl rfl) (by rfl) T.b_all (by decide +kernel) (pa_cons (pe_lc (own := [("one", 9)]) (g := gName 9) rfl nd (pi_listK (K := K) rfl (pv 6)) (blkOk_by (own := [("one", 9)]) (N := ["desk", "numbers", "many", "first", "most", "rows", "code", "place", "row", "one"]) (sc := defScope s_run) (by decide +kernel)) (fun _ _ _ _ _ => by exact (pg_name (i := 9) nd rfl (Or.inl rfl))) (fun _ _ _ _ _ => by exact pts_nil) (fun _ _ _ _ _ => by exact (pe_cmpR op_le (pe_m0 T.cl_Instruction c_Instruction_least_machine hr (by decide) (pv 9)) (pe_fldK (K := K) rfl (pv 0) rfl) (nomark _)))) pa_nil)) (pa_cons (pe_gv rfl T.g_NO_COMPONENT) pa_nil))))
 (pss_one (ps_ret (pe_lst (pa_cons (pe_m T.cl_Runner c_Runner_run hr (by decide) (pe_k c_Runner hr (by decide) rfl (pa_cons (pe_fldK (K := K) rfl (pv 0) rfl) pa_nil)) (pa_cons (pv 6) (pa_cons (pv 3) (pa_cons (pv 4) pa_nil)))) pa_nil)))))))))), ?_⟩
  refine el_to (o2 := 3) (ns := n :: fst :: m :: ls) (eq_var (K := K) rfl hL) Evl.ev_c rfl H (Ex.refl _) _ fun l2 H1 hl2 e1 h2 => ?_
  refine ⟨l2, _, rfl, SqL.of h2, rfl, _, _, rfl, _, _, rfl, _, _, rfl, rfl, ?_⟩
  refine q_need (b := decide (n ≤ 4096) && (decide (fst ≤ n) && decide (m ≤ 1000000))) (Evl.ev_andV (Evl.ev_is (Evl.ev_op (Evl.ev_var rfl) Evl.ev_c Evl.rv_I0) (congrArg V.bl (decide_eq_decide.mpr (by omega)))) fun _ =>
    Evl.ev_andV (Evl.ev_is (Evl.ev_op (Evl.ev_var rfl) (Evl.ev_var rfl) Evl.rv_I0) (congrArg V.bl (decide_eq_decide.mpr (by omega)))) fun _ => Evl.ev_is (Evl.ev_op (Evl.ev_var rfl) Evl.ev_c Evl.rv_I0) (congrArg V.bl (decide_eq_decide.mpr (by omega)))) Evl.ev_c (fun hf H2 e2 => ?_) fun ht H2 e2 => ?_
  · have ho : outRun (n :: fst :: m :: ls) c st = .inl (-1) := if_neg (fun z => by
      have z1 : n ≤ 4096 := z.1
      have z2 : fst ≤ n := z.2.1
      have z3 : m ≤ 1000000 := z.2.2
      rw [decide_eq_true z1, decide_eq_true z2, decide_eq_true z3] at hf
      cases hf)
    rw [ho] at k
    exact RetX.go k (e1.trans e2)
  have ht' := Bool.and_eq_true_iff.mp ht
  have ht'' := Bool.and_eq_true_iff.mp ht'.2
  have hn := of_decide_eq_true ht'.1
  have hfst := of_decide_eq_true ht''.1
  have hm := of_decide_eq_true ht''.2
  have hlen := hlen hn
  obtain ⟨hrows, hxl⟩ := steps_rows n ls hlen
  have hxb := steps_byte n ls hlen hb
  have e12 := e1.trans e2
  have ho : outRun (n :: fst :: m :: ls) c st = if goods (Sd62.steps ls) = true then (if haves c (Sd62.steps ls) = true then .inr ([(Sd62.run (Sd62.steps ls) m st fst).2], c, (Sd62.run (Sd62.steps ls) m st fst).1) else .inl (-3)) else .inl (-2) :=
    if_pos (show n ≤ 4096 ∧ fst ≤ n ∧ m ≤ 1000000 from ⟨hn, hfst, hm⟩)
  rw [ho] at k
  generalize Sd62.steps ls = xs at hrows hxl hxb k
  -- rows
  refine el_from (o1 := 3) (ns := n :: fst :: m :: ls) (eq_var (K := K) rfl (Evl.ex_l e12 hL)) Evl.ev_c rfl H2 (Ex.refl _) _ fun l3 H3 hl3 e3 h3 => ?_
  refine ⟨⟨l3, ls⟩, rfl, SqL.of h3, by omega, fun D as H4 e4 hD0 hD4 hR => ?_⟩
  rw [hrows] at hR
  have e14 := (e12.trans e3).trans e4
  have hal : as.length = xs.length := by rw [hR.1, List.length_map]
  -- all are instructions
  refine q_need (b := goods xs) (ev_all (K := K) (el_is_instr hD4 hR (by omega) hxb rfl rfl)) Evl.ev_c (fun hf H5 e5 => ?_) fun hg H5 e5 => ?_
  · rw [if_neg (by rw [hf]; decide)] at k
    exact RetX.go k (e14.trans e5)
  rw [if_pos hg] at k
  have e15 := e14.trans e5
  -- code = [Instruction(row) for row in rows]
  refine ⟨_, rfl, D, rfl, ⟨_, SqL.of (e5 _ _ hD4)⟩, fun D2 hD2 => ?_⟩
  refine lc_refs (walk_list (K := K) (a := D) (xs := as.map V.ref)) (fun i o => ∃ dx, o = .ins A.cInstruction dx (iF (xs.getD i d0))) (by rw [List.length_map]; omega) hD2 (fun H' e => SqL.of (e _ _ (e5 _ _ hD4))) ?_ ?_
  · rintro i x H6 H7 R hi e6 ⟨rfl, hx⟩ k1
    rw [List.getElem?_map] at hx
    cases ha : as[i]? with
    | none => rw [ha] at hx; cases hx
    | some a =>
      rw [ha] at hx
      obtain rfl : V.ref a = x := Option.some.inj hx
      obtain ⟨row, hrow, hrowl⟩ := hR.at ha
      rw [List.getElem?_map] at hrow
      cases hx2 : xs[i]? with
      | none => rw [hx2] at hrow; cases hrow
      | some x =>
        rw [hx2] at hrow
        obtain rfl : rowS x = row := Option.some.inj hrow
        have eg : xs.getD i d0 = x := by rw [List.getD_eq_getElem?_getD, hx2]; rfl
        have hr7 : H7 a = some (.lst (nv (rowS x))) := e6 _ _ (e5 _ _ hrowl)
        refine ⟨rfl, _, rfl, fun p dx hp hdx ne => ?_⟩
        have e8 : Ex H7 (upd (upd H7 dx (.own p)) p (.ins A.cInstruction dx [])) := (Ex.new hdx).trans (Ex.new (by rw [upd_ne (Ne.symm ne)]; exact hp))
        refine ⟨⟨p, dx, a, x⟩, rfl, upd_same, SqL.of (e8 _ _ hr7), (goods_at hg hx2).width, fun H8 hk h8 => ⟨rfl, k1 p _ H8 (fun b o hb => hk b o (e8 b o hb) (fun z => by rw [z, hp] at hb; cases hb)) hp h8 ⟨dx, by rw [eg]⟩⟩⟩
  intro is H6 e6 hD6 hisl hisat
  rw [List.length_map, hal] at hisl
  have e16 := e15.trans e6
  have hins : ∀ (j : Nat) (i : Addr) (x : Sd62.Step), is[j]? = some i → xs[j]? = some x → H5 i = none ∧ InsAt A.cInstruction H6 i x := fun j i x h1 h2 => by
    obtain ⟨q1, _, o, q2, dx, rfl⟩ := hisat j i h1
    have eg : xs.getD j d0 = x := by rw [List.getD_eq_getElem?_getD, h2]; rfl
    rw [eg] at q2
    exact ⟨q1, ⟨dx, q2⟩⟩
  have hD6c := hD.mono e16
  -- all can be executed
  refine gName_go ?_
  dsimp only
  refine q_need (b := haves c xs) (ev_all (K := K) (fun H7 e7 R q => ?_)) Evl.ev_c (fun hf H7 e7 => ?_) fun hh H7 e7 => ?_
  · refine ⟨_, rfl, D2, rfl, ⟨_, SqL.of (e7 _ _ hD6)⟩, fun Dl hDl => ?_⟩
    refine lc_vals (walk_list (K := K) (a := D2) (xs := is.map V.ref)) (fun _ => true) (fun i => .bl (decide (Sd62.needs (xs.getD i d0) ≤ c))) (by rw [List.length_map]; omega) hDl (fun H' e => SqL.of (e _ _ (e7 _ _ hD6))) ?_ ?_
    · rintro i x H8 H9 R2 S2 hi e8 ⟨rfl, hx⟩ k1 _
      rw [List.getElem?_map] at hx
      cases ha : is[i]? with
      | none => rw [ha] at hx; cases hx
      | some a =>
        rw [ha] at hx
        obtain rfl : V.ref a = x := Option.some.inj hx
        have hi' := (List.getElem?_eq_some_iff.mp ha).1
        have hx2 : xs[i]? = some (xs[i]'(by omega)) := List.getElem?_eq_getElem _
        have eg : xs.getD i d0 = xs[i]'(by omega) := by rw [List.getD_eq_getElem?_getD, hx2]; rfl
        simp only [eg] at k1
        have hia := ((hins i a _ ha hx2).2.mono e7).mono e8
        obtain ⟨dx, hia1⟩ := hia.ex
        refine ⟨rfl, _, rfl, a, dx, _, rfl, hia1, iF_least_machine _, ⟨a, _⟩, rfl, hia, (goods_at hg hx2).width, fun H10 e10 => ?_⟩
        refine ev_dc T (((hD6c.mono e7).mono e8).mono e10) (σ := [some (.ref d), some (.ref l), some (.int (n : Int)), some (.int (fst : Int)), some (.int (m : Int)), some (.ref D), some (.ref D2), none, none, some (.ref a)]) (Evl.ev_var rfl) H10 (Ex.refl _) _ fun H11 e11 => ⟨_, _, rfl, rfl, ?_⟩
        have hle := leIntN (a := Sd62.needs (xs[i]'(by omega))) (b := c)
        show R2 (V.bl (decide (((Sd62.needs (xs[i]'(by omega)) : Nat) : Int) ≤ (c : Int)))) H11
        rw [hle]
        exact k1 trivial H11 (e10.trans e11)
    · intro H8 e8 hl8
      refine q Dl H8 hDl e8 (hl8.trans ?_)
      rw [given_all, List.length_map, hisl, List.map_map]
      rfl
  · rw [if_neg (by rw [hf]; decide)] at k
    exact RetX.go k (e16.trans e7)
  rw [if_pos hh] at k
  -- the run
  have e17 := e16.trans e7
  obtain ⟨dx, sa, hd0, hS0⟩ := hD.ex
  have hd7 := e17 _ _ hd0
  refine ev_fld (Evl.ev_var rfl) hd7 T.cl_Desk T.n_Desk_state (dF_state c sa) H7 (Ex.refl _) _ fun H8 e8 p pdx hp hpdx pne => ?_
  have e9 : Ex H8 (upd (upd H8 pdx (.own p)) p (.ins A.cRunner pdx [])) := (Ex.new hpdx).trans (Ex.new (by rw [upd_ne (Ne.symm pne)]; exact hp))
  refine ⟨⟨p, pdx, sa⟩, rfl, upd_same, fun H9 pw hk hpw h9p h9w => ⟨rfl, ?_⟩⟩
  have e89 : Ex H8 H9 := fun b o hb => hk b o (e9 b o hb) (fun z => by rw [z, hp] at hb; cases hb)
  have e19 := (e17.trans e8).trans e89
  have hpw8 : H8 pw = none := Evl.fresh_back e9 hpw
  have F0 : ∀ {b : Addr}, H8 b = none → H b = none := fun hb => Evl.fresh_back (e17.trans e8) hb
  have F5 : ∀ {b : Addr}, H5 b = none → H b = none := fun hb => Evl.fresh_back e15 hb
  have e69 := (e7.trans e8).trans e89
  refine ⟨p, pdx, _, rfl, h9p, rF_run _ _, _, rfl, _, rfl, _, rfl, ⟨grow (upd H0 d (.ins A.cDesk dx (dF c sa))) H H9, p, D2, sa, st, xs, fst, m⟩, rfl, hS0.grow e19, ⟨pdx, pw, grow_new (F0 hp) h9p, grow_new (F0 hpw8) h9w⟩, ⟨is, SqL.of (grow_new (F5 hD2) (e69 _ _ hD6)), hisl, fun j i x h1 h2 => ?_⟩, fun j x hx => goods_at hg hx, by omega, hm, fun H10 hS10 => ?_⟩
  · obtain ⟨q1, q2⟩ := hins j i x h1 h2
    obtain ⟨dx2, q3⟩ := q2.ex
    exact ⟨dx2, grow_new (F5 q1) (e69 _ _ q3)⟩
  · have hd10 : H10 d = some (.ins A.cDesk dx (dF c sa)) := hS10.sm _ _ (grow_old hS0.sm _ _ upd_same)
    have hD10 : DeskAt A H0 H10 d c (Sd62.run xs m st fst).1 := ⟨⟨dx, sa, hd10, hS10.less (grow_old hS0.sm)⟩, hD.fr⟩
    exact ⟨by show 1 ≤ sizeLine; decide, fun q hq => k q _ (hD10.mono (Ex.new hq)) (Evl.fresh_back hD10.sm hq) upd_same⟩
end
end VP

/-! ### the machine: a call of a deed that a local name holds; answer -/
namespace L2
open PySem PySem.Spec PyProof.Rows
structure HeldX (P : Program) (w : World) (K : PySem.W.Frag) (mg : Str → Option Value) (base : Heap) (kmax : Nat) (f : Addr) (sp : Sp) : Prop where
  ex : ∃ (k : Nat) (fd : FuncData) (ps : List Str), k ≤ kmax ∧ FnOk P w K mg base (L2.CX P w) k f fd ps sp ∧ PySem.W.keepIn K (.ref f) = true ∧ Binds K fd ps []
def tCallAX (i : Nat) (S : Addr → Sp → Prop) (E : St → XK) (t : TA) : TE := fun σ H Q => ∃ f sp, σ[i]? = some (some (.ref f)) ∧ S f sp ∧ t σ H fun vs H1 => sp vs H1 Q (E σ)
section
variable {X : Cx} {i k j : Nat} {x : Str} {p pos : Pos} {e : Expr} {es : List Expr} {t : TA} {W : WX} {S : Addr → Sp → Prop}
theorem pe_cA (A : ∀ f sp, S f sp → HeldX X.prog X.w X.K X.mg X.base k f sp) (hr : Room j X.A) (hk : k ≤ j) (hN : X.N[i]? = some x) (hv : Vis X.env.scope x) (tk : Takes X W) (ha : PA X (e :: es) t)
    (hdb : (x == ("__debug__" : Str)) = false := by decide) (hcd : (x == ("__classdict__" : Str)) = false := by decide)
    (he : starEach (e :: es) X.env = (false, eval e X.env) :: starEach es X.env := by rfl) (hpl : (backTo pos (starEach es X.env)).any (·.1) = false := by rfl) : PE X (.Call (.Name x p) (e :: es) [] pos) (tCallAX i S (WE W) t) := by
  refine ⟨fun pins s σ H Q I h => ?_⟩
  obtain ⟨f, sp, hs, hS, ht⟩ := h
  obtain ⟨k', fd, ps, hkk, F, hkp, hb⟩ := (A f sp hS).ex
  refine wpAny_Call_Name_kw (thn ((pe_var (pos := p) hN hv hdb hcd).run pins s σ H (fun v H1 => v = .ref f ∧ H1 = H) I ⟨.ref f, hs, rfl, rfl⟩) fun u s1 ⟨v, H1, I1, r1, q1⟩ => ?_)
  obtain ⟨rfl, rfl⟩ := q1
  cases r1
  refine PySem.W.callWith_K (h₀ := X.base) I.ok.mod.kin hkp (thn (ha.run pos pins s1 σ _ _ I1 ht) fun us s2 ⟨vs, H2, I2, r, q⟩ => ⟨I2.kIn, ?_⟩) he hpl
  exact run_fnS (E := WE W) F (hr.mono (Nat.le_trans hkk hk)) hb (passAt tk σ) I2 r q
end
end L2
namespace VP
open PySem PySem.Spec PyProof.Rows L2
open Evl (Ex RetL RetV Ev EvL EvT EvA EvO)
def preOp : Nat → List Nat → Nat → Sd62.St → Prop
  | 0 => preNew | 1 => preRun | 2 => preSave | 3 => preLoad | 4 => preTurn | 5 => prePeek | 6 => prePoke | 7 => preDiffer | _ => fun _ _ _ => False
def outOp : Nat → List Nat → Nat → Sd62.St → Outc
  | 0 => outNew | 1 => outRun | 2 => outSave | 3 => outLoad | 4 => outTurn | 5 => outPeek | 6 => outPoke | 7 => outDiffer | _ => fun _ _ _ => .inl 0
def valsO : Outc → List V
  | .inl z => [.int z]
  | .inr (l, _, _) => nv l
def machO (o : Outc) (c : Nat) (s : Sd62.St) : Nat × Sd62.St := match o with
  | .inl _ => (c, s)
  | .inr (_, c', s') => (c', s')
def deedS (K : PySem.W.Frag) (A : Ad) (f : Addr) (sp : Sp) : Prop := ∃ j, j < 8 ∧ A.fs[j]? = some f ∧ sp = spOp K A (preOp j) (outOp j)
def spAnswer (K : PySem.W.Frag) (A : Ad) : Sp := spOf (fun (⟨_, d, f, l, _, _, _, _⟩ : Hp × Addr × Addr × Addr × List Nat × Nat × Sd62.St × Nat) => [.ref d, .ref f, .ref l]) fun ⟨H0, d, f, l, ns, c, s, j⟩ H Q _ =>
  DeskAt A H0 H d c s ∧ SqL K H l (nv ns) ∧ j < 8 ∧ A.fs[j]? = some f ∧ preOp j ns c s ∧ ∀ p H', DeskAt A H0 H' d (machO (outOp j ns c s) c s).1 (machO (outOp j ns c s) c s).2 → H0 p = none → H' p = some (.lst (valsO (outOp j ns c s))) → Q (.ref p) H'
section
variable {P : Program} {w : World} {K : PySem.W.Frag} {mg : Str → Option Value} {base : Heap} {A : Ad}
theorem held_of {k kmax : Nat} {x : Str} {sp : Sp} (c : Cal P w K mg base k x sp) (hk : k ≤ kmax) {f : Addr} (hm : mg x = some (.ref f)) : HeldX P w K mg base kmax f sp := by
  obtain ⟨f', fd, ps, F, hm', hkp, hb⟩ := c.ex
  rw [hm] at hm'
  cases hm'
  exact ⟨k, fd, ps, hk, F, hkp, hb⟩
theorem deeds_held (T : Txt K mg A) (f : Addr) (sp : Sp) (h : deedS K A f sp) : HeldX P w K mg base 9 f sp := by
  obtain ⟨j, hj, hf, rfl⟩ := h
  have key : ∀ {x : Str}, (["new", "run", "save", "load", "turn_form", "peek", "poke", "differ"] : List Str)[j]? = some x → mg x = some (.ref f) := fun {x} hx => by
    obtain ⟨f', h1, h2⟩ := T.f_CALLS j x hx
    rw [hf] at h1
    cases h1
    exact h2
  rcases (by omega : j = 0 ∨ j = 1 ∨ j = 2 ∨ j = 3 ∨ j = 4 ∨ j = 5 ∨ j = 6 ∨ j = 7) with rfl | rfl | rfl | rfl | rfl | rfl | rfl | rfl
  · exact held_of (ok_new (P := P) (w := w) (base := base) T) (by decide) (key rfl)
  · exact held_of (ok_run (P := P) (w := w) (base := base) T) (by decide) (key rfl)
  · exact held_of (ok_save (P := P) (w := w) (base := base) T) (by decide) (key rfl)
  · exact held_of (ok_load (P := P) (w := w) (base := base) T) (by decide) (key rfl)
  · exact held_of (ok_turn_form (P := P) (w := w) (base := base) T) (by decide) (key rfl)
  · exact held_of (ok_peek (P := P) (w := w) (base := base) T) (by decide) (key rfl)
  · exact held_of (ok_poke (P := P) (w := w) (base := base) T) (by decide) (key rfl)
  · exact held_of (ok_differ (P := P) (w := w) (base := base) T) (by decide) (key rfl)
theorem ok_answer (T : Txt K mg A) : Cal P w K mg base 10 "answer" (spAnswer K A) := by
  refine Cal.of T.D_answer sc_answer (spOf_len fun ⟨_, _, _, _, _, _, _, _⟩ => rfl) fun f cdv A' outer s H vs Q E hr h => ?_
  have nd := sc_answer.nd
  obtain ⟨⟨H0, d, fa, l, ns, c, st, j⟩, hv, hD, hL, hj, hf, hpre, k⟩ := h
  obtain rfl : vs = [V.ref d, V.ref fa, V.ref l] := hv
  have C_ := deeds_held (P := P) (w := w) (base := base) T
  refine ⟨_, (pss_one (ps_try_as (i := 3) (tb := fun W => tRet (tCallAX 1 (deedS K A) (WE W) (tCons (tVar 0) (tCons (tVar 2) tNil)))) (ts := fun a cls dd => tRet (tLst (tCons (tByRef A.cRefusal a cls dd (tVar 3)) tNil))) (Wout := fun _ _ _ _ => False) rfl rfl nd rfl rfl ⟨rfl, by decide, Or.inl T.low.gC⟩ takes0
    (fun W pn xe tk _ => (pss_one (ps_ret (by exact (pe_cA C_ hr (by decide) (i := 1) rfl (Or.inl rfl) tk (pa_cons (pv 0) (pa_cons (pv 2) pa_nil)))))))
    (fun a oe cls dd pn hz hfv => (pss_one (ps_ret (by exact (pe_lst (pa_cons (pe_byRef T.low hz hfv (pv 3)) pa_nil)))))))), ?_⟩
  refine ⟨fa, spOp K A (preOp j) (outOp j), rfl, ⟨j, hj, hf, rfl⟩, _, rfl, _, rfl, ⟨H0, d, l, ns, c, st⟩, rfl, hD, hL, hpre, ?_⟩
  cases ho : outOp j ns c st with
  | inl z =>
    rw [ho] at k
    intro dd H' e hdd h
    refine ⟨true, T.low.te, fun _ a0 ha0 => ?_, fun q => Bool.noConfusion q⟩
    exact ⟨_, rfl, rfl, rfl, dd, _, rfl, h, by show 1 ≤ sizeLine; decide, fun p hp => k p _ ((hD.mono e).mono (Ex.new hp)) (Evl.fresh_back (hD.mono e).sm hp) upd_same⟩
  | inr x =>
    rw [ho] at k
    exact fun p H' hD' h0 h => k p H' hD' h0 h
end
end VP

/-! ### plain: reading a checkpoint -/
namespace VP
theorem nf_wf {m k a b c d : List Nat} (hm : m.length = 8) (hk : k.length = 8) (n : NfL a b c d) (lm : ∀ x ∈ m, x < 2 ^ 64) (lk : ∀ x ∈ k, x < 2 ^ 64) (la : ∀ x ∈ a, x < 2 ^ 64) (lb : ∀ x ∈ b, x < 2 ^ 64) (lc : ∀ x ∈ c, x < 2 ^ 64) (ld : ∀ x ∈ d, x < 2 ^ 64) : Wf (nf m k a b c d) := by
  have mem : ∀ l ∈ (nf m k a b c d).v, ∃ i, i < 16 ∧ (l = rowLo a b c i ∨ l = rowHi d i) := by
    intro l hl
    have hl' : l ∈ (List.range 16).map (rowLo a b c) ++ (List.range 16).map (rowHi d) := hl
    rcases List.mem_append.mp hl' with h | h
    · obtain ⟨i, hi, rfl⟩ := List.mem_map.mp h
      exact ⟨i, List.mem_range.mp hi, .inl rfl⟩
    · obtain ⟨i, hi, rfl⟩ := List.mem_map.mp h
      exact ⟨i, List.mem_range.mp hi, .inr rfl⟩
  have dt : ∀ {l : List Nat} {x o t : Nat}, x ∈ (l.drop o).take t → x ∈ l := fun h => List.mem_of_mem_drop (List.mem_of_mem_take h)
  refine ⟨hm, hk, nf_len .., fun l hl => ?_, lm, lk, fun l hl x hx => ?_⟩
  · obtain ⟨i, hi, rfl | rfl⟩ := mem l hl
    · have h1 : ((a.drop (2 * i)).take 2).length = 2 := dt_len (by rw [n.a]; omega)
      have h2 : ((b.drop (2 * i)).take 2).length = 2 := dt_len (by rw [n.b]; omega)
      have h3 : ((c.drop (4 * i)).take 4).length = 4 := dt_len (by rw [n.c]; omega)
      unfold rowLo
      rw [List.length_append, List.length_append, h1, h2, h3]
    · exact dt_len (by rw [n.d]; omega)
  · obtain ⟨i, hi, rfl | rfl⟩ := mem l hl
    · unfold rowLo at hx
      rcases List.mem_append.mp hx with h | h
      · exact la _ (dt h)
      · rcases List.mem_append.mp h with h | h
        · exact lb _ (dt h)
        · exact lc _ (dt h)
    · exact ld _ (dt hx)
def atO (l : List Nat) (o : Option Nat) (n : Nat) : List Nat := match o with
  | none => List.replicate n 0
  | some k => Sd62.numbers l k n
theorem taken_nf (l : List Nat) (o2 o5 o6 o7 : Option Nat) : Sd62.taken l o2 o5 o6 o7 = nf (mOf l) (atO l o5 8) (Sd62.numbers l 160 32) (atO l o2 32) (atO l o6 64) (atO l o7 128) := rfl
theorem atO_len (l : List Nat) (o : Option Nat) (n : Nat) : (atO l o n).length = n := by
  cases o with
  | none => exact List.length_replicate
  | some k => exact numbers_len ..
theorem atO_lt {l : List Nat} (hb : ∀ x ∈ l, x < 256) (o : Option Nat) (n : Nat) : ∀ x ∈ atO l o n, x < 2 ^ 64 := by
  cases o with
  | none => intro x hx; rw [List.eq_of_mem_replicate hx]; decide
  | some k => exact numbers_lt hb k n
theorem mOf_lt {l : List Nat} (hb : ∀ x ∈ l, x < 256) : ∀ x ∈ mOf l, x < 2 ^ 64 := by
  intro x hx
  obtain ⟨i, _, rfl⟩ := List.mem_map.mp hx
  exact number_lt hb _
theorem taken_wf {l : List Nat} (hb : ∀ x ∈ l, x < 256) (o2 o5 o6 o7 : Option Nat) : Wf (Sd62.taken l o2 o5 o6 o7) := by
  rw [taken_nf]
  exact nf_wf rfl (atO_len ..) ⟨numbers_len .., atO_len .., atO_len .., atO_len ..⟩ (mOf_lt hb) (atO_lt hb o5 8) (numbers_lt hb 160 32) (atO_lt hb o2 32) (atO_lt hb o6 64) (atO_lt hb o7 128)
theorem head_nf (l : List Nat) : headSt l = nf (mOf l) z8 (Sd62.numbers l 160 32) z32 z64 z128 := by
  unfold headSt
  rw [fresh_nf, set_1, set_2 zL (numbers_len ..)]
theorem long_len {s : Sd62.St} (wf : Wf s) : (Sd62.long 3 s).length = 576 ∧ (Sd62.long 7 s).length = 832 ∧ (Sd62.long 231 s).length = 2688 := by
  have h0 := head_len wf 0
  unfold headOf at h0
  rw [List.length_append] at h0
  have h4 := part_len wf (w := 4) (.inr (.inr (.inl rfl)))
  have h64 := part_len wf (w := 64) (.inr (.inr (.inr (.inr (.inl rfl)))))
  have h128 := part_len wf (w := 128) (.inr (.inr (.inr (.inr (.inr rfl)))))
  rw [part_4] at h4
  rw [part_64] at h64
  rw [part_128 wf] at h128
  have c4 : countOf 4 = 32 := rfl
  have c64 : countOf 64 = 64 := rfl
  have c128 : countOf 128 = 128 := rfl
  have e : ∀ p, (Sd62.long p s).length = (Sd62.legacy s).length + ((Sd62.header (Sd62.used s) 0).length + ((if p = 3 then [] else Sd62.words (Sd62.lanesOf s 0 16 2 2)).length + (if p = 231 then Sd62.zeros 256 ++ (Sd62.words s.k ++ (Sd62.words (Sd62.lanesOf s 0 16 4 4) ++ Sd62.words (Sd62.lanesOf s 16 16 0 8))) else []).length)) := fun p => by
    unfold Sd62.long
    rw [List.length_append, List.length_append, List.length_append]
  refine ⟨?_, ?_, ?_⟩
  · rw [e 3, if_pos rfl, if_neg (by decide), List.length_nil]; omega
  · rw [e 7, if_neg (by decide), if_neg (by decide), List.length_nil, words_length, h4]; omega
  · have q1 : (if 231 = 3 then ([] : List Nat) else Sd62.words (Sd62.lanesOf s 0 16 2 2)).length = 256 := by
      rw [if_neg (by decide), words_length, h4, c4]
    have q2 : (Sd62.zeros 256 ++ (Sd62.words s.k ++ (Sd62.words (Sd62.lanesOf s 0 16 4 4) ++ Sd62.words (Sd62.lanesOf s 16 16 0 8)))).length = 1856 := by
      rw [List.length_append, List.length_append, List.length_append, words_length, words_length, words_length, wf.k8, h64, h128, c64, c128]
      unfold Sd62.zeros
      rw [List.length_replicate]
    have e3 := e 231
    rw [q1, if_pos (show (231 : Nat) = 231 from rfl), q2] at e3
    omega
theorem long_no {ls : List Nat} {i j : Nat} (hj : j = i + 1) (h : ¬ longAt ls.length i < ls.length) : longSt ls j = longSt ls i ∧ longAt ls.length j = longAt ls.length i := by
  subst hj
  exact ⟨if_neg h, if_neg h⟩
theorem long_yes {ls : List Nat} {i j : Nat} (hj : j = i + 1) (h : longAt ls.length i < ls.length) : longSt ls j = setPart (longSt ls i) (wAt i) (Sd62.numbers ls (longAt ls.length i) (countOf (wAt i))) ∧
    longAt ls.length j = (if wAt i = 4 ∧ longAt ls.length i + 8 * countOf (wAt i) < ls.length then longAt ls.length i + 8 * countOf (wAt i) + 256 else longAt ls.length i + 8 * countOf (wAt i)) := by
  subst hj
  exact ⟨if_pos h, if_pos h⟩
theorem long_576 {ls : List Nat} (h : ls.length = 576) : longSt ls 4 = Sd62.taken ls none none none none := by
  have a0 : longAt ls.length 0 = 576 := rfl
  obtain ⟨s1, a1⟩ := long_no (ls := ls) (i := 0) (j := 1) rfl (by omega)
  obtain ⟨s2, a2⟩ := long_no (ls := ls) (i := 1) (j := 2) rfl (by omega)
  obtain ⟨s3, a3⟩ := long_no (ls := ls) (i := 2) (j := 3) rfl (by omega)
  obtain ⟨s4, _⟩ := long_no (ls := ls) (i := 3) (j := 4) rfl (by omega)
  rw [s4, s3, s2, s1, taken_nf]
  exact head_nf ls
theorem long_832 {ls : List Nat} (h : ls.length = 832) : longSt ls 4 = Sd62.taken ls (some 576) none none none := by
  have a0 : longAt ls.length 0 = 576 := rfl
  have w0 : wAt 0 = 4 := rfl
  have c0 : countOf 4 = 32 := rfl
  obtain ⟨s1, a1⟩ := long_yes (ls := ls) (i := 0) (j := 1) rfl (by omega)
  rw [w0, c0, a0, if_neg (by omega)] at a1
  rw [w0, c0, a0] at s1
  obtain ⟨s2, a2⟩ := long_no (ls := ls) (i := 1) (j := 2) rfl (by omega)
  obtain ⟨s3, a3⟩ := long_no (ls := ls) (i := 2) (j := 3) rfl (by omega)
  obtain ⟨s4, _⟩ := long_no (ls := ls) (i := 3) (j := 4) rfl (by omega)
  rw [s4, s3, s2, s1, taken_nf]
  show setPart (headSt ls) 4 (Sd62.numbers ls 576 32) = _
  rw [head_nf, set_4 ⟨numbers_len .., rfl, rfl, rfl⟩ (numbers_len ..)]
  rfl
theorem long_2688 {ls : List Nat} (h : ls.length = 2688) : longSt ls 4 = Sd62.taken ls (some 576) (some 1088) (some 1152) (some 1664) := by
  have a0 : longAt ls.length 0 = 576 := rfl
  have w0 : wAt 0 = 4 := rfl
  have w1 : wAt 1 = 32 := rfl
  have w2 : wAt 2 = 64 := rfl
  have w3 : wAt 3 = 128 := rfl
  have c0 : countOf 4 = 32 := rfl
  have c1 : countOf 32 = 8 := rfl
  have c2 : countOf 64 = 64 := rfl
  have c3 : countOf 128 = 128 := rfl
  obtain ⟨s1, a1⟩ := long_yes (ls := ls) (i := 0) (j := 1) rfl (by omega)
  rw [w0, c0, a0, if_pos (by omega)] at a1
  rw [w0, c0, a0] at s1
  obtain ⟨s2, a2⟩ := long_yes (ls := ls) (i := 1) (j := 2) rfl (by omega)
  rw [w1, c1, a1, if_neg (by omega)] at a2
  rw [w1, c1, a1] at s2
  obtain ⟨s3, a3⟩ := long_yes (ls := ls) (i := 2) (j := 3) rfl (by omega)
  rw [w2, c2, a2, if_neg (by omega)] at a3
  rw [w2, c2, a2] at s3
  obtain ⟨s4, _⟩ := long_yes (ls := ls) (i := 3) (j := 4) rfl (by omega)
  rw [w3, c3, a3] at s4
  rw [s4, s3, s2, s1, taken_nf]
  show setPart (setPart (setPart (setPart (headSt ls) 4 (Sd62.numbers ls 576 32)) 32 (Sd62.numbers ls 1088 8)) 64 (Sd62.numbers ls 1152 64)) 128 (Sd62.numbers ls 1664 128) = _
  rw [head_nf, set_4 ⟨numbers_len .., rfl, rfl, rfl⟩ (numbers_len ..), set_32, set_64 ⟨numbers_len .., numbers_len .., rfl, rfl⟩ (numbers_len ..), set_128 (numbers_len ..)]
  rfl
theorem read_A {l : List Nat} (h : Sd62.number l 520 8 = 0) (p : Nat) (hp : (if l.length = 576 then 3 else if l.length = 832 then 7 else 231) = p) :
    Sd62.read l = if Sd62.long p (Sd62.taken l (if p = 3 then none else some 576) (if p = 231 then some 1088 else none) (if p = 231 then some 1152 else none) (if p = 231 then some 1664 else none)) = l then some (Sd62.taken l (if p = 3 then none else some 576) (if p = 231 then some 1088 else none) (if p = 231 then some 1152 else none) (if p = 231 then some 1664 else none)) else none := by
  subst hp
  unfold Sd62.read Sd62.guess
  dsimp only
  rw [if_pos h]
theorem long_law {l : List Nat} (hb : ∀ x ∈ l, x < 256) (h0 : Sd62.number l 520 8 = 0) : (if 576 ≤ l.length ∧ l.length ≤ 2688 then readLong l else none) = Sd62.read l := by
  by_cases c1 : l.length = 576
  · rw [if_pos (by omega), read_A h0 3 (if_pos c1)]
    have hs : sizeN l.length = some 3 := by unfold sizeN; rw [if_pos c1]
    unfold readLong
    rw [hs, long_576 c1]
    rfl
  by_cases c2 : l.length = 832
  · rw [if_pos (by omega), read_A h0 7 (by rw [if_neg c1, if_pos c2])]
    have hs : sizeN l.length = some 7 := by unfold sizeN; rw [if_neg c1, if_pos c2]
    unfold readLong
    rw [hs, long_832 c2]
    rfl
  rw [read_A h0 231 (by rw [if_neg c1, if_neg c2])]
  by_cases c3 : l.length = 2688
  · rw [if_pos (by omega)]
    have hs : sizeN l.length = some 231 := by unfold sizeN; rw [if_neg c1, if_neg c2, if_pos c3]
    unfold readLong
    rw [hs, long_2688 c3]
    rfl
  · have hn : ∀ s : Sd62.St, Wf s → ¬ Sd62.long 231 s = l := fun s wf z => by
      have := (long_len wf).2.2
      rw [z] at this
      exact c3 this
    rw [if_neg (hn _ (taken_wf hb ..))]
    split
    · have hs : sizeN l.length = none := by unfold sizeN; rw [if_neg c1, if_neg c2, if_neg c3]
      unfold readLong
      rw [hs]
    · rfl
end VP

/-! ### plain: reading the short form -/
namespace VP
theorem numOf_spread : ∀ (k n : Nat), numOf (Sd62.spread n k) = n % 256 ^ k
  | 0, n => by rw [Nat.pow_zero, Nat.mod_one]; rfl
  | k + 1, n => by
    show n % 256 + 256 * numOf (Sd62.spread (n / 256) k) = _
    rw [numOf_spread k (n / 256), Nat.pow_succ, Nat.mul_comm (256 ^ k) 256, Nat.mod_mul]
theorem short_used {s : Sd62.St} (wf : Wf s) : Sd62.number (Sd62.short s) 512 8 = Sd62.used s := by
  have hl : (Sd62.legacy s).length = 512 := by
    have h0 := head_len wf 0
    unfold headOf Sd62.header at h0
    rw [List.length_append, List.length_append, List.length_append, spread_length, spread_length] at h0
    have z : (Sd62.zeros 48).length = 48 := List.length_replicate
    omega
  rw [number_of, short_of wf]
  unfold headOf Sd62.header
  rw [List.append_assoc, List.drop_left' hl, List.append_assoc, List.take_left' (spread_length 8 _), numOf_spread]
  have h1 := used_le s
  have h2 : (256 : Nat) ^ 8 = 18446744073709551616 := by decide
  rw [h2]
  omega
def hasB (u n : Nat) : Bool := u &&& n != 0
theorem hasB_4 (u : Nat) : hasB u 4 = decide (u / 4 % 2 = 1) := by
  unfold hasB
  have h := and_pow (u := u) (k := 2)
  have e : (2 : Nat) ^ 2 = 4 := rfl
  rw [e] at h
  by_cases c : u / 4 % 2 = 0
  · rw [h.mpr c, decide_eq_false (by omega)]; rfl
  · rw [decide_eq_true (by omega)]; exact bne_iff_ne.mpr fun z => c (h.mp z)
theorem hasB_32 (u : Nat) : hasB u 32 = decide (u / 32 % 2 = 1) := by
  unfold hasB
  have h := and_pow (u := u) (k := 5)
  have e : (2 : Nat) ^ 5 = 32 := rfl
  rw [e] at h
  by_cases c : u / 32 % 2 = 0
  · rw [h.mpr c, decide_eq_false (by omega)]; rfl
  · rw [decide_eq_true (by omega)]; exact bne_iff_ne.mpr fun z => c (h.mp z)
theorem hasB_64 (u : Nat) : hasB u 64 = decide (u / 64 % 2 = 1) := by
  unfold hasB
  have h := and_pow (u := u) (k := 6)
  have e : (2 : Nat) ^ 6 = 64 := rfl
  rw [e] at h
  by_cases c : u / 64 % 2 = 0
  · rw [h.mpr c, decide_eq_false (by omega)]; rfl
  · rw [decide_eq_true (by omega)]; exact bne_iff_ne.mpr fun z => c (h.mp z)
theorem hasB_128 (u : Nat) : hasB u 128 = decide (u / 128 % 2 = 1) := by
  unfold hasB
  have h := and_pow (u := u) (k := 7)
  have e : (2 : Nat) ^ 7 = 128 := rfl
  rw [e] at h
  by_cases c : u / 128 % 2 = 0
  · rw [h.mpr c, decide_eq_false (by omega)]; rfl
  · rw [decide_eq_true (by omega)]; exact bne_iff_ne.mpr fun z => c (h.mp z)
def someB (b4 b32 b64 b128 : Bool) : List Nat := (if b4 then [4] else []) ++ ((if b32 then [32] else []) ++ ((if b64 then [64] else []) ++ (if b128 then [128] else [])))
theorem someOf_B (u : Nat) : someOf u = someB (hasB u 4) (hasB u 32) (hasB u 64) (hasB u 128) := by
  unfold someOf moreW
  rw [hasB_4, hasB_32, hasB_64, hasB_128, List.filter_cons, List.filter_cons, List.filter_cons, List.filter_cons, List.filter_nil]
  cases decide (u / 4 % 2 = 1) <;> cases decide (u / 32 % 2 = 1) <;> cases decide (u / 64 % 2 = 1) <;> cases decide (u / 128 % 2 = 1) <;> rfl
/-- what the bytes would be, by what they tell to be in use -/
def gotB (l : List Nat) (b4 b32 b64 b128 : Bool) : Sd62.St :=
  Sd62.taken l (if b4 = true then some 576 else none) (if b32 = true then some (576 + Sd62.bit b4 256) else none) (if b64 = true then some (576 + Sd62.bit b4 256 + Sd62.bit b32 64) else none)
    (if b128 = true then some (576 + Sd62.bit b4 256 + Sd62.bit b32 64 + Sd62.bit b64 512) else none)
theorem read_B {l : List Nat} (h : ¬ Sd62.number l 520 8 = 0) : Sd62.read l = if Sd62.short (gotB l (hasB (Sd62.number l 512 8) 4) (hasB (Sd62.number l 512 8) 32) (hasB (Sd62.number l 512 8) 64) (hasB (Sd62.number l 512 8) 128)) = l then
    some (gotB l (hasB (Sd62.number l 512 8) 4) (hasB (Sd62.number l 512 8) 32) (hasB (Sd62.number l 512 8) 64) (hasB (Sd62.number l 512 8) 128)) else none := by
  unfold Sd62.read Sd62.guess
  dsimp only
  rw [if_neg h]
  rfl
theorem short_len {s : Sd62.St} (wf : Wf s) : (Sd62.short s).length = 576 + 8 * ((someOf (Sd62.used s)).map countOf).sum := by
  rw [short_of wf, List.length_append, head_len wf]
  congr 1
  have m : ∀ w, isW w → (moreOf s w).length = if Sd62.used s / w % 2 = 1 then 8 * countOf w else 0 := fun w hw => by
    unfold moreOf
    split
    · rw [words_length, part_len wf hw]
    · rfl
  have m4 := m 4 (.inr (.inr (.inl rfl)))
  have m32 := m 32 (.inr (.inr (.inr (.inl rfl))))
  have m64 := m 64 (.inr (.inr (.inr (.inr (.inl rfl)))))
  have m128 := m 128 (.inr (.inr (.inr (.inr (.inr rfl)))))
  simp only [List.flatMap_cons, List.flatMap_nil, List.length_append, List.length_nil]
  rw [m4, m32, m64, m128]
  unfold someOf moreW
  rw [List.filter_cons, List.filter_cons, List.filter_cons, List.filter_cons, List.filter_nil]
  by_cases c4 : Sd62.used s / 4 % 2 = 1 <;> by_cases c32 : Sd62.used s / 32 % 2 = 1 <;> by_cases c64 : Sd62.used s / 64 % 2 = 1 <;> by_cases c128 : Sd62.used s / 128 % 2 = 1 <;> simp [c4, c32, c64, c128, countOf, lstL, fstL]
theorem got_short {l : List Nat} (u : Nat) : shortSt l u (someOf u).length = gotB l (hasB u 4) (hasB u 32) (hasB u 64) (hasB u 128) := by
  have key : ∀ b4 b32 b64 b128 : Bool, someOf u = someB b4 b32 b64 b128 → shortSt l u (someOf u).length = gotB l b4 b32 b64 b128 := by
    intro b4 b32 b64 b128 h
    have at_ : ∀ i, shortAt u i = 576 + 8 * (((someB b4 b32 b64 b128).take i).map countOf).sum := fun i => by unfold shortAt; rw [h]
    have st : ∀ i, shortSt l u (i + 1) = match (someB b4 b32 b64 b128)[i]? with
      | none => shortSt l u i
      | some w => setPart (shortSt l u i) w (Sd62.numbers l (576 + 8 * (((someB b4 b32 b64 b128).take i).map countOf).sum) (countOf w)) := fun i => by
      rw [← at_, ← h]
      rfl
    have s0 : shortSt l u 0 = nf (mOf l) z8 (Sd62.numbers l 160 32) z32 z64 z128 := head_nf l
    have n0 : NfL (Sd62.numbers l 160 32) z32 z64 z128 := ⟨numbers_len .., rfl, rfl, rfl⟩
    rw [h]
    have s1 := st 0
    have s2 := st 1
    have s3 := st 2
    have s4 := st 3
    unfold gotB
    rw [taken_nf]
    cases b4 <;> cases b32 <;> cases b64 <;> cases b128
    all_goals
      simp [someB, countOf, lstL, fstL] at s1 s2 s3 s4 ⊢
      try rw [s4]
      try rw [s3]
      try rw [s2]
      try rw [s1]
      rw [s0]
      try rw [set_4 ⟨numbers_len .., rfl, rfl, rfl⟩ (numbers_len ..)]
      try rw [set_32]
      try rw [set_64 ⟨numbers_len .., by first | rfl | exact numbers_len .., rfl, rfl⟩ (numbers_len ..)]
      try rw [set_128 (numbers_len ..)]
      rfl
  exact key _ _ _ _ (someOf_B u)
theorem short_law {l : List Nat} (hb : ∀ x ∈ l, x < 256) (h0 : ¬ Sd62.number l 520 8 = 0) : (if 576 ≤ l.length ∧ l.length ≤ 2688 then readShort l (Sd62.number l 512 8) else none) = Sd62.read l := by
  rw [read_B h0]
  generalize hu : Sd62.number l 512 8 = u
  have hg := got_short (l := l) u
  rw [← hg]
  have wf : Wf (shortSt l u (someOf u).length) := by rw [hg]; exact taken_wf hb ..
  by_cases c : Sd62.short (shortSt l u (someOf u).length) = l
  · rw [if_pos c]
    have h1 := short_used wf
    rw [c, hu] at h1
    have h2 := short_len wf
    rw [c, ← h1] at h2
    have h3 : ((someOf u).map countOf).sum ≤ 232 := by
      rw [someOf_B]
      cases hasB u 4 <;> cases hasB u 32 <;> cases hasB u 64 <;> cases hasB u 128 <;> decide
    rw [if_pos (by omega)]
    unfold readShort
    rw [if_pos h2, if_pos c]
  · rw [if_neg c]
    split
    · unfold readShort
      by_cases z : l.length = 576 + 8 * ((someOf u).map countOf).sum
      · rw [if_pos z, if_neg c]
      · rw [if_neg z]
    · rfl
theorem read_law {l : List Nat} (hb : ∀ x ∈ l, x < 256) : readOf l = Sd62.read l := by
  by_cases h : Sd62.number l 520 8 = 0
  · rw [← long_law hb h]
    unfold readOf
    rw [if_pos h]
  · rw [← short_law hb h]
    unfold readOf
    rw [if_neg h]
end VP

/-! ### plain: each call's answer is the specification's -/
namespace VP
open PySem PySem.Spec PyProof.Rows L2
def Rel (o : Option Sd62.Obj) (c : Nat) (s : Sd62.St) : Prop := match o with
  | none => True
  | some x => c = x.parts ∧ s = x.st ∧ isMac x.parts
def ansI (x : Sd62.Ans) : List Int := if x.value < 0 then [x.value] else x.value :: x.bytes.map fun (n : Nat) => (n : Int)
def valsI : Outc → List Int
  | .inl z => [z]
  | .inr (l, _, _) => l.map fun n => ((n : Nat) : Int)
theorem valsO_I (o : Outc) : valsO o = (valsI o).map V.int := by
  cases o with
  | inl z => rfl
  | inr x => exact nv_ints x.1
theorem isM (p : Nat) : Sd62.isMachine p = decide (p = 3 ∨ p = 7 ∨ p = 231) := by
  unfold Sd62.isMachine
  by_cases h1 : p = 3
  · subst h1; rfl
  · rw [beq_eq_false_iff_ne.mpr h1, Bool.false_or]
    by_cases h2 : p = 7
    · subst h2; rfl
    · rw [beq_eq_false_iff_ne.mpr h2, Bool.false_or]
      by_cases h3 : p = 231
      · subst h3; rfl
      · rw [beq_eq_false_iff_ne.mpr h3, decide_eq_false (by omega)]
theorem goods_zip (xs : List Sd62.Step) : goods xs = xs.zipIdx.all fun y => Sd62.good y.2 y.1 := by
  rw [Bool.eq_iff_iff]
  unfold goods
  rw [List.all_eq_true, List.all_eq_true]
  constructor
  · rintro h ⟨x, i⟩ hm
    have hx := List.mk_mem_zipIdx_iff_getElem?.mp hm
    have hi := (List.getElem?_eq_some_iff.mp hx).1
    have e : xs.getD i d0 = x := by rw [List.getD_eq_getElem?_getD, hx]; rfl
    have h2 := h (Sd62.good i (xs.getD i d0)) (List.mem_map.mpr ⟨i, List.mem_range.mpr hi, rfl⟩)
    rw [e] at h2
    exact h2
  · intro h b hb
    obtain ⟨i, hi, rfl⟩ := List.mem_map.mp hb
    have hi' := List.mem_range.mp hi
    have hx : xs[i]? = some xs[i] := List.getElem?_eq_getElem hi'
    have e : xs.getD i d0 = xs[i] := by rw [List.getD_eq_getElem?_getD, hx]; rfl
    rw [e]
    exact h (xs[i], i) (List.mk_mem_zipIdx_iff_getElem?.mpr hx)
theorem needs_is (x : Sd62.Step) : Sd62.needs x = 231 ∨ Sd62.needs x = 7 ∨ Sd62.needs x = 3 := by
  unfold Sd62.needs
  split
  · exact .inl rfl
  · split
    · exact .inr (.inl rfl)
    · exact .inr (.inr rfl)
theorem has_needs {c : Nat} (hc : isMac c) (x : Sd62.Step) : decide (Sd62.needs x ≤ c) = Sd62.hasAll c (Sd62.needs x) := by
  rcases needs_is x with h | h | h <;> rw [h] <;> rcases hc with rfl | rfl | rfl <;> decide
theorem haves_all {c : Nat} (hc : isMac c) (xs : List Sd62.Step) : haves c xs = xs.all fun y => Sd62.hasAll c (Sd62.needs y) := by
  unfold haves
  rw [List.all_map]
  conv => rhs; rw [← map_range_get xs d0]
  rw [List.all_map]
  congr 1
  funext i
  exact has_needs hc _
theorem has_used {c : Nat} (hc : isMac c) (s : Sd62.St) : hasAllB c (Sd62.used s) = Sd62.hasAll c (Sd62.used s) := by
  unfold Sd62.used
  rcases hc with rfl | rfl | rfl <;>
    (cases Sd62.some0 s.m <;> cases Sd62.some0 (Sd62.lanesOf s 0 16 0 2) <;> cases Sd62.some0 (Sd62.lanesOf s 0 16 2 2) <;> cases Sd62.some0 s.k <;> cases Sd62.some0 (Sd62.lanesOf s 0 16 4 4) <;> cases Sd62.some0 (Sd62.lanesOf s 16 16 0 8) <;> decide)
theorem diff_is {s t : Sd62.St} (ws : Wf s) (wt : Wf t) : diffOf s t = (let ne (f : Sd62.St → List Nat) (n : Nat) : Nat := Sd62.bit (f s != f t) n
    ne (fun x => x.m) 1 + (ne (fun x => Sd62.lanesOf x 0 16 0 2) 2 + (ne (fun x => Sd62.lanesOf x 0 16 2 2) 4 + (ne (fun x => x.k) 32 + (ne (fun x => Sd62.lanesOf x 0 16 4 4) 64 + ne (fun x => Sd62.lanesOf x 16 16 0 8) 128))))) := by
  have key : ∀ a b : List Nat, decide (a ≠ b) = (a != b) := fun a b => by
    by_cases h : a = b
    · subst h
      rw [decide_eq_false (fun z => z rfl), bne_self_eq_false]
    · rw [decide_eq_true h, bne_iff_ne.mpr h]
  unfold diffOf
  rw [filter_sum_cons, filter_sum_cons, filter_sum_cons, filter_sum_cons, filter_sum_cons, filter_sum_cons, key, key, key, key, key, key, part_1, part_1, part_2, part_2, part_4, part_4, part_32, part_32, part_64, part_64, part_128 ws, part_128 wt]
  rfl
theorem some_of_bytes {row : List Nat} (h : row.length = 64) : Sd62.some0 (Sd62.numbers row 8 7) = Sd62.some0 (row.drop 8) := by
  rw [← numsOf_numbers (by omega)]
  have hl : ((row.drop 8).take (8 * 7)).length = 56 := by rw [List.length_take, List.length_drop, h]; rfl
  have e0 : (row.drop 8).take (8 * 7) = row.drop 8 := List.take_of_length_le (by rw [List.length_drop, h]; decide)
  rw [e0] at hl ⊢
  generalize row.drop 8 = r at hl
  rw [Bool.eq_iff_iff]
  unfold Sd62.some0
  rw [List.any_eq_true, List.any_eq_true]
  constructor
  · rintro ⟨x, hx, hx0⟩
    unfold numsOf at hx
    obtain ⟨i, _, rfl⟩ := List.mem_map.mp hx
    have hne := bne_iff_ne.mp hx0
    apply Decidable.byContradiction
    intro hn
    refine hne (numOf_zero.mpr fun b hb => ?_)
    apply Decidable.byContradiction
    intro hb0
    exact hn ⟨b, List.mem_of_mem_drop (List.mem_of_mem_take hb), bne_iff_ne.mpr hb0⟩
  · rintro ⟨b, hb, hb0⟩
    obtain ⟨i, hi⟩ := List.mem_iff_getElem?.mp hb
    have hil := (List.getElem?_eq_some_iff.mp hi).1
    refine ⟨numOf ((r.drop (8 * (i / 8))).take 8), ?_, bne_iff_ne.mpr fun z => bne_iff_ne.mp hb0 (numOf_zero.mp z b ?_)⟩
    · unfold numsOf
      exact List.mem_map.mpr ⟨i / 8, List.mem_range.mpr (by omega), rfl⟩
    · apply List.mem_of_getElem? (i := i % 8)
      rw [List.getElem?_take, if_pos (by omega), List.getElem?_drop, show 8 * (i / 8) + i % 8 = i by omega]
      exact hi
theorem nums_row {row : List Nat} (h : row.length = 64) : numsOf row = Sd62.numbers row 0 8 := by
  rw [← numsOf_numbers (by omega), List.drop_zero, List.take_of_length_le (by omega)]
theorem nums_0 {row : List Nat} (h : row.length = 64) : (numsOf row).getD 0 0 = Sd62.number row 0 8 := by
  rw [nums_row h]
  rfl
theorem put_law (room how c : Nat) (s0 : Sd62.St) (c' : Nat) (s' : Sd62.St) : valsI (putOf room how c s0 c' s') = ansI (Sd62.put room how c s0) ∧ machO (putOf room how c s0 c' s') c' s' = (c', s') := by
  unfold putOf Sd62.put
  have e : (if how = 0 then Sd62.long c s0 else Sd62.short s0) = formOf s0 how c := rfl
  dsimp only
  rw [e]
  generalize formOf s0 how c = l
  by_cases h : l.length ≤ room
  · rw [if_pos h, if_neg (by omega)]
    refine ⟨?_, rfl⟩
    show _ = (if ((l.length : Nat) : Int) < 0 then _ else _)
    rw [if_neg (by omega)]
    rfl
  · rw [if_neg h, if_pos (by omega)]
    exact ⟨rfl, rfl⟩
end VP

/-! ### plain: the law of each call -/
namespace VP
open PySem PySem.Spec PyProof.Rows L2
theorem tf : ¬ (true = false) := by decide
structure OpOk (o : Option Sd62.Obj) (q : Sd62.Call) (c : Nat) (s : Sd62.St) (j : Nat) (ns : List Nat) : Prop where
  pre : preOp j ns c s
  val : valsI (outOp j ns c s) = ansI (Sd62.spec o q).2
  rel : Rel (Sd62.spec o q).1 (machO (outOp j ns c s) c s).1 (machO (outOp j ns c s) c s).2
section
variable {o : Option Sd62.Obj} {c : Nat} {s : Sd62.St}
theorem law_new (p : Nat) (hr : Rel o c s) : OpOk o (.new p) c s 0 [p] := by
  refine ⟨⟨p, rfl⟩, ?_, ?_⟩
  · show valsI (outNew [p] c s) = ansI (if Sd62.isMachine p = true then _ else _ : Option Sd62.Obj × Sd62.Ans).2
    rw [isM]
    by_cases h : p = 3 ∨ p = 7 ∨ p = 231
    · rw [decide_eq_true h, if_pos rfl, show outNew [p] c s = .inr ([0], p, Sd62.fresh) from if_pos h]
      rfl
    · rw [decide_eq_false h, if_neg (by decide), show outNew [p] c s = .inl (-1) from if_neg h]
      rfl
  · show Rel (if Sd62.isMachine p = true then _ else _ : Option Sd62.Obj × Sd62.Ans).1 (machO (outNew [p] c s) c s).1 (machO (outNew [p] c s) c s).2
    rw [isM]
    by_cases h : p = 3 ∨ p = 7 ∨ p = 231
    · rw [decide_eq_true h, if_pos rfl, show outNew [p] c s = .inr ([0], p, Sd62.fresh) from if_pos h]
      exact ⟨rfl, rfl, h⟩
    · rw [decide_eq_false h, if_neg (by decide), show outNew [p] c s = .inl (-1) from if_neg h]
      exact hr
theorem law_run {x : Sd62.Obj} (n f m : Nat) (code : List Nat) (hr : Rel (some x) c s) (hl : code.length = 6 * Sd62Neutral.within_ n Sd62.STEPS) (hb : ∀ y ∈ code, y < 256) : OpOk (some x) (.run code n f m) c s 1 (n :: f :: m :: code) := by
  obtain ⟨rfl, rfl, hc⟩ := hr
  have hw : n ≤ 4096 → code.length = 6 * n := fun h => by
    rw [hl]
    unfold Sd62Neutral.within_
    rw [if_pos (show n ≤ Sd62.STEPS from h)]
  have main : valsI (outRun (n :: f :: m :: code) x.parts x.st) = ansI (Sd62.spec (some x) (.run code n f m)).2 ∧ Rel (Sd62.spec (some x) (.run code n f m)).1 (machO (outRun (n :: f :: m :: code) x.parts x.st) x.parts x.st).1 (machO (outRun (n :: f :: m :: code) x.parts x.st) x.parts x.st).2 := by
    have e : Sd62.spec (some x) (.run code n f m) = (if Sd62.STEPS < n ∨ n < f ∨ Sd62.MOST < m then (some x, Sd62.only (-1)) else if ((Sd62.steps code).zipIdx.all fun y => Sd62.good y.2 y.1) = false then (some x, Sd62.only (-2)) else if ((Sd62.steps code).all fun y => Sd62.hasAll x.parts (Sd62.needs y)) = false then (some x, Sd62.only (-3)) else
      (some ⟨x.parts, (Sd62.run (Sd62.steps code) m x.st f).1⟩, Sd62.only ((Sd62.run (Sd62.steps code) m x.st f).2 : Nat))) := rfl
    have eo : outRun (n :: f :: m :: code) x.parts x.st = (if n ≤ 4096 ∧ f ≤ n ∧ m ≤ 1000000 then (if goods (Sd62.steps code) = true then (if haves x.parts (Sd62.steps code) = true then .inr ([(Sd62.run (Sd62.steps code) m x.st f).2], x.parts, (Sd62.run (Sd62.steps code) m x.st f).1) else .inl (-3)) else .inl (-2)) else .inl (-1)) := rfl
    rw [e, eo, ← goods_zip, ← haves_all hc]
    have hS : Sd62.STEPS = 4096 := rfl
    have hM : Sd62.MOST = 1000000 := rfl
    rw [hS, hM]
    by_cases c1 : n ≤ 4096 ∧ f ≤ n ∧ m ≤ 1000000
    · rw [if_pos c1, if_neg (show ¬ (4096 < n ∨ n < f ∨ 1000000 < m) by omega)]
      cases goods (Sd62.steps code) with
      | false => exact ⟨rfl, rfl, rfl, hc⟩
      | true =>
        rw [if_pos rfl, if_neg tf]
        cases haves x.parts (Sd62.steps code) with
        | false => exact ⟨rfl, rfl, rfl, hc⟩
        | true =>
          rw [if_pos rfl, if_neg tf]
          refine ⟨?_, rfl, rfl, hc⟩
          show [(((Sd62.run (Sd62.steps code) m x.st f).2 : Nat) : Int)] = (if (((Sd62.run (Sd62.steps code) m x.st f).2 : Nat) : Int) < 0 then _ else _)
          rw [if_neg (by omega)]
          rfl
    · rw [if_neg c1, if_pos (show 4096 < n ∨ n < f ∨ 1000000 < m by omega)]
      exact ⟨rfl, rfl, rfl, hc⟩
  exact ⟨⟨n, f, m, code, rfl, hw, hb⟩, main.1, main.2⟩
theorem law_save {x : Sd62.Obj} (r h : Nat) (hr : Rel (some x) c s) : OpOk (some x) (.save r h) c s 2 [r, h] := by
  obtain ⟨rfl, rfl, hc⟩ := hr
  have e : Sd62.spec (some x) (.save r h) = if 1 < h then (some x, Sd62.only (-1)) else (some x, Sd62.put r h x.parts x.st) := rfl
  have eo : outOp 2 [r, h] x.parts x.st = if h ≤ 1 then putOf r h x.parts x.st x.parts x.st else .inl (-1) := rfl
  obtain ⟨p1, p2⟩ := put_law r h x.parts x.st x.parts x.st
  refine ⟨⟨⟨r, h, rfl⟩, hc⟩, ?_, ?_⟩
  · rw [e, eo]
    by_cases c1 : h ≤ 1
    · rw [if_pos c1, if_neg (by omega)]; exact p1
    · rw [if_neg c1, if_pos (by omega)]; rfl
  · rw [e, eo]
    by_cases c1 : h ≤ 1
    · rw [if_pos c1, if_neg (by omega), p2]; exact ⟨rfl, rfl, hc⟩
    · rw [if_neg c1, if_pos (by omega)]; exact ⟨rfl, rfl, hc⟩
theorem law_load (n p : Nat) (l : List Nat) (hr : Rel o c s) (hb : ∀ y ∈ l, y < 256) : OpOk o (.load l n p) c s 3 (n :: p :: l) := by
  have e : Sd62.spec o (.load l n p) = if Sd62.isMachine p = false then (o, Sd62.only (-1)) else if Sd62.LONG < n then (o, Sd62.only (-2)) else match Sd62.read l with
    | none => (o, Sd62.only (-2))
    | some s => if Sd62.hasAll p (Sd62.used s) = false then (o, Sd62.only (-3)) else (some ⟨p, s⟩, Sd62.only 0) := rfl
  have eo : outOp 3 (n :: p :: l) c s = if p = 3 ∨ p = 7 ∨ p = 231 then (if n ≤ 2688 then (match readOf l with
    | none => .inl (-2)
    | some s' => if hasAllB p (Sd62.used s') = true then .inr ([0], p, s') else .inl (-3)) else .inl (-2)) else .inl (-1) := rfl
  have main : valsI (outOp 3 (n :: p :: l) c s) = ansI (Sd62.spec o (.load l n p)).2 ∧ Rel (Sd62.spec o (.load l n p)).1 (machO (outOp 3 (n :: p :: l) c s) c s).1 (machO (outOp 3 (n :: p :: l) c s) c s).2 := by
    rw [e, eo, isM, read_law hb]
    have hL : Sd62.LONG = 2688 := rfl
    rw [hL]
    by_cases c1 : p = 3 ∨ p = 7 ∨ p = 231
    · rw [if_pos c1, decide_eq_true c1, if_neg tf]
      by_cases c2 : n ≤ 2688
      · rw [if_pos c2, if_neg (by omega)]
        cases Sd62.read l with
        | none => exact ⟨rfl, hr⟩
        | some s' =>
          show valsI (if hasAllB p (Sd62.used s') = true then _ else _) = ansI (if Sd62.hasAll p (Sd62.used s') = false then _ else _ : Option Sd62.Obj × Sd62.Ans).2 ∧ Rel (if Sd62.hasAll p (Sd62.used s') = false then _ else _ : Option Sd62.Obj × Sd62.Ans).1 (machO (if hasAllB p (Sd62.used s') = true then _ else _) c s).1 (machO (if hasAllB p (Sd62.used s') = true then _ else _) c s).2
          rw [has_used c1]
          cases Sd62.hasAll p (Sd62.used s') with
          | true => exact ⟨rfl, rfl, rfl, c1⟩
          | false => exact ⟨rfl, hr⟩
      · rw [if_neg c2, if_pos (by omega)]
        exact ⟨rfl, hr⟩
    · rw [if_neg c1, decide_eq_false c1, if_pos rfl]
      exact ⟨rfl, hr⟩
  exact ⟨⟨n, p, l, rfl, hb⟩, main.1, main.2⟩
theorem law_turn (n r h p : Nat) (l : List Nat) (hr : Rel o c s) (hb : ∀ y ∈ l, y < 256) : OpOk o (.turn l n r h p) c s 4 (n :: r :: h :: p :: l) := by
  have e : Sd62.spec o (.turn l n r h p) = if 1 < h ∨ Sd62.isMachine p = false then (o, Sd62.only (-1)) else if Sd62.LONG < n then (o, Sd62.only (-2)) else match Sd62.read l with
    | none => (o, Sd62.only (-2))
    | some s => if Sd62.hasAll p (Sd62.used s) = false then (o, Sd62.only (-3)) else (o, Sd62.put r h p s) := rfl
  have eo : outOp 4 (n :: r :: h :: p :: l) c s = if h ≤ 1 ∧ (p = 3 ∨ p = 7 ∨ p = 231) then (if n ≤ 2688 then (match readOf l with
    | none => .inl (-2)
    | some s' => if hasAllB p (Sd62.used s') = true then putOf r h p s' c s else .inl (-3)) else .inl (-2)) else .inl (-1) := rfl
  have main : valsI (outOp 4 (n :: r :: h :: p :: l) c s) = ansI (Sd62.spec o (.turn l n r h p)).2 ∧ Rel (Sd62.spec o (.turn l n r h p)).1 (machO (outOp 4 (n :: r :: h :: p :: l) c s) c s).1 (machO (outOp 4 (n :: r :: h :: p :: l) c s) c s).2 := by
    rw [e, eo, isM, read_law hb]
    have hL : Sd62.LONG = 2688 := rfl
    rw [hL]
    by_cases c1 : h ≤ 1 ∧ (p = 3 ∨ p = 7 ∨ p = 231)
    · rw [if_pos c1, decide_eq_true c1.2, if_neg (show ¬ (1 < h ∨ true = false) from fun z => z.elim (fun q => by omega) tf)]
      by_cases c2 : n ≤ 2688
      · rw [if_pos c2, if_neg (by omega)]
        cases Sd62.read l with
        | none => exact ⟨rfl, hr⟩
        | some s' =>
          show valsI (if hasAllB p (Sd62.used s') = true then _ else _) = ansI (if Sd62.hasAll p (Sd62.used s') = false then _ else _ : Option Sd62.Obj × Sd62.Ans).2 ∧ Rel (if Sd62.hasAll p (Sd62.used s') = false then _ else _ : Option Sd62.Obj × Sd62.Ans).1 (machO (if hasAllB p (Sd62.used s') = true then _ else _) c s).1 (machO (if hasAllB p (Sd62.used s') = true then _ else _) c s).2
          rw [has_used c1.2]
          obtain ⟨p1, p2⟩ := put_law r h p s' c s
          cases Sd62.hasAll p (Sd62.used s') with
          | true =>
            rw [if_pos rfl, if_neg tf]
            refine ⟨p1, ?_⟩
            rw [p2]
            exact hr
          | false => exact ⟨rfl, hr⟩
      · rw [if_neg c2, if_pos (by omega)]
        exact ⟨rfl, hr⟩
    · rw [if_neg c1, if_pos (show 1 < h ∨ decide (p = 3 ∨ p = 7 ∨ p = 231) = false by
        by_cases c3 : h ≤ 1
        · exact .inr (decide_eq_false fun z => c1 ⟨c3, z⟩)
        · exact .inl (by omega))]
      exact ⟨rfl, hr⟩
  exact ⟨⟨n, r, h, p, l, rfl, hb⟩, main.1, main.2⟩
theorem law_peek {x : Sd62.Obj} (w : Nat) (hr : Rel (some x) c s) : OpOk (some x) (.peek w) c s 5 [w] := by
  obtain ⟨rfl, rfl, hc⟩ := hr
  have e : Sd62.spec (some x) (.peek w) = if 48 < w then (some x, Sd62.only (-1)) else (some x, ⟨0, Sd62.register x w⟩) := rfl
  have eo : outOp 5 [w] x.parts x.st = if w ≤ 48 then .inr (0 :: Sd62.register x w, x.parts, x.st) else .inl (-1) := rfl
  refine ⟨⟨w, rfl⟩, ?_, ?_⟩
  · rw [e, eo]
    by_cases c1 : w ≤ 48
    · rw [if_pos c1, if_neg (by omega)]; rfl
    · rw [if_neg c1, if_pos (by omega)]; rfl
  · rw [e, eo]
    by_cases c1 : w ≤ 48
    · rw [if_pos c1, if_neg (by omega)]; exact ⟨rfl, rfl, hc⟩
    · rw [if_neg c1, if_pos (by omega)]; exact ⟨rfl, rfl, hc⟩
theorem law_poke {x : Sd62.Obj} (w : Nat) (l : List Nat) (hr : Rel (some x) c s) (hl : l.length = 64) (hb : ∀ y ∈ l, y < 256) : OpOk (some x) (.poke w l) c s 6 (w :: l) := by
  obtain ⟨rfl, rfl, hc⟩ := hr
  have e : Sd62.spec (some x) (.poke w l) = if 47 < w then (some x, Sd62.only (-1)) else match Sd62.given x.st w l with
      | none => (some x, Sd62.only (-2))
      | some s => if Sd62.hasAll x.parts (Sd62.used s) = false then (some x, Sd62.only (-3)) else (some ⟨x.parts, s⟩, Sd62.only 0) := rfl
  have eo : outOp 6 (w :: l) x.parts x.st = if w < 48 then (if w < 32 ∨ Sd62.some0 (l.drop 8) = false then (if hasAllB x.parts (Sd62.used (pokeSt x.st w l)) = true then .inr ([0], x.parts, pokeSt x.st w l) else .inl (-3)) else .inl (-2)) else .inl (-1) := rfl
  have eg : Sd62.given x.st w l = if w < 32 ∨ Sd62.some0 (l.drop 8) = false then some (pokeSt x.st w l) else none := by
    unfold Sd62.given pokeSt
    rw [some_of_bytes hl, nums_0 hl, nums_row hl]
    by_cases c1 : w < 32
    · rw [if_pos c1, if_pos (.inl c1), if_pos c1]
    · rw [if_neg c1]
      cases hz : Sd62.some0 (l.drop 8) with
      | true =>
        rw [if_pos rfl, if_neg]
        intro z
        rcases z with z | z
        · exact c1 z
        · cases z
      | false =>
        rw [if_neg Bool.false_ne_true, if_pos (show w < 32 ∨ false = false from .inr rfl), if_neg c1]
        by_cases c2 : w < 40
        · rw [if_pos c2, if_pos c2]
        · rw [if_neg c2, if_neg c2]
  have main : valsI (outOp 6 (w :: l) x.parts x.st) = ansI (Sd62.spec (some x) (.poke w l)).2 ∧ Rel (Sd62.spec (some x) (.poke w l)).1 (machO (outOp 6 (w :: l) x.parts x.st) x.parts x.st).1 (machO (outOp 6 (w :: l) x.parts x.st) x.parts x.st).2 := by
    rw [e, eo, eg]
    by_cases c1 : w < 48
    · rw [if_pos c1, if_neg (show ¬ 47 < w by omega)]
      by_cases c2 : w < 32 ∨ Sd62.some0 (l.drop 8) = false
      · rw [if_pos c2, if_pos c2]
        show valsI (if hasAllB x.parts (Sd62.used (pokeSt x.st w l)) = true then _ else _) = ansI (if Sd62.hasAll x.parts (Sd62.used (pokeSt x.st w l)) = false then _ else _ : Option Sd62.Obj × Sd62.Ans).2 ∧ Rel (if Sd62.hasAll x.parts (Sd62.used (pokeSt x.st w l)) = false then _ else _ : Option Sd62.Obj × Sd62.Ans).1 (machO (if hasAllB x.parts (Sd62.used (pokeSt x.st w l)) = true then _ else _) x.parts x.st).1 (machO (if hasAllB x.parts (Sd62.used (pokeSt x.st w l)) = true then _ else _) x.parts x.st).2
        rw [has_used hc]
        cases Sd62.hasAll x.parts (Sd62.used (pokeSt x.st w l)) with
        | true => exact ⟨rfl, rfl, rfl, hc⟩
        | false => exact ⟨rfl, rfl, rfl, hc⟩
      · rw [if_neg c2, if_neg c2]
        exact ⟨rfl, rfl, rfl, hc⟩
    · rw [if_neg c1, if_pos (show 47 < w by omega)]
      exact ⟨rfl, rfl, rfl, hc⟩
  exact ⟨⟨w, l, rfl, hl, hb⟩, main.1, main.2⟩
theorem read_wf {l : List Nat} (hb : ∀ y ∈ l, y < 256) {s : Sd62.St} (h : Sd62.read l = some s) : Wf s := by
  have k : ∀ (x : Sd62.St × List Nat) (hx : Wf x.1), (if x.2 = l then some x.1 else none) = some s → Wf s := fun x hx h => by
    by_cases c : x.2 = l
    · rw [if_pos c] at h
      rw [← Option.some.inj h]
      exact hx
    · rw [if_neg c] at h
      cases h
  refine k (Sd62.guess l) ?_ h
  unfold Sd62.guess
  dsimp only
  split
  · exact taken_wf hb ..
  · exact taken_wf hb ..
theorem law_differ (n m : Nat) (l : List Nat) (hr : Rel o c s) (hl : l.length = Sd62Neutral.within_ n Sd62.LONG + Sd62Neutral.within_ m Sd62.LONG) (hb : ∀ y ∈ l, y < 256) :
    OpOk o (.differ (l.take (Sd62Neutral.within_ n Sd62.LONG)) (l.drop (Sd62Neutral.within_ n Sd62.LONG)) n m) c s 7 (n :: m :: l) := by
  generalize hwn : Sd62Neutral.within_ n Sd62.LONG = wn at hl
  have e : Sd62.spec o (.differ (l.take wn) (l.drop wn) n m) = if Sd62.LONG < n ∨ Sd62.LONG < m then (o, Sd62.only (-2)) else match Sd62.read (l.take wn), Sd62.read (l.drop wn) with
    | some s, some t =>
      let ne (f : Sd62.St → List Nat) (n : Nat) : Nat := Sd62.bit (f s != f t) n
      (o, Sd62.only ((ne (fun x => x.m) 1 + (ne (fun x => Sd62.lanesOf x 0 16 0 2) 2 + (ne (fun x => Sd62.lanesOf x 0 16 2 2) 4 + (ne (fun x => x.k) 32 + (ne (fun x => Sd62.lanesOf x 0 16 4 4) 64 + ne (fun x => Sd62.lanesOf x 16 16 0 8) 128)))) : Nat) : Int))
    | _, _ => (o, Sd62.only (-2)) := rfl
  have eo : outOp 7 (n :: m :: l) c s = if n ≤ 2688 ∧ m ≤ 2688 then (match readOf (l.take n), readOf ((n :: m :: l).drop (2 + n)) with
    | some x, some y => .inr ([diffOf x y], c, s)
    | _, _ => .inl (-2)) else .inl (-2) := rfl
  have main : valsI (outOp 7 (n :: m :: l) c s) = ansI (Sd62.spec o (.differ (l.take wn) (l.drop wn) n m)).2 ∧ Rel (Sd62.spec o (.differ (l.take wn) (l.drop wn) n m)).1 (machO (outOp 7 (n :: m :: l) c s) c s).1 (machO (outOp 7 (n :: m :: l) c s) c s).2 := by
    have hL : Sd62.LONG = 2688 := rfl
    rw [e, eo, hL]
    by_cases c1 : n ≤ 2688 ∧ m ≤ 2688
    · have hn : wn = n := by
        rw [← hwn]
        unfold Sd62Neutral.within_
        exact if_pos c1.1
      subst hn
      have hd : (wn :: m :: l).drop (2 + wn) = l.drop wn := by rw [Nat.add_comm]; rfl
      have hb1 : ∀ y ∈ l.take wn, y < 256 := fun y hy => hb y (List.mem_of_mem_take hy)
      have hb2 : ∀ y ∈ l.drop wn, y < 256 := fun y hy => hb y (List.mem_of_mem_drop hy)
      rw [if_pos c1, if_neg (show ¬ (2688 < wn ∨ 2688 < m) by omega), hd, read_law hb1, read_law hb2]
      cases h1 : Sd62.read (l.take wn) with
      | none => exact ⟨rfl, hr⟩
      | some x =>
        cases h2 : Sd62.read (l.drop wn) with
        | none => exact ⟨rfl, hr⟩
        | some y =>
          have hdiff := diff_is (read_wf hb1 h1) (read_wf hb2 h2)
          refine ⟨?_, hr⟩
          show [((diffOf x y : Nat) : Int)] = ansI (Sd62.only ((_ : Nat) : Int))
          rw [hdiff]
          show _ = (if ((_ : Nat) : Int) < 0 then _ else _)
          rw [if_neg (by omega)]
          rfl
    · rw [if_neg c1, if_pos (show 2688 < n ∨ 2688 < m by omega)]
      exact ⟨rfl, hr⟩
  exact ⟨⟨n, m, l, rfl, hb⟩, main.1, main.2⟩
end
end VP

/-! ### answers: the loop over the calls -/
namespace VP
open PySem PySem.Spec PyProof.Rows L2
open Evl (Ex RetL RetV Ev EvL EvT EvA EvO)
/-! plain: parsing -/
theorem call_form {p : Int} {r t : List Int} {c1 : List (List Int)} (h : PyWide.call (p :: r) = some (c1, t)) (ha : Sd62Neutral.asked1 c1 = true) : ∃ ns : List Int, r = ((ns.length : Nat) : Int) :: (ns ++ 0 :: t) ∧ c1 = [p :: ns] := by
  unfold PyWide.call at h
  cases r with
  | nil => cases h
  | cons n r =>
    by_cases hn : 0 ≤ n ∧ n.toNat ≤ r.length
    · have hrow : PyFlat.row (n :: r) = some (r.take n.toNat, r.drop n.toNat) := if_pos hn
      simp only [hrow] at h
      cases hd : r.drop n.toNat with
      | nil => rw [hd] at h; cases h
      | cons k u =>
        rw [hd] at h
        have h2 : (if 0 ≤ k then (match PyFlat.rows k.toNat u with
          | none => none
          | some (xs, v) => some ((p :: r.take n.toNat) :: xs, v)) else none) = some (c1, t) := h
        by_cases hk : 0 ≤ k
        · rw [if_pos hk] at h2
          cases hr : PyFlat.rows k.toNat u with
          | none => rw [hr] at h2; cases h2
          | some y =>
            obtain ⟨xs, v⟩ := y
            rw [hr] at h2
            have h3 := Option.some.inj h2
            have h4 : c1 = (p :: r.take n.toNat) :: xs := (congrArg Prod.fst h3).symm
            have h5 : t = v := (congrArg Prod.snd h3).symm
            have hlen : c1.length = 1 := by
              unfold Sd62Neutral.asked1 at ha
              have := (Bool.and_eq_true_iff.mp ha).1
              exact beq_iff_eq.mp this
            rw [h4] at hlen
            have hxs : xs = [] := List.eq_nil_of_length_eq_zero (by rw [List.length_cons] at hlen; omega)
            have hk0 : k.toNat = 0 := by
              apply Decidable.byContradiction
              intro hne
              obtain ⟨k', hk'⟩ : ∃ k', k.toNat = k' + 1 := ⟨k.toNat - 1, by omega⟩
              rw [hk'] at hr
              unfold PyFlat.rows at hr
              cases h6 : PyFlat.row u with
              | none => rw [h6] at hr; cases hr
              | some z =>
                obtain ⟨x1, s1⟩ := z
                rw [h6] at hr
                have hr : (match PyFlat.rows k' s1 with | none => none | some (xs, t) => some (x1 :: xs, t)) = some (xs, v) := hr
                cases h7 : PyFlat.rows k' s1 with
                | none => rw [h7] at hr; cases hr
                | some z2 =>
                  obtain ⟨x2, s2⟩ := z2
                  rw [h7] at hr
                  have h8 := congrArg Prod.fst (Option.some.inj hr)
                  rw [hxs] at h8
                  cases h8
            rw [hk0] at hr
            have h9 := Option.some.inj hr
            have h10 : u = v := congrArg Prod.snd h9
            have hk1 : k = 0 := by omega
            refine ⟨r.take n.toNat, ?_, by rw [h4, hxs]⟩
            rw [List.length_take, Nat.min_eq_left hn.2, h5, ← h10, ← hk1, ← hd, List.take_append_drop]
            rw [show ((n.toNat : Nat) : Int) = n by omega]
        · rw [if_neg hk] at h2; cases h2
    · have hrow : PyFlat.row (n :: r) = none := if_neg hn
      simp only [hrow] at h
      cases h
theorem calls_step {f : Nat} {p : Int} {r : List Int} {cs : List (List (List Int))} (h : PyWide.calls f (p :: r) = some cs) : ∃ f' c1 t cs', PyWide.call (p :: r) = some (c1, t) ∧ PyWide.calls f' t = some cs' ∧ cs = c1 :: cs' := by
  cases f with
  | zero => cases h
  | succ f =>
    have h2 : (match PyWide.call (p :: r) with
      | none => none
      | some (c, t) => match PyWide.calls f t with
        | none => none
        | some cs => some (c :: cs)) = some cs := h
    cases hc : PyWide.call (p :: r) with
    | none => rw [hc] at h2; cases h2
    | some y =>
      obtain ⟨c1, t⟩ := y
      rw [hc] at h2
      have h3 : (match PyWide.calls f t with
        | none => none
        | some cs => some (c1 :: cs)) = some cs := h2
      cases hd : PyWide.calls f t with
      | none => rw [hd] at h3; cases h3
      | some cs' =>
        rw [hd] at h3
        exact ⟨f, c1, t, cs', rfl, hd, (Option.some.inj h3).symm⟩
theorem nats_cast : ∀ {l : List Int}, (l.all fun z => decide (0 ≤ z)) = true → l = (Sd62Neutral.natsOf l).map fun n => ((n : Nat) : Int)
  | [], _ => rfl
  | z :: l, h => by
    have h2 := Bool.and_eq_true_iff.mp (show (decide (0 ≤ z) && l.all fun z => decide (0 ≤ z)) = true from h)
    have h3 := of_decide_eq_true h2.1
    have ih := nats_cast h2.2
    show z :: l = ((z.toNat : Nat) : Int) :: (Sd62Neutral.natsOf l).map fun n => ((n : Nat) : Int)
    rw [← ih, show ((z.toNat : Nat) : Int) = z by omega]
theorem bytes_nat {l : List Int} (h : (l.all fun z => decide (z < 256)) = true) : ∀ x ∈ Sd62Neutral.natsOf l, x < 256 := by
  intro x hx
  obtain ⟨z, hz, rfl⟩ := List.mem_map.mp hx
  have := of_decide_eq_true (List.all_eq_true.mp h z hz)
  omega
/-- a call that is asked: its law -/
theorem asked_law {L : List Int} {o : Option Sd62.Obj} {c : Nat} {s : Sd62.St} (ha : Sd62Neutral.asked1 [L] = true) (hr : Rel o c s) (hn : ∀ q, Sd62Neutral.callOf (Sd62Neutral.natsOf L) = some q → Sd62Neutral.needsMachine q = true → o.isSome = true) :
    ∃ (j : Nat) (ns : List Nat), L = ((j : Nat) : Int) :: ns.map (fun n => ((n : Nat) : Int)) ∧ j < 8 ∧ preOp j ns c s ∧ valsI (outOp j ns c s) = (Sd62Neutral.step o [L]).2 ∧ Rel (Sd62Neutral.step o [L]).1 (machO (outOp j ns c s) c s).1 (machO (outOp j ns c s) c s).2 := by
  have h1 : ((L.all (fun z => decide (0 ≤ z)) && ((Sd62Neutral.callOf (Sd62Neutral.natsOf L)).isSome && ((L.take (Sd62Neutral.leading L)).all (fun (z : Int) => decide (z < 2 ^ 32)) && (L.drop (Sd62Neutral.leading L)).all fun (z : Int) => decide (z < 256))))) = true := ha
  have h2 := Bool.and_eq_true_iff.mp h1
  have h3 := Bool.and_eq_true_iff.mp h2.2
  have h4 := Bool.and_eq_true_iff.mp h3.2
  have hL := nats_cast h2.1
  obtain ⟨q, hq⟩ := Option.isSome_iff_exists.mp h3.1
  have hst : Sd62Neutral.step o [L] = ((Sd62.spec o q).1, ansI (Sd62.spec o q).2) := by
    unfold Sd62Neutral.step
    show (match Sd62Neutral.callOf (Sd62Neutral.natsOf L) with | none => _ | some q => _) = _
    rw [hq]
    rfl
  have hby : ∀ k, Sd62Neutral.leading L = k → ∀ x ∈ (Sd62Neutral.natsOf L).drop k, x < 256 := fun k hk x hx => by
    have h5 := bytes_nat h4.2
    rw [hk] at h5
    refine h5 x ?_
    unfold Sd62Neutral.natsOf at hx ⊢
    rw [List.map_drop]
    exact hx
  have hn' := hn q hq
  have fin : ∀ (j : Nat) (ns : List Nat), Sd62Neutral.natsOf L = j :: ns → j < 8 → OpOk o q c s j ns → ∃ (j : Nat) (ns : List Nat), L = ((j : Nat) : Int) :: ns.map (fun n => ((n : Nat) : Int)) ∧ j < 8 ∧ preOp j ns c s ∧ valsI (outOp j ns c s) = (Sd62Neutral.step o [L]).2 ∧ Rel (Sd62Neutral.step o [L]).1 (machO (outOp j ns c s) c s).1 (machO (outOp j ns c s) c s).2 := fun j ns hns hj ok =>
    ⟨j, ns, by rw [hL, hns]; rfl, hj, ok.pre, by rw [hst]; exact ok.val, by rw [hst]; exact ok.rel⟩
  have lead : ∀ (j : Nat) (ns : List Nat), Sd62Neutral.natsOf L = j :: ns → L = ((j : Nat) : Int) :: ns.map (fun n => ((n : Nat) : Int)) := fun j ns hns => by rw [hL, hns]; rfl
  generalize hN : Sd62Neutral.natsOf L = N at hq hby fin lead
  unfold Sd62Neutral.callOf at hq
  split at hq
  · obtain rfl := Option.some.inj hq
    exact fin 0 _ rfl (by decide) (law_new _ hr)
  · rename_i n f m l
    by_cases hl : l.length = 6 * Sd62Neutral.within_ n Sd62.STEPS
    · rw [if_pos hl] at hq
      obtain rfl := Option.some.inj hq
      obtain ⟨x, rfl⟩ := Option.isSome_iff_exists.mp (hn' rfl)
      exact fin 1 _ rfl (by decide) (law_run n f m l hr hl (hby 4 (by rw [lead _ _ rfl]; rfl)))
    · rw [if_neg hl] at hq; cases hq
  · obtain rfl := Option.some.inj hq
    obtain ⟨x, rfl⟩ := Option.isSome_iff_exists.mp (hn' rfl)
    exact fin 2 _ rfl (by decide) (law_save _ _ hr)
  · rename_i n p l
    by_cases hl : l.length = Sd62Neutral.within_ n Sd62.LONG
    · rw [if_pos hl] at hq
      obtain rfl := Option.some.inj hq
      exact fin 3 _ rfl (by decide) (law_load n p l hr (hby 3 (by rw [lead _ _ rfl]; rfl)))
    · rw [if_neg hl] at hq; cases hq
  · rename_i n r h p l
    by_cases hl : l.length = Sd62Neutral.within_ n Sd62.LONG
    · rw [if_pos hl] at hq
      obtain rfl := Option.some.inj hq
      exact fin 4 _ rfl (by decide) (law_turn n r h p l hr (hby 5 (by rw [lead _ _ rfl]; rfl)))
    · rw [if_neg hl] at hq; cases hq
  · obtain rfl := Option.some.inj hq
    obtain ⟨x, rfl⟩ := Option.isSome_iff_exists.mp (hn' rfl)
    exact fin 5 _ rfl (by decide) (law_peek _ hr)
  · rename_i w l
    by_cases hl : l.length = 64
    · rw [if_pos hl] at hq
      obtain rfl := Option.some.inj hq
      obtain ⟨x, rfl⟩ := Option.isSome_iff_exists.mp (hn' rfl)
      exact fin 6 _ rfl (by decide) (law_poke w l hr hl (hby 2 (by rw [lead _ _ rfl]; rfl)))
    · rw [if_neg hl] at hq; cases hq
  · rename_i a b l
    by_cases hl : l.length = Sd62Neutral.within_ a Sd62.LONG + Sd62Neutral.within_ b Sd62.LONG
    · rw [if_pos hl] at hq
      obtain rfl := Option.some.inj hq
      exact fin 7 _ rfl (by decide) (law_differ a b l hr hl (hby 3 (by rw [lead _ _ rfl]; rfl)))
    · rw [if_neg hl] at hq; cases hq
  · cases hq
end VP

/-! ### answers -/
namespace VP
open PySem PySem.Spec PyProof.Rows L2
open Evl (Ex RetL RetV Ev EvL EvT EvA EvO)
theorem DeskAt.other {A : Ad} {H0 H : Hp} {d fl : Addr} {c : Nat} {s : Sd62.St} {o o' : HO} (h : DeskAt A (upd H0 fl o) H d c s) (h0 : H0 fl = none) : DeskAt A (upd H0 fl o') (upd H fl o') d c s := by
  obtain ⟨dx, st, hd, hS⟩ := h.ex
  have ndf : d ≠ fl := fun z => by
    have := h.fr
    rw [z, upd_same] at this
    cases this
  obtain ⟨f, fa, hc, hap, hfr⟩ := hS.ex
  have nb : ∀ {b : Addr}, upd (upd H0 fl o) d (.ins A.cDesk dx (dF c st)) b = none → b ≠ fl ∧ b ≠ d := fun {b} hb => by
    refine ⟨fun z => ?_, fun z => ?_⟩
    · rw [z, upd_ne (Ne.symm ndf), upd_same] at hb; cases hb
    · rw [z, upd_same] at hb; cases hb
  have keep : ∀ {b : Addr} {u : HO}, upd (upd H0 fl o) d (.ins A.cDesk dx (dF c st)) b = none → H b = some u → upd H fl o' b = some u := fun {b u} hb h => by rw [upd_ne (nb hb).1]; exact h
  have off : ∀ {b : Addr}, upd (upd H0 fl o) d (.ins A.cDesk dx (dF c st)) b = none → upd (upd H0 fl o') d (.ins A.cDesk dx (dF c st)) b = none := fun {b} hb => by
    obtain ⟨n1, n2⟩ := nb hb
    rw [upd_ne n2, upd_ne n1] at hb
    rw [upd_ne n2, upd_ne n1]
    exact hb
  refine ⟨⟨dx, st, by rw [upd_ne ndf]; exact hd, ⟨f, fa, ⟨keep hfr.a hc.ins, keep hfr.wa hc.wl, keep hfr.va hc.vl, keep hfr.ka hc.kl, hc.rw.upd_off fun r hr => (nb (hfr.rows r hr)).1⟩, hap, ⟨off hfr.a, off hfr.wa, off hfr.va, off hfr.ka, fun r hr => off (hfr.rows r hr)⟩⟩, fun b u hb => ?_, hS.wf⟩, ?_⟩
  · by_cases b1 : b = d
    · rw [b1] at hb ⊢
      rw [upd_same] at hb
      rw [upd_ne ndf, hd, ← hb]
    · rw [upd_ne b1] at hb
      by_cases b2 : b = fl
      · rw [b2] at hb ⊢
        rw [upd_same] at hb ⊢
        exact hb
      · rw [upd_ne b2] at hb ⊢
        refine hS.sm b u ?_
        rw [upd_ne b1, upd_ne b2]
        exact hb
  · have := h.fr
    rw [upd_ne ndf] at this ⊢
    exact this
/-- a list's place laid beside a desk -/
theorem DeskAt.beside {A : Ad} {H0 H : Hp} {d fl : Addr} {c : Nat} {s : Sd62.St} {o : HO} (h : DeskAt A H0 H d c s) (hf : H fl = none) : DeskAt A (upd H0 fl o) (upd H fl o) d c s := by
  obtain ⟨dx, st, hd, hS⟩ := h.ex
  have ndf : d ≠ fl := fun z => by rw [z, hf] at hd; cases hd
  obtain ⟨f, fa, hc, hap, hfr⟩ := hS.ex
  have nn := hc.new_ne hf
  have rne : ∀ r ∈ f.rows, r ≠ fl := nn.2.2.2.2
  have keep : ∀ {b : Addr} {u : HO}, b ≠ fl → H b = some u → upd H fl o b = some u := fun {b u} hb h => by rw [upd_ne hb]; exact h
  have off : ∀ {b : Addr}, b ≠ fl → upd H0 d (.ins A.cDesk dx (dF c st)) b = none → upd (upd H0 fl o) d (.ins A.cDesk dx (dF c st)) b = none := fun {b} n1 hb => by
    by_cases n2 : b = d
    · rw [n2, upd_same] at hb; cases hb
    · rw [upd_ne n2] at hb ⊢
      rw [upd_ne n1]
      exact hb
  refine ⟨⟨dx, st, keep ndf hd, ⟨f, fa, ⟨keep nn.1.symm hc.ins, keep nn.2.1.symm hc.wl, keep nn.2.2.1.symm hc.vl, keep nn.2.2.2.1.symm hc.kl, hc.rw.upd_off rne⟩, hap, ⟨off nn.1.symm hfr.a, off nn.2.1.symm hfr.wa, off nn.2.2.1.symm hfr.va, off nn.2.2.2.1.symm hfr.ka, fun r hr => off (rne r hr) (hfr.rows r hr)⟩⟩, fun b u hb => ?_, hS.wf⟩, by rw [upd_ne ndf]; exact h.fr⟩
  by_cases b1 : b = d
  · rw [b1] at hb ⊢
    rw [upd_same] at hb
    rw [upd_ne ndf, hd, ← hb]
  · rw [upd_ne b1] at hb
    by_cases b2 : b = fl
    · rw [b2] at hb ⊢
      rw [upd_same] at hb ⊢
      exact hb
    · rw [upd_ne b2] at hb ⊢
      refine hS.sm b u ?_
      rw [upd_ne b1]
      exact hb
def toldFrom (o : Option Sd62.Obj) (cs : List (List (List Int))) : List Int := PyFlat.told (PyFlat.played Sd62Neutral.step o cs)
theorem told_cons (o : Option Sd62.Obj) (c1 : List (List Int)) (cs : List (List (List Int))) : toldFrom o (c1 :: cs) = ((((Sd62Neutral.step o c1).2.length : Nat) : Int) :: (Sd62Neutral.step o c1).2) ++ toldFrom (Sd62Neutral.step o c1).1 cs := by
  unfold toldFrom PyFlat.told
  rfl
theorem ready_cons {o : Option Sd62.Obj} {L : List Int} {cs : List (List (List Int))} (h : Sd62Neutral.ready o ([L] :: cs) = true) : (∀ q, Sd62Neutral.callOf (Sd62Neutral.natsOf L) = some q → Sd62Neutral.needsMachine q = true → o.isSome = true) ∧ Sd62Neutral.ready (Sd62Neutral.step o [L]).1 cs = true := by
  have h2 : (match Sd62Neutral.callOf (Sd62Neutral.natsOf L) with
    | none => false
    | some q => (!Sd62Neutral.needsMachine q || o.isSome) && Sd62Neutral.ready (Sd62.spec o q).1 cs) = true := h
  cases hq : Sd62Neutral.callOf (Sd62Neutral.natsOf L) with
  | none => rw [hq] at h2; cases h2
  | some q =>
    rw [hq] at h2
    have h3 := Bool.and_eq_true_iff.mp h2
    refine ⟨fun q' e hn => ?_, ?_⟩
    · obtain rfl := Option.some.inj e
      have := h3.1
      rw [hn] at this
      exact this
    · have hst : Sd62Neutral.step o [L] = ((Sd62.spec o q).1, ansI (Sd62.spec o q).2) := by
        unfold Sd62Neutral.step
        show (match Sd62Neutral.callOf (Sd62Neutral.natsOf L) with | none => _ | some q => _) = _
        rw [hq]
        rfl
      rw [hst]
      exact h3.2
def spAns (K : PySem.W.Frag) : Sp := spOf (fun (⟨a, _⟩ : Addr × List Int) => [.ref a]) fun ⟨a, zs⟩ H Q _ => SqL K H a (zs.map V.int) ∧ PySd62.answers_asked zs = true ∧ ∀ H' p, H' p = some (.lst ((PySd62.answers zs).map V.int)) → Q (.ref p) H'
theorem drop_at {zs : List Int} {at_ : Nat} {p : Int} {ns t : List Int} (h : zs.drop at_ = p :: ((ns.length : Nat) : Int) :: (ns ++ 0 :: t)) : zs[at_]? = some p ∧ zs[at_ + 1]? = some ((ns.length : Nat) : Int) ∧ (zs.drop (at_ + 2)).take ns.length = ns ∧ zs.drop (at_ + 2 + ns.length + 1) = t ∧ at_ + 2 + ns.length + 1 ≤ zs.length := by
  have g : ∀ i, zs[at_ + i]? = (p :: ((ns.length : Nat) : Int) :: (ns ++ 0 :: t))[i]? := fun i => by rw [← h, List.getElem?_drop]
  have d : ∀ i, zs.drop (at_ + i) = (p :: ((ns.length : Nat) : Int) :: (ns ++ 0 :: t)).drop i := fun i => by rw [← h, List.drop_drop]
  have hl := congrArg List.length h
  simp only [List.length_drop, List.length_cons, List.length_append] at hl
  refine ⟨g 0, g 1, ?_, ?_, by omega⟩
  · have := d 2
    rw [this]
    show (ns ++ 0 :: t).take ns.length = ns
    exact List.take_left' rfl
  · have := d (2 + ns.length + 1)
    rw [show at_ + 2 + ns.length + 1 = at_ + (2 + ns.length + 1) by omega, this, show 2 + ns.length + 1 = ns.length + 1 + 2 by omega]
    show (ns ++ 0 :: t).drop (ns.length + 1) = t
    rw [← List.drop_drop, List.drop_left' rfl]
    rfl
theorem cut_ints (zs : List Int) (a b : Nat) : cutV (zs.map V.int) (some (a : Int)) (some (b : Int)) = ((zs.drop a).take (b - a)).map V.int := by
  rw [cut_nn, List.map_take, List.map_drop]
section
variable {P : Program} {w : World} {K : PySem.W.Frag} {mg : Str → Option Value} {base : Heap} {A : Ad}
theorem fn_answers (T : Txt K mg A) {fa : Addr} {fd : FuncData} (F : Fun K "answers" "answers" s_answers fa fd) : FnOk P w K mg base CX0 11 fa fd ["calls"] (spAns K) := by
  have c_Desk := ok_Desk (P := P) (w := w) (base := base) T
  have c_answer := ok_answer (P := P) (w := w) (base := base) T
  refine F.ok sc_answers (spOf_len fun ⟨_, _⟩ => rfl) fun cdv A' outer s H vs Q E hr h => ?_
  have nd := sc_answers.nd
  obtain ⟨⟨a, zs⟩, hv, hL, hask, k⟩ := h
  obtain rfl : vs = [V.ref a] := hv
  refine ⟨_, (pss_cons (ps_set (i := 1) nd rfl (Or.inl rfl) (pe_k0 c_Desk hr (by decide) rfl))
 (pss_cons (ps_set (i := 2) nd rfl (Or.inl rfl) (pe_lst pa_nil))
 (pss_cons (ps_set (i := 3) nd rfl (Or.inl rfl) pe_int)
 (pss_cons (ps_while PassesOwn.never (pt_cmpR op_lt (pv 3) (pe_callB (call_lenK (K := K) rfl) (by rfl) T.b_len PySem.boot_len (pa_cons (pv 0) pa_nil)) (nomark _)) (pss_cons (ps_set (i := 4) nd rfl (Or.inl rfl) (pe_op op_add (pe_op op_add (pv 3) pe_int) (pe_ix (ix_listK (K := K) rfl) (pv 0) (pe_op op_add (pv 3) pe_int) (fun _ _ => rfl))))
 (pss_cons (ps_set (i := 5) nd rfl (Or.inl rfl) (pe_ix (ix_tupK (K := K) rfl) (pe_gv rfl T.g_CALLS) (pe_ix (ix_listK (K := K) rfl) (pv 0) (pv 3) (fun _ _ => rfl)) (fun _ _ => rfl)))
 (pss_cons (ps_set (i := 6) nd rfl (Or.inl rfl) (pe_c c_answer hr (by decide) rfl (pa_cons (pv 1) (pa_cons (pv 5) (pa_cons (pe_slice (sl_listK (K := K) rfl) (pv 0) (po_some (pe_op op_add (pv 3) pe_int)) (po_some (pv 4))) pa_nil)))))
 (pss_cons (ps_expr (pe_bm PySem.F.plainAttrs_list PySem.F.slot_list_append PySem.F.type_list_append mt_append (pv 2) (pa_cons (pe_callB (call_lenK (K := K) rfl) (by rfl) T.b_len PySem.boot_len (pa_cons (pv 6) pa_nil)) pa_nil)))
 (pss_cons (ps_expr (pe_bm PySem.F.plainAttrs_list PySem.F.slot_list_extend PySem.F.type_list_extend mt_extend (pv 2) (pa_cons (pv 6) pa_nil)))
 (pss_one (ps_set (i := 3) nd rfl (Or.inl rfl) (pe_op op_add (pv 4) pe_int)))))))))
 (pss_one (ps_ret (pv 2))))))), ?_⟩
  -- what is asked
  obtain ⟨cs0, hcs, h1⟩ : ∃ cs, PyWide.calls zs.length zs = some cs ∧ (PyFlat.atMost 60 cs && Sd62Neutral.asked cs && PyFlat.short 10000000 (PySd62.answers zs)) = true := by
    have h2 : (match PySd62.calls zs with
      | none => false
      | some cs => PyFlat.atMost 60 cs && Sd62Neutral.asked cs && PyFlat.short 10000000 (PySd62.answers zs)) = true := hask
    cases hc : PySd62.calls zs with
    | none => rw [hc] at h2; cases h2
    | some cs => rw [hc] at h2; exact ⟨cs, hc, h2⟩
  have h2 := Bool.and_eq_true_iff.mp h1
  have h3 := Bool.and_eq_true_iff.mp h2.1
  have hshort : (PySd62.answers zs).length ≤ 10000000 := of_decide_eq_true h2.2
  have h4 := Bool.and_eq_true_iff.mp (show (cs0.all Sd62Neutral.asked1 && (!cs0.isEmpty && (decide (cs0.length ≤ 60) && (decide ((cs0.map Sd62Neutral.most).sum ≤ 200000) && Sd62Neutral.ready Sd62Neutral.start cs0)))) = true from h3.2)
  have hready : Sd62Neutral.ready none cs0 = true := (Bool.and_eq_true_iff.mp (Bool.and_eq_true_iff.mp (Bool.and_eq_true_iff.mp h4.2).2).2).2
  have hans : PySd62.answers zs = toldFrom none cs0 := by
    show (match PySd62.calls zs with | none => [] | some cs => PyFlat.told (PyFlat.played Sd62Neutral.step Sd62Neutral.start cs)) = _
    rw [show PySd62.calls zs = some cs0 from hcs]
    rfl
  -- the desk, the list
  refine fun d dx hd hdx ne => ⟨⟨H, d, dx⟩, rfl, (Ex.new hdx).trans (Ex.new (by rw [upd_ne (Ne.symm ne)]; exact hd)), hd, upd_same, fun H1 hD1 => ⟨rfl, ?_⟩⟩
  refine ⟨Nat.zero_le _, fun fl hfl => ?_⟩
  have h0f : H fl = none := Evl.fresh_back hD1.sm hfl
  have hD2 : DeskAt A (upd H fl (.lst (([] : List Int).map V.int))) (upd H1 fl (.lst (([] : List Int).map V.int))) d 0 Sd62.fresh := hD1.beside hfl
  refine Evl.q_while (fun m σ H' => ∃ (at_ : Nat) (f : Nat) (cs : List (List (List Int))) (o : Option Sd62.Obj) (c : Nat) (s : Sd62.St) (acc : List Int) (v4 v5 v6 : Option V), σ = [some (.ref a), some (.ref d), some (.ref fl), some (.int (at_ : Int)), v4, v5, v6] ∧ m = zs.length - at_ ∧ at_ ≤ zs.length ∧
      PyWide.calls f (zs.drop at_) = some cs ∧ cs.all Sd62Neutral.asked1 = true ∧ Sd62Neutral.ready o cs = true ∧ Rel o c s ∧ PySd62.answers zs = acc ++ toldFrom o cs ∧ DeskAt A (upd H fl (.lst (acc.map V.int))) H' d c s) zs.length
    ⟨0, zs.length, cs0, none, 0, Sd62.fresh, [], none, none, none, rfl, rfl, Nat.zero_le _, hcs, h4.1, hready, trivial, hans, hD2⟩ ?_
  rintro m σ H2 ⟨at_, f, cs, o, c, st, acc, v4, v5, v6, rfl, rfl, hat, hpar, hall, hrdy, hrel, hacc, hD⟩
  have eH : Ex H H2 := (Ex.new h0f).trans hD.sm
  have hL2 := Evl.ex_l eH hL
  refine ⟨decide (at_ < zs.length), Evl.et_is (et_I0 (Evl.ev_var rfl) (ev_len (K := K) (eq_var rfl hL2))) (by rw [List.length_map]; exact decide_eq_decide.mpr (by omega)), fun hb H3 e3 => ?_, fun hb H3 e3 => ?_⟩
  · have hlt := of_decide_eq_true hb
    obtain ⟨p, r, hpr⟩ : ∃ p r, zs.drop at_ = p :: r := ⟨_, _, List.drop_eq_getElem_cons hlt⟩
    rw [hpr] at hpar
    obtain ⟨f', c1, t, cs', hcall, hrest, rfl⟩ := calls_step hpar
    have hall' := Bool.and_eq_true_iff.mp (show (Sd62Neutral.asked1 c1 && cs'.all Sd62Neutral.asked1) = true from hall)
    obtain ⟨ns, rfl, rfl⟩ := call_form hcall hall'.1
    obtain ⟨hneed, hrdy'⟩ := ready_cons hrdy
    obtain ⟨j, nsN, hjn, hj8, hpre, hval, hrel'⟩ := asked_law (c := c) (s := st) hall'.1 hrel hneed
    obtain ⟨rfl, rfl⟩ : p = ((j : Nat) : Int) ∧ ns = nsN.map fun n => ((n : Nat) : Int) := ⟨(List.cons.inj hjn).1, (List.cons.inj hjn).2⟩
    obtain ⟨g0, g1, g2, g3, g4⟩ := drop_at hpr
    rw [List.length_map] at g1 g2 g3 g4
    rw [told_cons, ← hval] at hacc
    have hD3 := hD.mono e3
    have e03 := eH.trans e3
    have hL3 := Evl.ex_l e03 hL
    refine ⟨_, fun σ2 H4 hN => hN, ?_⟩
    -- end
    refine Evl.q_asg (v := .int ((at_ + 2 + nsN.length : Nat) : Int)) (Evl.ev_is (ev_add (ev_add (Evl.ev_var rfl) Evl.ev_c) (Evl.ev_op (Evl.ev_var rfl) (ev_add (Evl.ev_var rfl) Evl.ev_c) (Evl.rv_ixL hL3 (v := .int ((nsN.length : Nat) : Int)) ?_))) ?_) fun H4 e4 => ?_
    · rw [show ((at_ : Nat) : Int) + 1 = ((at_ + 1 : Nat) : Int) by omega]
      exact atI_nat (by rw [List.getElem?_map, g1]; rfl)
    · exact congrArg V.int (by omega)
    -- deed
    obtain ⟨fj, hfj⟩ : ∃ fj, A.fs[j]? = some fj := by
      rcases (by omega : j = 0 ∨ j = 1 ∨ j = 2 ∨ j = 3 ∨ j = 4 ∨ j = 5 ∨ j = 6 ∨ j = 7) with rfl | rfl | rfl | rfl | rfl | rfl | rfl | rfl
      · exact let ⟨f, h, _⟩ := T.f_CALLS 0 "new" rfl; ⟨f, h⟩
      · exact let ⟨f, h, _⟩ := T.f_CALLS 1 "run" rfl; ⟨f, h⟩
      · exact let ⟨f, h, _⟩ := T.f_CALLS 2 "save" rfl; ⟨f, h⟩
      · exact let ⟨f, h, _⟩ := T.f_CALLS 3 "load" rfl; ⟨f, h⟩
      · exact let ⟨f, h, _⟩ := T.f_CALLS 4 "turn_form" rfl; ⟨f, h⟩
      · exact let ⟨f, h, _⟩ := T.f_CALLS 5 "peek" rfl; ⟨f, h⟩
      · exact let ⟨f, h, _⟩ := T.f_CALLS 6 "poke" rfl; ⟨f, h⟩
      · exact let ⟨f, h, _⟩ := T.f_CALLS 7 "differ" rfl; ⟨f, h⟩
    have e04 := e03.trans e4
    have hL4 := Evl.ex_l e04 hL
    refine Evl.q_asg (v := .ref fj) (Evl.ev_op (Evl.ev_c (v := .ref A.aCALLS)) (Evl.ev_op (Evl.ev_var rfl) (Evl.ev_var rfl) (Evl.rv_ixL hL4 (v := .int ((j : Nat) : Int)) (atI_nat (by rw [List.getElem?_map, g0]; rfl)))) (Evl.rv_ixT (T.t_CALLS _) (atI_nat (by rw [List.getElem?_map, hfj]; rfl)))) fun H5 e5 => ?_
    have e05 := e04.trans e5
    have hL5 := Evl.ex_l e05 hL
    have hD5 := (hD3.mono e4).mono e5
    -- told
    refine ⟨_, rfl, _, rfl, ?_⟩
    refine el_slice (K := K) (lo := some ((at_ + 2 : Nat) : Int)) (hi := some ((at_ + 2 + nsN.length : Nat) : Int)) (eq_var rfl hL5) (Evl.eo_some (Evl.ev_is (ev_add (Evl.ev_var rfl) Evl.ev_c) (congrArg V.int (by omega)))) (Evl.eo_some (Evl.ev_var rfl)) H5 (Ex.refl _) _ fun l6 H6 hl6 e6 h6 => ?_
    have h6' : H6 l6 = some (.lst (nv nsN)) := by
      rw [h6, cut_ints, Nat.add_sub_cancel_left, g2, nv_ints]
    refine ⟨⟨upd H fl (.lst (acc.map V.int)), d, fj, l6, nsN, c, st, j⟩, rfl, hD5.mono e6, SqL.of h6', hj8, hfj, hpre, fun q H7 hD7 hq0 hq7 => ?_⟩
    have hqf : q ≠ fl := fun z => by rw [z, upd_same] at hq0; cases hq0
    have hf7 : H7 fl = some (.lst (acc.map V.int)) := hD7.sm _ _ upd_same
    rw [valsO_I] at hq7
    generalize hvals : valsI (outOp j nsN c st) = vals at hq7 hacc
    have hsz : acc.length + (vals.length + 1) ≤ 10000000 := by
      have := congrArg List.length hacc
      rw [List.length_append, List.length_append, List.length_cons] at this
      omega
    -- found.append(len(told))
    refine ⟨_, rfl, Or.inl ⟨rfl, _, SqL.of hf7⟩, ?_⟩
    refine ev_len (K := K) (σ := [some (.ref a), some (.ref d), some (.ref fl), some (.int (at_ : Int)), some (.int ((at_ + 2 + nsN.length : Nat) : Int)), some (.ref fj), some (.ref q)]) (eq_var rfl (SqL.of hq7)) H7 (Ex.refl _) _ fun H8 e8 => ?_
    have hf8 := e8 _ _ hf7
    refine ⟨fl, _, _, rfl, rfl, hf8, szt (by rw [List.length_map]; omega), ?_⟩
    rw [List.length_map]
    have ea : acc.map V.int ++ [V.int ((vals.length : Nat) : Int)] = (acc ++ [((vals.length : Nat) : Int)]).map V.int := by rw [List.map_append]; rfl
    rw [ea]
    have hD9 := DeskAt.other (o' := .lst ((acc ++ [((vals.length : Nat) : Int)]).map V.int)) (hD7.mono e8) h0f
    have hf9 : upd H8 fl (.lst ((acc ++ [((vals.length : Nat) : Int)]).map V.int)) fl = some (.lst ((acc ++ [((vals.length : Nat) : Int)]).map V.int)) := upd_same
    have hq9 : upd H8 fl (.lst ((acc ++ [((vals.length : Nat) : Int)]).map V.int)) q = some (.lst (vals.map V.int)) := by rw [upd_ne hqf]; exact e8 _ _ hq7
    generalize upd H8 fl (.lst ((acc ++ [((vals.length : Nat) : Int)]).map V.int)) = H9 at hD9 hf9 hq9 ⊢
    -- found.extend(told)
    refine ⟨_, rfl, Or.inl ⟨rfl, _, SqL.of hf9⟩, _, rfl, fl, q, _, _, rfl, rfl, hf9, hq9, szl (by rw [List.length_map, List.length_map, List.length_append]; show acc.length + 1 + _ ≤ _; omega), ?_⟩
    have eb : (acc ++ [((vals.length : Nat) : Int)]).map V.int ++ vals.map V.int = (acc ++ (((vals.length : Nat) : Int) :: vals)).map V.int := by
      rw [← List.map_append, List.append_assoc]
      rfl
    rw [eb]
    have hD10 := DeskAt.other (o' := .lst ((acc ++ (((vals.length : Nat) : Int) :: vals)).map V.int)) hD9 h0f
    -- at = end + 1
    refine Evl.s_asg (v := .int ((at_ + 2 + nsN.length + 1 : Nat) : Int)) (Evl.ev_is (ev_add (Evl.ev_var rfl) Evl.ev_c) rfl) fun H11 e11 => ?_
    refine ⟨zs.length - (at_ + 2 + nsN.length + 1), by omega, at_ + 2 + nsN.length + 1, f', cs', _, _, _, acc ++ (((vals.length : Nat) : Int) :: vals), _, _, _, rfl, rfl, g4, ?_, hall'.2, hrdy', hrel', ?_, hD10.mono e11⟩
    · rw [g3]; exact hrest
    · rw [hacc, List.append_assoc]
  · have hge := of_decide_eq_false hb
    have hnil : zs.drop at_ = [] := List.drop_eq_nil_of_le (by omega)
    have hcs' : cs = [] := by
      rw [hnil] at hpar
      cases f with
      | zero => exact (Option.some.inj hpar).symm
      | succ f => exact (Option.some.inj hpar).symm
    rw [hcs'] at hacc
    have hfin : PySd62.answers zs = acc := by rw [hacc]; exact List.append_nil acc
    exact ⟨_, rfl, k H3 fl (by rw [hfin]; exact (hD.mono e3).sm _ _ upd_same)⟩
end
end VP

/-! ### what the top has written; the end -/
namespace VP
open PySem PySem.Spec PyProof.Rows L2
theorem exm_own {K : PySem.W.Frag} {S : Addr} (h1 : PySem.W.subIn K (.ref S) (.type "BaseException") = some true) (h2 : PySem.W.isClsIn K S = true) (h3 : PySem.W.typeIn K (.ref S) = some (.type "type")) (h4 : PySem.W.subIn K (.ref S) (.ref S) = some true) :
    PySem.W.exmOne K (.ref S) (.ref S) = some true := by
  have a1 : (PySem.W.subIn K (.ref S) (.type "BaseException") == some true) = true := by rw [h1] <;> rfl
  have a2 : (PySem.W.clsIn K S).isSome = true := h2
  have a3 : ((PySem.W.clsIn K S).isSome && PySem.W.typeIn K (.ref S) == some (.type "type")) = true := by rw [a2, h3] <;> rfl
  unfold PySem.W.exmOne
  first
    | (simp only [a1, a3, if_true]; exact h4)
    | (show (if (PySem.W.subIn K (.ref S) (.type "BaseException") == some true) = true then (if ((PySem.W.clsIn K S).isSome && PySem.W.typeIn K (.ref S) == some (.type "type")) = true then PySem.W.subIn K (.ref S) (.ref S) else none) else none) = some true; rw [if_pos a1, if_pos a3]; exact h4)
theorem end_of {P : Program} {w : World} {K : PySem.W.Frag} {mg : Str → Option Value} {A : Ad} (T : Txt K mg A) {fa : Addr} {kV dc pm cd ct : Value} {an : Option Addr} (F : Fun K "answers" "answers" s_answers fa (PySem.W.fnOf "answers" "answers" (defArgs s_answers) (defBody s_answers) (defScope s_answers) .none kV dc pm an cd ct)) :
    ∃ fd : FuncData, (∀ (s : Shared) (us : List Value), us.length = (["calls"] : List Str).length → BindsTo s fd ⟨us, []⟩ ((["calls"] : List Str).zip us)) ∧ ∀ base : Heap, K.In base → base.Ns mainGlobals mg → FnOk P w K mg base CX0 11 fa fd ["calls"] (spAns K) := by
  refine ⟨PySem.W.fnOf "answers" "answers" (defArgs s_answers) (defBody s_answers) (defScope s_answers) .none kV dc pm an cd ct, fun s us hu => ?_, fun base _ _ => ?_⟩
  · exact match us, hu with | [_], _ => .of_eq rfl
  · exact fn_answers T F
theorem all_mk {P : Program} {w : World} {K : PySem.W.Frag} {h : Heap} {mg : Str → Option Value} {fa : Addr} (X : K.In h) (G : h.Ns mainGlobals mg) (hfa : mg "answers" = some (.ref fa))
    {t_M_COUNT : Tok} {t_V_COUNT : Tok} {t_LOW_COUNT : Tok} {t_K_COUNT : Tok} {t_LANES : Tok} {t_WORD_SIZE : Tok} {t_BASE : Tok} {t_FULL : Tok} {t_BASIC : Tok} {t_LOW_LANES : Tok} {t_NEXT_LANES : Tok} {t_MASKS : Tok} {t_HIGH_LANES : Tok} {t_HIGH_VECTORS : Tok} {t_M_PLACE : Tok} {t_M_STEP : Tok} {t_LOW_PLACE : Tok} {t_USED_PLACE : Tok} {t_FORM_PLACE : Tok} {t_HEAD_SIZE : Tok} {t_GAP_SIZE : Tok} {t_SHORT_FORM : Tok} {t_MOST_BYTES : Tok} {t_SIZE : Tok} {t_MOST_WIDTH : Tok} {t_MOST_MASK : Tok} {t_ROTATE : Tok} {t_FILL : Tok} {t_RISE : Tok} {t_LANE_SUM : Tok} {t_M_SUM : Tok} {t_M_APART : Tok} {t_LESS : Tok} {t_K_BOTH : Tok} {t_K_APART : Tok} {t_K_NOT : Tok} {t_M_FROM_K : Tok} {t_K_FROM_M : Tok} {t_LOOP : Tok} {t_HALF : Tok} {t_OUT_OF_RANGE : Tok} {t_NONE_SUCH : Tok} {t_NO_COMPONENT : Tok} {t_NO_ROOM : Tok} {t_MOST_CODE : Tok} {t_MOST_STEPS : Tok} {t_FIRST_M : Tok} {t_FIRST_K : Tok} {t_ALL_PLACE : Tok} {t_CELL_SIZE : Tok} {aMACHINES : Addr} {aWEIGHTS : Addr} {aHEAD : Addr} {aMARKS : Addr} {aSIZES : Addr} {aMORE : Addr} {aBOUNDS : Addr} {aCALLS : Addr} {cState : Addr} {cInstruction : Addr} {cRunner : Addr} {cDesk : Addr} {od_State___init__ : Option Addr} {an_State___init__ : Option Addr} {sl_State___init__ : Array (Option Value)} {oc_State___init__ : Value} {kV_State___init__ : Value} {dc_State___init__ : Value} {pm_State___init__ : Value} {cd_State___init__ : Value} {ct_State___init__ : Value} {f_State___init__ : Addr} {od_State_part : Option Addr} {an_State_part : Option Addr} {sl_State_part : Array (Option Value)} {oc_State_part : Value} {kV_State_part : Value} {dc_State_part : Value} {pm_State_part : Value} {cd_State_part : Value} {ct_State_part : Value} {f_State_part : Addr} {od_State_set_part : Option Addr} {an_State_set_part : Option Addr} {sl_State_set_part : Array (Option Value)} {oc_State_set_part : Value} {kV_State_set_part : Value} {dc_State_set_part : Value} {pm_State_set_part : Value} {cd_State_set_part : Value} {ct_State_set_part : Value} {f_State_set_part : Addr} {od_State_used : Option Addr} {an_State_used : Option Addr} {sl_State_used : Array (Option Value)} {oc_State_used : Value} {kV_State_used : Value} {dc_State_used : Value} {pm_State_used : Value} {cd_State_used : Value} {ct_State_used : Value} {f_State_used : Addr} {od_joined : Option Addr} {an_joined : Option Addr} {sl_joined : Array (Option Value)} {oc_joined : Value} {kV_joined : Value} {dc_joined : Value} {pm_joined : Value} {cd_joined : Value} {ct_joined : Value} {f_joined : Addr} {od_lanes_of : Option Addr} {an_lanes_of : Option Addr} {sl_lanes_of : Array (Option Value)} {oc_lanes_of : Value} {kV_lanes_of : Value} {dc_lanes_of : Value} {pm_lanes_of : Value} {cd_lanes_of : Value} {ct_lanes_of : Value} {f_lanes_of : Addr} {od_number_count : Option Addr} {an_number_count : Option Addr} {sl_number_count : Array (Option Value)} {oc_number_count : Value} {kV_number_count : Value} {dc_number_count : Value} {pm_number_count : Value} {cd_number_count : Value} {ct_number_count : Value} {f_number_count : Addr} {od_has_all : Option Addr} {an_has_all : Option Addr} {sl_has_all : Array (Option Value)} {oc_has_all : Value} {kV_has_all : Value} {dc_has_all : Value} {pm_has_all : Value} {cd_has_all : Value} {ct_has_all : Value} {f_has_all : Addr} {od_number_row : Option Addr} {an_number_row : Option Addr} {sl_number_row : Array (Option Value)} {oc_number_row : Value} {kV_number_row : Value} {dc_number_row : Value} {pm_number_row : Value} {cd_number_row : Value} {ct_number_row : Value} {f_number_row : Addr} {od_rows_of : Option Addr} {an_rows_of : Option Addr} {sl_rows_of : Array (Option Value)} {oc_rows_of : Value} {kV_rows_of : Value} {dc_rows_of : Value} {pm_rows_of : Value} {cd_rows_of : Value} {ct_rows_of : Value} {f_rows_of : Addr} {od_number_in : Option Addr} {an_number_in : Option Addr} {sl_number_in : Array (Option Value)} {oc_number_in : Value} {kV_number_in : Value} {dc_number_in : Value} {pm_number_in : Value} {cd_number_in : Value} {ct_number_in : Value} {f_number_in : Addr} {od_numbers_in : Option Addr} {an_numbers_in : Option Addr} {sl_numbers_in : Array (Option Value)} {oc_numbers_in : Value} {kV_numbers_in : Value} {dc_numbers_in : Value} {pm_numbers_in : Value} {cd_numbers_in : Value} {ct_numbers_in : Value} {f_numbers_in : Addr} {od_head_of : Option Addr} {an_head_of : Option Addr} {sl_head_of : Array (Option Value)} {oc_head_of : Value} {kV_head_of : Value} {dc_head_of : Value} {pm_head_of : Value} {cd_head_of : Value} {ct_head_of : Value} {f_head_of : Addr} {od_long_form : Option Addr} {an_long_form : Option Addr} {sl_long_form : Array (Option Value)} {oc_long_form : Value} {kV_long_form : Value} {dc_long_form : Value} {pm_long_form : Value} {cd_long_form : Value} {ct_long_form : Value} {f_long_form : Addr} {od_short_form : Option Addr} {an_short_form : Option Addr} {sl_short_form : Array (Option Value)} {oc_short_form : Value} {kV_short_form : Value} {dc_short_form : Value} {pm_short_form : Value} {cd_short_form : Value} {ct_short_form : Value} {f_short_form : Addr} {od_form_of : Option Addr} {an_form_of : Option Addr} {sl_form_of : Array (Option Value)} {oc_form_of : Value} {kV_form_of : Value} {dc_form_of : Value} {pm_form_of : Value} {cd_form_of : Value} {ct_form_of : Value} {f_form_of : Addr} {od_read_part : Option Addr} {an_read_part : Option Addr} {sl_read_part : Array (Option Value)} {oc_read_part : Value} {kV_read_part : Value} {dc_read_part : Value} {pm_read_part : Value} {cd_read_part : Value} {ct_read_part : Value} {f_read_part : Addr} {od_read_head : Option Addr} {an_read_head : Option Addr} {sl_read_head : Array (Option Value)} {oc_read_head : Value} {kV_read_head : Value} {dc_read_head : Value} {pm_read_head : Value} {cd_read_head : Value} {ct_read_head : Value} {f_read_head : Addr} {od_read_long : Option Addr} {an_read_long : Option Addr} {sl_read_long : Array (Option Value)} {oc_read_long : Value} {kV_read_long : Value} {dc_read_long : Value} {pm_read_long : Value} {cd_read_long : Value} {ct_read_long : Value} {f_read_long : Addr} {od_read_short : Option Addr} {an_read_short : Option Addr} {sl_read_short : Array (Option Value)} {oc_read_short : Value} {kV_read_short : Value} {dc_read_short : Value} {pm_read_short : Value} {cd_read_short : Value} {ct_read_short : Value} {f_read_short : Addr} {od_state_of : Option Addr} {an_state_of : Option Addr} {sl_state_of : Array (Option Value)} {oc_state_of : Value} {kV_state_of : Value} {dc_state_of : Value} {pm_state_of : Value} {cd_state_of : Value} {ct_state_of : Value} {f_state_of : Addr} {od_Instruction___init__ : Option Addr} {an_Instruction___init__ : Option Addr} {sl_Instruction___init__ : Array (Option Value)} {oc_Instruction___init__ : Value} {kV_Instruction___init__ : Value} {dc_Instruction___init__ : Value} {pm_Instruction___init__ : Value} {cd_Instruction___init__ : Value} {ct_Instruction___init__ : Value} {f_Instruction___init__ : Addr} {od_Instruction_vectors_met : Option Addr} {an_Instruction_vectors_met : Option Addr} {sl_Instruction_vectors_met : Array (Option Value)} {oc_Instruction_vectors_met : Value} {kV_Instruction_vectors_met : Value} {dc_Instruction_vectors_met : Value} {pm_Instruction_vectors_met : Value} {cd_Instruction_vectors_met : Value} {ct_Instruction_vectors_met : Value} {f_Instruction_vectors_met : Addr} {od_Instruction_least_machine : Option Addr} {an_Instruction_least_machine : Option Addr} {sl_Instruction_least_machine : Array (Option Value)} {oc_Instruction_least_machine : Value} {kV_Instruction_least_machine : Value} {dc_Instruction_least_machine : Value} {pm_Instruction_least_machine : Value} {cd_Instruction_least_machine : Value} {ct_Instruction_least_machine : Value} {f_Instruction_least_machine : Addr} {od_lane_count : Option Addr} {an_lane_count : Option Addr} {sl_lane_count : Array (Option Value)} {oc_lane_count : Value} {kV_lane_count : Value} {dc_lane_count : Value} {pm_lane_count : Value} {cd_lane_count : Value} {ct_lane_count : Value} {f_lane_count : Addr} {od_is_instruction : Option Addr} {an_is_instruction : Option Addr} {sl_is_instruction : Array (Option Value)} {oc_is_instruction : Value} {kV_is_instruction : Value} {dc_is_instruction : Value} {pm_is_instruction : Value} {cd_is_instruction : Value} {ct_is_instruction : Value} {f_is_instruction : Addr} {od_instruction_rows : Option Addr} {an_instruction_rows : Option Addr} {sl_instruction_rows : Array (Option Value)} {oc_instruction_rows : Value} {kV_instruction_rows : Value} {dc_instruction_rows : Value} {pm_instruction_rows : Value} {cd_instruction_rows : Value} {ct_instruction_rows : Value} {f_instruction_rows : Addr} {od_powers : Option Addr} {an_powers : Option Addr} {sl_powers : Array (Option Value)} {oc_powers : Value} {kV_powers : Value} {dc_powers : Value} {pm_powers : Value} {cd_powers : Value} {ct_powers : Value} {f_powers : Addr} {od_paired : Option Addr} {an_paired : Option Addr} {sl_paired : Array (Option Value)} {oc_paired : Value} {kV_paired : Value} {dc_paired : Value} {pm_paired : Value} {cd_paired : Value} {ct_paired : Value} {f_paired : Addr} {od_Runner___init__ : Option Addr} {an_Runner___init__ : Option Addr} {sl_Runner___init__ : Array (Option Value)} {oc_Runner___init__ : Value} {kV_Runner___init__ : Value} {dc_Runner___init__ : Value} {pm_Runner___init__ : Value} {cd_Runner___init__ : Value} {ct_Runner___init__ : Value} {f_Runner___init__ : Addr} {od_Runner_shifted : Option Addr} {an_Runner_shifted : Option Addr} {sl_Runner_shifted : Array (Option Value)} {oc_Runner_shifted : Value} {kV_Runner_shifted : Value} {dc_Runner_shifted : Value} {pm_Runner_shifted : Value} {cd_Runner_shifted : Value} {ct_Runner_shifted : Value} {f_Runner_shifted : Addr} {od_Runner_lanes_made : Option Addr} {an_Runner_lanes_made : Option Addr} {sl_Runner_lanes_made : Array (Option Value)} {oc_Runner_lanes_made : Value} {kV_Runner_lanes_made : Value} {dc_Runner_lanes_made : Value} {pm_Runner_lanes_made : Value} {cd_Runner_lanes_made : Value} {ct_Runner_lanes_made : Value} {f_Runner_lanes_made : Addr} {od_Runner_write : Option Addr} {an_Runner_write : Option Addr} {sl_Runner_write : Array (Option Value)} {oc_Runner_write : Value} {kV_Runner_write : Value} {dc_Runner_write : Value} {pm_Runner_write : Value} {cd_Runner_write : Value} {ct_Runner_write : Value} {f_Runner_write : Addr} {od_Runner_bits_less : Option Addr} {an_Runner_bits_less : Option Addr} {sl_Runner_bits_less : Array (Option Value)} {oc_Runner_bits_less : Value} {kV_Runner_bits_less : Value} {dc_Runner_bits_less : Value} {pm_Runner_bits_less : Value} {cd_Runner_bits_less : Value} {ct_Runner_bits_less : Value} {f_Runner_bits_less : Addr} {od_Runner_change : Option Addr} {an_Runner_change : Option Addr} {sl_Runner_change : Array (Option Value)} {oc_Runner_change : Value} {kV_Runner_change : Value} {dc_Runner_change : Value} {pm_Runner_change : Value} {cd_Runner_change : Value} {ct_Runner_change : Value} {f_Runner_change : Addr} {od_Runner_next_place : Option Addr} {an_Runner_next_place : Option Addr} {sl_Runner_next_place : Array (Option Value)} {oc_Runner_next_place : Value} {kV_Runner_next_place : Value} {dc_Runner_next_place : Value} {pm_Runner_next_place : Value} {cd_Runner_next_place : Value} {ct_Runner_next_place : Value} {f_Runner_next_place : Addr} {od_Runner_step : Option Addr} {an_Runner_step : Option Addr} {sl_Runner_step : Array (Option Value)} {oc_Runner_step : Value} {kV_Runner_step : Value} {dc_Runner_step : Value} {pm_Runner_step : Value} {cd_Runner_step : Value} {ct_Runner_step : Value} {f_Runner_step : Addr} {od_Runner_run : Option Addr} {an_Runner_run : Option Addr} {sl_Runner_run : Array (Option Value)} {oc_Runner_run : Value} {kV_Runner_run : Value} {dc_Runner_run : Value} {pm_Runner_run : Value} {cd_Runner_run : Value} {ct_Runner_run : Value} {f_Runner_run : Addr} {od_need : Option Addr} {an_need : Option Addr} {sl_need : Array (Option Value)} {oc_need : Value} {kV_need : Value} {dc_need : Value} {pm_need : Value} {cd_need : Value} {ct_need : Value} {f_need : Addr} {od_Desk___init__ : Option Addr} {an_Desk___init__ : Option Addr} {sl_Desk___init__ : Array (Option Value)} {oc_Desk___init__ : Value} {kV_Desk___init__ : Value} {dc_Desk___init__ : Value} {pm_Desk___init__ : Value} {cd_Desk___init__ : Value} {ct_Desk___init__ : Value} {f_Desk___init__ : Addr} {od_Desk_replace : Option Addr} {an_Desk_replace : Option Addr} {sl_Desk_replace : Array (Option Value)} {oc_Desk_replace : Value} {kV_Desk_replace : Value} {dc_Desk_replace : Value} {pm_Desk_replace : Value} {cd_Desk_replace : Value} {ct_Desk_replace : Value} {f_Desk_replace : Addr} {od_state_in : Option Addr} {an_state_in : Option Addr} {sl_state_in : Array (Option Value)} {oc_state_in : Value} {kV_state_in : Value} {dc_state_in : Value} {pm_state_in : Value} {cd_state_in : Value} {ct_state_in : Value} {f_state_in : Addr} {od_with_length : Option Addr} {an_with_length : Option Addr} {sl_with_length : Array (Option Value)} {oc_with_length : Value} {kV_with_length : Value} {dc_with_length : Value} {pm_with_length : Value} {cd_with_length : Value} {ct_with_length : Value} {f_with_length : Addr} {od_new : Option Addr} {an_new : Option Addr} {sl_new : Array (Option Value)} {oc_new : Value} {kV_new : Value} {dc_new : Value} {pm_new : Value} {cd_new : Value} {ct_new : Value} {f_new : Addr} {od_run : Option Addr} {an_run : Option Addr} {sl_run : Array (Option Value)} {oc_run : Value} {kV_run : Value} {dc_run : Value} {pm_run : Value} {cd_run : Value} {ct_run : Value} {f_run : Addr} {od_save : Option Addr} {an_save : Option Addr} {sl_save : Array (Option Value)} {oc_save : Value} {kV_save : Value} {dc_save : Value} {pm_save : Value} {cd_save : Value} {ct_save : Value} {f_save : Addr} {od_load : Option Addr} {an_load : Option Addr} {sl_load : Array (Option Value)} {oc_load : Value} {kV_load : Value} {dc_load : Value} {pm_load : Value} {cd_load : Value} {ct_load : Value} {f_load : Addr} {od_turn_form : Option Addr} {an_turn_form : Option Addr} {sl_turn_form : Array (Option Value)} {oc_turn_form : Value} {kV_turn_form : Value} {dc_turn_form : Value} {pm_turn_form : Value} {cd_turn_form : Value} {ct_turn_form : Value} {f_turn_form : Addr} {od_peek : Option Addr} {an_peek : Option Addr} {sl_peek : Array (Option Value)} {oc_peek : Value} {kV_peek : Value} {dc_peek : Value} {pm_peek : Value} {cd_peek : Value} {ct_peek : Value} {f_peek : Addr} {od_copied : Option Addr} {an_copied : Option Addr} {sl_copied : Array (Option Value)} {oc_copied : Value} {kV_copied : Value} {dc_copied : Value} {pm_copied : Value} {cd_copied : Value} {ct_copied : Value} {f_copied : Addr} {od_poke : Option Addr} {an_poke : Option Addr} {sl_poke : Array (Option Value)} {oc_poke : Value} {kV_poke : Value} {dc_poke : Value} {pm_poke : Value} {cd_poke : Value} {ct_poke : Value} {f_poke : Addr} {od_differ : Option Addr} {an_differ : Option Addr} {sl_differ : Array (Option Value)} {oc_differ : Value} {kV_differ : Value} {dc_differ : Value} {pm_differ : Value} {cd_differ : Value} {ct_differ : Value} {f_differ : Addr} {od_answer : Option Addr} {an_answer : Option Addr} {sl_answer : Array (Option Value)} {oc_answer : Value} {kV_answer : Value} {dc_answer : Value} {pm_answer : Value} {cd_answer : Value} {ct_answer : Value} {f_answer : Addr} {od_answers : Option Addr} {an_answers : Option Addr} {sl_answers : Array (Option Value)} {oc_answers : Value} {kV_answers : Value} {dc_answers : Value} {pm_answers : Value} {cd_answers : Value} {ct_answers : Value} {f_answers : Addr} {q_MACHINES_0 : Tok} {q_MACHINES_1 : Tok} {q_MACHINES_2 : Tok} {q_WEIGHTS_0 : Tok} {q_WEIGHTS_1 : Tok} {q_WEIGHTS_2 : Tok} {q_WEIGHTS_3 : Tok} {q_WEIGHTS_4 : Tok} {q_WEIGHTS_5 : Tok} {q_MORE_0 : Tok} {q_MORE_1 : Tok} {q_MORE_2 : Tok} {q_MORE_3 : Tok} {q_HEAD_0 : Tok} {q_HEAD_1 : Tok} {q_HEAD_2 : Tok} {q_HEAD_3 : Tok} {q_MARKS_0 : Tok} {q_MARKS_1 : Tok} {q_MARKS_2 : Tok} {q_MARKS_3 : Tok} {q_MARKS_4 : Tok} {q_MARKS_5 : Tok} {q_MARKS_6 : Tok} {q_MARKS_7 : Tok} {b_0 : Addr} {b_1 : Addr} {b_2 : Addr} {b_3 : Addr} {b_4 : Addr} {b_5 : Addr} {b_6 : Addr} {b_7 : Addr} {b_8 : Addr} {b_9 : Addr} {b_10 : Addr} {b_11 : Addr} {b_12 : Addr} {b_13 : Addr} {b_14 : Addr} {b_15 : Addr} {b_16 : Addr} {b_17 : Addr} {b_18 : Addr} {b_19 : Addr} {b_20 : Addr} {b_21 : Addr} {b_22 : Addr} {b_23 : Addr} {y_0_0 : Tok} {y_0_1 : Tok} {y_0_2 : Tok} {y_1_0 : Tok} {y_1_1 : Tok} {y_1_2 : Tok} {y_2_0 : Tok} {y_2_1 : Tok} {y_2_2 : Tok} {y_3_0 : Tok} {y_3_1 : Tok} {y_3_2 : Tok} {y_4_0 : Tok} {y_4_1 : Tok} {y_4_2 : Tok} {y_5_0 : Tok} {y_5_1 : Tok} {y_5_2 : Tok} {y_6_0 : Tok} {y_6_1 : Tok} {y_6_2 : Tok} {y_7_0 : Tok} {y_7_1 : Tok} {y_7_2 : Tok} {y_8_0 : Tok} {y_8_1 : Tok} {y_8_2 : Tok} {y_9_0 : Tok} {y_9_1 : Tok} {y_9_2 : Tok} {y_10_0 : Tok} {y_10_1 : Tok} {y_10_2 : Tok} {y_11_0 : Tok} {y_11_1 : Tok} {y_11_2 : Tok} {y_12_0 : Tok} {y_12_1 : Tok} {y_12_2 : Tok} {y_13_0 : Tok} {y_13_1 : Tok} {y_13_2 : Tok} {y_14_0 : Tok} {y_14_1 : Tok} {y_14_2 : Tok} {y_15_0 : Tok} {y_15_1 : Tok} {y_15_2 : Tok} {y_16_0 : Tok} {y_16_1 : Tok} {y_16_2 : Tok} {y_17_0 : Tok} {y_17_1 : Tok} {y_17_2 : Tok} {y_18_0 : Tok} {y_18_1 : Tok} {y_18_2 : Tok} {y_19_0 : Tok} {y_19_1 : Tok} {y_19_2 : Tok} {y_20_0 : Tok} {y_20_1 : Tok} {y_20_2 : Tok} {y_21_0 : Tok} {y_21_1 : Tok} {y_21_2 : Tok} {y_22_0 : Tok} {y_22_1 : Tok} {y_22_2 : Tok} {y_23_0 : Tok} {y_23_1 : Tok} {y_23_2 : Tok} {zt1 : Tok} {zu1 : Tok} {zt2 : Tok} {zu2 : Tok} {zt3 : Tok} {zu3 : Tok} {zn : Nat} {cRef : Addr} {fRef : Addr} {nmR : Str} {qR : Str} {NR : Addr} {bsR : List Value} {snR : List Str} {subR : List Value} {abR : Bool} {colR : Option Bool} {ddR : Option Addr} {m0R : Option Value} {m1R : Option Value} {m2R : Option Value} {m3R : Option Value} {m5R : Option Value} {odR : Option Addr} {anR : Option Addr} {slR : Array (Option Value)} {ocR : Value} {dcR : Value} {pmR : Value} {cdR : Value} {ctR : Value}
    (v_M_COUNT : PySem.W.nsIn K mainGlobals "M_COUNT" = some (some (.int 8 t_M_COUNT)))
    (v_V_COUNT : PySem.W.nsIn K mainGlobals "V_COUNT" = some (some (.int 32 t_V_COUNT)))
    (v_LOW_COUNT : PySem.W.nsIn K mainGlobals "LOW_COUNT" = some (some (.int 16 t_LOW_COUNT)))
    (v_K_COUNT : PySem.W.nsIn K mainGlobals "K_COUNT" = some (some (.int 8 t_K_COUNT)))
    (v_LANES : PySem.W.nsIn K mainGlobals "LANES" = some (some (.int 8 t_LANES)))
    (v_WORD_SIZE : PySem.W.nsIn K mainGlobals "WORD_SIZE" = some (some (.int 8 t_WORD_SIZE)))
    (v_BASE : PySem.W.nsIn K mainGlobals "BASE" = some (some (.int 256 t_BASE)))
    (v_FULL : PySem.W.nsIn K mainGlobals "FULL" = some (some (.int 18446744073709551616 t_FULL)))
    (v_BASIC : PySem.W.nsIn K mainGlobals "BASIC" = some (some (.int 1 t_BASIC)))
    (v_LOW_LANES : PySem.W.nsIn K mainGlobals "LOW_LANES" = some (some (.int 2 t_LOW_LANES)))
    (v_NEXT_LANES : PySem.W.nsIn K mainGlobals "NEXT_LANES" = some (some (.int 4 t_NEXT_LANES)))
    (v_MASKS : PySem.W.nsIn K mainGlobals "MASKS" = some (some (.int 32 t_MASKS)))
    (v_HIGH_LANES : PySem.W.nsIn K mainGlobals "HIGH_LANES" = some (some (.int 64 t_HIGH_LANES)))
    (v_HIGH_VECTORS : PySem.W.nsIn K mainGlobals "HIGH_VECTORS" = some (some (.int 128 t_HIGH_VECTORS)))
    (v_M_PLACE : PySem.W.nsIn K mainGlobals "M_PLACE" = some (some (.int 32 t_M_PLACE)))
    (v_M_STEP : PySem.W.nsIn K mainGlobals "M_STEP" = some (some (.int 16 t_M_STEP)))
    (v_LOW_PLACE : PySem.W.nsIn K mainGlobals "LOW_PLACE" = some (some (.int 160 t_LOW_PLACE)))
    (v_USED_PLACE : PySem.W.nsIn K mainGlobals "USED_PLACE" = some (some (.int 512 t_USED_PLACE)))
    (v_FORM_PLACE : PySem.W.nsIn K mainGlobals "FORM_PLACE" = some (some (.int 520 t_FORM_PLACE)))
    (v_HEAD_SIZE : PySem.W.nsIn K mainGlobals "HEAD_SIZE" = some (some (.int 576 t_HEAD_SIZE)))
    (v_GAP_SIZE : PySem.W.nsIn K mainGlobals "GAP_SIZE" = some (some (.int 256 t_GAP_SIZE)))
    (v_SHORT_FORM : PySem.W.nsIn K mainGlobals "SHORT_FORM" = some (some (.int 9223372036854775808 t_SHORT_FORM)))
    (v_MOST_BYTES : PySem.W.nsIn K mainGlobals "MOST_BYTES" = some (some (.int 2688 t_MOST_BYTES)))
    (v_SIZE : PySem.W.nsIn K mainGlobals "SIZE" = some (some (.int 6 t_SIZE)))
    (v_MOST_WIDTH : PySem.W.nsIn K mainGlobals "MOST_WIDTH" = some (some (.int 2 t_MOST_WIDTH)))
    (v_MOST_MASK : PySem.W.nsIn K mainGlobals "MOST_MASK" = some (some (.int 7 t_MOST_MASK)))
    (v_ROTATE : PySem.W.nsIn K mainGlobals "ROTATE" = some (some (.int 11 t_ROTATE)))
    (v_FILL : PySem.W.nsIn K mainGlobals "FILL" = some (some (.int 12 t_FILL)))
    (v_RISE : PySem.W.nsIn K mainGlobals "RISE" = some (some (.int 13 t_RISE)))
    (v_LANE_SUM : PySem.W.nsIn K mainGlobals "LANE_SUM" = some (some (.int 14 t_LANE_SUM)))
    (v_M_SUM : PySem.W.nsIn K mainGlobals "M_SUM" = some (some (.int 15 t_M_SUM)))
    (v_M_APART : PySem.W.nsIn K mainGlobals "M_APART" = some (some (.int 16 t_M_APART)))
    (v_LESS : PySem.W.nsIn K mainGlobals "LESS" = some (some (.int 17 t_LESS)))
    (v_K_BOTH : PySem.W.nsIn K mainGlobals "K_BOTH" = some (some (.int 18 t_K_BOTH)))
    (v_K_APART : PySem.W.nsIn K mainGlobals "K_APART" = some (some (.int 19 t_K_APART)))
    (v_K_NOT : PySem.W.nsIn K mainGlobals "K_NOT" = some (some (.int 20 t_K_NOT)))
    (v_M_FROM_K : PySem.W.nsIn K mainGlobals "M_FROM_K" = some (some (.int 21 t_M_FROM_K)))
    (v_K_FROM_M : PySem.W.nsIn K mainGlobals "K_FROM_M" = some (some (.int 22 t_K_FROM_M)))
    (v_LOOP : PySem.W.nsIn K mainGlobals "LOOP" = some (some (.int 23 t_LOOP)))
    (v_HALF : PySem.W.nsIn K mainGlobals "HALF" = some (some (.int 4294967296 t_HALF)))
    (v_OUT_OF_RANGE : PySem.W.nsIn K mainGlobals "OUT_OF_RANGE" = some (some (.int (-1) t_OUT_OF_RANGE)))
    (v_NONE_SUCH : PySem.W.nsIn K mainGlobals "NONE_SUCH" = some (some (.int (-2) t_NONE_SUCH)))
    (v_NO_COMPONENT : PySem.W.nsIn K mainGlobals "NO_COMPONENT" = some (some (.int (-3) t_NO_COMPONENT)))
    (v_NO_ROOM : PySem.W.nsIn K mainGlobals "NO_ROOM" = some (some (.int (-4) t_NO_ROOM)))
    (v_MOST_CODE : PySem.W.nsIn K mainGlobals "MOST_CODE" = some (some (.int 4096 t_MOST_CODE)))
    (v_MOST_STEPS : PySem.W.nsIn K mainGlobals "MOST_STEPS" = some (some (.int 1000000 t_MOST_STEPS)))
    (v_FIRST_M : PySem.W.nsIn K mainGlobals "FIRST_M" = some (some (.int 32 t_FIRST_M)))
    (v_FIRST_K : PySem.W.nsIn K mainGlobals "FIRST_K" = some (some (.int 40 t_FIRST_K)))
    (v_ALL_PLACE : PySem.W.nsIn K mainGlobals "ALL_PLACE" = some (some (.int 48 t_ALL_PLACE)))
    (v_CELL_SIZE : PySem.W.nsIn K mainGlobals "CELL_SIZE" = some (some (.int 64 t_CELL_SIZE)))
    (v_MACHINES : PySem.W.nsIn K mainGlobals "MACHINES" = some (some (.ref aMACHINES)))
    (v_WEIGHTS : PySem.W.nsIn K mainGlobals "WEIGHTS" = some (some (.ref aWEIGHTS)))
    (v_HEAD : PySem.W.nsIn K mainGlobals "HEAD" = some (some (.ref aHEAD)))
    (v_MARKS : PySem.W.nsIn K mainGlobals "MARKS" = some (some (.ref aMARKS)))
    (v_SIZES : PySem.W.nsIn K mainGlobals "SIZES" = some (some (.ref aSIZES)))
    (v_MORE : PySem.W.nsIn K mainGlobals "MORE" = some (some (.ref aMORE)))
    (v_BOUNDS : PySem.W.nsIn K mainGlobals "BOUNDS" = some (some (.ref aBOUNDS)))
    (v_CALLS : PySem.W.nsIn K mainGlobals "CALLS" = some (some (.ref aCALLS)))
    (z_range : PySem.W.nsIn K mainGlobals "range" = some none)
    (z_list : PySem.W.nsIn K mainGlobals "list" = some none)
    (z_len : PySem.W.nsIn K mainGlobals "len" = some none)
    (z_sum : PySem.W.nsIn K mainGlobals "sum" = some none)
    (z_any : PySem.W.nsIn K mainGlobals "any" = some none)
    (z_all : PySem.W.nsIn K mainGlobals "all" = some none)
    (z_reversed : PySem.W.nsIn K mainGlobals "reversed" = some none)
    (z_zip : PySem.W.nsIn K mainGlobals "zip" = some none)
    (z_min : PySem.W.nsIn K mainGlobals "min" = some none)
    (z_max : PySem.W.nsIn K mainGlobals "max" = some none)
    (z_enumerate : PySem.W.nsIn K mainGlobals "enumerate" = some none)
    (aC_State : PySem.W.nsIn K mainGlobals "State" = some (some (.ref cState)))
    (pg_State : PySem.W.plainGet K cState Str.empty = true)
    (hd_State : PySem.W.hasDictIn K cState = true)
    (po_State : PySem.W.plainOver K cState = true)
    (sa_State : PySem.W.findIn K (.ref cState) "__setattr__" = some (some (.builtin "object.__setattr__")))
    (mk_State : PySem.W.makesIn K cState = true)
    (kc_State : PySem.W.keepIn K (.ref cState) = true)
    (n_State_words : PySem.W.findIn K (.ref cState) "words" = some none)
    (n_State_vectors : PySem.W.findIn K (.ref cState) "vectors" = some none)
    (n_State_masks : PySem.W.findIn K (.ref cState) "masks" = some none)
    (aC_Instruction : PySem.W.nsIn K mainGlobals "Instruction" = some (some (.ref cInstruction)))
    (pg_Instruction : PySem.W.plainGet K cInstruction Str.empty = true)
    (hd_Instruction : PySem.W.hasDictIn K cInstruction = true)
    (po_Instruction : PySem.W.plainOver K cInstruction = true)
    (sa_Instruction : PySem.W.findIn K (.ref cInstruction) "__setattr__" = some (some (.builtin "object.__setattr__")))
    (mk_Instruction : PySem.W.makesIn K cInstruction = true)
    (kc_Instruction : PySem.W.keepIn K (.ref cInstruction) = true)
    (n_Instruction_kind : PySem.W.findIn K (.ref cInstruction) "kind" = some none)
    (n_Instruction_lanes : PySem.W.findIn K (.ref cInstruction) "lanes" = some none)
    (n_Instruction_mask : PySem.W.findIn K (.ref cInstruction) "mask" = some none)
    (n_Instruction_goal : PySem.W.findIn K (.ref cInstruction) "goal" = some none)
    (n_Instruction_one : PySem.W.findIn K (.ref cInstruction) "one" = some none)
    (n_Instruction_other : PySem.W.findIn K (.ref cInstruction) "other" = some none)
    (aC_Runner : PySem.W.nsIn K mainGlobals "Runner" = some (some (.ref cRunner)))
    (pg_Runner : PySem.W.plainGet K cRunner Str.empty = true)
    (hd_Runner : PySem.W.hasDictIn K cRunner = true)
    (po_Runner : PySem.W.plainOver K cRunner = true)
    (sa_Runner : PySem.W.findIn K (.ref cRunner) "__setattr__" = some (some (.builtin "object.__setattr__")))
    (mk_Runner : PySem.W.makesIn K cRunner = true)
    (kc_Runner : PySem.W.keepIn K (.ref cRunner) = true)
    (n_Runner_state : PySem.W.findIn K (.ref cRunner) "state" = some none)
    (n_Runner_powers : PySem.W.findIn K (.ref cRunner) "powers" = some none)
    (aC_Desk : PySem.W.nsIn K mainGlobals "Desk" = some (some (.ref cDesk)))
    (pg_Desk : PySem.W.plainGet K cDesk Str.empty = true)
    (hd_Desk : PySem.W.hasDictIn K cDesk = true)
    (po_Desk : PySem.W.plainOver K cDesk = true)
    (sa_Desk : PySem.W.findIn K (.ref cDesk) "__setattr__" = some (some (.builtin "object.__setattr__")))
    (mk_Desk : PySem.W.makesIn K cDesk = true)
    (kc_Desk : PySem.W.keepIn K (.ref cDesk) = true)
    (n_Desk_components : PySem.W.findIn K (.ref cDesk) "components" = some none)
    (n_Desk_state : PySem.W.findIn K (.ref cDesk) "state" = some none)
    (a_State___init__ : PySem.W.findIn K (.ref cState) "__init__" = some (some (.ref f_State___init__)))
    (i_State___init__ : PySem.W.isFn K (.ref f_State___init__) = true)
    (l_State___init__ : K.lookup f_State___init__ = some ⟨oc_State___init__, od_State___init__, .func (PySem.W.fnOf "__init__" "State.__init__" (defArgs s_State___init__) (defBody s_State___init__) (defScope s_State___init__) .none kV_State___init__ dc_State___init__ pm_State___init__ an_State___init__ cd_State___init__ ct_State___init__), sl_State___init__⟩)
    (d_State___init__ : PySem.W.codeIn K cd_State___init__ "State.__init__" = true)
    (k_State___init__ : PySem.W.keepIn K (.ref f_State___init__) = true)
    (a_State_part : PySem.W.findIn K (.ref cState) "part" = some (some (.ref f_State_part)))
    (i_State_part : PySem.W.isFn K (.ref f_State_part) = true)
    (l_State_part : K.lookup f_State_part = some ⟨oc_State_part, od_State_part, .func (PySem.W.fnOf "part" "State.part" (defArgs s_State_part) (defBody s_State_part) (defScope s_State_part) .none kV_State_part dc_State_part pm_State_part an_State_part cd_State_part ct_State_part), sl_State_part⟩)
    (d_State_part : PySem.W.codeIn K cd_State_part "State.part" = true)
    (k_State_part : PySem.W.keepIn K (.ref f_State_part) = true)
    (a_State_set_part : PySem.W.findIn K (.ref cState) "set_part" = some (some (.ref f_State_set_part)))
    (i_State_set_part : PySem.W.isFn K (.ref f_State_set_part) = true)
    (l_State_set_part : K.lookup f_State_set_part = some ⟨oc_State_set_part, od_State_set_part, .func (PySem.W.fnOf "set_part" "State.set_part" (defArgs s_State_set_part) (defBody s_State_set_part) (defScope s_State_set_part) .none kV_State_set_part dc_State_set_part pm_State_set_part an_State_set_part cd_State_set_part ct_State_set_part), sl_State_set_part⟩)
    (d_State_set_part : PySem.W.codeIn K cd_State_set_part "State.set_part" = true)
    (k_State_set_part : PySem.W.keepIn K (.ref f_State_set_part) = true)
    (a_State_used : PySem.W.findIn K (.ref cState) "used" = some (some (.ref f_State_used)))
    (i_State_used : PySem.W.isFn K (.ref f_State_used) = true)
    (l_State_used : K.lookup f_State_used = some ⟨oc_State_used, od_State_used, .func (PySem.W.fnOf "used" "State.used" (defArgs s_State_used) (defBody s_State_used) (defScope s_State_used) .none kV_State_used dc_State_used pm_State_used an_State_used cd_State_used ct_State_used), sl_State_used⟩)
    (d_State_used : PySem.W.codeIn K cd_State_used "State.used" = true)
    (k_State_used : PySem.W.keepIn K (.ref f_State_used) = true)
    (a_joined : PySem.W.nsIn K mainGlobals "joined" = some (some (.ref f_joined)))
    (l_joined : K.lookup f_joined = some ⟨oc_joined, od_joined, .func (PySem.W.fnOf "joined" "joined" (defArgs s_joined) (defBody s_joined) (defScope s_joined) .none kV_joined dc_joined pm_joined an_joined cd_joined ct_joined), sl_joined⟩)
    (d_joined : PySem.W.codeIn K cd_joined "joined" = true)
    (k_joined : PySem.W.keepIn K (.ref f_joined) = true)
    (a_lanes_of : PySem.W.nsIn K mainGlobals "lanes_of" = some (some (.ref f_lanes_of)))
    (l_lanes_of : K.lookup f_lanes_of = some ⟨oc_lanes_of, od_lanes_of, .func (PySem.W.fnOf "lanes_of" "lanes_of" (defArgs s_lanes_of) (defBody s_lanes_of) (defScope s_lanes_of) .none kV_lanes_of dc_lanes_of pm_lanes_of an_lanes_of cd_lanes_of ct_lanes_of), sl_lanes_of⟩)
    (d_lanes_of : PySem.W.codeIn K cd_lanes_of "lanes_of" = true)
    (k_lanes_of : PySem.W.keepIn K (.ref f_lanes_of) = true)
    (a_number_count : PySem.W.nsIn K mainGlobals "number_count" = some (some (.ref f_number_count)))
    (l_number_count : K.lookup f_number_count = some ⟨oc_number_count, od_number_count, .func (PySem.W.fnOf "number_count" "number_count" (defArgs s_number_count) (defBody s_number_count) (defScope s_number_count) .none kV_number_count dc_number_count pm_number_count an_number_count cd_number_count ct_number_count), sl_number_count⟩)
    (d_number_count : PySem.W.codeIn K cd_number_count "number_count" = true)
    (k_number_count : PySem.W.keepIn K (.ref f_number_count) = true)
    (a_has_all : PySem.W.nsIn K mainGlobals "has_all" = some (some (.ref f_has_all)))
    (l_has_all : K.lookup f_has_all = some ⟨oc_has_all, od_has_all, .func (PySem.W.fnOf "has_all" "has_all" (defArgs s_has_all) (defBody s_has_all) (defScope s_has_all) .none kV_has_all dc_has_all pm_has_all an_has_all cd_has_all ct_has_all), sl_has_all⟩)
    (d_has_all : PySem.W.codeIn K cd_has_all "has_all" = true)
    (k_has_all : PySem.W.keepIn K (.ref f_has_all) = true)
    (a_number_row : PySem.W.nsIn K mainGlobals "number_row" = some (some (.ref f_number_row)))
    (l_number_row : K.lookup f_number_row = some ⟨oc_number_row, od_number_row, .func (PySem.W.fnOf "number_row" "number_row" (defArgs s_number_row) (defBody s_number_row) (defScope s_number_row) .none kV_number_row dc_number_row pm_number_row an_number_row cd_number_row ct_number_row), sl_number_row⟩)
    (d_number_row : PySem.W.codeIn K cd_number_row "number_row" = true)
    (k_number_row : PySem.W.keepIn K (.ref f_number_row) = true)
    (a_rows_of : PySem.W.nsIn K mainGlobals "rows_of" = some (some (.ref f_rows_of)))
    (l_rows_of : K.lookup f_rows_of = some ⟨oc_rows_of, od_rows_of, .func (PySem.W.fnOf "rows_of" "rows_of" (defArgs s_rows_of) (defBody s_rows_of) (defScope s_rows_of) .none kV_rows_of dc_rows_of pm_rows_of an_rows_of cd_rows_of ct_rows_of), sl_rows_of⟩)
    (d_rows_of : PySem.W.codeIn K cd_rows_of "rows_of" = true)
    (k_rows_of : PySem.W.keepIn K (.ref f_rows_of) = true)
    (a_number_in : PySem.W.nsIn K mainGlobals "number_in" = some (some (.ref f_number_in)))
    (l_number_in : K.lookup f_number_in = some ⟨oc_number_in, od_number_in, .func (PySem.W.fnOf "number_in" "number_in" (defArgs s_number_in) (defBody s_number_in) (defScope s_number_in) .none kV_number_in dc_number_in pm_number_in an_number_in cd_number_in ct_number_in), sl_number_in⟩)
    (d_number_in : PySem.W.codeIn K cd_number_in "number_in" = true)
    (k_number_in : PySem.W.keepIn K (.ref f_number_in) = true)
    (a_numbers_in : PySem.W.nsIn K mainGlobals "numbers_in" = some (some (.ref f_numbers_in)))
    (l_numbers_in : K.lookup f_numbers_in = some ⟨oc_numbers_in, od_numbers_in, .func (PySem.W.fnOf "numbers_in" "numbers_in" (defArgs s_numbers_in) (defBody s_numbers_in) (defScope s_numbers_in) .none kV_numbers_in dc_numbers_in pm_numbers_in an_numbers_in cd_numbers_in ct_numbers_in), sl_numbers_in⟩)
    (d_numbers_in : PySem.W.codeIn K cd_numbers_in "numbers_in" = true)
    (k_numbers_in : PySem.W.keepIn K (.ref f_numbers_in) = true)
    (a_head_of : PySem.W.nsIn K mainGlobals "head_of" = some (some (.ref f_head_of)))
    (l_head_of : K.lookup f_head_of = some ⟨oc_head_of, od_head_of, .func (PySem.W.fnOf "head_of" "head_of" (defArgs s_head_of) (defBody s_head_of) (defScope s_head_of) .none kV_head_of dc_head_of pm_head_of an_head_of cd_head_of ct_head_of), sl_head_of⟩)
    (d_head_of : PySem.W.codeIn K cd_head_of "head_of" = true)
    (k_head_of : PySem.W.keepIn K (.ref f_head_of) = true)
    (a_long_form : PySem.W.nsIn K mainGlobals "long_form" = some (some (.ref f_long_form)))
    (l_long_form : K.lookup f_long_form = some ⟨oc_long_form, od_long_form, .func (PySem.W.fnOf "long_form" "long_form" (defArgs s_long_form) (defBody s_long_form) (defScope s_long_form) .none kV_long_form dc_long_form pm_long_form an_long_form cd_long_form ct_long_form), sl_long_form⟩)
    (d_long_form : PySem.W.codeIn K cd_long_form "long_form" = true)
    (k_long_form : PySem.W.keepIn K (.ref f_long_form) = true)
    (a_short_form : PySem.W.nsIn K mainGlobals "short_form" = some (some (.ref f_short_form)))
    (l_short_form : K.lookup f_short_form = some ⟨oc_short_form, od_short_form, .func (PySem.W.fnOf "short_form" "short_form" (defArgs s_short_form) (defBody s_short_form) (defScope s_short_form) .none kV_short_form dc_short_form pm_short_form an_short_form cd_short_form ct_short_form), sl_short_form⟩)
    (d_short_form : PySem.W.codeIn K cd_short_form "short_form" = true)
    (k_short_form : PySem.W.keepIn K (.ref f_short_form) = true)
    (a_form_of : PySem.W.nsIn K mainGlobals "form_of" = some (some (.ref f_form_of)))
    (l_form_of : K.lookup f_form_of = some ⟨oc_form_of, od_form_of, .func (PySem.W.fnOf "form_of" "form_of" (defArgs s_form_of) (defBody s_form_of) (defScope s_form_of) .none kV_form_of dc_form_of pm_form_of an_form_of cd_form_of ct_form_of), sl_form_of⟩)
    (d_form_of : PySem.W.codeIn K cd_form_of "form_of" = true)
    (k_form_of : PySem.W.keepIn K (.ref f_form_of) = true)
    (a_read_part : PySem.W.nsIn K mainGlobals "read_part" = some (some (.ref f_read_part)))
    (l_read_part : K.lookup f_read_part = some ⟨oc_read_part, od_read_part, .func (PySem.W.fnOf "read_part" "read_part" (defArgs s_read_part) (defBody s_read_part) (defScope s_read_part) .none kV_read_part dc_read_part pm_read_part an_read_part cd_read_part ct_read_part), sl_read_part⟩)
    (d_read_part : PySem.W.codeIn K cd_read_part "read_part" = true)
    (k_read_part : PySem.W.keepIn K (.ref f_read_part) = true)
    (a_read_head : PySem.W.nsIn K mainGlobals "read_head" = some (some (.ref f_read_head)))
    (l_read_head : K.lookup f_read_head = some ⟨oc_read_head, od_read_head, .func (PySem.W.fnOf "read_head" "read_head" (defArgs s_read_head) (defBody s_read_head) (defScope s_read_head) .none kV_read_head dc_read_head pm_read_head an_read_head cd_read_head ct_read_head), sl_read_head⟩)
    (d_read_head : PySem.W.codeIn K cd_read_head "read_head" = true)
    (k_read_head : PySem.W.keepIn K (.ref f_read_head) = true)
    (a_read_long : PySem.W.nsIn K mainGlobals "read_long" = some (some (.ref f_read_long)))
    (l_read_long : K.lookup f_read_long = some ⟨oc_read_long, od_read_long, .func (PySem.W.fnOf "read_long" "read_long" (defArgs s_read_long) (defBody s_read_long) (defScope s_read_long) .none kV_read_long dc_read_long pm_read_long an_read_long cd_read_long ct_read_long), sl_read_long⟩)
    (d_read_long : PySem.W.codeIn K cd_read_long "read_long" = true)
    (k_read_long : PySem.W.keepIn K (.ref f_read_long) = true)
    (a_read_short : PySem.W.nsIn K mainGlobals "read_short" = some (some (.ref f_read_short)))
    (l_read_short : K.lookup f_read_short = some ⟨oc_read_short, od_read_short, .func (PySem.W.fnOf "read_short" "read_short" (defArgs s_read_short) (defBody s_read_short) (defScope s_read_short) .none kV_read_short dc_read_short pm_read_short an_read_short cd_read_short ct_read_short), sl_read_short⟩)
    (d_read_short : PySem.W.codeIn K cd_read_short "read_short" = true)
    (k_read_short : PySem.W.keepIn K (.ref f_read_short) = true)
    (a_state_of : PySem.W.nsIn K mainGlobals "state_of" = some (some (.ref f_state_of)))
    (l_state_of : K.lookup f_state_of = some ⟨oc_state_of, od_state_of, .func (PySem.W.fnOf "state_of" "state_of" (defArgs s_state_of) (defBody s_state_of) (defScope s_state_of) .none kV_state_of dc_state_of pm_state_of an_state_of cd_state_of ct_state_of), sl_state_of⟩)
    (d_state_of : PySem.W.codeIn K cd_state_of "state_of" = true)
    (k_state_of : PySem.W.keepIn K (.ref f_state_of) = true)
    (a_Instruction___init__ : PySem.W.findIn K (.ref cInstruction) "__init__" = some (some (.ref f_Instruction___init__)))
    (i_Instruction___init__ : PySem.W.isFn K (.ref f_Instruction___init__) = true)
    (l_Instruction___init__ : K.lookup f_Instruction___init__ = some ⟨oc_Instruction___init__, od_Instruction___init__, .func (PySem.W.fnOf "__init__" "Instruction.__init__" (defArgs s_Instruction___init__) (defBody s_Instruction___init__) (defScope s_Instruction___init__) .none kV_Instruction___init__ dc_Instruction___init__ pm_Instruction___init__ an_Instruction___init__ cd_Instruction___init__ ct_Instruction___init__), sl_Instruction___init__⟩)
    (d_Instruction___init__ : PySem.W.codeIn K cd_Instruction___init__ "Instruction.__init__" = true)
    (k_Instruction___init__ : PySem.W.keepIn K (.ref f_Instruction___init__) = true)
    (a_Instruction_vectors_met : PySem.W.findIn K (.ref cInstruction) "vectors_met" = some (some (.ref f_Instruction_vectors_met)))
    (i_Instruction_vectors_met : PySem.W.isFn K (.ref f_Instruction_vectors_met) = true)
    (l_Instruction_vectors_met : K.lookup f_Instruction_vectors_met = some ⟨oc_Instruction_vectors_met, od_Instruction_vectors_met, .func (PySem.W.fnOf "vectors_met" "Instruction.vectors_met" (defArgs s_Instruction_vectors_met) (defBody s_Instruction_vectors_met) (defScope s_Instruction_vectors_met) .none kV_Instruction_vectors_met dc_Instruction_vectors_met pm_Instruction_vectors_met an_Instruction_vectors_met cd_Instruction_vectors_met ct_Instruction_vectors_met), sl_Instruction_vectors_met⟩)
    (d_Instruction_vectors_met : PySem.W.codeIn K cd_Instruction_vectors_met "Instruction.vectors_met" = true)
    (k_Instruction_vectors_met : PySem.W.keepIn K (.ref f_Instruction_vectors_met) = true)
    (a_Instruction_least_machine : PySem.W.findIn K (.ref cInstruction) "least_machine" = some (some (.ref f_Instruction_least_machine)))
    (i_Instruction_least_machine : PySem.W.isFn K (.ref f_Instruction_least_machine) = true)
    (l_Instruction_least_machine : K.lookup f_Instruction_least_machine = some ⟨oc_Instruction_least_machine, od_Instruction_least_machine, .func (PySem.W.fnOf "least_machine" "Instruction.least_machine" (defArgs s_Instruction_least_machine) (defBody s_Instruction_least_machine) (defScope s_Instruction_least_machine) .none kV_Instruction_least_machine dc_Instruction_least_machine pm_Instruction_least_machine an_Instruction_least_machine cd_Instruction_least_machine ct_Instruction_least_machine), sl_Instruction_least_machine⟩)
    (d_Instruction_least_machine : PySem.W.codeIn K cd_Instruction_least_machine "Instruction.least_machine" = true)
    (k_Instruction_least_machine : PySem.W.keepIn K (.ref f_Instruction_least_machine) = true)
    (a_lane_count : PySem.W.nsIn K mainGlobals "lane_count" = some (some (.ref f_lane_count)))
    (l_lane_count : K.lookup f_lane_count = some ⟨oc_lane_count, od_lane_count, .func (PySem.W.fnOf "lane_count" "lane_count" (defArgs s_lane_count) (defBody s_lane_count) (defScope s_lane_count) .none kV_lane_count dc_lane_count pm_lane_count an_lane_count cd_lane_count ct_lane_count), sl_lane_count⟩)
    (d_lane_count : PySem.W.codeIn K cd_lane_count "lane_count" = true)
    (k_lane_count : PySem.W.keepIn K (.ref f_lane_count) = true)
    (a_is_instruction : PySem.W.nsIn K mainGlobals "is_instruction" = some (some (.ref f_is_instruction)))
    (l_is_instruction : K.lookup f_is_instruction = some ⟨oc_is_instruction, od_is_instruction, .func (PySem.W.fnOf "is_instruction" "is_instruction" (defArgs s_is_instruction) (defBody s_is_instruction) (defScope s_is_instruction) .none kV_is_instruction dc_is_instruction pm_is_instruction an_is_instruction cd_is_instruction ct_is_instruction), sl_is_instruction⟩)
    (d_is_instruction : PySem.W.codeIn K cd_is_instruction "is_instruction" = true)
    (k_is_instruction : PySem.W.keepIn K (.ref f_is_instruction) = true)
    (a_instruction_rows : PySem.W.nsIn K mainGlobals "instruction_rows" = some (some (.ref f_instruction_rows)))
    (l_instruction_rows : K.lookup f_instruction_rows = some ⟨oc_instruction_rows, od_instruction_rows, .func (PySem.W.fnOf "instruction_rows" "instruction_rows" (defArgs s_instruction_rows) (defBody s_instruction_rows) (defScope s_instruction_rows) .none kV_instruction_rows dc_instruction_rows pm_instruction_rows an_instruction_rows cd_instruction_rows ct_instruction_rows), sl_instruction_rows⟩)
    (d_instruction_rows : PySem.W.codeIn K cd_instruction_rows "instruction_rows" = true)
    (k_instruction_rows : PySem.W.keepIn K (.ref f_instruction_rows) = true)
    (a_powers : PySem.W.nsIn K mainGlobals "powers" = some (some (.ref f_powers)))
    (l_powers : K.lookup f_powers = some ⟨oc_powers, od_powers, .func (PySem.W.fnOf "powers" "powers" (defArgs s_powers) (defBody s_powers) (defScope s_powers) .none kV_powers dc_powers pm_powers an_powers cd_powers ct_powers), sl_powers⟩)
    (d_powers : PySem.W.codeIn K cd_powers "powers" = true)
    (k_powers : PySem.W.keepIn K (.ref f_powers) = true)
    (a_paired : PySem.W.nsIn K mainGlobals "paired" = some (some (.ref f_paired)))
    (l_paired : K.lookup f_paired = some ⟨oc_paired, od_paired, .func (PySem.W.fnOf "paired" "paired" (defArgs s_paired) (defBody s_paired) (defScope s_paired) .none kV_paired dc_paired pm_paired an_paired cd_paired ct_paired), sl_paired⟩)
    (d_paired : PySem.W.codeIn K cd_paired "paired" = true)
    (k_paired : PySem.W.keepIn K (.ref f_paired) = true)
    (a_Runner___init__ : PySem.W.findIn K (.ref cRunner) "__init__" = some (some (.ref f_Runner___init__)))
    (i_Runner___init__ : PySem.W.isFn K (.ref f_Runner___init__) = true)
    (l_Runner___init__ : K.lookup f_Runner___init__ = some ⟨oc_Runner___init__, od_Runner___init__, .func (PySem.W.fnOf "__init__" "Runner.__init__" (defArgs s_Runner___init__) (defBody s_Runner___init__) (defScope s_Runner___init__) .none kV_Runner___init__ dc_Runner___init__ pm_Runner___init__ an_Runner___init__ cd_Runner___init__ ct_Runner___init__), sl_Runner___init__⟩)
    (d_Runner___init__ : PySem.W.codeIn K cd_Runner___init__ "Runner.__init__" = true)
    (k_Runner___init__ : PySem.W.keepIn K (.ref f_Runner___init__) = true)
    (a_Runner_shifted : PySem.W.findIn K (.ref cRunner) "shifted" = some (some (.ref f_Runner_shifted)))
    (i_Runner_shifted : PySem.W.isFn K (.ref f_Runner_shifted) = true)
    (l_Runner_shifted : K.lookup f_Runner_shifted = some ⟨oc_Runner_shifted, od_Runner_shifted, .func (PySem.W.fnOf "shifted" "Runner.shifted" (defArgs s_Runner_shifted) (defBody s_Runner_shifted) (defScope s_Runner_shifted) .none kV_Runner_shifted dc_Runner_shifted pm_Runner_shifted an_Runner_shifted cd_Runner_shifted ct_Runner_shifted), sl_Runner_shifted⟩)
    (d_Runner_shifted : PySem.W.codeIn K cd_Runner_shifted "Runner.shifted" = true)
    (k_Runner_shifted : PySem.W.keepIn K (.ref f_Runner_shifted) = true)
    (a_Runner_lanes_made : PySem.W.findIn K (.ref cRunner) "lanes_made" = some (some (.ref f_Runner_lanes_made)))
    (i_Runner_lanes_made : PySem.W.isFn K (.ref f_Runner_lanes_made) = true)
    (l_Runner_lanes_made : K.lookup f_Runner_lanes_made = some ⟨oc_Runner_lanes_made, od_Runner_lanes_made, .func (PySem.W.fnOf "lanes_made" "Runner.lanes_made" (defArgs s_Runner_lanes_made) (defBody s_Runner_lanes_made) (defScope s_Runner_lanes_made) .none kV_Runner_lanes_made dc_Runner_lanes_made pm_Runner_lanes_made an_Runner_lanes_made cd_Runner_lanes_made ct_Runner_lanes_made), sl_Runner_lanes_made⟩)
    (d_Runner_lanes_made : PySem.W.codeIn K cd_Runner_lanes_made "Runner.lanes_made" = true)
    (k_Runner_lanes_made : PySem.W.keepIn K (.ref f_Runner_lanes_made) = true)
    (a_Runner_write : PySem.W.findIn K (.ref cRunner) "write" = some (some (.ref f_Runner_write)))
    (i_Runner_write : PySem.W.isFn K (.ref f_Runner_write) = true)
    (l_Runner_write : K.lookup f_Runner_write = some ⟨oc_Runner_write, od_Runner_write, .func (PySem.W.fnOf "write" "Runner.write" (defArgs s_Runner_write) (defBody s_Runner_write) (defScope s_Runner_write) .none kV_Runner_write dc_Runner_write pm_Runner_write an_Runner_write cd_Runner_write ct_Runner_write), sl_Runner_write⟩)
    (d_Runner_write : PySem.W.codeIn K cd_Runner_write "Runner.write" = true)
    (k_Runner_write : PySem.W.keepIn K (.ref f_Runner_write) = true)
    (a_Runner_bits_less : PySem.W.findIn K (.ref cRunner) "bits_less" = some (some (.ref f_Runner_bits_less)))
    (i_Runner_bits_less : PySem.W.isFn K (.ref f_Runner_bits_less) = true)
    (l_Runner_bits_less : K.lookup f_Runner_bits_less = some ⟨oc_Runner_bits_less, od_Runner_bits_less, .func (PySem.W.fnOf "bits_less" "Runner.bits_less" (defArgs s_Runner_bits_less) (defBody s_Runner_bits_less) (defScope s_Runner_bits_less) .none kV_Runner_bits_less dc_Runner_bits_less pm_Runner_bits_less an_Runner_bits_less cd_Runner_bits_less ct_Runner_bits_less), sl_Runner_bits_less⟩)
    (d_Runner_bits_less : PySem.W.codeIn K cd_Runner_bits_less "Runner.bits_less" = true)
    (k_Runner_bits_less : PySem.W.keepIn K (.ref f_Runner_bits_less) = true)
    (a_Runner_change : PySem.W.findIn K (.ref cRunner) "change" = some (some (.ref f_Runner_change)))
    (i_Runner_change : PySem.W.isFn K (.ref f_Runner_change) = true)
    (l_Runner_change : K.lookup f_Runner_change = some ⟨oc_Runner_change, od_Runner_change, .func (PySem.W.fnOf "change" "Runner.change" (defArgs s_Runner_change) (defBody s_Runner_change) (defScope s_Runner_change) .none kV_Runner_change dc_Runner_change pm_Runner_change an_Runner_change cd_Runner_change ct_Runner_change), sl_Runner_change⟩)
    (d_Runner_change : PySem.W.codeIn K cd_Runner_change "Runner.change" = true)
    (k_Runner_change : PySem.W.keepIn K (.ref f_Runner_change) = true)
    (a_Runner_next_place : PySem.W.findIn K (.ref cRunner) "next_place" = some (some (.ref f_Runner_next_place)))
    (i_Runner_next_place : PySem.W.isFn K (.ref f_Runner_next_place) = true)
    (l_Runner_next_place : K.lookup f_Runner_next_place = some ⟨oc_Runner_next_place, od_Runner_next_place, .func (PySem.W.fnOf "next_place" "Runner.next_place" (defArgs s_Runner_next_place) (defBody s_Runner_next_place) (defScope s_Runner_next_place) .none kV_Runner_next_place dc_Runner_next_place pm_Runner_next_place an_Runner_next_place cd_Runner_next_place ct_Runner_next_place), sl_Runner_next_place⟩)
    (d_Runner_next_place : PySem.W.codeIn K cd_Runner_next_place "Runner.next_place" = true)
    (k_Runner_next_place : PySem.W.keepIn K (.ref f_Runner_next_place) = true)
    (a_Runner_step : PySem.W.findIn K (.ref cRunner) "step" = some (some (.ref f_Runner_step)))
    (i_Runner_step : PySem.W.isFn K (.ref f_Runner_step) = true)
    (l_Runner_step : K.lookup f_Runner_step = some ⟨oc_Runner_step, od_Runner_step, .func (PySem.W.fnOf "step" "Runner.step" (defArgs s_Runner_step) (defBody s_Runner_step) (defScope s_Runner_step) .none kV_Runner_step dc_Runner_step pm_Runner_step an_Runner_step cd_Runner_step ct_Runner_step), sl_Runner_step⟩)
    (d_Runner_step : PySem.W.codeIn K cd_Runner_step "Runner.step" = true)
    (k_Runner_step : PySem.W.keepIn K (.ref f_Runner_step) = true)
    (a_Runner_run : PySem.W.findIn K (.ref cRunner) "run" = some (some (.ref f_Runner_run)))
    (i_Runner_run : PySem.W.isFn K (.ref f_Runner_run) = true)
    (l_Runner_run : K.lookup f_Runner_run = some ⟨oc_Runner_run, od_Runner_run, .func (PySem.W.fnOf "run" "Runner.run" (defArgs s_Runner_run) (defBody s_Runner_run) (defScope s_Runner_run) .none kV_Runner_run dc_Runner_run pm_Runner_run an_Runner_run cd_Runner_run ct_Runner_run), sl_Runner_run⟩)
    (d_Runner_run : PySem.W.codeIn K cd_Runner_run "Runner.run" = true)
    (k_Runner_run : PySem.W.keepIn K (.ref f_Runner_run) = true)
    (a_need : PySem.W.nsIn K mainGlobals "need" = some (some (.ref f_need)))
    (l_need : K.lookup f_need = some ⟨oc_need, od_need, .func (PySem.W.fnOf "need" "need" (defArgs s_need) (defBody s_need) (defScope s_need) .none kV_need dc_need pm_need an_need cd_need ct_need), sl_need⟩)
    (d_need : PySem.W.codeIn K cd_need "need" = true)
    (k_need : PySem.W.keepIn K (.ref f_need) = true)
    (a_Desk___init__ : PySem.W.findIn K (.ref cDesk) "__init__" = some (some (.ref f_Desk___init__)))
    (i_Desk___init__ : PySem.W.isFn K (.ref f_Desk___init__) = true)
    (l_Desk___init__ : K.lookup f_Desk___init__ = some ⟨oc_Desk___init__, od_Desk___init__, .func (PySem.W.fnOf "__init__" "Desk.__init__" (defArgs s_Desk___init__) (defBody s_Desk___init__) (defScope s_Desk___init__) .none kV_Desk___init__ dc_Desk___init__ pm_Desk___init__ an_Desk___init__ cd_Desk___init__ ct_Desk___init__), sl_Desk___init__⟩)
    (d_Desk___init__ : PySem.W.codeIn K cd_Desk___init__ "Desk.__init__" = true)
    (k_Desk___init__ : PySem.W.keepIn K (.ref f_Desk___init__) = true)
    (a_Desk_replace : PySem.W.findIn K (.ref cDesk) "replace" = some (some (.ref f_Desk_replace)))
    (i_Desk_replace : PySem.W.isFn K (.ref f_Desk_replace) = true)
    (l_Desk_replace : K.lookup f_Desk_replace = some ⟨oc_Desk_replace, od_Desk_replace, .func (PySem.W.fnOf "replace" "Desk.replace" (defArgs s_Desk_replace) (defBody s_Desk_replace) (defScope s_Desk_replace) .none kV_Desk_replace dc_Desk_replace pm_Desk_replace an_Desk_replace cd_Desk_replace ct_Desk_replace), sl_Desk_replace⟩)
    (d_Desk_replace : PySem.W.codeIn K cd_Desk_replace "Desk.replace" = true)
    (k_Desk_replace : PySem.W.keepIn K (.ref f_Desk_replace) = true)
    (a_state_in : PySem.W.nsIn K mainGlobals "state_in" = some (some (.ref f_state_in)))
    (l_state_in : K.lookup f_state_in = some ⟨oc_state_in, od_state_in, .func (PySem.W.fnOf "state_in" "state_in" (defArgs s_state_in) (defBody s_state_in) (defScope s_state_in) .none kV_state_in dc_state_in pm_state_in an_state_in cd_state_in ct_state_in), sl_state_in⟩)
    (d_state_in : PySem.W.codeIn K cd_state_in "state_in" = true)
    (k_state_in : PySem.W.keepIn K (.ref f_state_in) = true)
    (a_with_length : PySem.W.nsIn K mainGlobals "with_length" = some (some (.ref f_with_length)))
    (l_with_length : K.lookup f_with_length = some ⟨oc_with_length, od_with_length, .func (PySem.W.fnOf "with_length" "with_length" (defArgs s_with_length) (defBody s_with_length) (defScope s_with_length) .none kV_with_length dc_with_length pm_with_length an_with_length cd_with_length ct_with_length), sl_with_length⟩)
    (d_with_length : PySem.W.codeIn K cd_with_length "with_length" = true)
    (k_with_length : PySem.W.keepIn K (.ref f_with_length) = true)
    (a_new : PySem.W.nsIn K mainGlobals "new" = some (some (.ref f_new)))
    (l_new : K.lookup f_new = some ⟨oc_new, od_new, .func (PySem.W.fnOf "new" "new" (defArgs s_new) (defBody s_new) (defScope s_new) .none kV_new dc_new pm_new an_new cd_new ct_new), sl_new⟩)
    (d_new : PySem.W.codeIn K cd_new "new" = true)
    (k_new : PySem.W.keepIn K (.ref f_new) = true)
    (a_run : PySem.W.nsIn K mainGlobals "run" = some (some (.ref f_run)))
    (l_run : K.lookup f_run = some ⟨oc_run, od_run, .func (PySem.W.fnOf "run" "run" (defArgs s_run) (defBody s_run) (defScope s_run) .none kV_run dc_run pm_run an_run cd_run ct_run), sl_run⟩)
    (d_run : PySem.W.codeIn K cd_run "run" = true)
    (k_run : PySem.W.keepIn K (.ref f_run) = true)
    (a_save : PySem.W.nsIn K mainGlobals "save" = some (some (.ref f_save)))
    (l_save : K.lookup f_save = some ⟨oc_save, od_save, .func (PySem.W.fnOf "save" "save" (defArgs s_save) (defBody s_save) (defScope s_save) .none kV_save dc_save pm_save an_save cd_save ct_save), sl_save⟩)
    (d_save : PySem.W.codeIn K cd_save "save" = true)
    (k_save : PySem.W.keepIn K (.ref f_save) = true)
    (a_load : PySem.W.nsIn K mainGlobals "load" = some (some (.ref f_load)))
    (l_load : K.lookup f_load = some ⟨oc_load, od_load, .func (PySem.W.fnOf "load" "load" (defArgs s_load) (defBody s_load) (defScope s_load) .none kV_load dc_load pm_load an_load cd_load ct_load), sl_load⟩)
    (d_load : PySem.W.codeIn K cd_load "load" = true)
    (k_load : PySem.W.keepIn K (.ref f_load) = true)
    (a_turn_form : PySem.W.nsIn K mainGlobals "turn_form" = some (some (.ref f_turn_form)))
    (l_turn_form : K.lookup f_turn_form = some ⟨oc_turn_form, od_turn_form, .func (PySem.W.fnOf "turn_form" "turn_form" (defArgs s_turn_form) (defBody s_turn_form) (defScope s_turn_form) .none kV_turn_form dc_turn_form pm_turn_form an_turn_form cd_turn_form ct_turn_form), sl_turn_form⟩)
    (d_turn_form : PySem.W.codeIn K cd_turn_form "turn_form" = true)
    (k_turn_form : PySem.W.keepIn K (.ref f_turn_form) = true)
    (a_peek : PySem.W.nsIn K mainGlobals "peek" = some (some (.ref f_peek)))
    (l_peek : K.lookup f_peek = some ⟨oc_peek, od_peek, .func (PySem.W.fnOf "peek" "peek" (defArgs s_peek) (defBody s_peek) (defScope s_peek) .none kV_peek dc_peek pm_peek an_peek cd_peek ct_peek), sl_peek⟩)
    (d_peek : PySem.W.codeIn K cd_peek "peek" = true)
    (k_peek : PySem.W.keepIn K (.ref f_peek) = true)
    (a_copied : PySem.W.nsIn K mainGlobals "copied" = some (some (.ref f_copied)))
    (l_copied : K.lookup f_copied = some ⟨oc_copied, od_copied, .func (PySem.W.fnOf "copied" "copied" (defArgs s_copied) (defBody s_copied) (defScope s_copied) .none kV_copied dc_copied pm_copied an_copied cd_copied ct_copied), sl_copied⟩)
    (d_copied : PySem.W.codeIn K cd_copied "copied" = true)
    (k_copied : PySem.W.keepIn K (.ref f_copied) = true)
    (a_poke : PySem.W.nsIn K mainGlobals "poke" = some (some (.ref f_poke)))
    (l_poke : K.lookup f_poke = some ⟨oc_poke, od_poke, .func (PySem.W.fnOf "poke" "poke" (defArgs s_poke) (defBody s_poke) (defScope s_poke) .none kV_poke dc_poke pm_poke an_poke cd_poke ct_poke), sl_poke⟩)
    (d_poke : PySem.W.codeIn K cd_poke "poke" = true)
    (k_poke : PySem.W.keepIn K (.ref f_poke) = true)
    (a_differ : PySem.W.nsIn K mainGlobals "differ" = some (some (.ref f_differ)))
    (l_differ : K.lookup f_differ = some ⟨oc_differ, od_differ, .func (PySem.W.fnOf "differ" "differ" (defArgs s_differ) (defBody s_differ) (defScope s_differ) .none kV_differ dc_differ pm_differ an_differ cd_differ ct_differ), sl_differ⟩)
    (d_differ : PySem.W.codeIn K cd_differ "differ" = true)
    (k_differ : PySem.W.keepIn K (.ref f_differ) = true)
    (a_answer : PySem.W.nsIn K mainGlobals "answer" = some (some (.ref f_answer)))
    (l_answer : K.lookup f_answer = some ⟨oc_answer, od_answer, .func (PySem.W.fnOf "answer" "answer" (defArgs s_answer) (defBody s_answer) (defScope s_answer) .none kV_answer dc_answer pm_answer an_answer cd_answer ct_answer), sl_answer⟩)
    (d_answer : PySem.W.codeIn K cd_answer "answer" = true)
    (k_answer : PySem.W.keepIn K (.ref f_answer) = true)
    (a_answers : PySem.W.nsIn K mainGlobals "answers" = some (some (.ref f_answers)))
    (l_answers : K.lookup f_answers = some ⟨oc_answers, od_answers, .func (PySem.W.fnOf "answers" "answers" (defArgs s_answers) (defBody s_answers) (defScope s_answers) .none kV_answers dc_answers pm_answers an_answers cd_answers ct_answers), sl_answers⟩)
    (d_answers : PySem.W.codeIn K cd_answers "answers" = true)
    (k_answers : PySem.W.keepIn K (.ref f_answers) = true)
    (l_MACHINES : K.lookup aMACHINES = some { cls := .type "tuple", data := .seq #[.int 3 q_MACHINES_0, .int 7 q_MACHINES_1, .int 231 q_MACHINES_2] })
    (l_WEIGHTS : K.lookup aWEIGHTS = some { cls := .type "tuple", data := .seq #[.int 1 q_WEIGHTS_0, .int 2 q_WEIGHTS_1, .int 4 q_WEIGHTS_2, .int 32 q_WEIGHTS_3, .int 64 q_WEIGHTS_4, .int 128 q_WEIGHTS_5] })
    (l_MORE : K.lookup aMORE = some { cls := .type "tuple", data := .seq #[.int 4 q_MORE_0, .int 32 q_MORE_1, .int 64 q_MORE_2, .int 128 q_MORE_3] })
    (l_HEAD : K.lookup aHEAD = some { cls := .type "list", data := .seq #[.int 127 q_HEAD_0, .int 3 q_HEAD_1, .int 0 q_HEAD_2, .int 0 q_HEAD_3] })
    (l_MARKS : K.lookup aMARKS = some { cls := .type "list", data := .seq #[.int 128 q_MARKS_0, .int 31 q_MARKS_1, .int 0 q_MARKS_2, .int 0 q_MARKS_3, .int 255 q_MARKS_4, .int 255 q_MARKS_5, .int 0 q_MARKS_6, .int 0 q_MARKS_7] })
    (l_BOUNDS : K.lookup aBOUNDS = some { cls := .type "tuple", data := .seq #[.ref b_0, .ref b_1, .ref b_2, .ref b_3, .ref b_4, .ref b_5, .ref b_6, .ref b_7, .ref b_8, .ref b_9, .ref b_10, .ref b_11, .ref b_12, .ref b_13, .ref b_14, .ref b_15, .ref b_16, .ref b_17, .ref b_18, .ref b_19, .ref b_20, .ref b_21, .ref b_22, .ref b_23] })
    (l_b_0 : K.lookup b_0 = some { cls := .type "tuple", data := .seq #[.int 32 y_0_0, .int 32 y_0_1, .int 32 y_0_2, .bool false, .bool false] })
    (l_b_1 : K.lookup b_1 = some { cls := .type "tuple", data := .seq #[.int 32 y_1_0, .int 32 y_1_1, .int 32 y_1_2, .bool false, .bool false] })
    (l_b_2 : K.lookup b_2 = some { cls := .type "tuple", data := .seq #[.int 32 y_2_0, .int 32 y_2_1, .int 32 y_2_2, .bool false, .bool false] })
    (l_b_3 : K.lookup b_3 = some { cls := .type "tuple", data := .seq #[.int 32 y_3_0, .int 32 y_3_1, .int 32 y_3_2, .bool false, .bool false] })
    (l_b_4 : K.lookup b_4 = some { cls := .type "tuple", data := .seq #[.int 32 y_4_0, .int 32 y_4_1, .int 32 y_4_2, .bool false, .bool false] })
    (l_b_5 : K.lookup b_5 = some { cls := .type "tuple", data := .seq #[.int 32 y_5_0, .int 32 y_5_1, .int 32 y_5_2, .bool false, .bool false] })
    (l_b_6 : K.lookup b_6 = some { cls := .type "tuple", data := .seq #[.int 32 y_6_0, .int 32 y_6_1, .int 32 y_6_2, .bool false, .bool false] })
    (l_b_7 : K.lookup b_7 = some { cls := .type "tuple", data := .seq #[.int 32 y_7_0, .int 32 y_7_1, .int 32 y_7_2, .bool false, .bool false] })
    (l_b_8 : K.lookup b_8 = some { cls := .type "tuple", data := .seq #[.int 32 y_8_0, .int 32 y_8_1, .int 64 y_8_2, .bool false, .bool false] })
    (l_b_9 : K.lookup b_9 = some { cls := .type "tuple", data := .seq #[.int 32 y_9_0, .int 32 y_9_1, .int 64 y_9_2, .bool false, .bool false] })
    (l_b_10 : K.lookup b_10 = some { cls := .type "tuple", data := .seq #[.int 32 y_10_0, .int 32 y_10_1, .int 64 y_10_2, .bool false, .bool false] })
    (l_b_11 : K.lookup b_11 = some { cls := .type "tuple", data := .seq #[.int 32 y_11_0, .int 32 y_11_1, .int 8 y_11_2, .bool false, .bool false] })
    (l_b_12 : K.lookup b_12 = some { cls := .type "tuple", data := .seq #[.int 32 y_12_0, .int 8 y_12_1, .int 1 y_12_2, .bool false, .bool false] })
    (l_b_13 : K.lookup b_13 = some { cls := .type "tuple", data := .seq #[.int 32 y_13_0, .int 8 y_13_1, .int 1 y_13_2, .bool false, .bool false] })
    (l_b_14 : K.lookup b_14 = some { cls := .type "tuple", data := .seq #[.int 8 y_14_0, .int 32 y_14_1, .int 1 y_14_2, .bool false, .bool true] })
    (l_b_15 : K.lookup b_15 = some { cls := .type "tuple", data := .seq #[.int 8 y_15_0, .int 8 y_15_1, .int 8 y_15_2, .bool true, .bool true] })
    (l_b_16 : K.lookup b_16 = some { cls := .type "tuple", data := .seq #[.int 8 y_16_0, .int 8 y_16_1, .int 8 y_16_2, .bool true, .bool true] })
    (l_b_17 : K.lookup b_17 = some { cls := .type "tuple", data := .seq #[.int 8 y_17_0, .int 32 y_17_1, .int 32 y_17_2, .bool false, .bool true] })
    (l_b_18 : K.lookup b_18 = some { cls := .type "tuple", data := .seq #[.int 8 y_18_0, .int 8 y_18_1, .int 8 y_18_2, .bool true, .bool true] })
    (l_b_19 : K.lookup b_19 = some { cls := .type "tuple", data := .seq #[.int 8 y_19_0, .int 8 y_19_1, .int 8 y_19_2, .bool true, .bool true] })
    (l_b_20 : K.lookup b_20 = some { cls := .type "tuple", data := .seq #[.int 8 y_20_0, .int 8 y_20_1, .int 1 y_20_2, .bool false, .bool true] })
    (l_b_21 : K.lookup b_21 = some { cls := .type "tuple", data := .seq #[.int 8 y_21_0, .int 8 y_21_1, .int 1 y_21_2, .bool true, .bool true] })
    (l_b_22 : K.lookup b_22 = some { cls := .type "tuple", data := .seq #[.int 8 y_22_0, .int 8 y_22_1, .int 1 y_22_2, .bool true, .bool true] })
    (l_b_23 : K.lookup b_23 = some { cls := .type "tuple", data := .seq #[.int 8 y_23_0, .int 256 y_23_1, .int 1 y_23_2, .bool true, .bool true] })
    (l_CALLS : K.lookup aCALLS = some { cls := .type "tuple", data := .seq #[.ref f_new, .ref f_run, .ref f_save, .ref f_load, .ref f_turn_form, .ref f_peek, .ref f_poke, .ref f_differ] })
    (l_SIZES : K.lookup aSIZES = some { cls := .type "dict", data := .dict #[⟨576, .int 576 zt1, .int 3 zu1⟩, ⟨832, .int 832 zt2, .int 7 zu2⟩, ⟨2688, .int 2688 zt3, .int 231 zu3⟩] zn })
    (ne_SIZES : (aSIZES == sysModules) = false)
    (aR : PySem.W.nsIn K mainGlobals "Refusal" = some (some (.ref cRef)))
    (xR : K.lookup cRef = some (excClassObj nmR qR cRef NR bsR [.type "ValueError", .type "Exception", .type "BaseException", .type "object"] true snR subR abR colR ddR m0R m1R m2R m3R m5R "ValueError.__new__"))
    (saR : PySem.W.findIn K (.ref cRef) "__setattr__" = some (some (.builtin "object.__setattr__")))
    (gaR : PySem.W.findIn K (.ref cRef) "__getattribute__" = some (some (.builtin "BaseException.__getattribute__")))
    (ggR : PySem.W.findIn K (.ref cRef) "__getattr__" = some none)
    (nbR : PySem.W.findIn K (.ref cRef) "code" = some none)
    (iR : PySem.W.findIn K (.ref cRef) "__init__" = some (some (.ref fRef)))
    (tR : PySem.W.typeIn K (.ref fRef) = some (.type "function"))
    (lR : K.lookup fRef = some ⟨ocR, odR, .func (PySem.W.fnOf "__init__" "Refusal.__init__" (PySem.RefX.iA ⟨341, 17, 341, 21⟩ ⟨341, 23, 341, 27⟩) (PySem.RefX.iB ⟨342, 8, 342, 12⟩ ⟨342, 8, 342, 17⟩ ⟨342, 20, 342, 24⟩ ⟨342, 8, 342, 24⟩) PySem.RefX.iS .none .none dcR pmR anR cdR ctR), slR⟩)
    (dR : PySem.W.codeIn K cdR "Refusal.__init__" = true)
    (kR : PySem.W.keepIn K (.ref cRef) = true)
    (eR : PySem.W.subIn K (.ref cRef) (.type "BaseException") = some true)
    (yR : PySem.W.typeIn K (.ref cRef) = some (.type "type"))
    (hR : PySem.W.hasDictIn K cRef = true)
    (cR : PySem.W.isClsIn K cRef = true)
    (sR : PySem.W.subIn K (.ref cRef) (.ref cRef) = some true)
    : ∃ fd : FuncData, (∀ (s : Shared) (us : List Value), us.length = (["calls"] : List Str).length → BindsTo s fd ⟨us, []⟩ ((["calls"] : List Str).zip us)) ∧ ∀ base : Heap, K.In base → base.Ns mainGlobals mg → FnOk P w K mg base CX0 11 fa fd ["calls"] (spAns K) := by
  have e := hfa.symm.trans (PySem.W.mg_of X G a_answers)
  cases e
  have F_State___init__ := fun_mk (st := s_State___init__) l_State___init__ d_State___init__ k_State___init__
  have B_State___init__ := F_State___init__.binds (ps := ["self"]) fun _ _ _ _ _ _ us hl => match us, hl with | [_], _ => rfl
  have F_State_part := fun_mk (st := s_State_part) l_State_part d_State_part k_State_part
  have B_State_part := F_State_part.binds (ps := ["self", "weight"]) fun _ _ _ _ _ _ us hl => match us, hl with | [_, _], _ => rfl
  have F_State_set_part := fun_mk (st := s_State_set_part) l_State_set_part d_State_set_part k_State_set_part
  have B_State_set_part := F_State_set_part.binds (ps := ["self", "weight", "numbers"]) fun _ _ _ _ _ _ us hl => match us, hl with | [_, _, _], _ => rfl
  have F_State_used := fun_mk (st := s_State_used) l_State_used d_State_used k_State_used
  have B_State_used := F_State_used.binds (ps := ["self"]) fun _ _ _ _ _ _ us hl => match us, hl with | [_], _ => rfl
  have F_joined := fun_mk (st := s_joined) l_joined d_joined k_joined
  have B_joined := F_joined.binds (ps := ["rows"]) fun _ _ _ _ _ _ us hl => match us, hl with | [_], _ => rfl
  have F_lanes_of := fun_mk (st := s_lanes_of) l_lanes_of d_lanes_of k_lanes_of
  have B_lanes_of := F_lanes_of.binds (ps := ["weight"]) fun _ _ _ _ _ _ us hl => match us, hl with | [_], _ => rfl
  have F_number_count := fun_mk (st := s_number_count) l_number_count d_number_count k_number_count
  have B_number_count := F_number_count.binds (ps := ["weight"]) fun _ _ _ _ _ _ us hl => match us, hl with | [_], _ => rfl
  have F_has_all := fun_mk (st := s_has_all) l_has_all d_has_all k_has_all
  have B_has_all := F_has_all.binds (ps := ["components", "used"]) fun _ _ _ _ _ _ us hl => match us, hl with | [_, _], _ => rfl
  have F_number_row := fun_mk (st := s_number_row) l_number_row d_number_row k_number_row
  have B_number_row := F_number_row.binds (ps := ["number"]) fun _ _ _ _ _ _ us hl => match us, hl with | [_], _ => rfl
  have F_rows_of := fun_mk (st := s_rows_of) l_rows_of d_rows_of k_rows_of
  have B_rows_of := F_rows_of.binds (ps := ["numbers"]) fun _ _ _ _ _ _ us hl => match us, hl with | [_], _ => rfl
  have F_number_in := fun_mk (st := s_number_in) l_number_in d_number_in k_number_in
  have B_number_in := F_number_in.binds (ps := ["row"]) fun _ _ _ _ _ _ us hl => match us, hl with | [_], _ => rfl
  have F_numbers_in := fun_mk (st := s_numbers_in) l_numbers_in d_numbers_in k_numbers_in
  have B_numbers_in := F_numbers_in.binds (ps := ["row"]) fun _ _ _ _ _ _ us hl => match us, hl with | [_], _ => rfl
  have F_head_of := fun_mk (st := s_head_of) l_head_of d_head_of k_head_of
  have B_head_of := F_head_of.binds (ps := ["state", "form"]) fun _ _ _ _ _ _ us hl => match us, hl with | [_, _], _ => rfl
  have F_long_form := fun_mk (st := s_long_form) l_long_form d_long_form k_long_form
  have B_long_form := F_long_form.binds (ps := ["state", "components"]) fun _ _ _ _ _ _ us hl => match us, hl with | [_, _], _ => rfl
  have F_short_form := fun_mk (st := s_short_form) l_short_form d_short_form k_short_form
  have B_short_form := F_short_form.binds (ps := ["state"]) fun _ _ _ _ _ _ us hl => match us, hl with | [_], _ => rfl
  have F_form_of := fun_mk (st := s_form_of) l_form_of d_form_of k_form_of
  have B_form_of := F_form_of.binds (ps := ["state", "form", "components"]) fun _ _ _ _ _ _ us hl => match us, hl with | [_, _, _], _ => rfl
  have F_read_part := fun_mk (st := s_read_part) l_read_part d_read_part k_read_part
  have B_read_part := F_read_part.binds (ps := ["state", "row", "at", "weight"]) fun _ _ _ _ _ _ us hl => match us, hl with | [_, _, _, _], _ => rfl
  have F_read_head := fun_mk (st := s_read_head) l_read_head d_read_head k_read_head
  have B_read_head := F_read_head.binds (ps := ["row"]) fun _ _ _ _ _ _ us hl => match us, hl with | [_], _ => rfl
  have F_read_long := fun_mk (st := s_read_long) l_read_long d_read_long k_read_long
  have B_read_long := F_read_long.binds (ps := ["row"]) fun _ _ _ _ _ _ us hl => match us, hl with | [_], _ => rfl
  have F_read_short := fun_mk (st := s_read_short) l_read_short d_read_short k_read_short
  have B_read_short := F_read_short.binds (ps := ["row", "used"]) fun _ _ _ _ _ _ us hl => match us, hl with | [_, _], _ => rfl
  have F_state_of := fun_mk (st := s_state_of) l_state_of d_state_of k_state_of
  have B_state_of := F_state_of.binds (ps := ["row"]) fun _ _ _ _ _ _ us hl => match us, hl with | [_], _ => rfl
  have F_Instruction___init__ := fun_mk (st := s_Instruction___init__) l_Instruction___init__ d_Instruction___init__ k_Instruction___init__
  have B_Instruction___init__ := F_Instruction___init__.binds (ps := ["self", "row"]) fun _ _ _ _ _ _ us hl => match us, hl with | [_, _], _ => rfl
  have F_Instruction_vectors_met := fun_mk (st := s_Instruction_vectors_met) l_Instruction_vectors_met d_Instruction_vectors_met k_Instruction_vectors_met
  have B_Instruction_vectors_met := F_Instruction_vectors_met.binds (ps := ["self"]) fun _ _ _ _ _ _ us hl => match us, hl with | [_], _ => rfl
  have F_Instruction_least_machine := fun_mk (st := s_Instruction_least_machine) l_Instruction_least_machine d_Instruction_least_machine k_Instruction_least_machine
  have B_Instruction_least_machine := F_Instruction_least_machine.binds (ps := ["self"]) fun _ _ _ _ _ _ us hl => match us, hl with | [_], _ => rfl
  have F_lane_count := fun_mk (st := s_lane_count) l_lane_count d_lane_count k_lane_count
  have B_lane_count := F_lane_count.binds (ps := ["width"]) fun _ _ _ _ _ _ us hl => match us, hl with | [_], _ => rfl
  have F_is_instruction := fun_mk (st := s_is_instruction) l_is_instruction d_is_instruction k_is_instruction
  have B_is_instruction := F_is_instruction.binds (ps := ["row", "place"]) fun _ _ _ _ _ _ us hl => match us, hl with | [_, _], _ => rfl
  have F_instruction_rows := fun_mk (st := s_instruction_rows) l_instruction_rows d_instruction_rows k_instruction_rows
  have B_instruction_rows := F_instruction_rows.binds (ps := ["code"]) fun _ _ _ _ _ _ us hl => match us, hl with | [_], _ => rfl
  have F_powers := fun_mk (st := s_powers) l_powers d_powers k_powers
  have B_powers := F_powers.binds (ps := []) fun _ _ _ _ _ _ us hl => match us, hl with | [], _ => rfl
  have F_paired := fun_mk (st := s_paired) l_paired d_paired k_paired
  have B_paired := F_paired.binds (ps := ["kind", "ones", "others"]) fun _ _ _ _ _ _ us hl => match us, hl with | [_, _, _], _ => rfl
  have F_Runner___init__ := fun_mk (st := s_Runner___init__) l_Runner___init__ d_Runner___init__ k_Runner___init__
  have B_Runner___init__ := F_Runner___init__.binds (ps := ["self", "state"]) fun _ _ _ _ _ _ us hl => match us, hl with | [_, _], _ => rfl
  have F_Runner_shifted := fun_mk (st := s_Runner_shifted) l_Runner_shifted d_Runner_shifted k_Runner_shifted
  have B_Runner_shifted := F_Runner_shifted.binds (ps := ["self", "kind", "ones", "by"]) fun _ _ _ _ _ _ us hl => match us, hl with | [_, _, _, _], _ => rfl
  have F_Runner_lanes_made := fun_mk (st := s_Runner_lanes_made) l_Runner_lanes_made d_Runner_lanes_made k_Runner_lanes_made
  have B_Runner_lanes_made := F_Runner_lanes_made.binds (ps := ["self", "one"]) fun _ _ _ _ _ _ us hl => match us, hl with | [_, _], _ => rfl
  have F_Runner_write := fun_mk (st := s_Runner_write) l_Runner_write d_Runner_write k_Runner_write
  have B_Runner_write := F_Runner_write.binds (ps := ["self", "one", "lanes"]) fun _ _ _ _ _ _ us hl => match us, hl with | [_, _, _], _ => rfl
  have F_Runner_bits_less := fun_mk (st := s_Runner_bits_less) l_Runner_bits_less d_Runner_bits_less k_Runner_bits_less
  have B_Runner_bits_less := F_Runner_bits_less.binds (ps := ["self", "one"]) fun _ _ _ _ _ _ us hl => match us, hl with | [_, _], _ => rfl
  have F_Runner_change := fun_mk (st := s_Runner_change) l_Runner_change d_Runner_change k_Runner_change
  have B_Runner_change := F_Runner_change.binds (ps := ["self", "one"]) fun _ _ _ _ _ _ us hl => match us, hl with | [_, _], _ => rfl
  have F_Runner_next_place := fun_mk (st := s_Runner_next_place) l_Runner_next_place d_Runner_next_place k_Runner_next_place
  have B_Runner_next_place := F_Runner_next_place.binds (ps := ["self", "one", "place"]) fun _ _ _ _ _ _ us hl => match us, hl with | [_, _, _], _ => rfl
  have F_Runner_step := fun_mk (st := s_Runner_step) l_Runner_step d_Runner_step k_Runner_step
  have B_Runner_step := F_Runner_step.binds (ps := ["self", "one", "place"]) fun _ _ _ _ _ _ us hl => match us, hl with | [_, _, _], _ => rfl
  have F_Runner_run := fun_mk (st := s_Runner_run) l_Runner_run d_Runner_run k_Runner_run
  have B_Runner_run := F_Runner_run.binds (ps := ["self", "code", "place", "most"]) fun _ _ _ _ _ _ us hl => match us, hl with | [_, _, _, _], _ => rfl
  have F_need := fun_mk (st := s_need) l_need d_need k_need
  have B_need := F_need.binds (ps := ["holds", "code"]) fun _ _ _ _ _ _ us hl => match us, hl with | [_, _], _ => rfl
  have F_Desk___init__ := fun_mk (st := s_Desk___init__) l_Desk___init__ d_Desk___init__ k_Desk___init__
  have B_Desk___init__ := F_Desk___init__.binds (ps := ["self"]) fun _ _ _ _ _ _ us hl => match us, hl with | [_], _ => rfl
  have F_Desk_replace := fun_mk (st := s_Desk_replace) l_Desk_replace d_Desk_replace k_Desk_replace
  have B_Desk_replace := F_Desk_replace.binds (ps := ["self", "components", "state"]) fun _ _ _ _ _ _ us hl => match us, hl with | [_, _, _], _ => rfl
  have F_state_in := fun_mk (st := s_state_in) l_state_in d_state_in k_state_in
  have B_state_in := F_state_in.binds (ps := ["many", "row"]) fun _ _ _ _ _ _ us hl => match us, hl with | [_, _], _ => rfl
  have F_with_length := fun_mk (st := s_with_length) l_with_length d_with_length k_with_length
  have B_with_length := F_with_length.binds (ps := ["row", "room"]) fun _ _ _ _ _ _ us hl => match us, hl with | [_, _], _ => rfl
  have F_new := fun_mk (st := s_new) l_new d_new k_new
  have B_new := F_new.binds (ps := ["desk", "numbers"]) fun _ _ _ _ _ _ us hl => match us, hl with | [_, _], _ => rfl
  have F_run := fun_mk (st := s_run) l_run d_run k_run
  have B_run := F_run.binds (ps := ["desk", "numbers"]) fun _ _ _ _ _ _ us hl => match us, hl with | [_, _], _ => rfl
  have F_save := fun_mk (st := s_save) l_save d_save k_save
  have B_save := F_save.binds (ps := ["desk", "numbers"]) fun _ _ _ _ _ _ us hl => match us, hl with | [_, _], _ => rfl
  have F_load := fun_mk (st := s_load) l_load d_load k_load
  have B_load := F_load.binds (ps := ["desk", "numbers"]) fun _ _ _ _ _ _ us hl => match us, hl with | [_, _], _ => rfl
  have F_turn_form := fun_mk (st := s_turn_form) l_turn_form d_turn_form k_turn_form
  have B_turn_form := F_turn_form.binds (ps := ["desk", "numbers"]) fun _ _ _ _ _ _ us hl => match us, hl with | [_, _], _ => rfl
  have F_peek := fun_mk (st := s_peek) l_peek d_peek k_peek
  have B_peek := F_peek.binds (ps := ["desk", "numbers"]) fun _ _ _ _ _ _ us hl => match us, hl with | [_, _], _ => rfl
  have F_copied := fun_mk (st := s_copied) l_copied d_copied k_copied
  have B_copied := F_copied.binds (ps := ["state"]) fun _ _ _ _ _ _ us hl => match us, hl with | [_], _ => rfl
  have F_poke := fun_mk (st := s_poke) l_poke d_poke k_poke
  have B_poke := F_poke.binds (ps := ["desk", "numbers"]) fun _ _ _ _ _ _ us hl => match us, hl with | [_, _], _ => rfl
  have F_differ := fun_mk (st := s_differ) l_differ d_differ k_differ
  have B_differ := F_differ.binds (ps := ["desk", "numbers"]) fun _ _ _ _ _ _ us hl => match us, hl with | [_, _], _ => rfl
  have F_answer := fun_mk (st := s_answer) l_answer d_answer k_answer
  have B_answer := F_answer.binds (ps := ["desk", "deed", "numbers"]) fun _ _ _ _ _ _ us hl => match us, hl with | [_, _, _], _ => rfl
  have F_answers := fun_mk (st := s_answers) l_answers d_answers k_answers
  have B_answers := F_answers.binds (ps := ["calls"]) fun _ _ _ _ _ _ us hl => match us, hl with | [_], _ => rfl
  let A : Ad := { cState := cState, cInstruction := cInstruction, cRunner := cRunner, cDesk := cDesk, cRefusal := cRef, iRef := fRef, aMACHINES := aMACHINES, aWEIGHTS := aWEIGHTS, aHEAD := aHEAD, aMARKS := aMARKS, aSIZES := aSIZES, aMORE := aMORE, aBOUNDS := aBOUNDS, aCALLS := aCALLS, bs := [b_0, b_1, b_2, b_3, b_4, b_5, b_6, b_7, b_8, b_9, b_10, b_11, b_12, b_13, b_14, b_15, b_16, b_17, b_18, b_19, b_20, b_21, b_22, b_23], fs := [f_new, f_run, f_save, f_load, f_turn_form, f_peek, f_poke, f_differ] }
  have tb : ∀ (i : Nat) (r : Nat × Nat × Nat × Bool × Bool), bounds[i]? = some r → ∃ b, A.bs[i]? = some b ∧ ∀ H, SqT K H b (boundsV r) := fun i r h => match i, h with
    | 0, h => by
      have e : ((32, 32, 32, false, false) : Nat × Nat × Nat × Bool × Bool) = r := Option.some.inj h
      subst e
      exact ⟨b_0, rfl, fun _ => .inr ⟨_, _, _, l_b_0, rfl, rfl, (by show 5 ≤ sizeLine; decide), .cons ⟨_, rfl⟩ (.cons ⟨_, rfl⟩ (.cons ⟨_, rfl⟩ (.cons rfl (.cons rfl .nil))))⟩⟩
    | 1, h => by
      have e : ((32, 32, 32, false, false) : Nat × Nat × Nat × Bool × Bool) = r := Option.some.inj h
      subst e
      exact ⟨b_1, rfl, fun _ => .inr ⟨_, _, _, l_b_1, rfl, rfl, (by show 5 ≤ sizeLine; decide), .cons ⟨_, rfl⟩ (.cons ⟨_, rfl⟩ (.cons ⟨_, rfl⟩ (.cons rfl (.cons rfl .nil))))⟩⟩
    | 2, h => by
      have e : ((32, 32, 32, false, false) : Nat × Nat × Nat × Bool × Bool) = r := Option.some.inj h
      subst e
      exact ⟨b_2, rfl, fun _ => .inr ⟨_, _, _, l_b_2, rfl, rfl, (by show 5 ≤ sizeLine; decide), .cons ⟨_, rfl⟩ (.cons ⟨_, rfl⟩ (.cons ⟨_, rfl⟩ (.cons rfl (.cons rfl .nil))))⟩⟩
    | 3, h => by
      have e : ((32, 32, 32, false, false) : Nat × Nat × Nat × Bool × Bool) = r := Option.some.inj h
      subst e
      exact ⟨b_3, rfl, fun _ => .inr ⟨_, _, _, l_b_3, rfl, rfl, (by show 5 ≤ sizeLine; decide), .cons ⟨_, rfl⟩ (.cons ⟨_, rfl⟩ (.cons ⟨_, rfl⟩ (.cons rfl (.cons rfl .nil))))⟩⟩
    | 4, h => by
      have e : ((32, 32, 32, false, false) : Nat × Nat × Nat × Bool × Bool) = r := Option.some.inj h
      subst e
      exact ⟨b_4, rfl, fun _ => .inr ⟨_, _, _, l_b_4, rfl, rfl, (by show 5 ≤ sizeLine; decide), .cons ⟨_, rfl⟩ (.cons ⟨_, rfl⟩ (.cons ⟨_, rfl⟩ (.cons rfl (.cons rfl .nil))))⟩⟩
    | 5, h => by
      have e : ((32, 32, 32, false, false) : Nat × Nat × Nat × Bool × Bool) = r := Option.some.inj h
      subst e
      exact ⟨b_5, rfl, fun _ => .inr ⟨_, _, _, l_b_5, rfl, rfl, (by show 5 ≤ sizeLine; decide), .cons ⟨_, rfl⟩ (.cons ⟨_, rfl⟩ (.cons ⟨_, rfl⟩ (.cons rfl (.cons rfl .nil))))⟩⟩
    | 6, h => by
      have e : ((32, 32, 32, false, false) : Nat × Nat × Nat × Bool × Bool) = r := Option.some.inj h
      subst e
      exact ⟨b_6, rfl, fun _ => .inr ⟨_, _, _, l_b_6, rfl, rfl, (by show 5 ≤ sizeLine; decide), .cons ⟨_, rfl⟩ (.cons ⟨_, rfl⟩ (.cons ⟨_, rfl⟩ (.cons rfl (.cons rfl .nil))))⟩⟩
    | 7, h => by
      have e : ((32, 32, 32, false, false) : Nat × Nat × Nat × Bool × Bool) = r := Option.some.inj h
      subst e
      exact ⟨b_7, rfl, fun _ => .inr ⟨_, _, _, l_b_7, rfl, rfl, (by show 5 ≤ sizeLine; decide), .cons ⟨_, rfl⟩ (.cons ⟨_, rfl⟩ (.cons ⟨_, rfl⟩ (.cons rfl (.cons rfl .nil))))⟩⟩
    | 8, h => by
      have e : ((32, 32, 64, false, false) : Nat × Nat × Nat × Bool × Bool) = r := Option.some.inj h
      subst e
      exact ⟨b_8, rfl, fun _ => .inr ⟨_, _, _, l_b_8, rfl, rfl, (by show 5 ≤ sizeLine; decide), .cons ⟨_, rfl⟩ (.cons ⟨_, rfl⟩ (.cons ⟨_, rfl⟩ (.cons rfl (.cons rfl .nil))))⟩⟩
    | 9, h => by
      have e : ((32, 32, 64, false, false) : Nat × Nat × Nat × Bool × Bool) = r := Option.some.inj h
      subst e
      exact ⟨b_9, rfl, fun _ => .inr ⟨_, _, _, l_b_9, rfl, rfl, (by show 5 ≤ sizeLine; decide), .cons ⟨_, rfl⟩ (.cons ⟨_, rfl⟩ (.cons ⟨_, rfl⟩ (.cons rfl (.cons rfl .nil))))⟩⟩
    | 10, h => by
      have e : ((32, 32, 64, false, false) : Nat × Nat × Nat × Bool × Bool) = r := Option.some.inj h
      subst e
      exact ⟨b_10, rfl, fun _ => .inr ⟨_, _, _, l_b_10, rfl, rfl, (by show 5 ≤ sizeLine; decide), .cons ⟨_, rfl⟩ (.cons ⟨_, rfl⟩ (.cons ⟨_, rfl⟩ (.cons rfl (.cons rfl .nil))))⟩⟩
    | 11, h => by
      have e : ((32, 32, 8, false, false) : Nat × Nat × Nat × Bool × Bool) = r := Option.some.inj h
      subst e
      exact ⟨b_11, rfl, fun _ => .inr ⟨_, _, _, l_b_11, rfl, rfl, (by show 5 ≤ sizeLine; decide), .cons ⟨_, rfl⟩ (.cons ⟨_, rfl⟩ (.cons ⟨_, rfl⟩ (.cons rfl (.cons rfl .nil))))⟩⟩
    | 12, h => by
      have e : ((32, 8, 1, false, false) : Nat × Nat × Nat × Bool × Bool) = r := Option.some.inj h
      subst e
      exact ⟨b_12, rfl, fun _ => .inr ⟨_, _, _, l_b_12, rfl, rfl, (by show 5 ≤ sizeLine; decide), .cons ⟨_, rfl⟩ (.cons ⟨_, rfl⟩ (.cons ⟨_, rfl⟩ (.cons rfl (.cons rfl .nil))))⟩⟩
    | 13, h => by
      have e : ((32, 8, 1, false, false) : Nat × Nat × Nat × Bool × Bool) = r := Option.some.inj h
      subst e
      exact ⟨b_13, rfl, fun _ => .inr ⟨_, _, _, l_b_13, rfl, rfl, (by show 5 ≤ sizeLine; decide), .cons ⟨_, rfl⟩ (.cons ⟨_, rfl⟩ (.cons ⟨_, rfl⟩ (.cons rfl (.cons rfl .nil))))⟩⟩
    | 14, h => by
      have e : ((8, 32, 1, false, true) : Nat × Nat × Nat × Bool × Bool) = r := Option.some.inj h
      subst e
      exact ⟨b_14, rfl, fun _ => .inr ⟨_, _, _, l_b_14, rfl, rfl, (by show 5 ≤ sizeLine; decide), .cons ⟨_, rfl⟩ (.cons ⟨_, rfl⟩ (.cons ⟨_, rfl⟩ (.cons rfl (.cons rfl .nil))))⟩⟩
    | 15, h => by
      have e : ((8, 8, 8, true, true) : Nat × Nat × Nat × Bool × Bool) = r := Option.some.inj h
      subst e
      exact ⟨b_15, rfl, fun _ => .inr ⟨_, _, _, l_b_15, rfl, rfl, (by show 5 ≤ sizeLine; decide), .cons ⟨_, rfl⟩ (.cons ⟨_, rfl⟩ (.cons ⟨_, rfl⟩ (.cons rfl (.cons rfl .nil))))⟩⟩
    | 16, h => by
      have e : ((8, 8, 8, true, true) : Nat × Nat × Nat × Bool × Bool) = r := Option.some.inj h
      subst e
      exact ⟨b_16, rfl, fun _ => .inr ⟨_, _, _, l_b_16, rfl, rfl, (by show 5 ≤ sizeLine; decide), .cons ⟨_, rfl⟩ (.cons ⟨_, rfl⟩ (.cons ⟨_, rfl⟩ (.cons rfl (.cons rfl .nil))))⟩⟩
    | 17, h => by
      have e : ((8, 32, 32, false, true) : Nat × Nat × Nat × Bool × Bool) = r := Option.some.inj h
      subst e
      exact ⟨b_17, rfl, fun _ => .inr ⟨_, _, _, l_b_17, rfl, rfl, (by show 5 ≤ sizeLine; decide), .cons ⟨_, rfl⟩ (.cons ⟨_, rfl⟩ (.cons ⟨_, rfl⟩ (.cons rfl (.cons rfl .nil))))⟩⟩
    | 18, h => by
      have e : ((8, 8, 8, true, true) : Nat × Nat × Nat × Bool × Bool) = r := Option.some.inj h
      subst e
      exact ⟨b_18, rfl, fun _ => .inr ⟨_, _, _, l_b_18, rfl, rfl, (by show 5 ≤ sizeLine; decide), .cons ⟨_, rfl⟩ (.cons ⟨_, rfl⟩ (.cons ⟨_, rfl⟩ (.cons rfl (.cons rfl .nil))))⟩⟩
    | 19, h => by
      have e : ((8, 8, 8, true, true) : Nat × Nat × Nat × Bool × Bool) = r := Option.some.inj h
      subst e
      exact ⟨b_19, rfl, fun _ => .inr ⟨_, _, _, l_b_19, rfl, rfl, (by show 5 ≤ sizeLine; decide), .cons ⟨_, rfl⟩ (.cons ⟨_, rfl⟩ (.cons ⟨_, rfl⟩ (.cons rfl (.cons rfl .nil))))⟩⟩
    | 20, h => by
      have e : ((8, 8, 1, false, true) : Nat × Nat × Nat × Bool × Bool) = r := Option.some.inj h
      subst e
      exact ⟨b_20, rfl, fun _ => .inr ⟨_, _, _, l_b_20, rfl, rfl, (by show 5 ≤ sizeLine; decide), .cons ⟨_, rfl⟩ (.cons ⟨_, rfl⟩ (.cons ⟨_, rfl⟩ (.cons rfl (.cons rfl .nil))))⟩⟩
    | 21, h => by
      have e : ((8, 8, 1, true, true) : Nat × Nat × Nat × Bool × Bool) = r := Option.some.inj h
      subst e
      exact ⟨b_21, rfl, fun _ => .inr ⟨_, _, _, l_b_21, rfl, rfl, (by show 5 ≤ sizeLine; decide), .cons ⟨_, rfl⟩ (.cons ⟨_, rfl⟩ (.cons ⟨_, rfl⟩ (.cons rfl (.cons rfl .nil))))⟩⟩
    | 22, h => by
      have e : ((8, 8, 1, true, true) : Nat × Nat × Nat × Bool × Bool) = r := Option.some.inj h
      subst e
      exact ⟨b_22, rfl, fun _ => .inr ⟨_, _, _, l_b_22, rfl, rfl, (by show 5 ≤ sizeLine; decide), .cons ⟨_, rfl⟩ (.cons ⟨_, rfl⟩ (.cons ⟨_, rfl⟩ (.cons rfl (.cons rfl .nil))))⟩⟩
    | 23, h => by
      have e : ((8, 256, 1, true, true) : Nat × Nat × Nat × Bool × Bool) = r := Option.some.inj h
      subst e
      exact ⟨b_23, rfl, fun _ => .inr ⟨_, _, _, l_b_23, rfl, rfl, (by show 5 ≤ sizeLine; decide), .cons ⟨_, rfl⟩ (.cons ⟨_, rfl⟩ (.cons ⟨_, rfl⟩ (.cons rfl (.cons rfl .nil))))⟩⟩
    | n + 24, h => by
      rw [List.getElem?_eq_none (by show 24 ≤ n + 24; omega)] at h
      cases h
  have fc : ∀ (i : Nat) (x : Str), (["new", "run", "save", "load", "turn_form", "peek", "poke", "differ"] : List Str)[i]? = some x → ∃ f, A.fs[i]? = some f ∧ mg x = some (.ref f) := fun i x h => match i, h with
    | 0, h => by
      have e : (("new" : Str)) = x := Option.some.inj h
      subst e
      exact ⟨f_new, rfl, PySem.W.mg_of X G a_new⟩
    | 1, h => by
      have e : (("run" : Str)) = x := Option.some.inj h
      subst e
      exact ⟨f_run, rfl, PySem.W.mg_of X G a_run⟩
    | 2, h => by
      have e : (("save" : Str)) = x := Option.some.inj h
      subst e
      exact ⟨f_save, rfl, PySem.W.mg_of X G a_save⟩
    | 3, h => by
      have e : (("load" : Str)) = x := Option.some.inj h
      subst e
      exact ⟨f_load, rfl, PySem.W.mg_of X G a_load⟩
    | 4, h => by
      have e : (("turn_form" : Str)) = x := Option.some.inj h
      subst e
      exact ⟨f_turn_form, rfl, PySem.W.mg_of X G a_turn_form⟩
    | 5, h => by
      have e : (("peek" : Str)) = x := Option.some.inj h
      subst e
      exact ⟨f_peek, rfl, PySem.W.mg_of X G a_peek⟩
    | 6, h => by
      have e : (("poke" : Str)) = x := Option.some.inj h
      subst e
      exact ⟨f_poke, rfl, PySem.W.mg_of X G a_poke⟩
    | 7, h => by
      have e : (("differ" : Str)) = x := Option.some.inj h
      subst e
      exact ⟨f_differ, rfl, PySem.W.mg_of X G a_differ⟩
    | n + 8, h => by
      rw [List.getElem?_eq_none (by show 8 ≤ n + 8; omega)] at h
      cases h
  have T : Txt K mg A :=
    { g_M_COUNT := ⟨_, PySem.W.mg_of X G v_M_COUNT, ⟨_, rfl⟩⟩,
      g_V_COUNT := ⟨_, PySem.W.mg_of X G v_V_COUNT, ⟨_, rfl⟩⟩,
      g_LOW_COUNT := ⟨_, PySem.W.mg_of X G v_LOW_COUNT, ⟨_, rfl⟩⟩,
      g_K_COUNT := ⟨_, PySem.W.mg_of X G v_K_COUNT, ⟨_, rfl⟩⟩,
      g_LANES := ⟨_, PySem.W.mg_of X G v_LANES, ⟨_, rfl⟩⟩,
      g_WORD_SIZE := ⟨_, PySem.W.mg_of X G v_WORD_SIZE, ⟨_, rfl⟩⟩,
      g_BASE := ⟨_, PySem.W.mg_of X G v_BASE, ⟨_, rfl⟩⟩,
      g_FULL := ⟨_, PySem.W.mg_of X G v_FULL, ⟨_, rfl⟩⟩,
      g_BASIC := ⟨_, PySem.W.mg_of X G v_BASIC, ⟨_, rfl⟩⟩,
      g_LOW_LANES := ⟨_, PySem.W.mg_of X G v_LOW_LANES, ⟨_, rfl⟩⟩,
      g_NEXT_LANES := ⟨_, PySem.W.mg_of X G v_NEXT_LANES, ⟨_, rfl⟩⟩,
      g_MASKS := ⟨_, PySem.W.mg_of X G v_MASKS, ⟨_, rfl⟩⟩,
      g_HIGH_LANES := ⟨_, PySem.W.mg_of X G v_HIGH_LANES, ⟨_, rfl⟩⟩,
      g_HIGH_VECTORS := ⟨_, PySem.W.mg_of X G v_HIGH_VECTORS, ⟨_, rfl⟩⟩,
      g_M_PLACE := ⟨_, PySem.W.mg_of X G v_M_PLACE, ⟨_, rfl⟩⟩,
      g_M_STEP := ⟨_, PySem.W.mg_of X G v_M_STEP, ⟨_, rfl⟩⟩,
      g_LOW_PLACE := ⟨_, PySem.W.mg_of X G v_LOW_PLACE, ⟨_, rfl⟩⟩,
      g_USED_PLACE := ⟨_, PySem.W.mg_of X G v_USED_PLACE, ⟨_, rfl⟩⟩,
      g_FORM_PLACE := ⟨_, PySem.W.mg_of X G v_FORM_PLACE, ⟨_, rfl⟩⟩,
      g_HEAD_SIZE := ⟨_, PySem.W.mg_of X G v_HEAD_SIZE, ⟨_, rfl⟩⟩,
      g_GAP_SIZE := ⟨_, PySem.W.mg_of X G v_GAP_SIZE, ⟨_, rfl⟩⟩,
      g_SHORT_FORM := ⟨_, PySem.W.mg_of X G v_SHORT_FORM, ⟨_, rfl⟩⟩,
      g_MOST_BYTES := ⟨_, PySem.W.mg_of X G v_MOST_BYTES, ⟨_, rfl⟩⟩,
      g_SIZE := ⟨_, PySem.W.mg_of X G v_SIZE, ⟨_, rfl⟩⟩,
      g_MOST_WIDTH := ⟨_, PySem.W.mg_of X G v_MOST_WIDTH, ⟨_, rfl⟩⟩,
      g_MOST_MASK := ⟨_, PySem.W.mg_of X G v_MOST_MASK, ⟨_, rfl⟩⟩,
      g_ROTATE := ⟨_, PySem.W.mg_of X G v_ROTATE, ⟨_, rfl⟩⟩,
      g_FILL := ⟨_, PySem.W.mg_of X G v_FILL, ⟨_, rfl⟩⟩,
      g_RISE := ⟨_, PySem.W.mg_of X G v_RISE, ⟨_, rfl⟩⟩,
      g_LANE_SUM := ⟨_, PySem.W.mg_of X G v_LANE_SUM, ⟨_, rfl⟩⟩,
      g_M_SUM := ⟨_, PySem.W.mg_of X G v_M_SUM, ⟨_, rfl⟩⟩,
      g_M_APART := ⟨_, PySem.W.mg_of X G v_M_APART, ⟨_, rfl⟩⟩,
      g_LESS := ⟨_, PySem.W.mg_of X G v_LESS, ⟨_, rfl⟩⟩,
      g_K_BOTH := ⟨_, PySem.W.mg_of X G v_K_BOTH, ⟨_, rfl⟩⟩,
      g_K_APART := ⟨_, PySem.W.mg_of X G v_K_APART, ⟨_, rfl⟩⟩,
      g_K_NOT := ⟨_, PySem.W.mg_of X G v_K_NOT, ⟨_, rfl⟩⟩,
      g_M_FROM_K := ⟨_, PySem.W.mg_of X G v_M_FROM_K, ⟨_, rfl⟩⟩,
      g_K_FROM_M := ⟨_, PySem.W.mg_of X G v_K_FROM_M, ⟨_, rfl⟩⟩,
      g_LOOP := ⟨_, PySem.W.mg_of X G v_LOOP, ⟨_, rfl⟩⟩,
      g_HALF := ⟨_, PySem.W.mg_of X G v_HALF, ⟨_, rfl⟩⟩,
      g_OUT_OF_RANGE := ⟨_, PySem.W.mg_of X G v_OUT_OF_RANGE, ⟨_, rfl⟩⟩,
      g_NONE_SUCH := ⟨_, PySem.W.mg_of X G v_NONE_SUCH, ⟨_, rfl⟩⟩,
      g_NO_COMPONENT := ⟨_, PySem.W.mg_of X G v_NO_COMPONENT, ⟨_, rfl⟩⟩,
      g_NO_ROOM := ⟨_, PySem.W.mg_of X G v_NO_ROOM, ⟨_, rfl⟩⟩,
      g_MOST_CODE := ⟨_, PySem.W.mg_of X G v_MOST_CODE, ⟨_, rfl⟩⟩,
      g_MOST_STEPS := ⟨_, PySem.W.mg_of X G v_MOST_STEPS, ⟨_, rfl⟩⟩,
      g_FIRST_M := ⟨_, PySem.W.mg_of X G v_FIRST_M, ⟨_, rfl⟩⟩,
      g_FIRST_K := ⟨_, PySem.W.mg_of X G v_FIRST_K, ⟨_, rfl⟩⟩,
      g_ALL_PLACE := ⟨_, PySem.W.mg_of X G v_ALL_PLACE, ⟨_, rfl⟩⟩,
      g_CELL_SIZE := ⟨_, PySem.W.mg_of X G v_CELL_SIZE, ⟨_, rfl⟩⟩,
      g_MACHINES := ⟨_, PySem.W.mg_of X G v_MACHINES, rfl⟩,
      g_WEIGHTS := ⟨_, PySem.W.mg_of X G v_WEIGHTS, rfl⟩,
      g_HEAD := ⟨_, PySem.W.mg_of X G v_HEAD, rfl⟩,
      g_MARKS := ⟨_, PySem.W.mg_of X G v_MARKS, rfl⟩,
      g_SIZES := ⟨_, PySem.W.mg_of X G v_SIZES, rfl⟩,
      g_MORE := ⟨_, PySem.W.mg_of X G v_MORE, rfl⟩,
      g_BOUNDS := ⟨_, PySem.W.mg_of X G v_BOUNDS, rfl⟩,
      g_CALLS := ⟨_, PySem.W.mg_of X G v_CALLS, rfl⟩,
      b_range := PySem.W.mg_none_of X G z_range,
      b_list := PySem.W.mg_none_of X G z_list,
      b_len := PySem.W.mg_none_of X G z_len,
      b_sum := PySem.W.mg_none_of X G z_sum,
      b_any := PySem.W.mg_none_of X G z_any,
      b_all := PySem.W.mg_none_of X G z_all,
      b_reversed := PySem.W.mg_none_of X G z_reversed,
      b_zip := PySem.W.mg_none_of X G z_zip,
      b_min := PySem.W.mg_none_of X G z_min,
      b_max := PySem.W.mg_none_of X G z_max,
      b_enumerate := PySem.W.mg_none_of X G z_enumerate,
      cl_State := ⟨pg_State, hd_State, po_State, sa_State⟩,
      n_State_words := n_State_words,
      n_State_vectors := n_State_vectors,
      n_State_masks := n_State_masks,
      cl_Instruction := ⟨pg_Instruction, hd_Instruction, po_Instruction, sa_Instruction⟩,
      n_Instruction_kind := n_Instruction_kind,
      n_Instruction_lanes := n_Instruction_lanes,
      n_Instruction_mask := n_Instruction_mask,
      n_Instruction_goal := n_Instruction_goal,
      n_Instruction_one := n_Instruction_one,
      n_Instruction_other := n_Instruction_other,
      cl_Runner := ⟨pg_Runner, hd_Runner, po_Runner, sa_Runner⟩,
      n_Runner_state := n_Runner_state,
      n_Runner_powers := n_Runner_powers,
      cl_Desk := ⟨pg_Desk, hd_Desk, po_Desk, sa_Desk⟩,
      n_Desk_components := n_Desk_components,
      n_Desk_state := n_Desk_state,
      D_State___init__ := ⟨_, _, F_State___init__, ⟨mk_State, a_State___init__, i_State___init__, kc_State⟩, PySem.W.mg_of X G aC_State, B_State___init__⟩,
      D_State_part := ⟨_, _, F_State_part, ⟨a_State_part, i_State_part, k_State_part⟩, B_State_part⟩,
      D_State_set_part := ⟨_, _, F_State_set_part, ⟨a_State_set_part, i_State_set_part, k_State_set_part⟩, B_State_set_part⟩,
      D_State_used := ⟨_, _, F_State_used, ⟨a_State_used, i_State_used, k_State_used⟩, B_State_used⟩,
      D_joined := ⟨_, _, F_joined, PySem.W.mg_of X G a_joined, B_joined⟩,
      D_lanes_of := ⟨_, _, F_lanes_of, PySem.W.mg_of X G a_lanes_of, B_lanes_of⟩,
      D_number_count := ⟨_, _, F_number_count, PySem.W.mg_of X G a_number_count, B_number_count⟩,
      D_has_all := ⟨_, _, F_has_all, PySem.W.mg_of X G a_has_all, B_has_all⟩,
      D_number_row := ⟨_, _, F_number_row, PySem.W.mg_of X G a_number_row, B_number_row⟩,
      D_rows_of := ⟨_, _, F_rows_of, PySem.W.mg_of X G a_rows_of, B_rows_of⟩,
      D_number_in := ⟨_, _, F_number_in, PySem.W.mg_of X G a_number_in, B_number_in⟩,
      D_numbers_in := ⟨_, _, F_numbers_in, PySem.W.mg_of X G a_numbers_in, B_numbers_in⟩,
      D_head_of := ⟨_, _, F_head_of, PySem.W.mg_of X G a_head_of, B_head_of⟩,
      D_long_form := ⟨_, _, F_long_form, PySem.W.mg_of X G a_long_form, B_long_form⟩,
      D_short_form := ⟨_, _, F_short_form, PySem.W.mg_of X G a_short_form, B_short_form⟩,
      D_form_of := ⟨_, _, F_form_of, PySem.W.mg_of X G a_form_of, B_form_of⟩,
      D_read_part := ⟨_, _, F_read_part, PySem.W.mg_of X G a_read_part, B_read_part⟩,
      D_read_head := ⟨_, _, F_read_head, PySem.W.mg_of X G a_read_head, B_read_head⟩,
      D_read_long := ⟨_, _, F_read_long, PySem.W.mg_of X G a_read_long, B_read_long⟩,
      D_read_short := ⟨_, _, F_read_short, PySem.W.mg_of X G a_read_short, B_read_short⟩,
      D_state_of := ⟨_, _, F_state_of, PySem.W.mg_of X G a_state_of, B_state_of⟩,
      D_Instruction___init__ := ⟨_, _, F_Instruction___init__, ⟨mk_Instruction, a_Instruction___init__, i_Instruction___init__, kc_Instruction⟩, PySem.W.mg_of X G aC_Instruction, B_Instruction___init__⟩,
      D_Instruction_vectors_met := ⟨_, _, F_Instruction_vectors_met, ⟨a_Instruction_vectors_met, i_Instruction_vectors_met, k_Instruction_vectors_met⟩, B_Instruction_vectors_met⟩,
      D_Instruction_least_machine := ⟨_, _, F_Instruction_least_machine, ⟨a_Instruction_least_machine, i_Instruction_least_machine, k_Instruction_least_machine⟩, B_Instruction_least_machine⟩,
      D_lane_count := ⟨_, _, F_lane_count, PySem.W.mg_of X G a_lane_count, B_lane_count⟩,
      D_is_instruction := ⟨_, _, F_is_instruction, PySem.W.mg_of X G a_is_instruction, B_is_instruction⟩,
      D_instruction_rows := ⟨_, _, F_instruction_rows, PySem.W.mg_of X G a_instruction_rows, B_instruction_rows⟩,
      D_powers := ⟨_, _, F_powers, PySem.W.mg_of X G a_powers, B_powers⟩,
      D_paired := ⟨_, _, F_paired, PySem.W.mg_of X G a_paired, B_paired⟩,
      D_Runner___init__ := ⟨_, _, F_Runner___init__, ⟨mk_Runner, a_Runner___init__, i_Runner___init__, kc_Runner⟩, PySem.W.mg_of X G aC_Runner, B_Runner___init__⟩,
      D_Runner_shifted := ⟨_, _, F_Runner_shifted, ⟨a_Runner_shifted, i_Runner_shifted, k_Runner_shifted⟩, B_Runner_shifted⟩,
      D_Runner_lanes_made := ⟨_, _, F_Runner_lanes_made, ⟨a_Runner_lanes_made, i_Runner_lanes_made, k_Runner_lanes_made⟩, B_Runner_lanes_made⟩,
      D_Runner_write := ⟨_, _, F_Runner_write, ⟨a_Runner_write, i_Runner_write, k_Runner_write⟩, B_Runner_write⟩,
      D_Runner_bits_less := ⟨_, _, F_Runner_bits_less, ⟨a_Runner_bits_less, i_Runner_bits_less, k_Runner_bits_less⟩, B_Runner_bits_less⟩,
      D_Runner_change := ⟨_, _, F_Runner_change, ⟨a_Runner_change, i_Runner_change, k_Runner_change⟩, B_Runner_change⟩,
      D_Runner_next_place := ⟨_, _, F_Runner_next_place, ⟨a_Runner_next_place, i_Runner_next_place, k_Runner_next_place⟩, B_Runner_next_place⟩,
      D_Runner_step := ⟨_, _, F_Runner_step, ⟨a_Runner_step, i_Runner_step, k_Runner_step⟩, B_Runner_step⟩,
      D_Runner_run := ⟨_, _, F_Runner_run, ⟨a_Runner_run, i_Runner_run, k_Runner_run⟩, B_Runner_run⟩,
      D_need := ⟨_, _, F_need, PySem.W.mg_of X G a_need, B_need⟩,
      D_Desk___init__ := ⟨_, _, F_Desk___init__, ⟨mk_Desk, a_Desk___init__, i_Desk___init__, kc_Desk⟩, PySem.W.mg_of X G aC_Desk, B_Desk___init__⟩,
      D_Desk_replace := ⟨_, _, F_Desk_replace, ⟨a_Desk_replace, i_Desk_replace, k_Desk_replace⟩, B_Desk_replace⟩,
      D_state_in := ⟨_, _, F_state_in, PySem.W.mg_of X G a_state_in, B_state_in⟩,
      D_with_length := ⟨_, _, F_with_length, PySem.W.mg_of X G a_with_length, B_with_length⟩,
      D_new := ⟨_, _, F_new, PySem.W.mg_of X G a_new, B_new⟩,
      D_run := ⟨_, _, F_run, PySem.W.mg_of X G a_run, B_run⟩,
      D_save := ⟨_, _, F_save, PySem.W.mg_of X G a_save, B_save⟩,
      D_load := ⟨_, _, F_load, PySem.W.mg_of X G a_load, B_load⟩,
      D_turn_form := ⟨_, _, F_turn_form, PySem.W.mg_of X G a_turn_form, B_turn_form⟩,
      D_peek := ⟨_, _, F_peek, PySem.W.mg_of X G a_peek, B_peek⟩,
      D_copied := ⟨_, _, F_copied, PySem.W.mg_of X G a_copied, B_copied⟩,
      D_poke := ⟨_, _, F_poke, PySem.W.mg_of X G a_poke, B_poke⟩,
      D_differ := ⟨_, _, F_differ, PySem.W.mg_of X G a_differ, B_differ⟩,
      D_answer := ⟨_, _, F_answer, PySem.W.mg_of X G a_answer, B_answer⟩,
      D_answers := ⟨_, _, F_answers, PySem.W.mg_of X G a_answers, B_answers⟩,
      t_MACHINES := fun _ => .inr ⟨_, _, _, l_MACHINES, rfl, rfl, (by show 3 ≤ sizeLine; decide), (.cons ⟨_, rfl⟩ (.cons ⟨_, rfl⟩ (.cons ⟨_, rfl⟩ .nil)))⟩,
      t_WEIGHTS := fun _ => .inr ⟨_, _, _, l_WEIGHTS, rfl, rfl, (by show 6 ≤ sizeLine; decide), (.cons ⟨_, rfl⟩ (.cons ⟨_, rfl⟩ (.cons ⟨_, rfl⟩ (.cons ⟨_, rfl⟩ (.cons ⟨_, rfl⟩ (.cons ⟨_, rfl⟩ .nil))))))⟩,
      t_MORE := fun _ => .inr ⟨_, _, _, l_MORE, rfl, rfl, (by show 4 ≤ sizeLine; decide), (.cons ⟨_, rfl⟩ (.cons ⟨_, rfl⟩ (.cons ⟨_, rfl⟩ (.cons ⟨_, rfl⟩ .nil))))⟩,
      l_HEAD := fun _ => .inr ⟨_, _, _, l_HEAD, rfl, rfl, rfl, (by show 4 ≤ sizeLine; decide), (.cons ⟨_, rfl⟩ (.cons ⟨_, rfl⟩ (.cons ⟨_, rfl⟩ (.cons ⟨_, rfl⟩ .nil))))⟩,
      l_MARKS := fun _ => .inr ⟨_, _, _, l_MARKS, rfl, rfl, rfl, (by show 8 ≤ sizeLine; decide), (.cons ⟨_, rfl⟩ (.cons ⟨_, rfl⟩ (.cons ⟨_, rfl⟩ (.cons ⟨_, rfl⟩ (.cons ⟨_, rfl⟩ (.cons ⟨_, rfl⟩ (.cons ⟨_, rfl⟩ (.cons ⟨_, rfl⟩ .nil))))))))⟩,
      t_BOUNDS := fun _ => .inr ⟨_, _, _, l_BOUNDS, rfl, rfl, (by show 24 ≤ sizeLine; decide), (.cons rfl (.cons rfl (.cons rfl (.cons rfl (.cons rfl (.cons rfl (.cons rfl (.cons rfl (.cons rfl (.cons rfl (.cons rfl (.cons rfl (.cons rfl (.cons rfl (.cons rfl (.cons rfl (.cons rfl (.cons rfl (.cons rfl (.cons rfl (.cons rfl (.cons rfl (.cons rfl (.cons rfl .nil))))))))))))))))))))))))⟩,
      t_CALLS := fun _ => .inr ⟨_, _, _, l_CALLS, rfl, rfl, (by show 8 ≤ sizeLine; decide), (.cons rfl (.cons rfl (.cons rfl (.cons rfl (.cons rfl (.cons rfl (.cons rfl (.cons rfl .nil))))))))⟩,
      d_SIZES := ⟨⟨_, _, _, _, _, _, _, l_SIZES⟩, ne_SIZES⟩,
      low := { gC := PySem.W.mg_of X G aR, cls := ⟨nmR, qR, NR, bsR, _, snR, subR, abR, colR, ddR, m0R, m1R, m2R, m3R, m5R, xR, by decide +kernel⟩, sa := saR, ga := gaR, gg := ggR, noN := nbR, iC := iR, tC := tR, kC := kR, exC := eR, tyC := yR, hdC := hR, te := exm_own eR cR yR sR, fn := ⟨_, _, _, _, _, _, _, _, _, _, _, _, _, _, lR, dR⟩ },
      t_bounds := tb,
      f_CALLS := fc }
  exact end_of T F_answers
end VP
open PySem PySem.W PyProof.Rows
set_option maxRecDepth 100000 in
set_option maxHeartbeats 0 in
theorem PySem.Challenge.cw_vectorpoints_s01_answers_holds : PySem.Challenge.rw_vectorpoints_s01_answers.Holds := by
  w_on; k_headS; (case hw => exact ⟨[.list [.int 0, .int 1, .int 3, .int 0]], by decide +kernel, by decide +kernel⟩)
  k_fillS
  refine L2.walk_specK (r := PySem.Challenge.rw_vectorpoints_s01_answers) (k := 11) (CX := L2.CX0) (ps := ["calls"]) (sp := VP.spAns) (by decide +kernel) rfl rfl ⟨rfl, by decide, by decide⟩ (fun w h Y => PySem.W.kIn_of Y) ?F ?S (fun _ _ _ _ z => z)
  case F =>
    intro w mg fa h Y KX G hmg
    refine' VP.all_mk KX G hmg ?v_M_COUNT ?v_V_COUNT ?v_LOW_COUNT ?v_K_COUNT ?v_LANES ?v_WORD_SIZE ?v_BASE ?v_FULL ?v_BASIC ?v_LOW_LANES ?v_NEXT_LANES ?v_MASKS ?v_HIGH_LANES ?v_HIGH_VECTORS ?v_M_PLACE ?v_M_STEP ?v_LOW_PLACE ?v_USED_PLACE ?v_FORM_PLACE ?v_HEAD_SIZE ?v_GAP_SIZE ?v_SHORT_FORM ?v_MOST_BYTES ?v_SIZE ?v_MOST_WIDTH ?v_MOST_MASK ?v_ROTATE ?v_FILL ?v_RISE ?v_LANE_SUM ?v_M_SUM ?v_M_APART ?v_LESS ?v_K_BOTH ?v_K_APART ?v_K_NOT ?v_M_FROM_K ?v_K_FROM_M ?v_LOOP ?v_HALF ?v_OUT_OF_RANGE ?v_NONE_SUCH ?v_NO_COMPONENT ?v_NO_ROOM ?v_MOST_CODE ?v_MOST_STEPS ?v_FIRST_M ?v_FIRST_K ?v_ALL_PLACE ?v_CELL_SIZE ?v_MACHINES ?v_WEIGHTS ?v_HEAD ?v_MARKS ?v_SIZES ?v_MORE ?v_BOUNDS ?v_CALLS ?z_range ?z_list ?z_len ?z_sum ?z_any ?z_all ?z_reversed ?z_zip ?z_min ?z_max ?z_enumerate ?aC_State ?pg_State ?hd_State ?po_State ?sa_State ?mk_State ?kc_State ?n_State_words ?n_State_vectors ?n_State_masks ?aC_Instruction ?pg_Instruction ?hd_Instruction ?po_Instruction ?sa_Instruction ?mk_Instruction ?kc_Instruction ?n_Instruction_kind ?n_Instruction_lanes ?n_Instruction_mask ?n_Instruction_goal ?n_Instruction_one ?n_Instruction_other ?aC_Runner ?pg_Runner ?hd_Runner ?po_Runner ?sa_Runner ?mk_Runner ?kc_Runner ?n_Runner_state ?n_Runner_powers ?aC_Desk ?pg_Desk ?hd_Desk ?po_Desk ?sa_Desk ?mk_Desk ?kc_Desk ?n_Desk_components ?n_Desk_state ?a_State___init__ ?i_State___init__ ?l_State___init__ ?d_State___init__ ?k_State___init__ ?a_State_part ?i_State_part ?l_State_part ?d_State_part ?k_State_part ?a_State_set_part ?i_State_set_part ?l_State_set_part ?d_State_set_part ?k_State_set_part ?a_State_used ?i_State_used ?l_State_used ?d_State_used ?k_State_used ?a_joined ?l_joined ?d_joined ?k_joined ?a_lanes_of ?l_lanes_of ?d_lanes_of ?k_lanes_of ?a_number_count ?l_number_count ?d_number_count ?k_number_count ?a_has_all ?l_has_all ?d_has_all ?k_has_all ?a_number_row ?l_number_row ?d_number_row ?k_number_row ?a_rows_of ?l_rows_of ?d_rows_of ?k_rows_of ?a_number_in ?l_number_in ?d_number_in ?k_number_in ?a_numbers_in ?l_numbers_in ?d_numbers_in ?k_numbers_in ?a_head_of ?l_head_of ?d_head_of ?k_head_of ?a_long_form ?l_long_form ?d_long_form ?k_long_form ?a_short_form ?l_short_form ?d_short_form ?k_short_form ?a_form_of ?l_form_of ?d_form_of ?k_form_of ?a_read_part ?l_read_part ?d_read_part ?k_read_part ?a_read_head ?l_read_head ?d_read_head ?k_read_head ?a_read_long ?l_read_long ?d_read_long ?k_read_long ?a_read_short ?l_read_short ?d_read_short ?k_read_short ?a_state_of ?l_state_of ?d_state_of ?k_state_of ?a_Instruction___init__ ?i_Instruction___init__ ?l_Instruction___init__ ?d_Instruction___init__ ?k_Instruction___init__ ?a_Instruction_vectors_met ?i_Instruction_vectors_met ?l_Instruction_vectors_met ?d_Instruction_vectors_met ?k_Instruction_vectors_met ?a_Instruction_least_machine ?i_Instruction_least_machine ?l_Instruction_least_machine ?d_Instruction_least_machine ?k_Instruction_least_machine ?a_lane_count ?l_lane_count ?d_lane_count ?k_lane_count ?a_is_instruction ?l_is_instruction ?d_is_instruction ?k_is_instruction ?a_instruction_rows ?l_instruction_rows ?d_instruction_rows ?k_instruction_rows ?a_powers ?l_powers ?d_powers ?k_powers ?a_paired ?l_paired ?d_paired ?k_paired ?a_Runner___init__ ?i_Runner___init__ ?l_Runner___init__ ?d_Runner___init__ ?k_Runner___init__ ?a_Runner_shifted ?i_Runner_shifted ?l_Runner_shifted ?d_Runner_shifted ?k_Runner_shifted ?a_Runner_lanes_made ?i_Runner_lanes_made ?l_Runner_lanes_made ?d_Runner_lanes_made ?k_Runner_lanes_made ?a_Runner_write ?i_Runner_write ?l_Runner_write ?d_Runner_write ?k_Runner_write ?a_Runner_bits_less ?i_Runner_bits_less ?l_Runner_bits_less ?d_Runner_bits_less ?k_Runner_bits_less ?a_Runner_change ?i_Runner_change ?l_Runner_change ?d_Runner_change ?k_Runner_change ?a_Runner_next_place ?i_Runner_next_place ?l_Runner_next_place ?d_Runner_next_place ?k_Runner_next_place ?a_Runner_step ?i_Runner_step ?l_Runner_step ?d_Runner_step ?k_Runner_step ?a_Runner_run ?i_Runner_run ?l_Runner_run ?d_Runner_run ?k_Runner_run ?a_need ?l_need ?d_need ?k_need ?a_Desk___init__ ?i_Desk___init__ ?l_Desk___init__ ?d_Desk___init__ ?k_Desk___init__ ?a_Desk_replace ?i_Desk_replace ?l_Desk_replace ?d_Desk_replace ?k_Desk_replace ?a_state_in ?l_state_in ?d_state_in ?k_state_in ?a_with_length ?l_with_length ?d_with_length ?k_with_length ?a_new ?l_new ?d_new ?k_new ?a_run ?l_run ?d_run ?k_run ?a_save ?l_save ?d_save ?k_save ?a_load ?l_load ?d_load ?k_load ?a_turn_form ?l_turn_form ?d_turn_form ?k_turn_form ?a_peek ?l_peek ?d_peek ?k_peek ?a_copied ?l_copied ?d_copied ?k_copied ?a_poke ?l_poke ?d_poke ?k_poke ?a_differ ?l_differ ?d_differ ?k_differ ?a_answer ?l_answer ?d_answer ?k_answer ?a_answers ?l_answers ?d_answers ?k_answers ?l_MACHINES ?l_WEIGHTS ?l_MORE ?l_HEAD ?l_MARKS ?l_BOUNDS ?l_b_0 ?l_b_1 ?l_b_2 ?l_b_3 ?l_b_4 ?l_b_5 ?l_b_6 ?l_b_7 ?l_b_8 ?l_b_9 ?l_b_10 ?l_b_11 ?l_b_12 ?l_b_13 ?l_b_14 ?l_b_15 ?l_b_16 ?l_b_17 ?l_b_18 ?l_b_19 ?l_b_20 ?l_b_21 ?l_b_22 ?l_b_23 ?l_CALLS ?l_SIZES ?ne_SIZES ?aR ?xR ?saR ?gaR ?ggR ?nbR ?iR ?tR ?lR ?dR ?kR ?eR ?yR ?hR ?cR ?sR
    (case v_M_COUNT => k_is); (case v_V_COUNT => k_is); (case v_LOW_COUNT => k_is); (case v_K_COUNT => k_is); (case v_LANES => k_is); (case v_WORD_SIZE => k_is)
    (case v_BASE => k_is); (case v_FULL => k_is); (case v_BASIC => k_is); (case v_LOW_LANES => k_is); (case v_NEXT_LANES => k_is); (case v_MASKS => k_is)
    (case v_HIGH_LANES => k_is); (case v_HIGH_VECTORS => k_is); (case v_M_PLACE => k_is); (case v_M_STEP => k_is); (case v_LOW_PLACE => k_is); (case v_USED_PLACE => k_is)
    (case v_FORM_PLACE => k_is); (case v_HEAD_SIZE => k_is); (case v_GAP_SIZE => k_is); (case v_SHORT_FORM => k_is); (case v_MOST_BYTES => k_is); (case v_SIZE => k_is)
    (case v_MOST_WIDTH => k_is); (case v_MOST_MASK => k_is); (case v_ROTATE => k_is); (case v_FILL => k_is); (case v_RISE => k_is); (case v_LANE_SUM => k_is)
    (case v_M_SUM => k_is); (case v_M_APART => k_is); (case v_LESS => k_is); (case v_K_BOTH => k_is); (case v_K_APART => k_is); (case v_K_NOT => k_is)
    (case v_M_FROM_K => k_is); (case v_K_FROM_M => k_is); (case v_LOOP => k_is); (case v_HALF => k_is); (case v_OUT_OF_RANGE => k_is); (case v_NONE_SUCH => k_is)
    (case v_NO_COMPONENT => k_is); (case v_NO_ROOM => k_is); (case v_MOST_CODE => k_is); (case v_MOST_STEPS => k_is); (case v_FIRST_M => k_is); (case v_FIRST_K => k_is)
    (case v_ALL_PLACE => k_is); (case v_CELL_SIZE => k_is); (case v_MACHINES => k_is); (case v_WEIGHTS => k_is); (case v_HEAD => k_is); (case v_MARKS => k_is)
    (case v_SIZES => k_is); (case v_MORE => k_is); (case v_BOUNDS => k_is); (case v_CALLS => k_is); (case z_range => k_is); (case z_list => k_is)
    (case z_len => k_is); (case z_sum => k_is); (case z_any => k_is); (case z_all => k_is); (case z_reversed => k_is); (case z_zip => k_is)
    (case z_min => k_is); (case z_max => k_is); (case z_enumerate => k_is); (case aC_State => k_is); (case pg_State => k_is); (case hd_State => k_is)
    (case po_State => k_is); (case sa_State => k_is); (case mk_State => k_is); (case kc_State => k_is); (case n_State_words => k_is); (case n_State_vectors => k_is)
    (case n_State_masks => k_is); (case aC_Instruction => k_is); (case pg_Instruction => k_is); (case hd_Instruction => k_is); (case po_Instruction => k_is); (case sa_Instruction => k_is)
    (case mk_Instruction => k_is); (case kc_Instruction => k_is); (case n_Instruction_kind => k_is); (case n_Instruction_lanes => k_is); (case n_Instruction_mask => k_is); (case n_Instruction_goal => k_is)
    (case n_Instruction_one => k_is); (case n_Instruction_other => k_is); (case aC_Runner => k_is); (case pg_Runner => k_is); (case hd_Runner => k_is); (case po_Runner => k_is)
    (case sa_Runner => k_is); (case mk_Runner => k_is); (case kc_Runner => k_is); (case n_Runner_state => k_is); (case n_Runner_powers => k_is); (case aC_Desk => k_is)
    (case pg_Desk => k_is); (case hd_Desk => k_is); (case po_Desk => k_is); (case sa_Desk => k_is); (case mk_Desk => k_is); (case kc_Desk => k_is)
    (case n_Desk_components => k_is); (case n_Desk_state => k_is); (case a_State___init__ => k_is); (case i_State___init__ => k_is); (case l_State___init__ => k_is); (case d_State___init__ => k_is)
    (case k_State___init__ => k_is); (case a_State_part => k_is); (case i_State_part => k_is); (case l_State_part => k_is); (case d_State_part => k_is); (case k_State_part => k_is)
    (case a_State_set_part => k_is); (case i_State_set_part => k_is); (case l_State_set_part => k_is); (case d_State_set_part => k_is); (case k_State_set_part => k_is); (case a_State_used => k_is)
    (case i_State_used => k_is); (case l_State_used => k_is); (case d_State_used => k_is); (case k_State_used => k_is); (case a_joined => k_is); (case l_joined => k_is)
    (case d_joined => k_is); (case k_joined => k_is); (case a_lanes_of => k_is); (case l_lanes_of => k_is); (case d_lanes_of => k_is); (case k_lanes_of => k_is)
    (case a_number_count => k_is); (case l_number_count => k_is); (case d_number_count => k_is); (case k_number_count => k_is); (case a_has_all => k_is); (case l_has_all => k_is)
    (case d_has_all => k_is); (case k_has_all => k_is); (case a_number_row => k_is); (case l_number_row => k_is); (case d_number_row => k_is); (case k_number_row => k_is)
    (case a_rows_of => k_is); (case l_rows_of => k_is); (case d_rows_of => k_is); (case k_rows_of => k_is); (case a_number_in => k_is); (case l_number_in => k_is)
    (case d_number_in => k_is); (case k_number_in => k_is); (case a_numbers_in => k_is); (case l_numbers_in => k_is); (case d_numbers_in => k_is); (case k_numbers_in => k_is)
    (case a_head_of => k_is); (case l_head_of => k_is); (case d_head_of => k_is); (case k_head_of => k_is); (case a_long_form => k_is); (case l_long_form => k_is)
    (case d_long_form => k_is); (case k_long_form => k_is); (case a_short_form => k_is); (case l_short_form => k_is); (case d_short_form => k_is); (case k_short_form => k_is)
    (case a_form_of => k_is); (case l_form_of => k_is); (case d_form_of => k_is); (case k_form_of => k_is); (case a_read_part => k_is); (case l_read_part => k_is)
    (case d_read_part => k_is); (case k_read_part => k_is); (case a_read_head => k_is); (case l_read_head => k_is); (case d_read_head => k_is); (case k_read_head => k_is)
    (case a_read_long => k_is); (case l_read_long => k_is); (case d_read_long => k_is); (case k_read_long => k_is); (case a_read_short => k_is); (case l_read_short => k_is)
    (case d_read_short => k_is); (case k_read_short => k_is); (case a_state_of => k_is); (case l_state_of => k_is); (case d_state_of => k_is); (case k_state_of => k_is)
    (case a_Instruction___init__ => k_is); (case i_Instruction___init__ => k_is); (case l_Instruction___init__ => k_is); (case d_Instruction___init__ => k_is); (case k_Instruction___init__ => k_is); (case a_Instruction_vectors_met => k_is)
    (case i_Instruction_vectors_met => k_is); (case l_Instruction_vectors_met => k_is); (case d_Instruction_vectors_met => k_is); (case k_Instruction_vectors_met => k_is); (case a_Instruction_least_machine => k_is); (case i_Instruction_least_machine => k_is)
    (case l_Instruction_least_machine => k_is); (case d_Instruction_least_machine => k_is); (case k_Instruction_least_machine => k_is); (case a_lane_count => k_is); (case l_lane_count => k_is); (case d_lane_count => k_is)
    (case k_lane_count => k_is); (case a_is_instruction => k_is); (case l_is_instruction => k_is); (case d_is_instruction => k_is); (case k_is_instruction => k_is); (case a_instruction_rows => k_is)
    (case l_instruction_rows => k_is); (case d_instruction_rows => k_is); (case k_instruction_rows => k_is); (case a_powers => k_is); (case l_powers => k_is); (case d_powers => k_is)
    (case k_powers => k_is); (case a_paired => k_is); (case l_paired => k_is); (case d_paired => k_is); (case k_paired => k_is); (case a_Runner___init__ => k_is)
    (case i_Runner___init__ => k_is); (case l_Runner___init__ => k_is); (case d_Runner___init__ => k_is); (case k_Runner___init__ => k_is); (case a_Runner_shifted => k_is); (case i_Runner_shifted => k_is)
    (case l_Runner_shifted => k_is); (case d_Runner_shifted => k_is); (case k_Runner_shifted => k_is); (case a_Runner_lanes_made => k_is); (case i_Runner_lanes_made => k_is); (case l_Runner_lanes_made => k_is)
    (case d_Runner_lanes_made => k_is); (case k_Runner_lanes_made => k_is); (case a_Runner_write => k_is); (case i_Runner_write => k_is); (case l_Runner_write => k_is); (case d_Runner_write => k_is)
    (case k_Runner_write => k_is); (case a_Runner_bits_less => k_is); (case i_Runner_bits_less => k_is); (case l_Runner_bits_less => k_is); (case d_Runner_bits_less => k_is); (case k_Runner_bits_less => k_is)
    (case a_Runner_change => k_is); (case i_Runner_change => k_is); (case l_Runner_change => k_is); (case d_Runner_change => k_is); (case k_Runner_change => k_is); (case a_Runner_next_place => k_is)
    (case i_Runner_next_place => k_is); (case l_Runner_next_place => k_is); (case d_Runner_next_place => k_is); (case k_Runner_next_place => k_is); (case a_Runner_step => k_is); (case i_Runner_step => k_is)
    (case l_Runner_step => k_is); (case d_Runner_step => k_is); (case k_Runner_step => k_is); (case a_Runner_run => k_is); (case i_Runner_run => k_is); (case l_Runner_run => k_is)
    (case d_Runner_run => k_is); (case k_Runner_run => k_is); (case a_need => k_is); (case l_need => k_is); (case d_need => k_is); (case k_need => k_is)
    (case a_Desk___init__ => k_is); (case i_Desk___init__ => k_is); (case l_Desk___init__ => k_is); (case d_Desk___init__ => k_is); (case k_Desk___init__ => k_is); (case a_Desk_replace => k_is)
    (case i_Desk_replace => k_is); (case l_Desk_replace => k_is); (case d_Desk_replace => k_is); (case k_Desk_replace => k_is); (case a_state_in => k_is); (case l_state_in => k_is)
    (case d_state_in => k_is); (case k_state_in => k_is); (case a_with_length => k_is); (case l_with_length => k_is); (case d_with_length => k_is); (case k_with_length => k_is)
    (case a_new => k_is); (case l_new => k_is); (case d_new => k_is); (case k_new => k_is); (case a_run => k_is); (case l_run => k_is)
    (case d_run => k_is); (case k_run => k_is); (case a_save => k_is); (case l_save => k_is); (case d_save => k_is); (case k_save => k_is)
    (case a_load => k_is); (case l_load => k_is); (case d_load => k_is); (case k_load => k_is); (case a_turn_form => k_is); (case l_turn_form => k_is)
    (case d_turn_form => k_is); (case k_turn_form => k_is); (case a_peek => k_is); (case l_peek => k_is); (case d_peek => k_is); (case k_peek => k_is)
    (case a_copied => k_is); (case l_copied => k_is); (case d_copied => k_is); (case k_copied => k_is); (case a_poke => k_is); (case l_poke => k_is)
    (case d_poke => k_is); (case k_poke => k_is); (case a_differ => k_is); (case l_differ => k_is); (case d_differ => k_is); (case k_differ => k_is)
    (case a_answer => k_is); (case l_answer => k_is); (case d_answer => k_is); (case k_answer => k_is); (case a_answers => k_is); (case l_answers => k_is)
    (case d_answers => k_is); (case k_answers => k_is); (case l_MACHINES => k_is); (case l_WEIGHTS => k_is); (case l_MORE => k_is); (case l_HEAD => k_is)
    (case l_MARKS => k_is); (case l_BOUNDS => k_is); (case l_b_0 => k_is); (case l_b_1 => k_is); (case l_b_2 => k_is); (case l_b_3 => k_is)
    (case l_b_4 => k_is); (case l_b_5 => k_is); (case l_b_6 => k_is); (case l_b_7 => k_is); (case l_b_8 => k_is); (case l_b_9 => k_is)
    (case l_b_10 => k_is); (case l_b_11 => k_is); (case l_b_12 => k_is); (case l_b_13 => k_is); (case l_b_14 => k_is); (case l_b_15 => k_is)
    (case l_b_16 => k_is); (case l_b_17 => k_is); (case l_b_18 => k_is); (case l_b_19 => k_is); (case l_b_20 => k_is); (case l_b_21 => k_is)
    (case l_b_22 => k_is); (case l_b_23 => k_is); (case l_CALLS => k_is); (case l_SIZES => k_is); (case ne_SIZES => first | rfl | decide | decide +kernel); (case aR => k_is)
    (case xR => k_is); (case saR => k_is); (case gaR => k_is); (case ggR => k_is); (case nbR => k_is); (case iR => k_is)
    (case tR => k_is); (case lR => k_is); (case dR => k_is); (case kR => k_is); (case eR => k_is); (case yR => k_is)
    (case hR => k_is); (case cR => k_is); (case sR => first | rfl | k_is)
  case S =>
    intro K H xs a hO hwi hask hx
    cases hx with
    | cons h1 h2 =>
      cases h2
      cases h1 with
      | lst hs ha =>
        have e := L2.ints_dw a.1 _ ha
        subst e
        exact ⟨(_, a.1), rfl, hs, hask, fun H' p hp => .lst (L2.SqL.of hp) (L2.dw_ints _)⟩
