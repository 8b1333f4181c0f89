import PyProof.Rows.All
import Wide.All
import OpenK.AllK
import Wide.FinOn
import PyProof.EqAt
import PyProof.EqKinds
import PyProof.TupleCall
import Open.SpecLaws
import KE.OsGo
import HandS.ForSpec
import HandS.ForMost
import HandS.ExcInit
import PySem.Challenge.RW_leastsums_s02_evaluate
set_option Elab.async false
set_option linter.all false
set_option maxRecDepth 100000
set_option maxHeartbeats 2000000
namespace PySem
namespace RefX
open PySem.W PySem.Calls PyProof.Rows PySem.HandSPX
/-! ### the text of __init__ -/
def iA (p1 p2 : Pos) : Arguments := { posonlyargs := [], args := [{ arg := "self", annotation := none, pos := p1 }, { arg := "code", annotation := none, pos := p2 }], vararg := none, kwonlyargs := [], kw_defaults := [], kwarg := none, defaults := [] }
def iB (q1 q2 q3 q4 : Pos) : List Stmt := [.Assign [.Attribute (.Name "self" q1) "code" q2] (.Name "code" q3) q4]
def iS : Scope := { kind := .function, names := [(PySem.Str.ofString "self", .local), (PySem.Str.ofString "code", .local)], isGenerator := false, isCoroutine := false, more := [] }
/-- what the written part says of Refused, at C, and of its __init__, at fI -/
structure RefTxt (K : Frag) (mg : Str → Option Value) (C fI : Addr) : Prop where
  gC : mg "Refused" = some (.ref C)
  cls : ∃ nm q N bs bm sn sub ab col dd k0 k1 k2 k3 k5, K.lookup C = some (excClassObj nm q C N bs bm true sn sub ab col dd k0 k1 k2 k3 k5 "ValueError.__new__") ∧ refsVE bm = true
  sa : findIn K (.ref C) "__setattr__" = some (some (.builtin "object.__setattr__"))
  ga : findIn K (.ref C) "__getattribute__" = some (some (.builtin "BaseException.__getattribute__"))
  gg : findIn K (.ref C) "__getattr__" = some none
  noN : findIn K (.ref C) "code" = some none
  iC : findIn K (.ref C) "__init__" = some (some (.ref fI))
  tC : typeIn K (.ref fI) = some (.type "function")
  kC : keepIn K (.ref C) = true
  exC : subIn K (.ref C) (.type "BaseException") = some true
  tyC : typeIn K (.ref C) = some (.type "type")
  hdC : hasDictIn K C = true
  te : exmOne K (.ref C) (.ref C) = some true
  fn : ∃ (oc : Value) (od : Option Addr) (doc pm : Value) (an : Option Addr) (cdv ct : Value) (osl : Array (Option Value)) (p1 p2 q1 q2 q3 q4 : Pos),
    K.lookup fI = some ⟨oc, od, .func (fnOf "__init__" "Refused.__init__" (iA p1 p2) (iB q1 q2 q3 q4) iS .none .none doc pm an cdv ct), osl⟩ ∧ codeIn K cdv "Refused.__init__" = true
theorem one_size (v : Value) : [v].length ≤ sizeLine := by
  rw [sizeLine_eq]
  exact (by decide : 1 ≤ 16777216)
theorem kept_but {K : Frag} {h h' : Heap} {x : Addr} (X : K.In h) (hx : K.lookup x = none) (k : ∀ b o, b ≠ x → h.get? b = some o → h'.get? b = some o) : K.In h' := fun a o e =>
  k a o (fun z => by rw [z, hx] at e; cases e) (X a o e)
theorem ldC {M : Model} {s : Shared} {name : Str} {scope : Scope} {L a : Addr} {cd : Value} {m : Str → Option Value} {x : Str} {pos : Pos} {v : Value} {Q : Value → Shared → Prop} {A : Around} {E : Value → Shared → Prop} (hn : s.heap.Ns L m) (hv : m x = some v) (h : Q v s)
    (hk : scope.kind = .function := by rfl) (hl : (envOfC name scope L a cd).kindOf x = some .local := by rfl) (hd : (x == ("__debug__" : Str)) = false := by decide) :
    wpAny M A (eval (.Name x pos) (envOfC name scope L a cd)) Q E s := wpAny_Name (wpAny_loadName_local hk hl hn hv h) hd
/-- what __init__ leaves of a fresh exception at x -/
structure InitEnd (h h' : Heap) (x C dx t1 : Addr) (v : Value) : Prop where
  keep : ∀ b o, b ≠ x → h.get? b = some o → h'.get? b = some o
  obj : h'.get? x = some { cls := .ref C, dict := some dx, data := .fields #[.ref t1, .none, .none, .none, .bool false, .none] }
  dbig : h.objs.size ≤ dx
  dne : dx ≠ x
  ns : h'.Ns1 dx (fun y => if y = "code" then some v else none)
/-- a made Refused -/
structure OwnMade (h h' : Heap) (e C d : Addr) (v : Value) : Prop where
  keep : ∀ b o, h.get? b = some o → h'.get? b = some o
  new : h.objs.size ≤ e
  obj : ∃ oe vs, h'.get? e = some oe ∧ oe.cls = .ref C ∧ oe.dict = some d ∧ oe.data = .fields vs ∧ vs[1]? = some .none
  dbig : h.objs.size ≤ d
  dne : d ≠ e
  ns : h'.Ns1 d (fun y => if y = "code" then some v else none)
section
variable {prog : Program} {w : World} {A : Around} {E : Value → Shared → Prop} {R : Result → Shared → Prop} {s : Shared} {K : Frag} {mg : Str → Option Value} {C fI : Addr}
theorem ref_init (T : RefTxt K mg C fI) {x t0 : Addr} {v : Value} (X : K.In s.heap) (hlim : s.heap.NoLimit) (hx : s.heap.get? x = some (excO C t0)) (hnx : K.lookup x = none) (hroom : A.depth < recursionLimit)
    (hq : ∀ h' tk dx, InitEnd s.heap h' x C dx t0 v → R (.ok (.ret .none)) { s with heap := h', toks := tk }) :
    codeAny (model prog w) A (.call (.ref fI) ⟨[.ref x, v], []⟩) R s := by
  obtain ⟨oc, od, doc, pm, an, cdv, ct, osl, p1, p2, q1, q2, q3, q4, ho, hcd⟩ := T.fn
  obtain ⟨nm, q, N, bs, bm, sn, sub, ab, col, dd, k0, k1, k2, k3, k5, hC, hbm⟩ := T.cls
  have hcl : clsIn K C = some { name := nm, bases := bs, mro := .ref C :: bm, ns := N, qualname := q, hasDict := true, slotNames := sn, subclasses := sub, abstract := ab, collection := col, hasDel := false } := by unfold clsIn; rw [hC] <;> rfl
  refine Att.call_fn (binds := [("self", .ref x), ("code", v)]) X hlim ho hcd hroom (BindsTo.of_eq (by first | rfl | with_unfolding_all rfl)) (by first | rfl | decide | with_unfolding_all rfl) (fun s₁ IC => ?_) rfl rfl rfl
  obtain ⟨h₁, tk₁, rfl⟩ := IC.toInCall.same
  have k : ∀ b o, s.heap.get? b = some o → h₁.get? b = some o := IC.toInCall.keep
  have hn := IC.toInCall.ns
  have hxL : s.heap.objs.size ≠ x := Nat.ne_of_gt (Heap.lt_size hx)
  have X₁ : K.In h₁ := X.keeps k
  have hx₁ := k _ _ hx
  -- self.code = code
  show wpAny _ _ (execs _ _) _ _ _
  refine wpAny_execs_cons (plainObj_wpAny_Assign_Attribute ?_)
  refine ldC (v := v) hn (by first | rfl | with_unfolding_all rfl | kernel_rfl) (ldC (v := .ref x) hn (by first | rfl | with_unfolding_all rfl | kernel_rfl) ?_)
  refine set_plain X₁ (ox := excO C t0) (od := none) ⟨hx₁, rfl, rfl, trivial⟩ T.sa ?_
  refine exc_osa X₁ hx₁ hcl (show refsVE (.ref C :: bm) = true from hbm) rfl T.noN (fun h₃ tk₃ dx k₃ dn dne hx₃ hn₃ => ?_)
  show wpAny _ _ (execs _ _) _ _ _
  have z : s.heap.objs.size < h₁.objs.size := hn.lt
  exact wpAny_execs_nil (hq h₃ tk₃ dx ⟨fun b o hb e => k₃ b o hb (k b o e), hx₃, Nat.le_of_lt (Nat.lt_of_lt_of_le z dn), dne, hn₃⟩)
theorem ref_made (T : RefTxt K mg C fI) {v : Value} (X : K.In s.heap) (hlim : s.heap.NoLimit) (hroom : A.depth + 1 < recursionLimit)
    (hq : ∀ h' tk e d, OwnMade s.heap h' e C d v → R (.ok (.ret (.ref e))) { s with heap := h', toks := tk }) :
    codeAny (model prog w) A (.call (.ref C) ⟨[v], []⟩) R s := by
  obtain ⟨nm, q, N, bs, bm, sn, sub, ab, col, dd, k0, k1, k2, k3, k5, hC, hbm⟩ := T.cls
  obtain ⟨hp, g, dr, tk, os⟩ := s
  have k : ∀ b o, hp.get? b = some o → ((hp.push (kdv_tup [v])).push (excO C hp.objs.size)).get? b = some o := fun b o e => Heap.get?_push_of_some _ (Heap.get?_push_of_some _ e)
  have hget : ((hp.push (kdv_tup [v])).push (excO C hp.objs.size)).get? (hp.objs.size + 1) = some (excO C hp.objs.size) := by heap_get
  have hnx : K.lookup (hp.objs.size + 1) = none := by
    cases e : K.lookup (hp.objs.size + 1) with
    | none => rfl
    | some o =>
      have z : hp.get? (hp.objs.size + 1) = some o := X _ _ e
      exact absurd (Nat.lt_of_succ_lt (Heap.lt_size z)) (Nat.lt_irrefl _)
  refine call_own F.excBase_ValueError (fun X => refsVE_contains X bm hbm) (X _ _ hC) (looks_findIn X T.iC) (fun self => bind_fn X self T.tC) (one_size v) ?_
  refine ref_init (s := ⟨(hp.push (kdv_tup [v])).push (excO C hp.objs.size), g, dr, tk, os⟩) T (X.keeps k) (hlim.keeps k) hget hnx ?_ fun h' tk' dx ⟨k', hx, dn, dne, hns⟩ => ?_
  · show A.depth + 1 < recursionLimit
    exact hroom
  · have old : ∀ b o, hp.get? b = some o → h'.get? b = some o := fun b o e => k' b o (Nat.ne_of_lt (Nat.lt_succ_of_lt (Heap.lt_size e))) (k b o e)
    have z : hp.objs.size + 1 + 1 ≤ dx := by
      first
        | (simpa only [Heap.size_push] using dn)
        | exact dn
        | (have q := dn; rw [Heap.size_push, Heap.size_push] at q; exact q)
    exact ⟨rfl, hq h' tk' (hp.objs.size + 1) dx ⟨old, Nat.le_succ _, ⟨_, _, hx, rfl, rfl, rfl, rfl⟩, Nat.le_trans (Nat.le_trans (Nat.le_succ _) (Nat.le_succ _)) z, dne, hns⟩⟩
end
end RefX
end PySem
namespace L2
open PySem PySem.Spec PyProof.Rows
theorem relO_ref {v : V} {v' : Value} (r : RelV v v') (f : Str) : RelO (List.lookup f [(("code" : Str), v)]) (if f = "code" then some v' else none) := by
  by_cases hw : f = "code"
  · subst hw
    rw [if_pos rfl]
    have q : List.lookup ("code" : Str) [(("code" : Str), v)] = some v := by simp [List.lookup]
    rw [q]
    exact r
  · rw [if_neg hw]
    have qw : (f == ("code" : Str)) = false := by simpa using hw
    have q2 : List.lookup f [(("code" : Str), v)] = none := by simp [List.lookup, qw]
    rw [q2]
    trivial
section
variable {X : Cx} {C fI : Addr}
/-- Refused(e) -/
def tMkRef (C : Addr) (ta : TA) : St → Hp → XK → Prop := fun σ H Q => ta σ H fun vs H1 => ∃ v, vs = [v] ∧ ∀ d, H1 d = none → Q (.ref C) (some d) (upd H1 d (.xd [(("code" : Str), v)]))
theorem pmk_ref {a : Expr} {ta : TA} {p pos : Pos} {k : Nat} (T : PySem.RefX.RefTxt X.K X.mg C fI) (hr : Room k X.A) (ha : PA X [a] ta) (hg : Gl X "Refused" := by rfl)
    (he : starEach (a :: []) X.env = (false, eval a X.env) :: starEach [] X.env := by rfl) (hpl : (backTo pos (starEach [] X.env)).any (·.1) = false := by rfl) :
    PMk X (.Call (.Name "Refused" p) [a] [] pos) (tMkRef C ta) := by
  intro pins s σ H Q I h
  refine wpAny_Call_Name_kw (ld_glob I hg T.gC ?_)
  refine PySem.W.callWith_K (h₀ := X.base) I.ok.mod.kin T.kC (thn (ha.run pos pins s σ H _ I h) fun us s1 hh => ?_) he hpl
  obtain ⟨vs, H1, I1, r1, v, ev, q1⟩ := hh
  subst ev
  refine ⟨I1.kIn, ?_⟩
  cases r1 with
  | cons rv rn =>
    rename_i v' us'
    cases rn
    show wpAny _ _ (call (.ref C) [v']) _ _ _
    have hlim := I1.nolimit
    obtain ⟨hp, g, dr, tk, os⟩ := s1
    refine wpAny_call (PySem.RefX.ref_made T I1.kIn hlim (by have := hr.dp; omega) fun h' tk' e d M => ?_)
    show MkP X pins σ Q (.ref e) ⟨h', g, dr, tk', os⟩
    obtain ⟨oe, fv, hoe, hc, hd, hdat, h1⟩ := M.obj
    have hns := M.ns
    obtain ⟨G', g1, g2⟩ := restrict h' fun b => decide (b ≠ e)
    have gk : ∀ b, b ≠ e → G'.get? b = h'.get? b := fun b hb => g1 b (decide_eq_true hb)
    have ge : G'.get? e = none := g2 e (by simp)
    have old : ∀ b o, hp.get? b = some o → G'.get? b = some o := fun b o q => (gk b (Nat.ne_of_lt (Nat.lt_of_lt_of_le (Heap.lt_size q) M.new))).trans (M.keep b o q)
    have ob : ObjOk X.prog X.w (upd H1 d (.xd [(("code" : Str), v)])) G' d (.xd [(("code" : Str), v)]) :=
      ⟨_, hns.at (fun o q => (gk d M.dne).trans q), fun f => relO_ref rv f⟩
    have J : Inv X pins σ (upd H1 d (.xd [(("code" : Str), v)])) ⟨G', g, dr, tk', os⟩ := I1.laid (t' := tk') old M.dbig ob
    refine ⟨e, oe, fv, ⟨G', g, dr, tk', os⟩, _, .ref C, some d, rfl, J, fun b o q => ?_, ge, hoe, ⟨hc, hd⟩, hdat, h1, ?_, rfl, I1.bare, raises_own T.exC T.tyC, q1 d (I1.hok.fresh M.dbig)⟩
    · by_cases hb : b = e
      · have q' : G'.get? b = some o := q
        rw [hb, ge] at q'; cases q'
      · exact (gk b hb).symm.trans q
    · rw [upd_ne (Ne.symm M.dne)]
      exact I1.hok.fresh M.new
/-- raise Refused(e) -/
def tRaiseRef (C : Addr) (W : WX) (ta : TA) : TS := fun _ σ H => tMkRef C ta σ H fun cls d H' => W cls d σ H'
theorem ps_raiseRef {a : Expr} {ta : TA} {W : WX} {p pos pos2 : Pos} {k : Nat} (hc : X.calm = true) (T : PySem.RefX.RefTxt X.K X.mg C fI) (hr : Room k X.A) (tk : Takes X W) (ha : PA X [a] ta) (hg : Gl X "Refused" := by rfl)
    (he : starEach (a :: []) X.env = (false, eval a X.env) :: starEach [] X.env := by rfl) (hpl : (backTo pos (starEach [] X.env)).any (·.1) = false := by rfl) :
    PS X (.Raise (some (.Call (.Name "Refused" p) [a] [] pos)) none pos2) (tRaiseRef C W ta) := ps_raise hc tk (pmk_ref T hr ha hg he hpl)
/-- refusal.code, refusal the exception that the suite holds (at a; its class cls, its dict d) -/
def tByRef (C : Addr) (a : Addr) (cls : Value) (d : Option Addr) (te : TE) : TE := fun σ H Q => te σ H fun x H1 => x = .ref a ∧ cls = .ref C ∧ ∃ (dd : Addr) (v : V), d = some dd ∧ H1 dd = some (.xd [(("code" : Str), v)]) ∧ Q v H1
theorem pe_byRef {a : Addr} {oe : Obj} {cls : Value} {d : Option Addr} {pn : List (Addr × Obj)} {e : Expr} {te : TE} {pos : Pos} (T : PySem.RefX.RefTxt X.K X.mg C fI) (hz : Zc cls d oe) (hf : ∃ vs, oe.data = .fields vs) (he : PE (X.suite a ((a, oe) :: pn)) e te)
    (hb : attributeBase e "code" X.env (eval e X.env) = eval e X.env := by rfl) :
    PE (X.suite a ((a, oe) :: pn)) (.Attribute e "code" pos) (tByRef C a cls d te) := by
  refine ⟨fun pins s σ H Q I h => ?_⟩
  refine attr_of hb (thn (he.run pins s σ H _ I h) fun u s1 hh => ?_)
  obtain ⟨x, H1, I1, rx, ex, ec, dd, v, ed, ea, q⟩ := hh
  subst ex
  obtain rfl : u = Value.ref a := rx
  subst ec
  subst ed
  obtain ⟨ha, _⟩ := I1.pin (a, oe) (List.mem_append_left _ List.mem_cons_self)
  obtain ⟨vs, hd⟩ := hf
  have hx : ObjOk X.prog X.w H1 s1.heap dd (.xd [(("code" : Str), v)]) := I1.hok dd _ ea
  obtain ⟨mA, hns, hr⟩ := hx
  obtain ⟨od, ho, hl⟩ := lookIn_ns hns
  have l : List.lookup ("code" : Str) [(("code" : Str), v)] = some v := by simp [List.lookup]
  obtain ⟨u, hu, ru⟩ := RelO.some_of (v := v) (o := mA "code") (by rw [← l]; exact hr "code")
  have J : PySem.W.InstAt s1.heap a oe C (some od) := ⟨ha, hz.1, by unfold PySem.W.notCls; rw [hd] <;> rfl, by rw [hz.2]; exact ho⟩
  exact HandSPX.exc_get I1.kIn J T.ga T.gg T.exC (PySem.W.findObj_own T.hdC T.noN rfl (by rw [hl, hu])) (handed_of ru) ⟨v, H1, I1.tok _, ru, q⟩
end
end L2

namespace L2
open PySem PySem.Spec PyProof.Rows
/-- an if whose test is known -/
theorem if_true_of {c : Bool} {A B : Prop} (hc : c = true) (h : A) : if c = true then A else B := by
  rw [if_pos hc]
  exact h
theorem if_false_of {c : Bool} {A B : Prop} (hc : c = false) (h : B) : if c = true then A else B := by
  rw [hc, if_neg Bool.false_ne_true]
  exact h
end L2
namespace Lw
open PySem PySem.Spec PyProof.Rows L2
open PySem.W (Codec)
/-! ### words about heaps -/
theorem same_upd {H : Hp} {p : Addr} {o : HO} (h : H p = none) : Same H (upd H p o) := fun b x e => by
  rw [upd_ne (ne_of_none e h)]
  exact e
/-- a Refused with a code leaves: its own dict d holds the code, all that was tracked stands -/
def Rz (C : Addr) (c : Int) (H : Hp) (E : XK) : Prop := ∀ (H' : Hp) (d : Addr), Same H H' → H' d = some (.xd [(("code" : Str), .int c)]) → E (.ref C) (some d) H'
theorem Rz.mono {C : Addr} {c : Int} {H H1 : Hp} {E : XK} (h : Rz C c H E) (s : Same H H1) : Rz C c H1 E := fun H' d k e => h H' d (s.trans k) e
theorem passR {X : Cx} {E : XK} (tk : Takes X (fun cls d _ H => E cls d H)) : Passes (L2.CX X.prog X.w) X E := passes_call tk fun _ _ _ _ h => h
/-- a module's whole number -/
theorem pgI {X : Cx} {x : Str} {i : Int} {t : Tok} {pos : Pos} (hg : Gl X x) (hm : X.mg x = some (.int i t)) (hd : (x == ("__debug__" : Str)) = false := by decide) : PE X (.Name x pos) (tC (.int i)) := pe_glob hg hm ⟨t, rfl⟩ hd
/-- a vector of natural numbers as values -/
def iV (x : List Nat) : List V := x.map fun (n : Nat) => V.int (n : Int)
theorem iV_length (x : List Nat) : (iV x).length = x.length := by
  unfold iV
  rw [List.length_map]
theorem iV_get {x : List Nat} {i : Nat} {n : Nat} (h : x[i]? = some n) : (iV x)[i]? = some (.int (n : Int)) := by
  unfold iV
  rw [List.getElem?_map, h]
  rfl
theorem ns_get {ns : List Int} {i : Nat} {n : Int} (h : ns[i]? = some n) : (ns.map V.int)[i]? = some (.int n) := by
  rw [List.getElem?_map, h]
  rfl
theorem of_ns_get {ns : List Int} {i : Nat} {v : V} (h : (ns.map V.int)[i]? = some v) : ∃ n, ns[i]? = some n ∧ v = .int n := by
  rw [List.getElem?_map] at h
  cases e : ns[i]? with
  | none =>
    rw [e] at h
    cases h
  | some n =>
    rw [e] at h
    exact ⟨n, rfl, (Option.some.inj h).symm⟩
theorem iV_ints (x : List Int) (h : ∀ n ∈ x, 0 ≤ n) : x.map V.int = iV (x.map Int.toNat) := by
  unfold iV
  rw [List.map_map]
  refine List.map_congr_left fun n hn => ?_
  show V.int n = V.int ((n.toNat : Nat) : Int)
  rw [Int.toNat_of_nonneg (h n hn)]
theorem take_succ {α : Type} {l : List α} {i : Nat} {x : α} (h : l[i]? = some x) : l.take (i + 1) = l.take i ++ [x] := by
  rw [List.take_succ, h]
  rfl
/-! ### the text -/
def topS (i : Nat) : Stmt := PySem.Challenge.pw_leastsums_s02_evaluate.main.body.getD i (.Pass ⟨0, 0, 0, 0⟩)
abbrev sNeed : Stmt := topS 6
abbrev sWithin : Stmt := topS 7
abbrev sNeedC : Stmt := topS 8
theorem scNeed : FnScope ["fulfilled", "code"] ["fulfilled", "code"] (defScope sNeed) := ⟨rfl, rfl, rfl, by decide +kernel, rfl, by decide +kernel, by decide +kernel⟩
theorem scWithin : FnScope ["numbers", "low", "high", "number"] ["numbers", "low", "high"] (defScope sWithin) := ⟨rfl, rfl, rfl, by decide +kernel, rfl, by decide +kernel, by decide +kernel⟩
theorem scNeedC : FnScope ["coefficients"] ["coefficients"] (defScope sNeedC) := ⟨rfl, rfl, rfl, by decide +kernel, rfl, by decide +kernel, by decide +kernel⟩
/-! ### promises -/
def spNeed (C : Addr) : Sp := fun vs H Q E => ∃ (b : Bool) (c : Int), vs = [.bl b, .int c] ∧ (b = false → Rz C c H E) ∧ (b = true → Q .non H)
def within (lo hi : Int) (ns : List Int) : Bool := ns.all fun n => decide (lo ≤ n) && decide (n ≤ hi)
def spWithin (K : PySem.W.Frag) : Sp := fun vs H Q _ => ∃ (a : Addr) (ns : List Int) (lo hi : Int), vs = [.ref a, .int lo, .int hi] ∧ SqL K H a (ns.map V.int) ∧ Q (.bl (within lo hi ns)) H
def okC (ns : List Int) : Bool := Ks605.areValidCoefficients ns
def spNeedC (K : PySem.W.Frag) (C : Addr) : Sp := fun vs H Q E => ∃ (a : Addr) (ns : List Int), vs = [.ref a] ∧ SqL K H a (ns.map V.int) ∧ (okC ns = false → Rz C (-22) H E) ∧ (okC ns = true → Q .non H)
theorem okC_is (ns : List Int) : okC ns = ((decide (1 ≤ ns.length) && decide (ns.length ≤ 4)) && within (-6) 6 ns) := by
  unfold okC Ks605.areValidCoefficients within
  refine congrArg _ (List.all_congr rfl fun v => ?_)
  show decide (v.natAbs ≤ 6) = (decide (-6 ≤ v) && decide (v ≤ 6))
  rw [Bool.eq_iff_iff, Bool.and_eq_true, decide_eq_true_eq, decide_eq_true_eq, decide_eq_true_eq]
  omega
theorem if_true_of {c : Bool} {A B : Prop} (hc : c = true) (h : A) : if c = true then A else B := by
  rw [if_pos hc]
  exact h
theorem if_false_of {c : Bool} {A B : Prop} (hc : c = false) (h : B) : if c = true then A else B := by
  rw [hc, if_neg Bool.false_ne_true]
  exact h
/-- what the top has written that the checks read -/
structure TxtC (K : PySem.W.Frag) (mg : Str → Option Value) (C fI : Addr) : Prop where
  ref : PySem.RefX.RefTxt K mg C fI
  len : mg "len" = none
  out : ∃ t, mg "OUT_OF_LIMITS" = some (.int (-22) t)
  mcs : ∃ t, mg "MOST_COEFFICIENTS" = some (.int 4 t)
  mc : ∃ t, mg "MOST_COEFFICIENT" = some (.int 6 t)
/-- a def as it stands: where it is, how its arguments bind -/
structure At (K : PySem.W.Frag) (mg : Str → Option Value) (x : Str) (st : Stmt) (ps : List Str) (f : Addr) (fd : FuncData) : Prop where
  fn : Fun K x x st f fd
  bn : Binds K fd ps []
  gl : mg x = some (.ref f)
section
variable {P : Program} {w : World} {K : PySem.W.Frag} {mg : Str → Option Value} {base : Heap} {C fI : Addr}
theorem ok_need {f : Addr} {fd : FuncData} (F : Fun K "need" "need" sNeed f fd) (T : TxtC K mg C fI) : FnOk P w K mg base (L2.CX P w) 3 f fd ["fulfilled", "code"] (spNeed C) := by
  refine F.okX scNeed (fun vs H Q E h => ?_) (fun cdv A outer s H vs Q E hr h => ?_)
  · obtain ⟨b, c, rfl, _⟩ := h
    rfl
  · obtain ⟨b, c, rfl, kE, kQ⟩ := h
    refine ⟨_, pss_one (ps_if (pt_not (pt_val (pv 0))) (pss_one (ps_raiseRef rfl T.ref hr (takes_of rfl rfl rfl rfl) (by exact (pa_cons (pv 1) pa_nil)))) pss_nil), ?_⟩
    refine ⟨_, rfl, b, rfl, ?_⟩
    cases b with
    | false => exact ⟨_, rfl, _, rfl, fun d hd => kE rfl _ d (same_upd hd) upd_same⟩
    | true => exact kQ rfl
theorem ok_within {f : Addr} {fd : FuncData} (F : Fun K "are_within" "are_within" sWithin f fd) : FnOk P w K mg base CX0 1 f fd ["numbers", "low", "high"] (spWithin K) := by
  refine F.ok scWithin (fun vs H Q E h => ?_) (fun cdv A outer s H vs Q E hr h => ?_)
  · obtain ⟨a, ns, lo, hi, rfl, _⟩ := h
    rfl
  · obtain ⟨a, ns, lo, hi, rfl, hS, q⟩ := h
    refine ⟨_, pss_cons (ps_for PassesOwn.never rfl (pi_list (pv 0)) (pg_name (i := 3) scWithin.nd rfl (.inl rfl))
        (pss_one (ps_if (pt_not (pt_chain op_le op_le (pv 1) (pv 3) (pv 2))) (pss_one (ps_ret pe_bl)) pss_nil)))
      (pss_one (ps_ret pe_bl)), ?_⟩
    refine ⟨_, rfl, a, rfl, ⟨_, hS⟩, for_list (K := K) (a := a) (xs := ns.map V.int) (fun i σ H' => ∃ v : Option V, σ = [some (.ref a), some (.int lo), some (.int hi), v] ∧ H' = H ∧ within lo hi (ns.take i) = true)
      ⟨none, rfl, rfl, rfl⟩ (fun i σ H' _ ⟨_, _, e, _⟩ => by rw [e]; exact hS) ?_ ?_⟩
    · rintro i y σ H' hi' ⟨v, rfl, rfl, hw⟩
      obtain ⟨n, hn, rfl⟩ := of_ns_get hi'
      have e : within lo hi (ns.take (i + 1)) = (decide (lo ≤ n) && decide (n ≤ hi)) := by
        unfold within at hw ⊢
        rw [take_succ hn, List.all_append, hw]
        simp
      have bad : (decide (lo ≤ n) && decide (n ≤ hi)) = false → within lo hi ns = false := fun hb => by
        unfold within
        rw [List.all_eq_false]
        exact ⟨n, List.mem_of_getElem? hn, by rw [hb]; decide⟩
      refine ⟨_, rfl, _, rfl, _, _, rfl, rfl, _, rfl, ?_⟩
      by_cases c1 : lo ≤ n
      · refine if_true_of (decide_eq_true c1) ⟨_, rfl, _, _, rfl, rfl, _, rfl, ?_⟩
        by_cases c2 : n ≤ hi
        · rw [decide_eq_true c2]
          refine if_false_of rfl ⟨_, rfl, rfl, ?_⟩
          rw [e, decide_eq_true c1, decide_eq_true c2]
          rfl
        · rw [decide_eq_false c2]
          refine if_true_of rfl ?_
          have := bad (by rw [decide_eq_false c2, Bool.and_false])
          rw [this] at q
          exact q
      · refine if_false_of (decide_eq_false c1) ⟨_, rfl, ?_⟩
        refine if_true_of rfl ?_
        have := bad (by rw [decide_eq_false c1, Bool.false_and])
        rw [this] at q
        exact q
    · rintro σ H' ⟨v, rfl, rfl, hw⟩
      rw [List.length_map, List.take_length] at hw
      rw [hw] at q
      exact q
theorem ok_needC {f fN fW : Addr} {fd fdN fdW : FuncData} (F : Fun K "need_coefficients" "need_coefficients" sNeedC f fd) (T : TxtC K mg C fI)
    (N : At K mg "need" sNeed ["fulfilled", "code"] fN fdN) (W : At K mg "are_within" sWithin ["numbers", "low", "high"] fW fdW) : FnOk P w K mg base (L2.CX P w) 4 f fd ["coefficients"] (spNeedC K C) := by
  have GN : FnOk P w K mg base (L2.CX P w) 3 fN fdN ["fulfilled", "code"] (spNeed C) := ok_need N.fn T
  have GW : FnOk P w K mg base CX0 1 fW fdW ["numbers", "low", "high"] (spWithin K) := ok_within W.fn
  obtain ⟨t1, m1⟩ := T.out
  obtain ⟨t2, m2⟩ := T.mcs
  obtain ⟨t3, m3⟩ := T.mc
  refine F.okX scNeedC (fun vs H Q E h => ?_) (fun cdv A outer s H vs Q E hr h => ?_)
  · obtain ⟨a, ns, rfl, _⟩ := h
    rfl
  · obtain ⟨a, ns, rfl, hS, kE, kQ⟩ := h
    refine ⟨_, pss_cons (ps_expr (pe_call GN hr rfl N.gl N.fn.kp N.bn .nil (passR (takes_of rfl rfl rfl rfl)) (pa_cons (pe_chain op_le op_le pe_int (pe_callB call_len_seq (by rfl) T.len PySem.boot_len (pa_cons (pv 0) pa_nil)) (pgI rfl m2)) (pa_cons (pgI rfl m1) pa_nil))))
      (pss_one (ps_expr (pe_call GN hr rfl N.gl N.fn.kp N.bn .nil (passR (takes_of rfl rfl rfl rfl)) (pa_cons (pe_call GW (hr.mono (by decide)) rfl W.gl W.fn.kp W.bn .nil pass0 (pa_cons (pv 0) (pa_cons (pe_op op_sub pe_int (pgI rfl m3)) (pa_cons (pgI rfl m3) pa_nil)))) (pa_cons (pgI rfl m1) pa_nil))))), ?_⟩
    have e := okC_is ns
    have second : within (-6) 6 ns = true → decide (1 ≤ ns.length) = true → decide (ns.length ≤ 4) = true → Q .non H := fun h1 h2 h3 => kQ (by rw [e, h1, h2, h3]; rfl)
    have no1 : decide (1 ≤ ns.length) = false → okC ns = false := fun h => by rw [e, h, Bool.false_and, Bool.false_and]
    have no2 : decide (ns.length ≤ 4) = false → okC ns = false := fun h => by rw [e, h, Bool.and_false, Bool.false_and]
    have no3 : within (-6) 6 ns = false → okC ns = false := fun h => by rw [e, h, Bool.and_false]
    have goal2 : decide (1 ≤ ns.length) = true → decide (ns.length ≤ 4) = true → ∃ (b : Bool) (c : Int), [V.bl (within (-6) 6 ns), V.int (-22)] = [V.bl b, V.int c] ∧ (b = false → Rz C c H E) ∧ (b = true → Q .non H) :=
      fun h1 h2 => ⟨_, _, rfl, fun h => kE (no3 h), fun h => second h h1 h2⟩
    have len1 : ((ns.map V.int).length : Int) = (ns.length : Int) := by rw [List.length_map]
    refine ⟨_, rfl, a, _, rfl, .inl hS, _, _, rfl, rfl, _, rfl, ?_⟩
    rw [len1]
    by_cases c1 : 1 ≤ ns.length
    · refine if_true_of (decide_eq_true (by omega)) ⟨_, _, rfl, rfl, ?_⟩
      by_cases c2 : ns.length ≤ 4
      · refine ⟨_, _, rfl, fun h => ?_, fun _ => ?_⟩
        · rw [decide_eq_true (by omega)] at h
          cases h
        · exact ⟨_, rfl, _, _, rfl, rfl, a, ns, _, _, rfl, hS, goal2 (decide_eq_true c1) (decide_eq_true c2)⟩
      · refine ⟨_, _, rfl, fun h => kE (no2 (decide_eq_false c2)), fun h => ?_⟩
        rw [decide_eq_false (by omega)] at h
        cases h
    · refine if_false_of (decide_eq_false (by omega)) ⟨_, _, rfl, fun h => kE (no1 (decide_eq_false c1)), fun h => ?_⟩
      cases h
end
end Lw
namespace Lw
open PySem PySem.Spec PyProof.Rows L2
open PySem.W (Codec)
/-! ### need_vector, form_value -/
abbrev sNeedV : Stmt := topS 9
abbrev sForm : Stmt := topS 11
theorem scNeedV : FnScope ["coefficients", "x"] ["coefficients", "x"] (defScope sNeedV) := ⟨rfl, rfl, rfl, by decide +kernel, rfl, by decide +kernel, by decide +kernel⟩
theorem scForm : FnScope ["coefficients", "x", "found", "k"] ["coefficients", "x"] (defScope sForm) := ⟨rfl, rfl, rfl, by decide +kernel, rfl, by decide +kernel, by decide +kernel⟩
def okV (ns xs : List Int) : Bool := okC ns && (decide (xs.length = ns.length) && within 0 12 xs)
def spNeedV (K : PySem.W.Frag) (C : Addr) : Sp := fun vs H Q E => ∃ (a : Addr) (ns : List Int) (b : Addr) (xs : List Int), vs = [.ref a, .ref b] ∧ SqL K H a (ns.map V.int) ∧ SqL K H b (xs.map V.int) ∧
  (okV ns xs = false → Rz C (-22) H E) ∧ (okV ns xs = true → Q .non H)
def spForm (K : PySem.W.Frag) : Sp := fun vs H Q _ => ∃ (a : Addr) (ns : List Int) (b : Addr) (x : List Nat), vs = [.ref a, .ref b] ∧ SqL K H a (ns.map V.int) ∧ SqL K H b (iV x) ∧ ns.length = x.length ∧ ns.length ≤ 4 ∧ (∀ n ∈ ns, n.natAbs ≤ 6) ∧
  Q (.int (Ks605.evaluate ns x)) H
theorem okV_len {ns xs : List Int} (h : okV ns xs = true) : okC ns = true ∧ xs.length = ns.length ∧ within 0 12 xs = true := by
  unfold okV at h
  rw [Bool.and_eq_true, Bool.and_eq_true, decide_eq_true_eq] at h
  exact h
theorem okC_len {ns : List Int} (h : okC ns = true) : 1 ≤ ns.length ∧ ns.length ≤ 4 ∧ ∀ n ∈ ns, n.natAbs ≤ 6 := by
  unfold okC Ks605.areValidCoefficients at h
  rw [Bool.and_eq_true, Bool.and_eq_true, decide_eq_true_eq, decide_eq_true_eq, List.all_eq_true] at h
  exact ⟨h.1.1, h.1.2, fun n hn => of_decide_eq_true (h.2 n hn)⟩
theorem within_nn {xs : List Int} (h : within 0 12 xs = true) : ∀ n ∈ xs, 0 ≤ n ∧ n ≤ 12 := fun n hn => by
  unfold within at h
  have := List.all_eq_true.mp h n hn
  rw [Bool.and_eq_true, decide_eq_true_eq, decide_eq_true_eq] at this
  exact this
/-- a whole number at a place of a list -/
theorem atI0 {xs : List V} {i : Nat} {v : V} (h : xs[i]? = some v) : atI xs (0 + (i : Int)) = some v := by
  rw [Int.zero_add]
  exact atI_nat h
def evT (a : List Int) (x : List Nat) (i : Nat) : Int := (((a.zip x).map fun p => p.1 * (p.2 : Int)).take i).foldl (· + ·) 0
theorem evT_zero (a : List Int) (x : List Nat) : evT a x 0 = 0 := rfl
theorem evT_end {a : List Int} {x : List Nat} (h : a.length = x.length) : evT a x a.length = Ks605.evaluate a x := by
  unfold evT Ks605.evaluate
  rw [List.take_of_length_le]
  rw [List.length_map, List.length_zip]
  omega
theorem evT_succ {a : List Int} {x : List Nat} {i : Nat} {n : Int} {m : Nat} (h1 : a[i]? = some n) (h2 : x[i]? = some m) : evT a x (i + 1) = evT a x i + n * (m : Int) := by
  unfold evT
  have e : ((a.zip x).map fun p => p.1 * (p.2 : Int))[i]? = some (n * (m : Int)) := by
    have ez : (a.zip x)[i]? = some (n, m) := List.getElem?_zip_eq_some.mpr ⟨h1, h2⟩
    rw [List.getElem?_map, ez]
    rfl
  rw [take_succ e, List.foldl_append]
  rfl
theorem get_some {α : Type} {l : List α} {i : Nat} (h : i < l.length) : ∃ x, l[i]? = some x ∧ x ∈ l := ⟨l[i], List.getElem?_eq_getElem h, List.getElem_mem h⟩
structure TxtV (K : PySem.W.Frag) (mg : Str → Option Value) : Prop where
  len : mg "len" = none
  range : mg "range" = none
section
variable {P : Program} {w : World} {K : PySem.W.Frag} {mg : Str → Option Value} {base : Heap} {C fI : Addr}
theorem ok_needV {f fC fN fW : Addr} {fd fdC fdN fdW : FuncData} (F : Fun K "need_vector" "need_vector" sNeedV f fd) (T : TxtC K mg C fI) (mx : ∃ t, mg "MOST_ELEMENT" = some (.int 12 t))
    (NC : At K mg "need_coefficients" sNeedC ["coefficients"] fC fdC) (N : At K mg "need" sNeed ["fulfilled", "code"] fN fdN) (W : At K mg "are_within" sWithin ["numbers", "low", "high"] fW fdW) :
    FnOk P w K mg base (L2.CX P w) 5 f fd ["coefficients", "x"] (spNeedV K C) := by
  have GC : FnOk P w K mg base (L2.CX P w) 4 fC fdC ["coefficients"] (spNeedC K C) := ok_needC NC.fn T N W
  have GN : FnOk P w K mg base (L2.CX P w) 3 fN fdN ["fulfilled", "code"] (spNeed C) := ok_need N.fn T
  have GW : FnOk P w K mg base CX0 1 fW fdW ["numbers", "low", "high"] (spWithin K) := ok_within W.fn
  obtain ⟨t1, m1⟩ := T.out
  obtain ⟨t2, m2⟩ := mx
  refine F.okX scNeedV (fun vs H Q E h => ?_) (fun cdv A outer s H vs Q E hr h => ?_)
  · obtain ⟨a, ns, b, xs, rfl, _⟩ := h
    rfl
  · obtain ⟨a, ns, b, xs, rfl, hS, hX, kE, kQ⟩ := h
    refine ⟨_, pss_cons (ps_expr (pe_call GC hr rfl NC.gl NC.fn.kp NC.bn .nil (passR (takes_of rfl rfl rfl rfl)) (pa_cons (pv 0) pa_nil)))
      (pss_one (ps_expr (pe_call GN (hr.mono (by decide)) rfl N.gl N.fn.kp N.bn .nil (passR (takes_of rfl rfl rfl rfl)) (pa_cons
        (pe_and (pe_cmpR op_eq (pe_callB call_len_seq (by rfl) T.len PySem.boot_len (pa_cons (pv 1) pa_nil)) (pe_callB call_len_seq (by rfl) T.len PySem.boot_len (pa_cons (pv 0) pa_nil)) (nomark _))
          (pe_one (pe_call GW (hr.mono (by decide)) rfl W.gl W.fn.kp W.bn .nil pass0 (pa_cons (pv 1) (pa_cons pe_int (pa_cons (pgI rfl m2) pa_nil))))))
        (pa_cons (pgI rfl m1) pa_nil))))), ?_⟩
    refine ⟨_, rfl, a, ns, rfl, hS, fun h => kE (by unfold okV; rw [h, Bool.false_and]), fun hC => ?_⟩
    have e : okV ns xs = (decide (xs.length = ns.length) && within 0 12 xs) := by
      unfold okV
      rw [hC, Bool.true_and]
    have e1 : decide (V.int ((xs.map V.int).length : Int) = V.int ((ns.map V.int).length : Int)) = decide (xs.length = ns.length) := by
      rw [List.length_map, List.length_map, Bool.eq_iff_iff, decide_eq_true_eq, decide_eq_true_eq, V.int.injEq]
      omega
    refine ⟨_, rfl, b, _, rfl, .inl hX, _, rfl, a, _, rfl, .inl hS, rfl, _, rfl, ?_⟩
    rw [e1]
    by_cases c : xs.length = ns.length
    · refine if_true_of (decide_eq_true c) ⟨_, rfl, b, xs, _, _, rfl, hX, _, _, rfl, fun h => kE ?_, fun h => kQ ?_⟩
      · rw [e, h, Bool.and_false]
      · rw [e, h, decide_eq_true c]
        rfl
    · refine if_false_of (decide_eq_false c) ⟨_, _, rfl, fun h => kE ?_, fun h => ?_⟩
      · rw [e, decide_eq_false c, Bool.false_and]
      · cases h
theorem ok_form {f : Addr} {fd : FuncData} (F : Fun K "form_value" "form_value" sForm f fd) (T : TxtV K mg) : FnOk P w K mg base CX0 1 f fd ["coefficients", "x"] (spForm K) := by
  refine F.ok scForm (fun vs H Q E h => ?_) (fun cdv A outer s H vs Q E hr h => ?_)
  · obtain ⟨a, ns, b, x, rfl, _⟩ := h
    rfl
  · obtain ⟨a, ns, b, x, rfl, hS, hX, hl, h4, h6, q⟩ := h
    refine ⟨_, pss_cons (ps_set (i := 2) scForm.nd rfl (.inl rfl) pe_int)
      (pss_cons (ps_for PassesOwn.never rfl (pi_range1 rfl T.range (pa_cons (pe_callB call_len_seq (by rfl) T.len PySem.boot_len (pa_cons (pv 0) pa_nil)) pa_nil)) (pg_name (i := 3) scForm.nd rfl (.inl rfl))
        (pss_one (ps_aug (i := 2) scForm.nd rfl (.inl rfl) (pe_op op_mul (pe_ix ix_list (pv 0) (pv 3) (fun _ _ => rfl)) (pe_ix ix_list (pv 1) (pv 3) (fun _ _ => rfl))) ip_add)))
      (pss_one (ps_ret (pv 2)))), ?_⟩
    have hlen : (ns.map V.int).length = ns.length := List.length_map ..
    refine ⟨_, rfl, a, _, rfl, .inl hS, _, rfl, by omega, by omega, ?_⟩
    refine for_range (lo := 0) (n := ((ns.map V.int).length : Int).toNat) (fun i σ H' => ∃ v : Option V, σ = [some (.ref a), some (.ref b), some (.int (evT ns x i)), v] ∧ H' = H) ⟨none, rfl, rfl⟩ ?_ ?_
    · rintro i σ H' hi ⟨v, rfl, rfl⟩
      have hi' : i < ns.length := by omega
      obtain ⟨n, hn, hm⟩ := get_some hi'
      obtain ⟨m, hx, _⟩ := get_some (l := x) (i := i) (by omega)
      have hb := h6 n hm
      refine ⟨_, rfl, _, rfl, _, rfl, a, _, _, _, rfl, rfl, hS, atI0 (ns_get hn), _, rfl, _, rfl, b, _, _, _, rfl, rfl, hX, atI0 (iV_get hx), n, m, rfl, rfl, .inl ⟨by omega, by omega⟩, _, _, rfl, rfl, ?_⟩
      refine ⟨some (.int (0 + (i : Int))), ?_, rfl⟩
      rw [evT_succ hn hx]
      rfl
    · rintro σ H' ⟨v, rfl, rfl⟩
      refine ⟨_, rfl, ?_⟩
      have e : ((ns.map V.int).length : Int).toNat = ns.length := by omega
      rw [e, evT_end hl]
      exact q
end
end Lw
namespace Lw
open PySem PySem.Spec PyProof.Rows L2
open PySem.W (Codec)
/-! ### what an operation answers: a refusal's code, or numbers -/
inductive Res where
  | bad (c : Int)
  | good (l : List Int)
def Res.list : Res → List Int
  | .bad c => [c]
  | .good l => l
/-- the two ways out of an answering def -/
def Ways2 (C : Addr) (r : Res) (H : Hp) (Q : VK) (E : XK) : Prop := (∀ c, r = .bad c → Rz C c H E) ∧ (∀ l, r = .good l → ∀ (H' : Hp) (p : Addr), Same H H' → H' p = some (.lst (l.map V.int)) → Q (.ref p) H')
theorem Ways2.bad {C : Addr} {r : Res} {H : Hp} {Q : VK} {E : XK} (h : Ways2 C r H Q E) {c : Int} (e : r = .bad c) : Rz C c H E := h.1 c e
theorem Ways2.good {C : Addr} {r : Res} {H : Hp} {Q : VK} {E : XK} (h : Ways2 C r H Q E) {l : List Int} (e : r = .good l) {H' : Hp} {p : Addr} (s : Same H H') (hp : H' p = some (.lst (l.map V.int))) : Q (.ref p) H' := h.2 l e H' p s hp
/-- the way out of the outermost def -/
def Out (r : Res) (H : Hp) (Q : VK) : Prop := ∀ (H' : Hp) (p : Addr), H' p = some (.lst (r.list.map V.int)) → Q (.ref p) H'
end Lw
namespace Lw
open PySem PySem.Spec PyProof.Rows L2
open PySem.W (Codec)
/-! ### value_answer -/
abbrev sVal : Stmt := topS 13
theorem scVal : FnScope ["coefficients", "x", "value"] ["coefficients", "x"] (defScope sVal) := ⟨rfl, rfl, rfl, by decide +kernel, rfl, by decide +kernel, by decide +kernel⟩
def valR (ns xs : List Int) : Res := if okV ns xs = true then .good [if Ks605.isSolution ns (xs.map Int.toNat) then 1 else 0, Ks605.evaluate ns (xs.map Int.toNat)] else .bad (-22)
def sp2 (K : PySem.W.Frag) (C : Addr) (r : List Int → List Int → Res) : Sp := fun vs H Q E => ∃ (a : Addr) (ns : List Int) (b : Addr) (xs : List Int), vs = [.ref a, .ref b] ∧ SqL K H a (ns.map V.int) ∧ SqL K H b (xs.map V.int) ∧ Ways2 C (r ns xs) H Q E
def spTop2 (K : PySem.W.Frag) (r : List Int → List Int → Res) : Sp := fun vs H Q _ => ∃ (a : Addr) (ns : List Int) (b : Addr) (xs : List Int), vs = [.ref a, .ref b] ∧ SqL K H a (ns.map V.int) ∧ SqL K H b (xs.map V.int) ∧ Out (r ns xs) H Q
section
variable {P : Program} {w : World} {K : PySem.W.Frag} {mg : Str → Option Value} {base : Heap} {C fI : Addr}
theorem ok_val {f fV fF : Addr} {fd fdV fdF : FuncData} (F : Fun K "value_answer" "value_answer" sVal f fd) (mi : mg "int" = none)
    (NV : At K mg "need_vector" sNeedV ["coefficients", "x"] fV fdV) (GV : FnOk P w K mg base (L2.CX P w) 5 fV fdV ["coefficients", "x"] (spNeedV K C))
    (NF : At K mg "form_value" sForm ["coefficients", "x"] fF fdF) (GF : FnOk P w K mg base CX0 1 fF fdF ["coefficients", "x"] (spForm K)) :
    FnOk P w K mg base (L2.CX P w) 6 f fd ["coefficients", "x"] (sp2 K C valR) := by
  refine F.okX scVal (fun vs H Q E h => ?_) (fun cdv A outer s H vs Q E hr h => ?_)
  · obtain ⟨a, ns, b, xs, rfl, _⟩ := h
    rfl
  · obtain ⟨a, ns, b, xs, rfl, hS, hX, k⟩ := h
    refine ⟨_, pss_cons (ps_expr (pe_call GV hr rfl NV.gl NV.fn.kp NV.bn .nil (passR (takes_of rfl rfl rfl rfl)) (pa_cons (pv 0) (pa_cons (pv 1) pa_nil))))
      (pss_cons (ps_set (i := 2) scVal.nd rfl (.inl rfl) (pe_call GF (hr.mono (by decide)) rfl NF.gl NF.fn.kp NF.bn .nil pass0 (pa_cons (pv 0) (pa_cons (pv 1) pa_nil))))
      (pss_one (ps_ret (pe_lst (pa_cons (pe_callTy call_int1 (by rfl) mi (by decide +kernel) (pa_cons (pe_cmpR op_eq (pv 2) pe_int (nomark _)) pa_nil)) (pa_cons (pv 2) pa_nil)))))), ?_⟩
    refine ⟨_, rfl, _, rfl, a, ns, b, xs, rfl, hS, hX, fun h => k.bad (by unfold valR; rw [if_neg (by rw [h]; decide)]), fun h => ?_⟩
    obtain ⟨hC, hl, hw⟩ := okV_len h
    have hnn := within_nn hw
    have c6 := okC_len hC
    refine ⟨_, rfl, _, rfl, a, ns, b, xs.map Int.toNat, rfl, hS, by rw [← iV_ints xs fun n hn => (hnn n hn).1]; exact hX, by rw [List.length_map, hl], c6.2.1, c6.2.2, ?_⟩
    refine ⟨_, rfl, rfl, .inr ⟨_, rfl, ?_⟩⟩
    refine ⟨_, rfl, (by show 2 ≤ sizeLine; decide), fun p hp => ?_⟩
    refine k.good (by unfold valR; rw [if_pos h]) (same_upd hp) ?_
    rw [upd_same]
    have e : (if decide (V.int (Ks605.evaluate ns (xs.map Int.toNat)) = V.int 0) = true then (1 : Int) else 0) = if Ks605.isSolution ns (xs.map Int.toNat) then 1 else 0 := by
      unfold Ks605.isSolution
      by_cases c : Ks605.evaluate ns (xs.map Int.toNat) = 0
      · rw [c]
        rfl
      · rw [if_neg (by rw [decide_eq_true_eq, V.int.injEq]; exact c), if_neg (by rw [beq_iff_eq]; exact c)]
    rw [e]
    rfl
end
end Lw
namespace Lw
open PySem PySem.Spec PyProof.Rows L2
open PySem.W (Codec)
/-! ### the outermost def: try: return answer(coefficients, x) except Refused as refusal: return [refusal.code] -/
abbrev sTop : Stmt := topS 15
theorem scTop : FnScope ["coefficients", "x", "refusal"] ["coefficients", "x"] (defScope sTop) := ⟨rfl, rfl, rfl, by decide +kernel, rfl, by decide +kernel, by decide +kernel⟩
section
variable {P : Program} {w : World} {K : PySem.W.Frag} {mg : Str → Option Value} {base : Heap} {C fI : Addr}
theorem ok_top {kk : Nat} {f fA : Addr} {fd fdA : FuncData} {r : List Int → List Int → Res} {sA : Stmt} (F : Fun K "evaluate" "evaluate" sTop f fd) (ref : PySem.RefX.RefTxt K mg C fI)
    (NA : At K mg "value_answer" sA ["coefficients", "x"] fA fdA) (GA : FnOk P w K mg base (L2.CX P w) kk fA fdA ["coefficients", "x"] (sp2 K C r)) :
    FnOk P w K mg base CX0 (kk + 1) f fd ["coefficients", "x"] (spTop2 K r) := by
  refine F.ok scTop (fun vs H Q E h => ?_) (fun cdv A outer s H vs Q E hr h => ?_)
  · obtain ⟨a, ns, b, xs, rfl, _⟩ := h
    rfl
  · obtain ⟨a, ns, b, xs, rfl, hS, hX, k⟩ := h
    refine ⟨_, pss_one (ps_try_as (i := 2) (tb := fun W => tRet (tCallS (sp2 K C r) (WE W) (tCons (tVar 0) (tCons (tVar 1) tNil)))) (ts := fun a cls d => tRet (tLst (tCons (tByRef C a cls d (tVar 2)) tNil))) (Wout := fun _ _ _ _ => False) rfl rfl scTop.nd rfl rfl ⟨rfl, by decide, Or.inl ref.gC⟩ takes0
      (fun W pn xe tk _ => pss_one (ps_ret (by exact (pe_callS GA hr rfl NA.gl NA.fn.kp NA.bn (fun σ => passAt tk σ) (by exact (pa_cons (pv 0) (pa_cons (pv 1) pa_nil)))))))
      (fun a oe cls d pn hz hf => pss_one (ps_ret (by exact (pe_lst (pa_cons (pe_byRef ref hz hf (pv 2)) pa_nil)))))), ?_⟩
    refine ⟨_, rfl, _, rfl, a, ns, b, xs, rfl, hS, hX, fun c hc => ?_, fun l hl => ?_⟩
    · intro H' d hs hd
      refine ⟨true, ref.te, fun _ a0 _ => ?_, fun q => Bool.noConfusion q⟩
      refine ⟨_, rfl, rfl, rfl, d, _, rfl, hd, (by show 1 ≤ sizeLine; decide), fun p hp => ?_⟩
      refine k _ p ?_
      rw [upd_same, hc]
      rfl
    · intro H' p hs hp
      refine k H' p ?_
      rw [hp, hl]
      rfl
end
end Lw
namespace Lw
open PySem PySem.Spec PyProof.Rows L2
open PySem.W (Codec)
/-! ### the end -/
theorem in_list {lo hi : Int} {least most : Nat} {l : List Int} (h : Codec.within (.list least most (.int lo hi)) l = true) : l.length ≤ most ∧ ∀ n ∈ l, lo ≤ n ∧ n ≤ hi := by
  unfold Codec.within Codec.inList Codec.inLen Codec.inNat at h
  simp only [Bool.and_eq_true, decide_eq_true_eq, List.all_eq_true] at h
  refine ⟨by omega, fun n hn => ?_⟩
  have := h.2 n hn
  unfold Codec.within Codec.inInt at this
  simp only [Bool.and_eq_true, decide_eq_true_eq] at this
  exact this
theorem valid_iff {ns xs : List Int} (h0 : ∀ n ∈ xs, 0 ≤ n) : Ks605.isValidVector ns.length (xs.map Int.toNat) = (decide (xs.length = ns.length) && within 0 12 xs) := by
  unfold Ks605.isValidVector within
  have e1 : ((xs.map Int.toNat).length == ns.length) = decide (xs.length = ns.length) := by
    rw [List.length_map, Bool.eq_iff_iff, beq_iff_eq, decide_eq_true_eq]
  rw [e1, List.all_map]
  congr 1
  rw [Bool.eq_iff_iff, List.all_eq_true, List.all_eq_true]
  constructor
  · intro h n hn
    have h1 := of_decide_eq_true (h n hn)
    have h2 := h0 n hn
    rw [Bool.and_eq_true, decide_eq_true_eq, decide_eq_true_eq]
    omega
  · intro h n hn
    have h1 := h n hn
    rw [Bool.and_eq_true, decide_eq_true_eq, decide_eq_true_eq] at h1
    show decide (n.toNat ≤ 12) = true
    rw [decide_eq_true_eq]
    omega
theorem with_vector {ns xs : List Int} (h0 : ∀ n ∈ xs, 0 ≤ n) (f : Unit → Ks605.Result) : Ks605.withVector ns (xs.map Int.toNat) f = if okV ns xs = true then f () else Ks605.number (-22) := by
  unfold Ks605.withVector Ks605.withCoefficients okV
  show (if okC ns = true then _ else _) = _
  rw [valid_iff h0]
  by_cases c : okC ns = true
  · rw [if_pos c, c, Bool.true_and]
  · rw [if_neg c, if_neg (by rw [Bool.and_eq_true]; exact fun z => c z.1)]
theorem law_is {ns xs : List Int} (h0 : ∀ n ∈ xs, 0 ≤ n) : (valR ns xs).list = PyKs605.evaluate ns xs := by
  show _ = Ks605Neutral.integers (Ks605.withVector ns (xs.map Int.toNat) fun _ => { value := if Ks605.isSolution ns (xs.map Int.toNat) then 1 else 0, rest := [Ks605.evaluate ns (xs.map Int.toNat)] })
  rw [with_vector h0]
  unfold valR
  by_cases c : okV ns xs = true
  · rw [if_pos c, if_pos c]
    rfl
  · rw [if_neg c, if_neg c]
    rfl

end Lw
namespace Lw
open PySem PySem.Spec PyProof.Rows L2
open PySem.W (Codec)
/-- an error of the class at S is what «except S» names -/
theorem exm_self {K : PySem.W.Frag} {S : Addr} (h1 : PySem.W.subIn K (.ref S) (.type "BaseException") = some true) (h2 : PySem.W.isClsIn K S = true) (h3 : PySem.W.typeIn K (.ref S) = some (.type "type")) (h4 : PySem.W.subIn K (.ref S) (.ref S) = some true) :
    PySem.W.exmOne K (.ref S) (.ref S) = some true := by
  have e1 : (PySem.W.subIn K (.ref S) (.type "BaseException") == some true) = true := by rw [h1] <;> rfl
  have e2 : ((PySem.W.clsIn K S).isSome && PySem.W.typeIn K (.ref S) == some (.type "type")) = true := by
    have h2' : (PySem.W.clsIn K S).isSome = true := h2
    rw [h2', h3] <;> rfl
  show (if (PySem.W.subIn K (.ref S) (.type "BaseException") == some true) = true then (if ((PySem.W.clsIn K S).isSome && PySem.W.typeIn K (.ref S) == some (.type "type")) = true then PySem.W.subIn K (.ref S) (.ref S) else none) else none) = some true
  rw [if_pos e1, if_pos e2]
  exact h4
def spRow (K : PySem.W.Frag) : Sp := spTop2 K valR
theorem all_mk {P : Program} {w : World} {K : PySem.W.Frag} {h : Heap} {mg : Str → Option Value} {fa C fI f_need f_are_within f_need_coefficients f_need_vector f_form_value f_value_answer f_evaluate : Addr} (X : K.In h) (G : h.Ns mainGlobals mg) (hfa : mg "evaluate" = some (.ref fa))
    {nm q : Str} {N : Addr} {bs : List Value} {sn : List Str} {sub : List Value} {ab : Bool} {col : Option Bool} {dd : Option Addr} {m0 m1 m2 m3 m5 : Option Value} {odI anI : Option Addr} {slI : Array (Option Value)} {ocI dcI pmI cdI ctI : Value}
    {od_need an_need : Option Addr} {sl_need : Array (Option Value)} {oc_need kV_need dc_need pm_need cd_need ct_need : Value}
    {od_are_within an_are_within : Option Addr} {sl_are_within : Array (Option Value)} {oc_are_within kV_are_within dc_are_within pm_are_within cd_are_within ct_are_within : Value}
    {od_need_coefficients an_need_coefficients : Option Addr} {sl_need_coefficients : Array (Option Value)} {oc_need_coefficients kV_need_coefficients dc_need_coefficients pm_need_coefficients cd_need_coefficients ct_need_coefficients : Value}
    {od_need_vector an_need_vector : Option Addr} {sl_need_vector : Array (Option Value)} {oc_need_vector kV_need_vector dc_need_vector pm_need_vector cd_need_vector ct_need_vector : Value}
    {od_form_value an_form_value : Option Addr} {sl_form_value : Array (Option Value)} {oc_form_value kV_form_value dc_form_value pm_form_value cd_form_value ct_form_value : Value}
    {od_value_answer an_value_answer : Option Addr} {sl_value_answer : Array (Option Value)} {oc_value_answer kV_value_answer dc_value_answer pm_value_answer cd_value_answer ct_value_answer : Value}
    {od_evaluate an_evaluate : Option Addr} {sl_evaluate : Array (Option Value)} {oc_evaluate kV_evaluate dc_evaluate pm_evaluate cd_evaluate ct_evaluate : Value} {t_OUT_OF_LIMITS : Tok} {t_MOST_COEFFICIENTS : Tok} {t_MOST_COEFFICIENT : Tok} {t_MOST_ELEMENT : Tok}
    (aC : PySem.W.nsIn K mainGlobals "Refused" = some (some (.ref C)))
    (xL : K.lookup C = some (excClassObj nm q C N bs [.type "ValueError", .type "Exception", .type "BaseException", .type "object"] true sn sub ab col dd m0 m1 m2 m3 m5 "ValueError.__new__"))
    (sa : PySem.W.findIn K (.ref C) "__setattr__" = some (some (.builtin "object.__setattr__")))
    (ga : PySem.W.findIn K (.ref C) "__getattribute__" = some (some (.builtin "BaseException.__getattribute__")))
    (gg : PySem.W.findIn K (.ref C) "__getattr__" = some none)
    (nb : PySem.W.findIn K (.ref C) "code" = some none)
    (aI : PySem.W.findIn K (.ref C) "__init__" = some (some (.ref fI)))
    (tI : PySem.W.typeIn K (.ref fI) = some (.type "function"))
    (lI : K.lookup fI = some ⟨ocI, odI, .func (PySem.W.fnOf "__init__" "Refused.__init__" (PySem.RefX.iA ⟨8, 17, 8, 21⟩ ⟨8, 23, 8, 27⟩) (PySem.RefX.iB ⟨9, 8, 9, 12⟩ ⟨9, 8, 9, 17⟩ ⟨9, 20, 9, 24⟩ ⟨9, 8, 9, 24⟩) PySem.RefX.iS .none .none dcI pmI anI cdI ctI), slI⟩)
    (cI : PySem.W.codeIn K cdI "Refused.__init__" = true)
    (kC : PySem.W.keepIn K (.ref C) = true)
    (eC : PySem.W.subIn K (.ref C) (.type "BaseException") = some true)
    (tC : PySem.W.typeIn K (.ref C) = some (.type "type"))
    (hC : PySem.W.hasDictIn K C = true)
    (iC : PySem.W.isClsIn K C = true)
    (sC : PySem.W.subIn K (.ref C) (.ref C) = some true)
    (a_need : PySem.W.nsIn K mainGlobals "need" = some (some (.ref f_need)))
    (l_need : K.lookup f_need = some ⟨oc_need, od_need, .func (PySem.W.fnOf "need" "need" (defArgs sNeed) (defBody sNeed) (defScope sNeed) .none kV_need dc_need pm_need an_need cd_need ct_need), sl_need⟩)
    (c_need : PySem.W.codeIn K cd_need "need" = true)
    (k_need : PySem.W.keepIn K (.ref f_need) = true)
    (a_are_within : PySem.W.nsIn K mainGlobals "are_within" = some (some (.ref f_are_within)))
    (l_are_within : K.lookup f_are_within = some ⟨oc_are_within, od_are_within, .func (PySem.W.fnOf "are_within" "are_within" (defArgs sWithin) (defBody sWithin) (defScope sWithin) .none kV_are_within dc_are_within pm_are_within an_are_within cd_are_within ct_are_within), sl_are_within⟩)
    (c_are_within : PySem.W.codeIn K cd_are_within "are_within" = true)
    (k_are_within : PySem.W.keepIn K (.ref f_are_within) = true)
    (a_need_coefficients : PySem.W.nsIn K mainGlobals "need_coefficients" = some (some (.ref f_need_coefficients)))
    (l_need_coefficients : K.lookup f_need_coefficients = some ⟨oc_need_coefficients, od_need_coefficients, .func (PySem.W.fnOf "need_coefficients" "need_coefficients" (defArgs sNeedC) (defBody sNeedC) (defScope sNeedC) .none kV_need_coefficients dc_need_coefficients pm_need_coefficients an_need_coefficients cd_need_coefficients ct_need_coefficients), sl_need_coefficients⟩)
    (c_need_coefficients : PySem.W.codeIn K cd_need_coefficients "need_coefficients" = true)
    (k_need_coefficients : PySem.W.keepIn K (.ref f_need_coefficients) = true)
    (a_need_vector : PySem.W.nsIn K mainGlobals "need_vector" = some (some (.ref f_need_vector)))
    (l_need_vector : K.lookup f_need_vector = some ⟨oc_need_vector, od_need_vector, .func (PySem.W.fnOf "need_vector" "need_vector" (defArgs sNeedV) (defBody sNeedV) (defScope sNeedV) .none kV_need_vector dc_need_vector pm_need_vector an_need_vector cd_need_vector ct_need_vector), sl_need_vector⟩)
    (c_need_vector : PySem.W.codeIn K cd_need_vector "need_vector" = true)
    (k_need_vector : PySem.W.keepIn K (.ref f_need_vector) = true)
    (a_form_value : PySem.W.nsIn K mainGlobals "form_value" = some (some (.ref f_form_value)))
    (l_form_value : K.lookup f_form_value = some ⟨oc_form_value, od_form_value, .func (PySem.W.fnOf "form_value" "form_value" (defArgs sForm) (defBody sForm) (defScope sForm) .none kV_form_value dc_form_value pm_form_value an_form_value cd_form_value ct_form_value), sl_form_value⟩)
    (c_form_value : PySem.W.codeIn K cd_form_value "form_value" = true)
    (k_form_value : PySem.W.keepIn K (.ref f_form_value) = true)
    (a_value_answer : PySem.W.nsIn K mainGlobals "value_answer" = some (some (.ref f_value_answer)))
    (l_value_answer : K.lookup f_value_answer = some ⟨oc_value_answer, od_value_answer, .func (PySem.W.fnOf "value_answer" "value_answer" (defArgs sVal) (defBody sVal) (defScope sVal) .none kV_value_answer dc_value_answer pm_value_answer an_value_answer cd_value_answer ct_value_answer), sl_value_answer⟩)
    (c_value_answer : PySem.W.codeIn K cd_value_answer "value_answer" = true)
    (k_value_answer : PySem.W.keepIn K (.ref f_value_answer) = true)
    (a_evaluate : PySem.W.nsIn K mainGlobals "evaluate" = some (some (.ref f_evaluate)))
    (l_evaluate : K.lookup f_evaluate = some ⟨oc_evaluate, od_evaluate, .func (PySem.W.fnOf "evaluate" "evaluate" (defArgs sTop) (defBody sTop) (defScope sTop) .none kV_evaluate dc_evaluate pm_evaluate an_evaluate cd_evaluate ct_evaluate), sl_evaluate⟩)
    (c_evaluate : PySem.W.codeIn K cd_evaluate "evaluate" = true)
    (k_evaluate : PySem.W.keepIn K (.ref f_evaluate) = true)
    (m_OUT_OF_LIMITS : PySem.W.nsIn K mainGlobals "OUT_OF_LIMITS" = some (some (.int (-22) t_OUT_OF_LIMITS)))
    (m_MOST_COEFFICIENTS : PySem.W.nsIn K mainGlobals "MOST_COEFFICIENTS" = some (some (.int 4 t_MOST_COEFFICIENTS)))
    (m_MOST_COEFFICIENT : PySem.W.nsIn K mainGlobals "MOST_COEFFICIENT" = some (some (.int 6 t_MOST_COEFFICIENT)))
    (m_MOST_ELEMENT : PySem.W.nsIn K mainGlobals "MOST_ELEMENT" = some (some (.int 12 t_MOST_ELEMENT)))
    (z_len : PySem.W.nsIn K mainGlobals "len" = some none)
    (z_range : PySem.W.nsIn K mainGlobals "range" = some none)
    (z_int : PySem.W.nsIn K mainGlobals "int" = some none) :
    ∃ fd : FuncData, (∀ (s : Shared) (us : List Value), us.length = (["coefficients", "x"] : List Str).length → BindsTo s fd ⟨us, []⟩ ((["coefficients", "x"] : List Str).zip us)) ∧ ∀ base : Heap, K.In base → base.Ns mainGlobals mg → FnOk P w K mg base CX0 7 fa fd ["coefficients", "x"] (spRow K) := by
  have e := hfa.symm.trans (PySem.W.mg_of X G a_evaluate)
  cases e
  have ref : PySem.RefX.RefTxt K mg C fI :=
    { gC := PySem.W.mg_of X G aC, cls := ⟨nm, q, N, bs, _, sn, sub, ab, col, dd, m0, m1, m2, m3, m5, xL, by decide +kernel⟩, sa := sa, ga := ga, gg := gg, noN := nb, iC := aI, tC := tI, kC := kC, exC := eC, tyC := tC, hdC := hC, te := exm_self eC iC tC sC,
      fn := ⟨_, _, _, _, _, _, _, _, _, _, _, _, _, _, lI, cI⟩ }
  have F_need := fun_mk (st := sNeed) l_need c_need k_need
  have N_need : At K mg "need" sNeed ["fulfilled", "code"] _ _ := ⟨F_need, F_need.binds (ps := ["fulfilled", "code"]) (fun _ _ _ _ _ _ us hl => match us, hl with | [_, _], _ => rfl), PySem.W.mg_of X G a_need⟩
  have F_are_within := fun_mk (st := sWithin) l_are_within c_are_within k_are_within
  have N_are_within : At K mg "are_within" sWithin ["numbers", "low", "high"] _ _ := ⟨F_are_within, F_are_within.binds (ps := ["numbers", "low", "high"]) (fun _ _ _ _ _ _ us hl => match us, hl with | [_, _, _], _ => rfl), PySem.W.mg_of X G a_are_within⟩
  have F_need_coefficients := fun_mk (st := sNeedC) l_need_coefficients c_need_coefficients k_need_coefficients
  have N_need_coefficients : At K mg "need_coefficients" sNeedC ["coefficients"] _ _ := ⟨F_need_coefficients, F_need_coefficients.binds (ps := ["coefficients"]) (fun _ _ _ _ _ _ us hl => match us, hl with | [_], _ => rfl), PySem.W.mg_of X G a_need_coefficients⟩
  have F_need_vector := fun_mk (st := sNeedV) l_need_vector c_need_vector k_need_vector
  have N_need_vector : At K mg "need_vector" sNeedV ["coefficients", "x"] _ _ := ⟨F_need_vector, F_need_vector.binds (ps := ["coefficients", "x"]) (fun _ _ _ _ _ _ us hl => match us, hl with | [_, _], _ => rfl), PySem.W.mg_of X G a_need_vector⟩
  have F_form_value := fun_mk (st := sForm) l_form_value c_form_value k_form_value
  have N_form_value : At K mg "form_value" sForm ["coefficients", "x"] _ _ := ⟨F_form_value, F_form_value.binds (ps := ["coefficients", "x"]) (fun _ _ _ _ _ _ us hl => match us, hl with | [_, _], _ => rfl), PySem.W.mg_of X G a_form_value⟩
  have F_value_answer := fun_mk (st := sVal) l_value_answer c_value_answer k_value_answer
  have N_value_answer : At K mg "value_answer" sVal ["coefficients", "x"] _ _ := ⟨F_value_answer, F_value_answer.binds (ps := ["coefficients", "x"]) (fun _ _ _ _ _ _ us hl => match us, hl with | [_, _], _ => rfl), PySem.W.mg_of X G a_value_answer⟩
  have F_evaluate := fun_mk (st := sTop) l_evaluate c_evaluate k_evaluate
  have N_evaluate : At K mg "evaluate" sTop ["coefficients", "x"] _ _ := ⟨F_evaluate, F_evaluate.binds (ps := ["coefficients", "x"]) (fun _ _ _ _ _ _ us hl => match us, hl with | [_, _], _ => rfl), PySem.W.mg_of X G a_evaluate⟩
  have M_OUT_OF_LIMITS := PySem.W.mg_of X G m_OUT_OF_LIMITS
  have M_MOST_COEFFICIENTS := PySem.W.mg_of X G m_MOST_COEFFICIENTS
  have M_MOST_COEFFICIENT := PySem.W.mg_of X G m_MOST_COEFFICIENT
  have M_MOST_ELEMENT := PySem.W.mg_of X G m_MOST_ELEMENT
  have Z_len := PySem.W.mg_none_of X G z_len
  have Z_range := PySem.W.mg_none_of X G z_range
  have Z_int := PySem.W.mg_none_of X G z_int
  refine ⟨PySem.W.fnOf "evaluate" "evaluate" (defArgs sTop) (defBody sTop) (defScope sTop) .none kV_evaluate dc_evaluate pm_evaluate an_evaluate cd_evaluate ct_evaluate, fun s us hu => match us, hu with | [_, _], _ => .of_eq rfl, fun base _ _ => ?_⟩
  have TC : TxtC K mg C fI := ⟨ref, Z_len, ⟨_, M_OUT_OF_LIMITS⟩, ⟨_, M_MOST_COEFFICIENTS⟩, ⟨_, M_MOST_COEFFICIENT⟩⟩
  have TV : TxtV K mg := ⟨Z_len, Z_range⟩
  exact ok_top N_evaluate.fn ref N_value_answer (ok_val N_value_answer.fn Z_int N_need_vector (ok_needV N_need_vector.fn TC ⟨_, M_MOST_ELEMENT⟩ N_need_coefficients N_need N_are_within) N_form_value (ok_form N_form_value.fn TV))
end Lw
open PySem PySem.W PyProof.Rows
set_option maxRecDepth 100000 in
set_option maxHeartbeats 8000000 in
theorem PySem.Challenge.cw_leastsums_s02_evaluate_holds : PySem.Challenge.rw_leastsums_s02_evaluate.Holds := by
  w_on; k_headS; (case hw => exact ⟨[.list [], .list []], by decide +kernel, by decide +kernel⟩)
  k_fillS
  refine L2.walk_specK (r := PySem.Challenge.rw_leastsums_s02_evaluate) (k := 7) (CX := L2.CX0) (ps := ["coefficients", "x"]) (sp := Lw.spRow) (by decide +kernel) rfl rfl ⟨rfl, by decide, by decide⟩ (fun w h Y => PySem.W.kIn_of Y) ?F ?S (fun _ _ _ _ z => z)
  case F =>
    intro w mg fa h Y KX G hmg
    refine' Lw.all_mk KX G hmg ?aC ?xL ?sa ?ga ?gg ?nb ?aI ?tI ?lI ?cI ?kC ?eC ?tC ?hC ?iC ?sC ?a_need ?l_need ?c_need ?k_need ?a_are_within ?l_are_within ?c_are_within ?k_are_within ?a_need_coefficients ?l_need_coefficients ?c_need_coefficients ?k_need_coefficients ?a_need_vector ?l_need_vector ?c_need_vector ?k_need_vector ?a_form_value ?l_form_value ?c_form_value ?k_form_value ?a_value_answer ?l_value_answer ?c_value_answer ?k_value_answer ?a_evaluate ?l_evaluate ?c_evaluate ?k_evaluate ?m_OUT_OF_LIMITS ?m_MOST_COEFFICIENTS ?m_MOST_COEFFICIENT ?m_MOST_ELEMENT ?z_len ?z_range ?z_int
    (case aC => k_is); (case xL => k_is); (case sa => k_is); (case ga => k_is); (case gg => k_is); (case nb => k_is)
    (case aI => k_is); (case tI => k_is); (case lI => k_is); (case cI => k_is); (case kC => k_is); (case eC => k_is)
    (case tC => k_is); (case hC => k_is); (case iC => k_is); (case sC => first | rfl | k_is); (case a_need => k_is); (case l_need => k_is)
    (case c_need => k_is); (case k_need => k_is); (case a_are_within => k_is); (case l_are_within => k_is); (case c_are_within => k_is); (case k_are_within => k_is)
    (case a_need_coefficients => k_is); (case l_need_coefficients => k_is); (case c_need_coefficients => k_is); (case k_need_coefficients => k_is); (case a_need_vector => k_is); (case l_need_vector => k_is)
    (case c_need_vector => k_is); (case k_need_vector => k_is); (case a_form_value => k_is); (case l_form_value => k_is); (case c_form_value => k_is); (case k_form_value => k_is)
    (case a_value_answer => k_is); (case l_value_answer => k_is); (case c_value_answer => k_is); (case k_value_answer => k_is); (case a_evaluate => k_is); (case l_evaluate => k_is)
    (case c_evaluate => k_is); (case k_evaluate => k_is); (case m_OUT_OF_LIMITS => k_is); (case m_MOST_COEFFICIENTS => k_is); (case m_MOST_COEFFICIENT => k_is); (case m_MOST_ELEMENT => k_is)
    (case z_len => k_is); (case z_range => k_is); (case z_int => k_is)
  case S =>
    intro K H xs a hO hwi hask hx
    obtain ⟨l1, l2, u⟩ := a
    have w1 := Lw.in_list (show Codec.within (.list 0 6 (.int (-2147483648) 2147483647)) l1 = true from (Bool.and_eq_true _ _ ▸ hwi : _ ∧ _).1)
    have w2 := Lw.in_list (show Codec.within (.list 0 6 (.int 0 4294967295)) l2 = true from (Bool.and_eq_true _ _ ▸ (Bool.and_eq_true _ _ ▸ hwi : _ ∧ _).2 : _ ∧ _).1)
    cases hx with
    | cons h1 h2 =>
      cases h2 with
      | cons h3 h4 =>
        cases h4
        cases h1 with
        | lst hs ha =>
          cases h3 with
          | lst hs' hb =>
            have e := L2.ints_dw l1 _ ha
            subst e
            have e := L2.ints_dw l2 _ hb
            subst e
            refine ⟨_, l1, _, l2, rfl, hs, hs', fun H' p hp => ?_⟩
            rw [Lw.law_is (fun n hn => (w2.2 n hn).1)] at hp
            exact .lst (L2.SqL.of hp) (L2.dw_ints _)
#print axioms PySem.Challenge.cw_leastsums_s02_evaluate_holds

