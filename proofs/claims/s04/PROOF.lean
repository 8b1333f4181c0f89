import PyProof.Rows.All
import Wide.All
import OpenK.AllK
import Wide.FinOn
import PyProof.EqAt
import PyProof.EqKinds
import PyProof.TupleCall
import Open.SpecLaws
import KE.OsGo
import HandS.ForSpec
import HandS.ForMost
import HandS.ExcInit
import KE.SortKeyHeap
import KE.SortData
import KE.KDictDisplayH
import PySem.Challenge.RW_leastsums_s04_count_decompositions
set_option Elab.async false
set_option linter.all false
set_option maxRecDepth 100000
set_option maxHeartbeats 2000000
namespace PySem
namespace RefX
open PySem.W PySem.Calls PyProof.Rows PySem.HandSPX
/-! ### the text of __init__ -/
def iA (p1 p2 : Pos) : Arguments := { posonlyargs := [], args := [{ arg := "self", annotation := none, pos := p1 }, { arg := "code", annotation := none, pos := p2 }], vararg := none, kwonlyargs := [], kw_defaults := [], kwarg := none, defaults := [] }
def iB (q1 q2 q3 q4 : Pos) : List Stmt := [.Assign [.Attribute (.Name "self" q1) "code" q2] (.Name "code" q3) q4]
def iS : Scope := { kind := .function, names := [(PySem.Str.ofString "self", .local), (PySem.Str.ofString "code", .local)], isGenerator := false, isCoroutine := false, more := [] }
/-- what the written part says of Refused, at C, and of its __init__, at fI -/
structure RefTxt (K : Frag) (mg : Str → Option Value) (C fI : Addr) : Prop where
  gC : mg "Refused" = some (.ref C)
  cls : ∃ nm q N bs bm sn sub ab col dd k0 k1 k2 k3 k5, K.lookup C = some (excClassObj nm q C N bs bm true sn sub ab col dd k0 k1 k2 k3 k5 "ValueError.__new__") ∧ refsVE bm = true
  sa : findIn K (.ref C) "__setattr__" = some (some (.builtin "object.__setattr__"))
  ga : findIn K (.ref C) "__getattribute__" = some (some (.builtin "BaseException.__getattribute__"))
  gg : findIn K (.ref C) "__getattr__" = some none
  noN : findIn K (.ref C) "code" = some none
  iC : findIn K (.ref C) "__init__" = some (some (.ref fI))
  tC : typeIn K (.ref fI) = some (.type "function")
  kC : keepIn K (.ref C) = true
  exC : subIn K (.ref C) (.type "BaseException") = some true
  tyC : typeIn K (.ref C) = some (.type "type")
  hdC : hasDictIn K C = true
  te : exmOne K (.ref C) (.ref C) = some true
  fn : ∃ (oc : Value) (od : Option Addr) (doc pm : Value) (an : Option Addr) (cdv ct : Value) (osl : Array (Option Value)) (p1 p2 q1 q2 q3 q4 : Pos),
    K.lookup fI = some ⟨oc, od, .func (fnOf "__init__" "Refused.__init__" (iA p1 p2) (iB q1 q2 q3 q4) iS .none .none doc pm an cdv ct), osl⟩ ∧ codeIn K cdv "Refused.__init__" = true
theorem one_size (v : Value) : [v].length ≤ sizeLine := by
  rw [sizeLine_eq]
  exact (by decide : 1 ≤ 16777216)
theorem kept_but {K : Frag} {h h' : Heap} {x : Addr} (X : K.In h) (hx : K.lookup x = none) (k : ∀ b o, b ≠ x → h.get? b = some o → h'.get? b = some o) : K.In h' := fun a o e =>
  k a o (fun z => by rw [z, hx] at e; cases e) (X a o e)
theorem ldC {M : Model} {s : Shared} {name : Str} {scope : Scope} {L a : Addr} {cd : Value} {m : Str → Option Value} {x : Str} {pos : Pos} {v : Value} {Q : Value → Shared → Prop} {A : Around} {E : Value → Shared → Prop} (hn : s.heap.Ns L m) (hv : m x = some v) (h : Q v s)
    (hk : scope.kind = .function := by rfl) (hl : (envOfC name scope L a cd).kindOf x = some .local := by rfl) (hd : (x == ("__debug__" : Str)) = false := by decide) :
    wpAny M A (eval (.Name x pos) (envOfC name scope L a cd)) Q E s := wpAny_Name (wpAny_loadName_local hk hl hn hv h) hd
/-- what __init__ leaves of a fresh exception at x -/
structure InitEnd (h h' : Heap) (x C dx t1 : Addr) (v : Value) : Prop where
  keep : ∀ b o, b ≠ x → h.get? b = some o → h'.get? b = some o
  obj : h'.get? x = some { cls := .ref C, dict := some dx, data := .fields #[.ref t1, .none, .none, .none, .bool false, .none] }
  dbig : h.objs.size ≤ dx
  dne : dx ≠ x
  ns : h'.Ns1 dx (fun y => if y = "code" then some v else none)
/-- a made Refused -/
structure OwnMade (h h' : Heap) (e C d : Addr) (v : Value) : Prop where
  keep : ∀ b o, h.get? b = some o → h'.get? b = some o
  new : h.objs.size ≤ e
  obj : ∃ oe vs, h'.get? e = some oe ∧ oe.cls = .ref C ∧ oe.dict = some d ∧ oe.data = .fields vs ∧ vs[1]? = some .none
  dbig : h.objs.size ≤ d
  dne : d ≠ e
  ns : h'.Ns1 d (fun y => if y = "code" then some v else none)
section
variable {prog : Program} {w : World} {A : Around} {E : Value → Shared → Prop} {R : Result → Shared → Prop} {s : Shared} {K : Frag} {mg : Str → Option Value} {C fI : Addr}
theorem ref_init (T : RefTxt K mg C fI) {x t0 : Addr} {v : Value} (X : K.In s.heap) (hlim : s.heap.NoLimit) (hx : s.heap.get? x = some (excO C t0)) (hnx : K.lookup x = none) (hroom : A.depth < recursionLimit)
    (hq : ∀ h' tk dx, InitEnd s.heap h' x C dx t0 v → R (.ok (.ret .none)) { s with heap := h', toks := tk }) :
    codeAny (model prog w) A (.call (.ref fI) ⟨[.ref x, v], []⟩) R s := by
  obtain ⟨oc, od, doc, pm, an, cdv, ct, osl, p1, p2, q1, q2, q3, q4, ho, hcd⟩ := T.fn
  obtain ⟨nm, q, N, bs, bm, sn, sub, ab, col, dd, k0, k1, k2, k3, k5, hC, hbm⟩ := T.cls
  have hcl : clsIn K C = some { name := nm, bases := bs, mro := .ref C :: bm, ns := N, qualname := q, hasDict := true, slotNames := sn, subclasses := sub, abstract := ab, collection := col, hasDel := false } := by unfold clsIn; rw [hC] <;> rfl
  refine Att.call_fn (binds := [("self", .ref x), ("code", v)]) X hlim ho hcd hroom (BindsTo.of_eq (by first | rfl | with_unfolding_all rfl)) (by first | rfl | decide | with_unfolding_all rfl) (fun s₁ IC => ?_) rfl rfl rfl
  obtain ⟨h₁, tk₁, rfl⟩ := IC.toInCall.same
  have k : ∀ b o, s.heap.get? b = some o → h₁.get? b = some o := IC.toInCall.keep
  have hn := IC.toInCall.ns
  have hxL : s.heap.objs.size ≠ x := Nat.ne_of_gt (Heap.lt_size hx)
  have X₁ : K.In h₁ := X.keeps k
  have hx₁ := k _ _ hx
  -- self.code = code
  show wpAny _ _ (execs _ _) _ _ _
  refine wpAny_execs_cons (plainObj_wpAny_Assign_Attribute ?_)
  refine ldC (v := v) hn (by first | rfl | with_unfolding_all rfl | kernel_rfl) (ldC (v := .ref x) hn (by first | rfl | with_unfolding_all rfl | kernel_rfl) ?_)
  refine set_plain X₁ (ox := excO C t0) (od := none) ⟨hx₁, rfl, rfl, trivial⟩ T.sa ?_
  refine exc_osa X₁ hx₁ hcl (show refsVE (.ref C :: bm) = true from hbm) rfl T.noN (fun h₃ tk₃ dx k₃ dn dne hx₃ hn₃ => ?_)
  show wpAny _ _ (execs _ _) _ _ _
  have z : s.heap.objs.size < h₁.objs.size := hn.lt
  exact wpAny_execs_nil (hq h₃ tk₃ dx ⟨fun b o hb e => k₃ b o hb (k b o e), hx₃, Nat.le_of_lt (Nat.lt_of_lt_of_le z dn), dne, hn₃⟩)
theorem ref_made (T : RefTxt K mg C fI) {v : Value} (X : K.In s.heap) (hlim : s.heap.NoLimit) (hroom : A.depth + 1 < recursionLimit)
    (hq : ∀ h' tk e d, OwnMade s.heap h' e C d v → R (.ok (.ret (.ref e))) { s with heap := h', toks := tk }) :
    codeAny (model prog w) A (.call (.ref C) ⟨[v], []⟩) R s := by
  obtain ⟨nm, q, N, bs, bm, sn, sub, ab, col, dd, k0, k1, k2, k3, k5, hC, hbm⟩ := T.cls
  obtain ⟨hp, g, dr, tk, os⟩ := s
  have k : ∀ b o, hp.get? b = some o → ((hp.push (kdv_tup [v])).push (excO C hp.objs.size)).get? b = some o := fun b o e => Heap.get?_push_of_some _ (Heap.get?_push_of_some _ e)
  have hget : ((hp.push (kdv_tup [v])).push (excO C hp.objs.size)).get? (hp.objs.size + 1) = some (excO C hp.objs.size) := by heap_get
  have hnx : K.lookup (hp.objs.size + 1) = none := by
    cases e : K.lookup (hp.objs.size + 1) with
    | none => rfl
    | some o =>
      have z : hp.get? (hp.objs.size + 1) = some o := X _ _ e
      exact absurd (Nat.lt_of_succ_lt (Heap.lt_size z)) (Nat.lt_irrefl _)
  refine call_own F.excBase_ValueError (fun X => refsVE_contains X bm hbm) (X _ _ hC) (looks_findIn X T.iC) (fun self => bind_fn X self T.tC) (one_size v) ?_
  refine ref_init (s := ⟨(hp.push (kdv_tup [v])).push (excO C hp.objs.size), g, dr, tk, os⟩) T (X.keeps k) (hlim.keeps k) hget hnx ?_ fun h' tk' dx ⟨k', hx, dn, dne, hns⟩ => ?_
  · show A.depth + 1 < recursionLimit
    exact hroom
  · have old : ∀ b o, hp.get? b = some o → h'.get? b = some o := fun b o e => k' b o (Nat.ne_of_lt (Nat.lt_succ_of_lt (Heap.lt_size e))) (k b o e)
    have z : hp.objs.size + 1 + 1 ≤ dx := by
      first
        | (simpa only [Heap.size_push] using dn)
        | exact dn
        | (have q := dn; rw [Heap.size_push, Heap.size_push] at q; exact q)
    exact ⟨rfl, hq h' tk' (hp.objs.size + 1) dx ⟨old, Nat.le_succ _, ⟨_, _, hx, rfl, rfl, rfl, rfl⟩, Nat.le_trans (Nat.le_trans (Nat.le_succ _) (Nat.le_succ _)) z, dne, hns⟩⟩
end
end RefX
end PySem
namespace L2
open PySem PySem.Spec PyProof.Rows
theorem relO_ref {v : V} {v' : Value} (r : RelV v v') (f : Str) : RelO (List.lookup f [(("code" : Str), v)]) (if f = "code" then some v' else none) := by
  by_cases hw : f = "code"
  · subst hw
    rw [if_pos rfl]
    have q : List.lookup ("code" : Str) [(("code" : Str), v)] = some v := by simp [List.lookup]
    rw [q]
    exact r
  · rw [if_neg hw]
    have qw : (f == ("code" : Str)) = false := by simpa using hw
    have q2 : List.lookup f [(("code" : Str), v)] = none := by simp [List.lookup, qw]
    rw [q2]
    trivial
section
variable {X : Cx} {C fI : Addr}
/-- Refused(e) -/
def tMkRef (C : Addr) (ta : TA) : St → Hp → XK → Prop := fun σ H Q => ta σ H fun vs H1 => ∃ v, vs = [v] ∧ ∀ d, H1 d = none → Q (.ref C) (some d) (upd H1 d (.xd [(("code" : Str), v)]))
theorem pmk_ref {a : Expr} {ta : TA} {p pos : Pos} {k : Nat} (T : PySem.RefX.RefTxt X.K X.mg C fI) (hr : Room k X.A) (ha : PA X [a] ta) (hg : Gl X "Refused" := by rfl)
    (he : starEach (a :: []) X.env = (false, eval a X.env) :: starEach [] X.env := by rfl) (hpl : (backTo pos (starEach [] X.env)).any (·.1) = false := by rfl) :
    PMk X (.Call (.Name "Refused" p) [a] [] pos) (tMkRef C ta) := by
  intro pins s σ H Q I h
  refine wpAny_Call_Name_kw (ld_glob I hg T.gC ?_)
  refine PySem.W.callWith_K (h₀ := X.base) I.ok.mod.kin T.kC (thn (ha.run pos pins s σ H _ I h) fun us s1 hh => ?_) he hpl
  obtain ⟨vs, H1, I1, r1, v, ev, q1⟩ := hh
  subst ev
  refine ⟨I1.kIn, ?_⟩
  cases r1 with
  | cons rv rn =>
    rename_i v' us'
    cases rn
    show wpAny _ _ (call (.ref C) [v']) _ _ _
    have hlim := I1.nolimit
    obtain ⟨hp, g, dr, tk, os⟩ := s1
    refine wpAny_call (PySem.RefX.ref_made T I1.kIn hlim (by have := hr.dp; omega) fun h' tk' e d M => ?_)
    show MkP X pins σ Q (.ref e) ⟨h', g, dr, tk', os⟩
    obtain ⟨oe, fv, hoe, hc, hd, hdat, h1⟩ := M.obj
    have hns := M.ns
    obtain ⟨G', g1, g2⟩ := restrict h' fun b => decide (b ≠ e)
    have gk : ∀ b, b ≠ e → G'.get? b = h'.get? b := fun b hb => g1 b (decide_eq_true hb)
    have ge : G'.get? e = none := g2 e (by simp)
    have old : ∀ b o, hp.get? b = some o → G'.get? b = some o := fun b o q => (gk b (Nat.ne_of_lt (Nat.lt_of_lt_of_le (Heap.lt_size q) M.new))).trans (M.keep b o q)
    have ob : ObjOk X.prog X.w (upd H1 d (.xd [(("code" : Str), v)])) G' d (.xd [(("code" : Str), v)]) :=
      ⟨_, hns.at (fun o q => (gk d M.dne).trans q), fun f => relO_ref rv f⟩
    have J : Inv X pins σ (upd H1 d (.xd [(("code" : Str), v)])) ⟨G', g, dr, tk', os⟩ := I1.laid (t' := tk') old M.dbig ob
    refine ⟨e, oe, fv, ⟨G', g, dr, tk', os⟩, _, .ref C, some d, rfl, J, fun b o q => ?_, ge, hoe, ⟨hc, hd⟩, hdat, h1, ?_, rfl, I1.bare, raises_own T.exC T.tyC, q1 d (I1.hok.fresh M.dbig)⟩
    · by_cases hb : b = e
      · have q' : G'.get? b = some o := q
        rw [hb, ge] at q'; cases q'
      · exact (gk b hb).symm.trans q
    · rw [upd_ne (Ne.symm M.dne)]
      exact I1.hok.fresh M.new
/-- raise Refused(e) -/
def tRaiseRef (C : Addr) (W : WX) (ta : TA) : TS := fun _ σ H => tMkRef C ta σ H fun cls d H' => W cls d σ H'
theorem ps_raiseRef {a : Expr} {ta : TA} {W : WX} {p pos pos2 : Pos} {k : Nat} (hc : X.calm = true) (T : PySem.RefX.RefTxt X.K X.mg C fI) (hr : Room k X.A) (tk : Takes X W) (ha : PA X [a] ta) (hg : Gl X "Refused" := by rfl)
    (he : starEach (a :: []) X.env = (false, eval a X.env) :: starEach [] X.env := by rfl) (hpl : (backTo pos (starEach [] X.env)).any (·.1) = false := by rfl) :
    PS X (.Raise (some (.Call (.Name "Refused" p) [a] [] pos)) none pos2) (tRaiseRef C W ta) := ps_raise hc tk (pmk_ref T hr ha hg he hpl)
/-- refusal.code, refusal the exception that the suite holds (at a; its class cls, its dict d) -/
def tByRef (C : Addr) (a : Addr) (cls : Value) (d : Option Addr) (te : TE) : TE := fun σ H Q => te σ H fun x H1 => x = .ref a ∧ cls = .ref C ∧ ∃ (dd : Addr) (v : V), d = some dd ∧ H1 dd = some (.xd [(("code" : Str), v)]) ∧ Q v H1
theorem pe_byRef {a : Addr} {oe : Obj} {cls : Value} {d : Option Addr} {pn : List (Addr × Obj)} {e : Expr} {te : TE} {pos : Pos} (T : PySem.RefX.RefTxt X.K X.mg C fI) (hz : Zc cls d oe) (hf : ∃ vs, oe.data = .fields vs) (he : PE (X.suite a ((a, oe) :: pn)) e te)
    (hb : attributeBase e "code" X.env (eval e X.env) = eval e X.env := by rfl) :
    PE (X.suite a ((a, oe) :: pn)) (.Attribute e "code" pos) (tByRef C a cls d te) := by
  refine ⟨fun pins s σ H Q I h => ?_⟩
  refine attr_of hb (thn (he.run pins s σ H _ I h) fun u s1 hh => ?_)
  obtain ⟨x, H1, I1, rx, ex, ec, dd, v, ed, ea, q⟩ := hh
  subst ex
  obtain rfl : u = Value.ref a := rx
  subst ec
  subst ed
  obtain ⟨ha, _⟩ := I1.pin (a, oe) (List.mem_append_left _ List.mem_cons_self)
  obtain ⟨vs, hd⟩ := hf
  have hx : ObjOk X.prog X.w H1 s1.heap dd (.xd [(("code" : Str), v)]) := I1.hok dd _ ea
  obtain ⟨mA, hns, hr⟩ := hx
  obtain ⟨od, ho, hl⟩ := lookIn_ns hns
  have l : List.lookup ("code" : Str) [(("code" : Str), v)] = some v := by simp [List.lookup]
  obtain ⟨u, hu, ru⟩ := RelO.some_of (v := v) (o := mA "code") (by rw [← l]; exact hr "code")
  have J : PySem.W.InstAt s1.heap a oe C (some od) := ⟨ha, hz.1, by unfold PySem.W.notCls; rw [hd] <;> rfl, by rw [hz.2]; exact ho⟩
  exact HandSPX.exc_get I1.kIn J T.ga T.gg T.exC (PySem.W.findObj_own T.hdC T.noN rfl (by rw [hl, hu])) (handed_of ru) ⟨v, H1, I1.tok _, ru, q⟩
end
end L2

namespace L2
open PySem PySem.Spec PyProof.Rows
/-- an if whose test is known -/
theorem if_true_of {c : Bool} {A B : Prop} (hc : c = true) (h : A) : if c = true then A else B := by
  rw [if_pos hc]
  exact h
theorem if_false_of {c : Bool} {A B : Prop} (hc : c = false) (h : B) : if c = true then A else B := by
  rw [hc, if_neg Bool.false_ne_true]
  exact h
end L2
namespace Lsm
/-! ### plain laws: vectors of natural numbers -/
abbrev Vec := List Nat

def tStep (acc : Nat) (p : Nat × Nat) : Nat := if 0 < p.1 then min acc (p.2 / p.1) else acc
def timesW (v r : Vec) : Nat := (v.zip r).foldl tStep r.sum
def less (x v : Vec) (t : Nat) : Vec := (x.zip v).map fun p => p.1 - t * p.2
def plus (x v : Vec) (t : Nat) : Vec := (x.zip v).map fun p => p.1 + t * p.2
def fits (t : Nat) (v r : Vec) : Prop := ∀ p ∈ v.zip r, t * p.1 ≤ p.2

theorem fold_tStep (t : Nat) : ∀ (l : List (Nat × Nat)) (acc : Nat), t ≤ l.foldl tStep acc ↔ t ≤ acc ∧ ∀ p ∈ l, t * p.1 ≤ p.2 ∨ p.1 = 0
  | [], acc => by simp
  | p :: l, acc => by
    rw [List.foldl_cons, fold_tStep t l]
    have e : t ≤ tStep acc p ↔ t ≤ acc ∧ (t * p.1 ≤ p.2 ∨ p.1 = 0) := by
      unfold tStep
      by_cases h : 0 < p.1
      · rw [if_pos h, Nat.le_min, Nat.le_div_iff_mul_le h]
        constructor
        · rintro ⟨h1, h2⟩
          exact ⟨h1, .inl h2⟩
        · rintro ⟨h1, h2⟩
          exact ⟨h1, h2.resolve_right (by omega)⟩
      · rw [if_neg h]
        constructor
        · intro h1
          exact ⟨h1, .inr (by omega)⟩
        · exact fun h1 => h1.1
    rw [e]
    constructor
    · rintro ⟨⟨h1, h2⟩, h3⟩
      exact ⟨h1, fun q hq => by
        rcases List.mem_cons.mp hq with rfl | hq
        · exact h2
        · exact h3 q hq⟩
    · rintro ⟨h1, h2⟩
      exact ⟨⟨h1, h2 p List.mem_cons_self⟩, fun q hq => h2 q (List.mem_cons_of_mem _ hq)⟩

theorem mem_le_sum : ∀ {l : List Nat} {a : Nat}, a ∈ l → a ≤ l.sum
  | b :: l, a, h => by
    rw [List.sum_cons]
    rcases List.mem_cons.mp h with rfl | h
    · omega
    · have := mem_le_sum h
      omega

/-- a vector that is not zero: it has a positive element -/
def Pos (v : Vec) : Prop := ∃ a ∈ v, 0 < a

theorem zip_left {v r : Vec} (h : v.length = r.length) {a : Nat} (ha : a ∈ v) : ∃ b ∈ r, (a, b) ∈ v.zip r := by
  obtain ⟨i, hi, e⟩ := List.getElem_of_mem ha
  refine ⟨r[i]'(by omega), List.getElem_mem _, ?_⟩
  rw [← e]
  exact List.mem_iff_getElem.mpr ⟨i, by rw [List.length_zip]; omega, by rw [List.getElem_zip]⟩

theorem le_timesW {v r : Vec} (h : v.length = r.length) (hp : Pos v) (t : Nat) : t ≤ timesW v r ↔ fits t v r := by
  unfold timesW fits
  rw [fold_tStep]
  constructor
  · rintro ⟨_, h2⟩ p hp
    rcases h2 p hp with h | h
    · exact h
    · rw [h]
      omega
  · intro h2
    refine ⟨?_, fun p hp => .inl (h2 p hp)⟩
    obtain ⟨a, ha, h0⟩ := hp
    obtain ⟨b, hb, hab⟩ := zip_left h ha
    have h3 := h2 (a, b) hab
    have h4 := mem_le_sum hb
    have h5 : t ≤ t * a := Nat.le_mul_of_pos_right t h0
    simp only at h3
    omega

theorem contained_iff {v r : Vec} : Ks605.isContained v r = true ↔ fits 1 v r := by
  unfold Ks605.isContained fits
  rw [List.all_eq_true]
  constructor
  · intro h p hp
    have := of_decide_eq_true (h p hp)
    omega
  · intro h p hp
    have := h p hp
    exact decide_eq_true (by omega)

theorem subtract_eq (x y : Vec) : Ks605.subtract x y = less x y 1 := by
  unfold Ks605.subtract less
  simp

theorem less_length {x v : Vec} {t : Nat} (h : x.length = v.length) : (less x v t).length = x.length := by
  unfold less
  rw [List.length_map, List.length_zip]
  omega
theorem plus_length {x v : Vec} {t : Nat} (h : x.length = v.length) : (plus x v t).length = x.length := by
  unfold plus
  rw [List.length_map, List.length_zip]
  omega
theorem less_zero : ∀ {x v : Vec}, x.length = v.length → less x v 0 = x
  | [], [], _ => rfl
  | a :: x, b :: v, h => by
    have := less_zero (x := x) (v := v) (by simpa using h)
    unfold less at this ⊢
    simp only [List.zip_cons_cons, List.map_cons, this]
    simp
theorem less_add : ∀ {x v : Vec} (s t : Nat), x.length = v.length → less (less x v s) v t = less x v (s + t)
  | [], [], _, _, _ => rfl
  | a :: x, b :: v, s, t, h => by
    have := less_add (x := x) (v := v) s t (by simpa using h)
    unfold less at this ⊢
    simp only [List.zip_cons_cons, List.map_cons, this]
    rw [Nat.add_mul]
    congr 1
    omega
theorem fits_cons {t a b : Nat} {v r : Vec} : fits t (a :: v) (b :: r) ↔ t * a ≤ b ∧ fits t v r := by
  unfold fits
  simp [List.zip_cons_cons]
theorem fits_nil {t : Nat} : fits t [] [] := by
  unfold fits
  simp
theorem fits_less : ∀ {v r : Vec} (s t : Nat), v.length = r.length → fits s v r → (fits t v (less r v s) ↔ fits (s + t) v r)
  | [], [], s, t, _, _ => ⟨fun _ => fits_nil, fun _ => fits_nil⟩
  | a :: v, b :: r, s, t, h, h1 => by
    rw [fits_cons] at h1
    have ih := fits_less (v := v) (r := r) s t (by simpa using h) h1.2
    have e : less (b :: r) (a :: v) s = (b - s * a) :: less r v s := rfl
    rw [e, fits_cons, fits_cons, ih, Nat.add_mul]
    have := h1.1
    constructor
    · rintro ⟨h2, h3⟩
      exact ⟨by omega, h3⟩
    · rintro ⟨h2, h3⟩
      exact ⟨by omega, h3⟩
theorem fits_mono {v r : Vec} {s t : Nat} (h : s ≤ t) (ht : fits t v r) : fits s v r := fun p hp => Nat.le_trans (Nat.mul_le_mul_right p.1 h) (ht p hp)
theorem fits_zero {v r : Vec} : fits 0 v r := fun p _ => by omega
theorem timesW_fits {v r : Vec} (h : v.length = r.length) (hp : Pos v) : fits (timesW v r) v r := (le_timesW h hp _).mp (Nat.le_refl _)
theorem timesW_less {v r : Vec} (h : v.length = r.length) (hp : Pos v) (hc : fits 1 v r) : timesW v r = timesW v (less r v 1) + 1 := by
  have hl : v.length = (less r v 1).length := by rw [less_length h.symm, h]
  have h1 : 1 + timesW v (less r v 1) ≤ timesW v r := (le_timesW h hp _).mpr ((fits_less 1 _ h hc).mp (timesW_fits hl hp))
  have h2 : 1 ≤ timesW v r := (le_timesW h hp 1).mpr hc
  have h3 : timesW v r - 1 ≤ timesW v (less r v 1) := (le_timesW hl hp _).mpr ((fits_less 1 _ h hc).mpr (by
    have : 1 + (timesW v r - 1) = timesW v r := by omega
    rw [this]
    exact timesW_fits h hp))
  omega
theorem sum_less : ∀ {v r : Vec}, v.length = r.length → fits 1 v r → (less r v 1).sum + v.sum = r.sum
  | [], [], _, _ => rfl
  | a :: v, b :: r, h, hf => by
    rw [fits_cons] at hf
    have ih := sum_less (v := v) (r := r) (by simpa using h) hf.2
    have e : less (b :: r) (a :: v) 1 = (b - 1 * a) :: less r v 1 := rfl
    rw [e, List.sum_cons, List.sum_cons, List.sum_cons]
    have := hf.1
    omega
theorem pos_sum {v : Vec} (h : Pos v) : 0 < v.sum := by
  obtain ⟨a, ha, h0⟩ := h
  have := mem_le_sum ha
  omega
theorem pos_of_sum : ∀ {v : Vec}, 0 < v.sum → Pos v
  | a :: v, h => by
    by_cases ha : 0 < a
    · exact ⟨a, List.mem_cons_self, ha⟩
    · rw [List.sum_cons] at h
      obtain ⟨b, hb, h0⟩ := pos_of_sum (v := v) (by omega)
      exact ⟨b, List.mem_cons_of_mem _ hb, h0⟩
theorem zero_iff {x : Vec} : (x.all fun v => v == 0) = true ↔ x.sum = 0 := by
  rw [List.all_eq_true]
  constructor
  · intro h
    cases hs : x.sum with
    | zero => rfl
    | succ k =>
      obtain ⟨a, ha, h0⟩ := pos_of_sum (v := x) (by omega)
      have := h a ha
      simp only [beq_iff_eq] at this
      omega
  · intro h a ha
    have := mem_le_sum ha
    simp only [beq_iff_eq]
    omega
theorem not_fits_less {u v r : Vec} (hl : u.length = r.length) (hv : r.length = v.length) (t : Nat) (h : ¬ fits 1 u r) : ¬ fits 1 u (less r v t) := by
  intro hf
  apply h
  clear h
  induction r generalizing u v with
  | nil =>
    cases u with
    | nil => exact fits_nil
    | cons a u => simp at hl
  | cons b r ih =>
    cases u with
    | nil => simp at hl
    | cons a u =>
      cases v with
      | nil => simp at hv
      | cons c v =>
        have e : less (b :: r) (c :: v) t = (b - t * c) :: less r v t := rfl
        rw [e, fits_cons] at hf
        rw [fits_cons]
        refine ⟨by have := hf.1; omega, ih (by simpa using hl) (by simpa using hv) hf.2⟩

/-! ### the greedy decomposition -/
def greedy : List Vec → Vec → List Nat
  | [], _ => []
  | v :: vs, r => timesW v r :: greedy vs (less r v (timesW v r))
def gp (M : List Vec) : Nat → Vec → List Nat
  | 0, _ => []
  | fuel + 1, x =>
    if x.all (fun v => v == 0) then []
    else match M.findIdx? fun y => Ks605.isContained y x with
      | none => []
      | some i => i :: gp M fuel (Ks605.subtract x (M.getD i []))
theorem gp_is (a : List Int) : ∀ (fuel : Nat) (x : Vec), Ks605.greedyParts a fuel x = gp (Ks605.minimalSolutions a) fuel x
  | 0, x => rfl
  | fuel + 1, x => by
    unfold Ks605.greedyParts gp
    split
    · rfl
    · split <;> rename_i h <;> simp only [h]
      rw [gp_is a fuel]
def expand : Nat → List Nat → List Nat
  | _, [] => []
  | j, t :: ts => List.replicate t j ++ expand (j + 1) ts
theorem expand_cons (j t : Nat) (ts : List Nat) : expand j (t :: ts) = List.replicate t j ++ expand (j + 1) ts := rfl
theorem greedy_cons (v : Vec) (vs : List Vec) (r : Vec) : greedy (v :: vs) r = timesW v r :: greedy vs (less r v (timesW v r)) := rfl
theorem greedy_length : ∀ (M : List Vec) (r : Vec), (greedy M r).length = M.length
  | [], _ => rfl
  | v :: vs, r => by
    unfold greedy
    rw [List.length_cons, List.length_cons, greedy_length vs]
theorem expand_ge : ∀ (ts : List Nat) (j i : Nat), i ∈ expand j ts → j ≤ i
  | [], j, i, h => by simp [expand] at h
  | t :: ts, j, i, h => by
    unfold expand at h
    rcases List.mem_append.mp h with h | h
    · have := List.eq_of_mem_replicate h
      omega
    · have := expand_ge ts (j + 1) i h
      omega
theorem expand_count : ∀ (ts : List Nat) (j : Nat), ((List.range' j ts.length).map fun i => ((expand j ts).filter fun k => k == i).length) = ts
  | [], j => rfl
  | t :: ts, j => by
    have ih := expand_count ts (j + 1)
    rw [List.length_cons, List.range'_succ, List.map_cons]
    have e0 : ((expand j (t :: ts)).filter fun k => k == j).length = t := by
      unfold expand
      rw [List.filter_append, List.length_append]
      have h1 : (List.replicate t j).filter (fun k => k == j) = List.replicate t j := by simp
      have h2 : (expand (j + 1) ts).filter (fun k => k == j) = [] := by
        rw [List.filter_eq_nil_iff]
        intro k hk
        have := expand_ge ts (j + 1) k hk
        simp only [beq_iff_eq]
        omega
      rw [h1, h2]
      simp
    rw [e0]
    congr 1
    refine Eq.trans ?_ ih
    refine List.map_congr_left fun i hi => ?_
    have hij : j + 1 ≤ i := (List.mem_range'_1.mp hi).1
    rw [expand_cons, List.filter_append, List.length_append]
    have h1 : (List.replicate t j).filter (fun k => k == i) = [] := by
      rw [List.filter_eq_nil_iff]
      intro k hk
      have := List.eq_of_mem_replicate hk
      simp only [beq_iff_eq]
      omega
    rw [h1]
    simp
theorem find_at {pre rest : List Vec} {v r : Vec} (h1 : ∀ u ∈ pre, ¬ fits 1 u r) (h2 : fits 1 v r) : (pre ++ v :: rest).findIdx? (fun y => Ks605.isContained y r) = some pre.length := by
  rw [List.findIdx?_append]
  have e1 : pre.findIdx? (fun y => Ks605.isContained y r) = none := by
    rw [List.findIdx?_eq_none_iff]
    intro u hu
    cases e : Ks605.isContained u r with
    | false => rfl
    | true => exact absurd (contained_iff.mp e) (h1 u hu)
  have e2 : (v :: rest).findIdx? (fun y => Ks605.isContained y r) = some 0 := by
    rw [List.findIdx?_cons, contained_iff.mpr h2]
    rfl
  rw [e1, e2]
  simp
theorem find_none {M : List Vec} {r : Vec} (h1 : ∀ u ∈ M, ¬ fits 1 u r) : M.findIdx? (fun y => Ks605.isContained y r) = none := by
  rw [List.findIdx?_eq_none_iff]
  intro u hu
  cases e : Ks605.isContained u r with
  | false => rfl
  | true => exact absurd (contained_iff.mp e) (h1 u hu)
theorem gp_none {M : List Vec} {r : Vec} (h1 : ∀ u ∈ M, ¬ fits 1 u r) : ∀ fuel, gp M fuel r = []
  | 0 => rfl
  | fuel + 1 => by
    unfold gp
    rw [find_none h1]
    split <;> rfl
theorem gp_some {pre rest : List Vec} {v r : Vec} {fuel : Nat} (hl : v.length = r.length) (hp : Pos v) (h1 : ∀ u ∈ pre, ¬ fits 1 u r) (h2 : fits 1 v r) :
    gp (pre ++ v :: rest) (fuel + 1) r = pre.length :: gp (pre ++ v :: rest) fuel (less r v 1) := by
  have hz : ¬ (r.all fun v => v == 0) = true := by
    rw [zero_iff]
    have := sum_less hl h2
    have := pos_sum hp
    omega
  have hg : (pre ++ v :: rest).getD pre.length [] = v := by simp
  rw [gp, if_neg hz, find_at h1 h2]
  simp only [hg, subtract_eq]
theorem gp_greedy {n : Nat} : ∀ (rest pre : List Vec) (r : Vec) (fuel : Nat), (∀ u ∈ pre ++ rest, u.length = n ∧ Pos u) → r.length = n → (∀ u ∈ pre, ¬ fits 1 u r) → r.sum < fuel →
    gp (pre ++ rest) fuel r = expand pre.length (greedy rest r)
  | [], pre, r, fuel, hM, hr, hpre, hf => by
    rw [List.append_nil]
    exact gp_none hpre fuel
  | v :: vs, pre, r, fuel, hM, hr, hpre, hf => by
    have hv := hM v (by simp)
    -- the inner induction: how often v still goes in
    have inner : ∀ (t : Nat) (r : Vec) (fuel : Nat), timesW v r = t → r.length = n → (∀ u ∈ pre, ¬ fits 1 u r) → r.sum < fuel → gp (pre ++ v :: vs) fuel r = expand pre.length (greedy (v :: vs) r) := by
      intro t
      induction t with
      | zero =>
        intro r fuel ht hr hpre hf
        have hnf : ¬ fits 1 v r := fun h => by
          have := (le_timesW (hv.1.trans hr.symm) hv.2 1).mpr h
          omega
        have ih := gp_greedy (n := n) vs (pre ++ [v]) r fuel (by simpa using hM) hr (by
          intro u hu
          rcases List.mem_append.mp hu with hu | hu
          · exact hpre u hu
          · have e : u = v := by simpa using hu
            rw [e]
            exact hnf) hf
        rw [List.append_assoc, List.singleton_append] at ih
        rw [ih]
        rw [greedy_cons, ht, less_zero (hr.trans hv.1.symm), expand_cons]
        simp
      | succ s ihs =>
        intro r fuel ht hr hpre hf
        have hl : v.length = r.length := hv.1.trans hr.symm
        have hc : fits 1 v r := (le_timesW hl hv.2 1).mp (by omega)
        obtain ⟨f', rfl⟩ : ∃ f', fuel = f' + 1 := ⟨fuel - 1, by omega⟩
        have hs := sum_less hl hc
        have hps := pos_sum hv.2
        have hts := timesW_less hl hv.2 hc
        rw [gp_some hl hv.2 hpre hc]
        rw [ihs (less r v 1) f' (by omega) (by rw [less_length hl.symm]; exact hr) (fun u hu => not_fits_less ((hM u (by simp [hu])).1.trans hr.symm) hl.symm 1 (hpre u hu)) (by omega)]
        have e1 : timesW v (less r v 1) = s := by omega
        rw [greedy_cons, greedy_cons, e1, ht, less_add 1 s hl.symm, Nat.add_comm 1 s, expand_cons, expand_cons, List.replicate_succ, List.cons_append]
    exact inner _ r fuel rfl hr hpre hf
theorem decompose_is {a : List Int} {x : Vec} {n : Nat} (hM : ∀ u ∈ Ks605.minimalSolutions a, u.length = n ∧ Pos u) (hx : x.length = n) : Ks605.decompose a x = greedy (Ks605.minimalSolutions a) x := by
  unfold Ks605.decompose
  rw [gp_is]
  have h := gp_greedy (n := n) (Ks605.minimalSolutions a) [] x (x.sum + 1) (by simpa using hM) hx (by simp) (by omega)
  rw [List.nil_append] at h
  rw [h]
  have e := expand_count (greedy (Ks605.minimalSolutions a) x) 0
  rw [greedy_length, ← List.range_eq_range'] at e
  exact e
end Lsm
namespace Lsm
/-! ### the number of decompositions -/
def sumTo (f : Nat → Nat) : Nat → Nat
  | 0 => 0
  | n + 1 => sumTo f n + f n
theorem sumTo_succ' (f : Nat → Nat) : ∀ n, sumTo f (n + 1) = f 0 + sumTo (fun i => f (i + 1)) n
  | 0 => by simp [sumTo]
  | n + 1 => by
    rw [sumTo, sumTo_succ' f n, sumTo]
    omega
theorem sumTo_congr {f g : Nat → Nat} : ∀ {n : Nat}, (∀ i, i < n → f i = g i) → sumTo f n = sumTo g n
  | 0, _ => rfl
  | n + 1, h => by
    rw [sumTo, sumTo, sumTo_congr (n := n) fun i hi => h i (by omega), h n (by omega)]
def cnt : List Vec → Vec → Nat
  | [], x => if x.all (fun v => v == 0) then 1 else 0
  | v :: vs, x => sumTo (fun t => cnt vs (less x v t)) (timesW v x + 1)
theorem cnt_nil (x : Vec) : cnt [] x = if x.all (fun v => v == 0) then 1 else 0 := rfl
theorem cnt_cons (v : Vec) (vs : List Vec) (x : Vec) : cnt (v :: vs) x = sumTo (fun t => cnt vs (less x v t)) (timesW v x + 1) := rfl
theorem cnt_step {v x : Vec} {vs : List Vec} (h : v.length = x.length) (hp : Pos v) : cnt (v :: vs) x = cnt vs x + (if Ks605.isContained v x then cnt (v :: vs) (less x v 1) else 0) := by
  rw [cnt_cons, sumTo_succ', less_zero h.symm]
  congr 1
  by_cases hc : Ks605.isContained v x = true
  · rw [if_pos hc, cnt_cons, timesW_less h hp (contained_iff.mp hc)]
    refine sumTo_congr fun i _ => ?_
    rw [less_add 1 i h.symm, Nat.add_comm 1 i]
  · rw [if_neg hc]
    have h0 : timesW v x = 0 := by
      cases e : timesW v x with
      | zero => rfl
      | succ k => exact absurd (contained_iff.mpr ((le_timesW h hp 1).mp (by omega))) hc
    rw [h0]
    rfl
theorem count_is {n : Nat} : ∀ (fuel : Nat) (sols : List Vec) (x : Vec), (∀ u ∈ sols, u.length = n ∧ Pos u) → x.length = n → x.sum + sols.length < fuel → Ks605.countDecompositions sols fuel x = cnt sols x
  | 0, _, _, _, _, h => by omega
  | fuel + 1, [], x, _, _, _ => by
    unfold Ks605.countDecompositions
    rfl
  | fuel + 1, y :: rest, x, hM, hx, h => by
    have hy := hM y List.mem_cons_self
    have hl : y.length = x.length := hy.1.trans hx.symm
    have hlen : (y :: rest).length = rest.length + 1 := rfl
    unfold Ks605.countDecompositions
    simp only []
    rw [cnt_step hl hy.2, count_is fuel rest x (fun u hu => hM u (List.mem_cons_of_mem _ hu)) hx (by omega)]
    congr 1
    by_cases hc : Ks605.isContained y x = true
    · rw [if_pos hc, if_pos hc, subtract_eq]
      have hs := sum_less hl (contained_iff.mp hc)
      have hps := pos_sum hy.2
      exact count_is fuel (y :: rest) _ hM (by rw [less_length hl.symm]; exact hx) (by omega)
    · rw [if_neg hc, if_neg hc]

/-! ### the dict of ways, as a list of pairs -/
abbrev Ways := List (Vec × Nat)
def look (D : Ways) (z : Vec) : Option Nat := (D.find? fun p => decide (p.1 = z)).map (·.2)
def put (D : Ways) (z : Vec) (m : Nat) : Ways := if (D.any fun p => decide (p.1 = z)) = true then D.map fun p => if p.1 = z then (p.1, m) else p else D ++ [(z, m)]
def wsum (D : Ways) (g : Vec → Nat) : Nat := (D.map fun p => p.2 * g p.1).sum
def addTo (D : Ways) (z : Vec) (m : Nat) : Ways := put D z ((look D z).getD 0 + m)
theorem wsum_cons (p : Vec × Nat) (D : Ways) (g : Vec → Nat) : wsum (p :: D) g = p.2 * g p.1 + wsum D g := by
  unfold wsum
  rw [List.map_cons, List.sum_cons]
theorem look_nil (z : Vec) : look [] z = none := rfl
theorem look_cons (p : Vec × Nat) (D : Ways) (z : Vec) : look (p :: D) z = if p.1 = z then some p.2 else look D z := by
  unfold look
  rw [List.find?_cons]
  by_cases h : p.1 = z <;> simp [h]
theorem look_none {D : Ways} {z : Vec} (h : (D.any fun p => decide (p.1 = z)) = false) : look D z = none := by
  unfold look
  rw [Option.map_eq_none_iff, List.find?_eq_none]
  intro p hp
  rw [List.any_eq_false] at h
  exact h p hp
theorem any_keys {D : Ways} {z : Vec} : (D.any fun p => decide (p.1 = z)) = true ↔ z ∈ D.map (·.1) := by
  rw [List.any_eq_true, List.mem_map]
  constructor
  · rintro ⟨p, hp, h⟩
    exact ⟨p, hp, of_decide_eq_true h⟩
  · rintro ⟨p, hp, h⟩
    exact ⟨p, hp, decide_eq_true h⟩
theorem map_keep {D : Ways} {z : Vec} {m : Nat} (h : z ∉ D.map (·.1)) : (D.map fun p => if p.1 = z then (p.1, m) else p) = D := by
  induction D with
  | nil => rfl
  | cons p D ih =>
    rw [List.map_cons, List.mem_cons, not_or] at h
    rw [List.map_cons, ih h.2, if_neg (fun e => h.1 e.symm)]
theorem wsum_map {g : Vec → Nat} {z : Vec} {m : Nat} : ∀ {D : Ways}, (D.map (·.1)).Nodup → z ∈ D.map (·.1) → wsum (D.map fun p => if p.1 = z then (p.1, (look D z).getD 0 + m) else p) g = wsum D g + m * g z
  | [], _, h => by simp at h
  | p :: D, hn, h => by
    rw [List.map_cons, List.nodup_cons] at hn
    by_cases hp : p.1 = z
    · have hz : z ∉ D.map (·.1) := hp ▸ hn.1
      rw [look_cons, if_pos hp, List.map_cons, map_keep hz, if_pos hp]
      unfold wsum
      rw [List.map_cons, List.map_cons, List.sum_cons, List.sum_cons]
      simp only [Option.getD_some, hp, Nat.add_mul]
      omega
    · have hz : z ∈ D.map (·.1) := by
        rcases List.mem_cons.mp h with e | e
        · exact absurd e.symm hp
        · exact e
      have ih := wsum_map (g := g) (m := m) hn.2 hz
      rw [look_cons, if_neg hp, List.map_cons, if_neg hp]
      unfold wsum at ih ⊢
      rw [List.map_cons, List.map_cons, List.sum_cons, List.sum_cons, ih]
      omega
theorem wsum_addTo {D : Ways} {g : Vec → Nat} {z : Vec} {m : Nat} (hn : (D.map (·.1)).Nodup) : wsum (addTo D z m) g = wsum D g + m * g z := by
  unfold addTo put
  by_cases h : (D.any fun p => decide (p.1 = z)) = true
  · rw [if_pos h]
    exact wsum_map hn (any_keys.mp h)
  · rw [if_neg h, look_none (Bool.eq_false_iff.mpr h)]
    unfold wsum
    simp
theorem keys_put (D : Ways) (z : Vec) (m : Nat) : (put D z m).map (·.1) = if z ∈ D.map (·.1) then D.map (·.1) else D.map (·.1) ++ [z] := by
  unfold put
  by_cases h : (D.any fun p => decide (p.1 = z)) = true
  · rw [if_pos h, if_pos (any_keys.mp h), List.map_map]
    refine List.map_congr_left fun p _ => ?_
    show (if p.1 = z then (p.1, m) else p).1 = p.1
    split <;> rfl
  · rw [if_neg h, if_neg (fun e => h (any_keys.mpr e)), List.map_append]
    rfl
theorem nodup_put {D : Ways} {z : Vec} {m : Nat} (hn : (D.map (·.1)).Nodup) : ((put D z m).map (·.1)).Nodup := by
  rw [keys_put]
  by_cases h : z ∈ D.map (·.1)
  · rw [if_pos h]
    exact hn
  · rw [if_neg h, List.nodup_append]
    refine ⟨hn, by simp, fun a ha b hb => ?_⟩
    have e : b = z := by simpa using hb
    rw [e]
    rintro rfl
    exact h ha
theorem keys_sub {D : Ways} {z : Vec} {m : Nat} {u : Vec} (h : u ∈ (put D z m).map (·.1)) : u ∈ D.map (·.1) ∨ u = z := by
  rw [keys_put] at h
  split at h
  · exact .inl h
  · rcases List.mem_append.mp h with h | h
    · exact .inl h
    · exact .inr (by simpa using h)

/-- z within x: as long, each element at most x's -/
structure Within (x z : Vec) : Prop where
  len : z.length = x.length
  le : fits 1 z x
/-- what a dict of ways keeps: no key twice, each within x -/
structure Good (x : Vec) (D : Ways) : Prop where
  nd : (D.map (·.1)).Nodup
  win : ∀ z ∈ D.map (·.1), Within x z
theorem Good.nil (x : Vec) : Good x [] := ⟨by simp, by simp⟩
theorem Good.add {x z : Vec} {D : Ways} {m : Nat} (G : Good x D) (h : Within x z) : Good x (addTo D z m) :=
  ⟨nodup_put G.nd, fun u hu => by
    rcases keys_sub hu with hu | rfl
    · exact G.win u hu
    · exact h⟩

/-- the turns over one key: begun z with n ways -/
def turnW (v : Vec) (z : Vec) (n : Nat) (f : Ways) (t : Nat) : Ways := addTo f (plus z v t) n
def turnsW (v x : Vec) (f : Ways) (p : Vec × Nat) : Ways := (List.range (timesW v (less x p.1 1) + 1)).foldl (turnW v p.1 p.2) f
def oneMore (D : Ways) (v x : Vec) : Ways := D.foldl (turnsW v x) []

theorem plus_within : ∀ {x v z : Vec} {t : Nat}, v.length = x.length → Within x z → fits t v (less x z 1) → Within x (plus z v t)
  | [], [], [], t, _, _, _ => ⟨rfl, fits_nil⟩
  | a :: x, b :: v, c :: z, t, hv, hz, hf => by
    have h1 := hz.le
    rw [fits_cons] at h1
    have e : less (a :: x) (c :: z) 1 = (a - 1 * c) :: less x z 1 := rfl
    rw [e, fits_cons] at hf
    have ih := plus_within (x := x) (v := v) (z := z) (t := t) (by simpa using hv) ⟨by simpa using hz.len, h1.2⟩ hf.2
    refine ⟨by rw [plus_length (hz.len.trans hv.symm)]; exact hz.len, ?_⟩
    have e2 : plus (c :: z) (b :: v) t = (c + t * b) :: plus z v t := rfl
    rw [e2, fits_cons]
    exact ⟨by have := h1.1; have := hf.1; omega, ih.le⟩
  | _ :: _, [], _, _, hv, _, _ => by simp at hv
  | [], _ :: _, _, _, hv, _, _ => by simp at hv
  | [], [], _ :: _, _, _, hz, _ => by have := hz.len; simp at this
  | _ :: _, _ :: _, [], _, _, hz, _ => by have := hz.len; simp at this
theorem less_plus : ∀ {x v z : Vec} {t : Nat}, v.length = x.length → z.length = x.length → less x (plus z v t) 1 = less (less x z 1) v t
  | [], [], [], t, _, _ => rfl
  | a :: x, b :: v, c :: z, t, hv, hz => by
    have ih := less_plus (x := x) (v := v) (z := z) (t := t) (by simpa using hv) (by simpa using hz)
    have e1 : less (a :: x) (plus (c :: z) (b :: v) t) 1 = (a - 1 * (c + t * b)) :: less x (plus z v t) 1 := rfl
    have e2 : less (less (a :: x) (c :: z) 1) (b :: v) t = (a - 1 * c - t * b) :: less (less x z 1) v t := rfl
    rw [e1, e2, ih]
    congr 1
    omega
  | _ :: _, [], _, _, hv, _ => by simp at hv
  | [], _ :: _, _, _, hv, _ => by simp at hv
  | [], [], _ :: _, _, _, hz => by simp at hz
  | _ :: _, _ :: _, [], _, _, hz => by simp at hz
theorem range_more (n : Nat) : List.range (n + 1) = List.range n ++ [n] := List.range_succ
theorem turns_good {x v : Vec} {p : Vec × Nat} {f : Ways} (hv : v.length = x.length) (hp : Pos v) (hw : Within x p.1) (G : Good x f) : ∀ k, k ≤ timesW v (less x p.1 1) + 1 → Good x ((List.range k).foldl (turnW v p.1 p.2) f)
  | 0, _ => by simpa using G
  | k + 1, hk => by
    rw [range_more, List.foldl_append]
    have ih := turns_good (p := p) hv hp hw G k (by omega)
    have hl : v.length = (less x p.1 1).length := by rw [less_length hw.len.symm, hv]
    exact ih.add (plus_within hv hw ((le_timesW hl hp k).mp (by omega)))
theorem turns_sum {x v : Vec} {p : Vec × Nat} {f : Ways} {g : Vec → Nat} (hv : v.length = x.length) (hp : Pos v) (hw : Within x p.1) (G : Good x f) : ∀ k, k ≤ timesW v (less x p.1 1) + 1 →
    wsum ((List.range k).foldl (turnW v p.1 p.2) f) g = wsum f g + p.2 * sumTo (fun t => g (plus p.1 v t)) k
  | 0, _ => by simp [sumTo]
  | k + 1, hk => by
    rw [range_more, List.foldl_append]
    show wsum (addTo _ _ _) g = _
    rw [wsum_addTo (turns_good (p := p) hv hp hw G k (by omega)).nd, turns_sum (p := p) hv hp hw G k (by omega), sumTo, Nat.mul_add]
    omega
theorem more_good {x v : Vec} (hv : v.length = x.length) (hp : Pos v) : ∀ (D f : Ways), (∀ p ∈ D, Within x p.1) → Good x f → Good x (D.foldl (turnsW v x) f)
  | [], _, _, G => G
  | p :: D, f, hD, G => more_good hv hp D _ (fun q hq => hD q (List.mem_cons_of_mem _ hq)) (turns_good hv hp (hD p List.mem_cons_self) G _ (Nat.le_refl _))
theorem more_sum {x v : Vec} {g : Vec → Nat} (hv : v.length = x.length) (hp : Pos v) : ∀ (D f : Ways), (∀ p ∈ D, Within x p.1) → Good x f →
    wsum (D.foldl (turnsW v x) f) g = wsum f g + wsum D (fun z => sumTo (fun t => g (plus z v t)) (timesW v (less x z 1) + 1))
  | [], f, _, G => by simp [wsum]
  | p :: D, f, hD, G => by
    have ih := more_sum (g := g) hv hp D (turnsW v x f p) (fun q hq => hD q (List.mem_cons_of_mem _ hq)) (turns_good hv hp (hD p List.mem_cons_self) G _ (Nat.le_refl _))
    have e : wsum (turnsW v x f p) g = wsum f g + p.2 * sumTo (fun t => g (plus p.1 v t)) (timesW v (less x p.1 1) + 1) := turns_sum hv hp (hD p List.mem_cons_self) G _ (Nat.le_refl _)
    rw [List.foldl_cons, ih, e, wsum_cons, Nat.add_assoc]
theorem wsum_congr {D : Ways} {g h : Vec → Nat} (e : ∀ z ∈ D.map (·.1), g z = h z) : wsum D g = wsum D h := by
  unfold wsum
  congr 1
  refine List.map_congr_left fun p hp => ?_
  rw [e p.1 (List.mem_map_of_mem hp)]
theorem Good.mem {x : Vec} {D : Ways} (G : Good x D) : ∀ p ∈ D, Within x p.1 := fun p hp => G.win p.1 (List.mem_map_of_mem hp)
theorem oneMore_good {x v : Vec} {D : Ways} (hv : v.length = x.length) (hp : Pos v) (G : Good x D) : Good x (oneMore D v x) := more_good hv hp D [] G.mem (Good.nil x)
theorem oneMore_sum {x v : Vec} {D : Ways} {vs : List Vec} (hv : v.length = x.length) (hp : Pos v) (G : Good x D) :
    wsum (oneMore D v x) (fun z => cnt vs (less x z 1)) = wsum D (fun z => cnt (v :: vs) (less x z 1)) := by
  unfold oneMore
  rw [more_sum hv hp D [] G.mem (Good.nil x)]
  have e0 : wsum [] (fun z => cnt vs (less x z 1)) = 0 := rfl
  rw [e0, Nat.zero_add]
  refine wsum_congr fun z hz => ?_
  have hw := G.win z hz
  show sumTo (fun t => cnt vs (less x (plus z v t) 1)) (timesW v (less x z 1) + 1) = cnt (v :: vs) (less x z 1)
  rw [cnt_cons]
  exact sumTo_congr fun t _ => by rw [less_plus hv hw.len]
def waysOf (sols : List Vec) (D : Ways) (x : Vec) : Ways := sols.foldl (fun D v => oneMore D v x) D
theorem waysOf_sum {x : Vec} : ∀ (sols : List Vec) (D : Ways), (∀ u ∈ sols, u.length = x.length ∧ Pos u) → Good x D → Good x (waysOf sols D x) ∧
    wsum (waysOf sols D x) (fun z => cnt [] (less x z 1)) = wsum D (fun z => cnt sols (less x z 1))
  | [], D, _, G => ⟨G, rfl⟩
  | v :: vs, D, hM, G => by
    have hv := hM v List.mem_cons_self
    have G1 := oneMore_good hv.1 hv.2 G
    have ih := waysOf_sum vs (oneMore D v x) (fun u hu => hM u (List.mem_cons_of_mem _ hu)) G1
    refine ⟨ih.1, ih.2.trans (oneMore_sum hv.1 hv.2 G)⟩
theorem less_self_zero : ∀ {x z : Vec}, Within x z → ((less x z 1).all (fun v => v == 0) = true ↔ z = x)
  | [], [], _ => by simp [less]
  | a :: x, c :: z, hw => by
    have h1 := hw.le
    rw [fits_cons] at h1
    have ih := less_self_zero (x := x) (z := z) ⟨by simpa using hw.len, h1.2⟩
    have e : less (a :: x) (c :: z) 1 = (a - 1 * c) :: less x z 1 := rfl
    rw [e, List.all_cons, Bool.and_eq_true, ih, List.cons.injEq, beq_iff_eq]
    have := h1.1
    constructor
    · rintro ⟨h, h'⟩
      exact ⟨by omega, h'⟩
    · rintro ⟨h, h'⟩
      exact ⟨by omega, h'⟩
  | _ :: _, [], hw => by have := hw.len; simp at this
  | [], _ :: _, hw => by have := hw.len; simp at this
theorem wsum_end {x : Vec} : ∀ {D : Ways}, Good x D → wsum D (fun z => cnt [] (less x z 1)) = (look D x).getD 0
  | [], _ => rfl
  | p :: D, G => by
    have hn := G.nd
    rw [List.map_cons, List.nodup_cons] at hn
    have G' : Good x D := ⟨hn.2, fun z hz => G.win z (List.mem_cons_of_mem _ hz)⟩
    have hw := G.win p.1 List.mem_cons_self
    have ih := wsum_end G'
    unfold wsum at ih ⊢
    rw [List.map_cons, List.sum_cons, ih, look_cons]
    show p.2 * cnt [] (less x p.1 1) + _ = _
    rw [cnt_nil]
    by_cases h : p.1 = x
    · rw [if_pos ((less_self_zero hw).mpr h), if_pos h]
      have hnone : look D x = none := by
        refine look_none ?_
        rw [← Bool.not_eq_true]
        intro e
        exact hn.1 (h ▸ any_keys.mp e)
      rw [hnone]
      simp
    · rw [if_neg (fun e => h ((less_self_zero hw).mp e)), if_neg h]
      omega
def zeros (n : Nat) : Vec := List.replicate n 0
theorem zeros_within : ∀ x : Vec, Within x (zeros x.length)
  | [] => ⟨rfl, fits_nil⟩
  | a :: x => by
    have ih := zeros_within x
    refine ⟨by simp [zeros], ?_⟩
    have e : zeros (a :: x).length = 0 :: zeros x.length := rfl
    rw [e, fits_cons]
    exact ⟨by omega, ih.le⟩
theorem less_zeros : ∀ x : Vec, less x (zeros x.length) 1 = x
  | [] => rfl
  | a :: x => by
    have e : less (a :: x) (zeros (a :: x).length) 1 = (a - 1 * 0) :: less x (zeros x.length) 1 := rfl
    rw [e, less_zeros x]
    simp
def numberOfWays (sols : List Vec) (x : Vec) : Nat := (look (waysOf sols [(zeros x.length, 1)] x) x).getD 0
theorem start_good (x : Vec) : Good x [(zeros x.length, 1)] := ⟨by simp, fun z hz => by
  have e : z = zeros x.length := by simpa using hz
  rw [e]
  exact zeros_within x⟩
theorem numberOfWays_is {sols : List Vec} {x : Vec} (hM : ∀ u ∈ sols, u.length = x.length ∧ Pos u) : numberOfWays sols x = Ks605.countDecompositions sols (x.sum + sols.length + 1) x := by
  rw [count_is (n := x.length) _ sols x hM rfl (by omega)]
  obtain ⟨G, h⟩ := waysOf_sum sols [(zeros x.length, 1)] hM (start_good x)
  unfold numberOfWays
  rw [← wsum_end G, h]
  unfold wsum
  simp [less_zeros]

/-! ### how many keys -/
def box (b : Nat) : Nat → List Vec
  | 0 => [[]]
  | n + 1 => (List.range b).flatMap fun e => (box b n).map fun r => e :: r
theorem box_mem {b : Nat} : ∀ {x : Vec}, (∀ e ∈ x, e < b) → x ∈ box b x.length
  | [], _ => by simp [box]
  | e :: x, h => by
    rw [List.length_cons, box, List.mem_flatMap]
    exact ⟨e, List.mem_range.mpr (h e List.mem_cons_self), List.mem_map_of_mem (box_mem fun a ha => h a (List.mem_cons_of_mem _ ha))⟩
theorem flat_length {α β : Type} {k : Nat} {f : α → List β} : ∀ {l : List α}, (∀ a ∈ l, (f a).length = k) → (l.flatMap f).length = l.length * k
  | [], _ => by simp
  | a :: l, h => by
    rw [List.flatMap_cons, List.length_append, h a List.mem_cons_self, flat_length fun b hb => h b (List.mem_cons_of_mem _ hb), List.length_cons, Nat.add_mul]
    omega
theorem box_length (b : Nat) : ∀ n, (box b n).length = b ^ n
  | 0 => rfl
  | n + 1 => by
    unfold box
    rw [flat_length (k := b ^ n) fun e _ => by rw [List.length_map, box_length b n], List.length_range, Nat.pow_succ, Nat.mul_comm]
theorem within_elem {x z : Vec} {b : Nat} (hw : Within x z) (hx : ∀ e ∈ x, e < b) : ∀ e ∈ z, e < b := by
  intro e he
  obtain ⟨c, hc, hz⟩ := zip_left hw.len he
  have := hw.le (e, c) hz
  have := hx c hc
  simp only at *
  omega
theorem keys_bound {x : Vec} {D : Ways} (G : Good x D) (hl : x.length ≤ 4) (hx : ∀ e ∈ x, e < 13) : D.length ≤ 28561 := by
  have h1 : (D.map (·.1)).length ≤ (box 13 x.length).length := List.Nodup.length_le_of_subset G.nd fun z hz => by
    have hw := G.win z hz
    have := box_mem (within_elem hw hx)
    rw [hw.len] at this
    exact this
  rw [List.length_map, box_length] at h1
  have h2 : 13 ^ x.length ≤ 13 ^ 4 := Nat.pow_le_pow_right (by decide) hl
  have h3 : (13 : Nat) ^ 4 = 28561 := by decide
  omega
end Lsm
namespace Lsm
/-! ### all vectors -/
def grow (F : List Vec) : List Vec := F.flatMap fun v => (List.range 7).map fun e => v ++ [e]
def allV : Nat → List Vec
  | 0 => [[]]
  | n + 1 => grow (allV n)
theorem bounded_box : ∀ n, Ks605.boundedVectors n = box 7 n
  | 0 => rfl
  | n + 1 => by
    show (List.range 7).flatMap (fun first => (Ks605.boundedVectors n).map fun rest => first :: rest) = (List.range 7).flatMap fun e => (box 7 n).map fun r => e :: r
    rw [bounded_box n]
theorem box_succ (b n : Nat) : box b (n + 1) = (List.range b).flatMap fun e => (box b n).map fun r => e :: r := rfl
theorem box_grow : ∀ n, box 7 (n + 1) = grow (box 7 n)
  | 0 => by decide
  | n + 1 => by
    rw [box_succ 7 (n + 1)]
    conv => lhs; rw [box_grow n]
    conv => rhs; rw [box_succ 7 n]
    unfold grow
    rw [List.flatMap_assoc]
    refine congrArg (fun f => (List.range 7).flatMap f) (funext fun e => ?_)
    rw [List.flatMap_map, List.map_flatMap]
    refine congrArg (fun f => (box 7 n).flatMap f) (funext fun r => ?_)
    rw [List.map_map]
    rfl
theorem allV_box : ∀ n, allV n = box 7 n
  | 0 => rfl
  | n + 1 => by
    rw [allV, allV_box n, box_grow]
theorem allV_is (n : Nat) : allV n = Ks605.boundedVectors n := (allV_box n).trans (bounded_box n).symm
theorem allV_length (n : Nat) : (allV n).length = 7 ^ n := by rw [allV_box, box_length]
theorem box_len {b : Nat} : ∀ {n : Nat} {x : Vec}, x ∈ box b n → x.length = n
  | 0, x, h => by
    have e : x = [] := by simpa [box] using h
    rw [e]
    rfl
  | n + 1, x, h => by
    rw [box_succ, List.mem_flatMap] at h
    obtain ⟨e, _, h⟩ := h
    obtain ⟨r, hr, rfl⟩ := List.mem_map.mp h
    rw [List.length_cons, box_len hr]
theorem allV_len {n : Nat} {x : Vec} (h : x ∈ allV n) : x.length = n := box_len (b := 7) (by rw [← allV_box]; exact h)
theorem range_pw : ∀ n, (List.range n).Pairwise (· < ·) := fun n => List.pairwise_lt_range
theorem box_pw (b : Nat) : ∀ n, (box b n).Pairwise (fun x y : Vec => x < y)
  | 0 => by simp [box]
  | n + 1 => by
    rw [box_succ, List.pairwise_flatMap]
    refine ⟨fun e _ => ?_, ?_⟩
    · rw [List.pairwise_map]
      refine (box_pw b n).imp fun {x y} h => ?_
      rw [List.cons_lt_cons_iff]
      exact .inr ⟨rfl, h⟩
    · refine (range_pw b).imp fun {i j} h x hx y hy => ?_
      obtain ⟨r, _, rfl⟩ := List.mem_map.mp hx
      obtain ⟨s, _, rfl⟩ := List.mem_map.mp hy
      rw [List.cons_lt_cons_iff]
      exact .inl h
theorem box_nodup (b n : Nat) : (box b n).Nodup := (box_pw b n).imp fun {x y} h e => by
  rw [e] at h
  exact List.lt_irrefl y h
theorem box_head : ∀ n, ∃ r, box 7 n = zeros n :: r
  | 0 => ⟨[], rfl⟩
  | n + 1 => by
    obtain ⟨r, h⟩ := box_head n
    rw [box_succ, h]
    refine ⟨(r.map fun x => 0 :: x) ++ (List.range' 1 6).flatMap fun e => (zeros n :: r).map fun x => e :: x, ?_⟩
    have e : List.range 7 = 0 :: List.range' 1 6 := by decide
    rw [e, List.flatMap_cons, List.map_cons]
    rfl
theorem nz_iff {x : Vec} {n : Nat} (h : x.length = n) : (x.any fun v => v != 0) = true ↔ x ≠ zeros n := by
  rw [List.any_eq_true]
  constructor
  · rintro ⟨a, ha, h0⟩ e
    rw [e] at ha
    have := List.eq_of_mem_replicate ha
    simp [this] at h0
  · intro hne
    refine Classical.byContradiction fun hn => hne ?_
    refine List.eq_replicate_iff.mpr ⟨h, fun b hb => ?_⟩
    refine Classical.byContradiction fun hb0 => hn ⟨b, hb, by simpa using hb0⟩
/-- the small solutions of the program are the specification's -/
theorem small_is (a : List Int) : ((allV a.length).drop 1).filter (fun v => Ks605.evaluate a v == 0) = Ks605.nonzeroSolutions a := by
  unfold Ks605.nonzeroSolutions
  rw [bounded_box, allV_box]
  obtain ⟨r, h⟩ := box_head a.length
  have hn := box_nodup 7 a.length
  have hl : ∀ x ∈ box 7 a.length, x.length = a.length := fun x hx => box_len hx
  rw [h] at hn hl
  rw [h, List.nodup_cons] at *
  have h0 : (zeros a.length).any (fun v => v != 0) = false := by
    cases e : (zeros a.length).any (fun v => v != 0) with
    | false => rfl
    | true => exact absurd rfl ((nz_iff (List.length_replicate)).mp e)
  rw [List.filter_cons, h0, Bool.and_false]
  simp only [Bool.false_eq_true, if_false, List.drop_succ_cons, List.drop_zero]
  refine List.filter_congr fun x hx => ?_
  have h1 : (x.any fun v => v != 0) = true := (nz_iff (hl x (List.mem_cons_of_mem _ hx))).mpr fun e => hn.1 (e ▸ hx)
  rw [h1, Bool.and_true]
  rfl

/-! ### the order of vectors of one length -/
theorem cont_cons {a b : Nat} {u v : Vec} : Ks605.isContained (a :: u) (b :: v) = (decide (a ≤ b) && Ks605.isContained u v) := rfl
theorem cont_refl : ∀ u : Vec, Ks605.isContained u u = true
  | [] => rfl
  | a :: u => by
    rw [cont_cons, cont_refl u]
    simp
theorem cont_trans : ∀ {u v w : Vec}, u.length = v.length → v.length = w.length → Ks605.isContained u v = true → Ks605.isContained v w = true → Ks605.isContained u w = true
  | [], [], [], _, _, _, _ => rfl
  | a :: u, b :: v, c :: w, h1, h2, h3, h4 => by
    rw [cont_cons, Bool.and_eq_true, decide_eq_true_eq] at *
    exact ⟨by omega, cont_trans (by simpa using h1) (by simpa using h2) h3.2 h4.2⟩
theorem cont_sum : ∀ {u v : Vec}, u.length = v.length → Ks605.isContained u v = true → u ≠ v → u.sum < v.sum
  | [], [], _, _, h => absurd rfl h
  | a :: u, b :: v, h1, h2, h3 => by
    rw [cont_cons, Bool.and_eq_true, decide_eq_true_eq] at h2
    rw [List.sum_cons, List.sum_cons]
    by_cases e : u = v
    · have : a ≠ b := fun z => h3 (by rw [z, e])
      rw [e]
      omega
    · have := cont_sum (by simpa using h1) h2.2 e
      omega

/-! ### the minimal ones -/
def minB (S : List Vec) (x : Vec) : Bool := !(S.any fun y => y != x && Ks605.isContained y x)
theorem minB_iff {S : List Vec} {x : Vec} : minB S x = true ↔ ∀ y ∈ S, Ks605.isContained y x = true → y = x := by
  unfold minB
  rw [Bool.not_eq_true', List.any_eq_false]
  constructor
  · intro h y hy hc
    refine Classical.byContradiction fun hne => h y hy ?_
    simp [hne, hc]
  · intro h y hy e
    rw [Bool.and_eq_true] at e
    have := h y hy e.2
    simp [this] at e
theorem minimal_is (a : List Int) : Ks605.minimalSolutions a = (Ks605.nonzeroSolutions a).filter (minB (Ks605.nonzeroSolutions a)) := rfl
theorem below {n : Nat} {S : List Vec} (hS : ∀ x ∈ S, x.length = n) : ∀ (k : Nat) (y : Vec), y.sum ≤ k → y ∈ S → ∃ u ∈ S, minB S u = true ∧ Ks605.isContained u y = true := by
  intro k
  induction k with
  | zero =>
    intro y hk hy
    refine ⟨y, hy, minB_iff.mpr fun z hz hc => ?_, cont_refl y⟩
    refine Classical.byContradiction fun hne => ?_
    have := cont_sum ((hS z hz).trans (hS y hy).symm) hc hne
    omega
  | succ k ih =>
    intro y hk hy
    by_cases hm : minB S y = true
    · exact ⟨y, hy, hm, cont_refl y⟩
    · rw [minB_iff] at hm
      have hm' : ∃ z ∈ S, Ks605.isContained z y = true ∧ z ≠ y := by
        refine Classical.byContradiction fun hn => hm fun z hz hc => ?_
        exact Classical.byContradiction fun hne => hn ⟨z, hz, hc, hne⟩
      obtain ⟨z, hz, hc, hne⟩ := hm'
      have hlt := cont_sum ((hS z hz).trans (hS y hy).symm) hc hne
      obtain ⟨u, hu, hmu, huz⟩ := ih z (by omega) hz
      exact ⟨u, hu, hmu, cont_trans ((hS u hu).trans (hS z hz).symm) ((hS z hz).trans (hS y hy).symm) huz hc⟩
def stepL (f : List Vec) (v : Vec) : List Vec := if (f.any fun y => Ks605.isContained y v) = true then f else f ++ [v]
theorem fold_min {n : Nat} {S T : List Vec} (hS : ∀ x ∈ S, x.length = n) (hp : T.Perm S) (hn : T.Nodup) (hs : T.Pairwise fun x y : Vec => x.sum ≤ y.sum) :
    ∀ (post pre : List Vec), T = pre ++ post → post.foldl stepL (pre.filter (minB S)) = T.filter (minB S)
  | [], pre, h => by
    rw [h, List.append_nil]
    rfl
  | v :: post, pre, h => by
    have hv : v ∈ S := hp.mem_iff.mp (by rw [h]; simp)
    have e : stepL (pre.filter (minB S)) v = (pre ++ [v]).filter (minB S) := by
      rw [List.filter_append]
      unfold stepL
      by_cases hm : minB S v = true
      · have hno : ¬ ((pre.filter (minB S)).any fun y => Ks605.isContained y v) = true := by
          rw [List.any_eq_true]
          rintro ⟨u, hu, hc⟩
          have hup : u ∈ pre := (List.mem_filter.mp hu).1
          have huS : u ∈ S := hp.mem_iff.mp (by rw [h]; simp [hup])
          have huv := minB_iff.mp hm u huS hc
          rw [h, List.nodup_append] at hn
          exact hn.2.2 u hup v (by simp) huv
        rw [if_neg hno]
        simp [hm]
      · have hyes : ((pre.filter (minB S)).any fun y => Ks605.isContained y v) = true := by
          rw [minB_iff] at hm
          have hm' : ∃ z ∈ S, Ks605.isContained z v = true ∧ z ≠ v := by
            refine Classical.byContradiction fun hn => hm fun z hz hc => ?_
            exact Classical.byContradiction fun hne => hn ⟨z, hz, hc, hne⟩
          obtain ⟨z, hz, hc, hne⟩ := hm'
          obtain ⟨u, hu, hmu, huz⟩ := below hS z.sum z (Nat.le_refl _) hz
          have h1 := cont_sum ((hS z hz).trans (hS v hv).symm) hc hne
          have h2 : u.sum ≤ z.sum := by
            by_cases e : u = z
            · rw [e]
              omega
            · have := cont_sum ((hS u hu).trans (hS z hz).symm) huz e
              omega
          have huv : Ks605.isContained u v = true := cont_trans ((hS u hu).trans (hS z hz).symm) ((hS z hz).trans (hS v hv).symm) huz hc
          have huT : u ∈ pre ++ v :: post := h ▸ hp.mem_iff.mpr hu
          rw [h, List.pairwise_append] at hs
          have hup : u ∈ pre := by
            rcases List.mem_append.mp huT with hu | hu
            · exact hu
            · rcases List.mem_cons.mp hu with rfl | hu
              · omega
              · have := (List.pairwise_cons.mp hs.2.1).1 u hu
                omega
          rw [List.any_eq_true]
          exact ⟨u, List.mem_filter.mpr ⟨hup, hmu⟩, huv⟩
        rw [if_pos hyes]
        simp [hm]
    rw [List.foldl_cons, e]
    exact fold_min hS hp hn hs post (pre ++ [v]) (by rw [h, List.append_assoc]; rfl)

/-! ### the two sorts -/
def castv (x : Vec) : List Int := x.map Int.ofNat
theorem castv_lt : ∀ {x y : Vec}, castv x < castv y ↔ x < y
  | [], [] => by simp [castv]
  | [], b :: y => by
    refine iff_of_true ?_ ?_
    · exact List.nil_lt_cons _ _
    · exact List.nil_lt_cons _ _
  | a :: x, [] => by
    refine iff_of_false ?_ ?_
    · exact List.not_lt_nil _
    · exact List.not_lt_nil _
  | a :: x, b :: y => by
    show (Int.ofNat a :: castv x) < (Int.ofNat b :: castv y) ↔ _
    rw [List.cons_lt_cons_iff, List.cons_lt_cons_iff, castv_lt]
    have e1 : (Int.ofNat a < Int.ofNat b) ↔ a < b := by
      show ((a : Int) < (b : Int)) ↔ _
      omega
    have e2 : (Int.ofNat a = Int.ofNat b) ↔ a = b := by
      show ((a : Int) = (b : Int)) ↔ _
      omega
    rw [e1, e2]
def lexB (x y : Vec) : Bool := decide (castv x ≤ castv y)
def sumB (x y : Vec) : Bool := decide ((x.sum : Int) ≤ (y.sum : Int))
theorem lexB_iff {x y : Vec} : lexB x y = true ↔ ¬ y < x := by
  unfold lexB
  rw [decide_eq_true_eq, ← List.not_lt, castv_lt]
theorem lexB_trans (x y z : Vec) (h1 : lexB x y = true) (h2 : lexB y z = true) : lexB x z = true := by
  rw [lexB_iff] at *
  rw [List.not_lt] at *
  exact List.le_trans h1 h2
theorem lexB_total (x y : Vec) : (lexB x y || lexB y x) = true := by
  rw [Bool.or_eq_true, lexB_iff, lexB_iff, List.not_lt, List.not_lt]
  exact List.le_total x y
theorem lexB_anti {x y : Vec} (h1 : lexB x y = true) (h2 : lexB y x = true) : x = y := by
  rw [lexB_iff, List.not_lt] at *
  exact List.le_antisymm h1 h2
def leastOf (S : List Vec) : List Vec := ((S.mergeSort sumB).foldl stepL []).mergeSort lexB
theorem leastOf_is {n : Nat} {S : List Vec} (hS : ∀ x ∈ S, x.length = n) (hp : S.Pairwise fun x y : Vec => x < y) : leastOf S = S.filter (minB S) := by
  have hnd : S.Nodup := hp.imp fun {x y} h e => by
    rw [e] at h
    exact List.lt_irrefl y h
  have hperm := List.mergeSort_perm S sumB
  have hsrt : (S.mergeSort sumB).Pairwise fun x y : Vec => x.sum ≤ y.sum := by
    have := List.pairwise_mergeSort (le := sumB) (fun a b c h1 h2 => by
      unfold sumB at *
      rw [decide_eq_true_eq] at *
      omega) (fun a b => by
      unfold sumB
      rw [Bool.or_eq_true, decide_eq_true_eq, decide_eq_true_eq]
      omega) S
    refine this.imp fun {x y} h => ?_
    unfold sumB at h
    rw [decide_eq_true_eq] at h
    omega
  have h1 := fold_min hS hperm (hperm.nodup_iff.mpr hnd) hsrt (S.mergeSort sumB) [] rfl
  rw [List.filter_nil] at h1
  unfold leastOf
  rw [h1]
  have hP : (((S.mergeSort sumB).filter (minB S)).mergeSort lexB).Perm (S.filter (minB S)) := (List.mergeSort_perm _ _).trans (hperm.filter _)
  refine List.Perm.eq_of_pairwise (le := fun x y => lexB x y = true) (fun x y _ _ h1 h2 => lexB_anti h1 h2) ?_ ?_ hP
  · exact List.pairwise_mergeSort lexB_trans lexB_total _
  · refine (hp.filter _).imp fun {x y} h => ?_
    rw [lexB_iff]
    exact fun h' => List.lt_irrefl x (List.lt_trans h h')
theorem solutions_len {a : List Int} {x : Vec} (h : x ∈ Ks605.nonzeroSolutions a) : x.length = a.length ∧ Pos x := by
  unfold Ks605.nonzeroSolutions at h
  rw [List.mem_filter, bounded_box, Bool.and_eq_true] at h
  refine ⟨box_len h.1, ?_⟩
  rw [List.any_eq_true] at h
  obtain ⟨b, hb, h0⟩ := h.2.2
  exact ⟨b, hb, by
    have : b ≠ 0 := by simpa using h0
    omega⟩
theorem least_is (a : List Int) : leastOf (Ks605.nonzeroSolutions a) = Ks605.minimalSolutions a := by
  rw [minimal_is]
  refine leastOf_is (n := a.length) (fun x hx => (solutions_len hx).1) ?_
  unfold Ks605.nonzeroSolutions
  rw [bounded_box]
  exact (box_pw 7 a.length).filter _
theorem minimal_len {a : List Int} : ∀ x ∈ Ks605.minimalSolutions a, x.length = a.length ∧ Pos x := fun x hx => by
  rw [minimal_is] at hx
  exact solutions_len (List.mem_filter.mp hx).1
theorem solutions_length (a : List Int) : (Ks605.nonzeroSolutions a).length ≤ 7 ^ a.length := by
  unfold Ks605.nonzeroSolutions
  rw [bounded_box]
  exact Nat.le_trans (List.length_filter_le _ _) (Nat.le_of_eq (box_length 7 a.length))
theorem minimal_length (a : List Int) : (Ks605.minimalSolutions a).length ≤ 7 ^ a.length := by
  rw [minimal_is]
  exact Nat.le_trans (List.length_filter_le _ _) (solutions_length a)

/-! ### the smallest with a positive element -/
def stepS (i : Nat) (o : Option Vec) (x : Vec) : Option Vec := if 0 < x.getD i 0 ∧ (∀ b, o = some b → x.sum < b.sum) then some x else o
theorem stepS_skip {i : Nat} {o : Option Vec} {x : Vec} (h : ¬ 0 < x.getD i 0) : stepS i o x = o := if_neg fun z => h z.1
theorem foldS_some (i : Nat) : ∀ (M : List Vec) (b : Vec), M.foldl (stepS i) (some b) = some ((M.filter fun x => x.getD i 0 != 0).foldl (fun best x => if x.sum < best.sum then x else best) b)
  | [], b => rfl
  | x :: M, b => by
    rw [List.foldl_cons, List.filter_cons]
    by_cases h : 0 < x.getD i 0
    · have h' : (x.getD i 0 != 0) = true := by
        rw [bne_iff_ne]
        omega
      rw [if_pos h', List.foldl_cons]
      by_cases hs : x.sum < b.sum
      · have e : stepS i (some b) x = some x := if_pos ⟨h, fun c hc => by cases hc; exact hs⟩
        rw [e, if_pos hs]
        exact foldS_some i M x
      · have e : stepS i (some b) x = some b := if_neg fun z => hs (z.2 b rfl)
        rw [e, if_neg hs]
        exact foldS_some i M b
    · have h' : ¬ (x.getD i 0 != 0) = true := by
        rw [bne_iff_ne]
        omega
      rw [if_neg h', stepS_skip h]
      exact foldS_some i M b
theorem foldS_none (i : Nat) : ∀ (M : List Vec), M.foldl (stepS i) none = match M.filter fun x => x.getD i 0 != 0 with
    | [] => none
    | first :: rest => some (rest.foldl (fun best x => if x.sum < best.sum then x else best) first)
  | [] => rfl
  | x :: M => by
    rw [List.foldl_cons, List.filter_cons]
    by_cases h : 0 < x.getD i 0
    · have h' : (x.getD i 0 != 0) = true := by
        rw [bne_iff_ne]
        omega
      have e : stepS i none x = some x := if_pos ⟨h, fun c hc => by cases hc⟩
      rw [if_pos h', e, foldS_some]
    · have h' : ¬ (x.getD i 0 != 0) = true := by
        rw [bne_iff_ne]
        omega
      rw [if_neg h', stepS_skip h]
      exact foldS_none i M
theorem smallest_is (a : List Int) (i : Nat) : (Ks605.minimalSolutions a).foldl (stepS i) none = Ks605.smallestWith a i := by
  rw [foldS_none]
  rfl
end Lsm
namespace Lw
open PySem PySem.Spec PyProof.Rows L2
open PySem.W (Codec)
/-! ### words about heaps -/
theorem same_upd {H : Hp} {p : Addr} {o : HO} (h : H p = none) : Same H (upd H p o) := fun b x e => by
  rw [upd_ne (ne_of_none e h)]
  exact e
/-- a Refused with a code leaves: its own dict d holds the code, all that was tracked stands -/
def Rz (C : Addr) (c : Int) (H : Hp) (E : XK) : Prop := ∀ (H' : Hp) (d : Addr), Same H H' → H' d = some (.xd [(("code" : Str), .int c)]) → E (.ref C) (some d) H'
theorem Rz.mono {C : Addr} {c : Int} {H H1 : Hp} {E : XK} (h : Rz C c H E) (s : Same H H1) : Rz C c H1 E := fun H' d k e => h H' d (s.trans k) e
theorem passR {X : Cx} {E : XK} (tk : Takes X (fun cls d _ H => E cls d H)) : Passes (L2.CX X.prog X.w) X E := passes_call tk fun _ _ _ _ h => h
/-- a module's whole number -/
theorem pgI {X : Cx} {x : Str} {i : Int} {t : Tok} {pos : Pos} (hg : Gl X x) (hm : X.mg x = some (.int i t)) (hd : (x == ("__debug__" : Str)) = false := by decide) : PE X (.Name x pos) (tC (.int i)) := pe_glob hg hm ⟨t, rfl⟩ hd
/-- a vector of natural numbers as values -/
def iV (x : List Nat) : List V := x.map fun (n : Nat) => V.int (n : Int)
theorem iV_length (x : List Nat) : (iV x).length = x.length := by
  unfold iV
  rw [List.length_map]
theorem iV_get {x : List Nat} {i : Nat} {n : Nat} (h : x[i]? = some n) : (iV x)[i]? = some (.int (n : Int)) := by
  unfold iV
  rw [List.getElem?_map, h]
  rfl
theorem ns_get {ns : List Int} {i : Nat} {n : Int} (h : ns[i]? = some n) : (ns.map V.int)[i]? = some (.int n) := by
  rw [List.getElem?_map, h]
  rfl
theorem of_ns_get {ns : List Int} {i : Nat} {v : V} (h : (ns.map V.int)[i]? = some v) : ∃ n, ns[i]? = some n ∧ v = .int n := by
  rw [List.getElem?_map] at h
  cases e : ns[i]? with
  | none =>
    rw [e] at h
    cases h
  | some n =>
    rw [e] at h
    exact ⟨n, rfl, (Option.some.inj h).symm⟩
theorem iV_ints (x : List Int) (h : ∀ n ∈ x, 0 ≤ n) : x.map V.int = iV (x.map Int.toNat) := by
  unfold iV
  rw [List.map_map]
  refine List.map_congr_left fun n hn => ?_
  show V.int n = V.int ((n.toNat : Nat) : Int)
  rw [Int.toNat_of_nonneg (h n hn)]
theorem take_succ {α : Type} {l : List α} {i : Nat} {x : α} (h : l[i]? = some x) : l.take (i + 1) = l.take i ++ [x] := by
  rw [List.take_succ, h]
  rfl
/-! ### the text -/
def topS (i : Nat) : Stmt := PySem.Challenge.pw_leastsums_s04_count_decompositions.main.body.getD i (.Pass ⟨0, 0, 0, 0⟩)
abbrev sNeed : Stmt := topS 7
abbrev sWithin : Stmt := topS 8
abbrev sNeedC : Stmt := topS 9
theorem scNeed : FnScope ["fulfilled", "code"] ["fulfilled", "code"] (defScope sNeed) := ⟨rfl, rfl, rfl, by decide +kernel, rfl, by decide +kernel, by decide +kernel⟩
theorem scWithin : FnScope ["numbers", "low", "high", "number"] ["numbers", "low", "high"] (defScope sWithin) := ⟨rfl, rfl, rfl, by decide +kernel, rfl, by decide +kernel, by decide +kernel⟩
theorem scNeedC : FnScope ["coefficients"] ["coefficients"] (defScope sNeedC) := ⟨rfl, rfl, rfl, by decide +kernel, rfl, by decide +kernel, by decide +kernel⟩
/-! ### promises -/
def spNeed (C : Addr) : Sp := fun vs H Q E => ∃ (b : Bool) (c : Int), vs = [.bl b, .int c] ∧ (b = false → Rz C c H E) ∧ (b = true → Q .non H)
def within (lo hi : Int) (ns : List Int) : Bool := ns.all fun n => decide (lo ≤ n) && decide (n ≤ hi)
def spWithin (K : PySem.W.Frag) : Sp := fun vs H Q _ => ∃ (a : Addr) (ns : List Int) (lo hi : Int), vs = [.ref a, .int lo, .int hi] ∧ SqL K H a (ns.map V.int) ∧ Q (.bl (within lo hi ns)) H
def okC (ns : List Int) : Bool := Ks605.areValidCoefficients ns
def spNeedC (K : PySem.W.Frag) (C : Addr) : Sp := fun vs H Q E => ∃ (a : Addr) (ns : List Int), vs = [.ref a] ∧ SqL K H a (ns.map V.int) ∧ (okC ns = false → Rz C (-22) H E) ∧ (okC ns = true → Q .non H)
theorem okC_is (ns : List Int) : okC ns = ((decide (1 ≤ ns.length) && decide (ns.length ≤ 4)) && within (-6) 6 ns) := by
  unfold okC Ks605.areValidCoefficients within
  refine congrArg _ (List.all_congr rfl fun v => ?_)
  show decide (v.natAbs ≤ 6) = (decide (-6 ≤ v) && decide (v ≤ 6))
  rw [Bool.eq_iff_iff, Bool.and_eq_true, decide_eq_true_eq, decide_eq_true_eq, decide_eq_true_eq]
  omega
theorem if_true_of {c : Bool} {A B : Prop} (hc : c = true) (h : A) : if c = true then A else B := by
  rw [if_pos hc]
  exact h
theorem if_false_of {c : Bool} {A B : Prop} (hc : c = false) (h : B) : if c = true then A else B := by
  rw [hc, if_neg Bool.false_ne_true]
  exact h
/-- what the top has written that the checks read -/
structure TxtC (K : PySem.W.Frag) (mg : Str → Option Value) (C fI : Addr) : Prop where
  ref : PySem.RefX.RefTxt K mg C fI
  len : mg "len" = none
  out : ∃ t, mg "OUT_OF_LIMITS" = some (.int (-22) t)
  mcs : ∃ t, mg "MOST_COEFFICIENTS" = some (.int 4 t)
  mc : ∃ t, mg "MOST_COEFFICIENT" = some (.int 6 t)
/-- a def as it stands: where it is, how its arguments bind -/
structure At (K : PySem.W.Frag) (mg : Str → Option Value) (x : Str) (st : Stmt) (ps : List Str) (f : Addr) (fd : FuncData) : Prop where
  fn : Fun K x x st f fd
  bn : Binds K fd ps []
  gl : mg x = some (.ref f)
section
variable {P : Program} {w : World} {K : PySem.W.Frag} {mg : Str → Option Value} {base : Heap} {C fI : Addr}
theorem ok_need {f : Addr} {fd : FuncData} (F : Fun K "need" "need" sNeed f fd) (T : TxtC K mg C fI) : FnOk P w K mg base (L2.CX P w) 3 f fd ["fulfilled", "code"] (spNeed C) := by
  refine F.okX scNeed (fun vs H Q E h => ?_) (fun cdv A outer s H vs Q E hr h => ?_)
  · obtain ⟨b, c, rfl, _⟩ := h
    rfl
  · obtain ⟨b, c, rfl, kE, kQ⟩ := h
    refine ⟨_, pss_one (ps_if (pt_not (pt_val (pv 0))) (pss_one (ps_raiseRef rfl T.ref hr (takes_of rfl rfl rfl rfl) (by exact (pa_cons (pv 1) pa_nil)))) pss_nil), ?_⟩
    refine ⟨_, rfl, b, rfl, ?_⟩
    cases b with
    | false => exact ⟨_, rfl, _, rfl, fun d hd => kE rfl _ d (same_upd hd) upd_same⟩
    | true => exact kQ rfl
theorem ok_within {f : Addr} {fd : FuncData} (F : Fun K "are_within" "are_within" sWithin f fd) : FnOk P w K mg base CX0 1 f fd ["numbers", "low", "high"] (spWithin K) := by
  refine F.ok scWithin (fun vs H Q E h => ?_) (fun cdv A outer s H vs Q E hr h => ?_)
  · obtain ⟨a, ns, lo, hi, rfl, _⟩ := h
    rfl
  · obtain ⟨a, ns, lo, hi, rfl, hS, q⟩ := h
    refine ⟨_, pss_cons (ps_for PassesOwn.never rfl (pi_list (pv 0)) (pg_name (i := 3) scWithin.nd rfl (.inl rfl))
        (pss_one (ps_if (pt_not (pt_chain op_le op_le (pv 1) (pv 3) (pv 2))) (pss_one (ps_ret pe_bl)) pss_nil)))
      (pss_one (ps_ret pe_bl)), ?_⟩
    refine ⟨_, rfl, a, rfl, ⟨_, hS⟩, for_list (K := K) (a := a) (xs := ns.map V.int) (fun i σ H' => ∃ v : Option V, σ = [some (.ref a), some (.int lo), some (.int hi), v] ∧ H' = H ∧ within lo hi (ns.take i) = true)
      ⟨none, rfl, rfl, rfl⟩ (fun i σ H' _ ⟨_, _, e, _⟩ => by rw [e]; exact hS) ?_ ?_⟩
    · rintro i y σ H' hi' ⟨v, rfl, rfl, hw⟩
      obtain ⟨n, hn, rfl⟩ := of_ns_get hi'
      have e : within lo hi (ns.take (i + 1)) = (decide (lo ≤ n) && decide (n ≤ hi)) := by
        unfold within at hw ⊢
        rw [take_succ hn, List.all_append, hw]
        simp
      have bad : (decide (lo ≤ n) && decide (n ≤ hi)) = false → within lo hi ns = false := fun hb => by
        unfold within
        rw [List.all_eq_false]
        exact ⟨n, List.mem_of_getElem? hn, by rw [hb]; decide⟩
      refine ⟨_, rfl, _, rfl, _, _, rfl, rfl, _, rfl, ?_⟩
      by_cases c1 : lo ≤ n
      · refine if_true_of (decide_eq_true c1) ⟨_, rfl, _, _, rfl, rfl, _, rfl, ?_⟩
        by_cases c2 : n ≤ hi
        · rw [decide_eq_true c2]
          refine if_false_of rfl ⟨_, rfl, rfl, ?_⟩
          rw [e, decide_eq_true c1, decide_eq_true c2]
          rfl
        · rw [decide_eq_false c2]
          refine if_true_of rfl ?_
          have := bad (by rw [decide_eq_false c2, Bool.and_false])
          rw [this] at q
          exact q
      · refine if_false_of (decide_eq_false c1) ⟨_, rfl, ?_⟩
        refine if_true_of rfl ?_
        have := bad (by rw [decide_eq_false c1, Bool.false_and])
        rw [this] at q
        exact q
    · rintro σ H' ⟨v, rfl, rfl, hw⟩
      rw [List.length_map, List.take_length] at hw
      rw [hw] at q
      exact q
theorem ok_needC {f fN fW : Addr} {fd fdN fdW : FuncData} (F : Fun K "need_coefficients" "need_coefficients" sNeedC f fd) (T : TxtC K mg C fI)
    (N : At K mg "need" sNeed ["fulfilled", "code"] fN fdN) (W : At K mg "are_within" sWithin ["numbers", "low", "high"] fW fdW) : FnOk P w K mg base (L2.CX P w) 4 f fd ["coefficients"] (spNeedC K C) := by
  have GN : FnOk P w K mg base (L2.CX P w) 3 fN fdN ["fulfilled", "code"] (spNeed C) := ok_need N.fn T
  have GW : FnOk P w K mg base CX0 1 fW fdW ["numbers", "low", "high"] (spWithin K) := ok_within W.fn
  obtain ⟨t1, m1⟩ := T.out
  obtain ⟨t2, m2⟩ := T.mcs
  obtain ⟨t3, m3⟩ := T.mc
  refine F.okX scNeedC (fun vs H Q E h => ?_) (fun cdv A outer s H vs Q E hr h => ?_)
  · obtain ⟨a, ns, rfl, _⟩ := h
    rfl
  · obtain ⟨a, ns, rfl, hS, kE, kQ⟩ := h
    refine ⟨_, pss_cons (ps_expr (pe_call GN hr rfl N.gl N.fn.kp N.bn .nil (passR (takes_of rfl rfl rfl rfl)) (pa_cons (pe_chain op_le op_le pe_int (pe_callB call_len_seq (by rfl) T.len PySem.boot_len (pa_cons (pv 0) pa_nil)) (pgI rfl m2)) (pa_cons (pgI rfl m1) pa_nil))))
      (pss_one (ps_expr (pe_call GN hr rfl N.gl N.fn.kp N.bn .nil (passR (takes_of rfl rfl rfl rfl)) (pa_cons (pe_call GW (hr.mono (by decide)) rfl W.gl W.fn.kp W.bn .nil pass0 (pa_cons (pv 0) (pa_cons (pe_op op_sub pe_int (pgI rfl m3)) (pa_cons (pgI rfl m3) pa_nil)))) (pa_cons (pgI rfl m1) pa_nil))))), ?_⟩
    have e := okC_is ns
    have second : within (-6) 6 ns = true → decide (1 ≤ ns.length) = true → decide (ns.length ≤ 4) = true → Q .non H := fun h1 h2 h3 => kQ (by rw [e, h1, h2, h3]; rfl)
    have no1 : decide (1 ≤ ns.length) = false → okC ns = false := fun h => by rw [e, h, Bool.false_and, Bool.false_and]
    have no2 : decide (ns.length ≤ 4) = false → okC ns = false := fun h => by rw [e, h, Bool.and_false, Bool.false_and]
    have no3 : within (-6) 6 ns = false → okC ns = false := fun h => by rw [e, h, Bool.and_false]
    have goal2 : decide (1 ≤ ns.length) = true → decide (ns.length ≤ 4) = true → ∃ (b : Bool) (c : Int), [V.bl (within (-6) 6 ns), V.int (-22)] = [V.bl b, V.int c] ∧ (b = false → Rz C c H E) ∧ (b = true → Q .non H) :=
      fun h1 h2 => ⟨_, _, rfl, fun h => kE (no3 h), fun h => second h h1 h2⟩
    have len1 : ((ns.map V.int).length : Int) = (ns.length : Int) := by rw [List.length_map]
    refine ⟨_, rfl, a, _, rfl, .inl hS, _, _, rfl, rfl, _, rfl, ?_⟩
    rw [len1]
    by_cases c1 : 1 ≤ ns.length
    · refine if_true_of (decide_eq_true (by omega)) ⟨_, _, rfl, rfl, ?_⟩
      by_cases c2 : ns.length ≤ 4
      · refine ⟨_, _, rfl, fun h => ?_, fun _ => ?_⟩
        · rw [decide_eq_true (by omega)] at h
          cases h
        · exact ⟨_, rfl, _, _, rfl, rfl, a, ns, _, _, rfl, hS, goal2 (decide_eq_true c1) (decide_eq_true c2)⟩
      · refine ⟨_, _, rfl, fun h => kE (no2 (decide_eq_false c2)), fun h => ?_⟩
        rw [decide_eq_false (by omega)] at h
        cases h
    · refine if_false_of (decide_eq_false (by omega)) ⟨_, _, rfl, fun h => kE (no1 (decide_eq_false c1)), fun h => ?_⟩
      cases h
end
end Lw
namespace Lw
open PySem PySem.Spec PyProof.Rows L2
open PySem.W (Codec)
/-! ### form_value -/
abbrev sForm : Stmt := topS 12
theorem scForm : FnScope ["coefficients", "x", "found", "k"] ["coefficients", "x"] (defScope sForm) := ⟨rfl, rfl, rfl, by decide +kernel, rfl, by decide +kernel, by decide +kernel⟩
def spForm (K : PySem.W.Frag) : Sp := fun vs H Q _ => ∃ (a : Addr) (ns : List Int) (b : Addr) (x : List Nat), vs = [.ref a, .ref b] ∧ SqL K H a (ns.map V.int) ∧ SqL K H b (iV x) ∧ ns.length = x.length ∧ ns.length ≤ 4 ∧ (∀ n ∈ ns, n.natAbs ≤ 6) ∧
  Q (.int (Ks605.evaluate ns x)) H
theorem okC_len {ns : List Int} (h : okC ns = true) : 1 ≤ ns.length ∧ ns.length ≤ 4 ∧ ∀ n ∈ ns, n.natAbs ≤ 6 := by
  unfold okC Ks605.areValidCoefficients at h
  rw [Bool.and_eq_true, Bool.and_eq_true, decide_eq_true_eq, decide_eq_true_eq, List.all_eq_true] at h
  exact ⟨h.1.1, h.1.2, fun n hn => of_decide_eq_true (h.2 n hn)⟩
/-- a whole number at a place of a list -/
theorem atI0 {xs : List V} {i : Nat} {v : V} (h : xs[i]? = some v) : atI xs (0 + (i : Int)) = some v := by
  rw [Int.zero_add]
  exact atI_nat h
def evT (a : List Int) (x : List Nat) (i : Nat) : Int := (((a.zip x).map fun p => p.1 * (p.2 : Int)).take i).foldl (· + ·) 0
theorem evT_zero (a : List Int) (x : List Nat) : evT a x 0 = 0 := rfl
theorem evT_end {a : List Int} {x : List Nat} (h : a.length = x.length) : evT a x a.length = Ks605.evaluate a x := by
  unfold evT Ks605.evaluate
  rw [List.take_of_length_le]
  rw [List.length_map, List.length_zip]
  omega
theorem evT_succ {a : List Int} {x : List Nat} {i : Nat} {n : Int} {m : Nat} (h1 : a[i]? = some n) (h2 : x[i]? = some m) : evT a x (i + 1) = evT a x i + n * (m : Int) := by
  unfold evT
  have e : ((a.zip x).map fun p => p.1 * (p.2 : Int))[i]? = some (n * (m : Int)) := by
    have ez : (a.zip x)[i]? = some (n, m) := List.getElem?_zip_eq_some.mpr ⟨h1, h2⟩
    rw [List.getElem?_map, ez]
    rfl
  rw [take_succ e, List.foldl_append]
  rfl
theorem get_some {α : Type} {l : List α} {i : Nat} (h : i < l.length) : ∃ x, l[i]? = some x ∧ x ∈ l := ⟨l[i], List.getElem?_eq_getElem h, List.getElem_mem h⟩
structure TxtV (K : PySem.W.Frag) (mg : Str → Option Value) : Prop where
  len : mg "len" = none
  range : mg "range" = none
section
variable {P : Program} {w : World} {K : PySem.W.Frag} {mg : Str → Option Value} {base : Heap} {C fI : Addr}
theorem ok_form {f : Addr} {fd : FuncData} (F : Fun K "form_value" "form_value" sForm f fd) (T : TxtV K mg) : FnOk P w K mg base CX0 1 f fd ["coefficients", "x"] (spForm K) := by
  refine F.ok scForm (fun vs H Q E h => ?_) (fun cdv A outer s H vs Q E hr h => ?_)
  · obtain ⟨a, ns, b, x, rfl, _⟩ := h
    rfl
  · obtain ⟨a, ns, b, x, rfl, hS, hX, hl, h4, h6, q⟩ := h
    refine ⟨_, pss_cons (ps_set (i := 2) scForm.nd rfl (.inl rfl) pe_int)
      (pss_cons (ps_for PassesOwn.never rfl (pi_range1 rfl T.range (pa_cons (pe_callB call_len_seq (by rfl) T.len PySem.boot_len (pa_cons (pv 0) pa_nil)) pa_nil)) (pg_name (i := 3) scForm.nd rfl (.inl rfl))
        (pss_one (ps_aug (i := 2) scForm.nd rfl (.inl rfl) (pe_op op_mul (pe_ix ix_list (pv 0) (pv 3) (fun _ _ => rfl)) (pe_ix ix_list (pv 1) (pv 3) (fun _ _ => rfl))) ip_add)))
      (pss_one (ps_ret (pv 2)))), ?_⟩
    have hlen : (ns.map V.int).length = ns.length := List.length_map ..
    refine ⟨_, rfl, a, _, rfl, .inl hS, _, rfl, by omega, by omega, ?_⟩
    refine for_range (lo := 0) (n := ((ns.map V.int).length : Int).toNat) (fun i σ H' => ∃ v : Option V, σ = [some (.ref a), some (.ref b), some (.int (evT ns x i)), v] ∧ H' = H) ⟨none, rfl, rfl⟩ ?_ ?_
    · rintro i σ H' hi ⟨v, rfl, rfl⟩
      have hi' : i < ns.length := by omega
      obtain ⟨n, hn, hm⟩ := get_some hi'
      obtain ⟨m, hx, _⟩ := get_some (l := x) (i := i) (by omega)
      have hb := h6 n hm
      refine ⟨_, rfl, _, rfl, _, rfl, a, _, _, _, rfl, rfl, hS, atI0 (ns_get hn), _, rfl, _, rfl, b, _, _, _, rfl, rfl, hX, atI0 (iV_get hx), n, m, rfl, rfl, .inl ⟨by omega, by omega⟩, _, _, rfl, rfl, ?_⟩
      refine ⟨some (.int (0 + (i : Int))), ?_, rfl⟩
      rw [evT_succ hn hx]
      rfl
    · rintro σ H' ⟨v, rfl, rfl⟩
      refine ⟨_, rfl, ?_⟩
      have e : ((ns.map V.int).length : Int).toNat = ns.length := by omega
      rw [e, evT_end hl]
      exact q
end
end Lw
namespace Lw
open PySem PySem.Spec PyProof.Rows L2
open PySem.W (Codec)
/-! ### need_vector -/
abbrev sNeedV : Stmt := topS 10
theorem scNeedV : FnScope ["coefficients", "x"] ["coefficients", "x"] (defScope sNeedV) := ⟨rfl, rfl, rfl, by decide +kernel, rfl, by decide +kernel, by decide +kernel⟩
def okV (ns xs : List Int) : Bool := okC ns && (decide (xs.length = ns.length) && within 0 12 xs)
def spNeedV (K : PySem.W.Frag) (C : Addr) : Sp := fun vs H Q E => ∃ (a : Addr) (ns : List Int) (b : Addr) (xs : List Int), vs = [.ref a, .ref b] ∧ SqL K H a (ns.map V.int) ∧ SqL K H b (xs.map V.int) ∧
  (okV ns xs = false → Rz C (-22) H E) ∧ (okV ns xs = true → Q .non H)
theorem okV_len {ns xs : List Int} (h : okV ns xs = true) : okC ns = true ∧ xs.length = ns.length ∧ within 0 12 xs = true := by
  unfold okV at h
  rw [Bool.and_eq_true, Bool.and_eq_true, decide_eq_true_eq] at h
  exact h
theorem within_nn {xs : List Int} (h : within 0 12 xs = true) : ∀ n ∈ xs, 0 ≤ n ∧ n ≤ 12 := fun n hn => by
  unfold within at h
  have := List.all_eq_true.mp h n hn
  rw [Bool.and_eq_true, decide_eq_true_eq, decide_eq_true_eq] at this
  exact this
section
variable {P : Program} {w : World} {K : PySem.W.Frag} {mg : Str → Option Value} {base : Heap} {C fI : Addr}
theorem ok_needV {f fC fN fW : Addr} {fd fdC fdN fdW : FuncData} (F : Fun K "need_vector" "need_vector" sNeedV f fd) (T : TxtC K mg C fI) (mx : ∃ t, mg "MOST_ELEMENT" = some (.int 12 t))
    (NC : At K mg "need_coefficients" sNeedC ["coefficients"] fC fdC) (N : At K mg "need" sNeed ["fulfilled", "code"] fN fdN) (W : At K mg "are_within" sWithin ["numbers", "low", "high"] fW fdW) :
    FnOk P w K mg base (L2.CX P w) 5 f fd ["coefficients", "x"] (spNeedV K C) := by
  have GC : FnOk P w K mg base (L2.CX P w) 4 fC fdC ["coefficients"] (spNeedC K C) := ok_needC NC.fn T N W
  have GN : FnOk P w K mg base (L2.CX P w) 3 fN fdN ["fulfilled", "code"] (spNeed C) := ok_need N.fn T
  have GW : FnOk P w K mg base CX0 1 fW fdW ["numbers", "low", "high"] (spWithin K) := ok_within W.fn
  obtain ⟨t1, m1⟩ := T.out
  obtain ⟨t2, m2⟩ := mx
  refine F.okX scNeedV (fun vs H Q E h => ?_) (fun cdv A outer s H vs Q E hr h => ?_)
  · obtain ⟨a, ns, b, xs, rfl, _⟩ := h
    rfl
  · obtain ⟨a, ns, b, xs, rfl, hS, hX, kE, kQ⟩ := h
    refine ⟨_, pss_cons (ps_expr (pe_call GC hr rfl NC.gl NC.fn.kp NC.bn .nil (passR (takes_of rfl rfl rfl rfl)) (pa_cons (pv 0) pa_nil)))
      (pss_one (ps_expr (pe_call GN (hr.mono (by decide)) rfl N.gl N.fn.kp N.bn .nil (passR (takes_of rfl rfl rfl rfl)) (pa_cons
        (pe_and (pe_cmpR op_eq (pe_callB call_len_seq (by rfl) T.len PySem.boot_len (pa_cons (pv 1) pa_nil)) (pe_callB call_len_seq (by rfl) T.len PySem.boot_len (pa_cons (pv 0) pa_nil)) (nomark _))
          (pe_one (pe_call GW (hr.mono (by decide)) rfl W.gl W.fn.kp W.bn .nil pass0 (pa_cons (pv 1) (pa_cons pe_int (pa_cons (pgI rfl m2) pa_nil))))))
        (pa_cons (pgI rfl m1) pa_nil))))), ?_⟩
    refine ⟨_, rfl, a, ns, rfl, hS, fun h => kE (by unfold okV; rw [h, Bool.false_and]), fun hC => ?_⟩
    have e : okV ns xs = (decide (xs.length = ns.length) && within 0 12 xs) := by
      unfold okV
      rw [hC, Bool.true_and]
    have e1 : decide (V.int ((xs.map V.int).length : Int) = V.int ((ns.map V.int).length : Int)) = decide (xs.length = ns.length) := by
      rw [List.length_map, List.length_map, Bool.eq_iff_iff, decide_eq_true_eq, decide_eq_true_eq, V.int.injEq]
      omega
    refine ⟨_, rfl, b, _, rfl, .inl hX, _, rfl, a, _, rfl, .inl hS, rfl, _, rfl, ?_⟩
    rw [e1]
    by_cases c : xs.length = ns.length
    · refine if_true_of (decide_eq_true c) ⟨_, rfl, b, xs, _, _, rfl, hX, _, _, rfl, fun h => kE ?_, fun h => kQ ?_⟩
      · rw [e, h, Bool.and_false]
      · rw [e, h, decide_eq_true c]
        rfl
    · refine if_false_of (decide_eq_false c) ⟨_, _, rfl, fun h => kE ?_, fun h => ?_⟩
      · rw [e, decide_eq_false c, Bool.false_and]
      · cases h
end
end Lw
namespace Lw
open PySem PySem.Spec PyProof.Rows L2
open PySem.W (AllAlike Sortable alike alikeAll EachIs)
/-! ### rows: a list of lists of whole numbers, each told by its address and its numbers -/
abbrev Row := Addr × List Nat
def refs (ps : List Row) : List V := ps.map fun p => V.ref p.1
def nums (ps : List Row) : List (List Nat) := ps.map fun p => p.2
/-- at a stands a list of the rows ps, each of which stands -/
structure Rows (H : Hp) (a : Addr) (ps : List Row) : Prop where
  at' : H a = some (.lst (refs ps))
  all : ∀ p ∈ ps, H p.1 = some (.lst (iV p.2))
theorem Rows.same {H H' : Hp} {a : Addr} {ps : List Row} (s : Same H H') (r : Rows H a ps) : Rows H' a ps := ⟨s _ _ r.at', fun p hp => s _ _ (r.all p hp)⟩
def encR (b : Row) : PyData := .list ((Lsm.castv b.2).map .int)
def isR (v : Value) (b : Row) : Prop := v = Value.ref b.1
theorem refs_eq : ∀ {ps : List Row} {us : List Value}, Vals (refs ps) us → us = ps.map fun p => Value.ref p.1
  | [], us, h => by
    cases h
    rfl
  | p :: ps, us, h => by
    cases h with
    | cons r t =>
      have e := refs_eq t
      obtain rfl := r
      rw [e]
      rfl
theorem vals_of_refs : ∀ ps : List Row, Vals (refs ps) (ps.map fun p => Value.ref p.1)
  | [] => .nil
  | _ :: r => .cons rfl (vals_of_refs r)
theorem each_refs : ∀ ps : List Row, EachIs isR (ps.map fun p => Value.ref p.1) ps
  | [] => .nil
  | _ :: r => .cons rfl (each_refs r)
theorem of_each : ∀ {out : List Value} {ps : List Row}, EachIs isR out ps → out = ps.map fun p => Value.ref p.1
  | _, _, .nil => rfl
  | _, _, .cons h t => by
    have h' : _ = _ := h
    rw [of_each t, h']
    rfl
theorem dp_all {K : PySem.W.Frag} {H : Hp} : ∀ x : List Nat, DpAll K H (iV x) ((Lsm.castv x).map .int)
  | [] => .nil
  | n :: x => .cons (.int _) (dp_all x)
theorem dp_row {K : PySem.W.Frag} {H : Hp} {p : Addr} {x : List Nat} (h : SqL K H p (iV x)) : Dp K H (.ref p) (.list ((Lsm.castv x).map .int)) := .lst h (dp_all x)
theorem alike_encR (b b' : Row) : alike (encR b) (encR b') = true := PySem.W.alike_ints _ _
theorem depth_encR (b : Row) : (encR b).depth = 1 := by
  show PyData.depthAll ((Lsm.castv b.2).map .int) + 1 = 1
  rw [PySem.W.depth_ints]
section
variable {X : Cx}
theorem reads_rows {pins : List (Addr × Obj)} {s : Shared} {σ : L2.St} {H : Hp} (I : Inv X pins σ H s) : ∀ {ps : List Row}, (∀ p ∈ ps, H p.1 = some (.lst (iV p.2))) → EachIs (fun v b => ∃ as, Reads s.heap v (encR b) as) (ps.map fun p => Value.ref p.1) ps
  | [], _ => .nil
  | p :: ps, h => .cons (Dp.reads I (encR p) (.ref p.1) (Value.ref p.1) (dp_row (SqL.of (h p List.mem_cons_self))) rfl) (reads_rows I fun q hq => h q (List.mem_cons_of_mem _ hq))
theorem rows_len {pins : List (Addr × Obj)} {s : Shared} {σ : L2.St} {H : Hp} {a : Addr} {ps : List Row} (I : Inv X pins σ H s) (h : SqL X.K H a (refs ps)) : ps.length ≤ sizeLine := by
  obtain ⟨_, _, _, z⟩ := I.list h
  unfold refs at z
  rw [List.length_map] at z
  exact z
def lexR (p q : Row) : Bool := Lsm.lexB p.2 q.2
def sumR (p q : Row) : Bool := Lsm.sumB p.2 q.2
theorem le_encR : PySem.W.dataLe false encR = lexR := by
  unfold encR lexR Lsm.lexB
  rw [PySem.W.dataLe_rows (β := Row) fun b => Lsm.castv b.2]
theorem sort_nums_lex (ps : List Row) : nums (ps.mergeSort lexR) = (nums ps).mergeSort Lsm.lexB := List.map_mergeSort fun _ _ _ _ => rfl
theorem sort_nums_sum (ps : List Row) : nums (ps.mergeSort sumR) = (nums ps).mergeSort Lsm.sumB := List.map_mergeSort fun _ _ _ _ => rfl
/-- sorted(rows): a new list of the same rows in order -/
def rSortRows : List V → Hp → VK → Prop := fun vs H Q => ∃ (a : Addr) (ps : List Row), vs = [V.ref a] ∧ Rows H a ps ∧ ∀ l, H l = none → Q (.ref l) (upd H l (.lst (refs (ps.mergeSort lexR))))
theorem cr_sortRows (hu : X.A.units + 64 < cLine) : CallR X (.builtin "sorted") rSortRows := by
  intro pins s σ H vs us Q I r h
  obtain ⟨a, ps, rfl, hr, q⟩ := h
  obtain ⟨its, rv, hl, _⟩ := I.list (SqL.of hr.at')
  have hz := rows_len I (SqL.of hr.at')
  obtain rfl := refs_eq rv
  rw [Vals.ref1 r]
  refine PySem.W.sorted_data (enc := encR) (R := isR) hl.isList (each_refs ps) (reads_rows I hr.all) (AllAlike.of alike_encR) (Sortable.others fun b => ⟨fun z => (by cases z), fun xs z => (by cases z)⟩) hz (fun b _ => by rw [depth_encR]; omega) fun out hout eo => ?_
  rw [le_encR] at eo
  have eo' := of_each eo
  obtain ⟨ep, he'⟩ := PyProof.Rows.sortedAll_at s.heap (ps.map fun p => Value.ref p.1) out.toArray
  have hlen : (refs (ps.mergeSort lexR)).length ≤ sizeLine := by
    unfold refs
    rw [List.length_map, List.length_mergeSort]
    exact hz
  exact ⟨.ref _, upd H (s.heap.objs.size + 1) (.lst (refs (ps.mergeSort lexR))), I.laid (t' := s.toks) (fun _ _ => PyProof.Rows.sortedAll_old) (Nat.le_succ _) ⟨hlen, out, ep, by rw [eo']; exact vals_of_refs _, he'⟩, rfl, q _ (I.hok.fresh (Nat.le_succ _))⟩
/-- sorted(rows, key=sum): stably by the sums -/
def rSortSum : V → Hp → VK → Prop := fun v H Q => ∃ (a : Addr) (ps : List Row), v = V.ref a ∧ Rows H a ps ∧ ∀ l, H l = none → Q (.ref l) (upd H l (.lst (refs (ps.mergeSort sumR))))
theorem sum_castv (x : List Nat) : ((Lsm.castv x).sum : Int) = ((x.sum : Nat) : Int) := by
  induction x with
  | nil => rfl
  | cons a x ih =>
    show (Int.ofNat a :: Lsm.castv x).sum = _
    rw [List.sum_cons, List.sum_cons, ih]
    simp
theorem iV_castv (x : List Nat) : iV x = (Lsm.castv x).map V.int := by
  unfold iV Lsm.castv
  rw [List.map_map]
  rfl
theorem le_sumR : PySem.W.dataLe false (fun b : Row => .int ((b.2.sum : Nat) : Int)) = sumR := by
  unfold sumR Lsm.sumB
  rw [PySem.W.dataLe_int (β := Row) fun b => ((b.2.sum : Nat) : Int)]
theorem call_sortSum {pins : List (Addr × Obj)} {s : Shared} {σ : L2.St} {H : Hp} {v : V} {u : Value} {Q : VK} (hc : X.calm = true) (hu : X.A.units + 64 < cLine) (I : Inv X pins σ H s) (rv : RelV v u) (h : rSortSum v H Q) :
    wpAny (model X.prog X.w) X.A (call (.builtin "sorted") [u] [(Str.ofString "key", .builtin "sum")]) (EP X pins σ Q) X.xe s := by
  obtain ⟨a, ps, rfl, hr, q⟩ := h
  obtain rfl : u = Value.ref a := rv
  obtain ⟨its, rv, hl, _⟩ := I.list (SqL.of hr.at')
  have hz := rows_len I (SqL.of hr.at')
  obtain rfl := refs_eq rv
  refine PySem.W.sorted_key_data (b := false) (R := isR) (fun b : Row => .int ((b.2.sum : Nat) : Int)) hl.isList (each_refs ps) (AllAlike.of fun _ _ => rfl) (Sortable.others fun b => ⟨fun z => (by cases z), fun xs z => (by cases z)⟩) hz (fun b _ => by show _ + 2 + 0 < _; omega)
    (PyProof.Rows.ksk_s1 _ _) (fun _ => PyProof.Rows.ksk_l1 _ _) (fun _ => PyProof.Rows.ksk_t4 _ _) (fun v b hR hb h tk kp => ?_) fun out c h' tk kp _ hD hout eo => ?_
  · obtain rfl : v = Value.ref b.1 := hR
    obtain ⟨its, rv, hl, _⟩ := I.list (SqL.of (hr.all b hb))
    rw [iV_castv] at rv
    have hl' : PlainL h b.1 its.toArray := by
      obtain ⟨o, n, e, r⟩ := hl
      exact ⟨o, n, kp _ _ e, r⟩
    refine sum_raw (s := { s with heap := h, toks := tk }) (its := its) (ns := Lsm.castv b.2) (I.ok.hd hc) hl'.isList rv.ints fun h2 tk2 t2 k2 => ?_
    refine ⟨h2, tk2, rfl, k2, ?_⟩
    rw [sum_castv]
    exact Reads.int _ _
  · rw [le_sumR] at eo
    have eo' := of_each eo
    have hlen : (refs (ps.mergeSort sumR)).length ≤ sizeLine := by
      unfold refs
      rw [List.length_map, List.length_mergeSort]
      exact hz
    exact ⟨.ref _, upd H (s.heap.objs.size + 1) (.lst (refs (ps.mergeSort sumR))), I.laid (t' := tk) kp (Nat.le_succ _) ⟨hlen, out, c, by rw [eo']; exact vals_of_refs _, hD⟩, rfl, q _ (I.hok.fresh (Nat.le_succ _))⟩
/-- the reading of sorted(e, key=sum) -/
def tSortSum (t : TA) : TE := fun σ H Q => t σ H fun vs H1 => ∃ v, vs = [v] ∧ rSortSum v H1 Q
theorem pe_sortSum {p p2 kpos pos : Pos} {e : Expr} {t : TA} (hc : X.calm = true) (hu : X.A.units + 64 < cLine) (hg : Gl X "sorted") (hm : X.mg "sorted" = none) (hg2 : Gl X "sum") (hm2 : X.mg "sum" = none) (ha : PA X [e] t)
    (h1 : backTo pos (starEach [e] X.env) = [(false, eval e X.env)] := by rfl) (hpl : (backTo pos (starEach [e] X.env)).any (·.1) = false := by rfl)
    (hall : (backToKw pos (keywordEach [⟨some "key", .Name "sum" p2, kpos⟩] X.env)).all (·.1.isSome) = true := by rfl) (hnone : (backToKw pos (keywordEach [⟨some "key", .Name "sum" p2, kpos⟩] X.env)).any (·.1.isNone) = false := by rfl)
    (hks : (backToKw pos (keywordEach [⟨some "key", .Name "sum" p2, kpos⟩] X.env)).filterMap (·.1) = [Str.ofString "key"] := by rfl) :
    PE X (.Call (.Name "sorted" p) [e] [⟨some "key", .Name "sum" p2, kpos⟩] pos) (tSortSum t) := by
  refine ⟨fun pins s σ H Q I h => ?_⟩
  refine wpAny_Call_Name_kw (ld_blt I hg hm (u := .builtin "sorted") (by decide +kernel) ?_ (by decide) (by decide))
  refine PyProof.Rows.callWith_kw (thn (ha.run pos pins s σ H _ I h) fun us s1 ⟨vs, H1, I1, r1, v, ev, q1⟩ => ?_) h1 hpl hall hnone
  subst ev
  obtain ⟨u, rfl, ru⟩ := vals1 r1
  show wpAny _ _ (evalAll ((do let v ← eval (.Name "sum" p2) X.env; standAt pos; pure v) :: [])) _ _ s1
  refine wpAny_evalAll_cons (wpAny_bind (ld_blt I1 hg2 hm2 (u := .builtin "sum") (by decide +kernel) (wpAny_bind (wpAny_standAt (wpAny_pure (wpAny_evalAll_nil ?_)))) (by decide) (by decide)))
  rw [hks]
  exact call_sortSum hc hu I1 ru q1
end
end Lw
namespace Lw
open PySem PySem.Spec PyProof.Rows L2
open PySem.W (Codec)
/-! ### is_contained, contains_some -/
abbrev sCont : Stmt := topS 13
abbrev sSome : Stmt := topS 14
theorem scCont : FnScope ["one", "other", "k"] ["one", "other"] (defScope sCont) := ⟨rfl, rfl, rfl, by decide +kernel, rfl, by decide +kernel, by decide +kernel⟩
theorem scSome : FnScope ["vector", "others", "other"] ["vector", "others"] (defScope sSome) := ⟨rfl, rfl, rfl, by decide +kernel, rfl, by decide +kernel, by decide +kernel⟩
def spCont (K : PySem.W.Frag) : Sp := fun vs H Q _ => ∃ (a b : Addr) (x y : List Nat), vs = [.ref a, .ref b] ∧ SqL K H a (iV x) ∧ SqL K H b (iV y) ∧ x.length = y.length ∧ x.length ≤ 4 ∧ Q (.bl (Ks605.isContained x y)) H
def spSome (K : PySem.W.Frag) : Sp := fun vs H Q _ => ∃ (b : Addr) (v : List Nat) (a : Addr) (ps : List Row), vs = [.ref b, .ref a] ∧ SqL K H b (iV v) ∧ Rows H a ps ∧ (∀ p ∈ ps, p.2.length = v.length) ∧ v.length ≤ 4 ∧
  Q (.bl ((nums ps).any fun y => Ks605.isContained y v)) H
theorem refs_get {ps : List Row} {i : Nat} {v : V} (h : (refs ps)[i]? = some v) : ∃ p, ps[i]? = some p ∧ v = .ref p.1 := by
  unfold refs at h
  rw [List.getElem?_map] at h
  cases e : ps[i]? with
  | none =>
    rw [e] at h
    cases h
  | some p =>
    rw [e] at h
    exact ⟨p, rfl, (Option.some.inj h).symm⟩
theorem refs_length (ps : List Row) : (refs ps).length = ps.length := List.length_map ..
theorem nums_length (ps : List Row) : (nums ps).length = ps.length := List.length_map ..
section
variable {P : Program} {w : World} {K : PySem.W.Frag} {mg : Str → Option Value} {base : Heap} {C fI : Addr}
theorem ok_cont {f : Addr} {fd : FuncData} (F : Fun K "is_contained" "is_contained" sCont f fd) (T : TxtV K mg) : FnOk P w K mg base CX0 1 f fd ["one", "other"] (spCont K) := by
  refine F.ok scCont (fun vs H Q E h => ?_) (fun cdv A outer s H vs Q E hr h => ?_)
  · obtain ⟨a, b, x, y, rfl, _⟩ := h
    rfl
  · obtain ⟨a, b, x, y, rfl, hA, hB, hl, h4, q⟩ := h
    refine ⟨_, pss_cons (ps_for PassesOwn.never rfl (pi_range1 rfl T.range (pa_cons (pe_callB call_len_seq (by rfl) T.len PySem.boot_len (pa_cons (pv 0) pa_nil)) pa_nil)) (pg_name (i := 2) scCont.nd rfl (.inl rfl))
        (pss_one (ps_if (pt_cmpR op_gt (pe_ix ix_list (pv 0) (pv 2) (fun _ _ => rfl)) (pe_ix ix_list (pv 1) (pv 2) (fun _ _ => rfl)) (nomark _)) (pss_one (ps_ret pe_bl)) pss_nil)))
      (pss_one (ps_ret pe_bl)), ?_⟩
    have hlen := iV_length x
    refine ⟨_, rfl, a, _, rfl, .inl hA, _, rfl, by omega, by omega, ?_⟩
    refine for_range (lo := 0) (n := ((iV x).length : Int).toNat) (fun i σ H' => ∃ v : Option V, σ = [some (.ref a), some (.ref b), v] ∧ H' = H ∧ ((x.zip y).take i).all (fun p => decide (p.1 ≤ p.2)) = true) ⟨none, rfl, rfl, rfl⟩ ?_ ?_
    · rintro i σ H' hi ⟨v, rfl, rfl, hw⟩
      obtain ⟨m, hx, _⟩ := get_some (l := x) (i := i) (by omega)
      obtain ⟨n, hy, _⟩ := get_some (l := y) (i := i) (by omega)
      have ez : (x.zip y)[i]? = some (m, n) := List.getElem?_zip_eq_some.mpr ⟨hx, hy⟩
      refine ⟨_, rfl, _, rfl, a, _, _, _, rfl, rfl, hA, atI0 (iV_get hx), _, rfl, _, rfl, b, _, _, _, rfl, rfl, hB, atI0 (iV_get hy), _, _, rfl, rfl, _, rfl, ?_⟩
      by_cases c : (n : Int) < (m : Int)
      · refine if_true_of (decide_eq_true c) ?_
        have e : Ks605.isContained x y = false := by
          unfold Ks605.isContained
          rw [List.all_eq_false]
          refine ⟨(m, n), List.mem_of_getElem? ez, ?_⟩
          show ¬ decide (m ≤ n) = true
          rw [decide_eq_true_eq]
          omega
        rw [e] at q
        exact q
      · refine if_false_of (decide_eq_false c) ⟨some (.int (0 + (i : Int))), rfl, rfl, ?_⟩
        rw [take_succ ez, List.all_append, hw]
        show (true && (decide (m ≤ n) && true)) = true
        rw [decide_eq_true (by omega)]
        rfl
    · rintro σ H' ⟨v, rfl, rfl, hw⟩
      have e : Ks605.isContained x y = true := by
        rw [List.take_of_length_le (by rw [List.length_zip]; omega)] at hw
        exact hw
      rw [e] at q
      exact q
theorem ok_some {f fC : Addr} {fd fdC : FuncData} (F : Fun K "contains_some" "contains_some" sSome f fd) (N : At K mg "is_contained" sCont ["one", "other"] fC fdC) (G : FnOk P w K mg base CX0 1 fC fdC ["one", "other"] (spCont K)) :
    FnOk P w K mg base CX0 2 f fd ["vector", "others"] (spSome K) := by
  refine F.ok scSome (fun vs H Q E h => ?_) (fun cdv A outer s H vs Q E hr h => ?_)
  · obtain ⟨b, v, a, ps, rfl, _⟩ := h
    rfl
  · obtain ⟨b, v, a, ps, rfl, hV, hR, hl, h4, q⟩ := h
    refine ⟨_, pss_cons (ps_for PassesOwn.never rfl (pi_list (pv 1)) (pg_name (i := 2) scSome.nd rfl (.inl rfl))
        (pss_one (ps_if (pt_val (pe_call G hr rfl N.gl N.fn.kp N.bn .nil pass0 (pa_cons (pv 2) (pa_cons (pv 0) pa_nil)))) (pss_one (ps_ret pe_bl)) pss_nil)))
      (pss_one (ps_ret pe_bl)), ?_⟩
    refine ⟨_, rfl, a, rfl, ⟨_, SqL.of hR.at'⟩, for_list (K := K) (a := a) (xs := refs ps) (fun i σ H' => ∃ o : Option V, σ = [some (.ref b), some (.ref a), o] ∧ H' = H ∧ ((nums ps).take i).any (fun y => Ks605.isContained y v) = false)
      ⟨none, rfl, rfl, rfl⟩ (fun i σ H' _ ⟨_, _, e, _⟩ => by rw [e]; exact SqL.of hR.at') ?_ ?_⟩
    · rintro i y σ H' hi ⟨o, rfl, rfl, hw⟩
      obtain ⟨p, hp, rfl⟩ := refs_get hi
      have hm := List.mem_of_getElem? hp
      have en : (nums ps)[i]? = some p.2 := by
        unfold nums
        rw [List.getElem?_map, hp]
        rfl
      refine ⟨_, rfl, _, rfl, p.1, b, p.2, v, rfl, SqL.of (hR.all p hm), hV, hl p hm, by rw [hl p hm]; exact h4, _, rfl, ?_⟩
      cases c : Ks605.isContained p.2 v with
      | true =>
        have e : ((nums ps).any fun y => Ks605.isContained y v) = true := List.any_eq_true.mpr ⟨p.2, List.mem_of_getElem? en, c⟩
        rw [e] at q
        exact q
      | false =>
        refine ⟨some (.ref p.1), rfl, rfl, ?_⟩
        rw [take_succ en, List.any_append, hw]
        show (false || (Ks605.isContained p.2 v || false)) = false
        rw [c]
        rfl
    · rintro σ H' ⟨o, rfl, rfl, hw⟩
      rw [refs_length, List.take_of_length_le (by rw [nums_length]; exact Nat.le_refl _)] at hw
      rw [hw] at q
      exact q
end
end Lw
namespace Lw
open PySem PySem.Spec PyProof.Rows L2
open PySem.W (Codec)
/-! ### all_vectors -/
abbrev sAllV : Stmt := topS 20
theorem scAllV : FnScope ["length", "found", "turn", "longer", "vector", "element"] ["length"] (defScope sAllV) := ⟨rfl, rfl, rfl, by decide +kernel, rfl, by decide +kernel, by decide +kernel⟩
/-- the list and its rows are new -/
def NewR (H : Hp) (a : Addr) (ps : List Row) : Prop := H a = none ∧ ∀ p ∈ ps, H p.1 = none
theorem NewR.free {H H' : Hp} {a : Addr} {ps : List Row} (s : Same H H') (n : NewR H' a ps) : NewR H a ps := ⟨s.free n.1, fun p hp => s.free (n.2 p hp)⟩
/-- a list of rows that grows at l: all of H1 stands, the rows are new since H1 -/
structure Built (H1 : Hp) (l : Addr) (H2 : Hp) (qs : List Row) : Prop where
  same : Same H1 H2
  at' : H2 l = some (.lst (refs qs))
  new : H1 l = none
  all : ∀ q ∈ qs, H2 q.1 = some (.lst (iV q.2)) ∧ H1 q.1 = none ∧ q.1 ≠ l
theorem Built.rows {H1 H2 : Hp} {l : Addr} {qs : List Row} (b : Built H1 l H2 qs) : Rows H2 l qs := ⟨b.at', fun q hq => (b.all q hq).1⟩
theorem Built.newR {H1 H2 : Hp} {l : Addr} {qs : List Row} (b : Built H1 l H2 qs) : NewR H1 l qs := ⟨b.new, fun q hq => (b.all q hq).2.1⟩
theorem Built.start {H1 : Hp} {l : Addr} (h : H1 l = none) : Built H1 l (upd H1 l (.lst [])) [] := ⟨same_upd h, upd_same, h, fun q hq => nomatch hq⟩
theorem Built.more {H1 H2 H3 : Hp} {l : Addr} {qs : List Row} (b : Built H1 l H2 qs) (s : Same H2 H3) : Built H1 l H3 qs := ⟨b.same.trans s, s _ _ b.at', b.new, fun q hq => ⟨s _ _ (b.all q hq).1, (b.all q hq).2⟩⟩
theorem Built.push {H1 H2 : Hp} {l r : Addr} {x : List Nat} {qs : List Row} (b : Built H1 l H2 qs) (hr : H2 r = none) :
    Built H1 l (upd (upd H2 r (.lst (iV x))) l (.lst (refs qs ++ [.ref r]))) (qs ++ [(r, x)]) := by
  have hrl : r ≠ l := fun e => by
    rw [e, b.at'] at hr
    cases hr
  refine ⟨fun c o hc => ?_, ?_, b.new, fun q hq => ?_⟩
  · have h1 : c ≠ l := fun e => by
      rw [e, b.new] at hc
      cases hc
    have h2 := b.same c o hc
    rw [upd_ne h1, upd_ne (ne_of_none h2 hr)]
    exact h2
  · rw [upd_same]
    unfold refs
    rw [List.map_append]
    rfl
  · rcases List.mem_append.mp hq with hq | hq
    · obtain ⟨h1, h2, h3⟩ := b.all q hq
      exact ⟨by rw [upd_ne h3, upd_ne (ne_of_none h1 hr)]; exact h1, h2, h3⟩
    · have e : q = (r, x) := by simpa using hq
      rw [e]
      exact ⟨by rw [upd_ne hrl, upd_same], b.same.free hr, hrl⟩
theorem iV_snoc (x : List Nat) (n : Nat) : iV (x ++ [n]) = iV x ++ [V.int (0 + (n : Int))] := by
  unfold iV
  rw [List.map_append, Int.zero_add]
  rfl
theorem nums_snoc (qs : List Row) (r : Addr) (x : List Nat) : nums (qs ++ [(r, x)]) = nums qs ++ [x] := by
  unfold nums
  rw [List.map_append]
  rfl
theorem grow_append (F G : List (List Nat)) : Lsm.grow (F ++ G) = Lsm.grow F ++ Lsm.grow G := by
  unfold Lsm.grow
  rw [List.flatMap_append]
theorem grow_one (v : List Nat) : Lsm.grow [v] = (List.range 7).map fun e => v ++ [e] := by
  unfold Lsm.grow
  rw [List.flatMap_cons, List.flatMap_nil, List.append_nil]
theorem grow_length (F : List (List Nat)) : (Lsm.grow F).length = F.length * 7 := Lsm.flat_length fun v _ => by
  rw [List.length_map, List.length_range]
def spAllV : Sp := fun vs H Q _ => ∃ n : Nat, vs = [.int (n : Int)] ∧ n ≤ 4 ∧ ∀ (H' : Hp) (p : Addr) (ps : List Row), Same H H' → Rows H' p ps → NewR H p ps → nums ps = Lsm.allV n → Q (.ref p) H'
theorem seven (i : Nat) (h : i < 4) : 7 ^ i ≤ 343 := by
  have : 7 ^ i ≤ 7 ^ 3 := Nat.pow_le_pow_right (by decide) (by omega)
  exact this
theorem lineN {n : Nat} (h : n ≤ 100000) : n < sizeLine := Nat.lt_of_le_of_lt h (by decide)
section
variable {P : Program} {w : World} {K : PySem.W.Frag} {mg : Str → Option Value} {base : Heap} {C fI : Addr}
theorem ok_allV {f : Addr} {fd : FuncData} (F : Fun K "all_vectors" "all_vectors" sAllV f fd) (T : TxtV K mg) (mm : ∃ t, mg "MOST_IN_MINIMAL" = some (.int 6 t)) : FnOk P w K mg base CX0 1 f fd ["length"] spAllV := by
  obtain ⟨t1, m1⟩ := mm
  refine F.ok scAllV (fun vs H Q E h => ?_) (fun cdv A outer s H vs Q E hr h => ?_)
  · obtain ⟨n, rfl, _⟩ := h
    rfl
  · obtain ⟨n, rfl, h4, q⟩ := h
    refine ⟨_, pss_cons (ps_set (i := 1) scAllV.nd rfl (.inl rfl) (pe_lst (pa_cons (pe_lst pa_nil) pa_nil)))
      (pss_cons (ps_for PassesOwn.never rfl (pi_range1 rfl T.range (pa_cons (pv 0) pa_nil)) (pg_name (i := 2) scAllV.nd rfl (.inl rfl))
        (pss_cons (ps_set (i := 3) scAllV.nd rfl (.inl rfl) (pe_lst pa_nil))
        (pss_cons (ps_for PassesOwn.never rfl (pi_list (pv 1)) (pg_name (i := 4) scAllV.nd rfl (.inl rfl))
          (pss_one (ps_for PassesOwn.never rfl (pi_range1 rfl T.range (pa_cons (pe_op op_add (pgI rfl m1) pe_int) pa_nil)) (pg_name (i := 5) scAllV.nd rfl (.inl rfl))
            (pss_one (ps_expr (pe_bm PySem.F.plainAttrs_list PySem.F.slot_list_append PySem.F.type_list_append mt_append (pv 3) (pa_cons (pe_op op_cat (pv 4) (pe_lst (pa_cons (pv 5) pa_nil))) pa_nil)))))))
        (pss_one (ps_set (i := 1) scAllV.nd rfl (.inl rfl) (pv 3))))))
      (pss_one (ps_ret (pv 1)))), ?_⟩
    refine ⟨Nat.zero_le _, fun p hp => ⟨(by show 1 ≤ sizeLine; decide), fun f0 hf => ?_⟩⟩
    have hpf : p ≠ f0 := fun e => by
      rw [← e, upd_same] at hf
      cases hf
    have s0 : Same H (upd (upd H p (.lst [])) f0 (.lst [.ref p])) := (same_upd hp).trans (same_upd hf)
    refine ⟨_, rfl, _, rfl, by omega, by omega, ?_⟩
    refine for_range (lo := 0) (n := ((n : Nat) : Int).toNat) (fun i σ H1 => ∃ (f1 : Addr) (ps : List Row) (o2 o3 o4 o5 : Option V), σ = [some (.int (n : Int)), some (.ref f1), o2, o3, o4, o5] ∧ Same H H1 ∧ Rows H1 f1 ps ∧ NewR H f1 ps ∧ nums ps = Lsm.allV i)
      ⟨f0, [(p, [])], none, none, none, none, rfl, s0, ⟨upd_same, fun q hq => ?_⟩, ⟨(same_upd hp).free hf, fun q hq => ?_⟩, rfl⟩ ?_ ?_
    · have e : q = (p, []) := by simpa using hq
      rw [e, upd_ne hpf, upd_same]
      rfl
    · have e : q = (p, []) := by simpa using hq
      rw [e]
      exact hp
    · rintro i σ H1 hi ⟨f1, ps, o2, o3, o4, o5, rfl, s1, R1, n1, e1⟩
      have hi4 : i < 4 := by omega
      have hps : ps.length = 7 ^ i := by rw [← nums_length, e1, Lsm.allV_length]
      have h343 := seven i hi4
      refine ⟨Nat.zero_le _, fun l hl => ?_⟩
      refine ⟨_, rfl, f1, rfl, ⟨_, SqL.of ((same_upd hl) _ _ R1.at')⟩, ?_⟩
      refine for_list (K := K) (a := f1) (xs := refs ps) (fun j σ H2 => ∃ (qs : List Row) (o4 o5 : Option V), σ = [some (.int (n : Int)), some (.ref f1), some (.int (0 + (i : Int))), some (.ref l), o4, o5] ∧ Built H1 l H2 qs ∧ nums qs = Lsm.grow ((Lsm.allV i).take j))
        ⟨[], o4, o5, rfl, Built.start hl, rfl⟩ (fun j σ H2 _ ⟨_, _, _, _, b, _⟩ => SqL.of (b.same _ _ R1.at')) ?_ ?_
      · rintro j y σ H2 hj ⟨qs, o4, o5, rfl, b, eq⟩
        obtain ⟨v, hv, rfl⟩ := refs_get hj
        have hjl : j < ps.length := (List.getElem?_eq_some_iff.mp hv).1
        have hvm := List.mem_of_getElem? hv
        have hvr := R1.all v hvm
        have hva : (Lsm.allV i)[j]? = some v.2 := by
          rw [← e1]
          unfold nums
          rw [List.getElem?_map, hv]
          rfl
        have hvl : v.2.length = i := Lsm.allV_len (List.mem_of_getElem? hva)
        have hgl : (Lsm.grow ((Lsm.allV i).take j)).length = j * 7 := by
          rw [grow_length, List.length_take, Lsm.allV_length, Nat.min_eq_left (by omega)]
        refine ⟨_, _, rfl, rfl, _, rfl, by decide, by decide, ?_⟩
        refine for_range (lo := 0) (n := ((6 + 1 : Int)).toNat) (fun k σ H3 => ∃ (qs : List Row) (o5 : Option V), σ = [some (.int (n : Int)), some (.ref f1), some (.int (0 + (i : Int))), some (.ref l), some (.ref v.1), o5] ∧ Built H1 l H3 qs ∧ nums qs = Lsm.grow ((Lsm.allV i).take j) ++ (List.range k).map fun e => v.2 ++ [e])
          ⟨qs, o5, rfl, b, by rw [eq]; simp⟩ ?_ ?_
        · rintro k σ H3 hk ⟨qs, o5, rfl, b3, eq3⟩
          have hk7 : k < 7 := hk
          have hql : qs.length = j * 7 + k := by rw [← nums_length, eq3, List.length_append, hgl, List.length_map, List.length_range]
          refine ⟨_, rfl, .inl ⟨rfl, _, SqL.of b3.at'⟩, ?_⟩
          refine ⟨_, rfl, _, rfl, (by show 1 ≤ sizeLine; decide), fun t ht => ?_⟩
          have b4 := b3.more (same_upd (o := .lst [.int (0 + (k : Int))]) ht)
          refine ⟨v.1, t, iV v.2, [.int (0 + (k : Int))], rfl, rfl, b4.same _ _ hvr, upd_same, ?_, fun r hr => ?_⟩
          · rw [iV_length, hvl]
            exact Nat.le_of_lt (lineN (by show i + 1 ≤ 100000; omega))
          · rw [← iV_snoc]
            refine ⟨l, refs qs, _, rfl, rfl, ?_, ?_, ?_⟩
            · exact (b4.more (same_upd hr)).at'
            · rw [refs_length]
              exact lineN (by omega)
            · refine ⟨qs ++ [(r, v.2 ++ [k])], some (.int (0 + (k : Int))), rfl, b4.push hr, ?_⟩
              rw [nums_snoc, eq3, List.range_succ, List.map_append, List.append_assoc]
              rfl
        · rintro σ H3 ⟨qs, o5, rfl, b3, eq3⟩
          refine ⟨qs, some (.ref v.1), o5, rfl, b3, ?_⟩
          rw [eq3, take_succ hva, grow_append, grow_one]
          rfl
      · rintro σ H2 ⟨qs, o4, o5, rfl, b, eq⟩
        refine ⟨_, rfl, l, qs, some (.int (0 + (i : Int))), some (.ref l), o4, o5, rfl, s1.trans b.same, b.rows, b.newR.free s1, ?_⟩
        rw [eq, List.take_of_length_le (by rw [refs_length, hps, Lsm.allV_length]; exact Nat.le_refl _)]
        rfl
    · rintro σ H1 ⟨f1, ps, o2, o3, o4, o5, rfl, s1, R1, n1, e1⟩
      refine ⟨_, rfl, q H1 f1 ps s1 R1 n1 ?_⟩
      rw [e1]
      rfl
end
end Lw
namespace Lw
open PySem PySem.Spec PyProof.Rows L2
open PySem.W (Codec)
/-! ### small_solutions, least_solutions -/
abbrev sSmall : Stmt := topS 21
abbrev sLeast : Stmt := topS 22
theorem scSmall : FnScope ["coefficients", "vectors", "vector"] ["coefficients"] (defScope sSmall) := ⟨rfl, rfl, rfl, by decide +kernel, rfl, by decide +kernel, by decide +kernel⟩
theorem scLeast : FnScope ["coefficients", "found", "vector"] ["coefficients"] (defScope sLeast) := ⟨rfl, rfl, rfl, by decide +kernel, rfl, by decide +kernel, by decide +kernel⟩
def spSmall (K : PySem.W.Frag) : Sp := fun vs H Q _ => ∃ (a : Addr) (ns : List Int), vs = [.ref a] ∧ SqL K H a (ns.map V.int) ∧ okC ns = true ∧
  ∀ (H' : Hp) (p : Addr) (ps : List Row), Same H H' → Rows H' p ps → NewR H p ps → nums ps = Ks605.nonzeroSolutions ns → Q (.ref p) H'
def spLeast (K : PySem.W.Frag) : Sp := fun vs H Q _ => ∃ (a : Addr) (ns : List Int), vs = [.ref a] ∧ SqL K H a (ns.map V.int) ∧ okC ns = true ∧
  ∀ (H' : Hp) (p : Addr) (ps : List Row), Same H H' → Rows H' p ps → NewR H p ps → nums ps = Ks605.minimalSolutions ns → Q (.ref p) H'
theorem cut1 (xs : List V) : cutV xs (some 1) none = xs.drop 1 := by
  unfold cutV
  rw [show HT.sIx xs.length 0 (some 1) = min 1 xs.length from HT.sIx_nat xs.length 0 1, HT.sIx_none]
  cases xs with
  | nil => rfl
  | cons x r =>
    rw [show min 1 (x :: r).length = 1 by
      rw [List.length_cons]
      omega]
    show (List.take ((x :: r).length - 1) r) = r
    rw [List.length_cons, Nat.add_sub_cancel]
    exact List.take_length
def isSol (ns : List Int) (p : Row) : Bool := Ks605.evaluate ns p.2 == 0
theorem nums_filter (ns : List Int) (ps : List Row) : nums (ps.filter (isSol ns)) = (nums ps).filter fun v => Ks605.evaluate ns v == 0 := by
  unfold nums
  rw [List.filter_map]
  rfl
theorem refs_append (ps qs : List Row) : refs (ps ++ qs) = refs ps ++ refs qs := by
  unfold refs
  rw [List.map_append]
theorem nums_append (ps qs : List Row) : nums (ps ++ qs) = nums ps ++ nums qs := by
  unfold nums
  rw [List.map_append]
section
variable {P : Program} {w : World} {K : PySem.W.Frag} {mg : Str → Option Value} {base : Heap} {C fI : Addr}
theorem ok_small {f fA fF : Addr} {fd fdA fdF : FuncData} (F : Fun K "small_solutions" "small_solutions" sSmall f fd) (T : TxtV K mg)
    (NA : At K mg "all_vectors" sAllV ["length"] fA fdA) (GA : FnOk P w K mg base CX0 1 fA fdA ["length"] spAllV)
    (NF : At K mg "form_value" sForm ["coefficients", "x"] fF fdF) (GF : FnOk P w K mg base CX0 1 fF fdF ["coefficients", "x"] (spForm K)) :
    FnOk P w K mg base CX0 2 f fd ["coefficients"] (spSmall K) := by
  refine F.ok scSmall (fun vs H Q E h => ?_) (fun cdv A outer s H vs Q E hr h => ?_)
  · obtain ⟨a, ns, rfl, _⟩ := h
    rfl
  · obtain ⟨a, ns, rfl, hS, hC, q⟩ := h
    refine ⟨_, pss_cons (ps_set (i := 1) scSmall.nd rfl (.inl rfl) (pe_call GA hr rfl NA.gl NA.fn.kp NA.bn .nil pass0 (pa_cons (pe_callB call_len_seq (by rfl) T.len PySem.boot_len (pa_cons (pv 0) pa_nil)) pa_nil)))
      (pss_one (ps_ret (pe_lc (own := [("vector", 2)]) (g := gName 2) rfl scSmall.nd (pi_list (pe_slice sl_list (pv 1) (po_some pe_int) po_none)) (blkOk_by (N := ["coefficients", "vectors", "vector"]) (sc := defScope sSmall) (by decide +kernel))
        (fun _ _ _ _ _ => pg_name (i := 2) scSmall.nd rfl (Or.inl rfl))
        (fun _ _ _ _ _ => pts_one (pt_cmpR op_eq (pe_call GF hr rfl NF.gl NF.fn.kp NF.bn .nil pass0 (pa_cons (pv 0) (pa_cons (pv 2) pa_nil))) pe_int (nomark _)))
        (fun _ _ _ _ _ => pv 2)))), ?_⟩
    have c6 := okC_len hC
    refine ⟨_, rfl, a, _, rfl, .inl hS, ns.length, (by rw [List.length_map]; rfl), c6.2.1, fun H1 p ps s1 R1 n1 e1 => ?_⟩
    refine ⟨_, rfl, _, rfl, p, _, rfl, SqL.of R1.at', fun c hc => ?_⟩
    have s2 := s1.trans (same_upd (o := .lst (cutV (refs ps) (some 1) none)) hc)
    have ecut : cutV (refs ps) (some 1) none = refs (ps.drop 1) := by
      rw [cut1]
      unfold refs
      rw [List.map_drop]
    rw [ecut] at s2 ⊢
    refine ⟨c, rfl, ⟨_, SqL.of upd_same⟩, fun D hD => ?_⟩
    refine lc_list (K := K) (a := c) (xs := refs (ps.drop 1)) (fun i H2 => Same (upd H1 c (.lst (refs (ps.drop 1)))) H2 ∧ H2 D = some (.lst (refs (((ps.drop 1).take i).filter (isSol ns)))))
      ⟨same_upd hD, upd_same⟩ (fun i H2 _ ⟨s3, _⟩ => SqL.of (s3 _ _ upd_same)) ?_ ?_
    · rintro i y H2 hi ⟨s3, hd⟩
      obtain ⟨v, hv, rfl⟩ := refs_get hi
      have hvm : v ∈ ps := List.mem_of_mem_drop (List.mem_of_getElem? hv)
      have hvr : H2 v.1 = some (.lst (iV v.2)) := s3 _ _ ((same_upd hc) _ _ (R1.all v hvm))
      have hvl : ns.length = v.2.length := by
        have : v.2 ∈ nums ps := List.mem_map_of_mem hvm
        rw [e1] at this
        exact (Lsm.allV_len this).symm
      have hlen : (ps.drop 1).length ≤ 2401 := by
        rw [List.length_drop, ← nums_length, e1, Lsm.allV_length]
        have : 7 ^ ns.length ≤ 7 ^ 4 := Nat.pow_le_pow_right (by decide) c6.2.1
        have : (7 : Nat) ^ 4 = 2401 := by decide
        omega
      have hacc : (refs (((ps.drop 1).take i).filter (isSol ns))).length < sizeLine := by
        rw [refs_length]
        refine lineN (Nat.le_trans (List.length_filter_le _ _) ?_)
        rw [List.length_take]
        omega
      refine ⟨rfl, _, rfl, _, rfl, a, ns, v.1, v.2, rfl, s3.seq (s2.seq hS), SqL.of hvr, hvl, c6.2.1, c6.2.2, ?_⟩
      refine ⟨rfl, _, rfl, ?_⟩
      by_cases cz : Ks605.evaluate ns v.2 = 0
      · rw [decide_eq_true (by rw [cz])]
        refine if_true_of rfl ⟨_, rfl, _, hd, hacc, fun b o hb => ?_, ?_⟩
        · have hbD : b ≠ D := fun e => by
            rw [e] at hb
            rw [hD] at hb
            cases hb
          rw [upd_ne hbD]
          exact s3 b o hb
        · rw [upd_same, take_succ hv, List.filter_append, refs_append]
          have e : isSol ns v = true := by
            unfold isSol
            rw [cz]
            rfl
          rw [List.filter_cons, e]
          rfl
      · rw [decide_eq_false (by rw [V.int.injEq]; exact cz)]
        refine if_false_of rfl ⟨s3, ?_⟩
        rw [hd, take_succ hv, List.filter_append]
        have e : isSol ns v = false := by
          unfold isSol
          rw [beq_eq_false_iff_ne]
          exact cz
        rw [List.filter_cons, e]
        show _ = some (HO.lst (refs (_ ++ [])))
        rw [List.append_nil]
    · rintro H2 ⟨s3, hd⟩
      rw [refs_length, List.take_of_length_le (Nat.le_refl _)] at hd
      have sH : Same H H2 := s2.trans s3
      refine q H2 D _ sH ⟨hd, fun v hv => ?_⟩ ⟨s2.free hD, fun v hv => ?_⟩ ?_
      · have hvm := List.mem_of_mem_drop (List.mem_filter.mp hv).1
        exact s3 _ _ ((same_upd hc) _ _ (R1.all v hvm))
      · exact n1.2 v (List.mem_of_mem_drop (List.mem_filter.mp hv).1)
      · rw [nums_filter]
        have e : nums (ps.drop 1) = (Lsm.allV ns.length).drop 1 := by
          rw [← e1]
          unfold nums
          rw [List.map_drop]
        rw [e, Lsm.small_is]
structure TxtL (mg : Str → Option Value) : Prop where
  sorted : mg "sorted" = none
  sum : mg "sum" = none
theorem ok_least {f fS fC : Addr} {fd fdS fdC : FuncData} (F : Fun K "least_solutions" "least_solutions" sLeast f fd) (TL : TxtL mg)
    (NS : At K mg "small_solutions" sSmall ["coefficients"] fS fdS) (GS : FnOk P w K mg base CX0 2 fS fdS ["coefficients"] (spSmall K))
    (NC : At K mg "contains_some" sSome ["vector", "others"] fC fdC) (GC : FnOk P w K mg base CX0 2 fC fdC ["vector", "others"] (spSome K)) :
    FnOk P w K mg base CX0 3 f fd ["coefficients"] (spLeast K) := by
  refine F.ok scLeast (fun vs H Q E h => ?_) (fun cdv A outer s H vs Q E hr h => ?_)
  · obtain ⟨a, ns, rfl, _⟩ := h
    rfl
  · obtain ⟨a, ns, rfl, hS, hC, q⟩ := h
    refine ⟨_, pss_cons (ps_set (i := 1) scLeast.nd rfl (.inl rfl) (pe_lst pa_nil))
      (pss_cons (ps_for PassesOwn.never rfl (pi_list (pe_sortSum rfl hr.units rfl TL.sorted rfl TL.sum (pa_cons (pe_call GS hr rfl NS.gl NS.fn.kp NS.bn .nil pass0 (pa_cons (pv 0) pa_nil)) pa_nil))) (pg_name (i := 2) scLeast.nd rfl (.inl rfl))
        (pss_one (ps_if (pt_not (pt_val (pe_call GC hr rfl NC.gl NC.fn.kp NC.bn .nil pass0 (pa_cons (pv 2) (pa_cons (pv 1) pa_nil)))))
          (pss_one (ps_expr (pe_bm PySem.F.plainAttrs_list PySem.F.slot_list_append PySem.F.type_list_append mt_append (pv 1) (pa_cons (pv 2) pa_nil)))) pss_nil)))
      (pss_one (ps_ret (pe_callB (cr_sortRows hr.units) (by rfl) TL.sorted (by decide +kernel) (pa_cons (pv 1) pa_nil))))), ?_⟩
    have c6 := okC_len hC
    refine ⟨Nat.zero_le _, fun f0 hf => ?_⟩
    have s0 : Same H (upd H f0 (.lst [])) := same_upd hf
    refine ⟨_, rfl, a, ns, rfl, s0.seq hS, hC, fun H1 p ps s1 R1 n1 e1 => ?_⟩
    refine ⟨.ref p, rfl, p, ps, rfl, R1, fun l hl => ?_⟩
    have hf1 : H1 f0 = some (.lst []) := s1 _ _ upd_same
    have hlf : l ≠ f0 := fun e => by
      rw [e, hf1] at hl
      cases hl
    have hqf : ∀ v ∈ ps, v.1 ≠ f0 := fun v hv e => by
      have := n1.2 v hv
      rw [e, upd_same] at this
      cases this
    -- the sorted rows
    obtain ⟨qs, hqs⟩ : ∃ qs, qs = ps.mergeSort sumR := ⟨_, rfl⟩
    have hqm : ∀ v ∈ qs, v ∈ ps := fun v hv => by
      rw [hqs] at hv
      exact (List.mergeSort_perm ps sumR).mem_iff.mp hv
    have hqn : nums qs = (Ks605.nonzeroSolutions ns).mergeSort Lsm.sumB := by rw [hqs, sort_nums_sum, e1]
    rw [← hqs]
    have hlen : ∀ v ∈ ps, v.2.length = ns.length := fun v hv => by
      have : v.2 ∈ nums ps := List.mem_map_of_mem hv
      rw [e1] at this
      exact (Lsm.solutions_len this).1
    have hql : qs.length ≤ 2401 := by
      rw [hqs, List.length_mergeSort, ← nums_length, e1]
      refine Nat.le_trans (Lsm.solutions_length ns) ?_
      have : 7 ^ ns.length ≤ 7 ^ 4 := Nat.pow_le_pow_right (by decide) c6.2.1
      exact this
    refine ⟨l, rfl, ⟨_, SqL.of upd_same⟩, ?_⟩
    refine for_list (K := K) (a := l) (xs := refs qs) (fun i σ H2 => ∃ (gs : List Row) (o : Option V), σ = [some (.ref a), some (.ref f0), o] ∧ (∀ b o, b ≠ f0 → H1 b = some o → H2 b = some o) ∧ H2 l = some (.lst (refs qs)) ∧ H2 f0 = some (.lst (refs gs)) ∧ (∀ v ∈ gs, v ∈ ps) ∧ gs.length ≤ i ∧
        nums gs = ((nums qs).take i).foldl Lsm.stepL [])
      ⟨[], none, rfl, fun b o _ hb => (same_upd hl) b o hb, upd_same, by rw [upd_ne hlf.symm]; exact hf1, (fun v hv => nomatch hv), Nat.le_refl _, rfl⟩ (fun i σ H2 _ ⟨_, _, _, _, hl2, _⟩ => SqL.of hl2) ?_ ?_
    · rintro i y σ H2 hi ⟨gs, o, rfl, k2, hl2, hf2, hgm, hgl, eg⟩
      obtain ⟨v, hv, rfl⟩ := refs_get hi
      have hil : i < qs.length := (List.getElem?_eq_some_iff.mp hv).1
      have hvp : v ∈ ps := hqm v (List.mem_of_getElem? hv)
      have hrow : ∀ u ∈ ps, H2 u.1 = some (.lst (iV u.2)) := fun u hu => k2 _ _ (hqf u hu) (R1.all u hu)
      have en : (nums qs)[i]? = some v.2 := by
        unfold nums
        rw [List.getElem?_map, hv]
        rfl
      have enext : ((nums qs).take (i + 1)).foldl Lsm.stepL [] = Lsm.stepL (nums gs) v.2 := by
        rw [take_succ en, List.foldl_append, ← eg]
        rfl
      refine ⟨_, rfl, _, rfl, v.1, v.2, f0, gs, rfl, SqL.of (hrow v hvp), ⟨hf2, fun u hu => hrow u (hgm u hu)⟩, fun u hu => (hlen u (hgm u hu)).trans (hlen v hvp).symm, by rw [hlen v hvp]; exact c6.2.1, ?_⟩
      refine ⟨_, rfl, ?_⟩
      cases hc : (nums gs).any fun y => Ks605.isContained y v.2 with
      | true =>
        refine ⟨gs, some (.ref v.1), rfl, k2, hl2, hf2, hgm, Nat.le_succ_of_le hgl, ?_⟩
        rw [enext]
        unfold Lsm.stepL
        rw [if_pos hc]
      | false =>
        refine ⟨_, rfl, .inl ⟨rfl, _, SqL.of hf2⟩, _, rfl, f0, refs gs, _, rfl, rfl, hf2, by rw [refs_length]; exact lineN (by omega), ?_⟩
        refine ⟨gs ++ [v], some (.ref v.1), rfl, fun b o hb h1 => by rw [upd_ne hb]; exact k2 b o hb h1, by rw [upd_ne hlf]; exact hl2, by rw [upd_same, refs_append]; rfl, fun u hu => ?_, by rw [List.length_append]; show gs.length + 1 ≤ i + 1; omega, ?_⟩
        · rcases List.mem_append.mp hu with hu | hu
          · exact hgm u hu
          · have e : u = v := by simpa using hu
            rw [e]
            exact hvp
        · rw [enext, nums_append]
          unfold Lsm.stepL
          rw [if_neg (by rw [hc]; decide)]
          rfl
    · rintro σ H2 ⟨gs, o, rfl, k2, hl2, hf2, hgm, hgl, eg⟩
      have hrow : ∀ u ∈ ps, H2 u.1 = some (.lst (iV u.2)) := fun u hu => k2 _ _ (hqf u hu) (R1.all u hu)
      have sH : Same H H2 := fun b o hb => by
        have h1 := s1 b o (s0 b o hb)
        exact k2 b o (ne_of_none hb hf) h1
      refine ⟨_, rfl, f0, gs, rfl, ⟨hf2, fun u hu => hrow u (hgm u hu)⟩, fun r hr2 => ?_⟩
      have s3 := same_upd (o := .lst (refs (gs.mergeSort lexR))) hr2
      have hmem : ∀ u ∈ gs.mergeSort lexR, u ∈ ps := fun u hu => hgm u ((List.mergeSort_perm gs lexR).mem_iff.mp hu)
      refine q _ r (gs.mergeSort lexR) (sH.trans s3) ⟨upd_same, fun u hu => s3 _ _ (hrow u (hmem u hu))⟩ ⟨sH.free hr2, fun u hu => s0.free (n1.2 u (hmem u hu))⟩ ?_
      rw [sort_nums_lex, eg, refs_length, List.take_of_length_le (by rw [nums_length]; exact Nat.le_refl _), hqn]
      exact Lsm.least_is ns
end
end Lw
namespace Lw
open PySem PySem.Spec PyProof.Rows L2
open PySem.W (Codec)
/-! ### what an operation answers: a refusal's code, or numbers -/
inductive Res where
  | bad (c : Int)
  | good (l : List Int)
def Res.list : Res → List Int
  | .bad c => [c]
  | .good l => l
/-- the two ways out of an answering def -/
def Ways2 (C : Addr) (r : Res) (H : Hp) (Q : VK) (E : XK) : Prop := (∀ c, r = .bad c → Rz C c H E) ∧ (∀ l, r = .good l → ∀ (H' : Hp) (p : Addr), Same H H' → H' p = some (.lst (l.map V.int)) → Q (.ref p) H')
theorem Ways2.bad {C : Addr} {r : Res} {H : Hp} {Q : VK} {E : XK} (h : Ways2 C r H Q E) {c : Int} (e : r = .bad c) : Rz C c H E := h.1 c e
theorem Ways2.good {C : Addr} {r : Res} {H : Hp} {Q : VK} {E : XK} (h : Ways2 C r H Q E) {l : List Int} (e : r = .good l) {H' : Hp} {p : Addr} (s : Same H H') (hp : H' p = some (.lst (l.map V.int))) : Q (.ref p) H' := h.2 l e H' p s hp
/-- the way out of the outermost def -/
def Out (r : Res) (H : Hp) (Q : VK) : Prop := ∀ (H' : Hp) (p : Addr), H' p = some (.lst (r.list.map V.int)) → Q (.ref p) H'
end Lw
namespace Lw
open PySem PySem.Spec PyProof.Rows L2
def sp2 (K : PySem.W.Frag) (C : Addr) (r : List Int → List Int → Res) : Sp := fun vs H Q E => ∃ (a : Addr) (ns : List Int) (b : Addr) (xs : List Int), vs = [.ref a, .ref b] ∧ SqL K H a (ns.map V.int) ∧ SqL K H b (xs.map V.int) ∧ Ways2 C (r ns xs) H Q E
def spTop2 (K : PySem.W.Frag) (r : List Int → List Int → Res) : Sp := fun vs H Q _ => ∃ (a : Addr) (ns : List Int) (b : Addr) (xs : List Int), vs = [.ref a, .ref b] ∧ SqL K H a (ns.map V.int) ∧ SqL K H b (xs.map V.int) ∧ Out (r ns xs) H Q
theorem pow4 {n : Nat} (h : n ≤ 4) : 7 ^ n ≤ 2401 := by
  have : 7 ^ n ≤ 7 ^ 4 := Nat.pow_le_pow_right (by decide) h
  exact this
end Lw
namespace Lw
open PySem PySem.Spec PyProof.Rows L2
open PySem.W (Codec)
/-! ### times_within, less_times -/
abbrev sTimes : Stmt := topS 15
abbrev sLess : Stmt := topS 16
theorem scTimes : FnScope ["one", "other", "found", "k"] ["one", "other"] (defScope sTimes) := ⟨rfl, rfl, rfl, by decide +kernel, rfl, by decide +kernel, by decide +kernel⟩
theorem scLess : FnScope ["one", "other", "times", "k"] ["one", "other", "times"] (defScope sLess) := ⟨rfl, rfl, rfl, by decide +kernel, rfl, by decide +kernel, by decide +kernel⟩
def spTimes (K : PySem.W.Frag) : Sp := fun vs H Q _ => ∃ (a b : Addr) (x y : List Nat), vs = [.ref a, .ref b] ∧ SqL K H a (iV x) ∧ SqL K H b (iV y) ∧ x.length = y.length ∧ x.length ≤ 4 ∧ (∀ n ∈ x, n ≤ 1000) ∧ Q (.int (Lsm.timesW x y : Nat)) H
def spLess (K : PySem.W.Frag) : Sp := fun vs H Q _ => ∃ (a b : Addr) (x y : List Nat) (t : Nat), vs = [.ref a, .ref b, .int (t : Int)] ∧ SqL K H a (iV x) ∧ SqL K H b (iV y) ∧ x.length = y.length ∧ x.length ≤ 4 ∧ (∀ n ∈ y, n ≤ 1000) ∧ Lsm.fits t y x ∧
  ∀ (H' : Hp) (p : Addr), Same H H' → H p = none → H' p = some (.lst (iV (Lsm.less x y t))) → Q (.ref p) H'
structure TxtM (mg : Str → Option Value) : Prop where
  sum : mg "sum" = none
  min : mg "min" = none
theorem tStep_int (acc m n : Nat) : ((Lsm.tStep acc (m, n) : Nat) : Int) = if (0 : Int) < (m : Int) then (if (n : Int) / (m : Int) < (acc : Int) then (n : Int) / (m : Int) else (acc : Int)) else (acc : Int) := by
  unfold Lsm.tStep
  by_cases h : 0 < m
  · rw [if_pos h, if_pos (by omega)]
    have e : ((n / m : Nat) : Int) = (n : Int) / (m : Int) := Int.natCast_ediv ..
    rw [← e]
    show ((min acc (n / m) : Nat) : Int) = _
    by_cases c : n / m < acc
    · rw [if_pos (by omega), Nat.min_eq_right (by omega)]
    · rw [if_neg (by omega), Nat.min_eq_left (by omega)]
  · rw [if_neg h, if_neg (by omega)]
section
variable {P : Program} {w : World} {K : PySem.W.Frag} {mg : Str → Option Value} {base : Heap} {C fI : Addr}
theorem ok_times {f : Addr} {fd : FuncData} (F : Fun K "times_within" "times_within" sTimes f fd) (T : TxtV K mg) (M : TxtM mg) : FnOk P w K mg base CX0 1 f fd ["one", "other"] (spTimes K) := by
  refine F.ok scTimes (fun vs H Q E h => ?_) (fun cdv A outer s H vs Q E hr h => ?_)
  · obtain ⟨a, b, x, y, rfl, _⟩ := h
    rfl
  · obtain ⟨a, b, x, y, rfl, hA, hB, hl, h4, hx, q⟩ := h
    refine ⟨_, pss_cons (ps_set (i := 2) scTimes.nd rfl (.inl rfl) (pe_callB (cr_sum rfl) (by rfl) M.sum (by decide +kernel) (pa_cons (pv 1) pa_nil)))
      (pss_cons (ps_for PassesOwn.never rfl (pi_range1 rfl T.range (pa_cons (pe_callB call_len_seq (by rfl) T.len PySem.boot_len (pa_cons (pv 0) pa_nil)) pa_nil)) (pg_name (i := 3) scTimes.nd rfl (.inl rfl))
        (pss_one (ps_if (pt_cmpR op_gt (pe_ix ix_list (pv 0) (pv 3) (fun _ _ => rfl)) pe_int (nomark _))
          (pss_one (ps_set (i := 2) scTimes.nd rfl (.inl rfl) (pe_callB (call_min2 rfl) (by rfl) M.min (by decide +kernel) (pa_cons (pv 2) (pa_cons (pe_op op_fdiv (pe_ix ix_list (pv 1) (pv 3) (fun _ _ => rfl)) (pe_ix ix_list (pv 0) (pv 3) (fun _ _ => rfl))) pa_nil))))) pss_nil)))
      (pss_one (ps_ret (pv 2)))), ?_⟩
    have hlen := iV_length x
    have hB' : SqL K H b ((Lsm.castv y).map V.int) := by
      rw [← iV_castv]
      exact hB
    refine ⟨_, rfl, b, _, rfl, hB', ?_⟩
    rw [sum_castv]
    refine ⟨_, rfl, a, _, rfl, .inl hA, _, rfl, by omega, by omega, ?_⟩
    refine for_range (lo := 0) (n := ((iV x).length : Int).toNat) (fun i σ H' => ∃ v : Option V, σ = [some (.ref a), some (.ref b), some (.int ((((x.zip y).take i).foldl Lsm.tStep y.sum : Nat) : Int)), v] ∧ H' = H) ⟨none, rfl, rfl⟩ ?_ ?_
    · rintro i σ H' hi ⟨v, rfl, rfl⟩
      obtain ⟨m, hm, hmm⟩ := get_some (l := x) (i := i) (by omega)
      obtain ⟨n, hn, _⟩ := get_some (l := y) (i := i) (by omega)
      have hm1 := hx m hmm
      have ez : (x.zip y)[i]? = some (m, n) := List.getElem?_zip_eq_some.mpr ⟨hm, hn⟩
      have enext : ((((x.zip y).take (i + 1)).foldl Lsm.tStep y.sum : Nat) : Int) = ((Lsm.tStep (((x.zip y).take i).foldl Lsm.tStep y.sum) (m, n) : Nat) : Int) := by
        rw [take_succ ez, List.foldl_append]
        rfl
      rw [tStep_int] at enext
      refine ⟨_, rfl, _, rfl, a, _, _, _, rfl, rfl, hA, atI0 (iV_get hm), _, _, rfl, rfl, _, rfl, ?_⟩
      by_cases c : (0 : Int) < (m : Int)
      · rw [if_pos c] at enext
        refine if_true_of (decide_eq_true c) ?_
        refine ⟨_, rfl, _, rfl, _, rfl, b, _, _, _, rfl, rfl, hB, atI0 (iV_get hn), _, rfl, _, rfl, a, _, _, _, rfl, rfl, hA, atI0 (iV_get hm), _, _, rfl, rfl, ⟨c, by omega⟩, _, _, rfl, ?_⟩
        exact ⟨_, by rw [enext]; rfl, rfl⟩
      · rw [if_neg c] at enext
        refine if_false_of (decide_eq_false c) ?_
        exact ⟨_, by rw [enext]; rfl, rfl⟩
    · rintro σ H' ⟨v, rfl, rfl⟩
      refine ⟨_, rfl, ?_⟩
      rw [List.take_of_length_le (by rw [List.length_zip]; omega)]
      exact q
theorem ok_less {f : Addr} {fd : FuncData} (F : Fun K "less_times" "less_times" sLess f fd) (T : TxtV K mg) : FnOk P w K mg base CX0 1 f fd ["one", "other", "times"] (spLess K) := by
  refine F.ok scLess (fun vs H Q E h => ?_) (fun cdv A outer s H vs Q E hr h => ?_)
  · obtain ⟨a, b, x, y, t, rfl, _⟩ := h
    rfl
  · obtain ⟨a, b, x, y, t, rfl, hA, hB, hl, h4, hy, hf, q⟩ := h
    refine ⟨_, pss_one (ps_ret (pe_lc (own := [("k", 3)]) (g := gName 3) (tt := tYes) rfl scLess.nd (pi_range1 rfl T.range (pa_cons (pe_callB call_len_seq (by rfl) T.len PySem.boot_len (pa_cons (pv 0) pa_nil)) pa_nil))
        (blkOk_by (N := ["one", "other", "times", "k"]) (sc := defScope sLess) (by decide +kernel))
        (fun _ _ _ _ _ => pg_name (i := 3) scLess.nd rfl (Or.inl rfl))
        (fun _ _ _ _ _ => pts_nil)
        (fun _ _ _ _ _ => pe_op op_sub (pe_ix (r := rIxL K) ix_list (pv 0) (pv 3) (fun _ _ => rfl)) (pe_op op_mul (pv 2) (pe_ix (r := rIxL K) ix_list (pv 1) (pv 3) (fun _ _ => rfl)))))), ?_⟩
    have hlen := iV_length x
    refine ⟨_, rfl, a, _, rfl, .inl hA, _, rfl, by omega, by omega, fun D hD => ?_⟩
    refine lc_range (lo := 0) (n := ((iV x).length : Int).toNat) (fun i H2 => Same H H2 ∧ H2 D = some (.lst (iV (((x.zip y).take i).map fun p => p.1 - t * p.2)))) ⟨same_upd hD, upd_same⟩ ?_ ?_
    · rintro i H2 hi ⟨s3, hd⟩
      obtain ⟨m, hm, _⟩ := get_some (l := x) (i := i) (by omega)
      obtain ⟨n, hn, hnm⟩ := get_some (l := y) (i := i) (by omega)
      have hn1 := hy n hnm
      have ez : (x.zip y)[i]? = some (m, n) := List.getElem?_zip_eq_some.mpr ⟨hm, hn⟩
      have ez' : (n, m) ∈ y.zip x := List.mem_of_getElem? (i := i) (List.getElem?_zip_eq_some.mpr ⟨hn, hm⟩)
      have hle : t * n ≤ m := hf (n, m) ez'
      refine ⟨rfl, _, rfl, _, rfl, a, _, _, _, rfl, rfl, s3.seq hA, atI0 (iV_get hm), _, rfl, _, rfl, _, rfl, b, _, _, _, rfl, rfl, s3.seq hB, atI0 (iV_get hn), _, _, rfl, rfl, .inr ⟨by omega, by omega⟩, _, _, rfl, rfl, ?_⟩
      refine ⟨_, hd, ?_, fun c o hb => ?_, ?_⟩
      · rw [iV_length, List.length_map, List.length_take]
        exact lineN (by omega)
      · have hcD : c ≠ D := fun e => by
          rw [e, hD] at hb
          cases hb
        rw [upd_ne hcD]
        exact s3 c o hb
      · rw [upd_same, take_succ ez, List.map_append]
        unfold iV
        rw [List.map_append]
        show _ = some (HO.lst (_ ++ [V.int ((m - t * n : Nat) : Int)]))
        have e : ((m - t * n : Nat) : Int) = (m : Int) - (t : Int) * (n : Int) := by
          rw [Int.ofNat_sub hle]
          rfl
        rw [e]
    · rintro H2 ⟨s3, hd⟩
      refine q H2 D s3 hD ?_
      rw [List.take_of_length_le (by rw [List.length_zip]; omega)] at hd
      exact hd
end
end Lw
namespace Lw
open PySem PySem.Spec PyProof.Rows L2
open PySem.W (Codec)
/-! ### need_solution -/
abbrev sNeedS : Stmt := topS 27
theorem scNeedS : FnScope ["coefficients", "x"] ["coefficients", "x"] (defScope sNeedS) := ⟨rfl, rfl, rfl, by decide +kernel, rfl, by decide +kernel, by decide +kernel⟩
def spNeedS (K : PySem.W.Frag) (C : Addr) : Sp := fun vs H Q E => ∃ (a : Addr) (ns : List Int) (b : Addr) (xs : List Int), vs = [.ref a, .ref b] ∧ SqL K H a (ns.map V.int) ∧ SqL K H b (xs.map V.int) ∧
  (okV ns xs = false → Rz C (-22) H E) ∧ (okV ns xs = true → Ks605.isSolution ns (xs.map Int.toNat) = false → Rz C (-33) H E) ∧ (okV ns xs = true → Ks605.isSolution ns (xs.map Int.toNat) = true → Q .non H)
/-- the elements of small vectors -/
theorem box_elem {b : Nat} : ∀ {n : Nat} {x : List Nat}, x ∈ Lsm.box b n → ∀ e ∈ x, e < b
  | 0, x, h => by
    have e : x = [] := by simpa [Lsm.box] using h
    rw [e]
    intro e he
    cases he
  | n + 1, x, h => by
    rw [Lsm.box_succ, List.mem_flatMap] at h
    obtain ⟨e, he, h⟩ := h
    obtain ⟨r, hr, rfl⟩ := List.mem_map.mp h
    intro d hd
    rcases List.mem_cons.mp hd with rfl | hd
    · exact List.mem_range.mp he
    · exact box_elem hr d hd
theorem minimal_elem {ns : List Int} {x : List Nat} (h : x ∈ Ks605.minimalSolutions ns) : ∀ e ∈ x, e < 7 := by
  rw [Lsm.minimal_is] at h
  have h1 := (List.mem_filter.mp h).1
  unfold Ks605.nonzeroSolutions at h1
  rw [List.mem_filter, Lsm.bounded_box] at h1
  exact box_elem h1.1
section
variable {P : Program} {w : World} {K : PySem.W.Frag} {mg : Str → Option Value} {base : Heap} {C fI : Addr}
theorem ok_needS {f fV fF fD : Addr} {fd fdV fdF fdD : FuncData} (F : Fun K "need_solution" "need_solution" sNeedS f fd) (m33 : ∃ t, mg "NO_SUCH" = some (.int (-33) t))
    (NV : At K mg "need_vector" sNeedV ["coefficients", "x"] fV fdV) (GV : FnOk P w K mg base (L2.CX P w) 5 fV fdV ["coefficients", "x"] (spNeedV K C))
    (NF : At K mg "form_value" sForm ["coefficients", "x"] fF fdF) (GF : FnOk P w K mg base CX0 1 fF fdF ["coefficients", "x"] (spForm K))
    (ND : At K mg "need" sNeed ["fulfilled", "code"] fD fdD) (GD : FnOk P w K mg base (L2.CX P w) 3 fD fdD ["fulfilled", "code"] (spNeed C)) :
    FnOk P w K mg base (L2.CX P w) 6 f fd ["coefficients", "x"] (spNeedS K C) := by
  obtain ⟨t1, m1⟩ := m33
  refine F.okX scNeedS (fun vs H Q E h => ?_) (fun cdv A outer s H vs Q E hr h => ?_)
  · obtain ⟨a, ns, b, xs, rfl, _⟩ := h
    rfl
  · obtain ⟨a, ns, b, xs, rfl, hS, hX, k1, k2, k3⟩ := h
    refine ⟨_, pss_cons (ps_expr (pe_call GV hr rfl NV.gl NV.fn.kp NV.bn .nil (passR (takes_of rfl rfl rfl rfl)) (pa_cons (pv 0) (pa_cons (pv 1) pa_nil))))
      (pss_one (ps_expr (pe_call GD (hr.mono (by decide)) rfl ND.gl ND.fn.kp ND.bn .nil (passR (takes_of rfl rfl rfl rfl)) (pa_cons (pe_cmpR op_eq (pe_call GF (hr.mono (by decide)) rfl NF.gl NF.fn.kp NF.bn .nil pass0 (pa_cons (pv 0) (pa_cons (pv 1) pa_nil))) pe_int (nomark _)) (pa_cons (pgI rfl m1) pa_nil))))), ?_⟩
    refine ⟨_, rfl, _, rfl, a, ns, b, xs, rfl, hS, hX, k1, fun h => ?_⟩
    obtain ⟨hC, hl, hw⟩ := okV_len h
    have hnn := within_nn hw
    have c6 := okC_len hC
    refine ⟨_, rfl, _, rfl, a, ns, b, xs.map Int.toNat, rfl, hS, by rw [← iV_ints xs fun n hn => (hnn n hn).1]; exact hX, by rw [List.length_map, hl], c6.2.1, c6.2.2, ?_⟩
    refine ⟨rfl, _, _, rfl, fun he => k2 h ?_, fun he => k3 h ?_⟩
    · unfold Ks605.isSolution
      rw [decide_eq_false_iff_not, V.int.injEq] at he
      rw [beq_eq_false_iff_ne]
      exact he
    · unfold Ks605.isSolution
      rw [decide_eq_true_eq, V.int.injEq] at he
      rw [beq_iff_eq]
      exact he
end
end Lw
namespace Lw
open PySem PySem.Spec PyProof.Rows L2
/-! ### a dict with a tuple key, written; the walk over a locked dict's tuple keys -/
/-- {k: v}, k a tuple of whole numbers and texts; the new dict stands empty while the pair is made -/
def tDispT (tk tv : TE) : TE := fun σ H Q => ∀ p, H p = none → tPairs [(tk, tv)] σ (upd H p (.dT [])) fun ps H2 => H2 p = some (.dT []) ∧ ∃ (k : List L2.Key) (b : Addr) (v : V), ps = [(.ref b, v)] ∧ H2 b = some (.tup (k.map kV)) ∧ Q (.ref p) (upd H2 p (.dT [(k, v)]))
theorem pe_dispT {X : Cx} {pos : Pos} {k v : Expr} {tk tv : TE} (hu : X.A.units + 1 < cLine) (h : PPs X pos [some k] [v] [(tk, tv)]) : PE X (.Dict [some k] [v] pos) (tDispT tk tv) := by
  refine ⟨fun pins s σ H Q I q => ?_⟩
  have hn := I.hok.fresh (Nat.le_refl s.heap.objs.size)
  have I1 := I.laid (a := s.heap.objs.size) (o := .dT []) (h' := s.heap.push { cls := .type "dict", data := .dict #[] }) (t' := s.toks) (fun _ _ q => Heap.get?_push_of_some _ q) (Nat.le_refl _) (dt_empty s.heap I.big)
  have hz := zip_pairTrees [some k] [v] X.env pos rfl rfl
  have h0 : pairTrees [some k] [v] X.env pos ≠ [] := fun e => by
    have := pairTrees_length [some k] [v] X.env pos rfl rfl
    rw [e] at this
    cases this
  have hl : (pairTrees [some k] [v] X.env pos).length ≤ 15 := by
    rw [pairTrees_length [some k] [v] X.env pos rfl rfl]
    show 1 ≤ 15
    decide
  rw [arm_eval_Dict, hz, dictDisplay_pairs _ h0 (by omega)]
  refine wpAny_bind (wpAny_standAt (wpAny_bind (wpAny_subDictH (knd := tupleKind (mixKind X.prog X.w)) (Q := fun d s' => wpAny (model X.prog X.w) X.A (pure (Value.ref d)) (EP X pins σ Q) X.xe s') (show X.A.units < cLine by omega) hl ?_)))
  refine thn (h.run pins _ σ _ _ I1 (q _ hn)) fun ws s2 ⟨ps, H2, I2, rel, e, kk, b, vv, ep, eb, q2⟩ => ?_
  subst ep
  obtain ⟨w1, w2, rfl, h1, h2⟩ : ∃ w1 w2, ws = [(w1, w2)] ∧ RelV (V.ref b) w1 ∧ RelV vv w2 := by
    cases rel with
    | cons hp ht =>
      cases ht
      exact ⟨_, _, rfl, hp.1, hp.2⟩
  obtain rfl : w1 = Value.ref b := h1
  obtain ⟨z, hd, xs, rx, dd⟩ := dt_of I2.hok e
  cases rx
  refine ⟨[(kk, b, w2)], ⟨rfl, rfl, key_of I2.hok eb, trivial⟩, dd, fun h' tk dd' hs => wpAny_pure ?_⟩
  obtain ⟨o, es, ep, hq, h3, h4, h5, _, h6⟩ := dd'
  have hbp : b ≠ s.heap.objs.size := ne_of eb e (fun z => nomatch z)
  refine ⟨.ref s.heap.objs.size, _, d_write (ob := .dT [(kk, vv)]) I2 (by rw [e]; exact True.intro) hs ⟨o, hq⟩ ⟨(by show 1 ≤ sizeLine; decide), hd, [(kk, b, w2)], .cons ⟨rfl, ?_, h2⟩ .nil, o, es, ep, hq, h3, h4, h5, by simp⟩, rfl, q2⟩
  rw [upd_ne hbp]
  exact eb
/-- for k in d: the keys' own tuples, in order -/
theorem for_keysT {d : Addr} {o : Obj} {kvs : List (List L2.Key × V)} {g : TG} {tb : TS} {D : Ends} {σ : L2.St} {H : Hp} (Pv : Nat → L2.St → Hp → Prop) (h0 : Pv 0 σ H) (hl : ∀ i σ H, Pv i σ H → H d = some (.frz o (.dT kvs)))
    (hs : ∀ i k v q σ H, kvs[i]? = some (k, v) → H q = some (.tup (k.map kV)) → Pv i σ H → g (.ref q) σ H fun σ2 H2 => tb { D with nx := Pv (i + 1), ct := Pv (i + 1), bk := D.nx } σ2 H2) (hd : ∀ σ H, Pv kvs.length σ H → D.nx σ H) :
    ∃ W : Nat → Nat → L2.St → Hp → Prop, (∃ m, W 0 m σ H) ∧ ∀ i m σ H, W i m σ H →
      ((Itkt d o kvs).stop i H ∧ D.nx σ H) ∨ ((Itkt d o kvs).go i H ∧ ∃ N : L2.St → Hp → Prop, (∀ σ' H', N σ' H' → ∃ m', m' < m ∧ W (i + 1) m' σ' H') ∧ ∀ x H', (Itkt d o kvs).yld i H x H' → g x σ H' fun σ2 H2 => tb { D with nx := N, ct := N, bk := D.nx } σ2 H2) := by
  refine ⟨fun i m σ H => m = kvs.length - i ∧ i ≤ kvs.length ∧ Pv i σ H, ⟨kvs.length, by simp, Nat.zero_le _, h0⟩, ?_⟩
  rintro i m σ H ⟨rfl, hi, p⟩
  have q := hl i σ H p
  by_cases hlt : i < kvs.length
  · refine .inr ⟨⟨q, hlt⟩, Pv (i + 1), fun σ' H' p' => ⟨kvs.length - (i + 1), by omega, rfl, hlt, p'⟩, fun x H' y => ?_⟩
    obtain ⟨e, k, v, b, h1, h2, h3⟩ := y
    subst e h2
    exact hs i k v b σ _ h1 h3 p
  · have e : i = kvs.length := by omega
    subst e
    exact .inl ⟨⟨q, Nat.le_refl _⟩, hd σ H p⟩
/-! ### ways as a dict -/
def kE (z : List Nat) : List L2.Key := z.map fun (n : Nat) => (Sum.inl (n : Int) : L2.Key)
def dictV (D : Lsm.Ways) : List (List L2.Key × V) := D.map fun p => (kE p.1, V.int (p.2 : Int))
theorem kE_vals (z : List Nat) : (kE z).map kV = iV z := by
  unfold kE iV
  rw [List.map_map]
  rfl
theorem kE_inj : ∀ {y z : List Nat}, kE y = kE z → y = z
  | [], [], _ => rfl
  | [], _ :: _, h => by cases h
  | _ :: _, [], h => by cases h
  | a :: y, b :: z, h => by
    have h' : (Sum.inl (a : Int) : L2.Key) :: kE y = Sum.inl (b : Int) :: kE z := h
    injection h' with h1 h2
    injection h1 with h3
    rw [kE_inj h2]
    have : a = b := by omega
    rw [this]
theorem valV_dictV (z : List Nat) : ∀ D : Lsm.Ways, valV (dictV D) (kE z) = (Lsm.look D z).map fun (n : Nat) => V.int (n : Int)
  | [] => rfl
  | p :: D => by
    rw [Lsm.look_cons]
    show valV ((kE p.1, V.int (p.2 : Int)) :: dictV D) (kE z) = _
    by_cases h : p.1 = z
    · rw [valV_pos (by rw [h]), if_pos h]
      rfl
    · rw [valV_neg (fun e => h (kE_inj e)), if_neg h]
      exact valV_dictV z D
theorem any_dictV (z : List Nat) (D : Lsm.Ways) : ((dictV D).any fun kv => decide (kv.1 = kE z)) = D.any fun p => decide (p.1 = z) := by
  unfold dictV
  rw [List.any_map]
  refine List.any_congr rfl fun p => ?_
  show decide (kE p.1 = kE z) = decide (p.1 = z)
  rw [Bool.eq_iff_iff, decide_eq_true_eq, decide_eq_true_eq]
  exact ⟨kE_inj, fun h => by rw [h]⟩
theorem put_dictV (D : Lsm.Ways) (z : List Nat) (m : Nat) : putK (dictV D) (kE z) (V.int (m : Int)) = dictV (Lsm.put D z m) := by
  unfold putK Lsm.put
  rw [any_dictV]
  by_cases h : (D.any fun p => decide (p.1 = z)) = true
  · rw [if_pos h, if_pos h]
    unfold dictV
    rw [List.map_map, List.map_map]
    refine List.map_congr_left fun p _ => ?_
    show (if kE p.1 = kE z then (kE p.1, V.int (m : Int)) else (kE p.1, V.int (p.2 : Int))) = (kE (if p.1 = z then (p.1, m) else p).1, V.int ((if p.1 = z then (p.1, m) else p).2 : Int))
    by_cases hp : p.1 = z
    · rw [if_pos (by rw [hp]), if_pos hp]
    · rw [if_neg (fun e => hp (kE_inj e)), if_neg hp]
  · rw [if_neg h, if_neg h]
    unfold dictV
    rw [List.map_append]
    rfl
theorem dictV_get {D : Lsm.Ways} {i : Nat} {k : List L2.Key} {v : V} (h : (dictV D)[i]? = some (k, v)) : ∃ p, D[i]? = some p ∧ k = kE p.1 ∧ v = V.int (p.2 : Int) := by
  unfold dictV at h
  rw [List.getElem?_map] at h
  cases e : D[i]? with
  | none =>
    rw [e] at h
    cases h
  | some p =>
    rw [e] at h
    injection h with h
    injection h with h1 h2
    exact ⟨p, rfl, h1.symm, h2.symm⟩
theorem dictV_length (D : Lsm.Ways) : (dictV D).length = D.length := List.length_map ..
end Lw
namespace Lw
open PySem PySem.Spec PyProof.Rows L2
open PySem.W (Codec)
/-! ### plus_times, with_one_more, number_of_ways, ways_answer -/
abbrev sPlus : Stmt := topS 17
abbrev sMore : Stmt := topS 24
abbrev sWays : Stmt := topS 25
abbrev sAnsW : Stmt := topS 28
theorem scPlus : FnScope ["one", "other", "times", "k"] ["one", "other", "times"] (defScope sPlus) := ⟨rfl, rfl, rfl, by decide +kernel, rfl, by decide +kernel, by decide +kernel⟩
theorem scMore : FnScope ["ways", "vector", "x", "found", "begun", "room", "times", "key"] ["ways", "vector", "x"] (defScope sMore) := ⟨rfl, rfl, rfl, by decide +kernel, rfl, by decide +kernel, by decide +kernel⟩
theorem scWays : FnScope ["solutions", "x", "ways", "vector"] ["solutions", "x"] (defScope sWays) := ⟨rfl, rfl, rfl, by decide +kernel, rfl, by decide +kernel, by decide +kernel⟩
theorem scAnsW : FnScope ["coefficients", "x"] ["coefficients", "x"] (defScope sAnsW) := ⟨rfl, rfl, rfl, by decide +kernel, rfl, by decide +kernel, by decide +kernel⟩
def spPlus (K : PySem.W.Frag) : Sp := fun vs H Q _ => ∃ (a b : Addr) (x y : List Nat) (t : Nat), vs = [.ref a, .ref b, .int (t : Int)] ∧ SqL K H a (iV x) ∧ SqL K H b (iV y) ∧ x.length = y.length ∧ x.length ≤ 4 ∧ (∀ n ∈ y, n ≤ 1000) ∧
  ∀ (H' : Hp) (p : Addr), Same H H' → H p = none → H' p = some (.lst (iV (Lsm.plus x y t))) → Q (.ref p) H'
def spMore (K : PySem.W.Frag) : Sp := fun vs H Q _ => ∃ (d a b : Addr) (D : Lsm.Ways) (v x : List Nat), vs = [.ref d, .ref a, .ref b] ∧ H d = some (.dT (dictV D)) ∧ SqL K H a (iV v) ∧ SqL K H b (iV x) ∧ v.length = x.length ∧ Lsm.Pos v ∧ (∀ e ∈ v, e ≤ 1000) ∧
  x.length ≤ 4 ∧ (∀ e ∈ x, e < 13) ∧ Lsm.Good x D ∧ ∀ (H' : Hp) (f : Addr), Same H H' → H f = none → H' f = some (.dT (dictV (Lsm.oneMore D v x))) → Q (.ref f) H'
def spWays (K : PySem.W.Frag) : Sp := fun vs H Q _ => ∃ (p : Addr) (ps : List Row) (b : Addr) (x : List Nat), vs = [.ref p, .ref b] ∧ Rows H p ps ∧ SqL K H b (iV x) ∧ x.length ≤ 4 ∧ (∀ e ∈ x, e < 13) ∧ (∀ v ∈ nums ps, v.length = x.length ∧ Lsm.Pos v) ∧ (∀ v ∈ nums ps, ∀ e ∈ v, e ≤ 1000) ∧
  ∀ H' : Hp, Same H H' → Q (.int (Lsm.numberOfWays (nums ps) x : Nat)) H'
def waysR (ns xs : List Int) : Res := if okV ns xs = true then (if Ks605.isSolution ns (xs.map Int.toNat) = false then .bad (-33) else
  .good [(Ks605.countDecompositions (Ks605.minimalSolutions ns) ((xs.map Int.toNat).sum + (Ks605.minimalSolutions ns).length + 1) (xs.map Int.toNat) : Nat)]) else .bad (-22)
structure TxtT (mg : Str → Option Value) : Prop where
  list : mg "list" = none
  tuple : mg "tuple" = none
theorem same_but' {H H2 : Hp} {g : Addr} {o : HO} (s : Same H H2) (hg : H g = none) : Same H (upd H2 g o) := fun b u hb => by
  have h : b ≠ g := fun e => by
    rw [e, hg] at hb
    cases hb
  rw [upd_ne h]
  exact s b u hb
/-- a list stands where a dict is locked elsewhere -/
theorem sql_dict {K : PySem.W.Frag} {H : Hp} {a d : Addr} {xs : List V} {kvs : List (List L2.Key × V)} {o : HO} (hd : H d = some (.dT kvs)) (h : SqL K H a xs) : SqL K (upd H d o) a xs := by
  rcases h with (h | ⟨ob, h⟩) | h
  · exact .inl (.inl (by rw [upd_ne (ne_of h hd (fun z => nomatch z))]; exact h))
  · exact .inl (.inr ⟨ob, by rw [upd_ne (ne_of h hd (fun z => nomatch z))]; exact h⟩)
  · exact .inr h
theorem fold_le : ∀ (l : List (Nat × Nat)) (acc : Nat), l.foldl Lsm.tStep acc ≤ acc
  | [], acc => Nat.le_refl _
  | p :: l, acc => by
    rw [List.foldl_cons]
    refine Nat.le_trans (fold_le l _) ?_
    unfold Lsm.tStep
    split
    · exact Nat.min_le_left _ _
    · exact Nat.le_refl _
theorem timesW_le (v r : List Nat) : Lsm.timesW v r ≤ r.sum := fold_le _ _
theorem sum_bound {m : Nat} : ∀ {x : List Nat}, (∀ e ∈ x, e < m) → x.sum ≤ x.length * m
  | [], _ => by simp
  | a :: x, h => by
    have h1 := h a List.mem_cons_self
    have h2 := sum_bound fun e he => h e (List.mem_cons_of_mem _ he)
    rw [List.sum_cons, List.length_cons, Nat.add_mul]
    omega
section
variable {P : Program} {w : World} {K : PySem.W.Frag} {mg : Str → Option Value} {base : Heap} {C fI : Addr}
theorem ok_plus {f : Addr} {fd : FuncData} (F : Fun K "plus_times" "plus_times" sPlus f fd) (T : TxtV K mg) : FnOk P w K mg base CX0 1 f fd ["one", "other", "times"] (spPlus K) := by
  refine F.ok scPlus (fun vs H Q E h => ?_) (fun cdv A outer s H vs Q E hr h => ?_)
  · obtain ⟨a, b, x, y, t, rfl, _⟩ := h
    rfl
  · obtain ⟨a, b, x, y, t, rfl, hA, hB, hl, h4, hy, q⟩ := h
    refine ⟨_, pss_one (ps_ret (pe_lc (own := [("k", 3)]) (g := gName 3) (tt := tYes) rfl scPlus.nd (pi_range1 rfl T.range (pa_cons (pe_callB call_len_seq (by rfl) T.len PySem.boot_len (pa_cons (pv 0) pa_nil)) pa_nil))
        (blkOk_by (N := ["one", "other", "times", "k"]) (sc := defScope sPlus) (by decide +kernel))
        (fun _ _ _ _ _ => pg_name (i := 3) scPlus.nd rfl (Or.inl rfl))
        (fun _ _ _ _ _ => pts_nil)
        (fun _ _ _ _ _ => pe_op op_add (pe_ix (r := rIxL K) ix_list (pv 0) (pv 3) (fun _ _ => rfl)) (pe_op op_mul (pv 2) (pe_ix (r := rIxL K) ix_list (pv 1) (pv 3) (fun _ _ => rfl)))))), ?_⟩
    have hlen := iV_length x
    refine ⟨_, rfl, a, _, rfl, .inl hA, _, rfl, by omega, by omega, fun D hD => ?_⟩
    refine lc_range (lo := 0) (n := ((iV x).length : Int).toNat) (fun i H2 => Same H H2 ∧ H2 D = some (.lst (iV (((x.zip y).take i).map fun p => p.1 + t * p.2)))) ⟨same_upd hD, upd_same⟩ ?_ ?_
    · rintro i H2 hi ⟨s3, hd⟩
      obtain ⟨m, hm, _⟩ := get_some (l := x) (i := i) (by omega)
      obtain ⟨n, hn, hnm⟩ := get_some (l := y) (i := i) (by omega)
      have hn1 := hy n hnm
      have ez : (x.zip y)[i]? = some (m, n) := List.getElem?_zip_eq_some.mpr ⟨hm, hn⟩
      refine ⟨rfl, _, rfl, _, rfl, a, _, _, _, rfl, rfl, s3.seq hA, atI0 (iV_get hm), _, rfl, _, rfl, _, rfl, b, _, _, _, rfl, rfl, s3.seq hB, atI0 (iV_get hn), _, _, rfl, rfl, .inr ⟨by omega, by omega⟩, _, _, rfl, rfl, ?_⟩
      refine ⟨_, hd, ?_, same_but' s3 hD, ?_⟩
      · rw [iV_length, List.length_map, List.length_take]
        exact lineN (by omega)
      · rw [upd_same, take_succ ez, List.map_append]
        unfold iV
        rw [List.map_append]
        rfl
    · rintro H2 ⟨s3, hd⟩
      refine q H2 D s3 hD ?_
      rw [List.take_of_length_le (by rw [List.length_zip]; omega)] at hd
      exact hd
theorem ok_more {f fL fT fP : Addr} {fd fdL fdT fdP : FuncData} (F : Fun K "with_one_more" "with_one_more" sMore f fd) (T : TxtV K mg) (TT : TxtT mg)
    (NL : At K mg "less_times" sLess ["one", "other", "times"] fL fdL) (GL : FnOk P w K mg base CX0 1 fL fdL ["one", "other", "times"] (spLess K))
    (NT : At K mg "times_within" sTimes ["one", "other"] fT fdT) (GT : FnOk P w K mg base CX0 1 fT fdT ["one", "other"] (spTimes K))
    (NP : At K mg "plus_times" sPlus ["one", "other", "times"] fP fdP) (GP : FnOk P w K mg base CX0 1 fP fdP ["one", "other", "times"] (spPlus K)) :
    FnOk P w K mg base CX0 2 f fd ["ways", "vector", "x"] (spMore K) := by
  refine F.ok scMore (fun vs H Q E h => ?_) (fun cdv A outer s H vs Q E hr h => ?_)
  · obtain ⟨d, a, b, D, v, x, rfl, _⟩ := h
    rfl
  · obtain ⟨d, a, b, D, v, x, rfl, hd, hV, hX, hl, hp, hve, h4, hxe, G, q⟩ := h
    refine ⟨_, pss_cons (ps_set (i := 3) scMore.nd rfl (.inl rfl) pe_dnewT)
      (pss_cons (ps_lock (ps_for PassesOwn.never rfl (pi_keys (pv 0)) (pg_name (i := 4) scMore.nd rfl (.inl rfl))
        (pss_cons (ps_set (i := 5) scMore.nd rfl (.inl rfl) (pe_call GL hr rfl NL.gl NL.fn.kp NL.bn .nil pass0 (pa_cons (pv 2) (pa_cons (pe_callTy call_list_of (by rfl) TT.list (by decide +kernel) (pa_cons (pv 4) pa_nil)) (pa_cons pe_int pa_nil)))))
        (pss_one (ps_for PassesOwn.never rfl (pi_range1 rfl T.range (pa_cons (pe_op op_add (pe_call GT hr rfl NT.gl NT.fn.kp NT.bn .nil pass0 (pa_cons (pv 1) (pa_cons (pv 5) pa_nil))) pe_int) pa_nil)) (pg_name (i := 6) scMore.nd rfl (.inl rfl))
          (pss_cons (ps_set (i := 7) scMore.nd rfl (.inl rfl) (pe_callTy call_tuple_of (by rfl) TT.tuple (by decide +kernel) (pa_cons (pe_call GP hr rfl NP.gl NP.fn.kp NP.bn .nil pass0 (pa_cons (pe_callTy call_list_of (by rfl) TT.list (by decide +kernel) (pa_cons (pv 4) pa_nil)) (pa_cons (pv 1) (pa_cons (pv 6) pa_nil)))) pa_nil)))
          (pss_one (ps_dput (hu_of hr) (pv 3) (pv 7) (pe_op op_add (pe_dget2 (hu_of hr) (pv 3) (pv 7) pe_int ⟨rfl, rfl, rfl, rfl⟩) (pe_dget (hu_of hr) (pv 0) (pv 4) (fun _ _ => rfl))) rfl))))))))
      (pss_one (ps_ret (pv 3)))), ?_⟩
    refine fun f0 hf => ?_
    have hdf : d ≠ f0 := fun e => by
      rw [e, hf] at hd
      cases hd
    have hd0 : upd H f0 (.dT []) d = some (.dT (dictV D)) := by
      rw [upd_ne hdf]
      exact hd
    refine ⟨d, .dT (dictV D), hd0, trivial, fun od => ?_⟩
    -- B: what stands while the dict is locked, the new dict left out
    obtain ⟨B, eB⟩ : ∃ B, B = upd H d (.frz od (.dT (dictV D))) := ⟨_, rfl⟩
    have hBd : B d = some (.frz od (.dT (dictV D))) := by rw [eB, upd_same]
    have hBf : B f0 = none := by rw [eB, upd_ne hdf.symm]; exact hf
    have hVB : SqL K B a (iV v) := by rw [eB]; exact sql_dict hd hV
    have hXB : SqL K B b (iV x) := by rw [eB]; exact sql_dict hd hX
    have s0 : Same B (upd (upd H f0 (.dT [])) d (.frz od (.dT (dictV D)))) := fun c o hc => by
      by_cases hcd : c = d
      · rw [hcd] at hc ⊢
        rw [hBd] at hc
        rw [upd_same]
        exact hc
      · have hcf : c ≠ f0 := fun e => by
          rw [e, hBf] at hc
          cases hc
        rw [eB, upd_ne hcd] at hc
        rw [upd_ne hcd, upd_ne hcf]
        exact hc
    refine ⟨_, rfl, d, od, rfl, .inr ⟨dictV D, upd_same, ?_⟩⟩
    refine for_keysT (fun i σ H2 => ∃ o4 o5 o6 o7 : Option V, σ = [some (.ref d), some (.ref a), some (.ref b), some (.ref f0), o4, o5, o6, o7] ∧ Same B H2 ∧ H2 f0 = some (.dT (dictV ((D.take i).foldl (Lsm.turnsW v x) []))))
      ⟨none, none, none, none, rfl, s0, by rw [upd_ne hdf.symm, upd_same]; rfl⟩ (fun i σ H2 ⟨_, _, _, _, _, s2, _⟩ => s2 _ _ hBd) ?_ ?_
    · rintro i k y kq σ H2 hi hkq ⟨o4, o5, o6, o7, rfl, s2, hf2⟩
      obtain ⟨p, hpi, rfl, rfl⟩ := dictV_get hi
      rw [kE_vals] at hkq
      have hpm : p ∈ D := List.mem_of_getElem? hpi
      have hw := G.mem p hpm
      have hG : Lsm.Good x ((D.take i).foldl (Lsm.turnsW v x) []) := Lsm.more_good hl hp (D.take i) [] (fun q hq => G.mem q (List.mem_of_mem_take hq)) (Lsm.Good.nil x)
      have hze : ∀ e ∈ p.1, e < 13 := Lsm.within_elem hw hxe
      have hzl := hw.len
      -- room = less_times(x, list(begun), 1)
      refine ⟨_, rfl, _, rfl, kq, _, rfl, .inr (SqT.of hkq), fun l1 hl1 => ?_⟩
      have s3 : Same H2 (upd H2 l1 (.lst (iV p.1))) := same_upd hl1
      have s23 := s2.trans s3
      refine ⟨b, l1, x, p.1, 1, rfl, s23.seq hXB, SqL.of upd_same, hzl.symm, h4, fun e he => by have := hze e he; omega, hw.le, fun H3 r s4 hr1 hr2 => ?_⟩
      have s34 := s23.trans s4
      have hrl : (Lsm.less x p.1 1).length = x.length := Lsm.less_length hzl.symm
      have hvr : v.length = (Lsm.less x p.1 1).length := hl.trans hrl.symm
      have hroom : (Lsm.less x p.1 1).sum ≤ 52 := by
        have h1 := Lsm.sum_less hzl hw.le
        have h2 := sum_bound hxe
        have h3 : x.length * 13 ≤ 4 * 13 := Nat.mul_le_mul_right _ h4
        omega
      have htw := timesW_le v (Lsm.less x p.1 1)
      have hf3 : H3 f0 = some (.dT (dictV ((D.take i).foldl (Lsm.turnsW v x) []))) := s4 _ _ (s3 _ _ hf2)
      have hk3 : H3 kq = some (.tup (iV p.1)) := s4 _ _ (s3 _ _ hkq)
      -- for times in range(times_within(vector, room) + 1)
      refine ⟨_, rfl, _, rfl, a, r, v, Lsm.less x p.1 1, rfl, s34.seq hVB, SqL.of hr2, hvr, by omega, hve, _, _, rfl, rfl, _, rfl, by omega, by omega, ?_⟩
      refine for_range (lo := 0) (n := (((Lsm.timesW v (Lsm.less x p.1 1) : Nat) : Int) + 1).toNat) (fun t σ H4 => ∃ o6 o7 : Option V, σ = [some (.ref d), some (.ref a), some (.ref b), some (.ref f0), some (.ref kq), some (.ref r), o6, o7] ∧ Same B H4 ∧ H4 kq = some (.tup (iV p.1)) ∧
          H4 f0 = some (.dT (dictV ((List.range t).foldl (Lsm.turnW v p.1 p.2) ((D.take i).foldl (Lsm.turnsW v x) [])))))
        ⟨o6, o7, rfl, s34, hk3, hf3⟩ ?_ ?_
      · rintro t σ H4 ht ⟨o6, o7, rfl, s5, hk4, hf4⟩
        have htT : t ≤ Lsm.timesW v (Lsm.less x p.1 1) := by omega
        have hGt := Lsm.turns_good (p := p) hl hp hw hG t (by omega)
        have hlen := Lsm.keys_bound hGt h4 hxe
        -- key = tuple(plus_times(list(begun), vector, times))
        refine ⟨_, rfl, kq, _, rfl, .inr (SqT.of hk4), fun l2 hl2 => ?_⟩
        have s6 : Same H4 (upd H4 l2 (.lst (iV p.1))) := same_upd hl2
        refine ⟨_, rfl, _, rfl, l2, a, p.1, v, t, ?_, SqL.of upd_same, (s5.trans s6).seq hVB, hzl.trans hl.symm, by omega, hve, fun H5 m s7 hm1 hm2 => ?_⟩
        · rw [Int.zero_add]
          rfl
        · refine ⟨m, _, rfl, .inl ⟨SqL.of hm2, fun kt hkt => ?_⟩⟩
          have s8 : Same H5 (upd H5 kt (.tup (iV (Lsm.plus p.1 v t)))) := same_upd hkt
          have s58 := ((s5.trans s6).trans s7).trans s8
          have hf8 := s8 _ _ (s7 _ _ (s6 _ _ hf4))
          have hk8 := s8 _ _ (s7 _ _ (s6 _ _ hk4))
          have hkey : upd H5 kt (.tup (iV (Lsm.plus p.1 v t))) kt = some (.tup ((kE (Lsm.plus p.1 v t)).map kV)) := by rw [upd_same, kE_vals]
          have hd8 : upd H5 kt (.tup (iV (Lsm.plus p.1 v t))) d = some (.frz od (.dT (dictV D))) := s58 _ _ hBd
          -- ways[begun]
          have hlook : Lsm.look D p.1 = some p.2 := by
            have hnd := G.nd
            clear hf8 hf4 hGt hlen hG hf3 hf2 hi
            obtain ⟨h1, h2⟩ := List.getElem?_eq_some_iff.mp hpi
            have : ∀ (D : Lsm.Ways), (D.map (·.1)).Nodup → p ∈ D → Lsm.look D p.1 = some p.2 := by
              intro D
              induction D with
              | nil => intro _ h; cases h
              | cons q D ih =>
                intro hn hm
                rw [List.map_cons, List.nodup_cons] at hn
                rw [Lsm.look_cons]
                rcases List.mem_cons.mp hm with rfl | hm
                · rw [if_pos rfl]
                · rw [if_neg (fun (e : q.1 = p.1) => hn.1 (by rw [e]; exact List.mem_map_of_mem hm))]
                  exact ih hn.2 hm
            exact this D hnd hpm
          have hget : valV (dictV D) (kE p.1) = some (V.int (p.2 : Int)) := by
            rw [valV_dictV, hlook]
            rfl
          refine ⟨_, rfl, f0, rfl, .inr ⟨_, .inl hf8⟩, _, rfl, _, DGet.t hf8 hkey, _, rfl, _, rfl, d, _, rfl, .inr ⟨dictV D, kE p.1, kq, .inr ⟨od, hd8⟩, rfl, by rw [kE_vals]; exact hk8, hget.symm⟩, ?_⟩
          rw [valV_dictV]
          obtain ⟨F, eF⟩ : ∃ F, F = (List.range t).foldl (Lsm.turnW v p.1 p.2) ((D.take i).foldl (Lsm.turnsW v x) []) := ⟨_, rfl⟩
          rw [← eF] at hf8 hlen ⊢
          have eget : (Option.map (fun (n : Nat) => V.int (n : Int)) (Lsm.look F (Lsm.plus p.1 v t))).getD (V.int 0) = V.int (((Lsm.look F (Lsm.plus p.1 v t)).getD 0 : Nat) : Int) := by
            cases Lsm.look F (Lsm.plus p.1 v t) <;> rfl
          rw [eget]
          refine ⟨_, _, rfl, rfl, _, rfl, _, rfl, f0, _, rfl, DPut.t hf8 hkey (by rw [dictV_length]; exact lineN (by omega)), ?_⟩
          refine ⟨some (.int (0 + (t : Int))), some (.ref kt), rfl, same_but' s58 hBf, ?_, ?_⟩
          · rw [upd_ne (ne_of hk8 hf8 (fun z => nomatch z))]
            exact hk8
          · rw [upd_same, List.range_succ, List.foldl_append, ← eF]
            have e := put_dictV F (Lsm.plus p.1 v t) ((Lsm.look F (Lsm.plus p.1 v t)).getD 0 + p.2)
            rw [Int.natCast_add] at e
            rw [e]
            rfl
      · rintro σ H4 ⟨o6, o7, rfl, s5, hk4, hf4⟩
        refine ⟨some (.ref kq), some (.ref r), o6, o7, rfl, s5, ?_⟩
        rw [hf4, take_succ hpi, List.foldl_append]
        rfl
    · rintro σ H2 ⟨o4, o5, o6, o7, rfl, s2, hf2⟩
      rw [dictV_length, List.take_length] at hf2
      refine ⟨s2 _ _ hBd, _, rfl, q _ f0 (fun c o hc => ?_) hf ?_⟩
      · by_cases hcd : c = d
        · rw [hcd] at hc ⊢
          rw [upd_same]
          rw [hd] at hc
          exact hc
        · rw [upd_ne hcd]
          refine s2 c o ?_
          rw [eB, upd_ne hcd]
          exact hc
      · rw [upd_ne hdf.symm]
        exact hf2
theorem ok_ways {f fM : Addr} {fd fdM : FuncData} (F : Fun K "number_of_ways" "number_of_ways" sWays f fd) (T : TxtV K mg) (TT : TxtT mg)
    (NM : At K mg "with_one_more" sMore ["ways", "vector", "x"] fM fdM) (GM : FnOk P w K mg base CX0 2 fM fdM ["ways", "vector", "x"] (spMore K)) :
    FnOk P w K mg base CX0 3 f fd ["solutions", "x"] (spWays K) := by
  refine F.ok scWays (fun vs H Q E h => ?_) (fun cdv A outer s H vs Q E hr h => ?_)
  · obtain ⟨p, ps, b, x, rfl, _⟩ := h
    rfl
  · obtain ⟨p, ps, b, x, rfl, R, hX, h4, hxe, hM, hve, q⟩ := h
    refine ⟨_, pss_cons (ps_set (i := 2) scWays.nd rfl (.inl rfl) (pe_dispT (hu_of hr) (pps_cons (pe_callTy call_tuple_of (by rfl) TT.tuple (by decide +kernel) (pa_cons (pe_op op_rep (pe_lst (pa_cons pe_int pa_nil)) (pe_callB call_len_seq (by rfl) T.len PySem.boot_len (pa_cons (pv 1) pa_nil))) pa_nil)) pe_int pps_nil)))
      (pss_cons (ps_for PassesOwn.never rfl (pi_list (pv 0)) (pg_name (i := 3) scWays.nd rfl (.inl rfl))
        (pss_one (ps_set (i := 2) scWays.nd rfl (.inl rfl) (pe_call GM hr rfl NM.gl NM.fn.kp NM.bn .nil pass0 (pa_cons (pv 2) (pa_cons (pv 3) (pa_cons (pv 1) pa_nil)))))))
      (pss_one (ps_ret (pe_dget2 (hu_of hr) (pv 2) (pe_callTy call_tuple_of (by rfl) TT.tuple (by decide +kernel) (pa_cons (pv 1) pa_nil)) pe_int ⟨rfl, rfl, rfl, rfl⟩)))), ?_⟩
    have hlen := iV_length x
    -- ways = {tuple([0] * len(x)): 1}
    refine fun d0 hd0 => ?_
    have s1 : Same H (upd H d0 (.dT [])) := same_upd hd0
    refine ⟨(by show 1 ≤ sizeLine; decide), fun z hz => ?_⟩
    have s2 : Same (upd H d0 (.dT [])) (upd (upd H d0 (.dT [])) z (.lst [.int 0])) := same_upd hz
    refine ⟨_, rfl, b, _, rfl, .inl (s2.seq (s1.seq hX)), ?_⟩
    refine ⟨z, _, [.int 0], rfl, rfl, upd_same, by omega, by omega, ?_, fun r hr2 => ?_⟩
    · rw [hlen]
      refine Nat.le_of_lt (lineN ?_)
      show 1 * ((x.length : Int)).toNat ≤ 100000
      omega
    · have s3 := same_upd (o := HO.lst (List.replicate ((iV x).length : Int).toNat [V.int 0]).flatten) hr2
      refine ⟨r, _, rfl, .inl ⟨SqL.of upd_same, fun kt hkt => ?_⟩⟩
      have s4 := same_upd (o := HO.tup (List.replicate ((iV x).length : Int).toNat [V.int 0]).flatten) hkt
      have ez : (List.replicate ((iV x).length : Int).toNat [V.int 0]).flatten = (kE (Lsm.zeros x.length)).map kV := by
        rw [kE_vals, hlen]
        show (List.replicate x.length [V.int 0]).flatten = _
        unfold iV Lsm.zeros
        rw [List.map_replicate]
        induction x.length with
        | zero => rfl
        | succ n ih =>
          rw [List.replicate_succ, List.replicate_succ, List.flatten_cons, ih]
          rfl
      have s24 := (s2.trans s3).trans s4
      refine ⟨s24 _ _ upd_same, kE (Lsm.zeros x.length), kt, .int 1, rfl, by rw [upd_same, ez], ?_⟩
      have s5 := same_but' ((s1.trans s24)) hd0 (o := .dT [(kE (Lsm.zeros x.length), V.int 1)])
      refine ⟨_, rfl, p, rfl, ⟨_, SqL.of (s5 _ _ R.at')⟩, ?_⟩
      refine for_list (K := K) (a := p) (xs := refs ps) (fun i σ H2 => ∃ (d : Addr) (o3 : Option V), σ = [some (.ref p), some (.ref b), some (.ref d), o3] ∧ Same H H2 ∧ H2 d = some (.dT (dictV (((nums ps).take i).foldl (fun D v => Lsm.oneMore D v x) [(Lsm.zeros x.length, 1)]))) ∧
          Lsm.Good x (((nums ps).take i).foldl (fun D v => Lsm.oneMore D v x) [(Lsm.zeros x.length, 1)]))
        ⟨d0, none, rfl, s5, upd_same, Lsm.start_good x⟩ (fun i σ H2 _ ⟨_, _, _, s6, _⟩ => SqL.of (s6 _ _ R.at')) ?_ ?_
      · rintro i y σ H2 hi ⟨d, o3, rfl, s6, hd, hG⟩
        obtain ⟨v, hv, rfl⟩ := refs_get hi
        have hvm := List.mem_of_getElem? hv
        have en : (nums ps)[i]? = some v.2 := by
          unfold nums
          rw [List.getElem?_map, hv]
          rfl
        have hvn : v.2 ∈ nums ps := List.mem_of_getElem? en
        obtain ⟨hvl, hvp⟩ := hM v.2 hvn
        refine ⟨_, rfl, _, rfl, _, rfl, d, v.1, b, _, v.2, x, rfl, hd, SqL.of (s6 _ _ (R.all v hvm)), s6.seq hX, hvl, hvp, hve v.2 hvn, h4, hxe, hG, fun H3 g s7 hg1 hg2 => ?_⟩
        have enext : ((nums ps).take (i + 1)).foldl (fun D v => Lsm.oneMore D v x) [(Lsm.zeros x.length, 1)] = Lsm.oneMore (((nums ps).take i).foldl (fun D v => Lsm.oneMore D v x) [(Lsm.zeros x.length, 1)]) v.2 x := by
          rw [take_succ en, List.foldl_append]
          rfl
        refine ⟨g, some (.ref v.1), rfl, s6.trans s7, ?_, ?_⟩
        · rw [enext]
          exact hg2
        · rw [enext]
          exact Lsm.oneMore_good hvl hvp hG
      · rintro σ H2 ⟨d, o3, rfl, s6, hd, hG⟩
        rw [refs_length, List.take_of_length_le (by rw [nums_length]; exact Nat.le_refl _)] at hd
        refine ⟨_, rfl, d, rfl, .inr ⟨_, .inl hd⟩, _, rfl, b, _, rfl, .inl ⟨s6.seq hX, fun kx hkx => ?_⟩⟩
        have s7 : Same H2 (upd H2 kx (.tup (iV x))) := same_upd hkx
        refine ⟨_, DGet.t (k := kE x) (s7 _ _ hd) (by rw [upd_same, kE_vals]), ?_⟩
        rw [valV_dictV]
        have e : (Option.map (fun (n : Nat) => V.int (n : Int)) (Lsm.look ((nums ps).foldl (fun D v => Lsm.oneMore D v x) [(Lsm.zeros x.length, 1)]) x)).getD (V.int 0) = V.int ((Lsm.numberOfWays (nums ps) x : Nat) : Int) := by
          unfold Lsm.numberOfWays Lsm.waysOf
          cases Lsm.look ((nums ps).foldl (fun D v => Lsm.oneMore D v x) [(Lsm.zeros x.length, 1)]) x <;> rfl
        rw [e]
        exact q _ (s6.trans s7)
theorem ok_ansW {f fV fL fG : Addr} {fd fdV fdL fdG : FuncData} (F : Fun K "ways_answer" "ways_answer" sAnsW f fd)
    (NV : At K mg "need_solution" sNeedS ["coefficients", "x"] fV fdV) (GV : FnOk P w K mg base (L2.CX P w) 6 fV fdV ["coefficients", "x"] (spNeedS K C))
    (NL : At K mg "least_solutions" sLeast ["coefficients"] fL fdL) (GL : FnOk P w K mg base CX0 3 fL fdL ["coefficients"] (spLeast K))
    (NG : At K mg "number_of_ways" sWays ["solutions", "x"] fG fdG) (GG : FnOk P w K mg base CX0 3 fG fdG ["solutions", "x"] (spWays K)) :
    FnOk P w K mg base (L2.CX P w) 7 f fd ["coefficients", "x"] (sp2 K C waysR) := by
  refine F.okX scAnsW (fun vs H Q E h => ?_) (fun cdv A outer s H vs Q E hr h => ?_)
  · obtain ⟨a, ns, b, xs, rfl, _⟩ := h
    rfl
  · obtain ⟨a, ns, b, xs, rfl, hS, hX, k⟩ := h
    refine ⟨_, pss_cons (ps_expr (pe_call GV hr rfl NV.gl NV.fn.kp NV.bn .nil (passR (takes_of rfl rfl rfl rfl)) (pa_cons (pv 0) (pa_cons (pv 1) pa_nil))))
      (PSs.nox (pss_one (ps_ret (pe_lst (pa_cons (pe_call GG (hr.mono (by decide)) rfl NG.gl NG.fn.kp NG.bn .nil pass0 (pa_cons (pe_call GL (hr.mono (by decide)) rfl NL.gl NL.fn.kp NL.bn .nil pass0 (pa_cons (pv 0) pa_nil)) (pa_cons (pv 1) pa_nil))) pa_nil))))), ?_⟩
    refine ⟨_, rfl, _, rfl, a, ns, b, xs, rfl, hS, hX, fun h => k.bad (by unfold waysR; rw [if_neg (by rw [h]; decide)]), fun h hs => k.bad (by unfold waysR; rw [if_pos h, if_pos hs]), fun h hs => ?_⟩
    obtain ⟨hC, hl, hw⟩ := okV_len h
    have hnn := within_nn hw
    have c6 := okC_len hC
    rw [iV_ints xs fun n hn => (hnn n hn).1] at hX
    have hxl : (xs.map Int.toNat).length = ns.length := by rw [List.length_map, hl]
    have hxe : ∀ e ∈ xs.map Int.toNat, e < 13 := fun e he => by
      obtain ⟨n, hn, rfl⟩ := List.mem_map.mp he
      have := hnn n hn
      omega
    obtain ⟨x, ex⟩ : ∃ x, x = xs.map Int.toNat := ⟨_, rfl⟩
    have eR : waysR ns xs = .good [(Ks605.countDecompositions (Ks605.minimalSolutions ns) (x.sum + (Ks605.minimalSolutions ns).length + 1) x : Nat)] := by
      unfold waysR
      rw [if_pos h, if_neg (by rw [hs]; decide), ex]
    rw [← ex] at hX hxl hxe
    refine ⟨_, rfl, a, ns, rfl, hS, hC, fun H1 p ps s1 R1 n1 e1 => ?_⟩
    refine ⟨_, rfl, p, ps, b, x, rfl, R1, s1.seq hX, by omega, hxe, fun v hv => ?_, fun v hv e he => ?_, fun H2 s2 => ?_⟩
    · rw [e1] at hv
      rw [hxl]
      exact Lsm.minimal_len v hv
    · rw [e1] at hv
      have := minimal_elem hv e he
      omega
    · refine ⟨(by show 1 ≤ sizeLine; decide), fun r hr2 => ?_⟩
      refine k.good eR ((s1.trans s2).trans (same_upd hr2)) ?_
      rw [upd_same, e1, Lsm.numberOfWays_is fun u hu => by rw [hxl]; exact Lsm.minimal_len u hu]
      rfl
end
end Lw
namespace Lw
open PySem PySem.Spec PyProof.Rows L2
open PySem.W (Codec)
/-! ### the outermost def: try: return answer(coefficients, x) except Refused as refusal: return [refusal.code] -/
abbrev sTop : Stmt := topS 30
theorem scTop : FnScope ["coefficients", "x", "refusal"] ["coefficients", "x"] (defScope sTop) := ⟨rfl, rfl, rfl, by decide +kernel, rfl, by decide +kernel, by decide +kernel⟩
section
variable {P : Program} {w : World} {K : PySem.W.Frag} {mg : Str → Option Value} {base : Heap} {C fI : Addr}
theorem ok_top {kk : Nat} {f fA : Addr} {fd fdA : FuncData} {r : List Int → List Int → Res} {sA : Stmt} (F : Fun K "count_decompositions" "count_decompositions" sTop f fd) (ref : PySem.RefX.RefTxt K mg C fI)
    (NA : At K mg "ways_answer" sA ["coefficients", "x"] fA fdA) (GA : FnOk P w K mg base (L2.CX P w) kk fA fdA ["coefficients", "x"] (sp2 K C r)) :
    FnOk P w K mg base CX0 (kk + 1) f fd ["coefficients", "x"] (spTop2 K r) := by
  refine F.ok scTop (fun vs H Q E h => ?_) (fun cdv A outer s H vs Q E hr h => ?_)
  · obtain ⟨a, ns, b, xs, rfl, _⟩ := h
    rfl
  · obtain ⟨a, ns, b, xs, rfl, hS, hX, k⟩ := h
    refine ⟨_, pss_one (ps_try_as (i := 2) (tb := fun W => tRet (tCallS (sp2 K C r) (WE W) (tCons (tVar 0) (tCons (tVar 1) tNil)))) (ts := fun a cls d => tRet (tLst (tCons (tByRef C a cls d (tVar 2)) tNil))) (Wout := fun _ _ _ _ => False) rfl rfl scTop.nd rfl rfl ⟨rfl, by decide, Or.inl ref.gC⟩ takes0
      (fun W pn xe tk _ => pss_one (ps_ret (by exact (pe_callS GA hr rfl NA.gl NA.fn.kp NA.bn (fun σ => passAt tk σ) (by exact (pa_cons (pv 0) (pa_cons (pv 1) pa_nil)))))))
      (fun a oe cls d pn hz hf => pss_one (ps_ret (by exact (pe_lst (pa_cons (pe_byRef ref hz hf (pv 2)) pa_nil)))))), ?_⟩
    refine ⟨_, rfl, _, rfl, a, ns, b, xs, rfl, hS, hX, fun c hc => ?_, fun l hl => ?_⟩
    · intro H' d hs hd
      refine ⟨true, ref.te, fun _ a0 _ => ?_, fun q => Bool.noConfusion q⟩
      refine ⟨_, rfl, rfl, rfl, d, _, rfl, hd, (by show 1 ≤ sizeLine; decide), fun p hp => ?_⟩
      refine k _ p ?_
      rw [upd_same, hc]
      rfl
    · intro H' p hs hp
      refine k H' p ?_
      rw [hp, hl]
      rfl
end
end Lw
namespace Lw
open PySem PySem.Spec PyProof.Rows L2
open PySem.W (Codec)
/-! ### the end -/
theorem in_list {lo hi : Int} {least most : Nat} {l : List Int} (h : Codec.within (.list least most (.int lo hi)) l = true) : l.length ≤ most ∧ ∀ n ∈ l, lo ≤ n ∧ n ≤ hi := by
  unfold Codec.within Codec.inList Codec.inLen Codec.inNat at h
  simp only [Bool.and_eq_true, decide_eq_true_eq, List.all_eq_true] at h
  refine ⟨by omega, fun n hn => ?_⟩
  have := h.2 n hn
  unfold Codec.within Codec.inInt at this
  simp only [Bool.and_eq_true, decide_eq_true_eq] at this
  exact this
theorem valid_iff {ns xs : List Int} (h0 : ∀ n ∈ xs, 0 ≤ n) : Ks605.isValidVector ns.length (xs.map Int.toNat) = (decide (xs.length = ns.length) && within 0 12 xs) := by
  unfold Ks605.isValidVector within
  have e1 : ((xs.map Int.toNat).length == ns.length) = decide (xs.length = ns.length) := by
    rw [List.length_map, Bool.eq_iff_iff, beq_iff_eq, decide_eq_true_eq]
  rw [e1, List.all_map]
  congr 1
  rw [Bool.eq_iff_iff, List.all_eq_true, List.all_eq_true]
  constructor
  · intro h n hn
    have h1 := of_decide_eq_true (h n hn)
    have h2 := h0 n hn
    rw [Bool.and_eq_true, decide_eq_true_eq, decide_eq_true_eq]
    omega
  · intro h n hn
    have h1 := h n hn
    rw [Bool.and_eq_true, decide_eq_true_eq, decide_eq_true_eq] at h1
    show decide (n.toNat ≤ 12) = true
    rw [decide_eq_true_eq]
    omega
theorem with_vector {ns xs : List Int} (h0 : ∀ n ∈ xs, 0 ≤ n) (f : Unit → Ks605.Result) : Ks605.withVector ns (xs.map Int.toNat) f = if okV ns xs = true then f () else Ks605.number (-22) := by
  unfold Ks605.withVector Ks605.withCoefficients okV
  show (if okC ns = true then _ else _) = _
  rw [valid_iff h0]
  by_cases c : okC ns = true
  · rw [if_pos c, c, Bool.true_and]
  · rw [if_neg c, if_neg (by rw [Bool.and_eq_true]; exact fun z => c z.1)]
theorem law_is {ns xs : List Int} (h0 : ∀ n ∈ xs, 0 ≤ n) : (waysR ns xs).list = PyKs605.count_decompositions ns xs := by
  show _ = Ks605Neutral.integers (Ks605.withVector ns (xs.map Int.toNat) fun _ => if Ks605.isSolution ns (xs.map Int.toNat) = false then Ks605.number (-33) else Ks605.number (Ks605.countDecompositions (Ks605.minimalSolutions ns) ((xs.map Int.toNat).sum + (Ks605.minimalSolutions ns).length + 1) (xs.map Int.toNat)))
  rw [with_vector h0]
  unfold waysR
  by_cases c : okV ns xs = true
  · rw [if_pos c, if_pos c]
    by_cases cs : Ks605.isSolution ns (xs.map Int.toNat) = false
    · rw [if_pos cs, if_pos cs]
      rfl
    · rw [if_neg cs, if_neg cs]
      rfl
  · rw [if_neg c, if_neg c]
    rfl

end Lw
namespace Lw
open PySem PySem.Spec PyProof.Rows L2
open PySem.W (Codec)
/-- an error of the class at S is what «except S» names -/
theorem exm_self {K : PySem.W.Frag} {S : Addr} (h1 : PySem.W.subIn K (.ref S) (.type "BaseException") = some true) (h2 : PySem.W.isClsIn K S = true) (h3 : PySem.W.typeIn K (.ref S) = some (.type "type")) (h4 : PySem.W.subIn K (.ref S) (.ref S) = some true) :
    PySem.W.exmOne K (.ref S) (.ref S) = some true := by
  have e1 : (PySem.W.subIn K (.ref S) (.type "BaseException") == some true) = true := by rw [h1] <;> rfl
  have e2 : ((PySem.W.clsIn K S).isSome && PySem.W.typeIn K (.ref S) == some (.type "type")) = true := by
    have h2' : (PySem.W.clsIn K S).isSome = true := h2
    rw [h2', h3] <;> rfl
  show (if (PySem.W.subIn K (.ref S) (.type "BaseException") == some true) = true then (if ((PySem.W.clsIn K S).isSome && PySem.W.typeIn K (.ref S) == some (.type "type")) = true then PySem.W.subIn K (.ref S) (.ref S) else none) else none) = some true
  rw [if_pos e1, if_pos e2]
  exact h4
def spRow (K : PySem.W.Frag) : Sp := spTop2 K waysR
theorem all_mk {P : Program} {w : World} {K : PySem.W.Frag} {h : Heap} {mg : Str → Option Value} {fa C fI f_need f_are_within f_need_coefficients f_need_vector f_form_value f_is_contained f_contains_some f_times_within f_less_times f_plus_times f_all_vectors f_small_solutions f_least_solutions f_with_one_more f_number_of_ways f_need_solution f_ways_answer f_count_decompositions : Addr} (X : K.In h) (G : h.Ns mainGlobals mg) (hfa : mg "count_decompositions" = some (.ref fa))
    {nm q : Str} {N : Addr} {bs : List Value} {sn : List Str} {sub : List Value} {ab : Bool} {col : Option Bool} {dd : Option Addr} {m0 m1 m2 m3 m5 : Option Value} {odI anI : Option Addr} {slI : Array (Option Value)} {ocI dcI pmI cdI ctI : Value}
    {od_need an_need : Option Addr} {sl_need : Array (Option Value)} {oc_need kV_need dc_need pm_need cd_need ct_need : Value}
    {od_are_within an_are_within : Option Addr} {sl_are_within : Array (Option Value)} {oc_are_within kV_are_within dc_are_within pm_are_within cd_are_within ct_are_within : Value}
    {od_need_coefficients an_need_coefficients : Option Addr} {sl_need_coefficients : Array (Option Value)} {oc_need_coefficients kV_need_coefficients dc_need_coefficients pm_need_coefficients cd_need_coefficients ct_need_coefficients : Value}
    {od_need_vector an_need_vector : Option Addr} {sl_need_vector : Array (Option Value)} {oc_need_vector kV_need_vector dc_need_vector pm_need_vector cd_need_vector ct_need_vector : Value}
    {od_form_value an_form_value : Option Addr} {sl_form_value : Array (Option Value)} {oc_form_value kV_form_value dc_form_value pm_form_value cd_form_value ct_form_value : Value}
    {od_is_contained an_is_contained : Option Addr} {sl_is_contained : Array (Option Value)} {oc_is_contained kV_is_contained dc_is_contained pm_is_contained cd_is_contained ct_is_contained : Value}
    {od_contains_some an_contains_some : Option Addr} {sl_contains_some : Array (Option Value)} {oc_contains_some kV_contains_some dc_contains_some pm_contains_some cd_contains_some ct_contains_some : Value}
    {od_times_within an_times_within : Option Addr} {sl_times_within : Array (Option Value)} {oc_times_within kV_times_within dc_times_within pm_times_within cd_times_within ct_times_within : Value}
    {od_less_times an_less_times : Option Addr} {sl_less_times : Array (Option Value)} {oc_less_times kV_less_times dc_less_times pm_less_times cd_less_times ct_less_times : Value}
    {od_plus_times an_plus_times : Option Addr} {sl_plus_times : Array (Option Value)} {oc_plus_times kV_plus_times dc_plus_times pm_plus_times cd_plus_times ct_plus_times : Value}
    {od_all_vectors an_all_vectors : Option Addr} {sl_all_vectors : Array (Option Value)} {oc_all_vectors kV_all_vectors dc_all_vectors pm_all_vectors cd_all_vectors ct_all_vectors : Value}
    {od_small_solutions an_small_solutions : Option Addr} {sl_small_solutions : Array (Option Value)} {oc_small_solutions kV_small_solutions dc_small_solutions pm_small_solutions cd_small_solutions ct_small_solutions : Value}
    {od_least_solutions an_least_solutions : Option Addr} {sl_least_solutions : Array (Option Value)} {oc_least_solutions kV_least_solutions dc_least_solutions pm_least_solutions cd_least_solutions ct_least_solutions : Value}
    {od_with_one_more an_with_one_more : Option Addr} {sl_with_one_more : Array (Option Value)} {oc_with_one_more kV_with_one_more dc_with_one_more pm_with_one_more cd_with_one_more ct_with_one_more : Value}
    {od_number_of_ways an_number_of_ways : Option Addr} {sl_number_of_ways : Array (Option Value)} {oc_number_of_ways kV_number_of_ways dc_number_of_ways pm_number_of_ways cd_number_of_ways ct_number_of_ways : Value}
    {od_need_solution an_need_solution : Option Addr} {sl_need_solution : Array (Option Value)} {oc_need_solution kV_need_solution dc_need_solution pm_need_solution cd_need_solution ct_need_solution : Value}
    {od_ways_answer an_ways_answer : Option Addr} {sl_ways_answer : Array (Option Value)} {oc_ways_answer kV_ways_answer dc_ways_answer pm_ways_answer cd_ways_answer ct_ways_answer : Value}
    {od_count_decompositions an_count_decompositions : Option Addr} {sl_count_decompositions : Array (Option Value)} {oc_count_decompositions kV_count_decompositions dc_count_decompositions pm_count_decompositions cd_count_decompositions ct_count_decompositions : Value} {t_OUT_OF_LIMITS : Tok} {t_NO_SUCH : Tok} {t_MOST_COEFFICIENTS : Tok} {t_MOST_COEFFICIENT : Tok} {t_MOST_ELEMENT : Tok} {t_MOST_IN_MINIMAL : Tok}
    (aC : PySem.W.nsIn K mainGlobals "Refused" = some (some (.ref C)))
    (xL : K.lookup C = some (excClassObj nm q C N bs [.type "ValueError", .type "Exception", .type "BaseException", .type "object"] true sn sub ab col dd m0 m1 m2 m3 m5 "ValueError.__new__"))
    (sa : PySem.W.findIn K (.ref C) "__setattr__" = some (some (.builtin "object.__setattr__")))
    (ga : PySem.W.findIn K (.ref C) "__getattribute__" = some (some (.builtin "BaseException.__getattribute__")))
    (gg : PySem.W.findIn K (.ref C) "__getattr__" = some none)
    (nb : PySem.W.findIn K (.ref C) "code" = some none)
    (aI : PySem.W.findIn K (.ref C) "__init__" = some (some (.ref fI)))
    (tI : PySem.W.typeIn K (.ref fI) = some (.type "function"))
    (lI : K.lookup fI = some ⟨ocI, odI, .func (PySem.W.fnOf "__init__" "Refused.__init__" (PySem.RefX.iA ⟨9, 17, 9, 21⟩ ⟨9, 23, 9, 27⟩) (PySem.RefX.iB ⟨10, 8, 10, 12⟩ ⟨10, 8, 10, 17⟩ ⟨10, 20, 10, 24⟩ ⟨10, 8, 10, 24⟩) PySem.RefX.iS .none .none dcI pmI anI cdI ctI), slI⟩)
    (cI : PySem.W.codeIn K cdI "Refused.__init__" = true)
    (kC : PySem.W.keepIn K (.ref C) = true)
    (eC : PySem.W.subIn K (.ref C) (.type "BaseException") = some true)
    (tC : PySem.W.typeIn K (.ref C) = some (.type "type"))
    (hC : PySem.W.hasDictIn K C = true)
    (iC : PySem.W.isClsIn K C = true)
    (sC : PySem.W.subIn K (.ref C) (.ref C) = some true)
    (a_need : PySem.W.nsIn K mainGlobals "need" = some (some (.ref f_need)))
    (l_need : K.lookup f_need = some ⟨oc_need, od_need, .func (PySem.W.fnOf "need" "need" (defArgs sNeed) (defBody sNeed) (defScope sNeed) .none kV_need dc_need pm_need an_need cd_need ct_need), sl_need⟩)
    (c_need : PySem.W.codeIn K cd_need "need" = true)
    (k_need : PySem.W.keepIn K (.ref f_need) = true)
    (a_are_within : PySem.W.nsIn K mainGlobals "are_within" = some (some (.ref f_are_within)))
    (l_are_within : K.lookup f_are_within = some ⟨oc_are_within, od_are_within, .func (PySem.W.fnOf "are_within" "are_within" (defArgs sWithin) (defBody sWithin) (defScope sWithin) .none kV_are_within dc_are_within pm_are_within an_are_within cd_are_within ct_are_within), sl_are_within⟩)
    (c_are_within : PySem.W.codeIn K cd_are_within "are_within" = true)
    (k_are_within : PySem.W.keepIn K (.ref f_are_within) = true)
    (a_need_coefficients : PySem.W.nsIn K mainGlobals "need_coefficients" = some (some (.ref f_need_coefficients)))
    (l_need_coefficients : K.lookup f_need_coefficients = some ⟨oc_need_coefficients, od_need_coefficients, .func (PySem.W.fnOf "need_coefficients" "need_coefficients" (defArgs sNeedC) (defBody sNeedC) (defScope sNeedC) .none kV_need_coefficients dc_need_coefficients pm_need_coefficients an_need_coefficients cd_need_coefficients ct_need_coefficients), sl_need_coefficients⟩)
    (c_need_coefficients : PySem.W.codeIn K cd_need_coefficients "need_coefficients" = true)
    (k_need_coefficients : PySem.W.keepIn K (.ref f_need_coefficients) = true)
    (a_need_vector : PySem.W.nsIn K mainGlobals "need_vector" = some (some (.ref f_need_vector)))
    (l_need_vector : K.lookup f_need_vector = some ⟨oc_need_vector, od_need_vector, .func (PySem.W.fnOf "need_vector" "need_vector" (defArgs sNeedV) (defBody sNeedV) (defScope sNeedV) .none kV_need_vector dc_need_vector pm_need_vector an_need_vector cd_need_vector ct_need_vector), sl_need_vector⟩)
    (c_need_vector : PySem.W.codeIn K cd_need_vector "need_vector" = true)
    (k_need_vector : PySem.W.keepIn K (.ref f_need_vector) = true)
    (a_form_value : PySem.W.nsIn K mainGlobals "form_value" = some (some (.ref f_form_value)))
    (l_form_value : K.lookup f_form_value = some ⟨oc_form_value, od_form_value, .func (PySem.W.fnOf "form_value" "form_value" (defArgs sForm) (defBody sForm) (defScope sForm) .none kV_form_value dc_form_value pm_form_value an_form_value cd_form_value ct_form_value), sl_form_value⟩)
    (c_form_value : PySem.W.codeIn K cd_form_value "form_value" = true)
    (k_form_value : PySem.W.keepIn K (.ref f_form_value) = true)
    (a_is_contained : PySem.W.nsIn K mainGlobals "is_contained" = some (some (.ref f_is_contained)))
    (l_is_contained : K.lookup f_is_contained = some ⟨oc_is_contained, od_is_contained, .func (PySem.W.fnOf "is_contained" "is_contained" (defArgs sCont) (defBody sCont) (defScope sCont) .none kV_is_contained dc_is_contained pm_is_contained an_is_contained cd_is_contained ct_is_contained), sl_is_contained⟩)
    (c_is_contained : PySem.W.codeIn K cd_is_contained "is_contained" = true)
    (k_is_contained : PySem.W.keepIn K (.ref f_is_contained) = true)
    (a_contains_some : PySem.W.nsIn K mainGlobals "contains_some" = some (some (.ref f_contains_some)))
    (l_contains_some : K.lookup f_contains_some = some ⟨oc_contains_some, od_contains_some, .func (PySem.W.fnOf "contains_some" "contains_some" (defArgs sSome) (defBody sSome) (defScope sSome) .none kV_contains_some dc_contains_some pm_contains_some an_contains_some cd_contains_some ct_contains_some), sl_contains_some⟩)
    (c_contains_some : PySem.W.codeIn K cd_contains_some "contains_some" = true)
    (k_contains_some : PySem.W.keepIn K (.ref f_contains_some) = true)
    (a_times_within : PySem.W.nsIn K mainGlobals "times_within" = some (some (.ref f_times_within)))
    (l_times_within : K.lookup f_times_within = some ⟨oc_times_within, od_times_within, .func (PySem.W.fnOf "times_within" "times_within" (defArgs sTimes) (defBody sTimes) (defScope sTimes) .none kV_times_within dc_times_within pm_times_within an_times_within cd_times_within ct_times_within), sl_times_within⟩)
    (c_times_within : PySem.W.codeIn K cd_times_within "times_within" = true)
    (k_times_within : PySem.W.keepIn K (.ref f_times_within) = true)
    (a_less_times : PySem.W.nsIn K mainGlobals "less_times" = some (some (.ref f_less_times)))
    (l_less_times : K.lookup f_less_times = some ⟨oc_less_times, od_less_times, .func (PySem.W.fnOf "less_times" "less_times" (defArgs sLess) (defBody sLess) (defScope sLess) .none kV_less_times dc_less_times pm_less_times an_less_times cd_less_times ct_less_times), sl_less_times⟩)
    (c_less_times : PySem.W.codeIn K cd_less_times "less_times" = true)
    (k_less_times : PySem.W.keepIn K (.ref f_less_times) = true)
    (a_plus_times : PySem.W.nsIn K mainGlobals "plus_times" = some (some (.ref f_plus_times)))
    (l_plus_times : K.lookup f_plus_times = some ⟨oc_plus_times, od_plus_times, .func (PySem.W.fnOf "plus_times" "plus_times" (defArgs sPlus) (defBody sPlus) (defScope sPlus) .none kV_plus_times dc_plus_times pm_plus_times an_plus_times cd_plus_times ct_plus_times), sl_plus_times⟩)
    (c_plus_times : PySem.W.codeIn K cd_plus_times "plus_times" = true)
    (k_plus_times : PySem.W.keepIn K (.ref f_plus_times) = true)
    (a_all_vectors : PySem.W.nsIn K mainGlobals "all_vectors" = some (some (.ref f_all_vectors)))
    (l_all_vectors : K.lookup f_all_vectors = some ⟨oc_all_vectors, od_all_vectors, .func (PySem.W.fnOf "all_vectors" "all_vectors" (defArgs sAllV) (defBody sAllV) (defScope sAllV) .none kV_all_vectors dc_all_vectors pm_all_vectors an_all_vectors cd_all_vectors ct_all_vectors), sl_all_vectors⟩)
    (c_all_vectors : PySem.W.codeIn K cd_all_vectors "all_vectors" = true)
    (k_all_vectors : PySem.W.keepIn K (.ref f_all_vectors) = true)
    (a_small_solutions : PySem.W.nsIn K mainGlobals "small_solutions" = some (some (.ref f_small_solutions)))
    (l_small_solutions : K.lookup f_small_solutions = some ⟨oc_small_solutions, od_small_solutions, .func (PySem.W.fnOf "small_solutions" "small_solutions" (defArgs sSmall) (defBody sSmall) (defScope sSmall) .none kV_small_solutions dc_small_solutions pm_small_solutions an_small_solutions cd_small_solutions ct_small_solutions), sl_small_solutions⟩)
    (c_small_solutions : PySem.W.codeIn K cd_small_solutions "small_solutions" = true)
    (k_small_solutions : PySem.W.keepIn K (.ref f_small_solutions) = true)
    (a_least_solutions : PySem.W.nsIn K mainGlobals "least_solutions" = some (some (.ref f_least_solutions)))
    (l_least_solutions : K.lookup f_least_solutions = some ⟨oc_least_solutions, od_least_solutions, .func (PySem.W.fnOf "least_solutions" "least_solutions" (defArgs sLeast) (defBody sLeast) (defScope sLeast) .none kV_least_solutions dc_least_solutions pm_least_solutions an_least_solutions cd_least_solutions ct_least_solutions), sl_least_solutions⟩)
    (c_least_solutions : PySem.W.codeIn K cd_least_solutions "least_solutions" = true)
    (k_least_solutions : PySem.W.keepIn K (.ref f_least_solutions) = true)
    (a_with_one_more : PySem.W.nsIn K mainGlobals "with_one_more" = some (some (.ref f_with_one_more)))
    (l_with_one_more : K.lookup f_with_one_more = some ⟨oc_with_one_more, od_with_one_more, .func (PySem.W.fnOf "with_one_more" "with_one_more" (defArgs sMore) (defBody sMore) (defScope sMore) .none kV_with_one_more dc_with_one_more pm_with_one_more an_with_one_more cd_with_one_more ct_with_one_more), sl_with_one_more⟩)
    (c_with_one_more : PySem.W.codeIn K cd_with_one_more "with_one_more" = true)
    (k_with_one_more : PySem.W.keepIn K (.ref f_with_one_more) = true)
    (a_number_of_ways : PySem.W.nsIn K mainGlobals "number_of_ways" = some (some (.ref f_number_of_ways)))
    (l_number_of_ways : K.lookup f_number_of_ways = some ⟨oc_number_of_ways, od_number_of_ways, .func (PySem.W.fnOf "number_of_ways" "number_of_ways" (defArgs sWays) (defBody sWays) (defScope sWays) .none kV_number_of_ways dc_number_of_ways pm_number_of_ways an_number_of_ways cd_number_of_ways ct_number_of_ways), sl_number_of_ways⟩)
    (c_number_of_ways : PySem.W.codeIn K cd_number_of_ways "number_of_ways" = true)
    (k_number_of_ways : PySem.W.keepIn K (.ref f_number_of_ways) = true)
    (a_need_solution : PySem.W.nsIn K mainGlobals "need_solution" = some (some (.ref f_need_solution)))
    (l_need_solution : K.lookup f_need_solution = some ⟨oc_need_solution, od_need_solution, .func (PySem.W.fnOf "need_solution" "need_solution" (defArgs sNeedS) (defBody sNeedS) (defScope sNeedS) .none kV_need_solution dc_need_solution pm_need_solution an_need_solution cd_need_solution ct_need_solution), sl_need_solution⟩)
    (c_need_solution : PySem.W.codeIn K cd_need_solution "need_solution" = true)
    (k_need_solution : PySem.W.keepIn K (.ref f_need_solution) = true)
    (a_ways_answer : PySem.W.nsIn K mainGlobals "ways_answer" = some (some (.ref f_ways_answer)))
    (l_ways_answer : K.lookup f_ways_answer = some ⟨oc_ways_answer, od_ways_answer, .func (PySem.W.fnOf "ways_answer" "ways_answer" (defArgs sAnsW) (defBody sAnsW) (defScope sAnsW) .none kV_ways_answer dc_ways_answer pm_ways_answer an_ways_answer cd_ways_answer ct_ways_answer), sl_ways_answer⟩)
    (c_ways_answer : PySem.W.codeIn K cd_ways_answer "ways_answer" = true)
    (k_ways_answer : PySem.W.keepIn K (.ref f_ways_answer) = true)
    (a_count_decompositions : PySem.W.nsIn K mainGlobals "count_decompositions" = some (some (.ref f_count_decompositions)))
    (l_count_decompositions : K.lookup f_count_decompositions = some ⟨oc_count_decompositions, od_count_decompositions, .func (PySem.W.fnOf "count_decompositions" "count_decompositions" (defArgs sTop) (defBody sTop) (defScope sTop) .none kV_count_decompositions dc_count_decompositions pm_count_decompositions an_count_decompositions cd_count_decompositions ct_count_decompositions), sl_count_decompositions⟩)
    (c_count_decompositions : PySem.W.codeIn K cd_count_decompositions "count_decompositions" = true)
    (k_count_decompositions : PySem.W.keepIn K (.ref f_count_decompositions) = true)
    (m_OUT_OF_LIMITS : PySem.W.nsIn K mainGlobals "OUT_OF_LIMITS" = some (some (.int (-22) t_OUT_OF_LIMITS)))
    (m_NO_SUCH : PySem.W.nsIn K mainGlobals "NO_SUCH" = some (some (.int (-33) t_NO_SUCH)))
    (m_MOST_COEFFICIENTS : PySem.W.nsIn K mainGlobals "MOST_COEFFICIENTS" = some (some (.int 4 t_MOST_COEFFICIENTS)))
    (m_MOST_COEFFICIENT : PySem.W.nsIn K mainGlobals "MOST_COEFFICIENT" = some (some (.int 6 t_MOST_COEFFICIENT)))
    (m_MOST_ELEMENT : PySem.W.nsIn K mainGlobals "MOST_ELEMENT" = some (some (.int 12 t_MOST_ELEMENT)))
    (m_MOST_IN_MINIMAL : PySem.W.nsIn K mainGlobals "MOST_IN_MINIMAL" = some (some (.int 6 t_MOST_IN_MINIMAL)))
    (z_len : PySem.W.nsIn K mainGlobals "len" = some none)
    (z_range : PySem.W.nsIn K mainGlobals "range" = some none)
    (z_sorted : PySem.W.nsIn K mainGlobals "sorted" = some none)
    (z_sum : PySem.W.nsIn K mainGlobals "sum" = some none)
    (z_min : PySem.W.nsIn K mainGlobals "min" = some none)
    (z_list : PySem.W.nsIn K mainGlobals "list" = some none)
    (z_tuple : PySem.W.nsIn K mainGlobals "tuple" = some none) :
    ∃ fd : FuncData, (∀ (s : Shared) (us : List Value), us.length = (["coefficients", "x"] : List Str).length → BindsTo s fd ⟨us, []⟩ ((["coefficients", "x"] : List Str).zip us)) ∧ ∀ base : Heap, K.In base → base.Ns mainGlobals mg → FnOk P w K mg base CX0 8 fa fd ["coefficients", "x"] (spRow K) := by
  have e := hfa.symm.trans (PySem.W.mg_of X G a_count_decompositions)
  cases e
  have ref : PySem.RefX.RefTxt K mg C fI :=
    { gC := PySem.W.mg_of X G aC, cls := ⟨nm, q, N, bs, _, sn, sub, ab, col, dd, m0, m1, m2, m3, m5, xL, by decide +kernel⟩, sa := sa, ga := ga, gg := gg, noN := nb, iC := aI, tC := tI, kC := kC, exC := eC, tyC := tC, hdC := hC, te := exm_self eC iC tC sC,
      fn := ⟨_, _, _, _, _, _, _, _, _, _, _, _, _, _, lI, cI⟩ }
  have F_need := fun_mk (st := sNeed) l_need c_need k_need
  have N_need : At K mg "need" sNeed ["fulfilled", "code"] _ _ := ⟨F_need, F_need.binds (ps := ["fulfilled", "code"]) (fun _ _ _ _ _ _ us hl => match us, hl with | [_, _], _ => rfl), PySem.W.mg_of X G a_need⟩
  have F_are_within := fun_mk (st := sWithin) l_are_within c_are_within k_are_within
  have N_are_within : At K mg "are_within" sWithin ["numbers", "low", "high"] _ _ := ⟨F_are_within, F_are_within.binds (ps := ["numbers", "low", "high"]) (fun _ _ _ _ _ _ us hl => match us, hl with | [_, _, _], _ => rfl), PySem.W.mg_of X G a_are_within⟩
  have F_need_coefficients := fun_mk (st := sNeedC) l_need_coefficients c_need_coefficients k_need_coefficients
  have N_need_coefficients : At K mg "need_coefficients" sNeedC ["coefficients"] _ _ := ⟨F_need_coefficients, F_need_coefficients.binds (ps := ["coefficients"]) (fun _ _ _ _ _ _ us hl => match us, hl with | [_], _ => rfl), PySem.W.mg_of X G a_need_coefficients⟩
  have F_need_vector := fun_mk (st := sNeedV) l_need_vector c_need_vector k_need_vector
  have N_need_vector : At K mg "need_vector" sNeedV ["coefficients", "x"] _ _ := ⟨F_need_vector, F_need_vector.binds (ps := ["coefficients", "x"]) (fun _ _ _ _ _ _ us hl => match us, hl with | [_, _], _ => rfl), PySem.W.mg_of X G a_need_vector⟩
  have F_form_value := fun_mk (st := sForm) l_form_value c_form_value k_form_value
  have N_form_value : At K mg "form_value" sForm ["coefficients", "x"] _ _ := ⟨F_form_value, F_form_value.binds (ps := ["coefficients", "x"]) (fun _ _ _ _ _ _ us hl => match us, hl with | [_, _], _ => rfl), PySem.W.mg_of X G a_form_value⟩
  have F_is_contained := fun_mk (st := sCont) l_is_contained c_is_contained k_is_contained
  have N_is_contained : At K mg "is_contained" sCont ["one", "other"] _ _ := ⟨F_is_contained, F_is_contained.binds (ps := ["one", "other"]) (fun _ _ _ _ _ _ us hl => match us, hl with | [_, _], _ => rfl), PySem.W.mg_of X G a_is_contained⟩
  have F_contains_some := fun_mk (st := sSome) l_contains_some c_contains_some k_contains_some
  have N_contains_some : At K mg "contains_some" sSome ["vector", "others"] _ _ := ⟨F_contains_some, F_contains_some.binds (ps := ["vector", "others"]) (fun _ _ _ _ _ _ us hl => match us, hl with | [_, _], _ => rfl), PySem.W.mg_of X G a_contains_some⟩
  have F_times_within := fun_mk (st := sTimes) l_times_within c_times_within k_times_within
  have N_times_within : At K mg "times_within" sTimes ["one", "other"] _ _ := ⟨F_times_within, F_times_within.binds (ps := ["one", "other"]) (fun _ _ _ _ _ _ us hl => match us, hl with | [_, _], _ => rfl), PySem.W.mg_of X G a_times_within⟩
  have F_less_times := fun_mk (st := sLess) l_less_times c_less_times k_less_times
  have N_less_times : At K mg "less_times" sLess ["one", "other", "times"] _ _ := ⟨F_less_times, F_less_times.binds (ps := ["one", "other", "times"]) (fun _ _ _ _ _ _ us hl => match us, hl with | [_, _, _], _ => rfl), PySem.W.mg_of X G a_less_times⟩
  have F_plus_times := fun_mk (st := sPlus) l_plus_times c_plus_times k_plus_times
  have N_plus_times : At K mg "plus_times" sPlus ["one", "other", "times"] _ _ := ⟨F_plus_times, F_plus_times.binds (ps := ["one", "other", "times"]) (fun _ _ _ _ _ _ us hl => match us, hl with | [_, _, _], _ => rfl), PySem.W.mg_of X G a_plus_times⟩
  have F_all_vectors := fun_mk (st := sAllV) l_all_vectors c_all_vectors k_all_vectors
  have N_all_vectors : At K mg "all_vectors" sAllV ["length"] _ _ := ⟨F_all_vectors, F_all_vectors.binds (ps := ["length"]) (fun _ _ _ _ _ _ us hl => match us, hl with | [_], _ => rfl), PySem.W.mg_of X G a_all_vectors⟩
  have F_small_solutions := fun_mk (st := sSmall) l_small_solutions c_small_solutions k_small_solutions
  have N_small_solutions : At K mg "small_solutions" sSmall ["coefficients"] _ _ := ⟨F_small_solutions, F_small_solutions.binds (ps := ["coefficients"]) (fun _ _ _ _ _ _ us hl => match us, hl with | [_], _ => rfl), PySem.W.mg_of X G a_small_solutions⟩
  have F_least_solutions := fun_mk (st := sLeast) l_least_solutions c_least_solutions k_least_solutions
  have N_least_solutions : At K mg "least_solutions" sLeast ["coefficients"] _ _ := ⟨F_least_solutions, F_least_solutions.binds (ps := ["coefficients"]) (fun _ _ _ _ _ _ us hl => match us, hl with | [_], _ => rfl), PySem.W.mg_of X G a_least_solutions⟩
  have F_with_one_more := fun_mk (st := sMore) l_with_one_more c_with_one_more k_with_one_more
  have N_with_one_more : At K mg "with_one_more" sMore ["ways", "vector", "x"] _ _ := ⟨F_with_one_more, F_with_one_more.binds (ps := ["ways", "vector", "x"]) (fun _ _ _ _ _ _ us hl => match us, hl with | [_, _, _], _ => rfl), PySem.W.mg_of X G a_with_one_more⟩
  have F_number_of_ways := fun_mk (st := sWays) l_number_of_ways c_number_of_ways k_number_of_ways
  have N_number_of_ways : At K mg "number_of_ways" sWays ["solutions", "x"] _ _ := ⟨F_number_of_ways, F_number_of_ways.binds (ps := ["solutions", "x"]) (fun _ _ _ _ _ _ us hl => match us, hl with | [_, _], _ => rfl), PySem.W.mg_of X G a_number_of_ways⟩
  have F_need_solution := fun_mk (st := sNeedS) l_need_solution c_need_solution k_need_solution
  have N_need_solution : At K mg "need_solution" sNeedS ["coefficients", "x"] _ _ := ⟨F_need_solution, F_need_solution.binds (ps := ["coefficients", "x"]) (fun _ _ _ _ _ _ us hl => match us, hl with | [_, _], _ => rfl), PySem.W.mg_of X G a_need_solution⟩
  have F_ways_answer := fun_mk (st := sAnsW) l_ways_answer c_ways_answer k_ways_answer
  have N_ways_answer : At K mg "ways_answer" sAnsW ["coefficients", "x"] _ _ := ⟨F_ways_answer, F_ways_answer.binds (ps := ["coefficients", "x"]) (fun _ _ _ _ _ _ us hl => match us, hl with | [_, _], _ => rfl), PySem.W.mg_of X G a_ways_answer⟩
  have F_count_decompositions := fun_mk (st := sTop) l_count_decompositions c_count_decompositions k_count_decompositions
  have N_count_decompositions : At K mg "count_decompositions" sTop ["coefficients", "x"] _ _ := ⟨F_count_decompositions, F_count_decompositions.binds (ps := ["coefficients", "x"]) (fun _ _ _ _ _ _ us hl => match us, hl with | [_, _], _ => rfl), PySem.W.mg_of X G a_count_decompositions⟩
  have M_OUT_OF_LIMITS := PySem.W.mg_of X G m_OUT_OF_LIMITS
  have M_NO_SUCH := PySem.W.mg_of X G m_NO_SUCH
  have M_MOST_COEFFICIENTS := PySem.W.mg_of X G m_MOST_COEFFICIENTS
  have M_MOST_COEFFICIENT := PySem.W.mg_of X G m_MOST_COEFFICIENT
  have M_MOST_ELEMENT := PySem.W.mg_of X G m_MOST_ELEMENT
  have M_MOST_IN_MINIMAL := PySem.W.mg_of X G m_MOST_IN_MINIMAL
  have Z_len := PySem.W.mg_none_of X G z_len
  have Z_range := PySem.W.mg_none_of X G z_range
  have Z_sorted := PySem.W.mg_none_of X G z_sorted
  have Z_sum := PySem.W.mg_none_of X G z_sum
  have Z_min := PySem.W.mg_none_of X G z_min
  have Z_list := PySem.W.mg_none_of X G z_list
  have Z_tuple := PySem.W.mg_none_of X G z_tuple
  refine ⟨PySem.W.fnOf "count_decompositions" "count_decompositions" (defArgs sTop) (defBody sTop) (defScope sTop) .none kV_count_decompositions dc_count_decompositions pm_count_decompositions an_count_decompositions cd_count_decompositions ct_count_decompositions, fun s us hu => match us, hu with | [_, _], _ => .of_eq rfl, fun base _ _ => ?_⟩
  have TC : TxtC K mg C fI := ⟨ref, Z_len, ⟨_, M_OUT_OF_LIMITS⟩, ⟨_, M_MOST_COEFFICIENTS⟩, ⟨_, M_MOST_COEFFICIENT⟩⟩
  have TV : TxtV K mg := ⟨Z_len, Z_range⟩
  have TL : TxtL mg := ⟨Z_sorted, Z_sum⟩
  have GC := ok_needC (P := P) (w := w) (base := base) N_need_coefficients.fn TC N_need N_are_within
  have GF := ok_form (P := P) (w := w) (base := base) N_form_value.fn TV
  have GI := ok_cont (P := P) (w := w) (base := base) N_is_contained.fn TV
  have GS := ok_some N_contains_some.fn N_is_contained GI
  have GV := ok_allV (P := P) (w := w) (base := base) N_all_vectors.fn TV ⟨_, M_MOST_IN_MINIMAL⟩
  have GM := ok_small N_small_solutions.fn TV N_all_vectors GV N_form_value GF
  have GL := ok_least N_least_solutions.fn TL N_small_solutions GM N_contains_some GS
  have GW := ok_needV (P := P) (w := w) (base := base) N_need_vector.fn TC ⟨_, M_MOST_ELEMENT⟩ N_need_coefficients N_need N_are_within
  have GD := ok_need (P := P) (w := w) (base := base) N_need.fn TC
  have GQ := ok_needS N_need_solution.fn ⟨_, M_NO_SUCH⟩ N_need_vector GW N_form_value GF N_need GD
  have TM : TxtM mg := ⟨Z_sum, Z_min⟩
  have GT := ok_times (P := P) (w := w) (K := K) (base := base) N_times_within.fn TV TM
  have GE := ok_less (P := P) (w := w) (K := K) (base := base) N_less_times.fn TV
  have TT : TxtT mg := ⟨Z_list, Z_tuple⟩
  have GP := ok_plus (P := P) (w := w) (K := K) (base := base) N_plus_times.fn TV
  have GO := ok_more (P := P) (w := w) (base := base) N_with_one_more.fn TV TT N_less_times GE N_times_within GT N_plus_times GP
  have GY := ok_ways N_number_of_ways.fn TV TT N_with_one_more GO
  exact ok_top N_count_decompositions.fn ref N_ways_answer (ok_ansW N_ways_answer.fn N_need_solution GQ N_least_solutions GL N_number_of_ways GY)
end Lw
open PySem PySem.W PyProof.Rows
set_option maxRecDepth 100000 in
set_option maxHeartbeats 8000000 in
theorem PySem.Challenge.cw_leastsums_s04_count_decompositions_holds : PySem.Challenge.rw_leastsums_s04_count_decompositions.Holds := by
  w_on; k_headS; (case hw => exact ⟨[.list [], .list []], by decide +kernel, by decide +kernel⟩)
  k_fillS
  refine L2.walk_specK (r := PySem.Challenge.rw_leastsums_s04_count_decompositions) (k := 8) (CX := L2.CX0) (ps := ["coefficients", "x"]) (sp := Lw.spRow) (by decide +kernel) rfl rfl ⟨rfl, by decide, by decide⟩ (fun w h Y => PySem.W.kIn_of Y) ?F ?S (fun _ _ _ _ z => z)
  case F =>
    intro w mg fa h Y KX G hmg
    refine' Lw.all_mk KX G hmg ?aC ?xL ?sa ?ga ?gg ?nb ?aI ?tI ?lI ?cI ?kC ?eC ?tC ?hC ?iC ?sC ?a_need ?l_need ?c_need ?k_need ?a_are_within ?l_are_within ?c_are_within ?k_are_within ?a_need_coefficients ?l_need_coefficients ?c_need_coefficients ?k_need_coefficients ?a_need_vector ?l_need_vector ?c_need_vector ?k_need_vector ?a_form_value ?l_form_value ?c_form_value ?k_form_value ?a_is_contained ?l_is_contained ?c_is_contained ?k_is_contained ?a_contains_some ?l_contains_some ?c_contains_some ?k_contains_some ?a_times_within ?l_times_within ?c_times_within ?k_times_within ?a_less_times ?l_less_times ?c_less_times ?k_less_times ?a_plus_times ?l_plus_times ?c_plus_times ?k_plus_times ?a_all_vectors ?l_all_vectors ?c_all_vectors ?k_all_vectors ?a_small_solutions ?l_small_solutions ?c_small_solutions ?k_small_solutions ?a_least_solutions ?l_least_solutions ?c_least_solutions ?k_least_solutions ?a_with_one_more ?l_with_one_more ?c_with_one_more ?k_with_one_more ?a_number_of_ways ?l_number_of_ways ?c_number_of_ways ?k_number_of_ways ?a_need_solution ?l_need_solution ?c_need_solution ?k_need_solution ?a_ways_answer ?l_ways_answer ?c_ways_answer ?k_ways_answer ?a_count_decompositions ?l_count_decompositions ?c_count_decompositions ?k_count_decompositions ?m_OUT_OF_LIMITS ?m_NO_SUCH ?m_MOST_COEFFICIENTS ?m_MOST_COEFFICIENT ?m_MOST_ELEMENT ?m_MOST_IN_MINIMAL ?z_len ?z_range ?z_sorted ?z_sum ?z_min ?z_list ?z_tuple
    (case aC => k_is); (case xL => k_is); (case sa => k_is); (case ga => k_is); (case gg => k_is); (case nb => k_is)
    (case aI => k_is); (case tI => k_is); (case lI => k_is); (case cI => k_is); (case kC => k_is); (case eC => k_is)
    (case tC => k_is); (case hC => k_is); (case iC => k_is); (case sC => first | rfl | k_is); (case a_need => k_is); (case l_need => k_is)
    (case c_need => k_is); (case k_need => k_is); (case a_are_within => k_is); (case l_are_within => k_is); (case c_are_within => k_is); (case k_are_within => k_is)
    (case a_need_coefficients => k_is); (case l_need_coefficients => k_is); (case c_need_coefficients => k_is); (case k_need_coefficients => k_is); (case a_need_vector => k_is); (case l_need_vector => k_is)
    (case c_need_vector => k_is); (case k_need_vector => k_is); (case a_form_value => k_is); (case l_form_value => k_is); (case c_form_value => k_is); (case k_form_value => k_is)
    (case a_is_contained => k_is); (case l_is_contained => k_is); (case c_is_contained => k_is); (case k_is_contained => k_is); (case a_contains_some => k_is); (case l_contains_some => k_is)
    (case c_contains_some => k_is); (case k_contains_some => k_is); (case a_times_within => k_is); (case l_times_within => k_is); (case c_times_within => k_is); (case k_times_within => k_is)
    (case a_less_times => k_is); (case l_less_times => k_is); (case c_less_times => k_is); (case k_less_times => k_is); (case a_plus_times => k_is); (case l_plus_times => k_is)
    (case c_plus_times => k_is); (case k_plus_times => k_is); (case a_all_vectors => k_is); (case l_all_vectors => k_is); (case c_all_vectors => k_is); (case k_all_vectors => k_is)
    (case a_small_solutions => k_is); (case l_small_solutions => k_is); (case c_small_solutions => k_is); (case k_small_solutions => k_is); (case a_least_solutions => k_is); (case l_least_solutions => k_is)
    (case c_least_solutions => k_is); (case k_least_solutions => k_is); (case a_with_one_more => k_is); (case l_with_one_more => k_is); (case c_with_one_more => k_is); (case k_with_one_more => k_is)
    (case a_number_of_ways => k_is); (case l_number_of_ways => k_is); (case c_number_of_ways => k_is); (case k_number_of_ways => k_is); (case a_need_solution => k_is); (case l_need_solution => k_is)
    (case c_need_solution => k_is); (case k_need_solution => k_is); (case a_ways_answer => k_is); (case l_ways_answer => k_is); (case c_ways_answer => k_is); (case k_ways_answer => k_is)
    (case a_count_decompositions => k_is); (case l_count_decompositions => k_is); (case c_count_decompositions => k_is); (case k_count_decompositions => k_is); (case m_OUT_OF_LIMITS => k_is); (case m_NO_SUCH => k_is)
    (case m_MOST_COEFFICIENTS => k_is); (case m_MOST_COEFFICIENT => k_is); (case m_MOST_ELEMENT => k_is); (case m_MOST_IN_MINIMAL => k_is); (case z_len => k_is); (case z_range => k_is)
    (case z_sorted => k_is); (case z_sum => k_is); (case z_min => k_is); (case z_list => k_is); (case z_tuple => k_is)
  case S =>
    intro K H xs a hO hwi hask hx
    obtain ⟨l1, l2, u⟩ := a
    have w1 := Lw.in_list (show Codec.within (.list 0 6 (.int (-2147483648) 2147483647)) l1 = true from (Bool.and_eq_true _ _ ▸ hwi : _ ∧ _).1)
    have w2 := Lw.in_list (show Codec.within (.list 0 6 (.int 0 4294967295)) l2 = true from (Bool.and_eq_true _ _ ▸ (Bool.and_eq_true _ _ ▸ hwi : _ ∧ _).2 : _ ∧ _).1)
    cases hx with
    | cons h1 h2 =>
      cases h2 with
      | cons h3 h4 =>
        cases h4
        cases h1 with
        | lst hs ha =>
          cases h3 with
          | lst hs' hb =>
            have e := L2.ints_dw l1 _ ha
            subst e
            have e := L2.ints_dw l2 _ hb
            subst e
            refine ⟨_, l1, _, l2, rfl, hs, hs', fun H' p hp => ?_⟩
            rw [Lw.law_is (fun n hn => (w2.2 n hn).1)] at hp
            exact .lst (L2.SqL.of hp) (L2.dw_ints _)
#print axioms PySem.Challenge.cw_leastsums_s04_count_decompositions_holds

