import PyProof.Rows.All
import Wide.All
import OpenK.AllK
import Wide.FinOn
import PyProof.EqAt
import PyProof.EqKinds
import PyProof.TupleCall
import Open.SpecLaws
import KE.OsGo
import HandS.ForSpec
import HandS.Comp
import HandS.Iter
import HandS.Walk
import HandS.TryMany
import PySem.Challenge.RW_carriedover_s01_answers
set_option Elab.async false
set_option linter.all false
set_option maxRecDepth 100000
set_option maxHeartbeats 8000000
namespace PySem
namespace RefX
open PySem.W PySem.Calls PyProof.Rows PySem.HandSPX
/-! ### the text of __init__ -/
def iA (p1 p2 : Pos) : Arguments := { posonlyargs := [], args := [{ arg := "self", annotation := none, pos := p1 }, { arg := "code", annotation := none, pos := p2 }], vararg := none, kwonlyargs := [], kw_defaults := [], kwarg := none, defaults := [] }
def iB (q1 q2 q3 q4 : Pos) : List Stmt := [.Assign [.Attribute (.Name "self" q1) "code" q2] (.Name "code" q3) q4]
def iS : Scope := { kind := .function, names := [(PySem.Str.ofString "self", .local), (PySem.Str.ofString "code", .local)], isGenerator := false, isCoroutine := false, more := [] }
/-- what the written part says of Refused, at C, and of its __init__, at fI -/
structure RefTxt (K : Frag) (mg : Str → Option Value) (C fI : Addr) : Prop where
  gC : mg "Refused" = some (.ref C)
  cls : ∃ nm q N bs bm sn sub ab col dd k0 k1 k2 k3 k5, K.lookup C = some (excClassObj nm q C N bs bm true sn sub ab col dd k0 k1 k2 k3 k5 "ValueError.__new__") ∧ refsVE bm = true
  sa : findIn K (.ref C) "__setattr__" = some (some (.builtin "object.__setattr__"))
  ga : findIn K (.ref C) "__getattribute__" = some (some (.builtin "BaseException.__getattribute__"))
  gg : findIn K (.ref C) "__getattr__" = some none
  noN : findIn K (.ref C) "code" = some none
  iC : findIn K (.ref C) "__init__" = some (some (.ref fI))
  tC : typeIn K (.ref fI) = some (.type "function")
  kC : keepIn K (.ref C) = true
  exC : subIn K (.ref C) (.type "BaseException") = some true
  tyC : typeIn K (.ref C) = some (.type "type")
  hdC : hasDictIn K C = true
  te : exmOne K (.ref C) (.ref C) = some true
  fn : ∃ (oc : Value) (od : Option Addr) (doc pm : Value) (an : Option Addr) (cdv ct : Value) (osl : Array (Option Value)) (p1 p2 q1 q2 q3 q4 : Pos),
    K.lookup fI = some ⟨oc, od, .func (fnOf "__init__" "Refused.__init__" (iA p1 p2) (iB q1 q2 q3 q4) iS .none .none doc pm an cdv ct), osl⟩ ∧ codeIn K cdv "Refused.__init__" = true
theorem one_size (v : Value) : [v].length ≤ sizeLine := by
  rw [sizeLine_eq]
  exact (by decide : 1 ≤ 16777216)
theorem kept_but {K : Frag} {h h' : Heap} {x : Addr} (X : K.In h) (hx : K.lookup x = none) (k : ∀ b o, b ≠ x → h.get? b = some o → h'.get? b = some o) : K.In h' := fun a o e =>
  k a o (fun z => by rw [z, hx] at e; cases e) (X a o e)
theorem ldC {M : Model} {s : Shared} {name : Str} {scope : Scope} {L a : Addr} {cd : Value} {m : Str → Option Value} {x : Str} {pos : Pos} {v : Value} {Q : Value → Shared → Prop} {A : Around} {E : Value → Shared → Prop} (hn : s.heap.Ns L m) (hv : m x = some v) (h : Q v s)
    (hk : scope.kind = .function := by rfl) (hl : (envOfC name scope L a cd).kindOf x = some .local := by rfl) (hd : (x == ("__debug__" : Str)) = false := by decide) :
    wpAny M A (eval (.Name x pos) (envOfC name scope L a cd)) Q E s := wpAny_Name (wpAny_loadName_local hk hl hn hv h) hd
/-- what __init__ leaves of a fresh exception at x -/
structure InitEnd (h h' : Heap) (x C dx t1 : Addr) (v : Value) : Prop where
  keep : ∀ b o, b ≠ x → h.get? b = some o → h'.get? b = some o
  obj : h'.get? x = some { cls := .ref C, dict := some dx, data := .fields #[.ref t1, .none, .none, .none, .bool false, .none] }
  dbig : h.objs.size ≤ dx
  dne : dx ≠ x
  ns : h'.Ns1 dx (fun y => if y = "code" then some v else none)
/-- a made Refused -/
structure OwnMade (h h' : Heap) (e C d : Addr) (v : Value) : Prop where
  keep : ∀ b o, h.get? b = some o → h'.get? b = some o
  new : h.objs.size ≤ e
  obj : ∃ oe vs, h'.get? e = some oe ∧ oe.cls = .ref C ∧ oe.dict = some d ∧ oe.data = .fields vs ∧ vs[1]? = some .none
  dbig : h.objs.size ≤ d
  dne : d ≠ e
  ns : h'.Ns1 d (fun y => if y = "code" then some v else none)
section
variable {prog : Program} {w : World} {A : Around} {E : Value → Shared → Prop} {R : Result → Shared → Prop} {s : Shared} {K : Frag} {mg : Str → Option Value} {C fI : Addr}
theorem ref_init (T : RefTxt K mg C fI) {x t0 : Addr} {v : Value} (X : K.In s.heap) (hlim : s.heap.NoLimit) (hx : s.heap.get? x = some (excO C t0)) (hnx : K.lookup x = none) (hroom : A.depth < recursionLimit)
    (hq : ∀ h' tk dx, InitEnd s.heap h' x C dx t0 v → R (.ok (.ret .none)) { s with heap := h', toks := tk }) :
    codeAny (model prog w) A (.call (.ref fI) ⟨[.ref x, v], []⟩) R s := by
  obtain ⟨oc, od, doc, pm, an, cdv, ct, osl, p1, p2, q1, q2, q3, q4, ho, hcd⟩ := T.fn
  obtain ⟨nm, q, N, bs, bm, sn, sub, ab, col, dd, k0, k1, k2, k3, k5, hC, hbm⟩ := T.cls
  have hcl : clsIn K C = some { name := nm, bases := bs, mro := .ref C :: bm, ns := N, qualname := q, hasDict := true, slotNames := sn, subclasses := sub, abstract := ab, collection := col, hasDel := false } := by unfold clsIn; rw [hC] <;> rfl
  refine Att.call_fn (binds := [("self", .ref x), ("code", v)]) X hlim ho hcd hroom (BindsTo.of_eq (by first | rfl | with_unfolding_all rfl)) (by first | rfl | decide | with_unfolding_all rfl) (fun s₁ IC => ?_) rfl rfl rfl
  obtain ⟨h₁, tk₁, rfl⟩ := IC.toInCall.same
  have k : ∀ b o, s.heap.get? b = some o → h₁.get? b = some o := IC.toInCall.keep
  have hn := IC.toInCall.ns
  have hxL : s.heap.objs.size ≠ x := Nat.ne_of_gt (Heap.lt_size hx)
  have X₁ : K.In h₁ := X.keeps k
  have hx₁ := k _ _ hx
  -- self.by = by
  show wpAny _ _ (execs _ _) _ _ _
  refine wpAny_execs_cons (plainObj_wpAny_Assign_Attribute ?_)
  refine ldC (v := v) hn (by first | rfl | with_unfolding_all rfl | kernel_rfl) (ldC (v := .ref x) hn (by first | rfl | with_unfolding_all rfl | kernel_rfl) ?_)
  refine set_plain X₁ (ox := excO C t0) (od := none) ⟨hx₁, rfl, rfl, trivial⟩ T.sa ?_
  refine exc_osa X₁ hx₁ hcl (show refsVE (.ref C :: bm) = true from hbm) rfl T.noN (fun h₃ tk₃ dx k₃ dn dne hx₃ hn₃ => ?_)
  show wpAny _ _ (execs _ _) _ _ _
  have z : s.heap.objs.size < h₁.objs.size := hn.lt
  exact wpAny_execs_nil (hq h₃ tk₃ dx ⟨fun b o hb e => k₃ b o hb (k b o e), hx₃, Nat.le_of_lt (Nat.lt_of_lt_of_le z dn), dne, hn₃⟩)
theorem ref_made (T : RefTxt K mg C fI) {v : Value} (X : K.In s.heap) (hlim : s.heap.NoLimit) (hroom : A.depth + 1 < recursionLimit)
    (hq : ∀ h' tk e d, OwnMade s.heap h' e C d v → R (.ok (.ret (.ref e))) { s with heap := h', toks := tk }) :
    codeAny (model prog w) A (.call (.ref C) ⟨[v], []⟩) R s := by
  obtain ⟨nm, q, N, bs, bm, sn, sub, ab, col, dd, k0, k1, k2, k3, k5, hC, hbm⟩ := T.cls
  obtain ⟨hp, g, dr, tk, os⟩ := s
  have k : ∀ b o, hp.get? b = some o → ((hp.push (kdv_tup [v])).push (excO C hp.objs.size)).get? b = some o := fun b o e => Heap.get?_push_of_some _ (Heap.get?_push_of_some _ e)
  have hget : ((hp.push (kdv_tup [v])).push (excO C hp.objs.size)).get? (hp.objs.size + 1) = some (excO C hp.objs.size) := by heap_get
  have hnx : K.lookup (hp.objs.size + 1) = none := by
    cases e : K.lookup (hp.objs.size + 1) with
    | none => rfl
    | some o =>
      have z : hp.get? (hp.objs.size + 1) = some o := X _ _ e
      exact absurd (Nat.lt_of_succ_lt (Heap.lt_size z)) (Nat.lt_irrefl _)
  refine call_own F.excBase_ValueError (fun X => refsVE_contains X bm hbm) (X _ _ hC) (looks_findIn X T.iC) (fun self => bind_fn X self T.tC) (one_size v) ?_
  refine ref_init (s := ⟨(hp.push (kdv_tup [v])).push (excO C hp.objs.size), g, dr, tk, os⟩) T (X.keeps k) (hlim.keeps k) hget hnx ?_ fun h' tk' dx ⟨k', hx, dn, dne, hns⟩ => ?_
  · show A.depth + 1 < recursionLimit
    exact hroom
  · have old : ∀ b o, hp.get? b = some o → h'.get? b = some o := fun b o e => k' b o (Nat.ne_of_lt (Nat.lt_succ_of_lt (Heap.lt_size e))) (k b o e)
    have z : hp.objs.size + 1 + 1 ≤ dx := by
      first
        | (simpa only [Heap.size_push] using dn)
        | exact dn
        | (have q := dn; rw [Heap.size_push, Heap.size_push] at q; exact q)
    exact ⟨rfl, hq h' tk' (hp.objs.size + 1) dx ⟨old, Nat.le_succ _, ⟨_, _, hx, rfl, rfl, rfl, rfl⟩, Nat.le_trans (Nat.le_trans (Nat.le_succ _) (Nat.le_succ _)) z, dne, hns⟩⟩
end
end RefX
end PySem
namespace L2
open PySem PySem.Spec PyProof.Rows
theorem relO_ref {v : V} {v' : Value} (r : RelV v v') (f : Str) : RelO (List.lookup f [(("code" : Str), v)]) (if f = "code" then some v' else none) := by
  by_cases hw : f = "code"
  · subst hw
    rw [if_pos rfl]
    have q : List.lookup ("code" : Str) [(("code" : Str), v)] = some v := by simp [List.lookup]
    rw [q]
    exact r
  · rw [if_neg hw]
    have qw : (f == ("code" : Str)) = false := by simpa using hw
    have q2 : List.lookup f [(("code" : Str), v)] = none := by simp [List.lookup, qw]
    rw [q2]
    trivial
section
variable {X : Cx} {C fI : Addr}
/-- Refused(e) -/
def tMkRef (C : Addr) (ta : TA) : St → Hp → XK → Prop := fun σ H Q => ta σ H fun vs H1 => ∃ v, vs = [v] ∧ ∀ d, H1 d = none → Q (.ref C) (some d) (upd H1 d (.xd [(("code" : Str), v)]))
theorem pmk_ref {a : Expr} {ta : TA} {p pos : Pos} {k : Nat} (T : PySem.RefX.RefTxt X.K X.mg C fI) (hr : Room k X.A) (ha : PA X [a] ta) (hg : Gl X "Refused" := by rfl)
    (he : starEach (a :: []) X.env = (false, eval a X.env) :: starEach [] X.env := by rfl) (hpl : (backTo pos (starEach [] X.env)).any (·.1) = false := by rfl) :
    PMk X (.Call (.Name "Refused" p) [a] [] pos) (tMkRef C ta) := by
  intro pins s σ H Q I h
  refine wpAny_Call_Name_kw (ld_glob I hg T.gC ?_)
  refine PySem.W.callWith_K (h₀ := X.base) I.ok.mod.kin T.kC (thn (ha.run pos pins s σ H _ I h) fun us s1 hh => ?_) he hpl
  obtain ⟨vs, H1, I1, r1, v, ev, q1⟩ := hh
  subst ev
  refine ⟨I1.kIn, ?_⟩
  cases r1 with
  | cons rv rn =>
    rename_i v' us'
    cases rn
    show wpAny _ _ (call (.ref C) [v']) _ _ _
    have hlim := I1.nolimit
    obtain ⟨hp, g, dr, tk, os⟩ := s1
    refine wpAny_call (PySem.RefX.ref_made T I1.kIn hlim (by have := hr.dp; omega) fun h' tk' e d M => ?_)
    show MkP X pins σ Q (.ref e) ⟨h', g, dr, tk', os⟩
    obtain ⟨oe, fv, hoe, hc, hd, hdat, h1⟩ := M.obj
    have hns := M.ns
    obtain ⟨G', g1, g2⟩ := restrict h' fun b => decide (b ≠ e)
    have gk : ∀ b, b ≠ e → G'.get? b = h'.get? b := fun b hb => g1 b (decide_eq_true hb)
    have ge : G'.get? e = none := g2 e (by simp)
    have old : ∀ b o, hp.get? b = some o → G'.get? b = some o := fun b o q => (gk b (Nat.ne_of_lt (Nat.lt_of_lt_of_le (Heap.lt_size q) M.new))).trans (M.keep b o q)
    have ob : ObjOk X.prog X.w (upd H1 d (.xd [(("code" : Str), v)])) G' d (.xd [(("code" : Str), v)]) :=
      ⟨_, hns.at (fun o q => (gk d M.dne).trans q), fun f => relO_ref rv f⟩
    have J : Inv X pins σ (upd H1 d (.xd [(("code" : Str), v)])) ⟨G', g, dr, tk', os⟩ := I1.laid (t' := tk') old M.dbig ob
    refine ⟨e, oe, fv, ⟨G', g, dr, tk', os⟩, _, .ref C, some d, rfl, J, fun b o q => ?_, ge, hoe, ⟨hc, hd⟩, hdat, h1, ?_, rfl, I1.bare, raises_own T.exC T.tyC, q1 d (I1.hok.fresh M.dbig)⟩
    · by_cases hb : b = e
      · have q' : G'.get? b = some o := q
        rw [hb, ge] at q'; cases q'
      · exact (gk b hb).symm.trans q
    · rw [upd_ne (Ne.symm M.dne)]
      exact I1.hok.fresh M.new
/-- raise Refused(e) -/
def tRaiseRef (C : Addr) (W : WX) (ta : TA) : TS := fun _ σ H => tMkRef C ta σ H fun cls d H' => W cls d σ H'
theorem ps_raiseRef {a : Expr} {ta : TA} {W : WX} {p pos pos2 : Pos} {k : Nat} (hc : X.calm = true) (T : PySem.RefX.RefTxt X.K X.mg C fI) (hr : Room k X.A) (tk : Takes X W) (ha : PA X [a] ta) (hg : Gl X "Refused" := by rfl)
    (he : starEach (a :: []) X.env = (false, eval a X.env) :: starEach [] X.env := by rfl) (hpl : (backTo pos (starEach [] X.env)).any (·.1) = false := by rfl) :
    PS X (.Raise (some (.Call (.Name "Refused" p) [a] [] pos)) none pos2) (tRaiseRef C W ta) := ps_raise hc tk (pmk_ref T hr ha hg he hpl)
/-- e.code, e the exception that the suite holds (at a; its class cls, its dict d) -/
def tCode (C : Addr) (a : Addr) (cls : Value) (d : Option Addr) (te : TE) : TE := fun σ H Q => te σ H fun x H1 => x = .ref a ∧ cls = .ref C ∧ ∃ (dd : Addr) (v : V), d = some dd ∧ H1 dd = some (.xd [(("code" : Str), v)]) ∧ Q v H1
theorem pe_code {a : Addr} {oe : Obj} {cls : Value} {d : Option Addr} {pn : List (Addr × Obj)} {e : Expr} {te : TE} {pos : Pos} (T : PySem.RefX.RefTxt X.K X.mg C fI) (hz : Zc cls d oe) (hf : ∃ vs, oe.data = .fields vs) (he : PE (X.suite a ((a, oe) :: pn)) e te)
    (hb : attributeBase e "code" X.env (eval e X.env) = eval e X.env := by rfl) :
    PE (X.suite a ((a, oe) :: pn)) (.Attribute e "code" pos) (tCode C a cls d te) := by
  refine ⟨fun pins s σ H Q I h => ?_⟩
  refine attr_of hb (thn (he.run pins s σ H _ I h) fun u s1 hh => ?_)
  obtain ⟨x, H1, I1, rx, ex, ec, dd, v, ed, ea, q⟩ := hh
  subst ex
  obtain rfl : u = Value.ref a := rx
  subst ec
  subst ed
  obtain ⟨ha, _⟩ := I1.pin (a, oe) (List.mem_append_left _ List.mem_cons_self)
  obtain ⟨vs, hd⟩ := hf
  have hx : ObjOk X.prog X.w H1 s1.heap dd (.xd [(("code" : Str), v)]) := I1.hok dd _ ea
  obtain ⟨mA, hns, hr⟩ := hx
  obtain ⟨od, ho, hl⟩ := lookIn_ns hns
  have l : List.lookup ("code" : Str) [(("code" : Str), v)] = some v := by simp [List.lookup]
  obtain ⟨u, hu, ru⟩ := RelO.some_of (v := v) (o := mA "code") (by rw [← l]; exact hr "code")
  have J : PySem.W.InstAt s1.heap a oe C (some od) := ⟨ha, hz.1, by unfold PySem.W.notCls; rw [hd] <;> rfl, by rw [hz.2]; exact ho⟩
  exact HandSPX.exc_get I1.kIn J T.ga T.gg T.exC (PySem.W.findObj_own T.hdC T.noN rfl (by rw [hl, hu])) (handed_of ru) ⟨v, H1, I1.tok _, ru, q⟩
end
end L2

namespace L2
open PySem PySem.Spec PyProof.Rows
/-- an if whose test is known -/
theorem if_true_of {c : Bool} {A B : Prop} (hc : c = true) (h : A) : if c = true then A else B := by
  rw [if_pos hc]
  exact h
theorem if_false_of {c : Bool} {A B : Prop} (hc : c = false) (h : B) : if c = true then A else B := by
  rw [hc, if_neg Bool.false_ne_true]
  exact h
end L2
/-! # Carried over: the plain mathematics. What the program's loops keep, in the specification's own words; no program in sight -/
namespace Co
open Kp266 (digitsOf digits cross carried places timesOf times ways mostCarries likeAfter okP isPrime)

/-! ### digits -/
theorem dg_zero (p : Nat) : ∀ f, digitsOf p f 0 = []
  | 0 => rfl
  | f + 1 => by simp [digitsOf]
theorem dg_pos {p f m : Nat} (h : 0 < m) : digitsOf p (f + 1) m = m % p :: digitsOf p f (m / p) := by
  show (if m = 0 then [] else m % p :: digitsOf p f (m / p)) = _
  rw [if_neg (by omega)]
theorem dg_len (p : Nat) : ∀ f m, (digitsOf p f m).length ≤ f
  | 0, _ => Nat.le_refl _
  | f + 1, m => by
    by_cases h : m = 0
    · rw [h, dg_zero]
      exact Nat.zero_le _
    · rw [dg_pos (Nat.pos_of_ne_zero h), List.length_cons]
      exact Nat.succ_le_succ (dg_len p f (m / p))
theorem div_lt {p f m : Nat} (hp : 2 ≤ p) (h : m < 2 ^ (f + 1)) : m / p < 2 ^ f := by
  have h1 : m / p ≤ m / 2 := Nat.div_le_div_left hp (by decide)
  have h2 : m / 2 < 2 ^ f := by
    rw [Nat.div_lt_iff_lt_mul (by decide)]
    rw [Nat.pow_succ] at h
    exact h
  exact Nat.lt_of_le_of_lt h1 h2
theorem fuel_pos {f m : Nat} (h : m < 2 ^ f) (h0 : 0 < m) : ∃ g, f = g + 1 := by
  cases f with
  | zero =>
    have : m < 1 := h
    omega
  | succ g => exact ⟨g, rfl⟩
/-- digits_of's loop: m is left of n, acc is found -/
def Dg (p n m : Nat) (acc : List Nat) : Prop := ∃ f, m < 2 ^ f ∧ acc ++ digitsOf p f m = digits p n
theorem Dg.start {p n : Nat} (h : n < 2 ^ 24) : Dg p n n [] := ⟨24, h, rfl⟩
theorem Dg.step {p n m : Nat} {acc : List Nat} (hp : 2 ≤ p) (h0 : 0 < m) (h : Dg p n m acc) : Dg p n (m / p) (acc ++ [m % p]) := by
  obtain ⟨f, hf, e⟩ := h
  obtain ⟨g, rfl⟩ := fuel_pos hf h0
  refine ⟨g, div_lt hp hf, ?_⟩
  rw [← e, dg_pos h0, List.append_assoc]
  rfl
theorem Dg.done {p n : Nat} {acc : List Nat} (h : Dg p n 0 acc) : acc = digits p n := by
  obtain ⟨f, _, e⟩ := h
  rw [← e, dg_zero, List.append_nil]
theorem digits_len (p n : Nat) : (digits p n).length ≤ 24 := dg_len p 24 n
theorem Dg.len {p n m : Nat} {acc : List Nat} (h : Dg p n m acc) : acc.length ≤ 24 := by
  obtain ⟨f, _, e⟩ := h
  have z := digits_len p n
  rw [← e, List.length_append] at z
  omega

/-! ### the cross sum -/
theorem foldl_sum : ∀ (l : List Nat) (a : Nat), l.foldl (fun (a d : Nat) => a + d) a = a + l.sum
  | [], a => rfl
  | x :: l, a => by
    rw [List.foldl_cons, foldl_sum l, List.sum_cons]
    omega
theorem ints_sum : ∀ (l : List Nat), (Kp266.ints l).sum = ((l.sum : Nat) : Int)
  | [] => rfl
  | x :: l => by
    show (x : Int) + (Kp266.ints l).sum = _
    rw [ints_sum l, List.sum_cons]
    omega
theorem cross_sum (p n : Nat) : (Kp266.ints (digits p n)).sum = (cross p n : Int) := by
  rw [ints_sum]
  show _ = ((Kp266.sum (digits p n) : Nat) : Int)
  unfold Kp266.sum
  rw [foldl_sum, Nat.zero_add]

/-! ### primes -/
theorem okP_out {n : Nat} (h : ¬ (2 ≤ n ∧ n ≤ 99)) : okP n = false := by
  unfold okP isPrime
  by_cases h2 : 2 ≤ n
  · have : ¬ n < 100 := by omega
    simp [this]
  · simp [h2]
theorem okP_bounds {n : Nat} (h : okP n = true) : 2 ≤ n ∧ n ≤ 99 := by
  by_cases c : 2 ≤ n ∧ n ≤ 99
  · exact c
  · rw [okP_out c] at h
    cases h
/-- what the comprehension of is_prime holds -/
def tests (n : Nat) (k : Nat) : List Bool := (List.range k).map fun (i : Nat) => !decide ((n : Int) % (2 + (i : Int)) = 0)
theorem tests_succ (n k : Nat) : tests n (k + 1) = tests n k ++ [!decide ((n : Int) % (2 + (k : Int)) = 0)] := by
  unfold tests
  rw [List.range_succ, List.map_append]
  rfl
theorem tests_len (n k : Nat) : (tests n k).length = k := by simp [tests]
theorem okP_in {n : Nat} (h : 2 ≤ n ∧ n ≤ 99) : (tests n (n - 2)).all id = okP n := by
  have e : okP n = (List.range n).all fun d => decide (d < 2) || n % d != 0 := by
    unfold okP isPrime
    simp [h.1, show n < 100 by omega]
  rw [e, Bool.eq_iff_iff]
  unfold tests
  rw [List.all_map]
  simp only [List.all_eq_true, List.mem_range]
  constructor
  · intro q d hd
    by_cases h2 : d < 2
    · simp [h2]
    · have z := q (d - 2) (by omega)
      have c : (2 : Int) + ((d - 2 : Nat) : Int) = (d : Int) := by omega
      simp only [Function.comp, id, c] at z
      have w : ¬ ((n : Int) % (d : Int) = 0) := by simpa using z
      have w2 : n % d ≠ 0 := by
        intro e
        apply w
        have : ((n % d : Nat) : Int) = 0 := by rw [e]; rfl
        simpa using this
      simp [h2, w2]
  · intro q i hi
    have z := q (2 + i) (by omega)
    simp only [Function.comp, id]
    have w : n % (2 + i) ≠ 0 := by
      simpa [show ¬ (2 + i < 2) by omega] using z
    have w2 : ¬ ((n : Int) % (2 + (i : Int)) = 0) := by
      intro e
      apply w
      have : ((n % (2 + i) : Nat) : Int) = 0 := by
        rw [Int.natCast_emod]
        simpa using e
      omega
    simp [w2]

/-! ### how often it divides -/
def Td (p n m k : Nat) : Prop := ∃ f, 0 < m ∧ m < 2 ^ f ∧ k + timesOf p f m = times p n
theorem Td.start {p n : Nat} (h0 : 0 < n) (h : n < 2 ^ 24) : Td p n n 0 := ⟨24, h0, h, Nat.zero_add _⟩
theorem Td.step {p n m k : Nat} (hp : 2 ≤ p) (hm : m % p = 0) (h : Td p n m k) : Td p n (m / p) (k + 1) := by
  obtain ⟨f, h0, hf, e⟩ := h
  obtain ⟨g, rfl⟩ := fuel_pos hf h0
  refine ⟨g, ?_, div_lt hp hf, ?_⟩
  · have z := Nat.div_add_mod m p
    rw [hm, Nat.add_zero] at z
    by_cases c : m / p = 0
    · rw [c, Nat.mul_zero] at z
      omega
    · exact Nat.pos_of_ne_zero c
  · rw [← e]
    show _ = k + (if m = 0 then 0 else if m % p = 0 then timesOf p g (m / p) + 1 else 0)
    rw [if_neg (by omega), if_pos hm]
    omega
theorem Td.done {p n m k : Nat} (hm : m % p ≠ 0) (h : Td p n m k) : k = times p n := by
  obtain ⟨f, h0, hf, e⟩ := h
  obtain ⟨g, rfl⟩ := fuel_pos hf h0
  rw [← e]
  show _ = k + (if m = 0 then 0 else if m % p = 0 then timesOf p g (m / p) + 1 else 0)
  rw [if_neg (by omega), if_neg hm]
  rfl
theorem Td.pos {p n m k : Nat} (h : Td p n m k) : 0 < m := h.choose_spec.1
theorem Td.less {p m : Nat} (hp : 2 ≤ p) (h0 : 0 < m) : m / p < m := Nat.div_lt_self h0 hp

/-! ### the next alike -/
theorem find_first {α : Type} {q : α → Bool} : ∀ {l : List α} {i : Nat} {x : α}, l[i]? = some x → q x = true → (∀ j y, j < i → l[j]? = some y → q y = false) → l.find? q = some x
  | [], i, x, h, _, _ => by simp at h
  | a :: l, 0, x, h, hq, _ => by
    have e : a = x := Option.some.inj h
    subst e
    simp [hq]
  | a :: l, i + 1, x, h, hq, hn => by
    have ha : q a = false := hn 0 a (Nat.succ_pos _) rfl
    rw [List.find?_cons, ha]
    exact find_first (l := l) (i := i) h hq fun j y hj e => hn (j + 1) y (Nat.succ_lt_succ hj) e
theorem like_some {p n i : Nat} (hi : i < 2000) (hn : ∀ j, j < i → cross p (n + 1 + j) ≠ cross p n) (h : cross p (n + 1 + i) = cross p n) : likeAfter p n = some (n + 1 + i) := by
  unfold likeAfter
  refine find_first (i := i) (x := n + 1 + i) ?_ (by simp [h]) fun j y hj e => ?_
  · rw [List.getElem?_map, List.getElem?_range hi]
    rfl
  · rw [List.getElem?_map, List.getElem?_range (by omega)] at e
    have e' : n + 1 + j = y := Option.some.inj e
    rw [← e']
    simpa using hn j hj
theorem like_none {p n : Nat} (hn : ∀ j, j < 2000 → cross p (n + 1 + j) ≠ cross p n) : likeAfter p n = none := by
  unfold likeAfter
  rw [List.find?_eq_none]
  intro x hx
  rw [List.mem_map] at hx
  obtain ⟨j, hj, e⟩ := hx
  have z := hn j (List.mem_range.mp hj)
  rw [← e]
  simpa using z

/-! ### where it's carried -/
/-- places_carried's loop ahead of the place i: the digits from there on are those of x and y; c is carried, acc is found -/
def Cr (p a b i c : Nat) (acc : List Nat) : Prop := ∃ f x y, x < 2 ^ f ∧ y < 2 ^ f ∧ (digits p a).drop i = digitsOf p f x ∧ (digits p b).drop i = digitsOf p f y ∧ acc ++ carried p f i c x y = places p a b
theorem Cr.start {p a b : Nat} (ha : a < 2 ^ 24) (hb : b < 2 ^ 24) : Cr p a b 0 0 [] := ⟨24, a, b, ha, hb, rfl, rfl, rfl⟩
theorem carried_nil (p i c : Nat) : ∀ f, carried p f i c 0 0 = []
  | 0 => rfl
  | f + 1 => by simp [carried]
theorem drop_getD {l r : List Nat} {i : Nat} (h : l.drop i = r) : l.getD i 0 = r.getD 0 0 := by
  rw [← h, List.getD_eq_getElem?_getD, List.getD_eq_getElem?_getD, List.getElem?_drop]
  rfl
theorem dg_head {p f x : Nat} : (digitsOf p (f + 1) x).getD 0 0 = x % p := by
  by_cases h : x = 0
  · rw [h, dg_zero, Nat.zero_mod]
    rfl
  · rw [dg_pos (Nat.pos_of_ne_zero h)]
    rfl
theorem dg_tail {p f x : Nat} : (digitsOf p (f + 1) x).drop 1 = digitsOf p f (x / p) := by
  by_cases h : x = 0
  · rw [h, dg_zero, Nat.zero_div, dg_zero]
    rfl
  · rw [dg_pos (Nat.pos_of_ne_zero h)]
    rfl
theorem drop_more {l : List Nat} {i : Nat} : l.drop (i + 1) = (l.drop i).drop 1 := by rw [List.drop_drop]
/-- one turn: the sum at the place i -/
def at_ (p a b i c : Nat) : Nat := (digits p a).getD i 0 + (digits p b).getD i 0 + c
theorem Cr.live {p a b i c : Nat} {acc : List Nat} (hi : i < max (digits p a).length (digits p b).length) (h : Cr p a b i c acc) :
    ∃ f x y, ¬ (x = 0 ∧ y = 0) ∧ x < 2 ^ (f + 1) ∧ y < 2 ^ (f + 1) ∧ (digits p a).drop i = digitsOf p (f + 1) x ∧ (digits p b).drop i = digitsOf p (f + 1) y ∧ acc ++ carried p (f + 1) i c x y = places p a b := by
  obtain ⟨f, x, y, hx, hy, ea, eb, e⟩ := h
  have hn : ¬ (x = 0 ∧ y = 0) := by
    rintro ⟨rfl, rfl⟩
    rw [dg_zero] at ea eb
    have z1 : (digits p a).length ≤ i := List.drop_eq_nil_iff.mp ea
    have z2 : (digits p b).length ≤ i := List.drop_eq_nil_iff.mp eb
    omega
  cases f with
  | zero =>
    have : x < 1 := hx
    have : y < 1 := hy
    exact absurd ⟨by omega, by omega⟩ hn
  | succ g => exact ⟨g, x, y, hn, hx, hy, ea, eb, e⟩
theorem Cr.next {p a b i c : Nat} {acc : List Nat} (hp : 2 ≤ p) (hi : i < max (digits p a).length (digits p b).length) (h : Cr p a b i c acc) :
    (p ≤ at_ p a b i c → Cr p a b (i + 1) 1 (acc ++ [i])) ∧ (¬ p ≤ at_ p a b i c → Cr p a b (i + 1) 0 acc) := by
  obtain ⟨f, x, y, hn, hx, hy, ea, eb, e⟩ := h.live hi
  have es : at_ p a b i c = x % p + y % p + c := by
    unfold at_
    rw [drop_getD ea, drop_getD eb, dg_head, dg_head]
  have ta : (digits p a).drop (i + 1) = digitsOf p f (x / p) := by rw [drop_more, ea, dg_tail]
  have tb : (digits p b).drop (i + 1) = digitsOf p f (y / p) := by rw [drop_more, eb, dg_tail]
  have ec : carried p (f + 1) i c x y = if p ≤ x % p + y % p + c then i :: carried p f (i + 1) 1 (x / p) (y / p) else carried p f (i + 1) 0 (x / p) (y / p) := by
    show (if x = 0 ∧ y = 0 then [] else _) = _
    rw [if_neg hn]
  rw [es]
  refine ⟨fun q => ⟨f, x / p, y / p, div_lt hp hx, div_lt hp hy, ta, tb, ?_⟩, fun q => ⟨f, x / p, y / p, div_lt hp hx, div_lt hp hy, ta, tb, ?_⟩⟩
  · rw [← e, ec, if_pos q, List.append_assoc]
    rfl
  · rw [← e, ec, if_neg q]
theorem Cr.done {p a b i c : Nat} {acc : List Nat} (hi : max (digits p a).length (digits p b).length ≤ i) (h : Cr p a b i c acc) : acc = places p a b := by
  obtain ⟨f, x, y, hx, hy, ea, eb, e⟩ := h
  have za : (digits p a).drop i = [] := List.drop_eq_nil_iff.mpr (by omega)
  have zb : (digits p b).drop i = [] := List.drop_eq_nil_iff.mpr (by omega)
  have nil : ∀ {x : Nat}, x < 2 ^ f → [] = digitsOf p f x → x = 0 := fun {x} h1 h2 => by
    by_cases c : x = 0
    · exact c
    · obtain ⟨g, rfl⟩ := fuel_pos h1 (Nat.pos_of_ne_zero c)
      rw [dg_pos (Nat.pos_of_ne_zero c)] at h2
      cases h2
  have x0 := nil hx (za.symm.trans ea)
  have y0 := nil hy (zb.symm.trans eb)
  rw [x0, y0, carried_nil, List.append_nil] at e
  exact e
theorem carried_len (p : Nat) : ∀ f i c x y, (carried p f i c x y).length ≤ f
  | 0, _, _, _, _ => Nat.le_refl _
  | f + 1, i, c, x, y => by
    show (if x = 0 ∧ y = 0 then [] else if p ≤ x % p + y % p + c then i :: carried p f (i + 1) 1 (x / p) (y / p) else carried p f (i + 1) 0 (x / p) (y / p)).length ≤ f + 1
    by_cases h : x = 0 ∧ y = 0
    · rw [if_pos h]
      exact Nat.zero_le _
    · rw [if_neg h]
      by_cases q : p ≤ x % p + y % p + c
      · rw [if_pos q, List.length_cons]
        exact Nat.succ_le_succ (carried_len p f _ _ _ _)
      · rw [if_neg q]
        exact Nat.le_succ_of_le (carried_len p f _ _ _ _)
theorem places_len (p a b : Nat) : (places p a b).length ≤ 24 := carried_len p 24 0 0 a b
theorem Cr.len {p a b i c : Nat} {acc : List Nat} (h : Cr p a b i c acc) : acc.length ≤ 24 := by
  obtain ⟨f, x, y, _, _, _, _, e⟩ := h
  have z := places_len p a b
  rw [← e, List.length_append] at z
  omega

/-! ### parts -/
def count (p n a : Nat) : Nat := (places p a (n - a)).length
def counts (p n k : Nat) : List Nat := (List.range k).map (count p n)
theorem counts_succ (p n k : Nat) : counts p n (k + 1) = counts p n k ++ [count p n k] := by
  unfold counts
  rw [List.range_succ, List.map_append]
  rfl
theorem counts_len (p n k : Nat) : (counts p n k).length = k := by simp [counts]
theorem counts_get {p n k i : Nat} (h : i < k) : (counts p n k)[i]? = some (count p n i) := by
  unfold counts
  rw [List.getElem?_map, List.getElem?_range h]
  rfl
def parts (p n c k : Nat) : List Nat := (List.range k).filter fun a => count p n a == c
theorem parts_yes {p n c k : Nat} (h : count p n k = c) : parts p n c (k + 1) = parts p n c k ++ [k] := by
  unfold parts
  rw [List.range_succ, List.filter_append]
  simp [h]
theorem parts_no {p n c k : Nat} (h : count p n k ≠ c) : parts p n c (k + 1) = parts p n c k := by
  unfold parts
  rw [List.range_succ, List.filter_append]
  simp [h]
theorem parts_len (p n c k : Nat) : (parts p n c k).length ≤ k := by
  have z := List.length_filter_le (fun a => count p n a == c) (List.range k)
  rw [List.length_range] at z
  exact z
theorem parts_ways (p n c : Nat) : parts p n c (n + 1) = ways p n c := rfl
theorem foldl_max (g : Nat → Nat) : ∀ (l : List Nat) (m : Nat), m ≤ l.foldl (fun (m a : Nat) => max m (g a)) m ∧ (∀ a ∈ l, g a ≤ l.foldl (fun (m a : Nat) => max m (g a)) m) ∧ (l.foldl (fun (m a : Nat) => max m (g a)) m = m ∨ ∃ a ∈ l, l.foldl (fun (m a : Nat) => max m (g a)) m = g a)
  | [], m => ⟨Nat.le_refl _, (fun _ h => nomatch h), .inl rfl⟩
  | x :: l, m => by
    obtain ⟨h1, h2, h3⟩ := foldl_max g l (max m (g x))
    rw [List.foldl_cons]
    refine ⟨by omega, fun a ha => ?_, ?_⟩
    · rcases List.mem_cons.mp ha with rfl | ha
      · omega
      · exact h2 a ha
    · rcases h3 with h3 | ⟨a, ha, h3⟩
      · rw [h3]
        by_cases c : m ≤ g x
        · exact .inr ⟨x, List.mem_cons_self, by omega⟩
        · exact .inl (by omega)
      · exact .inr ⟨a, List.mem_cons_of_mem _ ha, h3⟩
theorem most_is {p n : Nat} {m : Int} (h : m ∈ Kp266.ints (counts p n (n + 1))) (hle : ∀ y, y ∈ Kp266.ints (counts p n (n + 1)) → y ≤ m) : m = (mostCarries p n : Int) := by
  obtain ⟨h1, h2, h3⟩ := foldl_max (count p n) (List.range (n + 1)) 0
  have e : mostCarries p n = (List.range (n + 1)).foldl (fun (m a : Nat) => max m (count p n a)) 0 := rfl
  rw [← e] at h1 h2 h3
  have mem : ∀ a, a < n + 1 → ((count p n a : Nat) : Int) ∈ Kp266.ints (counts p n (n + 1)) := fun a ha => by
    unfold Kp266.ints counts
    rw [List.map_map]
    exact List.mem_map.mpr ⟨a, List.mem_range.mpr ha, rfl⟩
  obtain ⟨z, hz, ez⟩ := List.mem_map.mp h
  obtain ⟨a, ha, ea⟩ := List.mem_map.mp hz
  have u1 : z ≤ mostCarries p n := ea ▸ h2 a ha
  have u2 : (mostCarries p n : Int) ≤ m := by
    rcases h3 with h3 | ⟨b, hb, h3⟩
    · rw [h3]
      have := hle _ (mem 0 (by omega))
      omega
    · rw [h3]
      exact hle _ (mem b (List.mem_range.mp hb))
  have ez' : (z : Int) = m := ez
  omega
end Co


/-! # Carried over: the calls on the line, and what's answered to each, in the specification's own words; no program in sight -/
namespace Co
open Kp266 (digits cross places times ways mostCarries likeAfter okP MOST)
open Kp266Neutral (asked1 callOf natural)

/-! ### a call by its number and its numbers -/
def num : Kp266.Call → Nat
  | .begin_ _ => 0
  | .prime _ => 1
  | .digits _ => 2
  | .cross _ => 3
  | .carries _ _ => 4
  | .places _ _ => 5
  | .three _ _ _ => 6
  | .times _ => 7
  | .next _ => 8
  | .ways _ _ => 9
  | .most _ => 10
  | .like _ => 11
  | .from_ _ _ _ _ => 12
  | .without _ _ => 13
  | .told => 14
def args : Kp266.Call → List Nat
  | .begin_ a => [a]
  | .prime a => [a]
  | .digits a => [a]
  | .cross a => [a]
  | .carries a b => [a, b]
  | .places a b => [a, b]
  | .three a b c => [a, b, c]
  | .times a => [a]
  | .next a => [a]
  | .ways a b => [a, b]
  | .most a => [a]
  | .like a => [a]
  | .from_ a b c d => [a, b, c, d]
  | .without a b => [a, b]
  | .told => []
/-- what's answered: the prime behind it, the numbers -/
def reply (st : Option Nat) (x : Kp266.Call) : Option Nat × List Int := ((Kp266.step st x).1, (Kp266.step st x).2.num :: (Kp266.step st x).2.nums)
theorem step_is {st : Option Nat} {c : List (List Int)} {x : Kp266.Call} (h : callOf c = some x) : Kp266Neutral.step st c = reply st x := by
  unfold Kp266Neutral.step
  rw [h]
  rfl
theorem nat_of {a : Int} (h : natural a = true) : (a.toNat : Int) = a := by
  unfold natural at h
  rw [Bool.and_eq_true, decide_eq_true_eq] at h
  exact Int.toNat_of_nonneg h.1
theorem asked_call {q : Int} {l : List Int} (h : asked1 [q :: l] = true) : ∃ x, callOf [q :: l] = some x ∧ q = (num x : Int) ∧ l = Kp266.ints (args x) := by
  unfold asked1 at h
  split at h <;> rename_i e
  all_goals try (cases h; done)
  all_goals
    obtain ⟨e1, e2⟩ := List.cons.inj (List.cons.inj e).1
    subst e1 e2
  all_goals try simp only [Bool.and_eq_true] at h
  · exact ⟨_, rfl, rfl, by simp [args, Kp266.ints, nat_of h]⟩
  · exact ⟨_, rfl, rfl, by simp [args, Kp266.ints, nat_of h]⟩
  · exact ⟨_, rfl, rfl, by simp [args, Kp266.ints, nat_of h]⟩
  · exact ⟨_, rfl, rfl, by simp [args, Kp266.ints, nat_of h]⟩
  · exact ⟨_, rfl, rfl, by simp [args, Kp266.ints, nat_of h.1, nat_of h.2]⟩
  · exact ⟨_, rfl, rfl, by simp [args, Kp266.ints, nat_of h.1, nat_of h.2]⟩
  · exact ⟨_, rfl, rfl, by simp [args, Kp266.ints, nat_of h.1, nat_of h.2.1, nat_of h.2.2]⟩
  · exact ⟨_, rfl, rfl, by simp [args, Kp266.ints, nat_of h]⟩
  · exact ⟨_, rfl, rfl, by simp [args, Kp266.ints, nat_of h]⟩
  · exact ⟨_, rfl, rfl, by simp [args, Kp266.ints, nat_of h.1, nat_of h.2]⟩
  · exact ⟨_, rfl, rfl, by simp [args, Kp266.ints, nat_of h]⟩
  · exact ⟨_, rfl, rfl, by simp [args, Kp266.ints, nat_of h]⟩
  · exact ⟨_, rfl, rfl, by simp [args, Kp266.ints, nat_of h.1, nat_of h.2.1, nat_of h.2.2.1, nat_of h.2.2.2]⟩
  · exact ⟨_, rfl, rfl, by simp [args, Kp266.ints, nat_of h.1, nat_of h.2]⟩
  · exact ⟨.told, rfl, rfl, rfl⟩

/-! ### the line -/
theorem whole_id (c : List (List Int)) : PyKp266.whole c = c := by
  unfold PyKp266.whole
  split <;> rfl
theorem map_whole (cs : List (List (List Int))) : cs.map PyKp266.whole = cs := by
  have e : PyKp266.whole = id := funext whole_id
  rw [e, List.map_id]
/-- how many numbers a call has -/
def most : List Nat := [1, 1, 1, 1, 2, 2, 3, 1, 1, 2, 1, 1, 4, 2, 0]
theorem most_at (x : Kp266.Call) : most[num x]? = some (args x).length := by cases x <;> rfl
theorem num_lt (x : Kp266.Call) : num x < 15 := by cases x <;> simp [num]
theorem shape_num (x : Kp266.Call) : PyKp266.shape (num x : Int) = some ((args x).length, 0) := by cases x <;> rfl
theorem ite_k {c : Prop} [Decidable c] {m n k : Nat} {e : Option (Nat × Nat)} (h : (if c then some (m, 0) else e) = some (n, k)) (h' : e = some (n, k) → k = 0) : k = 0 := by
  by_cases hc : c
  · rw [if_pos hc] at h
    cases h
    rfl
  · rw [if_neg hc] at h
    exact h' h
theorem shape_none {q : Int} {n k : Nat} (h : PyKp266.shape q = some (n, k)) : k = 0 := by
  unfold PyKp266.shape at h
  repeat (refine ite_k h fun h => ?_)
  cases h
theorem call_one {q : Int} {r : List Int} {c : List (List Int)} {t : List Int} (h : PyFlat.call PyKp266.shape (q :: r) = some (c, t)) :
    ∃ n, n ≤ r.length ∧ c = [q :: r.take n] ∧ t = r.drop n := by
  change (match PyKp266.shape q with | none => none | some (n, k) => if r.length < n then none else match PyFlat.rows k (r.drop n) with | none => none | some (xs, t) => some ((q :: r.take n) :: xs, t)) = some (c, t) at h
  cases hs : PyKp266.shape q with
  | none =>
    rw [hs] at h
    cases h
  | some y =>
    obtain ⟨n, k⟩ := y
    rw [hs] at h
    cases shape_none hs
    dsimp only at h
    by_cases hl : r.length < n
    · rw [if_pos hl] at h
      cases h
    · rw [if_neg hl] at h
      cases h
      exact ⟨n, by omega, rfl, rfl⟩
/-- the calls that are left: r; what's answered so far: out; all together: total -/
def Rest (total : List Int) (st : Option Nat) (r out : List Int) : Prop := ∃ f cs, PyFlat.calls PyKp266.shape f r = some cs ∧ (∀ c ∈ cs, asked1 c = true) ∧ out ++ PyFlat.told (PyFlat.played Kp266Neutral.step st cs) = total
theorem Rest.start {l : List Int} (h : PyKp266.answers_asked l = true) : Rest (PyKp266.answers l) none l [] ∧ (PyKp266.answers l).length ≤ 10000000 := by
  unfold PyKp266.answers_asked at h
  split at h
  · cases h
  · rename_i raw e
    rw [map_whole] at h
    simp only [Bool.and_eq_true] at h
    obtain ⟨⟨⟨⟨h1, h2⟩, h3⟩, h4⟩, h5⟩ := h
    refine ⟨⟨l.length, raw, e, fun c hc => ?_, ?_⟩, by simpa [PyFlat.short] using h5⟩
    · unfold Kp266Neutral.asked at h4
      simp only [Bool.and_eq_true, List.all_eq_true] at h4
      exact h4.2.2 c hc
    · unfold PyKp266.answers PyKp266.calls
      rw [e]
      show [] ++ _ = PyFlat.told (PyFlat.played Kp266Neutral.step Kp266Neutral.start (raw.map PyKp266.whole))
      rw [map_whole]
      rfl
theorem Rest.done {total out : List Int} {st : Option Nat} (h : Rest total st [] out) : out = total := by
  obtain ⟨f, cs, e, _, q⟩ := h
  have e' : cs = [] := by
    cases f <;> exact (Option.some.inj e).symm
  subst e'
  rw [← q]
  exact (List.append_nil out).symm
theorem Rest.step {total out r : List Int} {q : Int} {st : Option Nat} (h : Rest total st (q :: r) out) : ∃ x, q = (num x : Int) ∧ (args x).length ≤ r.length ∧ r.take (args x).length = Kp266.ints (args x) ∧
    Rest total (reply st x).1 (r.drop (args x).length) (out ++ (((reply st x).2.length : Nat) : Int) :: (reply st x).2) := by
  obtain ⟨f, cs, e, ha, w⟩ := h
  cases f with
  | zero => cases e
  | succ f =>
    unfold PyFlat.calls at e
    split at e
    · cases e
    · rename_i c t hc
      split at e
      · cases e
      · rename_i cs' hcs
        cases e
        obtain ⟨n, hn, rfl, rfl⟩ := call_one hc
        obtain ⟨x, hx, rfl, hl⟩ := asked_call (ha _ List.mem_cons_self)
        have en : n = (args x).length := by
          have z := congrArg List.length hl
          rw [List.length_take, Nat.min_eq_left hn] at z
          rw [z]
          simp [Kp266.ints]
        subst en
        refine ⟨x, rfl, hn, hl, f, cs', hcs, fun c hc => ha c (List.mem_cons_of_mem _ hc), ?_⟩
        rw [← w]
        show _ = out ++ PyFlat.told ((Kp266Neutral.step st _).2 :: PyFlat.played Kp266Neutral.step (Kp266Neutral.step st _).1 cs')
        rw [step_is hx]
        unfold PyFlat.told
        rw [List.flatMap_cons, List.append_assoc]
theorem Rest.len {total r out : List Int} {st : Option Nat} (h : Rest total st r out) : out.length ≤ total.length := by
  obtain ⟨f, cs, e, _, q⟩ := h
  rw [← q, List.length_append]
  omega

/-! ### what's answered to each -/
/-- the prime that's kept is one -/
def Good (st : Option Nat) : Prop := ∀ p, st = some p → okP p = true
theorem good_none : Good none := fun _ h => nomatch h
theorem good_some {p : Nat} (h : okP p = true) : Good (some p) := fun q e => by
  cases e
  exact h
section
variable {st : Option Nat} {p q n a b c d : Nat}
theorem re_begin (h : okP q = true) : reply st (.begin_ q) = (some q, [(q : Int)]) := by
  unfold reply Kp266.step
  simp only [h, if_true]
  rfl
theorem re_begin_no (h : okP q = false) : reply st (.begin_ q) = (st, [-22]) := by
  unfold reply Kp266.step
  simp only [h]
  rfl
theorem re_prime (h : okP q = true) : reply (some p) (.prime q) = (some q, [(p : Int)]) := by
  unfold reply Kp266.step
  simp only [h, if_true]
  rfl
theorem re_prime_no (h : okP q = false) : reply (some p) (.prime q) = (some p, [-22]) := by
  unfold reply Kp266.step
  simp only [h]
  rfl
theorem re_none {x : Kp266.Call} (h : num x ≠ 0) : reply none x = (none, [-11]) := by
  cases x <;> first | rfl | exact absurd rfl h
theorem re_told : reply (some p) .told = (some p, [(p : Int)]) := rfl
/-- a refusal: a condition that's true -/
theorem if_ans {c : Prop} [Decidable c] (h : c) {x y : Kp266.Ans} : (if c then x else y) = x := if_pos h
theorem re_digits (h : n ≤ MOST) : reply (some p) (.digits n) = (some p, ((digits p n).length : Int) :: Kp266.ints (digits p n)) := by
  show ((some p : Option Nat), (if MOST < n then Kp266.say (-22) else Kp266.tellAll (digits p n)).num :: (if MOST < n then Kp266.say (-22) else Kp266.tellAll (digits p n)).nums) = _
  rw [if_neg (Nat.not_lt.mpr h)]
  rfl
theorem re_cross (h : n ≤ MOST) : reply (some p) (.cross n) = (some p, [(cross p n : Int)]) := by
  show ((some p : Option Nat), (if MOST < n then Kp266.say (-22) else Kp266.say (cross p n : Int)).num :: (if MOST < n then Kp266.say (-22) else Kp266.say (cross p n : Int)).nums) = _
  rw [if_neg (Nat.not_lt.mpr h)]
  rfl
theorem re_carries (ha : a ≤ MOST) (hb : b ≤ MOST) : reply (some p) (.carries a b) = (some p, [((places p a b).length : Int)]) := by
  show ((some p : Option Nat), (if MOST < a ∨ MOST < b then Kp266.say (-22) else Kp266.say ((places p a b).length : Int)).num :: (if MOST < a ∨ MOST < b then Kp266.say (-22) else Kp266.say ((places p a b).length : Int)).nums) = _
  rw [if_neg (by omega)]
  rfl
theorem re_places (ha : a ≤ MOST) (hb : b ≤ MOST) : reply (some p) (.places a b) = (some p, ((places p a b).length : Int) :: Kp266.ints (places p a b)) := by
  show ((some p : Option Nat), (if MOST < a ∨ MOST < b then Kp266.say (-22) else Kp266.tellAll (places p a b)).num :: (if MOST < a ∨ MOST < b then Kp266.say (-22) else Kp266.tellAll (places p a b)).nums) = _
  rw [if_neg (by omega)]
  rfl
theorem re_three (ha : a ≤ MOST) (hb : b ≤ MOST) (hc : c ≤ MOST) : reply (some p) (.three a b c) = (some p, [(((places p a b).length + (places p (a + b) c).length : Nat) : Int), ((places p a b).length : Int), ((places p b c).length : Int)]) := by
  show ((some p : Option Nat), (if MOST < a ∨ MOST < b ∨ MOST < c then Kp266.say (-22) else _).num :: (if MOST < a ∨ MOST < b ∨ MOST < c then Kp266.say (-22) else _).nums) = _
  rw [if_neg (by omega)]
  rfl
theorem re_times (h0 : 0 < n) (h : n ≤ MOST) : reply (some p) (.times n) = (some p, [(times p n : Int)]) := by
  show ((some p : Option Nat), (if n = 0 ∨ MOST < n then Kp266.say (-22) else Kp266.say (times p n : Int)).num :: (if n = 0 ∨ MOST < n then Kp266.say (-22) else Kp266.say (times p n : Int)).nums) = _
  rw [if_neg (by omega)]
  rfl
theorem re_times_no (h0 : ¬ 0 < n) : reply (some p) (.times n) = (some p, [-22]) := by
  show ((some p : Option Nat), (if n = 0 ∨ MOST < n then Kp266.say (-22) else Kp266.say (times p n : Int)).num :: (if n = 0 ∨ MOST < n then Kp266.say (-22) else Kp266.say (times p n : Int)).nums) = _
  rw [if_pos (by omega)]
  rfl
theorem re_next (h : n < MOST) : reply (some p) (.next n) = (some p, [(cross p (n + 1) : Int), ((places p n 1).length : Int)]) := by
  show ((some p : Option Nat), (if MOST ≤ n then Kp266.say (-22) else _).num :: (if MOST ≤ n then Kp266.say (-22) else _).nums) = _
  rw [if_neg (by omega)]
  rfl
theorem re_next_no (h : ¬ n < MOST) : reply (some p) (.next n) = (some p, [-22]) := by
  show ((some p : Option Nat), (if MOST ≤ n then Kp266.say (-22) else _).num :: (if MOST ≤ n then Kp266.say (-22) else _).nums) = _
  rw [if_pos (by omega)]
  rfl
theorem re_ways (h : n ≤ 60) : reply (some p) (.ways n c) = (some p, ((ways p n c).length : Int) :: Kp266.ints (ways p n c)) := by
  show ((some p : Option Nat), (if 60 < n then Kp266.say (-22) else Kp266.tellAll (ways p n c)).num :: (if 60 < n then Kp266.say (-22) else Kp266.tellAll (ways p n c)).nums) = _
  rw [if_neg (by omega)]
  rfl
theorem re_ways_no (h : ¬ n ≤ 60) : reply (some p) (.ways n c) = (some p, [-22]) := by
  show ((some p : Option Nat), (if 60 < n then Kp266.say (-22) else Kp266.tellAll (ways p n c)).num :: (if 60 < n then Kp266.say (-22) else Kp266.tellAll (ways p n c)).nums) = _
  rw [if_pos (by omega)]
  rfl
theorem re_most (h : n ≤ 60) : reply (some p) (.most n) = (some p, [(mostCarries p n : Int)]) := by
  show ((some p : Option Nat), (if 60 < n then Kp266.say (-22) else Kp266.say (mostCarries p n : Int)).num :: (if 60 < n then Kp266.say (-22) else Kp266.say (mostCarries p n : Int)).nums) = _
  rw [if_neg (by omega)]
  rfl
theorem re_most_no (h : ¬ n ≤ 60) : reply (some p) (.most n) = (some p, [-22]) := by
  show ((some p : Option Nat), (if 60 < n then Kp266.say (-22) else Kp266.say (mostCarries p n : Int)).num :: (if 60 < n then Kp266.say (-22) else Kp266.say (mostCarries p n : Int)).nums) = _
  rw [if_pos (by omega)]
  rfl
theorem re_like_no (h : ¬ n ≤ 1000) : reply (some p) (.like n) = (some p, [-22]) := by
  unfold reply Kp266.step
  simp only [if_pos (show 1000 < n by omega)]
  rfl
theorem re_like {m : Nat} (h : n ≤ 1000) (e : likeAfter p n = some m) : reply (some p) (.like n) = (some p, [(m : Int)]) := by
  unfold reply Kp266.step
  simp only [if_neg (show ¬ 1000 < n by omega), e]
  rfl
theorem re_like_none (h : n ≤ 1000) (e : likeAfter p n = none) : reply (some p) (.like n) = (some p, [-33]) := by
  unfold reply Kp266.step
  simp only [if_neg (show ¬ 1000 < n by omega), e]
  rfl
theorem re_from (h : a < p ∧ b < p ∧ c < p ∧ d < p) : reply (some p) (.from_ a b c d) = (some p, [((a + p * (b + p * (c + p * d)) : Nat) : Int)]) := by
  show ((some p : Option Nat), (if p ≤ a ∨ p ≤ b ∨ p ≤ c ∨ p ≤ d then Kp266.say (-22) else _).num :: (if p ≤ a ∨ p ≤ b ∨ p ≤ c ∨ p ≤ d then Kp266.say (-22) else _).nums) = _
  rw [if_neg (by omega)]
  rfl
theorem re_from_no (h : ¬ (a < p ∧ b < p ∧ c < p ∧ d < p)) : reply (some p) (.from_ a b c d) = (some p, [-22]) := by
  show ((some p : Option Nat), (if p ≤ a ∨ p ≤ b ∨ p ≤ c ∨ p ≤ d then Kp266.say (-22) else _).num :: (if p ≤ a ∨ p ≤ b ∨ p ≤ c ∨ p ≤ d then Kp266.say (-22) else _).nums) = _
  rw [if_pos (by omega)]
  rfl
theorem re_without (ha : a ≤ MOST) (hb : b ≤ MOST) (h : b ≤ a) : reply (some p) (.without a b) = (some p, [((a - b : Nat) : Int), ((places p (a - b) b).length : Int)]) := by
  show ((some p : Option Nat), (if MOST < a ∨ MOST < b then Kp266.say (-22) else if a < b then Kp266.say (-33) else _).num :: (if MOST < a ∨ MOST < b then Kp266.say (-22) else if a < b then Kp266.say (-33) else _).nums) = _
  rw [if_neg (by omega), if_neg (by omega)]
  rfl
theorem re_without_no (ha : a ≤ MOST) (hb : b ≤ MOST) (h : ¬ b ≤ a) : reply (some p) (.without a b) = (some p, [-33]) := by
  show ((some p : Option Nat), (if MOST < a ∨ MOST < b then Kp266.say (-22) else if a < b then Kp266.say (-33) else _).num :: (if MOST < a ∨ MOST < b then Kp266.say (-22) else if a < b then Kp266.say (-33) else _).nums) = _
  rw [if_neg (by omega), if_pos (by omega)]
  rfl
end
/-- the calls whose numbers are at most a million -/
def plain (x : Kp266.Call) : Bool := [2, 3, 4, 5, 6, 7, 8, 13].contains (num x)
/-- of the first k numbers: each at most a million -/
def within (l : List Nat) : List Bool := l.map fun (n : Nat) => decide ((n : Int) ≤ 1000000)
theorem within_all {l : List Nat} : (within l).all id = true ↔ ∀ n ∈ l, n ≤ MOST := by
  unfold within
  rw [List.all_map, List.all_eq_true]
  constructor
  · intro h n hn
    have z := h n hn
    simp only [Function.comp, id, decide_eq_true_eq] at z
    show n ≤ 1000000
    omega
  · intro h n hn
    have z : n ≤ 1000000 := h n hn
    simp only [Function.comp, id, decide_eq_true_eq]
    omega
theorem re_plain_no {p : Nat} {x : Kp266.Call} (hx : plain x = true) (h : ¬ ∀ n ∈ args x, n ≤ MOST) : reply (some p) x = (some p, [-22]) := by
  cases x <;> first | (cases hx; done) | skip
  all_goals simp only [args, List.mem_cons, List.not_mem_nil, or_false, forall_eq_or_imp, forall_eq] at h
  all_goals unfold reply Kp266.step
  all_goals dsimp only
  · rw [if_pos (by omega)]
    rfl
  · rw [if_pos (by omega)]
    rfl
  · rw [if_pos (by omega)]
    rfl
  · rw [if_pos (by omega)]
    rfl
  · rw [if_pos (by omega)]
    rfl
  · rw [if_pos (by omega)]
    rfl
  · rw [if_pos (by omega)]
    rfl
  · rw [if_pos (by omega)]
    rfl
theorem reply_good {st : Option Nat} {x : Kp266.Call} (h : Good st) : Good (reply st x).1 := by
  cases x with
  | begin_ q =>
    cases c : okP q with
    | true => rw [re_begin c]; exact good_some c
    | false => rw [re_begin_no c]; exact h
  | prime q =>
    cases st with
    | none => exact good_none
    | some p =>
      cases c : okP q with
      | true => rw [re_prime c]; exact good_some c
      | false => rw [re_prime_no c]; exact h
  | _ =>
    cases st with
    | none => exact good_none
    | some p => exact h
end Co

namespace Co
open PySem PySem.Spec PyProof.Rows L2
open Kp266 (okP)
/-! ### the text by places -/
def top (i : Nat) : Stmt := PySem.Challenge.pw_carriedover_s01_answers.main.body.getD i (.Pass ⟨0, 0, 0, 0⟩)
/-- a list of numbers, as values -/
def vs_ (l : List Nat) : List V := (Kp266.ints l).map V.int
theorem vs_len (l : List Nat) : (vs_ l).length = l.length := by simp [vs_, Kp266.ints]
theorem vs_app (l m : List Nat) : vs_ (l ++ m) = vs_ l ++ vs_ m := by simp [vs_, Kp266.ints]
theorem vs_get {l : List Nat} {i n : Nat} (h : l[i]? = some n) : (vs_ l)[i]? = some (V.int (n : Int)) := by
  unfold vs_ Kp266.ints
  rw [List.map_map, List.getElem?_map, h]
  rfl
theorem vs_get_of {l : List Nat} {i : Nat} {v : V} (h : (vs_ l)[i]? = some v) : ∃ n, l[i]? = some n ∧ v = V.int (n : Int) := by
  unfold vs_ Kp266.ints at h
  rw [List.map_map, List.getElem?_map] at h
  cases e : l[i]? with
  | none =>
    rw [e] at h
    cases h
  | some n =>
    rw [e] at h
    exact ⟨n, rfl, (Option.some.inj h).symm⟩
theorem lin {n : Nat} (h : n ≤ 16777216) : n ≤ sizeLine := by
  rw [sizeLine_eq]
  exact h
theorem lin' {n : Nat} (h : n < 16777216) : n < sizeLine := by
  rw [sizeLine_eq]
  exact h
/-- a new object leaves what was tracked -/
theorem same_new {H : Hp} {a : Addr} {o : HO} (n : H a = none) : Same H (upd H a o) := fun b u e => by
  rw [upd_ne (ne_of_none e n)]
  exact e
/-- an object that wasn't tracked at first may change -/
theorem _root_.L2.Same.put {H H1 : Hp} {a : Addr} {o : HO} (s : Same H H1) (n : H a = none) : Same H (upd H1 a o) := fun b u e => by
  rw [upd_ne (ne_of_none e n)]
  exact s b u e
/-- what stands at an address of another's -/
theorem at_put {H : Hp} {a b : Addr} {o u : HO} (h : H b = some u) (n : b ≠ a) : upd H a o b = some u := by
  rw [upd_ne n]
  exact h
theorem if_true_of {c : Bool} {A B : Prop} (hc : c = true) (h : A) : if c = true then A else B := by
  rw [if_pos hc]
  exact h
theorem if_false_of {c : Bool} {A B : Prop} (hc : c = false) (h : B) : if c = true then A else B := by
  rw [hc, if_neg Bool.false_ne_true]
  exact h
/-- a def that the module holds by a name, with its promise -/
structure Gd (P : Program) (w : World) (K : PySem.W.Frag) (mg : Str → Option Value) (base : Heap) (x : Str) (CX : CXT) (k : Nat) (ps : List Str) (sp : Sp) : Prop where
  ex : ∃ (f : Addr) (fd : FuncData), mg x = some (.ref f) ∧ PySem.W.keepIn K (.ref f) = true ∧ Binds K fd ps [] ∧ FnOk P w K mg base CX k f fd ps sp
/-- a method of the class at C, with its promise -/
structure Md (P : Program) (w : World) (K : PySem.W.Frag) (mg : Str → Option Value) (base : Heap) (C : Addr) (m : Str) (k : Nat) (ps : List Str) (sp : Sp) : Prop where
  ex : ∃ (f : Addr) (fd : FuncData), Meth K C m f ∧ Binds K fd ps [] ∧ FnOk P w K mg base (L2.CX P w) k f fd ps sp
/-- what the top has written: the classes, the constants, the built-ins that stand as they are -/
structure Txt (K : PySem.W.Frag) (mg : Str → Option Value) (C CF fI : Addr) : Prop where
  low : PySem.RefX.RefTxt K mg CF fI
  cl : Cls K C
  nK : NoAttr K C "kept"
  gC : mg "Desk" = some (.ref C)
  cMP : ∃ t, mg "MOST_PRIME" = some (.int 99 t)
  cNP : ∃ t, mg "NO_PRIME" = some (.int (-11) t)
  cOB : ∃ t, mg "OUT_OF_BOUNDS" = some (.int (-22) t)
  cNS : ∃ t, mg "NONE_SUCH" = some (.int (-33) t)
  cMN : ∃ t, mg "MOST_NUMBER" = some (.int 1000000 t)
  cMT : ∃ t, mg "MOST_PARTED" = some (.int 60 t)
  cML : ∃ t, mg "MOST_LIKE" = some (.int 1000 t)
  cMB : ∃ t, mg "MANY_BEHIND" = some (.int 2000 t)
  cNU : ∃ a, mg "NUMBERS" = some (.ref a) ∧ ∀ H, SqT K H a (vs_ most)
  bAll : mg "all" = none
  bRange : mg "range" = none
  bReversed : mg "reversed" = none
  bSum : mg "sum" = none
  bLen : mg "len" = none
  bMax : mg "max" = none
  bInt : mg "int" = none
  bEnum : mg "enumerate" = none
end Co

namespace Co
open PySem PySem.Spec PyProof.Rows L2
open Kp266 (okP digits cross)
abbrev sDigits : Stmt := top 3
theorem scDigits : FnScope ["number", "prime", "found"] ["number", "prime"] (defScope sDigits) := ⟨rfl, rfl, rfl, by decide +kernel, rfl, by decide +kernel, by decide +kernel⟩
/-- digits_of(number, prime): a new list of the digits -/
def spDigits : Sp := fun vs H Q _ => ∃ (n p : Nat), vs = [.int n, .int p] ∧ 2 ≤ p ∧ p ≤ 99 ∧ n < 2 ^ 24 ∧
  ∀ H' q, Same H H' → H q = none → H' q = some (.lst (vs_ (digits p n))) → Q (.ref q) H'
section
variable {P : Program} {w : World} {K : PySem.W.Frag} {mg : Str → Option Value} {base : Heap} {C CF fI : Addr}
theorem ok_digits {f : Addr} {fd : FuncData} (F : Fun K "digits_of" "digits_of" sDigits f fd) : FnOk P w K mg base CX0 1 f fd ["number", "prime"] spDigits := by
  refine F.ok scDigits (fun vs H Q E h => ?_) (fun cdv A outer s H vs Q E hr h => ?_)
  · obtain ⟨n, p, rfl, _⟩ := h
    rfl
  obtain ⟨n, p, rfl, hp, hp9, hn, k⟩ := h
  refine ⟨_, pss_cons (ps_set (i := 2) scDigits.nd rfl (.inl rfl) (pe_lst pa_nil))
    (pss_cons (ps_while PassesOwn.never (pt_cmpR op_gt (pv 0) pe_int (nomark _))
      (pss_cons (ps_expr (pe_bm PySem.F.plainAttrs_list PySem.F.slot_list_append PySem.F.type_list_append mt_append (pv 2) (pa_cons (pe_op op_mod (pv 0) (pv 1)) pa_nil)))
        (pss_one (ps_set (i := 0) scDigits.nd rfl (.inl rfl) (pe_op op_fdiv (pv 0) (pv 1))))))
    (pss_one (ps_ret (pv 2)))), ?_⟩
  refine ⟨lin (by decide), fun l hl => ?_⟩
  refine ⟨fun m σ H1 => ∃ acc, σ = [some (.int (m : Int)), some (.int (p : Int)), some (.ref l)] ∧ Same H H1 ∧ H1 l = some (.lst (vs_ acc)) ∧ Dg p n m acc,
    ⟨n, [], rfl, same_new hl, upd_same, Dg.start hn⟩, ?_⟩
  rintro m σ H1 ⟨acc, rfl, s1, h1, d⟩
  refine ⟨_, rfl, _, _, rfl, rfl, _, rfl, ?_⟩
  by_cases c : 0 < m
  · refine if_true_of (decide_eq_true (show (0 : Int) < m by omega)) ?_
    refine ⟨fun σ' H' => ∃ acc, σ' = [some (.int ((m / p : Nat) : Int)), some (.int (p : Int)), some (.ref l)] ∧ Same H H' ∧ H' l = some (.lst (vs_ acc)) ∧ Dg p n (m / p) acc,
      fun σ' H' w => ⟨m / p, Td.less hp c, w⟩, ?_⟩
    refine ⟨_, rfl, .inl ⟨rfl, _, SqL.of h1⟩, _, rfl, _, rfl, _, _, rfl, rfl, (show (0 : Int) < p by omega), l, _, _, rfl, rfl, h1, ?_, ?_⟩
    · rw [vs_len]
      exact lin' (Nat.lt_of_le_of_lt d.len (by decide))
    refine ⟨_, rfl, _, rfl, _, _, rfl, rfl, ⟨show (0 : Int) < p by omega, show (p : Int) < 1073741824 by omega⟩, ?_⟩
    refine ⟨acc ++ [m % p], rfl, s1.put hl, ?_, d.step hp c⟩
    rw [upd_same, vs_app]
    rfl
  · refine if_false_of (decide_eq_false (show ¬ (0 : Int) < m by omega)) ?_
    refine ⟨_, rfl, ?_⟩
    have e : m = 0 := by omega
    subst e
    have e2 := d.done
    subst e2
    exact k H1 l s1 hl h1
end
end Co

namespace Co
open PySem PySem.Spec PyProof.Rows L2
open Kp266 (okP digits cross likeAfter)
/-- digits read from the last one on -/
def horner (p : Nat) (l : List Nat) : Nat := l.foldr (fun d acc => acc * p + d) 0
theorem horner_four (p a b c d : Nat) : horner p [a, b, c, d] = a + p * (b + p * (c + p * d)) := by
  show (((0 * p + d) * p + c) * p + b) * p + a = _
  rw [Nat.zero_mul, Nat.zero_add, Nat.mul_comm d p, Nat.add_comm (p * d) c, Nat.mul_comm _ p, Nat.add_comm _ b, Nat.mul_comm _ p, Nat.add_comm _ a]
abbrev sIsPrime : Stmt := top 2
abbrev sNumber : Stmt := top 4
abbrev sCross : Stmt := top 6
abbrev sTimes : Stmt := top 7
abbrev sLike : Stmt := top 8
theorem scIsPrime : FnScope ["number", "other"] ["number"] (defScope sIsPrime) := ⟨rfl, rfl, rfl, by decide +kernel, rfl, by decide +kernel, by decide +kernel⟩
theorem scNumber : FnScope ["digits", "prime", "found", "digit"] ["digits", "prime"] (defScope sNumber) := ⟨rfl, rfl, rfl, by decide +kernel, rfl, by decide +kernel, by decide +kernel⟩
theorem scCross : FnScope ["number", "prime"] ["number", "prime"] (defScope sCross) := ⟨rfl, rfl, rfl, by decide +kernel, rfl, by decide +kernel, by decide +kernel⟩
theorem scTimes : FnScope ["number", "prime", "found"] ["number", "prime"] (defScope sTimes) := ⟨rfl, rfl, rfl, by decide +kernel, rfl, by decide +kernel, by decide +kernel⟩
theorem scLike : FnScope ["number", "prime", "many", "due", "other"] ["number", "prime", "many"] (defScope sLike) := ⟨rfl, rfl, rfl, by decide +kernel, rfl, by decide +kernel, by decide +kernel⟩
def spIsPrime : Sp := fun vs H Q _ => ∃ (n : Nat), vs = [.int n] ∧ ∀ H', Same H H' → Q (.bl (okP n)) H'
def spNumber (K : PySem.W.Frag) : Sp := fun vs H Q _ => ∃ (a : Addr) (l : List Nat) (p : Nat), vs = [.ref a, .int p] ∧ SqL K H a (vs_ l) ∧ p ≤ 99 ∧ Q (.int ((horner p l : Nat) : Int)) H
def spCross : Sp := fun vs H Q _ => ∃ (n p : Nat), vs = [.int n, .int p] ∧ 2 ≤ p ∧ p ≤ 99 ∧ n < 2 ^ 24 ∧ ∀ H', Same H H' → Q (.int (cross p n : Int)) H'
def spTimes : Sp := fun vs H Q _ => ∃ (n p : Nat), vs = [.int n, .int p] ∧ 2 ≤ p ∧ p ≤ 99 ∧ 0 < n ∧ n < 2 ^ 24 ∧ Q (.int (Kp266.times p n : Int)) H
def optV : Option Nat → V
  | none => .non
  | some m => .int (m : Int)
def spLike : Sp := fun vs H Q _ => ∃ (n p : Nat), vs = [.int n, .int p, .int 2000] ∧ 2 ≤ p ∧ p ≤ 99 ∧ n ≤ 1000 ∧ ∀ H', Same H H' → Q (optV (likeAfter p n)) H'
section
variable {P : Program} {w : World} {K : PySem.W.Frag} {mg : Str → Option Value} {base : Heap} {C CF fI : Addr}
theorem ok_isprime {f : Addr} {fd : FuncData} (F : Fun K "is_prime" "is_prime" sIsPrime f fd) (T : Txt K mg C CF fI) : FnOk P w K mg base CX0 1 f fd ["number"] spIsPrime := by
  refine F.ok scIsPrime (fun vs H Q E h => ?_) (fun cdv A outer s H vs Q E hr h => ?_)
  · obtain ⟨n, rfl, _⟩ := h
    rfl
  obtain ⟨n, rfl, k⟩ := h
  obtain ⟨tMP, gMP⟩ := T.cMP
  refine ⟨_, pss_cons (ps_if (pt_not (pt_chain op_le op_le pe_int (pv 0) (pe_glob (v := .int 99) rfl gMP ⟨_, rfl⟩))) (pss_one (ps_ret pe_bl)) pss_nil)
    (pss_one (ps_ret (pe_callB (cr_all rfl) (by rfl) T.bAll (by decide +kernel) (pa_cons (pe_lc (own := [("other", 1)]) (g := gName 1) (tt := tYes) rfl scIsPrime.nd (pi_range2 rfl T.bRange (pa_cons pe_int (pa_cons (pv 0) pa_nil)))
      (blkOk_by (own := [("other", 1)]) (N := ["number", "other"]) (sc := defScope sIsPrime) (by decide +kernel)) (fun _ _ _ _ _ => pg_name (i := 1) scIsPrime.nd rfl (Or.inl rfl)) (fun _ _ _ _ _ => pts_nil)
      (fun _ _ _ _ _ => pe_cmp (pc_neI (pe_op op_mod (pv 0) (pv 1)) pe_int) rfl)) pa_nil)))), ?_⟩
  refine ⟨_, rfl, _, _, rfl, rfl, _, rfl, ?_⟩
  by_cases c1 : 2 ≤ n
  · refine if_true_of (decide_eq_true (show (2 : Int) ≤ n by omega)) ?_
    refine ⟨_, _, rfl, rfl, _, rfl, ?_⟩
    by_cases c2 : n ≤ 99
    · refine if_false_of (by simp; omega) ?_
      refine ⟨_, rfl, 2, (n : Int), rfl, ⟨by decide, by decide, by omega, by omega⟩, fun D hD => ?_⟩
      have e : ((n : Int) - 2).toNat = n - 2 := by omega
      rw [e]
      refine lc_range (lo := 2) (n := n - 2) (fun i H1 => Same H H1 ∧ H1 D = some (.lst ((tests n i).map V.bl))) ⟨same_new hD, upd_same⟩ ?_ ?_
      · rintro i H1 hi ⟨s1, h1⟩
        refine ⟨rfl, _, rfl, _, rfl, _, _, rfl, rfl, (show (0 : Int) < 2 + (i : Int) by omega), _, _, rfl, rfl, _, h1, ?_, s1.put hD, ?_⟩
        · rw [List.length_map, tests_len]
          exact lin' (by omega)
        · rw [upd_same, tests_succ, List.map_append]
          rfl
      · rintro H1 ⟨s1, h1⟩
        refine ⟨D, _, rfl, SqL.of h1, ?_⟩
        rw [okP_in ⟨c1, c2⟩]
        exact k H1 s1
    · refine if_true_of (by simp; omega) ?_
      show Q (.bl false) H
      rw [← okP_out (n := n) (by omega)]
      exact k H (Same.refl H)
  · refine if_false_of (decide_eq_false (show ¬ (2 : Int) ≤ n by omega)) ?_
    refine ⟨_, rfl, ?_⟩
    refine if_true_of rfl ?_
    show Q (.bl false) H
    rw [← okP_out (n := n) (by omega)]
    exact k H (Same.refl H)
theorem ok_number {f : Addr} {fd : FuncData} (F : Fun K "number_of" "number_of" sNumber f fd) (T : Txt K mg C CF fI) : FnOk P w K mg base CX0 1 f fd ["digits", "prime"] (spNumber K) := by
  refine F.ok scNumber (fun vs H Q E h => ?_) (fun cdv A outer s H vs Q E hr h => ?_)
  · obtain ⟨a, l, p, rfl, _⟩ := h
    rfl
  obtain ⟨a, l, p, rfl, hl, hp, k⟩ := h
  refine ⟨_, pss_cons (ps_set (i := 2) scNumber.nd rfl (.inl rfl) pe_int)
    (pss_cons (ps_for PassesOwn.never rfl (pi_reversed rfl T.bReversed (pa_cons (pv 0) pa_nil)) (pg_name (i := 3) scNumber.nd rfl (Or.inl rfl))
      (pss_one (ps_set (i := 2) scNumber.nd rfl (.inl rfl) (pe_op op_add (pe_op op_mul (pv 2) (pv 1)) (pv 3)))))
    (pss_one (ps_ret (pv 2)))), ?_⟩
  refine ⟨_, rfl, a, _, rfl, hl, ?_⟩
  refine for_it walk_rev (fun i σ H1 => H1 = H ∧ ∃ v, σ = [some (.ref a), some (.int (p : Int)), some (.int ((horner p (l.drop (l.length - i)) : Nat) : Int)), v]) ⟨rfl, none, ?_⟩ (fun i σ H1 _ q => by rw [q.1]; exact hl) ?_ ?_
  · rw [Nat.sub_zero, List.drop_length]
    rfl
  · rintro i x σ H1 H2 hi ⟨rfl, v, rfl⟩ ⟨rfl, hx⟩
    obtain ⟨d, hd, rfl⟩ := vs_get_of hx
    rw [vs_len] at hi hd
    refine ⟨_, rfl, _, rfl, _, _, rfl, rfl, .inr ⟨show -(2 ^ 64) < (p : Int) by omega, show (p : Int) < 2 ^ 64 by omega⟩, _, rfl, _, _, rfl, rfl, rfl, some (.int (d : Int)), ?_⟩
    have e : l.drop (l.length - (i + 1)) = d :: l.drop (l.length - i) := by
      rw [show l.length - (i + 1) = l.length - 1 - i by omega, List.drop_eq_getElem_cons (by omega), show l.length - 1 - i + 1 = l.length - i by omega]
      congr 1
      rw [List.getElem?_eq_getElem (by omega)] at hd
      exact Option.some.inj hd
    rw [e]
    show _ = [_, _, some (V.int (((horner p (l.drop (l.length - i))) * p + d : Nat) : Int)), _]
    rw [Int.natCast_add, Int.natCast_mul]
    rfl
  · rintro σ H1 ⟨rfl, v, rfl⟩
    refine ⟨_, rfl, ?_⟩
    rw [vs_len, Nat.sub_self, List.drop_zero]
    exact k
theorem ok_cross {f : Addr} {fd : FuncData} (F : Fun K "cross_sum" "cross_sum" sCross f fd) (T : Txt K mg C CF fI) (D1 : Gd P w K mg base "digits_of" CX0 1 ["number", "prime"] spDigits) : FnOk P w K mg base CX0 2 f fd ["number", "prime"] spCross := by
  obtain ⟨f1, fd1, g1, k1, b1, G1⟩ := D1
  refine F.ok scCross (fun vs H Q E h => ?_) (fun cdv A outer s H vs Q E hr h => ?_)
  · obtain ⟨n, p, rfl, _⟩ := h
    rfl
  obtain ⟨n, p, rfl, hp, hp9, hn, k⟩ := h
  refine ⟨_, pss_one (ps_ret (pe_callB (cr_sum rfl) (by rfl) T.bSum (by decide +kernel) (pa_cons (pe_call G1 hr rfl g1 k1 b1 .nil pass0 (pa_cons (pv 0) (pa_cons (pv 1) pa_nil))) pa_nil))), ?_⟩
  refine ⟨_, rfl, _, rfl, n, p, rfl, hp, hp9, hn, fun H' q s1 hq h1 => ?_⟩
  refine ⟨q, _, rfl, SqL.of h1, ?_⟩
  rw [Co.cross_sum]
  exact k H' s1
theorem ok_times {f : Addr} {fd : FuncData} (F : Fun K "times_divided" "times_divided" sTimes f fd) : FnOk P w K mg base CX0 1 f fd ["number", "prime"] spTimes := by
  refine F.ok scTimes (fun vs H Q E h => ?_) (fun cdv A outer s H vs Q E hr h => ?_)
  · obtain ⟨n, p, rfl, _⟩ := h
    rfl
  obtain ⟨n, p, rfl, hp, hp9, hn0, hn, k⟩ := h
  refine ⟨_, pss_cons (ps_set (i := 2) scTimes.nd rfl (.inl rfl) pe_int)
    (pss_cons (ps_while PassesOwn.never (pt_cmp (pc_eqI (pe_op op_mod (pv 0) (pv 1)) pe_int))
      (pss_cons (ps_set (i := 0) scTimes.nd rfl (.inl rfl) (pe_op op_fdiv (pv 0) (pv 1))) (pss_one (ps_set (i := 2) scTimes.nd rfl (.inl rfl) (pe_op op_add (pv 2) pe_int)))))
    (pss_one (ps_ret (pv 2)))), ?_⟩
  refine ⟨fun m σ H1 => H1 = H ∧ ∃ c : Nat, σ = [some (.int (m : Int)), some (.int (p : Int)), some (.int (c : Int))] ∧ Td p n m c, ⟨n, rfl, 0, rfl, Td.start hn0 hn⟩, ?_⟩
  rintro m σ H1 ⟨rfl, c, rfl, d⟩
  refine ⟨_, rfl, _, rfl, _, _, rfl, rfl, (show (0 : Int) < p by omega), _, _, rfl, rfl, _, rfl, ?_⟩
  by_cases hm : m % p = 0
  · refine if_true_of (decide_eq_true (by rw [← Int.natCast_emod, hm]; rfl)) ?_
    refine ⟨fun σ' H' => H' = H1 ∧ ∃ c : Nat, σ' = [some (.int ((m / p : Nat) : Int)), some (.int (p : Int)), some (.int (c : Int))] ∧ Td p n (m / p) c, fun σ' H' q => ⟨m / p, Td.less hp d.pos, q⟩, ?_⟩
    refine ⟨_, rfl, _, rfl, _, _, rfl, rfl, ⟨show (0 : Int) < p by omega, show (p : Int) < 1073741824 by omega⟩, ?_⟩
    exact ⟨_, rfl, _, _, rfl, rfl, rfl, c + 1, rfl, d.step hp hm⟩
  · refine if_false_of (decide_eq_false (by rw [← Int.natCast_emod]; omega)) ?_
    refine ⟨_, rfl, ?_⟩
    rw [← d.done hm] at k
    exact k
theorem ok_like {f : Addr} {fd : FuncData} (F : Fun K "next_alike" "next_alike" sLike f fd) (T : Txt K mg C CF fI) (D1 : Gd P w K mg base "cross_sum" CX0 2 ["number", "prime"] spCross) : FnOk P w K mg base CX0 3 f fd ["number", "prime", "many"] spLike := by
  obtain ⟨f1, fd1, g1, k1, b1, G1⟩ := D1
  refine F.ok scLike (fun vs H Q E h => ?_) (fun cdv A outer s H vs Q E hr h => ?_)
  · obtain ⟨n, p, rfl, _⟩ := h
    rfl
  obtain ⟨n, p, rfl, hp, hp9, hn, k⟩ := h
  refine ⟨_, pss_cons (ps_set (i := 3) scLike.nd rfl (.inl rfl) (pe_call G1 hr rfl g1 k1 b1 .nil pass0 (pa_cons (pv 0) (pa_cons (pv 1) pa_nil))))
    (pss_cons (ps_for PassesOwn.never rfl (pi_range2 rfl T.bRange (pa_cons (pe_op op_add (pv 0) pe_int) (pa_cons (pe_op op_add (pe_op op_add (pv 0) (pv 2)) pe_int) pa_nil))) (pg_name (i := 4) scLike.nd rfl (Or.inl rfl))
      (pss_one (ps_if (pt_cmp (pc_eqI (pe_call G1 hr rfl g1 k1 b1 .nil pass0 (pa_cons (pv 4) (pa_cons (pv 1) pa_nil))) (pv 3))) (pss_one (ps_ret (pv 4))) pss_nil)))
    (pss_one (ps_ret pe_non))), ?_⟩
  refine ⟨_, rfl, _, rfl, n, p, rfl, hp, hp9, by omega, fun H1 s1 => ?_⟩
  refine ⟨_, rfl, _, _, rfl, rfl, _, rfl, _, rfl, _, _, rfl, rfl, _, _, rfl, rfl, _, _, rfl, ⟨by omega, by omega, by omega, by omega⟩, ?_⟩
  have e : ((n : Int) + 2000 + 1 - ((n : Int) + 1)).toNat = 2000 := by omega
  rw [e]
  refine for_range (n := 2000) (fun i σ H2 => Same H H2 ∧ (∀ j, j < i → cross p (n + 1 + j) ≠ cross p n) ∧ ∃ v, σ = [some (.int (n : Int)), some (.int (p : Int)), some (.int 2000), some (.int (cross p n : Int)), v]) ⟨s1, (fun j hj => absurd hj (Nat.not_lt_zero _)), none, rfl⟩ ?_ ?_
  · rintro i σ H2 hi ⟨s2, hj, v, rfl⟩
    refine ⟨_, rfl, _, rfl, n + 1 + i, p, by rw [Int.natCast_add, Int.natCast_add]; rfl, hp, hp9, by omega, fun H3 s3 => ?_⟩
    refine ⟨_, rfl, _, _, rfl, rfl, _, rfl, ?_⟩
    by_cases c : cross p (n + 1 + i) = cross p n
    · refine if_true_of (decide_eq_true (by rw [c])) ?_
      refine ⟨_, rfl, ?_⟩
      have q := k H3 (s2.trans s3)
      rw [like_some hi hj c] at q
      have e2 : ((n + 1 + i : Nat) : Int) = (n : Int) + 1 + (i : Int) := by omega
      rw [← e2]
      exact q
    · refine if_false_of (decide_eq_false (by omega)) ?_
      refine ⟨s2.trans s3, fun j hj2 => ?_, _, rfl⟩
      by_cases c2 : j = i
      · rw [c2]
        exact c
      · exact hj j (by omega)
  · rintro σ H2 ⟨s2, hj, v, rfl⟩
    have q := k H2 s2
    rw [like_none hj] at q
    exact q
end
end Co

namespace Co
open PySem PySem.Spec PyProof.Rows L2
open Kp266 (okP digits cross places ways)
abbrev sDigitAt : Stmt := top 10
abbrev sPlaces : Stmt := top 11
abbrev sTimesC : Stmt := top 12
abbrev sCounts : Stmt := top 13
abbrev sParts : Stmt := top 14
theorem scDigitAt : FnScope ["digits", "place"] ["digits", "place"] (defScope sDigitAt) := ⟨rfl, rfl, rfl, by decide +kernel, rfl, by decide +kernel, by decide +kernel⟩
theorem scPlaces : FnScope ["one", "other", "prime", "first", "second", "found", "carry", "place"] ["one", "other", "prime"] (defScope sPlaces) := ⟨rfl, rfl, rfl, by decide +kernel, rfl, by decide +kernel, by decide +kernel⟩
theorem scTimesC : FnScope ["one", "other", "prime"] ["one", "other", "prime"] (defScope sTimesC) := ⟨rfl, rfl, rfl, by decide +kernel, rfl, by decide +kernel, by decide +kernel⟩
theorem scCounts : FnScope ["number", "prime", "part"] ["number", "prime"] (defScope sCounts) := ⟨rfl, rfl, rfl, by decide +kernel, rfl, by decide +kernel, by decide +kernel⟩
theorem scParts : FnScope ["number", "times", "prime", "part", "count"] ["number", "times", "prime"] (defScope sParts) := ⟨rfl, rfl, rfl, by decide +kernel, rfl, by decide +kernel, by decide +kernel⟩
def spDigitAt (K : PySem.W.Frag) : Sp := fun vs H Q _ => ∃ (a : Addr) (l : List Nat) (i : Nat), vs = [.ref a, .int i] ∧ SqL K H a (vs_ l) ∧ Q (.int ((l.getD i 0 : Nat) : Int)) H
def spPlaces : Sp := fun vs H Q _ => ∃ (a b p : Nat), vs = [.int a, .int b, .int p] ∧ 2 ≤ p ∧ p ≤ 99 ∧ a < 2 ^ 24 ∧ b < 2 ^ 24 ∧
  ∀ H' q, Same H H' → H q = none → H' q = some (.lst (vs_ (places p a b))) → Q (.ref q) H'
def spTimesC : Sp := fun vs H Q _ => ∃ (a b p : Nat), vs = [.int a, .int b, .int p] ∧ 2 ≤ p ∧ p ≤ 99 ∧ a < 2 ^ 24 ∧ b < 2 ^ 24 ∧ ∀ H', Same H H' → Q (.int ((places p a b).length : Int)) H'
def spCounts : Sp := fun vs H Q _ => ∃ (n p : Nat), vs = [.int n, .int p] ∧ 2 ≤ p ∧ p ≤ 99 ∧ n ≤ 60 ∧
  ∀ H' q, Same H H' → H q = none → H' q = some (.lst (vs_ (counts p n (n + 1)))) → Q (.ref q) H'
def spParts : Sp := fun vs H Q _ => ∃ (n c p : Nat), vs = [.int n, .int c, .int p] ∧ 2 ≤ p ∧ p ≤ 99 ∧ n ≤ 60 ∧
  ∀ H' q, Same H H' → H q = none → H' q = some (.lst (vs_ (ways p n c))) → Q (.ref q) H'
theorem getD_get {l : List Nat} {i : Nat} (h : i < l.length) : l[i]? = some (l.getD i 0) := by
  rw [List.getD_eq_getElem?_getD, List.getElem?_eq_getElem h]
  rfl
theorem getD_out {l : List Nat} {i : Nat} (h : ¬ i < l.length) : l.getD i 0 = 0 := by
  rw [List.getD_eq_getElem?_getD, List.getElem?_eq_none (by omega)]
  rfl
section
variable {P : Program} {w : World} {K : PySem.W.Frag} {mg : Str → Option Value} {base : Heap} {C CF fI : Addr}
theorem ok_digitAt {f : Addr} {fd : FuncData} (F : Fun K "digit_at" "digit_at" sDigitAt f fd) (T : Txt K mg C CF fI) : FnOk P w K mg base CX0 1 f fd ["digits", "place"] (spDigitAt K) := by
  refine F.ok scDigitAt (fun vs H Q E h => ?_) (fun cdv A outer s H vs Q E hr h => ?_)
  · obtain ⟨a, l, i, rfl, _⟩ := h
    rfl
  obtain ⟨a, l, i, rfl, hl, k⟩ := h
  refine ⟨_, pss_one (ps_ret (pe_ifExp (pt_cmpR op_lt (pv 1) (pe_callB call_len_seq (by rfl) T.bLen PySem.boot_len (pa_cons (pv 0) pa_nil)) (nomark _)) (pe_ix ix_list (pv 0) (pv 1) (fun _ _ => rfl)) pe_int)), ?_⟩
  refine ⟨_, rfl, _, rfl, a, _, rfl, .inl hl, _, _, rfl, rfl, _, rfl, ?_⟩
  rw [vs_len]
  by_cases c : i < l.length
  · refine if_true_of (decide_eq_true (by omega)) ?_
    exact ⟨_, rfl, _, rfl, a, _, _, _, rfl, rfl, hl, atI_nat (vs_get (getD_get c)), k⟩
  · refine if_false_of (decide_eq_false (by omega)) ?_
    rw [getD_out c] at k
    exact k
theorem ok_places {f : Addr} {fd : FuncData} (F : Fun K "places_carried" "places_carried" sPlaces f fd) (T : Txt K mg C CF fI) (D1 : Gd P w K mg base "digits_of" CX0 1 ["number", "prime"] spDigits)
    (D2 : Gd P w K mg base "digit_at" CX0 1 ["digits", "place"] (spDigitAt K)) : FnOk P w K mg base CX0 2 f fd ["one", "other", "prime"] spPlaces := by
  obtain ⟨f1, fd1, g1, k1, b1, G1⟩ := D1
  obtain ⟨f2, fd2, g2, k2, b2, G2⟩ := D2
  refine F.ok scPlaces (fun vs H Q E h => ?_) (fun cdv A outer s H vs Q E hr h => ?_)
  · obtain ⟨a, b, p, rfl, _⟩ := h
    rfl
  obtain ⟨a, b, p, rfl, hp, hp9, ha, hb, k⟩ := h
  refine ⟨_, pss_cons (ps_set (i := 3) scPlaces.nd rfl (.inl rfl) (pe_call G1 hr rfl g1 k1 b1 .nil pass0 (pa_cons (pv 0) (pa_cons (pv 2) pa_nil))))
    (pss_cons (ps_set (i := 4) scPlaces.nd rfl (.inl rfl) (pe_call G1 hr rfl g1 k1 b1 .nil pass0 (pa_cons (pv 1) (pa_cons (pv 2) pa_nil))))
    (pss_cons (ps_set (i := 5) scPlaces.nd rfl (.inl rfl) (pe_lst pa_nil))
    (pss_cons (ps_set (i := 6) scPlaces.nd rfl (.inl rfl) pe_int)
    (pss_cons (ps_for PassesOwn.never rfl (pi_range1 rfl T.bRange (pa_cons (pe_callB (call_max2 rfl) (by rfl) T.bMax (by decide +kernel)
        (pa_cons (pe_callB call_len_seq (by rfl) T.bLen PySem.boot_len (pa_cons (pv 3) pa_nil)) (pa_cons (pe_callB call_len_seq (by rfl) T.bLen PySem.boot_len (pa_cons (pv 4) pa_nil)) pa_nil))) pa_nil)) (pg_name (i := 7) scPlaces.nd rfl (Or.inl rfl))
      (pss_cons (ps_set (i := 6) scPlaces.nd rfl (.inl rfl) (pe_callTy call_int1 (by rfl) T.bInt (by decide +kernel)
          (pa_cons (pe_cmpR op_ge (pe_op op_add (pe_op op_add (pe_call G2 hr rfl g2 k2 b2 .nil pass0 (pa_cons (pv 3) (pa_cons (pv 7) pa_nil))) (pe_call G2 hr rfl g2 k2 b2 .nil pass0 (pa_cons (pv 4) (pa_cons (pv 7) pa_nil)))) (pv 6)) (pv 2) (nomark _)) pa_nil)))
      (pss_one (ps_if (pt_cmp (pc_eqI (pv 6) pe_int))
        (pss_one (ps_expr (pe_bm PySem.F.plainAttrs_list PySem.F.slot_list_append PySem.F.type_list_append mt_append (pv 5) (pa_cons (pv 7) pa_nil)))) pss_nil))))
    (pss_one (ps_ret (pv 5))))))), ?_⟩
  refine ⟨_, rfl, _, rfl, a, p, rfl, hp, hp9, ha, fun H1 q1 s1 n1 h1 => ?_⟩
  refine ⟨_, rfl, _, rfl, b, p, rfl, hp, hp9, hb, fun H2 q2 s2 n2 h2 => ?_⟩
  refine ⟨lin (by decide), fun l hl => ?_⟩
  have e1 : H2 q1 = some (.lst (vs_ (digits p a))) := s2 _ _ h1
  have sq1 : ∀ {H' : Hp}, Same H2 H' → SqL K H' q1 (vs_ (digits p a)) := fun s => SqL.of (s _ _ e1)
  have sq2 : ∀ {H' : Hp}, Same H2 H' → SqL K H' q2 (vs_ (digits p b)) := fun s => SqL.of (s _ _ h2)
  have s3 : Same H2 (upd H2 l (.lst [])) := same_new hl
  have lenA := digits_len p a
  have lenB := digits_len p b
  refine ⟨_, rfl, q1, _, rfl, .inl (sq1 s3), _, rfl, q2, _, rfl, .inl (sq2 s3), _, _, rfl, _, rfl, ?_⟩
  rw [vs_len, vs_len]
  have em : (if ((digits p b).length : Int) > ((digits p a).length : Int) then ((digits p b).length : Int) else ((digits p a).length : Int)) = ((max (digits p a).length (digits p b).length : Nat) : Int) := by
    split <;> omega
  rw [em]
  refine ⟨by omega, by omega, ?_⟩
  rw [Int.toNat_natCast]
  refine for_range (n := max (digits p a).length (digits p b).length) (fun i σ H3 => Same H2 H3 ∧ ∃ (acc : List Nat) (c : Nat) (v : Option V), H3 l = some (.lst (vs_ acc)) ∧ Cr p a b i c acc ∧
    σ = [some (.int (a : Int)), some (.int (b : Int)), some (.int (p : Int)), some (.ref q1), some (.ref q2), some (.ref l), some (.int (c : Int)), v]) ⟨s3, [], 0, none, upd_same, Cr.start ha hb, rfl⟩ ?_ ?_
  · rintro i σ H3 hi ⟨s4, acc, c, v, h3, cr, rfl⟩
    refine ⟨_, rfl, _, rfl, q1, _, i, by rw [Int.zero_add]; rfl, sq1 s4, _, rfl, _, rfl, q2, _, i, by rw [Int.zero_add]; rfl, sq2 s4, _, _, rfl, rfl, _, rfl, _, _, rfl, rfl, _, rfl, _, _, rfl, rfl, .inr ⟨_, rfl, ?_⟩⟩
    have nx := cr.next hp hi
    have es : ((digits p a).getD i 0 : Int) + ((digits p b).getD i 0 : Int) + (c : Int) = ((at_ p a b i c : Nat) : Int) := by
      unfold at_
      omega
    by_cases q : p ≤ at_ p a b i c
    · rw [decide_eq_true (show (p : Int) ≤ ((digits p a).getD i 0 : Int) + ((digits p b).getD i 0 : Int) + (c : Int) by omega)]
      refine ⟨_, rfl, _, _, rfl, rfl, _, rfl, ?_⟩
      refine if_true_of rfl ?_
      refine ⟨_, rfl, .inl ⟨rfl, _, SqL.of h3⟩, _, rfl, l, _, _, rfl, rfl, h3, ?_, ?_⟩
      · rw [vs_len]
        exact lin' (Nat.lt_of_le_of_lt cr.len (by decide))
      refine ⟨fun b o e => ?_, acc ++ [i], 1, _, ?_, nx.1 q, rfl⟩
      · rw [upd_ne (ne_of_none e hl)]
        exact s4 b o e
      · rw [upd_same, vs_app]
        show _ = some (HO.lst (vs_ acc ++ [V.int (i : Int)]))
        rw [Int.zero_add]
    · rw [decide_eq_false (show ¬ (p : Int) ≤ ((digits p a).getD i 0 : Int) + ((digits p b).getD i 0 : Int) + (c : Int) by omega)]
      refine ⟨_, rfl, _, _, rfl, rfl, _, rfl, ?_⟩
      refine if_false_of rfl ?_
      exact ⟨s4, acc, 0, _, h3, nx.2 q, rfl⟩
  · rintro σ H3 ⟨s4, acc, c, v, h3, cr, rfl⟩
    refine ⟨_, rfl, ?_⟩
    have e := cr.done (Nat.le_refl _)
    subst e
    exact k H3 l (s1.trans (s2.trans s4)) (s1.free (s2.free hl)) h3
theorem ok_timesC {f : Addr} {fd : FuncData} (F : Fun K "times_carried" "times_carried" sTimesC f fd) (T : Txt K mg C CF fI) (D1 : Gd P w K mg base "places_carried" CX0 2 ["one", "other", "prime"] spPlaces) :
    FnOk P w K mg base CX0 3 f fd ["one", "other", "prime"] spTimesC := by
  obtain ⟨f1, fd1, g1, k1, b1, G1⟩ := D1
  refine F.ok scTimesC (fun vs H Q E h => ?_) (fun cdv A outer s H vs Q E hr h => ?_)
  · obtain ⟨a, b, p, rfl, _⟩ := h
    rfl
  obtain ⟨a, b, p, rfl, hp, hp9, ha, hb, k⟩ := h
  refine ⟨_, pss_one (ps_ret (pe_callB call_len_seq (by rfl) T.bLen PySem.boot_len (pa_cons (pe_call G1 hr rfl g1 k1 b1 .nil pass0 (pa_cons (pv 0) (pa_cons (pv 1) (pa_cons (pv 2) pa_nil)))) pa_nil))), ?_⟩
  refine ⟨_, rfl, _, rfl, _, rfl, a, b, p, rfl, hp, hp9, ha, hb, fun H1 q1 s1 n1 h1 => ?_⟩
  refine ⟨q1, _, rfl, .inl (SqL.of h1), ?_⟩
  rw [vs_len]
  exact k H1 s1
theorem ok_counts {f : Addr} {fd : FuncData} (F : Fun K "counts_of_parts" "counts_of_parts" sCounts f fd) (T : Txt K mg C CF fI) (D1 : Gd P w K mg base "times_carried" CX0 3 ["one", "other", "prime"] spTimesC) :
    FnOk P w K mg base CX0 4 f fd ["number", "prime"] spCounts := by
  obtain ⟨f1, fd1, g1, k1, b1, G1⟩ := D1
  refine F.ok scCounts (fun vs H Q E h => ?_) (fun cdv A outer s H vs Q E hr h => ?_)
  · obtain ⟨n, p, rfl, _⟩ := h
    rfl
  obtain ⟨n, p, rfl, hp, hp9, hn, k⟩ := h
  refine ⟨_, pss_one (ps_ret (pe_lc (own := [("part", 2)]) (g := gName 2) (tt := tYes) rfl scCounts.nd (pi_range1 rfl T.bRange (pa_cons (pe_op op_add (pv 0) pe_int) pa_nil))
      (blkOk_by (own := [("part", 2)]) (N := ["number", "prime", "part"]) (sc := defScope sCounts) (by decide +kernel)) (fun _ _ _ _ _ => pg_name (i := 2) scCounts.nd rfl (Or.inl rfl)) (fun _ _ _ _ _ => pts_nil)
      (fun _ _ _ _ _ => pe_call G1 hr rfl g1 k1 b1 .nil pass0 (pa_cons (pv 2) (pa_cons (pe_op op_sub (pv 0) (pv 2)) (pa_cons (pv 1) pa_nil)))))), ?_⟩
  refine ⟨_, rfl, _, _, rfl, rfl, _, rfl, by omega, by omega, fun D hD => ?_⟩
  have e : ((n : Int) + 1).toNat = n + 1 := by omega
  rw [e]
  refine lc_range (lo := 0) (n := n + 1) (fun i H1 => Same H H1 ∧ H1 D = some (.lst (vs_ (counts p n i)))) ⟨same_new hD, upd_same⟩ ?_ ?_
  · rintro i H1 hi ⟨s1, h1⟩
    refine ⟨rfl, _, rfl, _, rfl, _, rfl, _, _, rfl, rfl, _, rfl, i, n - i, p, ?_, hp, hp9, by omega, by omega, fun H2 s2 => ?_⟩
    · rw [Int.zero_add, Int.natCast_sub (by omega)]
      rfl
    · refine ⟨_, s2 _ _ h1, ?_, (s1.trans s2).put hD, ?_⟩
      · rw [vs_len, counts_len]
        exact lin' (by omega)
      · rw [upd_same, counts_succ, vs_app]
        rfl
  · rintro H1 ⟨s1, h1⟩
    exact k H1 D s1 hD h1
theorem ok_parts {f : Addr} {fd : FuncData} (F : Fun K "parts_carried" "parts_carried" sParts f fd) (T : Txt K mg C CF fI) (D1 : Gd P w K mg base "counts_of_parts" CX0 4 ["number", "prime"] spCounts) :
    FnOk P w K mg base CX0 5 f fd ["number", "times", "prime"] spParts := by
  obtain ⟨f1, fd1, g1, k1, b1, G1⟩ := D1
  refine F.ok scParts (fun vs H Q E h => ?_) (fun cdv A outer s H vs Q E hr h => ?_)
  · obtain ⟨n, c, p, rfl, _⟩ := h
    rfl
  obtain ⟨n, c, p, rfl, hp, hp9, hn, k⟩ := h
  refine ⟨_, pss_one (ps_ret (pe_lc (own := [("part", 3), ("count", 4)]) (g := gTup K 2 (gCons (gName 3) (gCons (gName 4) gNil))) (tt := tB (tEqI (tVar 4) (tVar 1))) (te := tVar 3) rfl scParts.nd (pi_enum rfl T.bEnum (pa_cons (pe_call G1 hr rfl g1 k1 b1 .nil pass0 (pa_cons (pv 0) (pa_cons (pv 2) pa_nil))) pa_nil))
      (blkOk_by (own := [("part", 3), ("count", 4)]) (N := ["number", "times", "prime", "part", "count"]) (sc := defScope sParts) (by decide +kernel))
      (fun _ _ _ _ _ => pg_tup (by rfl) (pgs_cons (pg_name (i := 3) scParts.nd rfl (Or.inl rfl)) (pgs_cons (pg_name (i := 4) scParts.nd rfl (Or.inl rfl)) pgs_nil))) (fun _ _ _ _ _ => pts_one (pt_cmp (pc_eqI (pv 4) (pv 1))))
      (fun _ _ _ _ _ => pv 3))), ?_⟩
  refine ⟨_, rfl, _, rfl, n, p, rfl, hp, hp9, hn, fun H1 q1 s1 n1 h1 => ?_⟩
  refine ⟨q1, _, rfl, SqL.of h1, fun D hD => ?_⟩
  have lc : (vs_ (counts p n (n + 1))).length = n + 1 := by rw [vs_len, counts_len]
  refine lc_it walk_enum (fun i H2 => Same H1 H2 ∧ H2 D = some (.lst (vs_ (parts p n c i)))) ⟨same_new hD, upd_same⟩ (fun i H2 _ q => SqL.of (q.1 _ _ h1)) ?_ ?_
  · rintro i x H2 H3 hi ⟨s2, h2⟩ ⟨T0, x0, y0, rfl, nT, rfl, hx, hy⟩
    cases hx
    obtain ⟨m, hm, rfl⟩ := vs_get_of hy
    rw [lc] at hi
    rw [counts_get hi] at hm
    cases hm
    have h3 : upd H2 T0 (.tup [.int (i : Nat), .int (count p n i : Int)]) D = some (.lst (vs_ (parts p n c i))) := at_put h2 (ne_of_none h2 nT)
    have s3 : Same H1 (upd H2 T0 (.tup [.int (i : Nat), .int (count p n i : Int)])) := s2.trans (same_new nT)
    refine ⟨T0, _, rfl, SqT.of upd_same, rfl, _, _, rfl, _, _, rfl, rfl, rfl, _, rfl, _, rfl, _, _, rfl, rfl, _, rfl, ?_⟩
    by_cases q : count p n i = c
    · refine if_true_of (decide_eq_true (by rw [q])) ?_
      refine ⟨_, rfl, _, h3, ?_, s3.put hD, ?_⟩
      · rw [vs_len]
        exact lin' (Nat.lt_of_le_of_lt (parts_len p n c i) (by omega))
      · rw [upd_same, parts_yes q, vs_app]
        rfl
    · refine if_false_of (decide_eq_false (by omega)) ?_
      refine ⟨s3, ?_⟩
      rw [h3, parts_no q]
  · rintro H2 ⟨s2, h2⟩
    rw [lc, parts_ways] at h2
    exact k H2 D (s1.trans s2) (s1.free hD) h2
end
end Co

namespace Co
open PySem PySem.Spec PyProof.Rows L2
open Kp266 (okP digits cross places ways MOST)
/-! ### the object, and how a call of it ends -/
def dF (st : Option Nat) : List (Str × V) := [("kept", optV st)]
def DeskAt (C : Addr) (H : Hp) (a : Addr) (st : Option Nat) : Prop := ∃ dx, H a = some (.ins C dx (dF st))
theorem kF (st : Option Nat) : (dF st).lookup ("kept" : Str) = some (optV st) := by
  have e : (("kept" : Str) == "kept") = true := beq_self_eq_true _
  simp only [dF, List.lookup, e]
theorem noF {st : Option Nat} {m : Str} (h : (m == ("kept" : Str)) = false) : (dF st).lookup m = none := by
  simp only [dF, List.lookup, h]
theorem putK (st st' : Option Nat) : putF "kept" (optV st') (dF st) = dF st' := if_pos rfl
/-- what was tracked stands, but for the object at a -/
def Kept (a : Addr) (H H' : Hp) : Prop := ∀ b o, H b = some o → b ≠ a → H' b = some o
theorem Kept.of {a : Addr} {H H' : Hp} (s : Same H H') : Kept a H H' := fun b o e _ => s b o e
theorem Kept.free {a : Addr} {H H' : Hp} {C : Addr} {st : Option Nat} (k : Kept a H H') (d : DeskAt C H' a st) {l : Addr} (h : H' l = none) : H l = none ∨ l = a := by
  by_cases c : l = a
  · exact .inr c
  · cases q : H l with
    | none => exact .inl rfl
    | some o =>
      have z := k l o q c
      rw [h] at z
      cases z
/-- a call's ends: a refusal is raised, an answer handed back as a new list -/
structure Out (C CF a : Addr) (st : Option Nat) (H : Hp) (y : Option Nat × List Int) (Q : VK) (E : XK) : Prop where
  no : ∀ (H' : Hp) (d : Addr) (z : Int), y = (st, [z]) → Same H H' → H d = none → H' d = some (.xd [(("code" : Str), .int z)]) → E (.ref CF) (some d) H'
  yes : ∀ (H' : Hp) (p : Addr), H p = none → H' p = some (.lst (y.2.map V.int)) → Kept a H H' → DeskAt C H' a y.1 → Q (.ref p) H'
theorem Out.refuse {C CF a : Addr} {st : Option Nat} {H : Hp} {y : Option Nat × List Int} {Q : VK} {E : XK} (o : Out C CF a st H y Q E) {H1 : Hp} {d : Addr} {z : Int} (e : y = (st, [z])) (s : Same H H1) (n : H1 d = none) :
    E (.ref CF) (some d) (upd H1 d (.xd [(("code" : Str), .int z)])) := o.no _ d z e (s.trans (same_new n)) (s.free n) upd_same
/-- the object as it was -/
theorem Out.tell {C CF a : Addr} {st : Option Nat} {H : Hp} {y : Option Nat × List Int} {Q : VK} {E : XK} (o : Out C CF a st H y Q E) {H1 : Hp} {r : Addr} {l : List Int} {xs : List V} (e : y = (st, l)) (hD : DeskAt C H a st) (s : Same H H1) (n : H1 r = none) (hx : l.map V.int = xs) :
    Q (.ref r) (upd H1 r (.lst xs)) := by
  refine o.yes _ r (s.free n) ?_ (Kept.of (s.trans (same_new n))) ?_
  · rw [upd_same, e, hx]
  · rw [e]
    obtain ⟨dx, h⟩ := hD
    exact ⟨dx, (s.trans (same_new n)) _ _ h⟩
/-- the object with another prime -/
theorem Out.turn {C CF a : Addr} {st st' : Option Nat} {H : Hp} {y : Option Nat × List Int} {Q : VK} {E : XK} (o : Out C CF a st H y Q E) {H1 : Hp} {r dx : Addr} {l : List Int} {xs : List V} (e : y = (st', l)) (s : Same H H1)
    (n : upd H1 a (.ins C dx (dF st')) r = none) (hx : l.map V.int = xs) : Q (.ref r) (upd (upd H1 a (.ins C dx (dF st'))) r (.lst xs)) := by
  have ne : r ≠ a := fun c => by
    rw [c, upd_same] at n
    cases n
  refine o.yes _ r ?_ ?_ (fun b u h hb => ?_) ?_
  · rw [upd_ne ne] at n
    exact s.free n
  · rw [upd_same, e, hx]
  · have nb : b ≠ r := fun c => by
      rw [← c, upd_ne hb] at n
      rw [s _ _ h] at n
      cases n
    rw [upd_ne nb, upd_ne hb]
    exact s _ _ h
  · rw [e]
    exact ⟨dx, by rw [upd_ne (Ne.symm ne), upd_same]⟩
/-- a method's promise: its numbers are the call's -/
def spM (C CF : Addr) (ok : Option Nat → Kp266.Call → Prop) : Sp := fun vs H Q E => ∃ (a : Addr) (st : Option Nat) (x : Kp266.Call), vs = .ref a :: vs_ (args x) ∧ ok st x ∧ Good st ∧ DeskAt C H a st ∧ Out C CF a st H (reply st x) Q E
/-- a method's promise: it's handed the call's number and its numbers as a list -/
def spC (K : PySem.W.Frag) (C CF : Addr) (ok : Option Nat → Kp266.Call → Prop) : Sp := fun vs H Q E => ∃ (a l : Addr) (st : Option Nat) (x : Kp266.Call), vs = [.ref a, .int (num x : Int), .ref l] ∧ SqL K H l (vs_ (args x)) ∧ ok st x ∧ Good st ∧ DeskAt C H a st ∧
  Out C CF a st H (reply st x) Q E
def spWant (CF : Addr) : Sp := fun vs H Q E => ∃ (b : Bool) (z : Int), vs = [.bl b, .int z] ∧ (b = true → Q .non H) ∧ (b = false → ∀ d, H d = none → E (.ref CF) (some d) (upd H d (.xd [(("code" : Str), .int z)])))
/-- all the numbers are at most a million: nothing; else a refusal -/
def spWantN (K : PySem.W.Frag) (CF : Addr) : Sp := fun vs H Q E => ∃ (l : Addr) (ns : List Nat), vs = [.ref l] ∧ SqL K H l (vs_ ns) ∧ ns.length ≤ 1000 ∧ ((∀ n ∈ ns, n ≤ MOST) → ∀ H', Same H H' → Q .non H') ∧
  (¬ (∀ n ∈ ns, n ≤ MOST) → ∀ H' d, Same H H' → H' d = none → E (.ref CF) (some d) (upd H' d (.xd [(("code" : Str), .int (-22))])))
abbrev sWant : Stmt := top 24
abbrev sWantN : Stmt := top 25
abbrev sInit : Stmt := inClass (top 26) 0
theorem scWant : FnScope ["truth", "code"] ["truth", "code"] (defScope sWant) := ⟨rfl, rfl, rfl, by decide +kernel, rfl, by decide +kernel, by decide +kernel⟩
theorem scWantN : FnScope ["numbers", "number"] ["numbers"] (defScope sWantN) := ⟨rfl, rfl, rfl, by decide +kernel, rfl, by decide +kernel, by decide +kernel⟩
theorem scInit : FnScope ["self"] ["self"] (defScope sInit) := ⟨rfl, rfl, rfl, by decide +kernel, rfl, by decide +kernel, by decide +kernel⟩
def spInit (C : Addr) : Sp := fun vs H Q _ => ∃ (a dx : Addr), vs = [.ref a] ∧ H a = some (.ins C dx []) ∧ ∀ H' : Hp, DeskAt C H' a none → Kept a H H' → Q .non H'
section
variable {P : Program} {w : World} {K : PySem.W.Frag} {mg : Str → Option Value} {base : Heap} {C CF fI : Addr}
theorem ok_want {f : Addr} {fd : FuncData} (F : Fun K "want" "want" sWant f fd) (T : Txt K mg C CF fI) : FnOk P w K mg base (L2.CX P w) 1 f fd ["truth", "code"] (spWant CF) := by
  refine F.okX scWant (fun vs H Q E h => ?_) (fun cdv A outer s H vs Q E hr h => ?_)
  · obtain ⟨b, z, rfl, _⟩ := h
    rfl
  obtain ⟨b, z, rfl, kY, kN⟩ := h
  refine ⟨_, pss_one (ps_if (pt_not (pt_val (pv 0))) (pss_one (ps_raiseRef rfl T.low hr (takes_of rfl rfl rfl rfl) (by exact (pa_cons (pv 1) pa_nil)))) pss_nil), ?_⟩
  refine ⟨_, rfl, b, rfl, ?_⟩
  cases b with
  | true => exact if_false_of rfl (kY rfl)
  | false => exact if_true_of rfl ⟨_, rfl, _, rfl, fun d hd => kN rfl d hd⟩
theorem ok_wantN {f : Addr} {fd : FuncData} (F : Fun K "want_numbers" "want_numbers" sWantN f fd) (T : Txt K mg C CF fI) (D1 : Gd P w K mg base "want" (L2.CX P w) 1 ["truth", "code"] (spWant CF)) :
    FnOk P w K mg base (L2.CX P w) 2 f fd ["numbers"] (spWantN K CF) := by
  obtain ⟨f1, fd1, g1, k1, b1, G1⟩ := D1
  obtain ⟨tOB, gOB⟩ := T.cOB
  obtain ⟨tMN, gMN⟩ := T.cMN
  refine F.okX scWantN (fun vs H Q E h => ?_) (fun cdv A outer s H vs Q E hr h => ?_)
  · obtain ⟨l, ns, rfl, _⟩ := h
    rfl
  obtain ⟨l, ns, rfl, hl, hz, kY, kN⟩ := h
  refine ⟨_, pss_one (ps_expr (pe_call G1 hr rfl g1 k1 b1 .nil (passes_call (takes_of rfl rfl rfl rfl) fun _ _ _ _ h => h)
    (pa_cons (pe_callB (cr_all rfl) (by rfl) T.bAll (by decide +kernel) (pa_cons (pe_lc (own := [("number", 1)]) (g := gName 1) (tt := tYes) rfl scWantN.nd (pi_list (pv 0))
      (blkOk_by (own := [("number", 1)]) (N := ["numbers", "number"]) (sc := defScope sWantN) (by decide +kernel)) (fun _ _ _ _ _ => pg_name (i := 1) scWantN.nd rfl (Or.inl rfl)) (fun _ _ _ _ _ => pts_nil)
      (fun _ _ _ _ _ => pe_cmp (pc_le (pv 1) (pe_glob (v := .int 1000000) rfl gMN ⟨_, rfl⟩)) rfl)) pa_nil))
      (pa_cons (pe_glob (v := .int (-22)) rfl gOB ⟨_, rfl⟩) pa_nil)))), ?_⟩
  refine ⟨_, rfl, l, rfl, ⟨_, hl⟩, fun D hD => ?_⟩
  refine lc_list (K := K) (a := l) (xs := vs_ ns) (fun i H1 => Same H H1 ∧ H1 D = some (.lst ((within (ns.take i)).map V.bl))) ⟨same_new hD, upd_same⟩ (fun i H1 _ q => q.1.seq hl) ?_ ?_
  · rintro i x H1 hx ⟨s1, h1⟩
    obtain ⟨n, hn, rfl⟩ := vs_get_of hx
    refine ⟨rfl, _, rfl, _, _, rfl, rfl, _, h1, ?_, s1.put hD, ?_⟩
    · rw [List.length_map]
      unfold within
      rw [List.length_map, List.length_take]
      exact lin' (by omega)
    · have e : ns.take (i + 1) = ns.take i ++ [n] := by
        rw [List.take_add_one, hn]
        rfl
      rw [upd_same, e]
      unfold within
      rw [List.map_append, List.map_append]
      rfl
  · rintro H1 ⟨s1, h1⟩
    rw [vs_len, List.take_length] at h1
    refine ⟨D, _, rfl, SqL.of h1, _, _, rfl, fun c => ?_, fun c d hd => ?_⟩
    · exact kY (within_all.mp c) H1 s1
    · refine kN (fun z => ?_) H1 d s1 hd
      rw [within_all.mpr z] at c
      cases c
theorem ok_init {f : Addr} {fd : FuncData} (F : Fun K "__init__" "Desk.__init__" sInit f fd) (T : Txt K mg C CF fI) : FnOk P w K mg base CX0 1 f fd ["self"] (spInit C) := by
  refine F.ok scInit (fun vs H Q E h => ?_) (fun cdv A outer s H vs Q E hr h => ?_)
  · obtain ⟨a, dx, rfl, _⟩ := h
    rfl
  obtain ⟨a, dx, rfl, ha, k⟩ := h
  refine ⟨_, pss_one (ps_fld (pv 0) pe_non rfl), ?_⟩
  refine ⟨_, rfl, a, C, dx, [], rfl, ha, T.cl, T.nK, (by show 0 < 1000; decide), ?_⟩
  exact k _ ⟨dx, upd_same⟩ fun b o e hb => by
    rw [upd_ne hb]
    exact e
end
end Co

namespace Co
open PySem PySem.Spec PyProof.Rows L2
open Kp266 (okP digits cross places ways likeAfter mostCarries MOST)
theorem lin1 {a : V} : [a].length ≤ sizeLine := lin (by show 1 ≤ 16777216; decide)
theorem lin2 {a b : V} : [a, b].length ≤ sizeLine := lin (by show 2 ≤ 16777216; decide)
theorem lin3 {a b c : V} : [a, b, c].length ≤ sizeLine := lin (by show 3 ≤ 16777216; decide)

abbrev sBegin : Stmt := inClass (top 26) 1
theorem scBegin : FnScope ["self", "prime"] ["self", "prime"] (defScope sBegin) := ⟨rfl, rfl, rfl, by decide +kernel, rfl, by decide +kernel, by decide +kernel⟩
def okBegin : Option Nat → Kp266.Call → Prop := fun _ x => ∃ q, x = .begin_ q
theorem ok_begin {P : Program} {w : World} {K : PySem.W.Frag} {mg : Str → Option Value} {base : Heap} {C CF fI : Addr} {f : Addr} {fd : FuncData} (F : Fun K "begin" "Desk.begin" sBegin f fd) (T : Txt K mg C CF fI)
    (DW : Gd P w K mg base "want" (L2.CX P w) 1 ["truth", "code"] (spWant CF)) (D1 : Gd P w K mg base "is_prime" CX0 1 ["number"] spIsPrime) :
    FnOk P w K mg base (L2.CX P w) 2 f fd ["self", "prime"] (spM C CF okBegin) := by
  obtain ⟨fW, fdW, gW, kW, bW, GW⟩ := DW
  obtain ⟨f1, fd1, g1, k1, b1, G1⟩ := D1
  obtain ⟨tOB, gOB⟩ := T.cOB
  refine F.okX scBegin (fun vs H Q E h => ?_) (fun cdv A outer s H vs Q E hr h => ?_)
  · obtain ⟨a, st, x, rfl, ⟨q, rfl⟩, _⟩ := h
    rfl
  obtain ⟨a, st, x, rfl, ⟨q, rfl⟩, good, hD, out⟩ := h
  have hD0 := hD
  obtain ⟨dx, hd⟩ := hD
  refine ⟨_, (pss_cons (ps_expr (pe_call GW (hr.mono (by decide)) rfl gW kW bW .nil (passes_call (takes_of rfl rfl rfl rfl) fun _ _ _ _ h => h) (pa_cons (pe_call G1 (hr.mono (by decide)) rfl g1 k1 b1 .nil pass0 (pa_cons (pv 1) pa_nil)) (pa_cons (pe_glob (v := .int (-22)) rfl gOB ⟨_, rfl⟩) pa_nil)))) (pss_cons (ps_fld (pv 0) (pv 1) rfl) (pss_one (ps_ret (pe_lst (pa_cons (pv 1) pa_nil)))))), ?_⟩
  refine ⟨_, rfl, q, rfl, fun H1 s1 => ⟨_, _, rfl, fun c => ?_, fun c d nd => out.refuse (re_begin_no c) s1 nd⟩⟩
  refine ⟨_, rfl, _, rfl, a, C, dx, _, rfl, s1 _ _ hd, T.cl, T.nK, (by show 1 < 1000; decide), ?_⟩
  rw [show (V.int (q : Int)) = optV (some q) from rfl, putK]
  refine ⟨_, rfl, lin1, fun r nr => ?_⟩
  exact out.turn (re_begin c) s1 nr rfl
abbrev sPrime : Stmt := inClass (top 26) 2
theorem scPrime : FnScope ["self", "prime", "before"] ["self", "prime"] (defScope sPrime) := ⟨rfl, rfl, rfl, by decide +kernel, rfl, by decide +kernel, by decide +kernel⟩
def okPrime : Option Nat → Kp266.Call → Prop := fun st x => ∃ p q, st = some p ∧ x = .prime q
theorem ok_prime {P : Program} {w : World} {K : PySem.W.Frag} {mg : Str → Option Value} {base : Heap} {C CF fI : Addr} {f : Addr} {fd : FuncData} (F : Fun K "prime" "Desk.prime" sPrime f fd) (T : Txt K mg C CF fI)
    (DW : Gd P w K mg base "want" (L2.CX P w) 1 ["truth", "code"] (spWant CF)) (D1 : Gd P w K mg base "is_prime" CX0 1 ["number"] spIsPrime) :
    FnOk P w K mg base (L2.CX P w) 2 f fd ["self", "prime"] (spM C CF okPrime) := by
  obtain ⟨fW, fdW, gW, kW, bW, GW⟩ := DW
  obtain ⟨f1, fd1, g1, k1, b1, G1⟩ := D1
  obtain ⟨tOB, gOB⟩ := T.cOB
  refine F.okX scPrime (fun vs H Q E h => ?_) (fun cdv A outer s H vs Q E hr h => ?_)
  · obtain ⟨a, st, x, rfl, ⟨p, q, rfl, rfl⟩, _⟩ := h
    rfl
  obtain ⟨a, st, x, rfl, ⟨p, q, rfl, rfl⟩, good, hD, out⟩ := h
  have hD0 := hD
  obtain ⟨dx, hd⟩ := hD
  refine ⟨_, (pss_cons (ps_expr (pe_call GW (hr.mono (by decide)) rfl gW kW bW .nil (passes_call (takes_of rfl rfl rfl rfl) fun _ _ _ _ h => h) (pa_cons (pe_call G1 (hr.mono (by decide)) rfl g1 k1 b1 .nil pass0 (pa_cons (pv 1) pa_nil)) (pa_cons (pe_glob (v := .int (-22)) rfl gOB ⟨_, rfl⟩) pa_nil)))) (pss_cons (ps_set (i := 2) scPrime.nd rfl (.inl rfl) (pe_fld (pv 0) rfl)) (pss_cons (ps_fld (pv 0) (pv 1) rfl) (pss_one (ps_ret (pe_lst (pa_cons (pv 2) pa_nil))))))), ?_⟩
  refine ⟨_, rfl, q, rfl, fun H1 s1 => ⟨_, _, rfl, fun c => ?_, fun c d nd => out.refuse (re_prime_no c) s1 nd⟩⟩
  refine ⟨_, rfl, a, C, dx, _, _, rfl, s1 _ _ hd, T.cl, T.nK, kF (some p), ?_⟩
  refine ⟨_, rfl, _, rfl, a, C, dx, _, rfl, s1 _ _ hd, T.cl, T.nK, (by show 1 < 1000; decide), ?_⟩
  rw [show (V.int (q : Int)) = optV (some q) from rfl, putK]
  refine ⟨_, rfl, lin1, fun r nr => ?_⟩
  exact out.turn (re_prime c) s1 nr rfl
abbrev sDigits_ : Stmt := inClass (top 26) 3
theorem scDigits_ : FnScope ["self", "number", "found"] ["self", "number"] (defScope sDigits_) := ⟨rfl, rfl, rfl, by decide +kernel, rfl, by decide +kernel, by decide +kernel⟩
def okDigits_ : Option Nat → Kp266.Call → Prop := fun st x => ∃ p n, st = some p ∧ x = .digits n ∧ n ≤ MOST
theorem ok_digits_ {P : Program} {w : World} {K : PySem.W.Frag} {mg : Str → Option Value} {base : Heap} {C CF fI : Addr} {f : Addr} {fd : FuncData} (F : Fun K "digits" "Desk.digits" sDigits_ f fd) (T : Txt K mg C CF fI)
    (D1 : Gd P w K mg base "digits_of" CX0 1 ["number", "prime"] spDigits) :
    FnOk P w K mg base (L2.CX P w) 2 f fd ["self", "number"] (spM C CF okDigits_) := by
  obtain ⟨f1, fd1, g1, k1, b1, G1⟩ := D1
  refine F.okX scDigits_ (fun vs H Q E h => ?_) (fun cdv A outer s H vs Q E hr h => ?_)
  · obtain ⟨a, st, x, rfl, ⟨p, n, rfl, rfl, hn⟩, _⟩ := h
    rfl
  obtain ⟨a, st, x, rfl, ⟨p, n, rfl, rfl, hn⟩, good, hD, out⟩ := h
  have hD0 := hD
  obtain ⟨dx, hd⟩ := hD
  refine ⟨_, (pss_cons (ps_set (i := 2) scDigits_.nd rfl (.inl rfl) (pe_call G1 (hr.mono (by decide)) rfl g1 k1 b1 .nil pass0 (pa_cons (pv 1) (pa_cons (pe_fld (pv 0) rfl) pa_nil)))) (pss_one (ps_ret (pe_op op_cat (pe_lst (pa_cons (pe_callB call_len_seq (by rfl) T.bLen PySem.boot_len (pa_cons (pv 2) pa_nil)) pa_nil)) (pv 2))))), ?_⟩
  obtain ⟨hp, hp9⟩ := okP_bounds (good p rfl)
  have hn' : n ≤ 1000000 := hn
  refine ⟨_, rfl, _, rfl, a, C, dx, _, _, rfl, hd, T.cl, T.nK, kF (some p), n, p, rfl, hp, hp9, by omega, fun H1 q1 s1 n1 h1 => ?_⟩
  refine ⟨_, rfl, q1, _, rfl, .inl (SqL.of h1), lin1, fun t nt => ⟨_, rfl, t, q1, _, _, rfl, rfl, upd_same, at_put h1 (ne_of_none h1 nt), ?_, fun r nr => ?_⟩⟩
  · rw [vs_len]
    have z := digits_len p n
    exact lin (by show 1 + _ ≤ _; omega)
  · rw [vs_len] at nr ⊢
    exact out.tell (re_digits hn) hD0 (s1.trans (same_new nt)) nr rfl
abbrev sPlaces_ : Stmt := inClass (top 26) 4
theorem scPlaces_ : FnScope ["self", "one", "other", "found"] ["self", "one", "other"] (defScope sPlaces_) := ⟨rfl, rfl, rfl, by decide +kernel, rfl, by decide +kernel, by decide +kernel⟩
def okPlaces_ : Option Nat → Kp266.Call → Prop := fun st x => ∃ p m n, st = some p ∧ x = .places m n ∧ m ≤ MOST ∧ n ≤ MOST
theorem ok_places_ {P : Program} {w : World} {K : PySem.W.Frag} {mg : Str → Option Value} {base : Heap} {C CF fI : Addr} {f : Addr} {fd : FuncData} (F : Fun K "places" "Desk.places" sPlaces_ f fd) (T : Txt K mg C CF fI)
    (D1 : Gd P w K mg base "places_carried" CX0 2 ["one", "other", "prime"] spPlaces) :
    FnOk P w K mg base (L2.CX P w) 3 f fd ["self", "one", "other"] (spM C CF okPlaces_) := by
  obtain ⟨f1, fd1, g1, k1, b1, G1⟩ := D1
  refine F.okX scPlaces_ (fun vs H Q E h => ?_) (fun cdv A outer s H vs Q E hr h => ?_)
  · obtain ⟨a, st, x, rfl, ⟨p, m, n, rfl, rfl, hm, hn⟩, _⟩ := h
    rfl
  obtain ⟨a, st, x, rfl, ⟨p, m, n, rfl, rfl, hm, hn⟩, good, hD, out⟩ := h
  have hD0 := hD
  obtain ⟨dx, hd⟩ := hD
  refine ⟨_, (pss_cons (ps_set (i := 3) scPlaces_.nd rfl (.inl rfl) (pe_call G1 (hr.mono (by decide)) rfl g1 k1 b1 .nil pass0 (pa_cons (pv 1) (pa_cons (pv 2) (pa_cons (pe_fld (pv 0) rfl) pa_nil))))) (pss_one (ps_ret (pe_op op_cat (pe_lst (pa_cons (pe_callB call_len_seq (by rfl) T.bLen PySem.boot_len (pa_cons (pv 3) pa_nil)) pa_nil)) (pv 3))))), ?_⟩
  obtain ⟨hp, hp9⟩ := okP_bounds (good p rfl)
  have hn' : n ≤ 1000000 := hn
  have hm' : m ≤ 1000000 := hm
  refine ⟨_, rfl, _, rfl, _, rfl, a, C, dx, _, _, rfl, hd, T.cl, T.nK, kF (some p), m, n, p, rfl, hp, hp9, by omega, by omega, fun H1 q1 s1 n1 h1 => ?_⟩
  refine ⟨_, rfl, q1, _, rfl, .inl (SqL.of h1), lin1, fun t nt => ⟨_, rfl, t, q1, _, _, rfl, rfl, upd_same, at_put h1 (ne_of_none h1 nt), ?_, fun r nr => ?_⟩⟩
  · rw [vs_len]
    have z := places_len p m n
    exact lin (by show 1 + _ ≤ _; omega)
  · rw [vs_len] at nr ⊢
    exact out.tell (re_places hm hn) hD0 (s1.trans (same_new nt)) nr rfl
abbrev sThree : Stmt := inClass (top 26) 5
theorem scThree : FnScope ["self", "one", "two", "three", "first"] ["self", "one", "two", "three"] (defScope sThree) := ⟨rfl, rfl, rfl, by decide +kernel, rfl, by decide +kernel, by decide +kernel⟩
def okThree : Option Nat → Kp266.Call → Prop := fun st x => ∃ p m n o, st = some p ∧ x = .three m n o ∧ m ≤ MOST ∧ n ≤ MOST ∧ o ≤ MOST
theorem ok_three {P : Program} {w : World} {K : PySem.W.Frag} {mg : Str → Option Value} {base : Heap} {C CF fI : Addr} {f : Addr} {fd : FuncData} (F : Fun K "three" "Desk.three" sThree f fd) (T : Txt K mg C CF fI)
    (D1 : Gd P w K mg base "times_carried" CX0 3 ["one", "other", "prime"] spTimesC) :
    FnOk P w K mg base (L2.CX P w) 4 f fd ["self", "one", "two", "three"] (spM C CF okThree) := by
  obtain ⟨f1, fd1, g1, k1, b1, G1⟩ := D1
  refine F.okX scThree (fun vs H Q E h => ?_) (fun cdv A outer s H vs Q E hr h => ?_)
  · obtain ⟨a, st, x, rfl, ⟨p, m, n, o, rfl, rfl, hm, hn, ho⟩, _⟩ := h
    rfl
  obtain ⟨a, st, x, rfl, ⟨p, m, n, o, rfl, rfl, hm, hn, ho⟩, good, hD, out⟩ := h
  have hD0 := hD
  obtain ⟨dx, hd⟩ := hD
  refine ⟨_, (pss_cons (ps_set (i := 4) scThree.nd rfl (.inl rfl) (pe_call G1 (hr.mono (by decide)) rfl g1 k1 b1 .nil pass0 (pa_cons (pv 1) (pa_cons (pv 2) (pa_cons (pe_fld (pv 0) rfl) pa_nil))))) (pss_one (ps_ret (pe_lst (pa_cons (pe_op op_add (pv 4) (pe_call G1 (hr.mono (by decide)) rfl g1 k1 b1 .nil pass0 (pa_cons (pe_op op_add (pv 1) (pv 2)) (pa_cons (pv 3) (pa_cons (pe_fld (pv 0) rfl) pa_nil))))) (pa_cons (pv 4) (pa_cons (pe_call G1 (hr.mono (by decide)) rfl g1 k1 b1 .nil pass0 (pa_cons (pv 2) (pa_cons (pv 3) (pa_cons (pe_fld (pv 0) rfl) pa_nil)))) pa_nil))))))), ?_⟩
  obtain ⟨hp, hp9⟩ := okP_bounds (good p rfl)
  have hm' : m ≤ 1000000 := hm
  have hn' : n ≤ 1000000 := hn
  have ho' : o ≤ 1000000 := ho
  refine ⟨_, rfl, _, rfl, _, rfl, a, C, dx, _, _, rfl, hd, T.cl, T.nK, kF (some p), m, n, p, rfl, hp, hp9, by omega, by omega, fun H1 s1 => ?_⟩
  refine ⟨_, rfl, _, rfl, _, rfl, _, _, rfl, rfl, _, rfl, _, rfl, a, C, dx, _, _, rfl, s1 _ _ hd, T.cl, T.nK, kF (some p), m + n, o, p, rfl, hp, hp9, by omega, by omega, fun H2 s2 => ?_⟩
  refine ⟨_, _, rfl, rfl, _, rfl, _, rfl, _, rfl, _, rfl, a, C, dx, _, _, rfl, (s1.trans s2) _ _ hd, T.cl, T.nK, kF (some p), n, o, p, rfl, hp, hp9, by omega, by omega, fun H3 s3 => ?_⟩
  refine ⟨lin3, fun r nr => ?_⟩
  exact out.tell (re_three hm hn ho) hD0 (s1.trans (s2.trans s3)) nr rfl
abbrev sTimes_ : Stmt := inClass (top 26) 6
theorem scTimes_ : FnScope ["self", "number"] ["self", "number"] (defScope sTimes_) := ⟨rfl, rfl, rfl, by decide +kernel, rfl, by decide +kernel, by decide +kernel⟩
def okTimes_ : Option Nat → Kp266.Call → Prop := fun st x => ∃ p n, st = some p ∧ x = .times n ∧ n ≤ MOST
theorem ok_times_ {P : Program} {w : World} {K : PySem.W.Frag} {mg : Str → Option Value} {base : Heap} {C CF fI : Addr} {f : Addr} {fd : FuncData} (F : Fun K "times" "Desk.times" sTimes_ f fd) (T : Txt K mg C CF fI)
    (DW : Gd P w K mg base "want" (L2.CX P w) 1 ["truth", "code"] (spWant CF)) (D1 : Gd P w K mg base "times_divided" CX0 1 ["number", "prime"] spTimes) :
    FnOk P w K mg base (L2.CX P w) 2 f fd ["self", "number"] (spM C CF okTimes_) := by
  obtain ⟨fW, fdW, gW, kW, bW, GW⟩ := DW
  obtain ⟨f1, fd1, g1, k1, b1, G1⟩ := D1
  obtain ⟨tOB, gOB⟩ := T.cOB
  refine F.okX scTimes_ (fun vs H Q E h => ?_) (fun cdv A outer s H vs Q E hr h => ?_)
  · obtain ⟨a, st, x, rfl, ⟨p, n, rfl, rfl, hn⟩, _⟩ := h
    rfl
  obtain ⟨a, st, x, rfl, ⟨p, n, rfl, rfl, hn⟩, good, hD, out⟩ := h
  have hD0 := hD
  obtain ⟨dx, hd⟩ := hD
  refine ⟨_, (pss_cons (ps_expr (pe_call GW (hr.mono (by decide)) rfl gW kW bW .nil (passes_call (takes_of rfl rfl rfl rfl) fun _ _ _ _ h => h) (pa_cons (pe_cmpR op_gt (pv 1) pe_int (nomark _)) (pa_cons (pe_glob (v := .int (-22)) rfl gOB ⟨_, rfl⟩) pa_nil)))) (pss_one (ps_ret (pe_lst (pa_cons (pe_call G1 (hr.mono (by decide)) rfl g1 k1 b1 .nil pass0 (pa_cons (pv 1) (pa_cons (pe_fld (pv 0) rfl) pa_nil))) pa_nil))))), ?_⟩
  obtain ⟨hp, hp9⟩ := okP_bounds (good p rfl)
  have hn' : n ≤ 1000000 := hn
  refine ⟨_, rfl, _, _, rfl, rfl, _, _, rfl, fun c => ?_, fun c d nd => ?_⟩
  · have h0 : 0 < n := by
      have z : (0 : Int) < n := of_decide_eq_true c
      omega
    refine ⟨_, rfl, _, rfl, a, C, dx, _, _, rfl, hd, T.cl, T.nK, kF (some p), n, p, rfl, hp, hp9, h0, by omega, ?_⟩
    refine ⟨lin1, fun r nr => ?_⟩
    exact out.tell (re_times h0 hn) hD0 (Same.refl H) nr rfl
  · have h0 : ¬ 0 < n := by
      have z : ¬ (0 : Int) < n := of_decide_eq_false c
      omega
    exact out.refuse (re_times_no h0) (Same.refl H) nd
abbrev sNext : Stmt := inClass (top 26) 7
theorem scNext : FnScope ["self", "number"] ["self", "number"] (defScope sNext) := ⟨rfl, rfl, rfl, by decide +kernel, rfl, by decide +kernel, by decide +kernel⟩
def okNext : Option Nat → Kp266.Call → Prop := fun st x => ∃ p n, st = some p ∧ x = .next n ∧ n ≤ MOST
theorem ok_next {P : Program} {w : World} {K : PySem.W.Frag} {mg : Str → Option Value} {base : Heap} {C CF fI : Addr} {f : Addr} {fd : FuncData} (F : Fun K "next" "Desk.next" sNext f fd) (T : Txt K mg C CF fI)
    (DW : Gd P w K mg base "want" (L2.CX P w) 1 ["truth", "code"] (spWant CF)) (D2 : Gd P w K mg base "cross_sum" CX0 2 ["number", "prime"] spCross) (D1 : Gd P w K mg base "times_carried" CX0 3 ["one", "other", "prime"] spTimesC) :
    FnOk P w K mg base (L2.CX P w) 4 f fd ["self", "number"] (spM C CF okNext) := by
  obtain ⟨fW, fdW, gW, kW, bW, GW⟩ := DW
  obtain ⟨f2, fd2, g2, k2, b2, G2⟩ := D2
  obtain ⟨f1, fd1, g1, k1, b1, G1⟩ := D1
  obtain ⟨tOB, gOB⟩ := T.cOB
  obtain ⟨tMN, gMN⟩ := T.cMN
  refine F.okX scNext (fun vs H Q E h => ?_) (fun cdv A outer s H vs Q E hr h => ?_)
  · obtain ⟨a, st, x, rfl, ⟨p, n, rfl, rfl, hn⟩, _⟩ := h
    rfl
  obtain ⟨a, st, x, rfl, ⟨p, n, rfl, rfl, hn⟩, good, hD, out⟩ := h
  have hD0 := hD
  obtain ⟨dx, hd⟩ := hD
  refine ⟨_, (pss_cons (ps_expr (pe_call GW (hr.mono (by decide)) rfl gW kW bW .nil (passes_call (takes_of rfl rfl rfl rfl) fun _ _ _ _ h => h) (pa_cons (pe_cmpR op_lt (pv 1) (pe_glob (v := .int 1000000) rfl gMN ⟨_, rfl⟩) (nomark _)) (pa_cons (pe_glob (v := .int (-22)) rfl gOB ⟨_, rfl⟩) pa_nil)))) (pss_one (ps_ret (pe_lst (pa_cons (pe_call G2 (hr.mono (by decide)) rfl g2 k2 b2 .nil pass0 (pa_cons (pe_op op_add (pv 1) pe_int) (pa_cons (pe_fld (pv 0) rfl) pa_nil))) (pa_cons (pe_call G1 (hr.mono (by decide)) rfl g1 k1 b1 .nil pass0 (pa_cons (pv 1) (pa_cons pe_int (pa_cons (pe_fld (pv 0) rfl) pa_nil)))) pa_nil)))))), ?_⟩
  obtain ⟨hp, hp9⟩ := okP_bounds (good p rfl)
  have hn' : n ≤ 1000000 := hn
  refine ⟨_, rfl, _, _, rfl, rfl, _, _, rfl, fun c => ?_, fun c d nd => ?_⟩
  · have h0 : n < MOST := by
      have z : (n : Int) < 1000000 := of_decide_eq_true c
      show n < 1000000
      omega
    refine ⟨_, rfl, _, _, rfl, rfl, _, rfl, a, C, dx, _, _, rfl, hd, T.cl, T.nK, kF (some p), n + 1, p, rfl, hp, hp9, by omega, fun H1 s1 => ?_⟩
    refine ⟨_, rfl, _, rfl, a, C, dx, _, _, rfl, s1 _ _ hd, T.cl, T.nK, kF (some p), n, 1, p, rfl, hp, hp9, by omega, by omega, fun H2 s2 => ?_⟩
    refine ⟨lin2, fun r nr => ?_⟩
    exact out.tell (re_next h0) hD0 (s1.trans s2) nr rfl
  · have h0 : ¬ n < MOST := by
      have z : ¬ (n : Int) < 1000000 := of_decide_eq_false c
      show ¬ n < 1000000
      omega
    exact out.refuse (re_next_no h0) (Same.refl H) nd
abbrev sWays : Stmt := inClass (top 26) 8
theorem scWays : FnScope ["self", "number", "times", "found"] ["self", "number", "times"] (defScope sWays) := ⟨rfl, rfl, rfl, by decide +kernel, rfl, by decide +kernel, by decide +kernel⟩
def okWays : Option Nat → Kp266.Call → Prop := fun st x => ∃ p n c, st = some p ∧ x = .ways n c
theorem ok_ways {P : Program} {w : World} {K : PySem.W.Frag} {mg : Str → Option Value} {base : Heap} {C CF fI : Addr} {f : Addr} {fd : FuncData} (F : Fun K "ways" "Desk.ways" sWays f fd) (T : Txt K mg C CF fI)
    (DW : Gd P w K mg base "want" (L2.CX P w) 1 ["truth", "code"] (spWant CF)) (D1 : Gd P w K mg base "parts_carried" CX0 5 ["number", "times", "prime"] spParts) :
    FnOk P w K mg base (L2.CX P w) 6 f fd ["self", "number", "times"] (spM C CF okWays) := by
  obtain ⟨fW, fdW, gW, kW, bW, GW⟩ := DW
  obtain ⟨f1, fd1, g1, k1, b1, G1⟩ := D1
  obtain ⟨tOB, gOB⟩ := T.cOB
  obtain ⟨tMT, gMT⟩ := T.cMT
  refine F.okX scWays (fun vs H Q E h => ?_) (fun cdv A outer s H vs Q E hr h => ?_)
  · obtain ⟨a, st, x, rfl, ⟨p, n, c, rfl, rfl⟩, _⟩ := h
    rfl
  obtain ⟨a, st, x, rfl, ⟨p, n, c, rfl, rfl⟩, good, hD, out⟩ := h
  have hD0 := hD
  obtain ⟨dx, hd⟩ := hD
  refine ⟨_, (pss_cons (ps_expr (pe_call GW (hr.mono (by decide)) rfl gW kW bW .nil (passes_call (takes_of rfl rfl rfl rfl) fun _ _ _ _ h => h) (pa_cons (pe_cmpR op_le (pv 1) (pe_glob (v := .int 60) rfl gMT ⟨_, rfl⟩) (nomark _)) (pa_cons (pe_glob (v := .int (-22)) rfl gOB ⟨_, rfl⟩) pa_nil)))) (pss_cons (ps_set (i := 3) scWays.nd rfl (.inl rfl) (pe_call G1 (hr.mono (by decide)) rfl g1 k1 b1 .nil pass0 (pa_cons (pv 1) (pa_cons (pv 2) (pa_cons (pe_fld (pv 0) rfl) pa_nil))))) (pss_one (ps_ret (pe_op op_cat (pe_lst (pa_cons (pe_callB call_len_seq (by rfl) T.bLen PySem.boot_len (pa_cons (pv 3) pa_nil)) pa_nil)) (pv 3)))))), ?_⟩
  obtain ⟨hp, hp9⟩ := okP_bounds (good p rfl)
  refine ⟨_, rfl, _, _, rfl, rfl, _, _, rfl, fun e => ?_, fun e d nd => ?_⟩
  · have h0 : n ≤ 60 := by
      have z : (n : Int) ≤ 60 := of_decide_eq_true e
      omega
    refine ⟨_, rfl, _, rfl, _, rfl, a, C, dx, _, _, rfl, hd, T.cl, T.nK, kF (some p), n, c, p, rfl, hp, hp9, h0, fun H1 q1 s1 n1 h1 => ?_⟩
    refine ⟨_, rfl, q1, _, rfl, .inl (SqL.of h1), lin1, fun t nt => ⟨_, rfl, t, q1, _, _, rfl, rfl, upd_same, at_put h1 (ne_of_none h1 nt), ?_, fun r nr => ?_⟩⟩
    · rw [vs_len]
      have z := parts_len p n c (n + 1)
      rw [parts_ways] at z
      exact lin (by show 1 + _ ≤ _; omega)
    · rw [vs_len] at nr ⊢
      exact out.tell (re_ways h0) hD0 (s1.trans (same_new nt)) nr rfl
  · have h0 : ¬ n ≤ 60 := by
      have z : ¬ (n : Int) ≤ 60 := of_decide_eq_false e
      omega
    exact out.refuse (re_ways_no h0) (Same.refl H) nd
abbrev sMost : Stmt := inClass (top 26) 9
theorem scMost : FnScope ["self", "number"] ["self", "number"] (defScope sMost) := ⟨rfl, rfl, rfl, by decide +kernel, rfl, by decide +kernel, by decide +kernel⟩
def okMost : Option Nat → Kp266.Call → Prop := fun st x => ∃ p n, st = some p ∧ x = .most n
theorem ok_most {P : Program} {w : World} {K : PySem.W.Frag} {mg : Str → Option Value} {base : Heap} {C CF fI : Addr} {f : Addr} {fd : FuncData} (F : Fun K "most" "Desk.most" sMost f fd) (T : Txt K mg C CF fI)
    (DW : Gd P w K mg base "want" (L2.CX P w) 1 ["truth", "code"] (spWant CF)) (D1 : Gd P w K mg base "counts_of_parts" CX0 4 ["number", "prime"] spCounts) :
    FnOk P w K mg base (L2.CX P w) 5 f fd ["self", "number"] (spM C CF okMost) := by
  obtain ⟨fW, fdW, gW, kW, bW, GW⟩ := DW
  obtain ⟨f1, fd1, g1, k1, b1, G1⟩ := D1
  obtain ⟨tOB, gOB⟩ := T.cOB
  obtain ⟨tMT, gMT⟩ := T.cMT
  refine F.okX scMost (fun vs H Q E h => ?_) (fun cdv A outer s H vs Q E hr h => ?_)
  · obtain ⟨a, st, x, rfl, ⟨p, n, rfl, rfl⟩, _⟩ := h
    rfl
  obtain ⟨a, st, x, rfl, ⟨p, n, rfl, rfl⟩, good, hD, out⟩ := h
  have hD0 := hD
  obtain ⟨dx, hd⟩ := hD
  refine ⟨_, (pss_cons (ps_expr (pe_call GW (hr.mono (by decide)) rfl gW kW bW .nil (passes_call (takes_of rfl rfl rfl rfl) fun _ _ _ _ h => h) (pa_cons (pe_cmpR op_le (pv 1) (pe_glob (v := .int 60) rfl gMT ⟨_, rfl⟩) (nomark _)) (pa_cons (pe_glob (v := .int (-22)) rfl gOB ⟨_, rfl⟩) pa_nil)))) (pss_one (ps_ret (pe_lst (pa_cons (pe_callB (cr_max rfl) (by rfl) T.bMax (by decide +kernel) (pa_cons (pe_call G1 (hr.mono (by decide)) rfl g1 k1 b1 .nil pass0 (pa_cons (pv 1) (pa_cons (pe_fld (pv 0) rfl) pa_nil))) pa_nil)) pa_nil))))), ?_⟩
  obtain ⟨hp, hp9⟩ := okP_bounds (good p rfl)
  refine ⟨_, rfl, _, _, rfl, rfl, _, _, rfl, fun e => ?_, fun e d nd => ?_⟩
  · have h0 : n ≤ 60 := by
      have z : (n : Int) ≤ 60 := of_decide_eq_true e
      omega
    refine ⟨_, rfl, _, rfl, a, C, dx, _, _, rfl, hd, T.cl, T.nK, kF (some p), n, p, rfl, hp, hp9, h0, fun H1 q1 s1 n1 h1 => ?_⟩
    refine ⟨q1, _, rfl, SqL.of h1, ?_, fun m hm hle => ?_⟩
    · unfold Kp266.ints
      rw [List.length_map, counts_len]
      omega
    refine ⟨lin1, fun r nr => ?_⟩
    rw [most_is hm hle]
    exact out.tell (re_most h0) hD0 s1 nr rfl
  · have h0 : ¬ n ≤ 60 := by
      have z : ¬ (n : Int) ≤ 60 := of_decide_eq_false e
      omega
    exact out.refuse (re_most_no h0) (Same.refl H) nd
abbrev sLike_ : Stmt := inClass (top 26) 10
theorem scLike_ : FnScope ["self", "number", "found"] ["self", "number"] (defScope sLike_) := ⟨rfl, rfl, rfl, by decide +kernel, rfl, by decide +kernel, by decide +kernel⟩
def okLike_ : Option Nat → Kp266.Call → Prop := fun st x => ∃ p n, st = some p ∧ x = .like n
theorem ok_like_ {P : Program} {w : World} {K : PySem.W.Frag} {mg : Str → Option Value} {base : Heap} {C CF fI : Addr} {f : Addr} {fd : FuncData} (F : Fun K "like" "Desk.like" sLike_ f fd) (T : Txt K mg C CF fI)
    (DW : Gd P w K mg base "want" (L2.CX P w) 1 ["truth", "code"] (spWant CF)) (D1 : Gd P w K mg base "next_alike" CX0 3 ["number", "prime", "many"] spLike) :
    FnOk P w K mg base (L2.CX P w) 4 f fd ["self", "number"] (spM C CF okLike_) := by
  obtain ⟨fW, fdW, gW, kW, bW, GW⟩ := DW
  obtain ⟨f1, fd1, g1, k1, b1, G1⟩ := D1
  obtain ⟨tOB, gOB⟩ := T.cOB
  obtain ⟨tML, gML⟩ := T.cML
  obtain ⟨tMB, gMB⟩ := T.cMB
  obtain ⟨tNS, gNS⟩ := T.cNS
  refine F.okX scLike_ (fun vs H Q E h => ?_) (fun cdv A outer s H vs Q E hr h => ?_)
  · obtain ⟨a, st, x, rfl, ⟨p, n, rfl, rfl⟩, _⟩ := h
    rfl
  obtain ⟨a, st, x, rfl, ⟨p, n, rfl, rfl⟩, good, hD, out⟩ := h
  have hD0 := hD
  obtain ⟨dx, hd⟩ := hD
  refine ⟨_, (pss_cons (ps_expr (pe_call GW (hr.mono (by decide)) rfl gW kW bW .nil (passes_call (takes_of rfl rfl rfl rfl) fun _ _ _ _ h => h) (pa_cons (pe_cmpR op_le (pv 1) (pe_glob (v := .int 1000) rfl gML ⟨_, rfl⟩) (nomark _)) (pa_cons (pe_glob (v := .int (-22)) rfl gOB ⟨_, rfl⟩) pa_nil)))) (pss_cons (ps_set (i := 2) scLike_.nd rfl (.inl rfl) (pe_call G1 (hr.mono (by decide)) rfl g1 k1 b1 .nil pass0 (pa_cons (pv 1) (pa_cons (pe_fld (pv 0) rfl) (pa_cons (pe_glob (v := .int 2000) rfl gMB ⟨_, rfl⟩) pa_nil))))) (pss_cons (ps_expr (pe_call GW (hr.mono (by decide)) rfl gW kW bW .nil (passes_call (takes_of rfl rfl rfl rfl) fun _ _ _ _ h => h) (pa_cons (pe_cmp (pc_notN (pv 2)) rfl) (pa_cons (pe_glob (v := .int (-33)) rfl gNS ⟨_, rfl⟩) pa_nil)))) (pss_one (ps_ret (pe_lst (pa_cons (pv 2) pa_nil))))))), ?_⟩
  obtain ⟨hp, hp9⟩ := okP_bounds (good p rfl)
  refine ⟨_, rfl, _, _, rfl, rfl, _, _, rfl, fun e => ?_, fun e d nd => ?_⟩
  · have h0 : n ≤ 1000 := by
      have z : (n : Int) ≤ 1000 := of_decide_eq_true e
      omega
    refine ⟨_, rfl, _, rfl, a, C, dx, _, _, rfl, hd, T.cl, T.nK, kF (some p), n, p, rfl, hp, hp9, h0, fun H1 s1 => ?_⟩
    cases q : likeAfter p n with
    | none => exact ⟨_, rfl, _, _, rfl, (fun c => by cases c), fun c d nd => out.refuse (re_like_none h0 q) s1 nd⟩
    | some m =>
      refine ⟨_, rfl, _, _, rfl, fun c => ?_, (fun c => by cases c)⟩
      refine ⟨_, rfl, lin1, fun r nr => ?_⟩
      exact out.tell (re_like h0 q) hD0 s1 nr rfl
  · have h0 : ¬ n ≤ 1000 := by
      have z : ¬ (n : Int) ≤ 1000 := of_decide_eq_false e
      omega
    exact out.refuse (re_like_no h0) (Same.refl H) nd
def spFrom (K : PySem.W.Frag) (C CF : Addr) (ok : Option Nat → Kp266.Call → Prop) : Sp := fun vs H Q E => ∃ (a l : Addr) (st : Option Nat) (x : Kp266.Call), vs = [.ref a, .ref l] ∧ SqL K H l (vs_ (args x)) ∧ ok st x ∧ Good st ∧ DeskAt C H a st ∧
  Out C CF a st H (reply st x) Q E
def below (p : Nat) (l : List Nat) : List Bool := l.map fun (d : Nat) => decide ((d : Int) < (p : Int))
theorem below_all {p : Nat} {l : List Nat} : (below p l).all id = true ↔ ∀ d ∈ l, d < p := by
  unfold below
  rw [List.all_map, List.all_eq_true]
  constructor
  · intro h n hn
    have z := h n hn
    simp only [Function.comp, id, decide_eq_true_eq] at z
    omega
  · intro h n hn
    have z := h n hn
    simp only [Function.comp, id, decide_eq_true_eq]
    omega
abbrev sFrom : Stmt := inClass (top 26) 11
theorem scFrom : FnScope ["self", "digits", "digit"] ["self", "digits"] (defScope sFrom) := ⟨rfl, rfl, rfl, by decide +kernel, rfl, by decide +kernel, by decide +kernel⟩
def okFrom : Option Nat → Kp266.Call → Prop := fun st x => ∃ p q0 q1 q2 q3, st = some p ∧ x = .from_ q0 q1 q2 q3
theorem ok_from {P : Program} {w : World} {K : PySem.W.Frag} {mg : Str → Option Value} {base : Heap} {C CF fI : Addr} {f : Addr} {fd : FuncData} (F : Fun K "number_of" "Desk.number_of" sFrom f fd) (T : Txt K mg C CF fI)
    (DW : Gd P w K mg base "want" (L2.CX P w) 1 ["truth", "code"] (spWant CF)) (D1 : Gd P w K mg base "number_of_written" CX0 1 ["digits", "prime"] (spNumber K)) :
    FnOk P w K mg base (L2.CX P w) 2 f fd ["self", "digits"] (spFrom K C CF okFrom) := by
  obtain ⟨fW, fdW, gW, kW, bW, GW⟩ := DW
  obtain ⟨f1, fd1, g1, k1, b1, G1⟩ := D1
  obtain ⟨tOB, gOB⟩ := T.cOB
  refine F.okX scFrom (fun vs H Q E h => ?_) (fun cdv A outer s H vs Q E hr h => ?_)
  · obtain ⟨a, l, st, x, rfl, _⟩ := h
    rfl
  obtain ⟨a, l, st, x, rfl, hl, ⟨p, q0, q1, q2, q3, rfl, rfl⟩, good, hD, out⟩ := h
  have hD0 := hD
  obtain ⟨dx, hd⟩ := hD
  refine ⟨_, (pss_cons (ps_expr (pe_call GW (hr.mono (by decide)) rfl gW kW bW .nil (passes_call (takes_of rfl rfl rfl rfl) fun _ _ _ _ h => h) (pa_cons (pe_callB (cr_all rfl) (by rfl) T.bAll (by decide +kernel) (pa_cons (pe_lc (own := [("digit", 2)]) (g := gName 2) (tt := tYes) (te := tLt (tVar 2) (tFld K (tVar 0) "kept")) rfl scFrom.nd (pi_list (pv 1)) (blkOk_by (own := [("digit", 2)]) (N := ["self", "digits", "digit"]) (sc := defScope sFrom) (by decide +kernel)) (fun _ _ _ _ _ => pg_name (i := 2) scFrom.nd rfl (Or.inl rfl)) (fun _ _ _ _ _ => pts_nil) (fun _ _ _ _ _ => pe_cmp (pc_lt (pv 2) (by exact (pe_fld (pv 0) rfl))) rfl)) pa_nil)) (pa_cons (pe_glob (v := .int (-22)) rfl gOB ⟨_, rfl⟩) pa_nil)))) (pss_one (ps_ret (pe_lst (pa_cons (pe_call G1 (hr.mono (by decide)) rfl g1 k1 b1 .nil pass0 (pa_cons (pv 1) (pa_cons (pe_fld (pv 0) rfl) pa_nil))) pa_nil))))), ?_⟩
  obtain ⟨hp, hp9⟩ := okP_bounds (good p rfl)
  refine ⟨_, rfl, l, rfl, ⟨_, hl⟩, fun D nD => ?_⟩
  refine lc_list (K := K) (a := l) (xs := vs_ [q0, q1, q2, q3]) (fun i H1 => Same H H1 ∧ H1 D = some (.lst ((below p ([q0, q1, q2, q3].take i)).map V.bl))) ⟨same_new nD, upd_same⟩ (fun i H1 _ q => q.1.seq hl) ?_ ?_
  · rintro i x H1 hx ⟨s1, h1⟩
    obtain ⟨n, hn, rfl⟩ := vs_get_of hx
    refine ⟨rfl, _, rfl, _, rfl, a, C, dx, _, _, rfl, s1 _ _ hd, T.cl, T.nK, kF (some p), _, _, rfl, rfl, _, h1, ?_, s1.put nD, ?_⟩
    · rw [List.length_map]
      unfold below
      rw [List.length_map, List.length_take]
      exact lin' (by show min i 4 < _; omega)
    · have e : [q0, q1, q2, q3].take (i + 1) = [q0, q1, q2, q3].take i ++ [n] := by
        rw [List.take_add_one, hn]
        rfl
      rw [upd_same, e]
      unfold below
      rw [List.map_append, List.map_append]
      rfl
  · rintro H1 ⟨s1, h1⟩
    rw [vs_len, List.take_length] at h1
    refine ⟨D, _, rfl, SqL.of h1, _, _, rfl, fun c => ?_, fun c d nd => ?_⟩
    · have z := below_all.mp c
      refine ⟨_, rfl, _, rfl, a, C, dx, _, _, rfl, s1 _ _ hd, T.cl, T.nK, kF (some p), l, _, p, rfl, s1.seq hl, hp9, ?_⟩
      refine ⟨lin1, fun r nr => ?_⟩
      rw [show horner p (args (.from_ q0 q1 q2 q3)) = _ from horner_four p q0 q1 q2 q3]
      exact out.tell (re_from ⟨z q0 (by simp), z q1 (by simp), z q2 (by simp), z q3 (by simp)⟩) hD0 s1 nr rfl
    · refine out.refuse (re_from_no fun z => ?_) s1 nd
      rw [below_all.mpr (by simpa using z)] at c
      cases c
abbrev sWithout : Stmt := inClass (top 26) 12
theorem scWithout : FnScope ["self", "one", "other"] ["self", "one", "other"] (defScope sWithout) := ⟨rfl, rfl, rfl, by decide +kernel, rfl, by decide +kernel, by decide +kernel⟩
def okWithout : Option Nat → Kp266.Call → Prop := fun st x => ∃ p m n, st = some p ∧ x = .without m n ∧ m ≤ MOST ∧ n ≤ MOST
theorem ok_without {P : Program} {w : World} {K : PySem.W.Frag} {mg : Str → Option Value} {base : Heap} {C CF fI : Addr} {f : Addr} {fd : FuncData} (F : Fun K "without" "Desk.without" sWithout f fd) (T : Txt K mg C CF fI)
    (DW : Gd P w K mg base "want" (L2.CX P w) 1 ["truth", "code"] (spWant CF)) (D1 : Gd P w K mg base "times_carried" CX0 3 ["one", "other", "prime"] spTimesC) :
    FnOk P w K mg base (L2.CX P w) 4 f fd ["self", "one", "other"] (spM C CF okWithout) := by
  obtain ⟨fW, fdW, gW, kW, bW, GW⟩ := DW
  obtain ⟨f1, fd1, g1, k1, b1, G1⟩ := D1
  obtain ⟨tNS, gNS⟩ := T.cNS
  refine F.okX scWithout (fun vs H Q E h => ?_) (fun cdv A outer s H vs Q E hr h => ?_)
  · obtain ⟨a, st, x, rfl, ⟨p, m, n, rfl, rfl, hm, hn⟩, _⟩ := h
    rfl
  obtain ⟨a, st, x, rfl, ⟨p, m, n, rfl, rfl, hm, hn⟩, good, hD, out⟩ := h
  have hD0 := hD
  obtain ⟨dx, hd⟩ := hD
  refine ⟨_, (pss_cons (ps_expr (pe_call GW (hr.mono (by decide)) rfl gW kW bW .nil (passes_call (takes_of rfl rfl rfl rfl) fun _ _ _ _ h => h) (pa_cons (pe_cmpR op_ge (pv 1) (pv 2) (nomark _)) (pa_cons (pe_glob (v := .int (-33)) rfl gNS ⟨_, rfl⟩) pa_nil)))) (pss_one (ps_ret (pe_lst (pa_cons (pe_op op_sub (pv 1) (pv 2)) (pa_cons (pe_call G1 (hr.mono (by decide)) rfl g1 k1 b1 .nil pass0 (pa_cons (pe_op op_sub (pv 1) (pv 2)) (pa_cons (pv 2) (pa_cons (pe_fld (pv 0) rfl) pa_nil)))) pa_nil)))))), ?_⟩
  obtain ⟨hp, hp9⟩ := okP_bounds (good p rfl)
  have hm' : m ≤ 1000000 := hm
  have hn' : n ≤ 1000000 := hn
  refine ⟨_, rfl, _, rfl, _, _, rfl, rfl, _, _, rfl, fun e => ?_, fun e d nd => ?_⟩
  · have h0 : n ≤ m := by
      have z : (n : Int) ≤ m := of_decide_eq_true e
      omega
    have es : (m : Int) - (n : Int) = ((m - n : Nat) : Int) := by omega
    refine ⟨_, rfl, _, rfl, _, _, rfl, rfl, _, rfl, _, rfl, _, _, rfl, rfl, _, rfl, _, rfl, a, C, dx, _, _, rfl, hd, T.cl, T.nK, kF (some p), m - n, n, p, by rw [← es]; rfl, hp, hp9, by omega, by omega, fun H1 s1 => ?_⟩
    refine ⟨lin2, fun r nr => ?_⟩
    show Q (.ref r) (upd H1 r (.lst [.int ((m : Int) - (n : Int)), .int ((places p (m - n) n).length : Int)]))
    rw [es]
    exact out.tell (re_without hm hn h0) hD0 s1 nr rfl
  · have h0 : ¬ n ≤ m := by
      have z : ¬ (n : Int) ≤ m := of_decide_eq_false e
      omega
    exact out.refuse (re_without_no hm hn h0) (Same.refl H) nd
end Co

/-! A method's call within a try: what it raises is wished for at the slots as they stand (as skel/30_by_hand has it) -/
namespace Co
open PySem PySem.Spec PyProof.Rows L2
def tMethS (C : Addr) (m : Str) (sp : Sp) (E : L2.St → XK) (ta : TE) (t : TA) : TE := fun σ H Q => ta σ H fun x H1 => ∃ a dx fs, x = .ref a ∧ H1 a = some (.ins C dx fs) ∧ fs.lookup m = none ∧ t σ H1 fun vs H2 => sp (x :: vs) H2 Q (E σ)
theorem pe_methS {X : Cx} {CX : CXT} {k : Nat} {f C : Addr} {fd : FuncData} {ps : List Str} {sp : Sp} {E : L2.St → XK} {m : Str} {pos apos : Pos} {e o : Expr} {es : List Expr} {ta : TE} {t : TA} {pl : Sem Bool} (he : PE X o ta) (c : Cls X.K C) (hm : Meth X.K C m f)
    (F : FnOk X.prog X.w X.K X.mg X.base CX k f fd ps sp) (hr : Room k X.A) (hb : Binds X.K fd ps []) (hx : ∀ σ, PassesAt CX X σ (E σ)) (ha : PA X (e :: es) t)
    (hst : starEach (e :: es) X.env = (false, eval e X.env) :: starEach es X.env := by rfl) (hpl : (backTo pos (starEach es X.env)).any (·.1) = false := by rfl)
    (ht : eval (.Call (.Attribute o m apos) (e :: es) [] pos) X.env = (do
      let ov ← eval o X.env
      standAt apos.atName
      let (f, first) ← holding [ov] (getMethod ov m pl)
      callWith pos f first (backTo pos (starEach (e :: es) X.env)) (backToKw pos (keywordEach [] X.env))) := by rfl) :
    PE X (.Call (.Attribute o m apos) (e :: es) [] pos) (tMethS C m sp E ta t) := by
  refine ⟨fun pins s σ H Q I h => ?_⟩
  refine PySem.W.methodCall_KW (pl := pl) (thn (he.run pins s σ H _ I h) fun u s1 ⟨x, H1, I1, rx, a, dx, fs, ex, ea, l, q⟩ => ?_) ht
  subst ex
  obtain rfl : u = Value.ref a := rx
  refine getmeth_ok I1 ea c hm l ?_
  refine PySem.W.callWith_K (first := [.ref a]) (h₀ := X.base) I.ok.mod.kin hm.kp (thn (ha.run pos pins s1 σ H1 _ I1 q) fun us s2 ⟨vs, H2, I2, r, q2⟩ => ⟨I2.kIn, ?_⟩) hst hpl
  exact run_fnS (us := .ref a :: us) (vs := .ref a :: vs) F hr hb (hx σ) I2 (.cons rfl r) q2
end Co
namespace Co
open PySem PySem.Spec PyProof.Rows L2
open Kp266 (okP digits cross places ways likeAfter mostCarries MOST)
theorem Out.after {C CF a : Addr} {st : Option Nat} {H H1 : Hp} {y : Option Nat × List Int} {Q : VK} {E : XK} (o : Out C CF a st H y Q E) (s : Same H H1) : Out C CF a st H1 y Q E :=
  ⟨fun H' d z e s' n h => o.no H' d z e (s.trans s') (s.free n) h, fun H' p n h k d => o.yes H' p (s.free n) h (fun b u hb ne => k b u (s b u hb) ne) d⟩
theorem DeskAt.after {C a : Addr} {st : Option Nat} {H H1 : Hp} (d : DeskAt C H a st) (s : Same H H1) : DeskAt C H1 a st := by
  obtain ⟨dx, h⟩ := d
  exact ⟨dx, s _ _ h⟩
/-- the calls with a bound of their own -/
def small (x : Kp266.Call) : Bool := [1, 9, 10, 11, 12].contains (num x)
def okSmall : Option Nat → Kp266.Call → Prop := fun st x => ∃ p, st = some p ∧ small x = true
def okPlain : Option Nat → Kp266.Call → Prop := fun st x => ∃ p, st = some p ∧ plain x = true
def okAny : Option Nat → Kp266.Call → Prop := fun _ _ => True

abbrev sSmall : Stmt := inClass (top 26) 13
theorem scSmall : FnScope ["self", "call", "n"] ["self", "call", "n"] (defScope sSmall) := ⟨rfl, rfl, rfl, by decide +kernel, rfl, by decide +kernel, by decide +kernel⟩
theorem ok_small {P : Program} {w : World} {K : PySem.W.Frag} {mg : Str → Option Value} {base : Heap} {C CF fI : Addr} {f : Addr} {fd : FuncData} (F : Fun K "small" "Desk.small" sSmall f fd) (T : Txt K mg C CF fI)
    (mP : Md P w K mg base C "prime" 2 ["self", "prime"] (spM C CF okPrime)) (mY : Md P w K mg base C "ways" 6 ["self", "number", "times"] (spM C CF okWays)) (mM : Md P w K mg base C "most" 5 ["self", "number"] (spM C CF okMost)) (mK : Md P w K mg base C "like" 4 ["self", "number"] (spM C CF okLike_)) (mF : Md P w K mg base C "number_of" 2 ["self", "digits"] (spFrom K C CF okFrom)) :
    FnOk P w K mg base (L2.CX P w) 7 f fd ["self", "call", "n"] (spC K C CF okSmall) := by
  obtain ⟨fP, fdP, MP, bP, GP⟩ := mP
  obtain ⟨fY, fdY, MY, bY, GY⟩ := mY
  obtain ⟨fM, fdM, MM, bM, GM⟩ := mM
  obtain ⟨fK, fdK, MK, bK, GK⟩ := mK
  obtain ⟨fF, fdF, MF, bF, GF⟩ := mF
  refine F.okX scSmall (fun vs H Q E h => ?_) (fun cdv A outer s H vs Q E hr h => ?_)
  · obtain ⟨a, l, st, x, rfl, _⟩ := h
    rfl
  obtain ⟨a, l, st, x, rfl, hl, ⟨p, rfl, hx⟩, good, hD, out⟩ := h
  have hD0 := hD
  obtain ⟨dx, hd⟩ := hD
  refine ⟨_, (pss_cons (ps_if (pt_cmp (pc_eqI (pv 1) pe_int)) (pss_one (ps_ret (pe_meth (pv 0) T.cl MP GP (hr.mono (by decide)) bP .nil (passes_call (takes_of rfl rfl rfl rfl) fun _ _ _ _ h => h) (pa_cons (pe_ix ix_list (pv 2) pe_int (fun _ _ => rfl)) pa_nil)))) pss_nil) (pss_cons (ps_if (pt_cmp (pc_eqI (pv 1) pe_int)) (pss_one (ps_ret (pe_meth (pv 0) T.cl MY GY (hr.mono (by decide)) bY .nil (passes_call (takes_of rfl rfl rfl rfl) fun _ _ _ _ h => h) (pa_cons (pe_ix ix_list (pv 2) pe_int (fun _ _ => rfl)) (pa_cons (pe_ix ix_list (pv 2) pe_int (fun _ _ => rfl)) pa_nil))))) pss_nil) (pss_cons (ps_if (pt_cmp (pc_eqI (pv 1) pe_int)) (pss_one (ps_ret (pe_meth (pv 0) T.cl MM GM (hr.mono (by decide)) bM .nil (passes_call (takes_of rfl rfl rfl rfl) fun _ _ _ _ h => h) (pa_cons (pe_ix ix_list (pv 2) pe_int (fun _ _ => rfl)) pa_nil)))) pss_nil) (pss_cons (ps_if (pt_cmp (pc_eqI (pv 1) pe_int)) (pss_one (ps_ret (pe_meth (pv 0) T.cl MK GK (hr.mono (by decide)) bK .nil (passes_call (takes_of rfl rfl rfl rfl) fun _ _ _ _ h => h) (pa_cons (pe_ix ix_list (pv 2) pe_int (fun _ _ => rfl)) pa_nil)))) pss_nil) (pss_one (ps_ret (pe_meth (pv 0) T.cl MF GF (hr.mono (by decide)) bF .nil (passes_call (takes_of rfl rfl rfl rfl) fun _ _ _ _ h => h) (pa_cons (pv 2) pa_nil)))))))), ?_⟩
  cases x <;> first | (cases hx; done) | skip
  · rename_i q
    refine ⟨_, rfl, _, _, rfl, rfl, _, rfl, ?_⟩
    refine if_true_of rfl ?_
    exact ⟨_, rfl, a, dx, _, rfl, hd, noF (by decide +kernel), _, rfl, l, _, _, _, rfl, rfl, hl, atI_nat (j := 0) (vs_get (by rfl)), a, some p, .prime q, rfl, ⟨p, q, rfl, rfl⟩, good, hD0, out⟩
  · rename_i n c
    refine ⟨_, rfl, _, _, rfl, rfl, _, rfl, ?_⟩
    refine if_false_of rfl ?_
    refine ⟨_, rfl, _, _, rfl, rfl, _, rfl, ?_⟩
    refine if_true_of rfl ?_
    exact ⟨_, rfl, a, dx, _, rfl, hd, noF (by decide +kernel), _, rfl, l, _, _, _, rfl, rfl, hl, atI_nat (j := 0) (vs_get (by rfl)), _, rfl, l, _, _, _, rfl, rfl, hl, atI_nat (j := 1) (vs_get (by rfl)), a, some p, .ways n c, rfl, ⟨p, n, c, rfl, rfl⟩, good, hD0, out⟩
  · rename_i n
    refine ⟨_, rfl, _, _, rfl, rfl, _, rfl, ?_⟩
    refine if_false_of rfl ?_
    refine ⟨_, rfl, _, _, rfl, rfl, _, rfl, ?_⟩
    refine if_false_of rfl ?_
    refine ⟨_, rfl, _, _, rfl, rfl, _, rfl, ?_⟩
    refine if_true_of rfl ?_
    exact ⟨_, rfl, a, dx, _, rfl, hd, noF (by decide +kernel), _, rfl, l, _, _, _, rfl, rfl, hl, atI_nat (j := 0) (vs_get (by rfl)), a, some p, .most n, rfl, ⟨p, n, rfl, rfl⟩, good, hD0, out⟩
  · rename_i n
    refine ⟨_, rfl, _, _, rfl, rfl, _, rfl, ?_⟩
    refine if_false_of rfl ?_
    refine ⟨_, rfl, _, _, rfl, rfl, _, rfl, ?_⟩
    refine if_false_of rfl ?_
    refine ⟨_, rfl, _, _, rfl, rfl, _, rfl, ?_⟩
    refine if_false_of rfl ?_
    refine ⟨_, rfl, _, _, rfl, rfl, _, rfl, ?_⟩
    refine if_true_of rfl ?_
    exact ⟨_, rfl, a, dx, _, rfl, hd, noF (by decide +kernel), _, rfl, l, _, _, _, rfl, rfl, hl, atI_nat (j := 0) (vs_get (by rfl)), a, some p, .like n, rfl, ⟨p, n, rfl, rfl⟩, good, hD0, out⟩
  · rename_i q0 q1 q2 q3
    refine ⟨_, rfl, _, _, rfl, rfl, _, rfl, ?_⟩
    refine if_false_of rfl ?_
    refine ⟨_, rfl, _, _, rfl, rfl, _, rfl, ?_⟩
    refine if_false_of rfl ?_
    refine ⟨_, rfl, _, _, rfl, rfl, _, rfl, ?_⟩
    refine if_false_of rfl ?_
    refine ⟨_, rfl, _, _, rfl, rfl, _, rfl, ?_⟩
    refine if_false_of rfl ?_
    exact ⟨_, rfl, a, dx, _, rfl, hd, noF (by decide +kernel), _, rfl, a, l, some p, .from_ q0 q1 q2 q3, rfl, hl, ⟨p, q0, q1, q2, q3, rfl, rfl⟩, good, hD0, out⟩
abbrev sPlain : Stmt := inClass (top 26) 14
theorem scPlain : FnScope ["self", "call", "n"] ["self", "call", "n"] (defScope sPlain) := ⟨rfl, rfl, rfl, by decide +kernel, rfl, by decide +kernel, by decide +kernel⟩
theorem ok_plain {P : Program} {w : World} {K : PySem.W.Frag} {mg : Str → Option Value} {base : Heap} {C CF fI : Addr} {f : Addr} {fd : FuncData} (F : Fun K "plain" "Desk.plain" sPlain f fd) (T : Txt K mg C CF fI)
    (mD : Md P w K mg base C "digits" 2 ["self", "number"] (spM C CF okDigits_)) (mL : Md P w K mg base C "places" 3 ["self", "one", "other"] (spM C CF okPlaces_)) (mT : Md P w K mg base C "three" 4 ["self", "one", "two", "three"] (spM C CF okThree)) (mI : Md P w K mg base C "times" 2 ["self", "number"] (spM C CF okTimes_)) (mN : Md P w K mg base C "next" 4 ["self", "number"] (spM C CF okNext)) (mO : Md P w K mg base C "without" 4 ["self", "one", "other"] (spM C CF okWithout))
    (D1 : Gd P w K mg base "want_numbers" (L2.CX P w) 2 ["numbers"] (spWantN K CF)) (D2 : Gd P w K mg base "cross_sum" CX0 2 ["number", "prime"] spCross) (D3 : Gd P w K mg base "times_carried" CX0 3 ["one", "other", "prime"] spTimesC) :
    FnOk P w K mg base (L2.CX P w) 7 f fd ["self", "call", "n"] (spC K C CF okPlain) := by
  obtain ⟨fD, fdD, MD, bD, GD⟩ := mD
  obtain ⟨fL, fdL, ML, bL, GL⟩ := mL
  obtain ⟨fT, fdT, MT, bT, GT⟩ := mT
  obtain ⟨fI, fdI, MI, bI, GI⟩ := mI
  obtain ⟨fN, fdN, MN, bN, GN⟩ := mN
  obtain ⟨fO, fdO, MO, bO, GO⟩ := mO
  obtain ⟨f1, fd1, g1, k1, b1, G1⟩ := D1
  obtain ⟨f2, fd2, g2, k2, b2, G2⟩ := D2
  obtain ⟨f3, fd3, g3, k3, b3, G3⟩ := D3
  refine F.okX scPlain (fun vs H Q E h => ?_) (fun cdv A outer s H vs Q E hr h => ?_)
  · obtain ⟨a, l, st, x, rfl, _⟩ := h
    rfl
  obtain ⟨a, l, st, x, rfl, hl, ⟨p, rfl, hx⟩, good, hD, out⟩ := h
  have hD0 := hD
  obtain ⟨dx, hd⟩ := hD
  obtain ⟨hp, hp9⟩ := okP_bounds (good p rfl)
  refine ⟨_, (pss_cons (ps_expr (pe_call G1 (hr.mono (by decide)) rfl g1 k1 b1 .nil (passes_call (takes_of rfl rfl rfl rfl) fun _ _ _ _ h => h) (pa_cons (pv 2) pa_nil))) (pss_cons (ps_if (pt_cmp (pc_eqI (pv 1) pe_int)) (pss_one (ps_ret (pe_meth (pv 0) T.cl MD GD (hr.mono (by decide)) bD .nil (passes_call (takes_of rfl rfl rfl rfl) fun _ _ _ _ h => h) (pa_cons (pe_ix ix_list (pv 2) pe_int (fun _ _ => rfl)) pa_nil)))) pss_nil) (pss_cons (ps_if (pt_cmp (pc_eqI (pv 1) pe_int)) (pss_one (ps_ret (pe_lst (pa_cons (pe_call G2 (hr.mono (by decide)) rfl g2 k2 b2 .nil pass0 (pa_cons (pe_ix ix_list (pv 2) pe_int (fun _ _ => rfl)) (pa_cons (pe_fld (pv 0) rfl) pa_nil))) pa_nil)))) pss_nil) (pss_cons (ps_if (pt_cmp (pc_eqI (pv 1) pe_int)) (pss_one (ps_ret (pe_lst (pa_cons (pe_call G3 (hr.mono (by decide)) rfl g3 k3 b3 .nil pass0 (pa_cons (pe_ix ix_list (pv 2) pe_int (fun _ _ => rfl)) (pa_cons (pe_ix ix_list (pv 2) pe_int (fun _ _ => rfl)) (pa_cons (pe_fld (pv 0) rfl) pa_nil)))) pa_nil)))) pss_nil) (pss_cons (ps_if (pt_cmp (pc_eqI (pv 1) pe_int)) (pss_one (ps_ret (pe_meth (pv 0) T.cl ML GL (hr.mono (by decide)) bL .nil (passes_call (takes_of rfl rfl rfl rfl) fun _ _ _ _ h => h) (pa_cons (pe_ix ix_list (pv 2) pe_int (fun _ _ => rfl)) (pa_cons (pe_ix ix_list (pv 2) pe_int (fun _ _ => rfl)) pa_nil))))) pss_nil) (pss_cons (ps_if (pt_cmp (pc_eqI (pv 1) pe_int)) (pss_one (ps_ret (pe_meth (pv 0) T.cl MT GT (hr.mono (by decide)) bT .nil (passes_call (takes_of rfl rfl rfl rfl) fun _ _ _ _ h => h) (pa_cons (pe_ix ix_list (pv 2) pe_int (fun _ _ => rfl)) (pa_cons (pe_ix ix_list (pv 2) pe_int (fun _ _ => rfl)) (pa_cons (pe_ix ix_list (pv 2) pe_int (fun _ _ => rfl)) pa_nil)))))) pss_nil) (pss_cons (ps_if (pt_cmp (pc_eqI (pv 1) pe_int)) (pss_one (ps_ret (pe_meth (pv 0) T.cl MI GI (hr.mono (by decide)) bI .nil (passes_call (takes_of rfl rfl rfl rfl) fun _ _ _ _ h => h) (pa_cons (pe_ix ix_list (pv 2) pe_int (fun _ _ => rfl)) pa_nil)))) pss_nil) (pss_one (ps_ret (pe_ifExp (pt_cmp (pc_eqI (pv 1) pe_int)) (pe_meth (pv 0) T.cl MN GN (hr.mono (by decide)) bN .nil (passes_call (takes_of rfl rfl rfl rfl) fun _ _ _ _ h => h) (pa_cons (pe_ix ix_list (pv 2) pe_int (fun _ _ => rfl)) pa_nil)) (pe_meth (pv 0) T.cl MO GO (hr.mono (by decide)) bO .nil (passes_call (takes_of rfl rfl rfl rfl) fun _ _ _ _ h => h) (pa_cons (pe_ix ix_list (pv 2) pe_int (fun _ _ => rfl)) (pa_cons (pe_ix ix_list (pv 2) pe_int (fun _ _ => rfl)) pa_nil))))))))))))), ?_⟩
  refine ⟨_, rfl, l, args x, rfl, hl, ?_, fun ok H1 s1 => ?_, fun no H1 d s1 nd => out.refuse (re_plain_no hx no) s1 nd⟩
  · cases x <;> (simp only [args, List.length_cons, List.length_nil]; omega)
  have hd1 := s1 _ _ hd
  have hl1 := s1.seq hl
  have hD1 := hD0.after s1
  have out1 := out.after s1
  have le : ∀ {n : Nat}, n ∈ args x → n ≤ 1000000 := fun {n} h => ok n h
  cases x <;> first | (cases hx; done) | skip
  · rename_i n
    refine ⟨_, rfl, _, _, rfl, rfl, _, rfl, ?_⟩
    refine if_true_of rfl ?_
    exact ⟨_, rfl, a, dx, _, rfl, hd1, noF (by decide +kernel), _, rfl, l, _, _, _, rfl, rfl, hl1, atI_nat (j := 0) (vs_get (by rfl)), a, some p, .digits n, rfl, ⟨p, n, rfl, rfl, (ok n (by simp [args]))⟩, good, hD1, out1⟩
  · rename_i n
    refine ⟨_, rfl, _, _, rfl, rfl, _, rfl, ?_⟩
    refine if_false_of rfl ?_
    refine ⟨_, rfl, _, _, rfl, rfl, _, rfl, ?_⟩
    refine if_true_of rfl ?_
    have hn : n ≤ 1000000 := (ok n (by simp [args]))
    refine ⟨_, rfl, l, _, _, _, rfl, rfl, hl1, atI_nat (j := 0) (vs_get (by rfl)), _, rfl, a, C, dx, _, _, rfl, hd1, T.cl, T.nK, kF (some p), n, p, rfl, hp, hp9, by omega, fun H2 s2 => ?_⟩
    refine ⟨lin1, fun r nr => ?_⟩
    exact out1.tell (re_cross hn) hD1 s2 nr rfl
  · rename_i m n
    refine ⟨_, rfl, _, _, rfl, rfl, _, rfl, ?_⟩
    refine if_false_of rfl ?_
    refine ⟨_, rfl, _, _, rfl, rfl, _, rfl, ?_⟩
    refine if_false_of rfl ?_
    refine ⟨_, rfl, _, _, rfl, rfl, _, rfl, ?_⟩
    refine if_true_of rfl ?_
    have hm : m ≤ 1000000 := (ok m (by simp [args]))
    have hn : n ≤ 1000000 := (ok n (by simp [args]))
    refine ⟨_, rfl, l, _, _, _, rfl, rfl, hl1, atI_nat (j := 0) (vs_get (by rfl)), _, rfl, l, _, _, _, rfl, rfl, hl1, atI_nat (j := 1) (vs_get (by rfl)), _, rfl, a, C, dx, _, _, rfl, hd1, T.cl, T.nK, kF (some p), m, n, p, rfl, hp, hp9, by omega, by omega, fun H2 s2 => ?_⟩
    refine ⟨lin1, fun r nr => ?_⟩
    exact out1.tell (re_carries hm hn) hD1 s2 nr rfl
  · rename_i m n
    refine ⟨_, rfl, _, _, rfl, rfl, _, rfl, ?_⟩
    refine if_false_of rfl ?_
    refine ⟨_, rfl, _, _, rfl, rfl, _, rfl, ?_⟩
    refine if_false_of rfl ?_
    refine ⟨_, rfl, _, _, rfl, rfl, _, rfl, ?_⟩
    refine if_false_of rfl ?_
    refine ⟨_, rfl, _, _, rfl, rfl, _, rfl, ?_⟩
    refine if_true_of rfl ?_
    exact ⟨_, rfl, a, dx, _, rfl, hd1, noF (by decide +kernel), _, rfl, l, _, _, _, rfl, rfl, hl1, atI_nat (j := 0) (vs_get (by rfl)), _, rfl, l, _, _, _, rfl, rfl, hl1, atI_nat (j := 1) (vs_get (by rfl)), a, some p, .places m n, rfl, ⟨p, m, n, rfl, rfl, (ok m (by simp [args])), (ok n (by simp [args]))⟩, good, hD1, out1⟩
  · rename_i m n o
    refine ⟨_, rfl, _, _, rfl, rfl, _, rfl, ?_⟩
    refine if_false_of rfl ?_
    refine ⟨_, rfl, _, _, rfl, rfl, _, rfl, ?_⟩
    refine if_false_of rfl ?_
    refine ⟨_, rfl, _, _, rfl, rfl, _, rfl, ?_⟩
    refine if_false_of rfl ?_
    refine ⟨_, rfl, _, _, rfl, rfl, _, rfl, ?_⟩
    refine if_false_of rfl ?_
    refine ⟨_, rfl, _, _, rfl, rfl, _, rfl, ?_⟩
    refine if_true_of rfl ?_
    exact ⟨_, rfl, a, dx, _, rfl, hd1, noF (by decide +kernel), _, rfl, l, _, _, _, rfl, rfl, hl1, atI_nat (j := 0) (vs_get (by rfl)), _, rfl, l, _, _, _, rfl, rfl, hl1, atI_nat (j := 1) (vs_get (by rfl)), _, rfl, l, _, _, _, rfl, rfl, hl1, atI_nat (j := 2) (vs_get (by rfl)), a, some p, .three m n o, rfl, ⟨p, m, n, o, rfl, rfl, (ok m (by simp [args])), (ok n (by simp [args])), (ok o (by simp [args]))⟩, good, hD1, out1⟩
  · rename_i n
    refine ⟨_, rfl, _, _, rfl, rfl, _, rfl, ?_⟩
    refine if_false_of rfl ?_
    refine ⟨_, rfl, _, _, rfl, rfl, _, rfl, ?_⟩
    refine if_false_of rfl ?_
    refine ⟨_, rfl, _, _, rfl, rfl, _, rfl, ?_⟩
    refine if_false_of rfl ?_
    refine ⟨_, rfl, _, _, rfl, rfl, _, rfl, ?_⟩
    refine if_false_of rfl ?_
    refine ⟨_, rfl, _, _, rfl, rfl, _, rfl, ?_⟩
    refine if_false_of rfl ?_
    refine ⟨_, rfl, _, _, rfl, rfl, _, rfl, ?_⟩
    refine if_true_of rfl ?_
    exact ⟨_, rfl, a, dx, _, rfl, hd1, noF (by decide +kernel), _, rfl, l, _, _, _, rfl, rfl, hl1, atI_nat (j := 0) (vs_get (by rfl)), a, some p, .times n, rfl, ⟨p, n, rfl, rfl, (ok n (by simp [args]))⟩, good, hD1, out1⟩
  · rename_i n
    refine ⟨_, rfl, _, _, rfl, rfl, _, rfl, ?_⟩
    refine if_false_of rfl ?_
    refine ⟨_, rfl, _, _, rfl, rfl, _, rfl, ?_⟩
    refine if_false_of rfl ?_
    refine ⟨_, rfl, _, _, rfl, rfl, _, rfl, ?_⟩
    refine if_false_of rfl ?_
    refine ⟨_, rfl, _, _, rfl, rfl, _, rfl, ?_⟩
    refine if_false_of rfl ?_
    refine ⟨_, rfl, _, _, rfl, rfl, _, rfl, ?_⟩
    refine if_false_of rfl ?_
    refine ⟨_, rfl, _, _, rfl, rfl, _, rfl, ?_⟩
    refine if_false_of rfl ?_
    refine ⟨_, rfl, _, _, rfl, rfl, _, rfl, ?_⟩
    refine if_true_of rfl ?_
    exact ⟨_, rfl, a, dx, _, rfl, hd1, noF (by decide +kernel), _, rfl, l, _, _, _, rfl, rfl, hl1, atI_nat (j := 0) (vs_get (by rfl)), a, some p, .next n, rfl, ⟨p, n, rfl, rfl, (ok n (by simp [args]))⟩, good, hD1, out1⟩
  · rename_i m n
    refine ⟨_, rfl, _, _, rfl, rfl, _, rfl, ?_⟩
    refine if_false_of rfl ?_
    refine ⟨_, rfl, _, _, rfl, rfl, _, rfl, ?_⟩
    refine if_false_of rfl ?_
    refine ⟨_, rfl, _, _, rfl, rfl, _, rfl, ?_⟩
    refine if_false_of rfl ?_
    refine ⟨_, rfl, _, _, rfl, rfl, _, rfl, ?_⟩
    refine if_false_of rfl ?_
    refine ⟨_, rfl, _, _, rfl, rfl, _, rfl, ?_⟩
    refine if_false_of rfl ?_
    refine ⟨_, rfl, _, _, rfl, rfl, _, rfl, ?_⟩
    refine if_false_of rfl ?_
    refine ⟨_, rfl, _, _, rfl, rfl, _, rfl, ?_⟩
    refine if_false_of rfl ?_
    exact ⟨_, rfl, a, dx, _, rfl, hd1, noF (by decide +kernel), _, rfl, l, _, _, _, rfl, rfl, hl1, atI_nat (j := 0) (vs_get (by rfl)), _, rfl, l, _, _, _, rfl, rfl, hl1, atI_nat (j := 1) (vs_get (by rfl)), a, some p, .without m n, rfl, ⟨p, m, n, rfl, rfl, (ok m (by simp [args])), (ok n (by simp [args]))⟩, good, hD1, out1⟩
theorem in_small (x : Kp266.Call) : inV (.int (num x : Int)) [.int 1, .int 9, .int 10, .int 11, .int 12] = small x := by cases x <;> rfl
theorem rest_plain {x : Kp266.Call} (h0 : num x ≠ 0) (h1 : num x ≠ 14) (h2 : small x = false) : plain x = true := by
  cases x <;> first | rfl | (exact absurd rfl h0) | (exact absurd rfl h1) | (cases h2; done)
theorem is_begin {x : Kp266.Call} (h : num x = 0) : ∃ q, x = .begin_ q := by
  cases x <;> first | exact ⟨_, rfl⟩ | (cases h; done)
theorem is_told {x : Kp266.Call} (h : num x = 14) : x = .told := by
  cases x <;> first | rfl | (cases h; done)
abbrev sCalled : Stmt := inClass (top 26) 15
theorem scCalled : FnScope ["self", "call", "n"] ["self", "call", "n"] (defScope sCalled) := ⟨rfl, rfl, rfl, by decide +kernel, rfl, by decide +kernel, by decide +kernel⟩
theorem ok_called {P : Program} {w : World} {K : PySem.W.Frag} {mg : Str → Option Value} {base : Heap} {C CF fI : Addr} {f : Addr} {fd : FuncData} (F : Fun K "called" "Desk.called" sCalled f fd) (T : Txt K mg C CF fI)
    (mB : Md P w K mg base C "begin" 2 ["self", "prime"] (spM C CF okBegin)) (mS : Md P w K mg base C "small" 7 ["self", "call", "n"] (spC K C CF okSmall)) (mQ : Md P w K mg base C "plain" 7 ["self", "call", "n"] (spC K C CF okPlain))
    (D1 : Gd P w K mg base "want" (L2.CX P w) 1 ["truth", "code"] (spWant CF)) :
    FnOk P w K mg base (L2.CX P w) 8 f fd ["self", "call", "n"] (spC K C CF okAny) := by
  obtain ⟨fB, fdB, MB, bB, GB⟩ := mB
  obtain ⟨fS, fdS, MS, bS, GS⟩ := mS
  obtain ⟨fQ, fdQ, MQ, bQ, GQ⟩ := mQ
  obtain ⟨f1, fd1, g1, k1, b1, G1⟩ := D1
  obtain ⟨tNP, gNP⟩ := T.cNP
  refine F.okX scCalled (fun vs H Q E h => ?_) (fun cdv A outer s H vs Q E hr h => ?_)
  · obtain ⟨a, l, st, x, rfl, _⟩ := h
    rfl
  obtain ⟨a, l, st, x, rfl, hl, _, good, hD, out⟩ := h
  have hD0 := hD
  obtain ⟨dx, hd⟩ := hD
  refine ⟨_, (pss_cons (ps_if (pt_cmp (pc_eqI (pv 1) pe_int)) (pss_one (ps_ret (pe_meth (pv 0) T.cl MB GB (hr.mono (by decide)) bB .nil (passes_call (takes_of rfl rfl rfl rfl) fun _ _ _ _ h => h) (pa_cons (pe_ix ix_list (pv 2) pe_int (fun _ _ => rfl)) pa_nil)))) pss_nil) (pss_cons (ps_expr (pe_call G1 (hr.mono (by decide)) rfl g1 k1 b1 .nil (passes_call (takes_of rfl rfl rfl rfl) fun _ _ _ _ h => h) (pa_cons (pe_cmp (pc_notN (pe_fld (pv 0) rfl)) rfl) (pa_cons (pe_glob (v := .int (-11)) rfl gNP ⟨_, rfl⟩) pa_nil)))) (pss_cons (ps_if (pt_cmp (pc_eqI (pv 1) pe_int)) (pss_one (ps_ret (pe_lst (pa_cons (pe_fld (pv 0) rfl) pa_nil)))) pss_nil) (pss_one (ps_ret (pe_ifExp (pt_cmpR op_in_seq (pv 1) (pe_tup (pa_cons pe_int (pa_cons pe_int (pa_cons pe_int (pa_cons pe_int (pa_cons pe_int pa_nil)))))) (by rfl)) (pe_meth (pv 0) T.cl MS GS (hr.mono (by decide)) bS .nil (passes_call (takes_of rfl rfl rfl rfl) fun _ _ _ _ h => h) (pa_cons (pv 1) (pa_cons (pv 2) pa_nil))) (pe_meth (pv 0) T.cl MQ GQ (hr.mono (by decide)) bQ .nil (passes_call (takes_of rfl rfl rfl rfl) fun _ _ _ _ h => h) (pa_cons (pv 1) (pa_cons (pv 2) pa_nil))))))))), ?_⟩
  refine ⟨_, rfl, _, _, rfl, rfl, _, rfl, ?_⟩
  by_cases h0 : num x = 0
  · refine if_true_of (decide_eq_true (by rw [h0]; rfl)) ?_
    obtain ⟨q, rfl⟩ := is_begin h0
    exact ⟨_, rfl, a, dx, _, rfl, hd, noF (by decide +kernel), _, rfl, l, _, _, _, rfl, rfl, hl, atI_nat (j := 0) (vs_get (by rfl)), a, st, .begin_ q, rfl, ⟨q, rfl⟩, good, hD0, out⟩
  refine if_false_of (decide_eq_false (by omega)) ?_
  refine ⟨_, rfl, a, C, dx, _, _, rfl, hd, T.cl, T.nK, kF st, _, _, rfl, fun c => ?_, fun c d nd => ?_⟩
  · cases st with
    | none => cases c
    | some p =>
      refine ⟨_, rfl, _, _, rfl, rfl, _, rfl, ?_⟩
      by_cases h1 : num x = 14
      · refine if_true_of (decide_eq_true (by rw [h1]; rfl)) ?_
        obtain rfl := is_told h1
        refine ⟨_, rfl, a, C, dx, _, _, rfl, hd, T.cl, T.nK, kF (some p), lin1, fun r nr => ?_⟩
        exact out.tell re_told hD0 (Same.refl H) nr rfl
      refine if_false_of (decide_eq_false (by omega)) ?_
      refine ⟨_, rfl, lin (by show 5 ≤ 16777216; decide), fun t nt => ⟨t, _, rfl, .inr (SqT.of upd_same), rfl, rfl, _, rfl, ?_⟩⟩
      have s1 : Same H (upd H t (.tup [.int 1, .int 9, .int 10, .int 11, .int 12])) := same_new nt
      show (if inV (.int (num x : Int)) [.int 1, .int 9, .int 10, .int 11, .int 12] = true then _ else _)
      rw [in_small]
      by_cases h2 : small x = true
      · refine if_true_of h2 ?_
        exact ⟨_, rfl, a, dx, _, rfl, s1 _ _ hd, noF (by decide +kernel), _, rfl, _, rfl, a, l, some p, x, rfl, s1.seq hl, ⟨p, rfl, h2⟩, good, hD0.after s1, out.after s1⟩
      · have h2' : small x = false := by
          cases q : small x with
          | true => exact absurd q h2
          | false => rfl
        refine if_false_of h2' ?_
        exact ⟨_, rfl, a, dx, _, rfl, s1 _ _ hd, noF (by decide +kernel), _, rfl, _, rfl, a, l, some p, x, rfl, s1.seq hl, ⟨p, rfl, rest_plain h0 h1 h2'⟩, good, hD0.after s1, out.after s1⟩
  · cases st with
    | none => exact out.refuse (re_none h0) (Same.refl H) nd
    | some p => cases c
def spA (K : PySem.W.Frag) (C : Addr) : Sp := fun vs H Q _ => ∃ (a l : Addr) (st : Option Nat) (x : Kp266.Call), vs = [.ref a, .int (num x : Int), .ref l] ∧ SqL K H l (vs_ (args x)) ∧ Good st ∧ DeskAt C H a st ∧
  ∀ (H' : Hp) (p : Addr), H p = none → H' p = some (.lst ((reply st x).2.map V.int)) → Kept a H H' → DeskAt C H' a (reply st x).1 → Q (.ref p) H'
abbrev sAnswer : Stmt := inClass (top 26) 16
theorem scAnswer : FnScope ["self", "call", "n", "e"] ["self", "call", "n"] (defScope sAnswer) := ⟨rfl, rfl, rfl, by decide +kernel, rfl, by decide +kernel, by decide +kernel⟩
theorem ok_answer {P : Program} {w : World} {K : PySem.W.Frag} {mg : Str → Option Value} {base : Heap} {C CF fI : Addr} {f : Addr} {fd : FuncData} (F : Fun K "answer" "Desk.answer" sAnswer f fd) (T : Txt K mg C CF fI)
    (mZ : Md P w K mg base C "called" 8 ["self", "call", "n"] (spC K C CF okAny)) :
    FnOk P w K mg base CX0 9 f fd ["self", "call", "n"] (spA K C) := by
  obtain ⟨fZ, fdZ, MZ, bZ, GZ⟩ := mZ
  refine F.ok scAnswer (fun vs H Q E h => ?_) (fun cdv A outer s H vs Q E hr h => ?_)
  · obtain ⟨a, l, st, x, rfl, _⟩ := h
    rfl
  obtain ⟨a, l, st, x, rfl, hl, good, hD, k⟩ := h
  have hD0 := hD
  obtain ⟨dx, hd⟩ := hD
  refine ⟨_, pss_one (ps_try_as (i := 3) (tb := fun W => tRet (tMethS C "called" (spC K C CF okAny) (WE W) (tVar 0) (tCons (tVar 1) (tCons (tVar 2) tNil)))) (ts := fun a0 cls d => tRet (tLst (tCons (tCode CF a0 cls d (tVar 3)) tNil))) (Wout := fun _ _ _ _ => False) rfl rfl scAnswer.nd rfl rfl ⟨rfl, by decide, Or.inl T.low.gC⟩ takes0
    (fun W pn xe tk _ => pss_one (ps_ret (pe_methS (pv 0) T.cl MZ GZ (hr.mono (by decide)) bZ (fun σ => passAt tk σ) (by exact (pa_cons (pv 1) (pa_cons (pv 2) pa_nil))))))
    (fun a0 oe cls d pn hz hf => pss_one (ps_ret (pe_lst (pa_cons (by exact (pe_code T.low hz hf (pv 3))) pa_nil))))), ?_⟩
  refine ⟨_, rfl, a, dx, _, rfl, hd, noF (by decide +kernel), _, rfl, _, rfl, a, l, st, x, rfl, hl, trivial, good, hD0, ⟨fun H1 d z e s1 nd h1 => ?_, fun H1 p n h1 kp d1 => k H1 p n h1 kp d1⟩⟩
  refine ⟨true, T.low.te, fun _ a0 _ => ?_, fun q => Bool.noConfusion q⟩
  refine ⟨_, rfl, rfl, rfl, d, _, rfl, h1, lin1, fun r nr => ?_⟩
  have s2 : Same H (upd H1 r (.lst [.int z])) := s1.trans (same_new nr)
  refine k _ r (s1.free nr) ?_ (Kept.of s2) ?_
  · rw [upd_same, e]
    rfl
  · rw [e]
    exact hD0.after s2
theorem cut_args {ns : List Int} {i k : Nat} (h : i + 1 + k ≤ ns.length) : cutV (ns.map V.int) (some ((i : Int) + 1)) (some ((i : Int) + 1 + (k : Int))) = ((ns.drop (i + 1)).take k).map V.int := by
  have e1 : (i : Int) + 1 = ((i + 1 : Nat) : Int) := by omega
  have e2 : ((i + 1 : Nat) : Int) + (k : Int) = ((i + 1 + k : Nat) : Int) := by omega
  unfold cutV
  rw [e1, e2, HT.sIx_nat, HT.sIx_nat, List.length_map, Nat.min_eq_left (by omega), Nat.min_eq_left (by omega), Nat.add_sub_cancel_left, ← List.map_drop, ← List.map_take]
def spAns (K : PySem.W.Frag) : Sp := fun vs H Q _ => ∃ (a : Addr) (ns : List Int), vs = [.ref a] ∧ SqL K H a (ns.map V.int) ∧ ns.length ≤ 1000 ∧ PyKp266.answers_asked ns = true ∧
  ∀ (H' : Hp) (p : Addr), H' p = some (.lst ((PyKp266.answers ns).map V.int)) → Q (.ref p) H'
abbrev sAns : Stmt := top 29
theorem scAns : FnScope ["calls", "desk", "found", "at", "call", "behind", "said"] ["calls"] (defScope sAns) := ⟨rfl, rfl, rfl, by decide +kernel, rfl, by decide +kernel, by decide +kernel⟩
theorem ok_ans {P : Program} {w : World} {K : PySem.W.Frag} {mg : Str → Option Value} {base : Heap} {C CF fI : Addr} {f : Addr} {fd : FuncData} {fA fT : Addr} {fdA fdT : FuncData} (F : Fun K "answers" "answers" sAns f fd) (T : Txt K mg C CF fI) (Mk0 : Mk K C fT) (GI : FnOk P w K mg base CX0 1 fT fdT ["self"] (spInit C)) (bI : Binds K fdT ["self"] [])
    (MA : Meth K C "answer" fA) (bA : Binds K fdA ["self", "call", "n"] []) (GA : FnOk P w K mg base CX0 9 fA fdA ["self", "call", "n"] (spA K C)) :
    FnOk P w K mg base CX0 10 f fd ["calls"] (spAns K) := by
  obtain ⟨aN, gN, hN⟩ := T.cNU
  refine F.ok scAns (fun vs H Q E h => ?_) (fun cdv A outer s H vs Q E hr h => ?_)
  · obtain ⟨a, ns, rfl, _⟩ := h
    rfl
  obtain ⟨a, ns, rfl, hS, hlen, hask, k⟩ := h
  obtain ⟨start0, hbig⟩ := Rest.start hask
  refine ⟨_, (pss_cons (ps_set (i := 1) scAns.nd rfl (.inl rfl) (pe_make0 Mk0 GI (hr.mono (by decide)) rfl T.gC bI .nil pass0)) (pss_cons (ps_set (i := 2) scAns.nd rfl (.inl rfl) (pe_lst pa_nil)) (pss_cons (ps_set (i := 3) scAns.nd rfl (.inl rfl) pe_int) (pss_cons (ps_while PassesOwn.never (pt_cmpR op_lt (pv 3) (pe_callB call_len_seq (by rfl) T.bLen PySem.boot_len (pa_cons (pv 0) pa_nil)) (nomark _)) (pss_cons (ps_set (i := 4) scAns.nd rfl (.inl rfl) (pe_ix ix_list (pv 0) (pv 3) (fun _ _ => rfl))) (pss_cons (ps_set (i := 5) scAns.nd rfl (.inl rfl) (pe_op op_add (pe_op op_add (pv 3) pe_int) (pe_ix ix_tup (pe_glob (v := .ref aN) rfl gN rfl) (pv 4) (fun _ _ => rfl)))) (pss_cons (ps_set (i := 6) scAns.nd rfl (.inl rfl) (pe_meth (pv 1) T.cl MA GA (hr.mono (by decide)) bA .nil pass0 (pa_cons (pv 4) (pa_cons (pe_slice sl_list (pv 0) (po_some (pe_op op_add (pv 3) pe_int)) (po_some (pv 5))) pa_nil)))) (pss_cons (ps_expr (pe_bm PySem.F.plainAttrs_list PySem.F.slot_list_append PySem.F.type_list_append mt_append (pv 2) (pa_cons (pe_callB call_len_seq (by rfl) T.bLen PySem.boot_len (pa_cons (pv 6) pa_nil)) pa_nil))) (pss_cons (ps_expr (pe_bm PySem.F.plainAttrs_list PySem.F.slot_list_extend PySem.F.type_list_extend mt_extend (pv 2) (pa_cons (pv 6) pa_nil))) (pss_one (ps_set (i := 3) scAns.nd rfl (.inl rfl) (pv 5))))))))) (pss_one (ps_ret (pv 2))))))), ?_⟩
  intro x0 dx0 nx nd ne
  refine ⟨x0, dx0, rfl, upd_same, fun H1 d1 kp1 => ⟨rfl, ?_⟩⟩
  have s1 : Same H H1 := fun b o e => by
    have hb : b ≠ x0 := ne_of_none e nx
    refine kp1 b o ?_ hb
    rw [upd_ne hb, upd_ne (ne_of_none e nd)]
    exact e
  refine ⟨lin (by decide), fun l hl => ?_⟩
  have lx : l ≠ x0 := fun c => by
    obtain ⟨dx, z⟩ := d1
    rw [← c, hl] at z
    cases z
  have nl : H l = none := s1.free hl
  refine ⟨fun m σ H2 => ∃ (i : Nat) (out : List Int) (st : Option Nat) (v4 v5 v6 : Option V), m = ns.length - i ∧ i ≤ ns.length ∧ σ = [some (.ref a), some (.ref x0), some (.ref l), some (.int (i : Int)), v4, v5, v6] ∧ Same H H2 ∧ H2 l = some (.lst (out.map V.int)) ∧
    DeskAt C H2 x0 st ∧ Good st ∧ Rest (PyKp266.answers ns) st (ns.drop i) out, ⟨ns.length, 0, [], none, none, none, none, rfl, Nat.zero_le _, rfl, s1.trans (same_new hl), upd_same, d1.after (same_new hl), good_none, start0⟩, ?_⟩
  rintro m σ H2 ⟨i, out, st, v4, v5, v6, rfl, hi, rfl, s2, h2, d2, good, rest⟩
  have hS2 : SqL K H2 a (ns.map V.int) := s2.seq hS
  refine ⟨_, rfl, _, rfl, a, _, rfl, .inl hS2, _, _, rfl, rfl, _, rfl, ?_⟩
  rw [List.length_map]
  by_cases c : i < ns.length
  · refine if_true_of (decide_eq_true (by omega)) ?_
    obtain ⟨q, hq⟩ : ∃ q, ns[i]? = some q := ⟨ns[i], List.getElem?_eq_getElem c⟩
    have hdrop : ns.drop i = q :: ns.drop (i + 1) := by
      rw [List.getElem?_eq_getElem c] at hq
      rw [List.drop_eq_getElem_cons c, Option.some.inj hq]
    rw [hdrop] at rest
    obtain ⟨x, rfl, hle, htake, rest2⟩ := rest.step
    rw [List.length_drop] at hle
    rw [List.drop_drop] at rest2
    have big := Nat.le_trans rest2.len hbig
    have hcut := cut_args (ns := ns) (i := i) (k := (args x).length) (by omega)
    rw [htake] at hcut
    refine ⟨fun σ' H' => ∃ (out : List Int) (st : Option Nat) (v4 v5 v6 : Option V), σ' = [some (.ref a), some (.ref x0), some (.ref l), some (.int ((i + 1 + (args x).length : Nat) : Int)), v4, v5, v6] ∧ Same H H' ∧ H' l = some (.lst (out.map V.int)) ∧
      DeskAt C H' x0 st ∧ Good st ∧ Rest (PyKp266.answers ns) st (ns.drop (i + 1 + (args x).length)) out, fun σ' H' ⟨out, st, v4, v5, v6, w⟩ => ⟨ns.length - (i + 1 + (args x).length), by omega, i + 1 + (args x).length, out, st, v4, v5, v6, rfl, by omega, w⟩, ?_⟩
    refine ⟨_, rfl, _, rfl, a, _, _, _, rfl, rfl, hS2, atI_nat (by rw [List.getElem?_map, hq]; rfl), ?_⟩
    refine ⟨_, rfl, _, _, rfl, rfl, _, rfl, aN, _, _, _, rfl, rfl, hN H2, atI_nat (vs_get (most_at x)), _, _, rfl, rfl, ?_⟩
    obtain ⟨dx2, hd2⟩ := d2
    refine ⟨_, rfl, x0, dx2, _, rfl, hd2, noF (by decide +kernel), _, rfl, _, rfl, _, rfl, _, _, rfl, rfl, _, rfl, _, rfl, _, rfl, a, _, rfl, hS2, fun sl nsl => ?_⟩
    have s3 : Same H2 (upd H2 sl (.lst (cutV (ns.map V.int) (some ((i : Int) + 1)) (some ((i : Int) + 1 + ((args x).length : Int)))))) := same_new nsl
    refine ⟨x0, sl, st, x, rfl, ?_, good, ⟨dx2, s3 _ _ hd2⟩, fun H4 p np h4 kp4 d4 => ?_⟩
    · refine SqL.of ?_
      rw [upd_same]
      exact congrArg (fun z => some (HO.lst z)) hcut
    have hl4 : H4 l = some (.lst (out.map V.int)) := kp4 _ _ (s3 _ _ h2) lx
    have pl : p ≠ l := fun z => by
      rw [z, s3 _ _ h2] at np
      cases np
    have s4 : Same H H4 := fun b o e => kp4 b o (s3 b o (s2 b o e)) (ne_of_none e nx)
    have len4 : out.length + 1 + (reply st x).2.length ≤ 10000000 := by
      have z := big
      rw [List.length_append, List.length_cons] at z
      omega
    refine ⟨_, rfl, .inl ⟨rfl, _, SqL.of hl4⟩, _, rfl, p, _, rfl, .inl (SqL.of h4), l, _, _, rfl, rfl, hl4, ?_, ?_⟩
    · rw [List.length_map]
      exact lin' (by omega)
    refine ⟨_, rfl, .inl ⟨rfl, _, SqL.of upd_same⟩, _, rfl, l, p, _, _, rfl, rfl, upd_same, at_put h4 pl, ?_, ?_⟩
    · rw [List.length_append, List.length_map, List.length_map]
      exact lin (by show _ + 1 + _ ≤ _; omega)
    refine ⟨_, rfl, out ++ (((reply st x).2.length : Nat) : Int) :: (reply st x).2, (reply st x).1, _, _, _, rfl, ?_, ?_, ?_, reply_good good, rest2⟩
    · rw [upd_upd]
      exact s4.put nl
    · rw [upd_same, List.length_map, List.map_append, List.append_assoc]
      rfl
    · rw [upd_upd]
      obtain ⟨dx4, hd4⟩ := d4
      exact ⟨dx4, at_put hd4 (Ne.symm lx)⟩
  · refine if_false_of (decide_eq_false (by omega)) ?_
    have e : i = ns.length := by omega
    subst e
    rw [List.drop_length] at rest
    have e2 := rest.done
    subst e2
    exact ⟨_, rfl, k H2 l h2⟩
end Co

namespace Co
open PySem PySem.Spec PyProof.Rows L2
/-- an error of the class at S is what «except S» names -/
theorem exm_self {K : PySem.W.Frag} {S : Addr} (h1 : PySem.W.subIn K (.ref S) (.type "BaseException") = some true) (h2 : PySem.W.isClsIn K S = true) (h3 : PySem.W.typeIn K (.ref S) = some (.type "type")) (h4 : PySem.W.subIn K (.ref S) (.ref S) = some true) :
    PySem.W.exmOne K (.ref S) (.ref S) = some true := by
  have e1 : (PySem.W.subIn K (.ref S) (.type "BaseException") == some true) = true := by rw [h1] <;> rfl
  have e2 : ((PySem.W.clsIn K S).isSome && PySem.W.typeIn K (.ref S) == some (.type "type")) = true := by
    have h2' : (PySem.W.clsIn K S).isSome = true := h2
    rw [h2', h3] <;> rfl
  show (if (PySem.W.subIn K (.ref S) (.type "BaseException") == some true) = true then (if ((PySem.W.clsIn K S).isSome && PySem.W.typeIn K (.ref S) == some (.type "type")) = true then PySem.W.subIn K (.ref S) (.ref S) else none) else none) = some true
  rw [if_pos e1, if_pos e2]
  exact h4
theorem all_mk {P : Program} {w : World} {K : PySem.W.Frag} {h : Heap} {mg : Str → Option Value} {fa C CF fI nu f1 f2 f3 f4 f5 f6 f7 f8 f9 f10 f11 f12 f13 f14 f15 f16 f17 f18 f19 f20 f21 f22 f23 f24 f25 f26 f27 f28 f29 f30 f31 : Addr} (X : K.In h) (G : h.Ns mainGlobals mg) (hfa : mg "answers" = some (.ref fa))
    {nm q : Str} {N : Addr} {bs : List Value} {sn : List Str} {sub : List Value} {ab : Bool} {col : Option Bool} {dd : Option Addr} {m0 m1 m2 m3 m5 : Option Value}
    {odI anI nuD od1 an1 od2 an2 od3 an3 od4 an4 od5 an5 od6 an6 od7 an7 od8 an8 od9 an9 od10 an10 od11 an11 od12 an12 od13 an13 od14 an14 od15 an15 od16 an16 od17 an17 od18 an18 od19 an19 od20 an20 od21 an21 od22 an22 od23 an23 od24 an24 od25 an25 od26 an26 od27 an27 od28 an28 od29 an29 od30 an30 od31 an31 : Option Addr} {slI nuS sl1 sl2 sl3 sl4 sl5 sl6 sl7 sl8 sl9 sl10 sl11 sl12 sl13 sl14 sl15 sl16 sl17 sl18 sl19 sl20 sl21 sl22 sl23 sl24 sl25 sl26 sl27 sl28 sl29 sl30 sl31 : Array (Option Value)} {nuN : Nat}
    {ocI dcI pmI cdI ctI oc1 kV1 dc1 pm1 cd1 ct1 oc2 kV2 dc2 pm2 cd2 ct2 oc3 kV3 dc3 pm3 cd3 ct3 oc4 kV4 dc4 pm4 cd4 ct4 oc5 kV5 dc5 pm5 cd5 ct5 oc6 kV6 dc6 pm6 cd6 ct6 oc7 kV7 dc7 pm7 cd7 ct7 oc8 kV8 dc8 pm8 cd8 ct8 oc9 kV9 dc9 pm9 cd9 ct9 oc10 kV10 dc10 pm10 cd10 ct10 oc11 kV11 dc11 pm11 cd11 ct11 oc12 kV12 dc12 pm12 cd12 ct12 oc13 kV13 dc13 pm13 cd13 ct13 oc14 kV14 dc14 pm14 cd14 ct14 oc15 kV15 dc15 pm15 cd15 ct15 oc16 kV16 dc16 pm16 cd16 ct16 oc17 kV17 dc17 pm17 cd17 ct17 oc18 kV18 dc18 pm18 cd18 ct18 oc19 kV19 dc19 pm19 cd19 ct19 oc20 kV20 dc20 pm20 cd20 ct20 oc21 kV21 dc21 pm21 cd21 ct21 oc22 kV22 dc22 pm22 cd22 ct22 oc23 kV23 dc23 pm23 cd23 ct23 oc24 kV24 dc24 pm24 cd24 ct24 oc25 kV25 dc25 pm25 cd25 ct25 oc26 kV26 dc26 pm26 cd26 ct26 oc27 kV27 dc27 pm27 cd27 ct27 oc28 kV28 dc28 pm28 cd28 ct28 oc29 kV29 dc29 pm29 cd29 ct29 oc30 kV30 dc30 pm30 cd30 ct30 oc31 kV31 dc31 pm31 cd31 ct31 : Value} {tk0 tk1 tk2 tk3 tk4 tk5 tk6 tk7 u0 u1 u2 u3 u4 u5 u6 u7 u8 u9 u10 u11 u12 u13 u14 : Tok}
    (aC : PySem.W.nsIn K mainGlobals "Desk" = some (some (.ref C)))
    (aR : PySem.W.nsIn K mainGlobals "Refused" = some (some (.ref CF)))
    (a1 : PySem.W.nsIn K mainGlobals "is_prime" = some (some (.ref f1)))
    (l1 : K.lookup f1 = some ⟨oc1, od1, .func (PySem.W.fnOf "is_prime" "is_prime" (defArgs sIsPrime) (defBody sIsPrime) (defScope sIsPrime) .none kV1 dc1 pm1 an1 cd1 ct1), sl1⟩)
    (c1 : PySem.W.codeIn K cd1 "is_prime" = true)
    (k1 : PySem.W.keepIn K (.ref f1) = true)
    (a2 : PySem.W.nsIn K mainGlobals "digits_of" = some (some (.ref f2)))
    (l2 : K.lookup f2 = some ⟨oc2, od2, .func (PySem.W.fnOf "digits_of" "digits_of" (defArgs sDigits) (defBody sDigits) (defScope sDigits) .none kV2 dc2 pm2 an2 cd2 ct2), sl2⟩)
    (c2 : PySem.W.codeIn K cd2 "digits_of" = true)
    (k2 : PySem.W.keepIn K (.ref f2) = true)
    (a3 : PySem.W.nsIn K mainGlobals "number_of" = some (some (.ref f3)))
    (l3 : K.lookup f3 = some ⟨oc3, od3, .func (PySem.W.fnOf "number_of" "number_of" (defArgs sNumber) (defBody sNumber) (defScope sNumber) .none kV3 dc3 pm3 an3 cd3 ct3), sl3⟩)
    (c3 : PySem.W.codeIn K cd3 "number_of" = true)
    (k3 : PySem.W.keepIn K (.ref f3) = true)
    (a4 : PySem.W.nsIn K mainGlobals "cross_sum" = some (some (.ref f4)))
    (l4 : K.lookup f4 = some ⟨oc4, od4, .func (PySem.W.fnOf "cross_sum" "cross_sum" (defArgs sCross) (defBody sCross) (defScope sCross) .none kV4 dc4 pm4 an4 cd4 ct4), sl4⟩)
    (c4 : PySem.W.codeIn K cd4 "cross_sum" = true)
    (k4 : PySem.W.keepIn K (.ref f4) = true)
    (a5 : PySem.W.nsIn K mainGlobals "times_divided" = some (some (.ref f5)))
    (l5 : K.lookup f5 = some ⟨oc5, od5, .func (PySem.W.fnOf "times_divided" "times_divided" (defArgs sTimes) (defBody sTimes) (defScope sTimes) .none kV5 dc5 pm5 an5 cd5 ct5), sl5⟩)
    (c5 : PySem.W.codeIn K cd5 "times_divided" = true)
    (k5 : PySem.W.keepIn K (.ref f5) = true)
    (a6 : PySem.W.nsIn K mainGlobals "next_alike" = some (some (.ref f6)))
    (l6 : K.lookup f6 = some ⟨oc6, od6, .func (PySem.W.fnOf "next_alike" "next_alike" (defArgs sLike) (defBody sLike) (defScope sLike) .none kV6 dc6 pm6 an6 cd6 ct6), sl6⟩)
    (c6 : PySem.W.codeIn K cd6 "next_alike" = true)
    (k6 : PySem.W.keepIn K (.ref f6) = true)
    (a7 : PySem.W.nsIn K mainGlobals "digit_at" = some (some (.ref f7)))
    (l7 : K.lookup f7 = some ⟨oc7, od7, .func (PySem.W.fnOf "digit_at" "digit_at" (defArgs sDigitAt) (defBody sDigitAt) (defScope sDigitAt) .none kV7 dc7 pm7 an7 cd7 ct7), sl7⟩)
    (c7 : PySem.W.codeIn K cd7 "digit_at" = true)
    (k7 : PySem.W.keepIn K (.ref f7) = true)
    (a8 : PySem.W.nsIn K mainGlobals "places_carried" = some (some (.ref f8)))
    (l8 : K.lookup f8 = some ⟨oc8, od8, .func (PySem.W.fnOf "places_carried" "places_carried" (defArgs sPlaces) (defBody sPlaces) (defScope sPlaces) .none kV8 dc8 pm8 an8 cd8 ct8), sl8⟩)
    (c8 : PySem.W.codeIn K cd8 "places_carried" = true)
    (k8 : PySem.W.keepIn K (.ref f8) = true)
    (a9 : PySem.W.nsIn K mainGlobals "times_carried" = some (some (.ref f9)))
    (l9 : K.lookup f9 = some ⟨oc9, od9, .func (PySem.W.fnOf "times_carried" "times_carried" (defArgs sTimesC) (defBody sTimesC) (defScope sTimesC) .none kV9 dc9 pm9 an9 cd9 ct9), sl9⟩)
    (c9 : PySem.W.codeIn K cd9 "times_carried" = true)
    (k9 : PySem.W.keepIn K (.ref f9) = true)
    (a10 : PySem.W.nsIn K mainGlobals "counts_of_parts" = some (some (.ref f10)))
    (l10 : K.lookup f10 = some ⟨oc10, od10, .func (PySem.W.fnOf "counts_of_parts" "counts_of_parts" (defArgs sCounts) (defBody sCounts) (defScope sCounts) .none kV10 dc10 pm10 an10 cd10 ct10), sl10⟩)
    (c10 : PySem.W.codeIn K cd10 "counts_of_parts" = true)
    (k10 : PySem.W.keepIn K (.ref f10) = true)
    (a11 : PySem.W.nsIn K mainGlobals "parts_carried" = some (some (.ref f11)))
    (l11 : K.lookup f11 = some ⟨oc11, od11, .func (PySem.W.fnOf "parts_carried" "parts_carried" (defArgs sParts) (defBody sParts) (defScope sParts) .none kV11 dc11 pm11 an11 cd11 ct11), sl11⟩)
    (c11 : PySem.W.codeIn K cd11 "parts_carried" = true)
    (k11 : PySem.W.keepIn K (.ref f11) = true)
    (a12 : PySem.W.nsIn K mainGlobals "want" = some (some (.ref f12)))
    (l12 : K.lookup f12 = some ⟨oc12, od12, .func (PySem.W.fnOf "want" "want" (defArgs sWant) (defBody sWant) (defScope sWant) .none kV12 dc12 pm12 an12 cd12 ct12), sl12⟩)
    (c12 : PySem.W.codeIn K cd12 "want" = true)
    (k12 : PySem.W.keepIn K (.ref f12) = true)
    (a13 : PySem.W.nsIn K mainGlobals "want_numbers" = some (some (.ref f13)))
    (l13 : K.lookup f13 = some ⟨oc13, od13, .func (PySem.W.fnOf "want_numbers" "want_numbers" (defArgs sWantN) (defBody sWantN) (defScope sWantN) .none kV13 dc13 pm13 an13 cd13 ct13), sl13⟩)
    (c13 : PySem.W.codeIn K cd13 "want_numbers" = true)
    (k13 : PySem.W.keepIn K (.ref f13) = true)
    (a14 : PySem.W.nsIn K mainGlobals "answers" = some (some (.ref f14)))
    (l14 : K.lookup f14 = some ⟨oc14, od14, .func (PySem.W.fnOf "answers" "answers" (defArgs sAns) (defBody sAns) (defScope sAns) .none kV14 dc14 pm14 an14 cd14 ct14), sl14⟩)
    (c14 : PySem.W.codeIn K cd14 "answers" = true)
    (k14 : PySem.W.keepIn K (.ref f14) = true)
    (a15 : PySem.W.findIn K (.ref C) "__init__" = some (some (.ref f15)))
    (i15 : PySem.W.isFn K (.ref f15) = true)
    (l15 : K.lookup f15 = some ⟨oc15, od15, .func (PySem.W.fnOf "__init__" "Desk.__init__" (defArgs sInit) (defBody sInit) (defScope sInit) .none kV15 dc15 pm15 an15 cd15 ct15), sl15⟩)
    (c15 : PySem.W.codeIn K cd15 "Desk.__init__" = true)
    (k15 : PySem.W.keepIn K (.ref f15) = true)
    (a16 : PySem.W.findIn K (.ref C) "begin" = some (some (.ref f16)))
    (i16 : PySem.W.isFn K (.ref f16) = true)
    (l16 : K.lookup f16 = some ⟨oc16, od16, .func (PySem.W.fnOf "begin" "Desk.begin" (defArgs sBegin) (defBody sBegin) (defScope sBegin) .none kV16 dc16 pm16 an16 cd16 ct16), sl16⟩)
    (c16 : PySem.W.codeIn K cd16 "Desk.begin" = true)
    (k16 : PySem.W.keepIn K (.ref f16) = true)
    (a17 : PySem.W.findIn K (.ref C) "prime" = some (some (.ref f17)))
    (i17 : PySem.W.isFn K (.ref f17) = true)
    (l17 : K.lookup f17 = some ⟨oc17, od17, .func (PySem.W.fnOf "prime" "Desk.prime" (defArgs sPrime) (defBody sPrime) (defScope sPrime) .none kV17 dc17 pm17 an17 cd17 ct17), sl17⟩)
    (c17 : PySem.W.codeIn K cd17 "Desk.prime" = true)
    (k17 : PySem.W.keepIn K (.ref f17) = true)
    (a18 : PySem.W.findIn K (.ref C) "digits" = some (some (.ref f18)))
    (i18 : PySem.W.isFn K (.ref f18) = true)
    (l18 : K.lookup f18 = some ⟨oc18, od18, .func (PySem.W.fnOf "digits" "Desk.digits" (defArgs sDigits_) (defBody sDigits_) (defScope sDigits_) .none kV18 dc18 pm18 an18 cd18 ct18), sl18⟩)
    (c18 : PySem.W.codeIn K cd18 "Desk.digits" = true)
    (k18 : PySem.W.keepIn K (.ref f18) = true)
    (a19 : PySem.W.findIn K (.ref C) "places" = some (some (.ref f19)))
    (i19 : PySem.W.isFn K (.ref f19) = true)
    (l19 : K.lookup f19 = some ⟨oc19, od19, .func (PySem.W.fnOf "places" "Desk.places" (defArgs sPlaces_) (defBody sPlaces_) (defScope sPlaces_) .none kV19 dc19 pm19 an19 cd19 ct19), sl19⟩)
    (c19 : PySem.W.codeIn K cd19 "Desk.places" = true)
    (k19 : PySem.W.keepIn K (.ref f19) = true)
    (a20 : PySem.W.findIn K (.ref C) "three" = some (some (.ref f20)))
    (i20 : PySem.W.isFn K (.ref f20) = true)
    (l20 : K.lookup f20 = some ⟨oc20, od20, .func (PySem.W.fnOf "three" "Desk.three" (defArgs sThree) (defBody sThree) (defScope sThree) .none kV20 dc20 pm20 an20 cd20 ct20), sl20⟩)
    (c20 : PySem.W.codeIn K cd20 "Desk.three" = true)
    (k20 : PySem.W.keepIn K (.ref f20) = true)
    (a21 : PySem.W.findIn K (.ref C) "times" = some (some (.ref f21)))
    (i21 : PySem.W.isFn K (.ref f21) = true)
    (l21 : K.lookup f21 = some ⟨oc21, od21, .func (PySem.W.fnOf "times" "Desk.times" (defArgs sTimes_) (defBody sTimes_) (defScope sTimes_) .none kV21 dc21 pm21 an21 cd21 ct21), sl21⟩)
    (c21 : PySem.W.codeIn K cd21 "Desk.times" = true)
    (k21 : PySem.W.keepIn K (.ref f21) = true)
    (a22 : PySem.W.findIn K (.ref C) "next" = some (some (.ref f22)))
    (i22 : PySem.W.isFn K (.ref f22) = true)
    (l22 : K.lookup f22 = some ⟨oc22, od22, .func (PySem.W.fnOf "next" "Desk.next" (defArgs sNext) (defBody sNext) (defScope sNext) .none kV22 dc22 pm22 an22 cd22 ct22), sl22⟩)
    (c22 : PySem.W.codeIn K cd22 "Desk.next" = true)
    (k22 : PySem.W.keepIn K (.ref f22) = true)
    (a23 : PySem.W.findIn K (.ref C) "ways" = some (some (.ref f23)))
    (i23 : PySem.W.isFn K (.ref f23) = true)
    (l23 : K.lookup f23 = some ⟨oc23, od23, .func (PySem.W.fnOf "ways" "Desk.ways" (defArgs sWays) (defBody sWays) (defScope sWays) .none kV23 dc23 pm23 an23 cd23 ct23), sl23⟩)
    (c23 : PySem.W.codeIn K cd23 "Desk.ways" = true)
    (k23 : PySem.W.keepIn K (.ref f23) = true)
    (a24 : PySem.W.findIn K (.ref C) "most" = some (some (.ref f24)))
    (i24 : PySem.W.isFn K (.ref f24) = true)
    (l24 : K.lookup f24 = some ⟨oc24, od24, .func (PySem.W.fnOf "most" "Desk.most" (defArgs sMost) (defBody sMost) (defScope sMost) .none kV24 dc24 pm24 an24 cd24 ct24), sl24⟩)
    (c24 : PySem.W.codeIn K cd24 "Desk.most" = true)
    (k24 : PySem.W.keepIn K (.ref f24) = true)
    (a25 : PySem.W.findIn K (.ref C) "like" = some (some (.ref f25)))
    (i25 : PySem.W.isFn K (.ref f25) = true)
    (l25 : K.lookup f25 = some ⟨oc25, od25, .func (PySem.W.fnOf "like" "Desk.like" (defArgs sLike_) (defBody sLike_) (defScope sLike_) .none kV25 dc25 pm25 an25 cd25 ct25), sl25⟩)
    (c25 : PySem.W.codeIn K cd25 "Desk.like" = true)
    (k25 : PySem.W.keepIn K (.ref f25) = true)
    (a26 : PySem.W.findIn K (.ref C) "number_of" = some (some (.ref f26)))
    (i26 : PySem.W.isFn K (.ref f26) = true)
    (l26 : K.lookup f26 = some ⟨oc26, od26, .func (PySem.W.fnOf "number_of" "Desk.number_of" (defArgs sFrom) (defBody sFrom) (defScope sFrom) .none kV26 dc26 pm26 an26 cd26 ct26), sl26⟩)
    (c26 : PySem.W.codeIn K cd26 "Desk.number_of" = true)
    (k26 : PySem.W.keepIn K (.ref f26) = true)
    (a27 : PySem.W.findIn K (.ref C) "without" = some (some (.ref f27)))
    (i27 : PySem.W.isFn K (.ref f27) = true)
    (l27 : K.lookup f27 = some ⟨oc27, od27, .func (PySem.W.fnOf "without" "Desk.without" (defArgs sWithout) (defBody sWithout) (defScope sWithout) .none kV27 dc27 pm27 an27 cd27 ct27), sl27⟩)
    (c27 : PySem.W.codeIn K cd27 "Desk.without" = true)
    (k27 : PySem.W.keepIn K (.ref f27) = true)
    (a28 : PySem.W.findIn K (.ref C) "small" = some (some (.ref f28)))
    (i28 : PySem.W.isFn K (.ref f28) = true)
    (l28 : K.lookup f28 = some ⟨oc28, od28, .func (PySem.W.fnOf "small" "Desk.small" (defArgs sSmall) (defBody sSmall) (defScope sSmall) .none kV28 dc28 pm28 an28 cd28 ct28), sl28⟩)
    (c28 : PySem.W.codeIn K cd28 "Desk.small" = true)
    (k28 : PySem.W.keepIn K (.ref f28) = true)
    (a29 : PySem.W.findIn K (.ref C) "plain" = some (some (.ref f29)))
    (i29 : PySem.W.isFn K (.ref f29) = true)
    (l29 : K.lookup f29 = some ⟨oc29, od29, .func (PySem.W.fnOf "plain" "Desk.plain" (defArgs sPlain) (defBody sPlain) (defScope sPlain) .none kV29 dc29 pm29 an29 cd29 ct29), sl29⟩)
    (c29 : PySem.W.codeIn K cd29 "Desk.plain" = true)
    (k29 : PySem.W.keepIn K (.ref f29) = true)
    (a30 : PySem.W.findIn K (.ref C) "called" = some (some (.ref f30)))
    (i30 : PySem.W.isFn K (.ref f30) = true)
    (l30 : K.lookup f30 = some ⟨oc30, od30, .func (PySem.W.fnOf "called" "Desk.called" (defArgs sCalled) (defBody sCalled) (defScope sCalled) .none kV30 dc30 pm30 an30 cd30 ct30), sl30⟩)
    (c30 : PySem.W.codeIn K cd30 "Desk.called" = true)
    (k30 : PySem.W.keepIn K (.ref f30) = true)
    (a31 : PySem.W.findIn K (.ref C) "answer" = some (some (.ref f31)))
    (i31 : PySem.W.isFn K (.ref f31) = true)
    (l31 : K.lookup f31 = some ⟨oc31, od31, .func (PySem.W.fnOf "answer" "Desk.answer" (defArgs sAnswer) (defBody sAnswer) (defScope sAnswer) .none kV31 dc31 pm31 an31 cd31 ct31), sl31⟩)
    (c31 : PySem.W.codeIn K cd31 "Desk.answer" = true)
    (k31 : PySem.W.keepIn K (.ref f31) = true)
    (aW : PySem.W.nsIn K mainGlobals "number_of_written" = some (some (.ref f3)))
    (x0 : PySem.W.nsIn K mainGlobals "MOST_PRIME" = some (some (.int 99 tk0)))
    (x1 : PySem.W.nsIn K mainGlobals "NO_PRIME" = some (some (.int (-11) tk1)))
    (x2 : PySem.W.nsIn K mainGlobals "OUT_OF_BOUNDS" = some (some (.int (-22) tk2)))
    (x3 : PySem.W.nsIn K mainGlobals "NONE_SUCH" = some (some (.int (-33) tk3)))
    (x4 : PySem.W.nsIn K mainGlobals "MOST_NUMBER" = some (some (.int 1000000 tk4)))
    (x5 : PySem.W.nsIn K mainGlobals "MOST_PARTED" = some (some (.int 60 tk5)))
    (x6 : PySem.W.nsIn K mainGlobals "MOST_LIKE" = some (some (.int 1000 tk6)))
    (x7 : PySem.W.nsIn K mainGlobals "MANY_BEHIND" = some (some (.int 2000 tk7)))
    (b0 : PySem.W.nsIn K mainGlobals "all" = some none)
    (b1 : PySem.W.nsIn K mainGlobals "range" = some none)
    (b2 : PySem.W.nsIn K mainGlobals "reversed" = some none)
    (b3 : PySem.W.nsIn K mainGlobals "sum" = some none)
    (b4 : PySem.W.nsIn K mainGlobals "len" = some none)
    (b5 : PySem.W.nsIn K mainGlobals "max" = some none)
    (b6 : PySem.W.nsIn K mainGlobals "int" = some none)
    (b7 : PySem.W.nsIn K mainGlobals "enumerate" = some none)
    (aN : PySem.W.nsIn K mainGlobals "NUMBERS" = some (some (.ref nu)))
    (lN : K.lookup nu = some ⟨.type "tuple", nuD, .seq #[.int 1 u0, .int 1 u1, .int 1 u2, .int 1 u3, .int 2 u4, .int 2 u5, .int 3 u6, .int 1 u7, .int 1 u8, .int 2 u9, .int 1 u10, .int 1 u11, .int 4 u12, .int 2 u13, .int 0 u14] nuN, nuS⟩)
    (pg : PySem.W.plainGet K C Str.empty = true)
    (hd : PySem.W.hasDictIn K C = true)
    (po : PySem.W.plainOver K C = true)
    (sd : PySem.W.findIn K (.ref C) "__setattr__" = some (some (.builtin "object.__setattr__")))
    (mk : PySem.W.makesIn K C = true)
    (kc : PySem.W.keepIn K (.ref C) = true)
    (nK : PySem.W.findIn K (.ref C) "kept" = some none)
    (xL : K.lookup CF = some (excClassObj nm q CF N bs [.type "ValueError", .type "Exception", .type "BaseException", .type "object"] true sn sub ab col dd m0 m1 m2 m3 m5 "ValueError.__new__"))
    (sa : PySem.W.findIn K (.ref CF) "__setattr__" = some (some (.builtin "object.__setattr__")))
    (ga : PySem.W.findIn K (.ref CF) "__getattribute__" = some (some (.builtin "BaseException.__getattribute__")))
    (gg : PySem.W.findIn K (.ref CF) "__getattr__" = some none)
    (nb : PySem.W.findIn K (.ref CF) "code" = some none)
    (aI : PySem.W.findIn K (.ref CF) "__init__" = some (some (.ref fI)))
    (tI : PySem.W.typeIn K (.ref fI) = some (.type "function"))
    (lI : K.lookup fI = some ⟨ocI, odI, .func (PySem.W.fnOf "__init__" "Refused.__init__" (PySem.RefX.iA ⟨62, 17, 62, 21⟩ ⟨62, 23, 62, 27⟩) (PySem.RefX.iB ⟨63, 8, 63, 12⟩ ⟨63, 8, 63, 17⟩ ⟨63, 20, 63, 24⟩ ⟨63, 8, 63, 24⟩) PySem.RefX.iS .none .none dcI pmI anI cdI ctI), slI⟩)
    (cI : PySem.W.codeIn K cdI "Refused.__init__" = true)
    (kC : PySem.W.keepIn K (.ref CF) = true)
    (eC : PySem.W.subIn K (.ref CF) (.type "BaseException") = some true)
    (tC : PySem.W.typeIn K (.ref CF) = some (.type "type"))
    (hC : PySem.W.hasDictIn K CF = true)
    (iC : PySem.W.isClsIn K CF = true)
    (sC : PySem.W.subIn K (.ref CF) (.ref CF) = some true)
    : ∃ fd : FuncData, (∀ (s : Shared) (us : List Value), us.length = (["calls"] : List Str).length → BindsTo s fd ⟨us, []⟩ ((["calls"] : List Str).zip us)) ∧ ∀ base : Heap, K.In base → base.Ns mainGlobals mg → FnOk P w K mg base CX0 10 fa fd ["calls"] (spAns K) := by
  have e := hfa.symm.trans (PySem.W.mg_of X G a14)
  cases e
  have low : PySem.RefX.RefTxt K mg CF fI :=
    { gC := PySem.W.mg_of X G aR, cls := ⟨nm, q, N, bs, _, sn, sub, ab, col, dd, m0, m1, m2, m3, m5, xL, by decide +kernel⟩, sa := sa, ga := ga, gg := gg, noN := nb, iC := aI, tC := tI, kC := kC, exC := eC, tyC := tC, hdC := hC, te := exm_self eC iC tC sC,
      fn := ⟨_, _, _, _, _, _, _, _, _, _, _, _, _, _, lI, cI⟩ }
  have hN : ∀ H, SqT K H nu (vs_ most) := fun H => .inr ⟨_, _, _, lN, rfl, rfl, lin (by show 15 ≤ 16777216; decide), by
    repeat (first | exact .nil | refine .cons ⟨_, rfl⟩ ?_)⟩
  have T : Txt K mg C CF fI :=
    { low := low, cl := ⟨pg, hd, po, sd⟩, nK := nK, gC := PySem.W.mg_of X G aC, cMP := ⟨_, PySem.W.mg_of X G x0⟩, cNP := ⟨_, PySem.W.mg_of X G x1⟩, cOB := ⟨_, PySem.W.mg_of X G x2⟩, cNS := ⟨_, PySem.W.mg_of X G x3⟩, cMN := ⟨_, PySem.W.mg_of X G x4⟩, cMT := ⟨_, PySem.W.mg_of X G x5⟩, cML := ⟨_, PySem.W.mg_of X G x6⟩, cMB := ⟨_, PySem.W.mg_of X G x7⟩,
      cNU := ⟨nu, PySem.W.mg_of X G aN, hN⟩, bAll := PySem.W.mg_none_of X G b0, bRange := PySem.W.mg_none_of X G b1, bReversed := PySem.W.mg_none_of X G b2, bSum := PySem.W.mg_none_of X G b3, bLen := PySem.W.mg_none_of X G b4, bMax := PySem.W.mg_none_of X G b5, bInt := PySem.W.mg_none_of X G b6, bEnum := PySem.W.mg_none_of X G b7 }
  have F1 := fun_mk (st := sIsPrime) l1 c1 k1
  have B1 := F1.binds (ps := ["number"]) fun _ _ _ _ _ _ us hl => match us, hl with | [_], _ => rfl
  have F2 := fun_mk (st := sDigits) l2 c2 k2
  have B2 := F2.binds (ps := ["number", "prime"]) fun _ _ _ _ _ _ us hl => match us, hl with | [_, _], _ => rfl
  have F3 := fun_mk (st := sNumber) l3 c3 k3
  have B3 := F3.binds (ps := ["digits", "prime"]) fun _ _ _ _ _ _ us hl => match us, hl with | [_, _], _ => rfl
  have F4 := fun_mk (st := sCross) l4 c4 k4
  have B4 := F4.binds (ps := ["number", "prime"]) fun _ _ _ _ _ _ us hl => match us, hl with | [_, _], _ => rfl
  have F5 := fun_mk (st := sTimes) l5 c5 k5
  have B5 := F5.binds (ps := ["number", "prime"]) fun _ _ _ _ _ _ us hl => match us, hl with | [_, _], _ => rfl
  have F6 := fun_mk (st := sLike) l6 c6 k6
  have B6 := F6.binds (ps := ["number", "prime", "many"]) fun _ _ _ _ _ _ us hl => match us, hl with | [_, _, _], _ => rfl
  have F7 := fun_mk (st := sDigitAt) l7 c7 k7
  have B7 := F7.binds (ps := ["digits", "place"]) fun _ _ _ _ _ _ us hl => match us, hl with | [_, _], _ => rfl
  have F8 := fun_mk (st := sPlaces) l8 c8 k8
  have B8 := F8.binds (ps := ["one", "other", "prime"]) fun _ _ _ _ _ _ us hl => match us, hl with | [_, _, _], _ => rfl
  have F9 := fun_mk (st := sTimesC) l9 c9 k9
  have B9 := F9.binds (ps := ["one", "other", "prime"]) fun _ _ _ _ _ _ us hl => match us, hl with | [_, _, _], _ => rfl
  have F10 := fun_mk (st := sCounts) l10 c10 k10
  have B10 := F10.binds (ps := ["number", "prime"]) fun _ _ _ _ _ _ us hl => match us, hl with | [_, _], _ => rfl
  have F11 := fun_mk (st := sParts) l11 c11 k11
  have B11 := F11.binds (ps := ["number", "times", "prime"]) fun _ _ _ _ _ _ us hl => match us, hl with | [_, _, _], _ => rfl
  have F12 := fun_mk (st := sWant) l12 c12 k12
  have B12 := F12.binds (ps := ["truth", "code"]) fun _ _ _ _ _ _ us hl => match us, hl with | [_, _], _ => rfl
  have F13 := fun_mk (st := sWantN) l13 c13 k13
  have B13 := F13.binds (ps := ["numbers"]) fun _ _ _ _ _ _ us hl => match us, hl with | [_], _ => rfl
  have F14 := fun_mk (st := sAns) l14 c14 k14
  have F15 := fun_mk (st := sInit) l15 c15 k15
  have B15 := F15.binds (ps := ["self"]) fun _ _ _ _ _ _ us hl => match us, hl with | [_], _ => rfl
  have F16 := fun_mk (st := sBegin) l16 c16 k16
  have B16 := F16.binds (ps := ["self", "prime"]) fun _ _ _ _ _ _ us hl => match us, hl with | [_, _], _ => rfl
  have F17 := fun_mk (st := sPrime) l17 c17 k17
  have B17 := F17.binds (ps := ["self", "prime"]) fun _ _ _ _ _ _ us hl => match us, hl with | [_, _], _ => rfl
  have F18 := fun_mk (st := sDigits_) l18 c18 k18
  have B18 := F18.binds (ps := ["self", "number"]) fun _ _ _ _ _ _ us hl => match us, hl with | [_, _], _ => rfl
  have F19 := fun_mk (st := sPlaces_) l19 c19 k19
  have B19 := F19.binds (ps := ["self", "one", "other"]) fun _ _ _ _ _ _ us hl => match us, hl with | [_, _, _], _ => rfl
  have F20 := fun_mk (st := sThree) l20 c20 k20
  have B20 := F20.binds (ps := ["self", "one", "two", "three"]) fun _ _ _ _ _ _ us hl => match us, hl with | [_, _, _, _], _ => rfl
  have F21 := fun_mk (st := sTimes_) l21 c21 k21
  have B21 := F21.binds (ps := ["self", "number"]) fun _ _ _ _ _ _ us hl => match us, hl with | [_, _], _ => rfl
  have F22 := fun_mk (st := sNext) l22 c22 k22
  have B22 := F22.binds (ps := ["self", "number"]) fun _ _ _ _ _ _ us hl => match us, hl with | [_, _], _ => rfl
  have F23 := fun_mk (st := sWays) l23 c23 k23
  have B23 := F23.binds (ps := ["self", "number", "times"]) fun _ _ _ _ _ _ us hl => match us, hl with | [_, _, _], _ => rfl
  have F24 := fun_mk (st := sMost) l24 c24 k24
  have B24 := F24.binds (ps := ["self", "number"]) fun _ _ _ _ _ _ us hl => match us, hl with | [_, _], _ => rfl
  have F25 := fun_mk (st := sLike_) l25 c25 k25
  have B25 := F25.binds (ps := ["self", "number"]) fun _ _ _ _ _ _ us hl => match us, hl with | [_, _], _ => rfl
  have F26 := fun_mk (st := sFrom) l26 c26 k26
  have B26 := F26.binds (ps := ["self", "digits"]) fun _ _ _ _ _ _ us hl => match us, hl with | [_, _], _ => rfl
  have F27 := fun_mk (st := sWithout) l27 c27 k27
  have B27 := F27.binds (ps := ["self", "one", "other"]) fun _ _ _ _ _ _ us hl => match us, hl with | [_, _, _], _ => rfl
  have F28 := fun_mk (st := sSmall) l28 c28 k28
  have B28 := F28.binds (ps := ["self", "call", "n"]) fun _ _ _ _ _ _ us hl => match us, hl with | [_, _, _], _ => rfl
  have F29 := fun_mk (st := sPlain) l29 c29 k29
  have B29 := F29.binds (ps := ["self", "call", "n"]) fun _ _ _ _ _ _ us hl => match us, hl with | [_, _, _], _ => rfl
  have F30 := fun_mk (st := sCalled) l30 c30 k30
  have B30 := F30.binds (ps := ["self", "call", "n"]) fun _ _ _ _ _ _ us hl => match us, hl with | [_, _, _], _ => rfl
  have F31 := fun_mk (st := sAnswer) l31 c31 k31
  have B31 := F31.binds (ps := ["self", "call", "n"]) fun _ _ _ _ _ _ us hl => match us, hl with | [_, _, _], _ => rfl
  refine ⟨PySem.W.fnOf "answers" "answers" (defArgs sAns) (defBody sAns) (defScope sAns) .none kV14 dc14 pm14 an14 cd14 ct14, fun s us hu => match us, hu with | [_], _ => .of_eq rfl, fun base _ _ => ?_⟩
  have Ddigits_of : Gd P w K mg base "digits_of" CX0 1 ["number", "prime"] spDigits := ⟨f2, _, PySem.W.mg_of X G a2, k2, B2, ok_digits F2⟩
  have Dis_prime : Gd P w K mg base "is_prime" CX0 1 ["number"] spIsPrime := ⟨f1, _, PySem.W.mg_of X G a1, k1, B1, ok_isprime F1 T⟩
  have Dnumber_of : Gd P w K mg base "number_of" CX0 1 ["digits", "prime"] (spNumber K) := ⟨f3, _, PySem.W.mg_of X G a3, k3, B3, ok_number F3 T⟩
  have Dtimes_divided : Gd P w K mg base "times_divided" CX0 1 ["number", "prime"] spTimes := ⟨f5, _, PySem.W.mg_of X G a5, k5, B5, ok_times F5⟩
  have Ddigit_at : Gd P w K mg base "digit_at" CX0 1 ["digits", "place"] (spDigitAt K) := ⟨f7, _, PySem.W.mg_of X G a7, k7, B7, ok_digitAt F7 T⟩
  have Dcross_sum : Gd P w K mg base "cross_sum" CX0 2 ["number", "prime"] spCross := ⟨f4, _, PySem.W.mg_of X G a4, k4, B4, ok_cross F4 T Ddigits_of⟩
  have Dnext_alike : Gd P w K mg base "next_alike" CX0 3 ["number", "prime", "many"] spLike := ⟨f6, _, PySem.W.mg_of X G a6, k6, B6, ok_like F6 T Dcross_sum⟩
  have Dplaces_carried : Gd P w K mg base "places_carried" CX0 2 ["one", "other", "prime"] spPlaces := ⟨f8, _, PySem.W.mg_of X G a8, k8, B8, ok_places F8 T Ddigits_of Ddigit_at⟩
  have Dtimes_carried : Gd P w K mg base "times_carried" CX0 3 ["one", "other", "prime"] spTimesC := ⟨f9, _, PySem.W.mg_of X G a9, k9, B9, ok_timesC F9 T Dplaces_carried⟩
  have Dcounts_of_parts : Gd P w K mg base "counts_of_parts" CX0 4 ["number", "prime"] spCounts := ⟨f10, _, PySem.W.mg_of X G a10, k10, B10, ok_counts F10 T Dtimes_carried⟩
  have Dparts_carried : Gd P w K mg base "parts_carried" CX0 5 ["number", "times", "prime"] spParts := ⟨f11, _, PySem.W.mg_of X G a11, k11, B11, ok_parts F11 T Dcounts_of_parts⟩
  have Dwant : Gd P w K mg base "want" (L2.CX P w) 1 ["truth", "code"] (spWant CF) := ⟨f12, _, PySem.W.mg_of X G a12, k12, B12, ok_want F12 T⟩
  have Dwant_numbers : Gd P w K mg base "want_numbers" (L2.CX P w) 2 ["numbers"] (spWantN K CF) := ⟨f13, _, PySem.W.mg_of X G a13, k13, B13, ok_wantN F13 T Dwant⟩
  have Dnumber_of_written : Gd P w K mg base "number_of_written" CX0 1 ["digits", "prime"] (spNumber K) := ⟨f3, _, PySem.W.mg_of X G aW, k3, B3, ok_number F3 T⟩
  have Mbegin : Md P w K mg base C "begin" 2 ["self", "prime"] (spM C CF okBegin) := ⟨f16, _, ⟨a16, i16, k16⟩, B16, ok_begin F16 T Dwant Dis_prime⟩
  have Mprime : Md P w K mg base C "prime" 2 ["self", "prime"] (spM C CF okPrime) := ⟨f17, _, ⟨a17, i17, k17⟩, B17, ok_prime F17 T Dwant Dis_prime⟩
  have Mdigits : Md P w K mg base C "digits" 2 ["self", "number"] (spM C CF okDigits_) := ⟨f18, _, ⟨a18, i18, k18⟩, B18, ok_digits_ F18 T Ddigits_of⟩
  have Mplaces : Md P w K mg base C "places" 3 ["self", "one", "other"] (spM C CF okPlaces_) := ⟨f19, _, ⟨a19, i19, k19⟩, B19, ok_places_ F19 T Dplaces_carried⟩
  have Mthree : Md P w K mg base C "three" 4 ["self", "one", "two", "three"] (spM C CF okThree) := ⟨f20, _, ⟨a20, i20, k20⟩, B20, ok_three F20 T Dtimes_carried⟩
  have Mtimes : Md P w K mg base C "times" 2 ["self", "number"] (spM C CF okTimes_) := ⟨f21, _, ⟨a21, i21, k21⟩, B21, ok_times_ F21 T Dwant Dtimes_divided⟩
  have Mnext : Md P w K mg base C "next" 4 ["self", "number"] (spM C CF okNext) := ⟨f22, _, ⟨a22, i22, k22⟩, B22, ok_next F22 T Dwant Dcross_sum Dtimes_carried⟩
  have Mways : Md P w K mg base C "ways" 6 ["self", "number", "times"] (spM C CF okWays) := ⟨f23, _, ⟨a23, i23, k23⟩, B23, ok_ways F23 T Dwant Dparts_carried⟩
  have Mmost : Md P w K mg base C "most" 5 ["self", "number"] (spM C CF okMost) := ⟨f24, _, ⟨a24, i24, k24⟩, B24, ok_most F24 T Dwant Dcounts_of_parts⟩
  have Mlike : Md P w K mg base C "like" 4 ["self", "number"] (spM C CF okLike_) := ⟨f25, _, ⟨a25, i25, k25⟩, B25, ok_like_ F25 T Dwant Dnext_alike⟩
  have Mnumber_of : Md P w K mg base C "number_of" 2 ["self", "digits"] (spFrom K C CF okFrom) := ⟨f26, _, ⟨a26, i26, k26⟩, B26, ok_from F26 T Dwant Dnumber_of_written⟩
  have Mwithout : Md P w K mg base C "without" 4 ["self", "one", "other"] (spM C CF okWithout) := ⟨f27, _, ⟨a27, i27, k27⟩, B27, ok_without F27 T Dwant Dtimes_carried⟩
  have Msmall : Md P w K mg base C "small" 7 ["self", "call", "n"] (spC K C CF okSmall) := ⟨f28, _, ⟨a28, i28, k28⟩, B28, ok_small F28 T Mprime Mways Mmost Mlike Mnumber_of⟩
  have Mplain : Md P w K mg base C "plain" 7 ["self", "call", "n"] (spC K C CF okPlain) := ⟨f29, _, ⟨a29, i29, k29⟩, B29, ok_plain F29 T Mdigits Mplaces Mthree Mtimes Mnext Mwithout Dwant_numbers Dcross_sum Dtimes_carried⟩
  have Mcalled : Md P w K mg base C "called" 8 ["self", "call", "n"] (spC K C CF okAny) := ⟨f30, _, ⟨a30, i30, k30⟩, B30, ok_called F30 T Mbegin Msmall Mplain Dwant⟩
  exact ok_ans F14 T ⟨mk, a15, i15, kc⟩ (ok_init F15 T) B15 ⟨a31, i31, k31⟩ B31 (ok_answer F31 T Mcalled)
end Co
open PySem PySem.W PyProof.Rows
set_option maxRecDepth 100000 in
set_option maxHeartbeats 8000000 in
theorem PySem.Challenge.cw_carriedover_s01_answers_holds : PySem.Challenge.rw_carriedover_s01_answers.Holds := by
  w_on; k_headS; (case hw => exact ⟨[.list [.int 14]], by decide +kernel, by decide +kernel⟩)
  k_fillS
  refine L2.walk_specK (r := PySem.Challenge.rw_carriedover_s01_answers) (k := 10) (CX := L2.CX0) (ps := ["calls"]) (sp := Co.spAns) (by decide +kernel) rfl rfl ⟨rfl, by decide, by decide⟩ (fun w h Y => PySem.W.kIn_of Y) ?F ?S (fun _ _ _ _ z => z)
  case F =>
    intro w mg fa h Y KX G hmg
    refine' Co.all_mk KX G hmg ?aC ?aR ?a1 ?l1 ?c1 ?k1 ?a2 ?l2 ?c2 ?k2 ?a3 ?l3 ?c3 ?k3 ?a4 ?l4 ?c4 ?k4 ?a5 ?l5 ?c5 ?k5 ?a6 ?l6 ?c6 ?k6 ?a7 ?l7 ?c7 ?k7 ?a8 ?l8 ?c8 ?k8 ?a9 ?l9 ?c9 ?k9 ?a10 ?l10 ?c10 ?k10 ?a11 ?l11 ?c11 ?k11 ?a12 ?l12 ?c12 ?k12 ?a13 ?l13 ?c13 ?k13 ?a14 ?l14 ?c14 ?k14 ?a15 ?i15 ?l15 ?c15 ?k15 ?a16 ?i16 ?l16 ?c16 ?k16 ?a17 ?i17 ?l17 ?c17 ?k17 ?a18 ?i18 ?l18 ?c18 ?k18 ?a19 ?i19 ?l19 ?c19 ?k19 ?a20 ?i20 ?l20 ?c20 ?k20 ?a21 ?i21 ?l21 ?c21 ?k21 ?a22 ?i22 ?l22 ?c22 ?k22 ?a23 ?i23 ?l23 ?c23 ?k23 ?a24 ?i24 ?l24 ?c24 ?k24 ?a25 ?i25 ?l25 ?c25 ?k25 ?a26 ?i26 ?l26 ?c26 ?k26 ?a27 ?i27 ?l27 ?c27 ?k27 ?a28 ?i28 ?l28 ?c28 ?k28 ?a29 ?i29 ?l29 ?c29 ?k29 ?a30 ?i30 ?l30 ?c30 ?k30 ?a31 ?i31 ?l31 ?c31 ?k31 ?aW ?x0 ?x1 ?x2 ?x3 ?x4 ?x5 ?x6 ?x7 ?b0 ?b1 ?b2 ?b3 ?b4 ?b5 ?b6 ?b7 ?aN ?lN ?pg ?hd ?po ?sd ?mk ?kc ?nK ?xL ?sa ?ga ?gg ?nb ?aI ?tI ?lI ?cI ?kC ?eC ?tC ?hC ?iC ?sC
    (case aC => k_is)
    (case aR => k_is)
    (case a1 => k_is)
    (case l1 => k_is)
    (case c1 => k_is)
    (case k1 => k_is)
    (case a2 => k_is)
    (case l2 => k_is)
    (case c2 => k_is)
    (case k2 => k_is)
    (case a3 => k_is)
    (case l3 => k_is)
    (case c3 => k_is)
    (case k3 => k_is)
    (case a4 => k_is)
    (case l4 => k_is)
    (case c4 => k_is)
    (case k4 => k_is)
    (case a5 => k_is)
    (case l5 => k_is)
    (case c5 => k_is)
    (case k5 => k_is)
    (case a6 => k_is)
    (case l6 => k_is)
    (case c6 => k_is)
    (case k6 => k_is)
    (case a7 => k_is)
    (case l7 => k_is)
    (case c7 => k_is)
    (case k7 => k_is)
    (case a8 => k_is)
    (case l8 => k_is)
    (case c8 => k_is)
    (case k8 => k_is)
    (case a9 => k_is)
    (case l9 => k_is)
    (case c9 => k_is)
    (case k9 => k_is)
    (case a10 => k_is)
    (case l10 => k_is)
    (case c10 => k_is)
    (case k10 => k_is)
    (case a11 => k_is)
    (case l11 => k_is)
    (case c11 => k_is)
    (case k11 => k_is)
    (case a12 => k_is)
    (case l12 => k_is)
    (case c12 => k_is)
    (case k12 => k_is)
    (case a13 => k_is)
    (case l13 => k_is)
    (case c13 => k_is)
    (case k13 => k_is)
    (case a14 => k_is)
    (case l14 => k_is)
    (case c14 => k_is)
    (case k14 => k_is)
    (case a15 => k_is)
    (case i15 => k_is)
    (case l15 => k_is)
    (case c15 => k_is)
    (case k15 => k_is)
    (case a16 => k_is)
    (case i16 => k_is)
    (case l16 => k_is)
    (case c16 => k_is)
    (case k16 => k_is)
    (case a17 => k_is)
    (case i17 => k_is)
    (case l17 => k_is)
    (case c17 => k_is)
    (case k17 => k_is)
    (case a18 => k_is)
    (case i18 => k_is)
    (case l18 => k_is)
    (case c18 => k_is)
    (case k18 => k_is)
    (case a19 => k_is)
    (case i19 => k_is)
    (case l19 => k_is)
    (case c19 => k_is)
    (case k19 => k_is)
    (case a20 => k_is)
    (case i20 => k_is)
    (case l20 => k_is)
    (case c20 => k_is)
    (case k20 => k_is)
    (case a21 => k_is)
    (case i21 => k_is)
    (case l21 => k_is)
    (case c21 => k_is)
    (case k21 => k_is)
    (case a22 => k_is)
    (case i22 => k_is)
    (case l22 => k_is)
    (case c22 => k_is)
    (case k22 => k_is)
    (case a23 => k_is)
    (case i23 => k_is)
    (case l23 => k_is)
    (case c23 => k_is)
    (case k23 => k_is)
    (case a24 => k_is)
    (case i24 => k_is)
    (case l24 => k_is)
    (case c24 => k_is)
    (case k24 => k_is)
    (case a25 => k_is)
    (case i25 => k_is)
    (case l25 => k_is)
    (case c25 => k_is)
    (case k25 => k_is)
    (case a26 => k_is)
    (case i26 => k_is)
    (case l26 => k_is)
    (case c26 => k_is)
    (case k26 => k_is)
    (case a27 => k_is)
    (case i27 => k_is)
    (case l27 => k_is)
    (case c27 => k_is)
    (case k27 => k_is)
    (case a28 => k_is)
    (case i28 => k_is)
    (case l28 => k_is)
    (case c28 => k_is)
    (case k28 => k_is)
    (case a29 => k_is)
    (case i29 => k_is)
    (case l29 => k_is)
    (case c29 => k_is)
    (case k29 => k_is)
    (case a30 => k_is)
    (case i30 => k_is)
    (case l30 => k_is)
    (case c30 => k_is)
    (case k30 => k_is)
    (case a31 => k_is)
    (case i31 => k_is)
    (case l31 => k_is)
    (case c31 => k_is)
    (case k31 => k_is)
    (case aW => k_is)
    (case x0 => k_is)
    (case x1 => k_is)
    (case x2 => k_is)
    (case x3 => k_is)
    (case x4 => k_is)
    (case x5 => k_is)
    (case x6 => k_is)
    (case x7 => k_is)
    (case b0 => k_is)
    (case b1 => k_is)
    (case b2 => k_is)
    (case b3 => k_is)
    (case b4 => k_is)
    (case b5 => k_is)
    (case b6 => k_is)
    (case b7 => k_is)
    (case aN => k_is)
    (case lN => k_is)
    (case pg => k_is)
    (case hd => k_is)
    (case po => k_is)
    (case sd => k_is)
    (case mk => k_is)
    (case kc => k_is)
    (case nK => k_is)
    (case xL => k_is)
    (case sa => k_is)
    (case ga => k_is)
    (case gg => k_is)
    (case nb => k_is)
    (case aI => k_is)
    (case tI => k_is)
    (case lI => k_is)
    (case cI => k_is)
    (case kC => k_is)
    (case eC => k_is)
    (case tC => k_is)
    (case hC => k_is)
    (case iC => k_is)
    (case sC => first | rfl | k_is)
  case S =>
    intro K H xs a hO hwi hask hx
    cases hx with
    | cons h1 h2 =>
      cases h2
      cases h1 with
      | lst hs ha =>
        have e := L2.ints_dw a.1 _ ha
        subst e
        have q : ((Codec.inLen 0 1000 a.1 && a.1.all (Codec.inInt 0 4294967295)) && true) = true := hwi
        rw [Bool.and_eq_true, Bool.and_eq_true] at q
        exact ⟨_, a.1, rfl, hs, (Codec.inNat_iff.mp q.1.1).2, hask, fun H' p hp => .lst (L2.SqL.of hp) (L2.dw_ints _)⟩

