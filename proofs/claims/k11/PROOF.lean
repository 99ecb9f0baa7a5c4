import PyProof.Rows.All
import Wide.All
import OpenK.AllK
import Wide.FinOn
import HandS.ForMost
import HandS.Exc
import HandS.ExcOwn
import HandS.ExcCtx
import HandS.CallSlots
import HandS.Defaults
import HandS.FStr
import HandS.StrMore
import HandS.HeadHook2
import HandS.RaiseMore
import HandS.IsInst
import HandS.Zip
import HandS.Codes
import KE.GoesRaise
import KE.KAsSuite
import HandS.NoneIn
import HandS.HotCalls
import HandS.SuiteRaise
import HandS.RaiseFrom
import KE.KExcRaise
import HandS.ExcIs
import HandS.Iter
import HandS.Replace
import HandS.ReplaceLit
import HandS.ReplaceList
import HandS.Head0
import HandS.Head1
import HandS.Head2
import HandS.HeadEnd
import HandS.HeadHook1
import PySem.Challenge.RW_lethe_k11_records_written
set_option Elab.async false
set_option linter.all false
set_option maxRecDepth 100000
set_option maxHeartbeats 0
namespace Z
open PySem PySem.Spec PyProof.Rows L2
/-! ### garbage is forgotten -/
/-- no dict with tuple keys is tracked (not under a lock either) -/
def noDT : HO → Bool
  | .dT _ => false
  | .frz _ u => noDT u
  | _ => true
def NoDT (H : Hp) : Prop := ∀ a o, H a = some o → noDT o = true
/-- what an object leans on is in H2 -/
def Cl (H2 : Hp) (a : Addr) : HO → Prop
  | .ins _ dx _ => H2 dx = some (.own a)
  | .frz _ u => Cl H2 a u
  | _ => True
structure Cut (H H2 H' : Hp) : Prop where
  sub : ∀ b o, H2 b = some o → H' b = some o
  old : ∀ b, H2 b = none → H b = none
  nd : NoDT H2
  cl : ∀ a o, H2 a = some o → Cl H2 a o
section
variable {P : Program} {w : World} {H H2 H' : Hp} {h h' : Heap}
theorem objOk_cut {a : Addr} : ∀ {o : HO}, noDT o = true → Cl H2 a o → ObjOk P w H' h a o → ObjOk P w H2 h a o
  | .lst _, _, _, x => x
  | .tup _, _, _, x => x
  | .dK _, _, _, x => x
  | .dT _, n, _, _ => by cases n
  | .set _ _, _, _, x => x
  | .ins _ _ _, _, c, x => ⟨c, x.2⟩
  | .own _, _, _, x => x
  | .xd _, _, _, x => x
  | .met _ _, _, _, x => x
  | .rng _ _, _, _, x => x
  | .frz _ u, n, c, x => ⟨x.1, objOk_cut (o := u) n c x.2⟩
  | .tbl _, _, _, x => x
  | .ext _, _, _, x => x
theorem hok_cut (c : Cut H H2 H') (x : HOk P w H' h) : HOk P w H2 h := fun a o e => objOk_cut (c.nd a o e) (c.cl a o e) (x a o (c.sub a o e))
theorem keep_cut {b : Addr} {o : HO} (c : Cut H H2 H') (e : H b = some o) {o' : HO} (q : H' b = some o') : H2 b = some o' := by
  cases z : H2 b with
  | none => rw [c.old b z] at e; cases e
  | some v => rw [c.sub b v z] at q; exact q
theorem un_cut {fs ex : List Addr} (c : Cut H H2 H') (u : Un fs ex H H' h h') : Un fs ex H H2 h h' where
  keep := u.keep
  slot := u.slot
  free := fun b o e n hx => by
    have q := u.free b o e n hx
    cases z : H2 b with
    | none => rfl
    | some v => rw [c.sub b v z] at q; cases q
  there := u.there
  tups := fun b xs e => keep_cut c e (u.tups b xs e)
  frzs := fun b o v e => keep_cut c e (u.frzs b o v e)
  tbls := fun b ps e => by
    obtain ⟨m, q⟩ := u.tbls b ps e
    exact ⟨m, keep_cut c e q⟩
theorem ub_cut {fs : List Addr} {B : Heap} (c : Cut H H2 H') (u : UB fs H H' h B h') : UB fs H H2 h B h' where
  keep := u.keep
  slot := u.slot
  free := fun b o e n => by
    have q := u.free b o e n
    cases z : H2 b with
    | none => rfl
    | some v => rw [c.sub b v z] at q; cases q
  there := u.there
  tups := fun b xs e => keep_cut c e (u.tups b xs e)
  frzs := fun b o v e => keep_cut c e (u.frzs b o v e)
  tbls := fun b ps e => by
    obtain ⟨m, q⟩ := u.tbls b ps e
    exact ⟨m, keep_cut c e q⟩
/-- each instance's own dict is there -/
def WF (H : Hp) : Prop := ∀ a o, H a = some o → Cl H a o
theorem wf_of (x : HOk P w H h) : WF H := fun a o e => by
  have go : ∀ o : HO, ObjOk P w H h a o → Cl H a o := fun o => by
    induction o with
    | ins C dx fs => exact fun z => z.1
    | frz ob u ih => exact fun z => ih z.2
    | _ => exact fun _ => trivial
  exact go o (x a o e)
/-- what a body is to reach: Q of the heap without garbage -/
def RQ (H : Hp) (Q : VK) : VK := fun v H' => ∃ H2, Cut H H2 H' ∧ Q v H2
def RE (H : Hp) (E : XK) : XK := fun c d H' => ∃ H2, Cut H H2 H' ∧ E c d H2
abbrev CXZ := L2N.CX
theorem okZ {K : PySem.W.Frag} {mg : Str → Option Value} {base : Heap} {x qual : Str} {params : Arguments} {body : List Stmt} {scope : Scope} {dvs : List V} {kws : List (Str × V)} {f : Addr} {fd : FuncData} {N ps : List Str} {k : Nat} {sp : Sp}
    (F : FunD K x qual params body scope dvs kws f fd) (S : FnScope N ps scope) (len : ∀ vs H Q E, sp vs H Q E → vs.length = ps.length)
    (hbody : ∀ (cdv : Value) (A : Around) (outer : List Env) (s : Shared) (H : Hp) (vs : List V) (Q : VK) (E : XK), Room k (A.deeper (envOfC qual scope s.heap.objs.size f cdv)) → WF H → sp vs H Q E →
      ∃ t, PSs (cxOf (L2N.CX P w) P w K mg base N qual scope f cdv A outer s H (RE H E)) body t ∧ t { nx := fun _ H' => RQ H Q .non H', rt := RQ H Q } (start N vs) H) : FnOk P w K mg base (L2N.CX P w) (k + 1) f fd ps sp := by
  have F1 : FnOk P w K mg base (L2N.CX P w) (k + 1) f fd ps (fun vs H Q1 E1 => ∃ Q E, WF H ∧ sp vs H Q E ∧ Q1 = RQ H Q ∧ E1 = RE H E) := by
    refine F.ok S (fun vs H Q E h => ?_) (fun cdv A outer s H vs Q1 E1 hr h => ?_)
    · obtain ⟨Q, E, _, h, _, _⟩ := h
      exact len vs H Q E h
    · obtain ⟨Q, E, wf, h, rfl, rfl⟩ := h
      exact hbody cdv A outer s H vs Q E hr wf h
  refine ⟨len, fun A outer s H args us vs Q E hr e0 hb hv hs => ?_⟩
  refine codeAny_mono (F1.run A outer s H args us vs (RQ H Q) (RE H E) hr e0 hb hv ⟨Q, E, wf_of e0.hok, hs, rfl, rfl⟩) fun r s' hq => ?_
  cases r with
  | error e =>
    obtain ⟨a, B, H', cls, d, h1, h2, h3, h4, h5, h6, h7, H2, c, q⟩ := hq
    have h8 : H2 a = none := by
      cases z : H2 a with
      | none => rfl
      | some v =>
        rw [c.sub a v z] at h5
        cases h5
    exact ⟨a, B, H2, cls, d, h1, h2, hok_cut c h3, ub_cut c h4, h8, h6, h7, q⟩
  | ok fl =>
    cases fl with
    | ret u =>
      obtain ⟨v, H', h1, h2, h3, h4, h5, H2, c, q⟩ := hq
      exact ⟨v, H2, h1, h2, un_cut c h3, hok_cut c h4, h5, q⟩
    | next => exact hq
    | brk => exact hq
    | cont => exact hq
end
end Z
namespace Z
open PySem PySem.Spec PyProof.Rows L2
abbrev Sl := L2.St
/-! ### weakening -/
section
variable {X : Cx}
theorem pe_imp {e : Expr} {t t' : TE} (h : PE X e t) (i : ∀ σ H Q, t' σ H Q → t σ H Q) : PE X e t' := ⟨fun pins s σ H Q I q => h.run pins s σ H Q I (i σ H Q q)⟩
theorem pt_imp {e : Expr} {t t' : TT} (h : PT X e t) (i : ∀ σ H Q, t' σ H Q → t σ H Q) : PT X e t' := ⟨fun pins s σ H Q I q => h.run pins s σ H Q I (i σ H Q q)⟩
theorem ps_imp {e : Stmt} {t t' : TS} (h : PS X e t) (i : ∀ D σ H, t' D σ H → t D σ H) : PS X e t' := ⟨fun pins s σ H D I q => h.run pins s σ H D I (i D σ H q)⟩
theorem opR_imp {f : Value → Value → Sem Value} {r r' : R2} (h : OpR X f r) (i : ∀ x y H Q, r' x y H Q → r x y H Q) : OpR X f r' := fun pins s σ H x y v u Q I a b q => h pins s σ H x y v u Q I a b (i x y H Q q)
theorem callR_imp {f : Value} {r r' : List V → Hp → VK → Prop} (h : CallR X f r) (i : ∀ x H Q, r' x H Q → r x H Q) : CallR X f r' := fun pins s σ H x u Q I a q => h pins s σ H x u Q I a (i x H Q q)
theorem mtR_imp {f : String} {r r' : V → List V → Hp → VK → Prop} (h : MtR X f r) (i : ∀ x y H Q, r' x y H Q → r x y H Q) : MtR X f r' := fun pins s σ H x y v u Q I a b q => h pins s σ H x y v u Q I a b (i x y H Q q)
theorem ixR_imp {r r' : R2} (h : IxR X r) (i : ∀ x y H Q, r' x y H Q → r x y H Q) : IxR X r' := fun va sl pins s σ H x y v u Q I a b q e => h va sl pins s σ H x y v u Q I a b (i x y H Q q) e
theorem slR_imp {r r' : V → Option Int → Option Int → Hp → VK → Prop} (h : SlR X r) (i : ∀ x y z H Q, r' x y z H Q → r x y z H Q) : SlR X r' := fun pins s σ H x v vl vu lo hi sl Q I rx hs pl pu q => h pins s σ H x v vl vu lo hi sl Q I rx hs pl pu (i _ _ _ _ _ q)
end
/-! ### new objects -/
def zNew (o : HO) (H : Hp) (Q : VK) : Prop := ∀ p, H p = none → Q (.ref p) (upd H p o)
/-! ### slots -/
def vcase : Option (Option V) → VK → Hp → Prop
  | some (some v), Q, H => Q v H
  | _, _, _ => False
def zV (i : Nat) : TE := fun σ H Q => vcase (σ[i]?) Q H
theorem zV_eq {i : Nat} {σ : Sl} {H : Hp} {Q : VK} : zV i σ H Q = vcase (σ[i]?) Q H := rfl
theorem vcase_some {v : V} {Q : VK} {H : Hp} : vcase (some (some v)) Q H = Q v H := rfl
theorem ix_zero {α : Type} {a : α} {l : List α} : (a :: l)[0]? = some a := rfl
theorem ix_succ {α : Type} {a : α} {l : List α} {n : Nat} : (a :: l)[n + 1]? = l[n]? := rfl
theorem set_zero {α : Type} {a b : α} {l : List α} : (a :: l).set 0 b = b :: l := rfl
theorem set_succ {α : Type} {a b : α} {l : List α} {n : Nat} : (a :: l).set (n + 1) b = a :: l.set n b := rfl
theorem start_cons {x : Str} {N : List Str} {v : V} {vs : List V} : L2.start (x :: N) (v :: vs) = some v :: L2.start N vs := by
  simp [L2.start]
theorem start_none {x : Str} {N : List Str} : L2.start (x :: N) [] = none :: L2.start N [] := by
  simp [L2.start, List.replicate_succ]
theorem start_nil : L2.start [] [] = [] := rfl
theorem vcase_ex {o : Option (Option V)} {Q : VK} {H : Hp} (q : vcase o Q H) : ∃ v, o = some (some v) ∧ Q v H := by
  match o, q with
  | some (some v), q => exact ⟨v, rfl, q⟩
theorem pv {X : Cx} (i : Nat) {x : Str} {pos : Pos} (hN : X.N[i]? = some x := by rfl) (hv : Vis X.env.scope x := by first | exact Or.inl rfl | exact Or.inr (Or.inl rfl) | exact Or.inr (Or.inr rfl)) (hd : (x == ("__debug__" : Str)) = false := by decide)
    (hcd : (x == ("__classdict__" : Str)) = false := by decide) : PE X (.Name x pos) (zV i) := pe_imp (pe_var (i := i) hN hv hd hcd) fun σ H Q q => vcase_ex q
/-! ### constants -/
def zC (v : V) : TE := fun _ H Q => Q v H
theorem zC_eq {v : V} {σ : Sl} {H : Hp} {Q : VK} : zC v σ H Q = Q v H := rfl
section
variable {X : Cx}
theorem pc_int {i j pos} : PE X (.Constant (.int i) j pos) (zC (.int i)) := pe_int
theorem pc_bl {b j pos} : PE X (.Constant (.bool b) j pos) (zC (.bl b)) := pe_bl
theorem pc_non {j pos} : PE X (.Constant .none j pos) (zC .non) := pe_non
theorem pc_str {x j pos} : PE X (.Constant (.str x) j pos) (zC (.str x)) := pe_str
theorem pc_glob {x : Str} {v : V} {u : Value} {pos : Pos} (hg : Gl X x) (hm : X.mg x = some u) (r : RelV v u) (hd : (x == ("__debug__" : Str)) = false := by decide) : PE X (.Name x pos) (zC v) := pe_glob hg hm r hd
end
/-! ### operators -/
def kB2 (r : R2) (x : V) (Q : VK) : VK := fun y H => r x y H Q
def kB1 (r : R2) (tb : TE) (σ : Sl) (Q : VK) : VK := fun x H => tb σ H (kB2 r x Q)
def zB (r : R2) (ta tb : TE) : TE := fun σ H Q => ta σ H (kB1 r tb σ Q)
theorem zB_eq {r ta tb} {σ : Sl} {H : Hp} {Q : VK} : zB r ta tb σ H Q = ta σ H (kB1 r tb σ Q) := rfl
theorem kB1_eq {r tb} {σ : Sl} {x : V} {H : Hp} {Q : VK} : kB1 r tb σ Q x H = tb σ H (kB2 r x Q) := rfl
theorem kB2_eq {r : R2} {x y : V} {H : Hp} {Q : VK} : kB2 r x Q y H = r x y H Q := rfl
abbrev R1 := V → Hp → VK → Prop
def kU (r : R1) (Q : VK) : VK := fun x H => r x H Q
def zU (r : R1) (ta : TE) : TE := fun σ H Q => ta σ H (kU r Q)
theorem zU_eq {r ta} {σ : Sl} {H : Hp} {Q : VK} : zU r ta σ H Q = ta σ H (kU r Q) := rfl
theorem kU_eq {r : R1} {x : V} {H : Hp} {Q : VK} : kU r Q x H = r x H Q := rfl
section
variable {X : Cx} {a b c e : Expr} {ta tb tc : TE} {pos : Pos}
theorem pz_op {op : Operator} {r : R2} (ho : OpR X (binaryOp op) r) (ha : PE X a ta) (hb : PE X b tb) : PE X (.BinOp a op b pos) (zB r ta tb) := pe_op ho ha hb
theorem pz_cmp {op : CmpOp} {r : R2} (ho : OpR X (compareOp op) r) (ha : PE X a ta) (hb : PE X b tb) (hm : behindInMarks op b = false := by rfl) : PE X (.Compare a [op] [b] pos) (zB r ta tb) := pe_cmpR ho ha hb hm
theorem pz_un {op : UnaryOp} {r : R1} (ho : UnR X (unaryOp op) r) (ha : PE X a ta) : PE X (.UnaryOp op a pos) (zU r ta) := pe_un ho ha
end
/-- a < b < c -/
def kCh3 (r' : R2) (y : V) (tc : TE) (σ : Sl) (Q : VK) : VK := fun z H3 => ∃ k, z = .bl k ∧ (if k = true then tc σ H3 (fun w' H4 => r' y w' H4 Q) else Q (.bl false) H3)
def kCh2 (r r' : R2) (x : V) (tc : TE) (σ : Sl) (Q : VK) : VK := fun y H => r x y H (kCh3 r' y tc σ Q)
def kCh1 (r r' : R2) (tb tc : TE) (σ : Sl) (Q : VK) : VK := fun x H => tb σ H (kCh2 r r' x tc σ Q)
def zCh (r r' : R2) (ta tb tc : TE) : TE := fun σ H Q => ta σ H (kCh1 r r' tb tc σ Q)
theorem zCh_eq {r r' ta tb tc} {σ : Sl} {H : Hp} {Q : VK} : zCh r r' ta tb tc σ H Q = ta σ H (kCh1 r r' tb tc σ Q) := rfl
theorem kCh1_eq {r r' tb tc} {σ : Sl} {x : V} {H : Hp} {Q : VK} : kCh1 r r' tb tc σ Q x H = tb σ H (kCh2 r r' x tc σ Q) := rfl
theorem kCh2_eq {r r' : R2} {x y : V} {tc} {σ : Sl} {H : Hp} {Q : VK} : kCh2 r r' x tc σ Q y H = r x y H (kCh3 r' y tc σ Q) := rfl
theorem kCh3_split {r' : R2} {y : V} {tc : TE} {σ : Sl} {H : Hp} {Q : VK} {k : Bool} (h1 : k = true → tc σ H (kB2 r' y Q)) (h2 : k = false → Q (.bl false) H) : kCh3 r' y tc σ Q (.bl k) H := by
  refine ⟨k, rfl, ?_⟩
  cases k
  · exact h2 rfl
  · exact h1 rfl
theorem kCh3_t {r' : R2} {y : V} {tc} {σ : Sl} {H : Hp} {Q : VK} : kCh3 r' y tc σ Q (.bl true) H = tc σ H (kB2 r' y Q) := by
  unfold kCh3 kB2
  simp
theorem kCh3_f {r' : R2} {y : V} {tc} {σ : Sl} {H : Hp} {Q : VK} : kCh3 r' y tc σ Q (.bl false) H = Q (.bl false) H := by
  unfold kCh3
  simp
theorem pz_chain {X : Cx} {a b c : Expr} {ta tb tc : TE} {pos : Pos} {op op' : CmpOp} {r r' : R2} (ho : OpR X (compareOp op) r) (ho' : OpR X (compareOp op') r') (ha : PE X a ta) (hb : PE X b tb) (hc : PE X c tc) (hm : lastMarks [op, op'] [b, c] = false := by rfl) :
    PE X (.Compare a [op, op'] [b, c] pos) (zCh r r' ta tb tc) := pe_chain ho ho' ha hb hc hm
/-! ### tests -/
def kT (Q : Bool → Hp → Prop) : VK := fun x H' => ∃ k, x = .bl k ∧ Q k H'
/-- a test that gives a Bool -/
def zT (ta : TE) : TT := fun σ H Q => ta σ H (kT Q)
theorem zT_eq {ta} {σ : Sl} {H : Hp} {Q} : zT ta σ H Q = ta σ H (kT Q) := rfl
theorem kT_bl {k : Bool} {H : Hp} {Q} : kT Q (.bl k) H = Q k H := by
  unfold kT
  simp
/-- any value's truth -/
def kTr (K : PySem.W.Frag) (Q : Bool → Hp → Prop) : VK := fun x H' => ∃ k, TruV K x H' k ∧ Q k H'
def zTr (K : PySem.W.Frag) (ta : TE) : TT := fun σ H Q => ta σ H (kTr K Q)
theorem zTr_eq {K ta} {σ : Sl} {H : Hp} {Q} : zTr K ta σ H Q = ta σ H (kTr K Q) := rfl
theorem kTr_bl {K} {k : Bool} {H : Hp} {Q} : kTr K Q (.bl k) H = Q k H := by
  unfold kTr TruV
  simp
theorem kTr_non {K} {H : Hp} {Q} : kTr K Q .non H = Q false H := by
  unfold kTr TruV
  simp
theorem kTr_int {K} {i : Int} {H : Hp} {Q} : kTr K Q (.int i) H = Q (i != 0) H := by
  unfold kTr TruV
  simp
theorem kTr_str {K} {y : Str} {H : Hp} {Q} : kTr K Q (.str y) H = (y.length ≤ sizeLine ∧ Q ((y.length : Int) != 0) H) := by
  unfold kTr TruV
  apply propext
  constructor
  · rintro ⟨k, ⟨h1, rfl⟩, h2⟩
    exact ⟨h1, h2⟩
  · rintro ⟨h1, h2⟩
    exact ⟨_, ⟨h1, rfl⟩, h2⟩
theorem kTr_lst {K} {p : Addr} {xs : List V} {H : Hp} {Q} (h : H p = some (.lst xs)) (q : Q (!xs.isEmpty) H) : kTr K Q (.ref p) H := ⟨_, .inl ⟨xs, SqL.of h, rfl⟩, q⟩
def kAnd (u : TT) (σ : Sl) (Q : Bool → Hp → Prop) : Bool → Hp → Prop := fun c H1 => if c = true then u σ H1 Q else Q false H1
def zAnd (t u : TT) : TT := fun σ H Q => t σ H (kAnd u σ Q)
def kOr (u : TT) (σ : Sl) (Q : Bool → Hp → Prop) : Bool → Hp → Prop := fun c H1 => if c = true then Q true H1 else u σ H1 Q
def zOr (t u : TT) : TT := fun σ H Q => t σ H (kOr u σ Q)
def kNot (Q : Bool → Hp → Prop) : Bool → Hp → Prop := fun c H1 => Q (!c) H1
def zNot (t : TT) : TT := fun σ H Q => t σ H (kNot Q)
theorem zAnd_eq {t u : TT} {σ : Sl} {H : Hp} {Q} : zAnd t u σ H Q = t σ H (kAnd u σ Q) := rfl
theorem zOr_eq {t u : TT} {σ : Sl} {H : Hp} {Q} : zOr t u σ H Q = t σ H (kOr u σ Q) := rfl
theorem zNot_eq {t : TT} {σ : Sl} {H : Hp} {Q} : zNot t σ H Q = t σ H (kNot Q) := rfl
theorem kNot_eq {c : Bool} {H : Hp} {Q} : kNot Q c H = Q (!c) H := rfl
theorem kAnd_t {u : TT} {σ : Sl} {H : Hp} {Q} : kAnd u σ Q true H = u σ H Q := rfl
theorem kAnd_f {u : TT} {σ : Sl} {H : Hp} {Q} : kAnd u σ Q false H = Q false H := rfl
theorem kOr_t {u : TT} {σ : Sl} {H : Hp} {Q} : kOr u σ Q true H = Q true H := rfl
theorem kOr_f {u : TT} {σ : Sl} {H : Hp} {Q} : kOr u σ Q false H = u σ H Q := rfl
theorem kAnd_split {u : TT} {σ : Sl} {H : Hp} {Q} {k : Bool} (h1 : k = true → u σ H Q) (h2 : k = false → Q false H) : kAnd u σ Q k H := by
  cases k
  · exact h2 rfl
  · exact h1 rfl
theorem kOr_split {u : TT} {σ : Sl} {H : Hp} {Q} {k : Bool} (h1 : k = true → Q true H) (h2 : k = false → u σ H Q) : kOr u σ Q k H := by
  cases k
  · exact h2 rfl
  · exact h1 rfl
section
variable {X : Cx} {a b c e : Expr} {ta tb tc : TE} {tA tB' : TT} {pos : Pos} {rest : List Expr}
theorem pq_cmp {op : CmpOp} {r : R2} (ho : OpR X (compareOp op) r) (ha : PE X a ta) (hb : PE X b tb) (hm : behindInMarks op b = false := by rfl) : PT X (.Compare a [op] [b] pos) (zT (zB r ta tb)) := pt_cmpR ho ha hb hm
theorem pq_chain {op op' : CmpOp} {r r' : R2} (ho : OpR X (compareOp op) r) (ho' : OpR X (compareOp op') r') (ha : PE X a ta) (hb : PE X b tb) (hc : PE X c tc) (hm : lastMarks [op, op'] [b, c] = false := by rfl) :
    PT X (.Compare a [op, op'] [b, c] pos) (zT (zCh r r' ta tb tc)) := pt_chain ho ho' ha hb hc hm
/-- the truth of a name, a call, an attribute, a subscript .. -/
theorem pq_val (ha : PE X a ta) (he : ∀ whole, isTrue a X.env whole = (do let v ← whole; standAt a.pos; holding [v] (truthy v)) := by intro _; rfl) : PT X a (zTr X.K ta) := pt_truth ha he
theorem pqw_and (ha : PT X a tA) (hb : PW X (.BoolOp .And (b :: rest) pos) tB') : PW X (.BoolOp .And (a :: b :: rest) pos) (zAnd tA tB') := pw_and ha hb
theorem pqw_and1 (ha : PT X a tA) : PW X (.BoolOp .And [a] pos) tA := pw_and1 ha
theorem pqw_or (ha : PT X a tA) (hb : PW X (.BoolOp .Or (b :: rest) pos) tB') : PW X (.BoolOp .Or (a :: b :: rest) pos) (zOr tA tB') := pw_or ha hb
theorem pqw_or1 (ha : PT X a tA) : PW X (.BoolOp .Or [a] pos) tA := pw_or1 ha
theorem pq_not (ha : PT X a tA) : PT X (.UnaryOp .Not a pos) (zNot tA) := pt_not ha
end
/-! ### and, or, not as values (Bools) -/
def kAndV (tb : TE) (σ : Sl) (Q : VK) : VK := fun x H1 => ∃ c, x = .bl c ∧ if c = true then tb σ H1 Q else Q (.bl false) H1
def kOrV (tb : TE) (σ : Sl) (Q : VK) : VK := fun x H1 => ∃ c, x = .bl c ∧ if c = true then Q (.bl true) H1 else tb σ H1 Q
def kNotV (Q : VK) : VK := fun x H1 => ∃ c, x = .bl c ∧ Q (.bl (!c)) H1
def zAndV (ta tb : TE) : TE := fun σ H Q => ta σ H (kAndV tb σ Q)
def zOrV (ta tb : TE) : TE := fun σ H Q => ta σ H (kOrV tb σ Q)
def zNotV (ta : TE) : TE := fun σ H Q => ta σ H (kNotV Q)
theorem zAndV_eq {ta tb} {σ : Sl} {H : Hp} {Q} : zAndV ta tb σ H Q = ta σ H (kAndV tb σ Q) := rfl
theorem zOrV_eq {ta tb} {σ : Sl} {H : Hp} {Q} : zOrV ta tb σ H Q = ta σ H (kOrV tb σ Q) := rfl
theorem zNotV_eq {ta} {σ : Sl} {H : Hp} {Q} : zNotV ta σ H Q = ta σ H (kNotV Q) := rfl
theorem kAndV_split {tb : TE} {σ : Sl} {H : Hp} {Q : VK} {k : Bool} (h1 : k = true → tb σ H Q) (h2 : k = false → Q (.bl false) H) : kAndV tb σ Q (.bl k) H := by
  refine ⟨k, rfl, ?_⟩
  cases k
  · exact h2 rfl
  · exact h1 rfl
theorem kOrV_split {tb : TE} {σ : Sl} {H : Hp} {Q : VK} {k : Bool} (h1 : k = true → Q (.bl true) H) (h2 : k = false → tb σ H Q) : kOrV tb σ Q (.bl k) H := by
  refine ⟨k, rfl, ?_⟩
  cases k
  · exact h2 rfl
  · exact h1 rfl
theorem kAndV_t {tb} {σ : Sl} {H : Hp} {Q} : kAndV tb σ Q (.bl true) H = tb σ H Q := by
  unfold kAndV
  simp
theorem kAndV_f {tb} {σ : Sl} {H : Hp} {Q} : kAndV tb σ Q (.bl false) H = Q (.bl false) H := by
  unfold kAndV
  simp
theorem kOrV_t {tb} {σ : Sl} {H : Hp} {Q} : kOrV tb σ Q (.bl true) H = Q (.bl true) H := by
  unfold kOrV
  simp
theorem kOrV_f {tb} {σ : Sl} {H : Hp} {Q} : kOrV tb σ Q (.bl false) H = tb σ H Q := by
  unfold kOrV
  simp
theorem kNotV_bl {c : Bool} {H : Hp} {Q} : kNotV Q (.bl c) H = Q (.bl (!c)) H := by
  unfold kNotV
  simp
section
variable {X : Cx} {a b c e : Expr} {ta tb tc : TE} {tA : TT} {pos : Pos} {rest : List Expr}
theorem pz_and (ha : PE X a ta) (hb : PE X (.BoolOp .And (b :: rest) pos) tb) : PE X (.BoolOp .And (a :: b :: rest) pos) (zAndV ta tb) := pe_and ha hb
theorem pz_or (ha : PE X a ta) (hb : PE X (.BoolOp .Or (b :: rest) pos) tb) : PE X (.BoolOp .Or (a :: b :: rest) pos) (zOrV ta tb) := pe_or ha hb
theorem pz_not (ha : PE X a ta) : PE X (.UnaryOp .Not a pos) (zNotV ta) := pe_not ha
end
/-! ### conditional expressions -/
def kIfE (ta tb : TE) (σ : Sl) (Q : VK) : Bool → Hp → Prop := fun c H1 => if c = true then ta σ H1 Q else tb σ H1 Q
def zIfE (t : TT) (ta tb : TE) : TE := fun σ H Q => t σ H (kIfE ta tb σ Q)
theorem zIfE_eq {t ta tb} {σ : Sl} {H : Hp} {Q} : zIfE t ta tb σ H Q = t σ H (kIfE ta tb σ Q) := rfl
theorem kIfE_t {ta tb} {σ : Sl} {H : Hp} {Q} : kIfE ta tb σ Q true H = ta σ H Q := rfl
theorem kIfE_f {ta tb} {σ : Sl} {H : Hp} {Q} : kIfE ta tb σ Q false H = tb σ H Q := rfl
theorem kIfE_split {ta tb : TE} {σ : Sl} {H : Hp} {Q : VK} {k : Bool} (h1 : k = true → ta σ H Q) (h2 : k = false → tb σ H Q) : kIfE ta tb σ Q k H := by
  cases k
  · exact h2 rfl
  · exact h1 rfl
theorem pz_ifE {X : Cx} {a b c : Expr} {ta tb : TE} {tA : TT} {pos : Pos} (hc : PT X c tA) (ha : PE X a ta) (hb : PE X b tb) : PE X (.IfExp c a b pos) (zIfE tA ta tb) := pe_ifExp hc ha hb
/-! ### arguments -/
def kArg2 (x : V) (Q : List V → Hp → Prop) : List V → Hp → Prop := fun xs H => Q (x :: xs) H
def kArg1 (tr : TA) (σ : Sl) (Q : List V → Hp → Prop) : VK := fun x H => tr σ H (kArg2 x Q)
def zNil : TA := fun _ H Q => Q [] H
def zCons (ta : TE) (tr : TA) : TA := fun σ H Q => ta σ H (kArg1 tr σ Q)
theorem zNil_eq {σ : Sl} {H : Hp} {Q} : zNil σ H Q = Q [] H := rfl
theorem zCons_eq {ta tr} {σ : Sl} {H : Hp} {Q} : zCons ta tr σ H Q = ta σ H (kArg1 tr σ Q) := rfl
theorem kArg1_eq {tr} {σ : Sl} {x : V} {H : Hp} {Q} : kArg1 tr σ Q x H = tr σ H (kArg2 x Q) := rfl
theorem kArg2_eq {x : V} {xs : List V} {H : Hp} {Q} : kArg2 x Q xs H = Q (x :: xs) H := rfl
section
variable {X : Cx} {e : Expr} {es : List Expr} {te : TE} {t : TA}
theorem az_nil : PA X [] zNil := pa_nil
theorem az_cons (ha : PE X e te) (hr : PA X es t) (hs : starEach (e :: es) X.env = (false, eval e X.env) :: starEach es X.env := by rfl) : PA X (e :: es) (zCons te t) := pa_cons ha hr hs
end
/-! ### displays -/
def kTup (Q : VK) : List V → Hp → Prop := fun xs H1 => xs.length ≤ sizeLine ∧ ∀ p, H1 p = none → Q (.ref p) (upd H1 p (.tup xs))
def kLst (Q : VK) : List V → Hp → Prop := fun xs H1 => xs.length ≤ sizeLine ∧ ∀ p, H1 p = none → Q (.ref p) (upd H1 p (.lst xs))
def zTup (t : TA) : TE := fun σ H Q => t σ H (kTup Q)
def zLst (t : TA) : TE := fun σ H Q => t σ H (kLst Q)
theorem zTup_eq {t} {σ : Sl} {H : Hp} {Q} : zTup t σ H Q = t σ H (kTup Q) := rfl
theorem zLst_eq {t} {σ : Sl} {H : Hp} {Q} : zLst t σ H Q = t σ H (kLst Q) := rfl
theorem few_line {n : Nat} (h : n ≤ 1000) : n ≤ sizeLine := by
  rw [sizeLine_eq]
  omega
theorem kTup_eq {xs : List V} {H : Hp} {Q} (h : xs.length ≤ 1000) : kTup Q xs H = zNew (.tup xs) H Q := by
  unfold kTup zNew
  simp [few_line h]
theorem kLst_eq {xs : List V} {H : Hp} {Q} (h : xs.length ≤ 1000) : kLst Q xs H = zNew (.lst xs) H Q := by
  unfold kLst zNew
  simp [few_line h]
section
variable {X : Cx} {es : List Expr} {t : TA} {pos : Pos}
theorem pz_tup {x1} (h : PA X es t) : PE X (.Tuple es x1 pos) (zTup t) := pe_tup h
theorem pz_lst (h : PA X es t) : PE X (.List es pos) (zLst t) := pe_lst h
end
/-! ### statements -/
def thnE (D : Ends) (b : TS) : Ends := { D with nx := b D }
theorem thnE_nx {D : Ends} {b : TS} {σ : Sl} {H : Hp} : (thnE D b).nx σ H = b D σ H := rfl
theorem thnE_rt {D : Ends} {b : TS} : (thnE D b).rt = D.rt := rfl
theorem thnE_bk {D : Ends} {b : TS} : (thnE D b).bk = D.bk := rfl
theorem thnE_ct {D : Ends} {b : TS} : (thnE D b).ct = D.ct := rfl
theorem mk_nx {a b c d} : (⟨a, b, c, d⟩ : Ends).nx = a := rfl
theorem mk_rt {a b c d} : (⟨a, b, c, d⟩ : Ends).rt = b := rfl
theorem mk_bk {a b c d} : (⟨a, b, c, d⟩ : Ends).bk = c := rfl
theorem mk_ct {a b c d} : (⟨a, b, c, d⟩ : Ends).ct = d := rfl
def zSeq (t u : TS) : TS := fun D σ H => t (thnE D u) σ H
def zNext : TS := fun D σ H => D.nx σ H
def zBreak : TS := fun D σ H => D.bk σ H
def zCont : TS := fun D σ H => D.ct σ H
theorem zSeq_eq {t u : TS} {D : Ends} {σ : Sl} {H : Hp} : zSeq t u D σ H = t (thnE D u) σ H := rfl
theorem zNext_eq {D : Ends} {σ : Sl} {H : Hp} : zNext D σ H = D.nx σ H := rfl
theorem zBreak_eq {D : Ends} {σ : Sl} {H : Hp} : zBreak D σ H = D.bk σ H := rfl
theorem zCont_eq {D : Ends} {σ : Sl} {H : Hp} : zCont D σ H = D.ct σ H := rfl
def kSet (i : Nat) (D : Ends) (σ : Sl) : VK := fun v H => D.nx (σ.set i (some v)) H
def zSet (i : Nat) (te : TE) : TS := fun D σ H => te σ H (kSet i D σ)
theorem zSet_eq {i te} {D : Ends} {σ : Sl} {H : Hp} : zSet i te D σ H = te σ H (kSet i D σ) := rfl
theorem kSet_eq {i v} {D : Ends} {σ : Sl} {H : Hp} : kSet i D σ v H = D.nx (σ.set i (some v)) H := rfl
def kDrop (D : Ends) (σ : Sl) : VK := fun _ H => D.nx σ H
def zDrop (te : TE) : TS := fun D σ H => te σ H (kDrop D σ)
theorem zDrop_eq {te} {D : Ends} {σ : Sl} {H : Hp} : zDrop te D σ H = te σ H (kDrop D σ) := rfl
theorem kDrop_eq {v} {D : Ends} {σ : Sl} {H : Hp} : kDrop D σ v H = D.nx σ H := rfl
def zRet (te : TE) : TS := fun D σ H => te σ H D.rt
def zRetN : TS := fun D _ H => D.rt .non H
theorem zRet_eq {te} {D : Ends} {σ : Sl} {H : Hp} : zRet te D σ H = te σ H D.rt := rfl
theorem zRetN_eq {D : Ends} {σ : Sl} {H : Hp} : zRetN D σ H = D.rt .non H := rfl
def kIf (t u : TS) (D : Ends) (σ : Sl) : Bool → Hp → Prop := fun b H1 => if b = true then t D σ H1 else u D σ H1
def zIf (c : TT) (t u : TS) : TS := fun D σ H => c σ H (kIf t u D σ)
theorem zIf_eq {c t u} {D : Ends} {σ : Sl} {H : Hp} : zIf c t u D σ H = c σ H (kIf t u D σ) := rfl
theorem kIf_t {t u : TS} {D : Ends} {σ : Sl} {H : Hp} : kIf t u D σ true H = t D σ H := rfl
theorem kIf_f {t u : TS} {D : Ends} {σ : Sl} {H : Hp} : kIf t u D σ false H = u D σ H := rfl
theorem kIf_split {t u : TS} {D : Ends} {σ : Sl} {H : Hp} {k : Bool} (h1 : k = true → t D σ H) (h2 : k = false → u D σ H) : kIf t u D σ k H := by
  cases k
  · exact h2 rfl
  · exact h1 rfl
section
variable {X : Cx} {st : Stmt} {rest : List Stmt} {t u : TS} {e : Expr} {te : TE} {pos : Pos}
theorem sz_nil : PSs X [] zNext := pss_nil
theorem sz_cons (h1 : PS X st t) (h2 : PSs X rest u) : PSs X (st :: rest) (zSeq t u) := pss_cons h1 h2
theorem sz_one (h1 : PS X st t) : PSs X [st] t := pss_one h1
theorem sz_pass : PS X (.Pass pos) zNext := ps_pass
theorem sz_break : PS X (.Break pos) zBreak := ps_break
theorem sz_cont : PS X (.Continue pos) zCont := ps_continue
theorem sz_set (i : Nat) {x : Str} {pos' : Pos} (hN : X.N.Nodup) (he : PE X e te) (hi : X.N[i]? = some x := by rfl) (hx : Loc X.env.scope x := by first | exact Or.inl rfl | exact Or.inr rfl) (hs : swapsWith e (some (.Name x pos')) pos.line X.env = pure false := by rfl) (hf : X.fn x = true ∨ X.env.scope.names.lookup x = some .local := by first | exact .inl rfl | exact .inr rfl | assumption) :
    PS X (.Assign [.Name x pos'] e pos) (zSet i te) := ps_set (i := i) hN hi hx he hs hf
theorem sz_expr (he : PE X e te) (hs : swapsWith e none pos.line X.env = pure false := by rfl) : PS X (.Expr e pos) (zDrop te) := ps_expr he hs
theorem sz_ret (he : PE X e te) : PS X (.Return (some e) pos) (zRet te) := ps_ret he
theorem sz_retN : PS X (.Return none pos) zRetN := ps_retN
theorem sz_if {c : Expr} {a b : List Stmt} {tc : TT} (hc : PT X c tc) (ha : PSs X a t) (hb : PSs X b u) : PS X (.If c a b pos) (zIf tc t u) := ps_if hc ha hb
end
end Z
namespace Z
open PySem PySem.Spec PyProof.Rows L2 TL
/-! ### texts by their codes -/
def mkS (l : List Nat) : Str := ⟨l.toArray⟩
def cs (s : String) : List Nat := s.toList.map Char.toNat
theorem mkS_tl (x : Str) : mkS (tl x) = x := mk_tl x
theorem tl_mkS (l : List Nat) : tl (mkS l) = l := rfl
theorem cps_mkS (l : List Nat) : (mkS l).cps.toList = l := rfl
theorem len_mkS (l : List Nat) : (mkS l).length = l.length := by simp [mkS, Str.length]
theorem app_mkS (a b : List Nat) : mkS a ++ mkS b = mkS (a ++ b) := ext_tl (by rw [tl_append]; rfl)
theorem mkS_inj {a b : List Nat} (h : mkS a = mkS b) : a = b := congrArg tl h
theorem mkS_eq (a b : List Nat) : (mkS a = mkS b) = (a = b) := propext ⟨mkS_inj, fun h => by rw [h]⟩
theorem lit_eq (s : String) : Str.ofString s = mkS (cs s) := ext_tl (tl_ofString s)
theorem mk1 (c : Nat) : (⟨#[c]⟩ : Str) = mkS [c] := rfl
theorem str_cases (x : Str) : ∃ l, x = mkS l := ⟨tl x, (mkS_tl x).symm⟩
/-! ### equations for values -/
theorem V_int (i j : Int) : (V.int i = V.int j) = (i = j) := propext ⟨fun h => V.int.inj h, fun h => by rw [h]⟩
theorem V_str (i j : Str) : (V.str i = V.str j) = (i = j) := propext ⟨fun h => V.str.inj h, fun h => by rw [h]⟩
theorem V_bl (i j : Bool) : (V.bl i = V.bl j) = (i = j) := propext ⟨fun h => V.bl.inj h, fun h => by rw [h]⟩
theorem V_ref (i j : Addr) : (V.ref i = V.ref j) = (i = j) := propext ⟨fun h => V.ref.inj h, fun h => by rw [h]⟩
theorem dec_T (i : Decidable True) : @decide True i = true := by simp
theorem dec_F (i : Decidable False) : @decide False i = false := by simp
theorem not_t : (!true) = false := rfl
theorem not_f : (!false) = true := rfl
theorem and_T (p : Prop) : (True ∧ p) = p := by simp
theorem T_and (p : Prop) : (p ∧ True) = p := by simp
/-! ### heaps -/
theorem upd_at {H : Hp} {a : Addr} {o : HO} : upd H a o a = some o := upd_same
theorem upd_old {H : Hp} {a b : Addr} {o : HO} (h : H a = none) (hb : (H b).isSome = true) : upd H a o b = H b := by
  refine upd_ne fun e => ?_
  rw [e, h] at hb
  cases hb
theorem upd_none {H : Hp} {a b : Addr} {o : HO} : upd H a o b = none ↔ b ≠ a ∧ H b = none := by
  unfold upd
  by_cases h : b = a
  · simp [h]
  · simp [h]
theorem same_upd {H H1 : Hp} {p : Addr} {o : HO} (s : Same H H1) (h : H p = none) : Same H (upd H1 p o) := fun b u e => by
  have hne : b ≠ p := ne_of_none e h
  rw [upd_ne hne]
  exact s b u e
theorem same_new {H : Hp} {p : Addr} {o : HO} (h : H p = none) : Same H (upd H p o) := same_upd (Same.refl H) h
theorem ne_new {H : Hp} {a b : Addr} {o : HO} (h : H a = some o) (h' : H b = none) : a ≠ b := ne_of_none h h'
theorem noDT_upd {H : Hp} {p : Addr} {o : HO} (h : NoDT H) (ho : noDT o = true) : NoDT (upd H p o) := fun a u e => by
  by_cases hb : a = p
  · rw [hb, upd_same] at e
    cases e
    exact ho
  · rw [upd_ne hb] at e
    exact h a u e
theorem cut_self {H H' : Hp} (wf : WF H) (nd : NoDT H) (s : Same H H') : Cut H H H' := ⟨s, fun _ h => h, nd, wf⟩
theorem ret_same {H H' : Hp} {Q : VK} {v : V} (wf : WF H) (nd : NoDT H) (s : Same H H') (q : Q v H) : RQ H Q v H' := ⟨H, cut_self wf nd s, q⟩
theorem exc_same {H H' : Hp} {E : XK} {c : Value} {d : Option Addr} (wf : WF H) (nd : NoDT H) (s : Same H H') (q : E c d H) : RE H E c d H' := ⟨H, cut_self wf nd s, q⟩
def plainO : HO → Bool
  | .lst _ => true
  | .tup _ => true
  | .dK _ => true
  | _ => false
theorem noDT_plain {o : HO} (h : plainO o = true) : noDT o = true := by cases o <;> first | rfl | cases h
theorem cl_plain {H : Hp} {a : Addr} {o : HO} (h : plainO o = true) : Cl H a o := by cases o <;> first | trivial | cases h
theorem cl_upd {H : Hp} {p a : Addr} {o : HO} (h : H p = none) (u : HO) : Cl H a u → Cl (upd H p o) a u := by
  induction u with
  | ins C dx fs =>
    intro c
    show upd H p o dx = some (.own a)
    rw [upd_ne (ne_of_none (show H dx = some (.own a) from c) h)]
    exact c
  | frz b u ih => exact fun c => ih c
  | _ => exact fun _ => trivial
theorem wf_upd {H : Hp} {p : Addr} {o : HO} (wf : WF H) (h : H p = none) (po : plainO o = true) : WF (upd H p o) := fun a u e => by
  by_cases hb : a = p
  · rw [hb, upd_same] at e
    cases e
    exact cl_plain po
  · rw [upd_ne hb] at e
    exact cl_upd h u (wf a u e)
/-- a new list, tuple or dict is handed back, the rest of what was made is forgotten -/
theorem ret_new {H H' : Hp} {Q : VK} {p : Addr} {o : HO} (wf : WF H) (nd : NoDT H) (s : Same H H') (hp : H p = none) (e : H' p = some o) (po : plainO o = true) (q : Q (.ref p) (upd H p o)) : RQ H Q (.ref p) H' := by
  refine ⟨upd H p o, ⟨fun b u z => ?_, fun b z => ?_, noDT_upd nd (noDT_plain po), wf_upd wf hp po⟩, q⟩
  · by_cases hb : b = p
    · rw [hb, upd_same] at z
      cases z
      rw [hb]
      exact e
    · rw [upd_ne hb] at z
      exact s b u z
  · exact (upd_none.mp z).2
/-! ### operators by values -/
section
variable {X : Cx}
def catO (H : Hp) (Q : VK) : Option HO → Option HO → Prop
  | some (.lst xs), some (.lst ys) => xs.length + ys.length ≤ sizeLine ∧ zNew (.lst (xs ++ ys)) H Q
  | _, _ => False
def rAdd : R2 := fun x y H Q => match x, y with
  | .int i, .int j => Q (.int (i + j)) H
  | .str i, .str j => i.length + j.length ≤ sizeLine ∧ Q (.str (i ++ j)) H
  | .ref p, .ref q => catO H Q (H p) (H q)
  | _, _ => False
theorem rAdd_int {i j : Int} {H Q} : rAdd (.int i) (.int j) H Q = Q (.int (i + j)) H := rfl
theorem rAdd_str {i j : Str} {H Q} : rAdd (.str i) (.str j) H Q = (i.length + j.length ≤ sizeLine ∧ Q (.str (i ++ j)) H) := rfl
theorem rAdd_ref {p q : Addr} {H Q} : rAdd (.ref p) (.ref q) H Q = catO H Q (H p) (H q) := rfl
theorem catO_lst {H : Hp} {Q : VK} {xs ys} : catO H Q (some (.lst xs)) (some (.lst ys)) = (xs.length + ys.length ≤ sizeLine ∧ zNew (.lst (xs ++ ys)) H Q) := rfl
theorem oz_add : OpR X (binaryOp .Add) rAdd := opR_imp (op_add.or (op_add_str.or op_cat)) fun x y H Q q => by
  cases x <;> cases y <;> first | exact False.elim q | skip
  · exact .inl ⟨_, _, rfl, rfl, q⟩
  · exact .inr (.inl ⟨_, _, rfl, rfl, q.1, q.2⟩)
  · rename_i a b
    have q : catO H Q (H a) (H b) := q
    refine .inr (.inr ?_)
    unfold catO at q
    split at q
    · rename_i xs ys e1 e2
      exact ⟨a, b, xs, ys, rfl, rfl, e1, e2, q.1, q.2⟩
    · exact q.elim
def rI2 (C : Int → Int → Prop) (g : Int → Int → V) : R2 := fun x y H Q => match x, y with
  | .int i, .int j => C i j ∧ Q (g i j) H
  | _, _ => False
theorem rI2_int {C g} {i j : Int} {H Q} : rI2 C g (.int i) (.int j) H Q = (C i j ∧ Q (g i j) H) := rfl
theorem rI2_of {f : Value → Value → Sem Value} {C g} (h : OpR X f (rI C g)) : OpR X f (rI2 C g) := opR_imp h fun x y H Q q => by
  cases x <;> cases y <;> first | exact False.elim q | exact ⟨_, _, rfl, rfl, q.1, q.2⟩
def rI20 (g : Int → Int → V) : R2 := fun x y H Q => match x, y with
  | .int i, .int j => Q (g i j) H
  | _, _ => False
theorem rI20_int {g} {i j : Int} {H Q} : rI20 g (.int i) (.int j) H Q = Q (g i j) H := rfl
theorem rI20_of {f : Value → Value → Sem Value} {g} (h : OpR X f (rI0 g)) : OpR X f (rI20 g) := opR_imp h fun x y H Q q => by
  cases x <;> cases y <;> first | exact False.elim q | exact ⟨_, _, rfl, rfl, q⟩
abbrev rSub : R2 := rI20 fun i j => .int (i - j)
theorem oz_sub : OpR X (binaryOp .Sub) rSub := rI20_of op_sub
/-- the divisor positive, below 2 ^ 30 -/
abbrev rFdv : R2 := rI2 CDiv fun i j => .int (i / j)
theorem oz_fdv : OpR X (binaryOp .FloorDiv) rFdv := rI2_of op_fdiv
abbrev rMod : R2 := rI2 (fun _ j => 0 < j) fun i j => .int (i % j)
theorem oz_mod : OpR X (binaryOp .Mod) rMod := rI2_of op_mod
abbrev rPow : R2 := rI2 CPow fun i j => .int (i ^ j.toNat)
theorem oz_pow : OpR X (binaryOp .Pow) rPow := rI2_of op_pow
def repO (H : Hp) (Q : VK) (k : Int) : Option HO → Prop
  | some (.lst xs) => -(2 ^ 63) ≤ k ∧ k < 2 ^ 63 ∧ xs.length * k.toNat ≤ sizeLine ∧ zNew (.lst (List.replicate k.toNat xs).flatten) H Q
  | _ => False
def rMul : R2 := fun x y H Q => match x, y with
  | .int i, .int j => CMul i j ∧ Q (.int (i * j)) H
  | .str z, .int k => MulOk z k ∧ Q (.str (Txt.mul z k)) H
  | .ref p, .int k => repO H Q k (H p)
  | _, _ => False
theorem rMul_int {i j : Int} {H Q} : rMul (.int i) (.int j) H Q = (CMul i j ∧ Q (.int (i * j)) H) := rfl
theorem rMul_str {z : Str} {k : Int} {H Q} : rMul (.str z) (.int k) H Q = (MulOk z k ∧ Q (.str (Txt.mul z k)) H) := rfl
theorem rMul_ref {p : Addr} {k : Int} {H Q} : rMul (.ref p) (.int k) H Q = repO H Q k (H p) := rfl
theorem repO_lst {H : Hp} {Q : VK} {xs} {k : Int} : repO H Q k (some (.lst xs)) = (-(2 ^ 63) ≤ k ∧ k < 2 ^ 63 ∧ xs.length * k.toNat ≤ sizeLine ∧ zNew (.lst (List.replicate k.toNat xs).flatten) H Q) := rfl
theorem op_mul_str : OpR X (binaryOp .Mult) (fun x y H Q => ∃ z k, x = .str z ∧ y = .int k ∧ MulOk z k ∧ Q (.str (Txt.mul z k)) H) := by
  intro pins s σ H x y v u Q I rx ry h
  obtain ⟨z, k, rfl, rfl, hm, q⟩ := h
  obtain ⟨t, rfl⟩ := rx
  obtain ⟨t', rfl⟩ := ry
  exact SB.mul hm fun t'' k' => ⟨.str _, H, I.tok _, ⟨_, rfl⟩, q⟩
theorem oz_mul : OpR X (binaryOp .Mult) rMul := opR_imp (op_mul.or (op_mul_str.or op_rep)) fun x y H Q q => by
  cases x <;> cases y <;> first | exact False.elim q | skip
  · exact .inl ⟨_, _, rfl, rfl, q.1, q.2⟩
  · exact .inr (.inl ⟨_, _, rfl, rfl, q.1, q.2⟩)
  · rename_i a k
    have q : repO H Q k (H a) := q
    refine .inr (.inr ?_)
    unfold repO at q
    split at q
    · rename_i xs e1
      exact ⟨a, k, xs, rfl, rfl, e1, q.1, q.2.1, q.2.2.1, q.2.2.2⟩
    · exact q.elim
/-! comparisons -/
/-- the order of texts -/
def ltL (a b : List Nat) : Bool := decide (a < b)
def rOrd (f : Int → Int → Bool) (g : List Nat → List Nat → Bool) : R2 := fun x y H Q => match x, y with
  | .int i, .int j => Q (.bl (f i j)) H
  | .str i, .str j => Q (.bl (g (tl i) (tl j))) H
  | _, _ => False
theorem rOrd_int {f g} {i j : Int} {H Q} : rOrd f g (.int i) (.int j) H Q = Q (.bl (f i j)) H := rfl
theorem rOrd_str {f g} {i j : Str} {H Q} : rOrd f g (.str i) (.str j) H Q = Q (.bl (g (tl i) (tl j))) H := rfl
theorem rOrd_of {c : Value → Value → Sem Value} {f g} (h : OpR X c (rI0 fun i j => .bl (f i j))) (h2 : OpR X c (fun x y H Q => ∃ i j, x = .str i ∧ y = .str j ∧ Q (.bl (g (tl i) (tl j))) H)) : OpR X c (rOrd f g) := opR_imp (h.or h2) fun x y H Q q => by
  cases x <;> cases y <;> first | exact False.elim q | exact .inl ⟨_, _, rfl, rfl, q⟩ | exact .inr ⟨_, _, rfl, rfl, q⟩
abbrev rLt : R2 := rOrd (fun i j => decide (i < j)) ltL
abbrev rLe : R2 := rOrd (fun i j => decide (i ≤ j)) fun i j => !ltL j i
abbrev rGt : R2 := rOrd (fun i j => decide (j < i)) fun i j => ltL j i
abbrev rGe : R2 := rOrd (fun i j => decide (j ≤ i)) fun i j => !ltL i j
theorem oz_lt : OpR X (compareOp .Lt) rLt := rOrd_of op_lt op_lt_str
theorem oz_le : OpR X (compareOp .LtE) rLe := rOrd_of op_le op_le_str
theorem oz_gt : OpR X (compareOp .Gt) rGt := rOrd_of op_gt op_gt_str
theorem oz_ge : OpR X (compareOp .GtE) rGe := rOrd_of op_ge op_ge_str
def isScal : V → Bool
  | .non => true
  | .bl _ => true
  | .int _ => true
  | .str _ => true
  | _ => false
/-- ==, of scalars as of nested data -/
def rEqG (K : PySem.W.Frag) (n : Bool) : R2 := fun x y H Q => match x, y with
  | .int i, .int j => Q (.bl (n != decide (i = j))) H
  | .str i, .str j => Q (.bl (n != decide (i = j))) H
  | .bl i, .bl j => Q (.bl (n != decide (i = j))) H
  | .non, .non => Q (.bl (n != true)) H
  | .non, .int _ => Q (.bl (n != false)) H
  | .int _, .non => Q (.bl (n != false)) H
  | .non, .str _ => Q (.bl (n != false)) H
  | .str _, .non => Q (.bl (n != false)) H
  | .int _, .str _ => Q (.bl (n != false)) H
  | .str _, .int _ => Q (.bl (n != false)) H
  | x, y => ∃ d e, Dp K H x d ∧ Dp K H y e ∧ SeqAt.shaped d = true ∧ SeqAt.shaped e = true ∧ Q (.bl (n != PyData.eqv d e)) H
theorem rEqG_int {K n} {i j : Int} {H Q} : rEqG K n (.int i) (.int j) H Q = Q (.bl (n != decide (i = j))) H := rfl
theorem rEqG_str {K n} {i j : Str} {H Q} : rEqG K n (.str i) (.str j) H Q = Q (.bl (n != decide (i = j))) H := rfl
theorem rEqG_bl {K n} {i j : Bool} {H Q} : rEqG K n (.bl i) (.bl j) H Q = Q (.bl (n != decide (i = j))) H := rfl
theorem rEqG_nn {K n} {H Q} : rEqG K n .non .non H Q = Q (.bl (n != true)) H := rfl
theorem rEqG_ni {K n} {i : Int} {H Q} : rEqG K n .non (.int i) H Q = Q (.bl (n != false)) H := rfl
theorem rEqG_in {K n} {i : Int} {H Q} : rEqG K n (.int i) .non H Q = Q (.bl (n != false)) H := rfl
theorem rEqG_ns {K n} {i : Str} {H Q} : rEqG K n .non (.str i) H Q = Q (.bl (n != false)) H := rfl
theorem rEqG_sn {K n} {i : Str} {H Q} : rEqG K n (.str i) .non H Q = Q (.bl (n != false)) H := rfl
theorem rEqG_is {K n} {i : Int} {j : Str} {H Q} : rEqG K n (.int i) (.str j) H Q = Q (.bl (n != false)) H := rfl
theorem rEqG_si {K n} {i : Int} {j : Str} {H Q} : rEqG K n (.str j) (.int i) H Q = Q (.bl (n != false)) H := rfl
theorem rEqG_rr {K n} {p q : Addr} {d e : PyData} {H Q} (h1 : Dp K H (.ref p) d) (h2 : Dp K H (.ref q) e) (h3 : SeqAt.shaped d = true) (h4 : SeqAt.shaped e = true) (h : Q (.bl (n != PyData.eqv d e)) H) : rEqG K n (.ref p) (.ref q) H Q := ⟨d, e, h1, h2, h3, h4, h⟩
theorem bne_ff {b : Bool} : (false != b) = b := by cases b <;> rfl
theorem bne_tt {b : Bool} : (true != b) = !b := by cases b <;> rfl
abbrev rEqZ (K : PySem.W.Frag) : R2 := rEqG K false
abbrev rNeZ (K : PySem.W.Frag) : R2 := rEqG K true
theorem V_ne {a b : V} (h : a ≠ b) : decide (a = b) = false := decide_eq_false h
theorem oz_eqG {f : Value → Value → Sem Value} (n : Bool) (h1 : OpR X f (fun x y H Q => scal x y = true ∧ Q (.bl (n != decide (x = y))) H)) (h2 : OpR X f (fun x y H Q => ∃ d e, Dp X.K H x d ∧ Dp X.K H y e ∧ SeqAt.shaped d = true ∧ SeqAt.shaped e = true ∧ Q (.bl (n != PyData.eqv d e)) H)) : OpR X f (rEqG X.K n) := opR_imp (h1.or h2) fun x y H Q q => by
  unfold rEqG at q
  split at q
  · exact .inl ⟨rfl, by simp only [V_int]; exact q⟩
  · exact .inl ⟨rfl, by simp only [V_str]; exact q⟩
  · exact .inl ⟨rfl, by simp only [V_bl]; exact q⟩
  · exact .inl ⟨rfl, by rw [decide_eq_true (rfl : V.non = V.non)]; exact q⟩
  · exact .inl ⟨rfl, by simpa using q⟩
  · exact .inl ⟨rfl, by simpa using q⟩
  · exact .inl ⟨rfl, by simpa using q⟩
  · exact .inl ⟨rfl, by simpa using q⟩
  · exact .inl ⟨rfl, by simpa using q⟩
  · exact .inl ⟨rfl, by simpa using q⟩
  · exact .inr q
theorem oz_eq (hu : X.A.units + 64 < cLine) : OpR X (compareOp .Eq) (rEqZ X.K) := oz_eqG false (opR_imp op_eq fun x y H Q q => ⟨q.1, by simpa using q.2⟩) (opR_imp (op_eqD hu) fun x y H Q q => by simpa [rEqD] using q)
theorem oz_ne (hu : X.A.units + 64 < cLine) : OpR X (compareOp .NotEq) (rNeZ X.K) := oz_eqG true (opR_imp op_ne fun x y H Q q => ⟨q.1, by simpa using q.2⟩) (opR_imp (op_neD hu) fun x y H Q q => by simpa [rNeD] using q)
end
end Z
namespace Z
open PySem PySem.Spec PyProof.Rows L2 TL
/-! ### what is known of a def -/
structure Kn (P : Program) (w : World) (K : PySem.W.Frag) (mg : Str → Option Value) (base : Heap) (k : Nat) (f : Addr) (ps : List Str) (sp : Sp) : Prop where
  ex : ∃ fd, FnOk P w K mg base (L2N.CX P w) k f fd ps sp ∧ Binds K fd ps []
  kp : PySem.W.keepIn K (.ref f) = true
theorem Kn.mono {P : Program} {w : World} {K : PySem.W.Frag} {mg : Str → Option Value} {base : Heap} {j k : Nat} {f : Addr} {ps : List Str} {sp : Sp} (F : Kn P w K mg base j f ps sp) (h : j ≤ k) : Kn P w K mg base k f ps sp := by
  obtain ⟨⟨fd, a, b⟩, c⟩ := F
  exact ⟨⟨fd, a.mono h, b⟩, c⟩
theorem Kn.imp {P : Program} {w : World} {K : PySem.W.Frag} {mg : Str → Option Value} {base : Heap} {k : Nat} {f : Addr} {ps : List Str} {sp sp' : Sp} (F : Kn P w K mg base k f ps sp) (h : ∀ vs H Q E, sp' vs H Q E → sp vs H Q E) : Kn P w K mg base k f ps sp' := by
  obtain ⟨⟨fd, a, b⟩, c⟩ := F
  exact ⟨⟨fd, a.imp h, b⟩, c⟩
/-! ### calls -/
def kCall (sp : Sp) (W : WX) (σ : Sl) (Q : VK) : List V → Hp → Prop := fun vs H1 => sp vs H1 Q (WE W σ)
def zCall (sp : Sp) (W : WX) (t : TA) : TE := fun σ H Q => t σ H (kCall sp W σ Q)
theorem zCall_eq {sp W t} {σ : Sl} {H : Hp} {Q : VK} : zCall sp W t σ H Q = t σ H (kCall sp W σ Q) := rfl
theorem kCall_eq {sp : Sp} {W vs} {σ : Sl} {H : Hp} {Q : VK} : kCall sp W σ Q vs H = sp vs H Q (WE W σ) := rfl
/-- o.m(..) -/
def kMe2 (sp : Sp) (W : WX) (σ : Sl) (a : V) (Q : VK) : List V → Hp → Prop := fun vs H2 => sp (a :: vs) H2 Q (WE W σ)
def insO (C : Addr) (m : Str) : Option HO → Prop
  | some (.ins C' _ fs) => C' = C ∧ fs.lookup m = none
  | _ => False
def kMe1 (C : Addr) (m : Str) (sp : Sp) (W : WX) (t : TA) (σ : Sl) (Q : VK) : VK := fun x H1 => ∃ a dx fs, x = .ref a ∧ H1 a = some (.ins C dx fs) ∧ fs.lookup m = none ∧ t σ H1 (kMe2 sp W σ x Q)
def zMeth (C : Addr) (m : Str) (sp : Sp) (W : WX) (ta : TE) (t : TA) : TE := fun σ H Q => ta σ H (kMe1 C m sp W t σ Q)
theorem zMeth_eq {C m sp W ta t} {σ : Sl} {H : Hp} {Q : VK} : zMeth C m sp W ta t σ H Q = ta σ H (kMe1 C m sp W t σ Q) := rfl
theorem kMe2_eq {sp : Sp} {W a vs} {σ : Sl} {H : Hp} {Q : VK} : kMe2 sp W σ a Q vs H = sp (a :: vs) H Q (WE W σ) := rfl
theorem kMe1_eq {C m sp W t} {a : Addr} {σ : Sl} {H : Hp} {Q : VK} : kMe1 C m sp W t σ Q (.ref a) H = (insO C m (H a) ∧ t σ H (kMe2 sp W σ (.ref a) Q)) := by
  apply propext
  constructor
  · rintro ⟨b, dx, fs, e, h1, h2, h3⟩
    cases e
    rw [h1]
    exact ⟨⟨rfl, h2⟩, h3⟩
  · rintro ⟨h1, h3⟩
    unfold insO at h1
    split at h1
    · rename_i C' dx fs e
      obtain ⟨rfl, h2⟩ := h1
      exact ⟨a, dx, fs, rfl, e, h2, h3⟩
    · exact h1.elim
theorem insO_eq {C C' dx : Addr} {fs m} : insO C m (some (.ins C' dx fs)) = (C' = C ∧ fs.lookup m = none) := rfl
/-- C(..) -/
def kMk (C : Addr) (sp : Sp) (W : WX) (σ : Sl) (Q : VK) : List V → Hp → Prop := fun vs H1 => ∀ x dx, H1 x = none → H1 dx = none → dx ≠ x → sp (.ref x :: vs) (upd (upd H1 dx (.own x)) x (.ins C dx [])) (fun v H2 => v = .non ∧ Q (.ref x) H2) (WE W σ)
def zMake (C : Addr) (sp : Sp) (W : WX) (t : TA) : TE := fun σ H Q => t σ H (kMk C sp W σ Q)
theorem zMake_eq {C sp W t} {σ : Sl} {H : Hp} {Q : VK} : zMake C sp W t σ H Q = t σ H (kMk C sp W σ Q) := rfl
section
variable {X : Cx} {k : Nat} {f C : Addr} {ps : List Str} {sp : Sp} {W : WX} {x m : Str} {p pos apos : Pos} {e o : Expr} {es : List Expr} {ta : TE} {t : TA}
theorem cz_call (F : Kn X.prog X.w X.K X.mg X.base k f ps sp) (hr : Room k X.A) (hm : X.mg x = some (.ref f)) (tk : L2N.Takes X W) (ha : PA X (e :: es) t) (hg : Gl X x := by rfl) (hdb : (x == ("__debug__" : Str)) = false := by decide)
    (he : starEach (e :: es) X.env = (false, eval e X.env) :: starEach es X.env := by rfl) (hpl : (backTo pos (starEach es X.env)).any (·.1) = false := by rfl) : PE X (.Call (.Name x p) (e :: es) [] pos) (zCall sp W t) := by
  obtain ⟨⟨fd, a, b⟩, c⟩ := F
  exact pe_callS a hr hg hm c b (fun σ => L2N.passAt tk σ) ha hdb he hpl
theorem cz_call0 (F : Kn X.prog X.w X.K X.mg X.base k f ps sp) (hr : Room k X.A) (hm : X.mg x = some (.ref f)) (tk : L2N.Takes X W) (hg : Gl X x := by rfl) (hdb : (x == ("__debug__" : Str)) = false := by decide) : PE X (.Call (.Name x p) [] [] pos) (zCall sp W zNil) := by
  obtain ⟨⟨fd, a, b⟩, c⟩ := F
  refine ⟨fun pins s σ H Q I h => ?_⟩
  refine wpAny_Call_Name_kw (ld_glob I hg hm ?_ hdb)
  exact PySem.W.callWith_K0 I.kIn c (run_fnS (us := []) a hr b (L2N.passAt tk σ) I .nil h)
theorem cz_meth {pl : Sem Bool} (he : PE X o ta) (hm : Meth X.K C m f) (F : Kn X.prog X.w X.K X.mg X.base k f ps sp) (hr : Room k X.A) (c : Cls X.K C) (tk : L2N.Takes X W) (ha : PA X (e :: es) t)
    (hst : starEach (e :: es) X.env = (false, eval e X.env) :: starEach es X.env := by rfl) (hpl : (backTo pos (starEach es X.env)).any (·.1) = false := by rfl)
    (ht : eval (.Call (.Attribute o m apos) (e :: es) [] pos) X.env = (do
      let ov ← eval o X.env
      standAt apos.atName
      let (f, first) ← holding [ov] (getMethod ov m pl)
      callWith pos f first (backTo pos (starEach (e :: es) X.env)) (backToKw pos (keywordEach [] X.env))) := by rfl) :
    PE X (.Call (.Attribute o m apos) (e :: es) [] pos) (zMeth C m sp W ta t) := by
  obtain ⟨⟨fd, F, hb⟩, _⟩ := F
  refine ⟨fun pins s σ H Q I h => ?_⟩
  refine PySem.W.methodCall_KW (pl := pl) (thn (he.run pins s σ H _ I h) fun u s1 ⟨x, H1, I1, rx, a, dx, fs, ex, ea, l, q⟩ => ?_) ht
  subst ex
  obtain rfl : u = Value.ref a := rx
  refine getmeth_ok I1 ea c hm l ?_
  refine PySem.W.callWith_K (first := [.ref a]) (h₀ := X.base) I.ok.mod.kin hm.kp (thn (ha.run pos pins s1 σ H1 _ I1 q) fun us s2 ⟨vs, H2, I2, r, q2⟩ => ⟨I2.kIn, ?_⟩) hst hpl
  exact run_fnS (us := .ref a :: us) (vs := .ref a :: vs) F hr hb (L2N.passAt tk σ) I2 (.cons rfl r) q2
theorem cz_meth0 {pl : Sem Bool} (he : PE X o ta) (hm : Meth X.K C m f) (F : Kn X.prog X.w X.K X.mg X.base k f ps sp) (hr : Room k X.A) (c : Cls X.K C) (tk : L2N.Takes X W)
    (ht : eval (.Call (.Attribute o m apos) [] [] pos) X.env = (do
      let ov ← eval o X.env
      standAt apos.atName
      let (f, first) ← holding [ov] (getMethod ov m pl)
      callWith pos f first (backTo pos (starEach [] X.env)) (backToKw pos (keywordEach [] X.env))) := by rfl) :
    PE X (.Call (.Attribute o m apos) [] [] pos) (zMeth C m sp W ta zNil) := by
  obtain ⟨⟨fd, F, hb⟩, _⟩ := F
  refine ⟨fun pins s σ H Q I h => ?_⟩
  refine PySem.W.methodCall_KW (pl := pl) (thn (he.run pins s σ H _ I h) fun u s1 ⟨x, H1, I1, rx, a, dx, fs, ex, ea, l, q⟩ => ?_) ht
  subst ex
  obtain rfl : u = Value.ref a := rx
  refine getmeth_ok I1 ea c hm l ?_
  exact PySem.W.callWith_K0 (first := [.ref a]) I1.kIn hm.kp (run_fnS (us := [.ref a]) (vs := [.ref a]) F hr hb (L2N.passAt tk σ) I1 (.cons rfl .nil) q)
theorem run_makeS {fd : FuncData} {E : Sl → XK} {pins : List (Addr × Obj)} {σ : Sl} {H : Hp} {s : Shared} {Q : VK} {us : List Value} {vs : List V} (M : Mk X.K C f) (F : FnOk X.prog X.w X.K X.mg X.base (L2N.CX X.prog X.w) k f fd ps sp) (hr : Room (k + 1) X.A) (hb : Binds X.K fd ps [])
    (hx : PassesAt (L2N.CX X.prog X.w) X σ (E σ)) (I : Inv X pins σ H s) (r : Vals vs us)
    (h : ∀ x dx, H x = none → H dx = none → dx ≠ x → sp (.ref x :: vs) (upd (upd H dx (.own x)) x (.ins C dx [])) (fun v H2 => v = .non ∧ Q (.ref x) H2) (E σ)) :
    wpAny (model X.prog X.w) X.A (call (.ref C) us) (EP X pins σ Q) X.xe s := by
  have hq := h (s.heap.objs.size + 1) s.heap.objs.size (I.hok.fresh (Nat.le_succ _)) (I.hok.fresh (Nat.le_refl _)) (Nat.ne_of_lt (Nat.lt_succ_self _))
  have I2 := Inv.made (C := C) I
  have r2 : Vals (V.ref (s.heap.objs.size + 1) :: vs) (Value.ref (s.heap.objs.size + 1) :: us) := .cons rfl r
  have hl : (Value.ref (s.heap.objs.size + 1) :: us).length = ps.length := by
    have e := r2.length
    rw [F.len _ _ _ _ hq] at e
    exact e.symm
  have b := hb _ (Value.ref (s.heap.objs.size + 1) :: us) I2.kIn (by rw [List.append_nil]; exact hl)
  rw [List.append_nil] at b
  refine wpAny_call (make_map (f := f) I.kIn M.makes M.init (beq_iff_eq.mp M.fn) (codeAny_mono (F.run _ X.stack _ _ ⟨Value.ref (s.heap.objs.size + 1) :: us, []⟩ (Value.ref (s.heap.objs.size + 1) :: us) _ _ (E σ) (hr.make C us [])
    (I2.env0.make C us []) b r2 hq) fun r s' hq' => ?_))
  cases r with
  | error e => exact hx pins _ _ e s' I2 hq'
  | ok fl =>
    cases fl with
    | ret u =>
      obtain ⟨v, H', I3, rv, ev, q3⟩ := I2.after hq'
      subst ev
      exact ⟨rv, ⟨V.ref (s.heap.objs.size + 1), H', I3, rfl, q3⟩⟩
    | next => exact False.elim hq'
    | brk => exact False.elim hq'
    | cont => exact False.elim hq'
theorem cz_make (M : Mk X.K C f) (F : Kn X.prog X.w X.K X.mg X.base k f ps sp) (hr : Room (k + 1) X.A) (hm : X.mg x = some (.ref C)) (tk : L2N.Takes X W) (ha : PA X (e :: es) t) (hg : Gl X x := by rfl)
    (hdb : (x == ("__debug__" : Str)) = false := by decide) (he : starEach (e :: es) X.env = (false, eval e X.env) :: starEach es X.env := by rfl) (hpl : (backTo pos (starEach es X.env)).any (·.1) = false := by rfl) :
    PE X (.Call (.Name x p) (e :: es) [] pos) (zMake C sp W t) := by
  obtain ⟨⟨fd, F, hb⟩, _⟩ := F
  refine ⟨fun pins s σ H Q I h => ?_⟩
  refine wpAny_Call_Name_kw (ld_glob I hg hm ?_ hdb)
  refine PySem.W.callWith_K (h₀ := X.base) I.ok.mod.kin M.kp (thn (ha.run pos pins s σ H _ I h) fun us s1 ⟨vs, H1, I1, r, q⟩ => ⟨I1.kIn, ?_⟩) he hpl
  exact run_makeS M F hr hb (L2N.passAt tk σ) I1 r q
theorem cz_make0 (M : Mk X.K C f) (F : Kn X.prog X.w X.K X.mg X.base k f ps sp) (hr : Room (k + 1) X.A) (hm : X.mg x = some (.ref C)) (tk : L2N.Takes X W) (hg : Gl X x := by rfl)
    (hdb : (x == ("__debug__" : Str)) = false := by decide) : PE X (.Call (.Name x p) [] [] pos) (zMake C sp W zNil) := by
  obtain ⟨⟨fd, F, hb⟩, _⟩ := F
  refine ⟨fun pins s σ H Q I h => ?_⟩
  refine wpAny_Call_Name_kw (ld_glob I hg hm ?_ hdb)
  exact PySem.W.callWith_K0 I.kIn M.kp (run_makeS (us := []) M F hr hb (L2N.passAt tk σ) I .nil h)
end
/-! ### fields -/
def fldO (C : Addr) (f : Str) (H : Hp) (Q : VK) : Option HO → Prop
  | some (.ins C' _ fs) => C' = C ∧ vcase (some (fs.lookup f)) Q H
  | _ => False
theorem fldO_eq {C C' dx : Addr} {fs f} {H : Hp} {Q : VK} : fldO C f H Q (some (.ins C' dx fs)) = (C' = C ∧ vcase (some (fs.lookup f)) Q H) := rfl
def kFld (C : Addr) (f : Str) (Q : VK) : VK := fun x H1 => match x with
  | .ref a => fldO C f H1 Q (H1 a)
  | _ => False
theorem kFld_eq {C f} {a : Addr} {H : Hp} {Q : VK} : kFld C f Q (.ref a) H = fldO C f H Q (H a) := rfl
def zFld (C : Addr) (f : Str) (ta : TE) : TE := fun σ H Q => ta σ H (kFld C f Q)
theorem zFld_eq {C f ta} {σ : Sl} {H : Hp} {Q : VK} : zFld C f ta σ H Q = ta σ H (kFld C f Q) := rfl
theorem fldO_ex {C a : Addr} {f : Str} {H : Hp} {Q : VK} (h : fldO C f H Q (H a)) : ∃ dx fs v, H a = some (.ins C dx fs) ∧ fs.lookup f = some v ∧ Q v H := by
  unfold fldO at h
  split at h
  · rename_i C' dx fs e
    obtain ⟨rfl, h⟩ := h
    obtain ⟨v, e2, q⟩ := vcase_ex h
    exact ⟨dx, fs, v, e, Option.some.inj e2, q⟩
  · exact h.elim
theorem cz_fld {X : Cx} {e : Expr} {f : Str} {pos : Pos} {ta : TE} {C : Addr} (he : PE X e ta) (c : Cls X.K C) (n : NoAttr X.K C f) (hb : attributeBase e f X.env (eval e X.env) = eval e X.env := by rfl) : PE X (.Attribute e f pos) (zFld C f ta) := by
  refine ⟨fun pins s σ H Q I h => ?_⟩
  refine attr_of hb (thn (he.run pins s σ H _ I h) fun u s1 ⟨x, H1, I1, rx, q⟩ => ?_)
  cases x with
  | ref a =>
    obtain ⟨dx, fs, v, ea, l, q⟩ := fldO_ex q
    obtain rfl : u = Value.ref a := rx
    exact getattr_ok I1 ea c n l fun u' s2 I2 ru => ⟨v, H1, I2, ru, q⟩
  | _ => exact False.elim q
/-- o.f = e -/
def sfO (C a : Addr) (f : Str) (v : V) (D : Ends) (σ : Sl) (H : Hp) : Option HO → Prop
  | some (.ins C' dx fs) => C' = C ∧ fs.length < 1000 ∧ D.nx σ (upd H a (.ins C dx (putF f v fs)))
  | _ => False
theorem sfO_eq {C C' dx a : Addr} {f v D fs} {σ : Sl} {H : Hp} : sfO C a f v D σ H (some (.ins C' dx fs)) = (C' = C ∧ fs.length < 1000 ∧ D.nx σ (upd H a (.ins C dx (putF f v fs)))) := rfl
def kSf2 (C : Addr) (f : Str) (v : V) (D : Ends) (σ : Sl) : VK := fun x H2 => match x with
  | .ref a => sfO C a f v D σ H2 (H2 a)
  | _ => False
theorem kSf2_eq {C f v D} {a : Addr} {σ : Sl} {H : Hp} : kSf2 C f v D σ (.ref a) H = sfO C a f v D σ H (H a) := rfl
def kSf1 (C : Addr) (f : Str) (ta : TE) (D : Ends) (σ : Sl) : VK := fun v H => ta σ H (kSf2 C f v D σ)
theorem kSf1_eq {C f ta v D} {σ : Sl} {H : Hp} : kSf1 C f ta D σ v H = ta σ H (kSf2 C f v D σ) := rfl
def zSetF (C : Addr) (f : Str) (ta tv : TE) : TS := fun D σ H => tv σ H (kSf1 C f ta D σ)
theorem zSetF_eq {C f ta tv D} {σ : Sl} {H : Hp} : zSetF C f ta tv D σ H = tv σ H (kSf1 C f ta D σ) := rfl
theorem sfO_ex {C a : Addr} {f : Str} {v : V} {D : Ends} {σ : Sl} {H : Hp} (h : sfO C a f v D σ H (H a)) : ∃ dx fs, H a = some (.ins C dx fs) ∧ fs.length < 1000 ∧ D.nx σ (upd H a (.ins C dx (putF f v fs))) := by
  unfold sfO at h
  split at h
  · rename_i C' dx fs e
    obtain ⟨rfl, h1, h2⟩ := h
    exact ⟨dx, fs, e, h1, h2⟩
  · exact h.elim
theorem sz_fld {X : Cx} {o value : Expr} {f : Str} {pos pos' : Pos} {ta tv : TE} {C : Addr} (ha : PE X o ta) (hv : PE X value tv) (c : Cls X.K C) (n : NoAttr X.K C f) (hs : swapsWith value (some (.Attribute o f pos')) pos.line X.env = pure false := by rfl) :
    PS X (.Assign [.Attribute o f pos'] value pos) (zSetF C f ta tv) := by
  refine ⟨fun pins s σ H D I h => ?_⟩
  refine plainObj_wpAny_Assign_Attribute (thn (hv.run pins s σ H _ I h) fun u s1 ⟨y, H1, I1, ry, q⟩ => thn (ha.run pins s1 σ H1 _ I1 q) fun ov s2 ⟨x, H2, I2, rx, q⟩ => ?_) hs
  cases x with
  | ref a =>
    obtain ⟨dx, fs, ea, l, q2⟩ := sfO_ex q
    obtain rfl : ov = Value.ref a := rx
    exact setattr_ok I2 ea c n l ry fun s3 I3 => ⟨σ, _, I3, q2⟩
  | _ => exact False.elim q
/-! ### subscripts, slices -/
def ixO (K : PySem.W.Frag) (p : Addr) (i : Int) (H : Hp) (Q : VK) : Option HO → Prop
  | some (.lst xs) => vcase (some (atI xs i)) Q H
  | some (.tup xs) => vcase (some (atI xs i)) Q H
  | some (.frz _ (.lst xs)) => vcase (some (atI xs i)) Q H
  | _ => ∃ xs, (SqL K H p xs ∨ SqT K H p xs) ∧ vcase (some (atI xs i)) Q H
def chQ (Q : VK) (H : Hp) : Option Nat → Prop
  | some c => Q (.str (mkS [c])) H
  | none => False
theorem chQ_eq {Q : VK} {H : Hp} {c : Nat} : chQ Q H (some c) = Q (.str (mkS [c])) H := rfl
def rIxZ (K : PySem.W.Frag) : R2 := fun x y H Q => match x, y with
  | .str z, .int i => z.length ≤ sizeLine ∧ chQ Q H (atI (tl z) i)
  | .ref p, .int i => ixO K p i H Q (H p)
  | _, _ => False
theorem rIxZ_str {K} {z : Str} {i : Int} {H Q} : rIxZ K (.str z) (.int i) H Q = (z.length ≤ sizeLine ∧ chQ Q H (atI (tl z) i)) := rfl
theorem rIxZ_ref {K} {p : Addr} {i : Int} {H Q} : rIxZ K (.ref p) (.int i) H Q = ixO K p i H Q (H p) := rfl
theorem ixO_lst {K p i H Q xs} : ixO K p i H Q (some (.lst xs)) = vcase (some (atI xs i)) Q H := rfl
theorem ixO_tup {K p i H Q xs} : ixO K p i H Q (some (.tup xs)) = vcase (some (atI xs i)) Q H := rfl
theorem ixO_frz {K p i H Q o xs} : ixO K p i H Q (some (.frz o (.lst xs))) = vcase (some (atI xs i)) Q H := rfl
theorem vc1 {o : Option V} {Q : VK} {H : Hp} (h : vcase (some o) Q H) : ∃ v, o = some v ∧ Q v H := by
  obtain ⟨v, e, q⟩ := vcase_ex h
  exact ⟨v, Option.some.inj e, q⟩
theorem iz_seq {X : Cx} : IxR X (rIxZ X.K) := ixR_imp ix_seq fun x y H Q q => by
  cases x <;> cases y <;> first | exact False.elim q | skip
  · rename_i z i
    obtain ⟨h1, h2⟩ : z.length ≤ sizeLine ∧ chQ Q H (atI (tl z) i) := q
    cases e : atI (tl z) i with
    | none =>
      rw [e] at h2
      exact False.elim h2
    | some c =>
      rw [e] at h2
      exact .inr (.inr ⟨z, i, c, rfl, rfl, h1, e, h2⟩)
  · rename_i p i
    have q : ixO X.K p i H Q (H p) := q
    unfold ixO at q
    split at q
    · rename_i xs e
      obtain ⟨v, e2, q⟩ := vc1 q
      exact .inl ⟨p, xs, i, v, rfl, rfl, SqL.of e, e2, q⟩
    · rename_i xs e
      obtain ⟨v, e2, q⟩ := vc1 q
      exact .inr (.inl ⟨p, xs, i, v, rfl, rfl, .inl (.inl e), e2, q⟩)
    · rename_i o xs e
      obtain ⟨v, e2, q⟩ := vc1 q
      exact .inl ⟨p, xs, i, v, rfl, rfl, .inl (.inr ⟨o, e⟩), e2, q⟩
    · obtain ⟨xs, h1, q⟩ := q
      obtain ⟨v, e2, q⟩ := vc1 q
      rcases h1 with h1 | h1
      · exact .inl ⟨p, xs, i, v, rfl, rfl, h1, e2, q⟩
      · exact .inr (.inl ⟨p, xs, i, v, rfl, rfl, h1, e2, q⟩)
theorem pz_ix {X : Cx} {a b : Expr} {ta tb : TE} {pos : Pos} (ha : PE X a ta) (hb : PE X b tb) (hs : PlainIx b := by exact fun _ _ => rfl) : PE X (.Subscript a b pos) (zB (rIxZ X.K) ta tb) := pe_ix iz_seq ha hb hs
/-- indices on written lists -/
theorem atI_zero {α : Type} {a : α} {l : List α} : atI (a :: l) 0 = some a := atI_nat (j := 0) rfl
theorem atI_lit {α : Type} {l : List α} {n : Nat} : atI l (OfNat.ofNat n : Int) = l[n]? := by
  show atI l ((n : Nat) : Int) = l[n]?
  cases e : l[n]? with
  | some v => exact atI_nat e
  | none =>
    have h : l.length ≤ n := List.getElem?_eq_none_iff.mp e
    unfold atI ixN
    rw [if_pos (by omega), if_neg (by omega)]
    rfl
theorem atI_1 {α : Type} {l : List α} : atI l 1 = l[1]? := atI_lit (n := 1)
theorem atI_2 {α : Type} {l : List α} : atI l 2 = l[2]? := atI_lit (n := 2)
theorem atI_3 {α : Type} {l : List α} : atI l 3 = l[3]? := atI_lit (n := 3)
theorem atI_4 {α : Type} {l : List α} : atI l 4 = l[4]? := atI_lit (n := 4)
theorem atI_5 {α : Type} {l : List α} : atI l 5 = l[5]? := atI_lit (n := 5)
theorem atI_6 {α : Type} {l : List α} : atI l 6 = l[6]? := atI_lit (n := 6)
theorem atI_7 {α : Type} {l : List α} : atI l 7 = l[7]? := atI_lit (n := 7)
theorem atI_8 {α : Type} {l : List α} : atI l 8 = l[8]? := atI_lit (n := 8)
theorem atI_9 {α : Type} {l : List α} : atI l 9 = l[9]? := atI_lit (n := 9)
theorem atI_10 {α : Type} {l : List α} : atI l 10 = l[10]? := atI_lit (n := 10)
theorem atI_11 {α : Type} {l : List α} : atI l 11 = l[11]? := atI_lit (n := 11)
theorem atI_12 {α : Type} {l : List α} : atI l 12 = l[12]? := atI_lit (n := 12)
theorem atI_13 {α : Type} {l : List α} : atI l 13 = l[13]? := atI_lit (n := 13)
theorem atI_14 {α : Type} {l : List α} : atI l 14 = l[14]? := atI_lit (n := 14)
theorem atI_15 {α : Type} {l : List α} : atI l 15 = l[15]? := atI_lit (n := 15)
theorem atI_nat' {α : Type} {l : List α} {n : Nat} : atI l (n : Int) = l[n]? := by
  cases e : l[n]? with
  | some v => exact atI_nat e
  | none =>
    have h : l.length ≤ n := List.getElem?_eq_none_iff.mp e
    unfold atI ixN
    rw [if_pos (by omega), if_neg (by omega)]
    rfl
/-- slices -/
abbrev RSl := V → Option Int → Option Int → Hp → VK → Prop
def kS3 (r : RSl) (x : V) (l : Option Int) (Q : VK) : Option Int → Hp → Prop := fun u H3 => r x l u H3 Q
def kS2 (r : RSl) (th : TO) (σ : Sl) (x : V) (Q : VK) : Option Int → Hp → Prop := fun l H2 => th σ H2 (kS3 r x l Q)
def kS1 (r : RSl) (tl th : TO) (σ : Sl) (Q : VK) : VK := fun x H1 => tl σ H1 (kS2 r th σ x Q)
def zSl (r : RSl) (te : TE) (tl th : TO) : TE := fun σ H Q => te σ H (kS1 r tl th σ Q)
theorem zSl_eq {r te tl th} {σ : Sl} {H Q} : zSl r te tl th σ H Q = te σ H (kS1 r tl th σ Q) := rfl
theorem kS1_eq {r tl th x} {σ : Sl} {H Q} : kS1 r tl th σ Q x H = tl σ H (kS2 r th σ x Q) := rfl
theorem kS2_eq {r th x l} {σ : Sl} {H Q} : kS2 r th σ x Q l H = th σ H (kS3 r x l Q) := rfl
theorem kS3_eq {r : RSl} {x l u} {H Q} : kS3 r x l Q u H = r x l u H Q := rfl
def zNo : TO := fun _ H Q => Q none H
theorem zNo_eq {σ : Sl} {H Q} : zNo σ H Q = Q none H := rfl
def kPt (Q : Option Int → Hp → Prop) : VK := fun x H1 => ∃ i, x = .int i ∧ Q (some i) H1
theorem kPt_eq {i : Int} {H Q} : kPt Q (.int i) H = Q (some i) H := by
  unfold kPt
  simp
def zPt (t : TE) : TO := fun σ H Q => t σ H (kPt Q)
theorem zPt_eq {t} {σ : Sl} {H Q} : zPt t σ H Q = t σ H (kPt Q) := rfl
def slO (K : PySem.W.Frag) (p : Addr) (lo hi : Option Int) (H : Hp) (Q : VK) : Option HO → Prop
  | some (.lst xs) => zNew (.lst (cutV xs lo hi)) H Q
  | some (.frz _ (.lst xs)) => zNew (.lst (cutV xs lo hi)) H Q
  | some (.tup xs) => ¬ (HT.sIx xs.length 0 lo = 0 ∧ HT.sIx xs.length xs.length hi = xs.length) ∧ zNew (.tup (cutV xs lo hi)) H Q
  | _ => ∃ xs, SqL K H p xs ∧ zNew (.lst (cutV xs lo hi)) H Q
def rSlZ (K : PySem.W.Frag) : RSl := fun x lo hi H Q => match x with
  | .str z => z.length ≤ sizeLine ∧ Q (.str (cutS z lo hi)) H
  | .ref p => slO K p lo hi H Q (H p)
  | _ => False
theorem rSlZ_str {K} {z : Str} {lo hi H Q} : rSlZ K (.str z) lo hi H Q = (z.length ≤ sizeLine ∧ Q (.str (cutS z lo hi)) H) := rfl
theorem rSlZ_ref {K} {p : Addr} {lo hi H Q} : rSlZ K (.ref p) lo hi H Q = slO K p lo hi H Q (H p) := rfl
theorem slO_lst {K p lo hi H Q xs} : slO K p lo hi H Q (some (.lst xs)) = zNew (.lst (cutV xs lo hi)) H Q := rfl
theorem slO_frz {K p lo hi H Q o xs} : slO K p lo hi H Q (some (.frz o (.lst xs))) = zNew (.lst (cutV xs lo hi)) H Q := rfl
theorem slO_tup {K p lo hi H Q xs} : slO K p lo hi H Q (some (.tup xs)) = (¬ (HT.sIx xs.length 0 lo = 0 ∧ HT.sIx xs.length xs.length hi = xs.length) ∧ zNew (.tup (cutV xs lo hi)) H Q) := rfl
theorem iz_sl {X : Cx} : SlR X (rSlZ X.K) := slR_imp (sl_str.or (sl_list.or sl_tup)) fun x lo hi H Q q => by
  cases x with
  | str z => exact .inl ⟨z, rfl, q.1, q.2⟩
  | ref p =>
    have q : slO X.K p lo hi H Q (H p) := q
    unfold slO at q
    split at q
    · rename_i xs e
      exact .inr (.inl ⟨p, xs, rfl, SqL.of e, q⟩)
    · rename_i o xs e
      exact .inr (.inl ⟨p, xs, rfl, .inl (.inr ⟨o, e⟩), q⟩)
    · rename_i xs e
      exact .inr (.inr ⟨p, xs, rfl, SqT.of e, q.1, q.2⟩)
    · obtain ⟨xs, h1, q⟩ := q
      exact .inr (.inl ⟨p, xs, rfl, h1, q⟩)
  | _ => exact False.elim q
section
variable {X : Cx} {e : Expr} {te : TE} {lo hi : Option Expr} {tl th : TO} {p2 pos : Pos}
theorem oz_no : PO X none zNo := po_none
theorem oz_pt (h : PE X e te) : PO X (some e) (zPt te) := po_some h
theorem pz_sl (he : PE X e te) (hl : PO X lo tl) (hu : PO X hi th) : PE X (.Subscript e (.Slice lo hi none p2) pos) (zSl (rSlZ X.K) te tl th) := pe_slice iz_sl he hl hu
end
end Z
namespace Z
open PySem PySem.Spec PyProof.Rows L2 TL
theorem V_lit (s : String) : V.str (Str.ofString s) = V.str (mkS (cs s)) := by rw [lit_eq]
theorem V_mk1 (c : Nat) : V.str ⟨#[c]⟩ = V.str (mkS [c]) := rfl
/-! ### built-ins called by name -/
abbrev RC := List V → Hp → VK → Prop
def kCB (r : RC) (Q : VK) : List V → Hp → Prop := fun vs H1 => r vs H1 Q
def zCB (r : RC) (t : TA) : TE := fun σ H Q => t σ H (kCB r Q)
theorem zCB_eq {r t} {σ : Sl} {H : Hp} {Q : VK} : zCB r t σ H Q = t σ H (kCB r Q) := rfl
theorem kCB_eq {r : RC} {vs} {H : Hp} {Q : VK} : kCB r Q vs H = r vs H Q := rfl
section
variable {X : Cx} {x : Str} {id T : String} {r : RC} {e : Expr} {es : List Expr} {t : TA} {p pos : Pos}
theorem cz_b (hc : CallR X (.builtin id) r) (hm : X.mg x = none) (hv : bootBuiltins x = some (.builtin id)) (ha : PA X (e :: es) t) (hg : Gl X x := by rfl) (hn : x ≠ "__name__" := by decide) (hdb : (x == ("__debug__" : Str)) = false := by decide)
    (he : starEach (e :: es) X.env = (false, eval e X.env) :: starEach es X.env := by rfl) (hpl : (backTo pos (starEach es X.env)).any (·.1) = false := by rfl) : PE X (.Call (.Name x p) (e :: es) [] pos) (zCB r t) := pe_callB hc hg hm hv ha hn hdb he hpl
theorem cz_t (hc : CallR X (.type T) r) (hm : X.mg x = none) (hv : bootBuiltins x = some (.type T)) (ha : PA X (e :: es) t) (hg : Gl X x := by rfl) (hn : x ≠ "__name__" := by decide) (hdb : (x == ("__debug__" : Str)) = false := by decide)
    (he : starEach (e :: es) X.env = (false, eval e X.env) :: starEach es X.env := by rfl) (hpl : (backTo pos (starEach es X.env)).any (·.1) = false := by rfl) : PE X (.Call (.Name x p) (e :: es) [] pos) (zCB r t) := pe_callTy hc hg hm hv ha hn hdb he hpl
end
def lenO (K : PySem.W.Frag) (p : Addr) (H : Hp) (Q : VK) : Option HO → Prop
  | some (.lst xs) => Q (.int xs.length) H
  | some (.tup xs) => Q (.int xs.length) H
  | some (.dK kvs) => Q (.int kvs.length) H
  | some (.frz _ (.lst xs)) => Q (.int xs.length) H
  | _ => ∃ xs, (SqL K H p xs ∨ SqT K H p xs) ∧ Q (.int xs.length) H
def rLenZ (K : PySem.W.Frag) : RC := fun vs H Q => match vs with
  | [.str z] => z.length ≤ sizeLine ∧ Q (.int z.length) H
  | [.ref p] => lenO K p H Q (H p)
  | _ => False
theorem rLenZ_str {K} {z : Str} {H Q} : rLenZ K [.str z] H Q = (z.length ≤ sizeLine ∧ Q (.int z.length) H) := rfl
theorem rLenZ_ref {K} {p : Addr} {H Q} : rLenZ K [.ref p] H Q = lenO K p H Q (H p) := rfl
theorem lenO_lst {K p H Q xs} : lenO K p H Q (some (.lst xs)) = Q (.int xs.length) H := rfl
theorem lenO_tup {K p H Q xs} : lenO K p H Q (some (.tup xs)) = Q (.int xs.length) H := rfl
theorem lenO_dK {K p H Q xs} : lenO K p H Q (some (.dK xs)) = Q (.int xs.length) H := rfl
theorem lenO_frz {K p H Q o xs} : lenO K p H Q (some (.frz o (.lst xs))) = Q (.int xs.length) H := rfl
section
variable {X : Cx}
theorem bz_len : CallR X (.builtin "len") (rLenZ X.K) := callR_imp (call_len.or call_lenD) fun vs H Q q => by
  unfold rLenZ at q
  split at q
  · exact .inl ⟨_, _, rfl, ⟨q.1, rfl⟩, q.2⟩
  · rename_i p
    unfold lenO at q
    split at q
    · rename_i xs e
      exact .inl ⟨_, _, rfl, .inl ⟨xs, SqL.of e, rfl⟩, q⟩
    · rename_i xs e
      exact .inl ⟨_, _, rfl, .inr ⟨xs, .inl (.inl e), rfl⟩, q⟩
    · rename_i xs e
      exact .inr ⟨p, xs, rfl, e, q⟩
    · rename_i o xs e
      exact .inl ⟨_, _, rfl, .inl ⟨xs, .inl (.inr ⟨o, e⟩), rfl⟩, q⟩
    · obtain ⟨xs, h, q⟩ := q
      rcases h with h | h
      · exact .inl ⟨_, _, rfl, .inl ⟨xs, h, rfl⟩, q⟩
      · exact .inl ⟨_, _, rfl, .inr ⟨xs, h, rfl⟩, q⟩
  · exact q.elim
def intQ (Q : VK) (H : Hp) : Option Int → Prop
  | some n => Q (.int n) H
  | none => False
theorem intQ_eq {Q : VK} {H n} : intQ Q H (some n) = Q (.int n) H := rfl
def rIntZ : RC := fun vs H Q => match vs with
  | [.int i] => Q (.int i) H
  | [.bl k] => Q (.int (if k then 1 else 0)) H
  | [.str a] => a.length ≤ 640 ∧ intQ Q H (PySem.intText? a)
  | _ => False
theorem rIntZ_int {i H Q} : rIntZ [.int i] H Q = Q (.int i) H := rfl
theorem rIntZ_bl {k H Q} : rIntZ [.bl k] H Q = Q (.int (if k then 1 else 0)) H := rfl
theorem rIntZ_str {a H Q} : rIntZ [.str a] H Q = (a.length ≤ 640 ∧ intQ Q H (PySem.intText? a)) := rfl
theorem bz_int : CallR X (.type "int") rIntZ := callR_imp (call_int1.or call_int_str) fun vs H Q q => by
  unfold rIntZ at q
  split at q
  · exact .inl (.inl ⟨_, rfl, q⟩)
  · exact .inl (.inr ⟨_, rfl, q⟩)
  · rename_i a
    obtain ⟨h1, h2⟩ := q
    cases e : PySem.intText? a with
    | none =>
      rw [e] at h2
      exact h2.elim
    | some n =>
      rw [e] at h2
      exact .inr ⟨a, n, rfl, e, h1, h2⟩
  · exact q.elim
/-- the figures of an int -/
def numS (i : Int) : List Nat := cs (toString i)
def rStrZ : RC := fun vs H Q => match vs with
  | [.int i] => i.natAbs.log2 < 1920 ∧ Q (.str (mkS (numS i))) H
  | [.str a] => Q (.str a) H
  | _ => False
theorem rStrZ_int {i H Q} : rStrZ [.int i] H Q = (i.natAbs.log2 < 1920 ∧ Q (.str (mkS (numS i))) H) := rfl
theorem rStrZ_str {a H Q} : rStrZ [.str a] H Q = Q (.str a) H := rfl
theorem num_eq (i : Int) : Str.ofString (toString i) = mkS (numS i) := lit_eq _
theorem bz_str : CallR X (.type "str") rStrZ := callR_imp (call_str_int.or SkE.call_str_str) fun vs H Q q => by
  unfold rStrZ at q
  split at q
  · rename_i i
    exact .inl ⟨i, rfl, q.1, by rw [num_eq]; exact q.2⟩
  · exact .inr ⟨_, rfl, q⟩
  · exact q.elim
def rOrdZ : RC := fun vs H Q => match vs with
  | [.str x] => x.length = 1 ∧ Q (.int ((tl x).getD 0 0 : Nat)) H
  | _ => False
theorem rOrdZ_str {x H Q} : rOrdZ [.str x] H Q = (x.length = 1 ∧ Q (.int ((tl x).getD 0 0 : Nat)) H) := rfl
theorem bz_ord : CallR X (.builtin "ord") rOrdZ := callR_imp call_ord fun vs H Q q => by
  unfold rOrdZ at q
  split at q
  · rename_i x
    refine ⟨x, rfl, q.1, ?_⟩
    have e : x.cps.getD 0 0 = (tl x).getD 0 0 := by simp [Array.getD_eq_getD_getElem?]
    rw [e]
    exact q.2
  · exact q.elim
def rMax2 : RC := fun vs H Q => match vs with
  | [.int i, .int j] => Q (.int (if j > i then j else i)) H
  | _ => False
def rMin2 : RC := fun vs H Q => match vs with
  | [.int i, .int j] => Q (.int (if j < i then j else i)) H
  | _ => False
theorem rMax2_eq {i j H Q} : rMax2 [.int i, .int j] H Q = Q (.int (if j > i then j else i)) H := rfl
theorem rMin2_eq {i j H Q} : rMin2 [.int i, .int j] H Q = Q (.int (if j < i then j else i)) H := rfl
theorem bz_max2 (hc : X.calm = true) : CallR X (.builtin "max") rMax2 := callR_imp (call_max2 hc) fun vs H Q q => by
  unfold rMax2 at q
  split at q
  · exact ⟨_, _, rfl, q⟩
  · exact q.elim
theorem bz_min2 (hc : X.calm = true) : CallR X (.builtin "min") rMin2 := callR_imp (call_min2 hc) fun vs H Q q => by
  unfold rMin2 at q
  split at q
  · exact ⟨_, _, rfl, q⟩
  · exact q.elim
/-- list(x) of a list or a tuple -/
def lofO (K : PySem.W.Frag) (p : Addr) (H : Hp) (Q : VK) : Option HO → Prop
  | some (.lst xs) => zNew (.lst xs) H Q
  | some (.tup xs) => zNew (.lst xs) H Q
  | _ => ∃ xs, (SqL K H p xs ∨ SqT K H p xs) ∧ zNew (.lst xs) H Q
def rListZ (K : PySem.W.Frag) : RC := fun vs H Q => match vs with
  | [.ref p] => lofO K p H Q (H p)
  | _ => False
theorem rListZ_eq {K} {p : Addr} {H Q} : rListZ K [.ref p] H Q = lofO K p H Q (H p) := rfl
theorem lofO_lst {K p H Q xs} : lofO K p H Q (some (.lst xs)) = zNew (.lst xs) H Q := rfl
theorem lofO_tup {K p H Q xs} : lofO K p H Q (some (.tup xs)) = zNew (.lst xs) H Q := rfl
theorem bz_list : CallR X (.type "list") (rListZ X.K) := callR_imp call_list_of fun vs H Q q => by
  unfold rListZ at q
  split at q
  · rename_i p
    unfold lofO at q
    split at q
    · rename_i xs e
      exact ⟨p, xs, rfl, .inl (SqL.of e), q⟩
    · rename_i xs e
      exact ⟨p, xs, rfl, .inr (.inl (.inl e)), q⟩
    · obtain ⟨xs, h, q⟩ := q
      exact ⟨p, xs, rfl, h, q⟩
  · exact q.elim
theorem bz_all (hc : X.calm = true) : CallR X (.builtin "all") (rAll X.K) := cr_all hc
theorem bz_sum (hc : X.calm = true) : CallR X (.builtin "sum") (rSum X.K) := cr_sum hc
theorem bz_sortedS : CallR X (.builtin "sorted") (rSortedS X.K) := cr_sortedS
/-! ### is None -/
def isNon : V → Bool
  | .non => true
  | _ => false
theorem isNon_non : isNon .non = true := rfl
theorem isNon_int {i} : isNon (.int i) = false := rfl
theorem isNon_str {i} : isNon (.str i) = false := rfl
theorem isNon_bl {i} : isNon (.bl i) = false := rfl
theorem isNon_ref {i} : isNon (.ref i) = false := rfl
theorem isNon_eq (x : V) : decide (x = .non) = isNon x := by
  cases x <;> first | rfl | exact decide_eq_false (fun h => nomatch h)
def rIs : R2 := fun x y H Q => match y with
  | .non => Q (.bl (isNon x)) H
  | _ => False
def rIsN : R2 := fun x y H Q => match y with
  | .non => Q (.bl (!isNon x)) H
  | _ => False
theorem rIs_eq {x H Q} : rIs x .non H Q = Q (.bl (isNon x)) H := rfl
theorem rIsN_eq {x H Q} : rIsN x .non H Q = Q (.bl (!isNon x)) H := rfl
theorem oz_is : OpR X (compareOp .Is) rIs := opR_imp op_isN fun x y H Q q => by
  cases y <;> first | exact False.elim q | exact ⟨rfl, by rw [isNon_eq]; exact q⟩
theorem oz_isn : OpR X (compareOp .IsNot) rIsN := opR_imp op_notN fun x y H Q q => by
  cases y <;> first | exact False.elim q | exact ⟨rfl, by rw [isNon_eq]; exact q⟩
/-! ### in -/
def rInZ (K : PySem.W.Frag) : R2 := fun x y H Q => match x, y with
  | .str a, .str b => Q (.bl (Txt.contains b a)) H
  | x, y => rIn K false x y H Q
def rNotInZ (K : PySem.W.Frag) : R2 := fun x y H Q => match x, y with
  | .str a, .str b => Q (.bl (!Txt.contains b a)) H
  | x, y => rIn K true x y H Q
theorem rInZ_str {K} {a b : Str} {H Q} : rInZ K (.str a) (.str b) H Q = Q (.bl (Txt.contains b a)) H := rfl
theorem rNotInZ_str {K} {a b : Str} {H Q} : rNotInZ K (.str a) (.str b) H Q = Q (.bl (!Txt.contains b a)) H := rfl
theorem rInZ_ref {K} {x : V} {p : Addr} {H Q} : rInZ K x (.ref p) H Q = rIn K false x (.ref p) H Q := by cases x <;> rfl
theorem rNotInZ_ref {K} {x : V} {p : Addr} {H Q} : rNotInZ K x (.ref p) H Q = rIn K true x (.ref p) H Q := by cases x <;> rfl
theorem oz_in : OpR X (compareOp .In) (rInZ X.K) := opR_imp (op_in_str.or op_in_seq) fun x y H Q q => by
  unfold rInZ at q
  split at q
  · exact .inl ⟨_, _, rfl, rfl, q⟩
  · exact .inr q
theorem oz_nin : OpR X (compareOp .NotIn) (rNotInZ X.K) := opR_imp (op_notin_str.or op_notIn_seq) fun x y H Q q => by
  unfold rNotInZ at q
  split at q
  · exact .inl ⟨_, _, rfl, rfl, q⟩
  · exact .inr q
theorem in_one (l : List Nat) (c : Nat) : Txt.contains (mkS l) (mkS [c]) = decide (c ∈ l) := StrLaws.found_one (mkS l) c
end
/-! ### methods of built-in types -/
abbrev RM := V → List V → Hp → VK → Prop
def kM2 (r : RM) (x : V) (Q : VK) : List V → Hp → Prop := fun xs H2 => r x xs H2 Q
def kMs (r : RM) (t : TA) (σ : Sl) (Q : VK) : VK := fun x H1 => match x with
  | .str _ => t σ H1 (kM2 r x Q)
  | _ => False
/-- z.m(..), z a text -/
def zMs (r : RM) (to : TE) (t : TA) : TE := fun σ H Q => to σ H (kMs r t σ Q)
theorem zMs_eq {r to t} {σ : Sl} {H : Hp} {Q : VK} : zMs r to t σ H Q = to σ H (kMs r t σ Q) := rfl
theorem kMs_eq {r t z} {σ : Sl} {H : Hp} {Q : VK} : kMs r t σ Q (.str z) H = t σ H (kM2 r (.str z) Q) := rfl
theorem kM2_eq {r : RM} {x xs} {H : Hp} {Q : VK} : kM2 r x Q xs H = r x xs H Q := rfl
def isL (K : PySem.W.Frag) (p : Addr) (H : Hp) : Option HO → Prop
  | some (.lst _) => True
  | _ => ∃ xs, SqL K H p xs
theorem isL_lst {K p H xs} : isL K p H (some (.lst xs)) = True := rfl
def kMl (K : PySem.W.Frag) (r : RM) (t : TA) (σ : Sl) (Q : VK) : VK := fun x H1 => match x with
  | .ref p => isL K p H1 (H1 p) ∧ t σ H1 (kM2 r x Q)
  | _ => False
/-- l.m(..), l a list -/
def zMl (K : PySem.W.Frag) (r : RM) (to : TE) (t : TA) : TE := fun σ H Q => to σ H (kMl K r t σ Q)
theorem zMl_eq {K r to t} {σ : Sl} {H : Hp} {Q : VK} : zMl K r to t σ H Q = to σ H (kMl K r t σ Q) := rfl
theorem kMl_eq {K r t} {p : Addr} {σ : Sl} {H : Hp} {Q : VK} : kMl K r t σ Q (.ref p) H = (isL K p H (H p) ∧ t σ H (kM2 r (.ref p) Q)) := rfl
theorem isL_ty {K : PySem.W.Frag} {p : Addr} {H : Hp} (h : isL K p H (H p)) : tyV K "list" (.ref p) H := by
  refine .inl ⟨rfl, ?_⟩
  unfold isL at h
  split at h
  · rename_i xs e
    exact ⟨xs, SqL.of e⟩
  · exact h
section
variable {X : Cx} {o e : Expr} {es : List Expr} {to : TE} {t : TA} {name : Str} {apos cpos : Pos} {id : String} {r : RM}
theorem mz_s0 (slot : Slot "str" name id) (hty : typeOf (.builtin id) = pure (.type "method_descriptor")) (hm : MtR X id r) (ho : PE X o to)
    (hbase : attributeBase o name X.env (eval o X.env) = eval o X.env := by rfl) (hline : (apos.endLine == cpos.line) = true := by rfl) : PE X (.Call (.Attribute o name apos) [] [] cpos) (zMs r to zNil) := by
  refine ⟨fun pins s σ H Q I h => ?_⟩
  refine wpAny_Call_method0_late hbase hline (thn (ho.run pins s σ H _ I h) fun v s1 ⟨x, H1, I1, r1, q⟩ => ?_)
  cases x with
  | str z =>
    obtain ⟨h1, h2⟩ := tyV_is (T := "str") I1 r1 rfl
    exact ⟨"str", id, PySem.F.plainAttrs_str, slot, hty, h1, h2, Calls.callWith_builtin rfl (PySem.evalArgs_none (hm pins s1 σ H1 _ [] v [] Q I1 r1 .nil q))⟩
  | _ => exact False.elim q
theorem mz_s (slot : Slot "str" name id) (hty : typeOf (.builtin id) = pure (.type "method_descriptor")) (hm : MtR X id r) (ho : PE X o to) (ha : PA X (e :: es) t)
    (hbase : attributeBase o name X.env (eval o X.env) = eval o X.env := by rfl)
    (hfew : ((backTo cpos (starEach (e :: es) X.env)).all (fun x => !x.1) && (backToKw cpos (keywordEach [] X.env)).all (fun x => x.1.isSome)
      && decide ((e :: es).length + ([] : List Keyword).length + (if ([] : List Keyword).isEmpty then 0 else 1) < 30)) = true := by rfl)
    (hline : (apos.endLine == cpos.line) = true := by rfl) (hs : starEach (e :: es) X.env = (false, eval e X.env) :: starEach es X.env := by rfl) (hplain : (backTo cpos (starEach es X.env)).any (·.1) = false := by rfl) :
    PE X (.Call (.Attribute o name apos) (e :: es) [] cpos) (zMs r to t) := by
  refine ⟨fun pins s σ H Q I h => ?_⟩
  refine wpAny_Call_method_late hbase hfew hline rfl (thn (ho.run pins s σ H _ I h) fun v s1 ⟨x, H1, I1, r1, q1⟩ => ?_)
  cases x with
  | str z =>
    obtain ⟨h1, h2⟩ := tyV_is (T := "str") I1 r1 rfl
    refine ⟨"str", id, PySem.F.plainAttrs_str, slot, hty, h1, h2, ?_⟩
    have hA := ha.run cpos pins s1 σ H1 _ I1 q1
    rw [hs] at hA ⊢
    refine Calls.callWith_builtin (by show (false || (backTo cpos (starEach es X.env)).any (·.1)) = false; rw [hplain] <;> rfl) (Calls.evalArgs_plain ?_)
    exact thn hA fun us s2 ⟨vs, H2, I2, r2, q2⟩ => hm pins s2 σ H2 _ vs v us Q I2 r1 r2 q2
  | _ => exact False.elim q1
theorem mz_l0 (slot : Slot "list" name id) (hty : typeOf (.builtin id) = pure (.type "method_descriptor")) (hm : MtR X id r) (ho : PE X o to)
    (hbase : attributeBase o name X.env (eval o X.env) = eval o X.env := by rfl) (hline : (apos.endLine == cpos.line) = true := by rfl) : PE X (.Call (.Attribute o name apos) [] [] cpos) (zMl X.K r to zNil) := by
  refine ⟨fun pins s σ H Q I h => ?_⟩
  refine wpAny_Call_method0_late hbase hline (thn (ho.run pins s σ H _ I h) fun v s1 ⟨x, H1, I1, r1, q⟩ => ?_)
  cases x with
  | ref p =>
    obtain ⟨h1, h2⟩ := tyV_is (T := "list") I1 r1 (isL_ty q.1)
    exact ⟨"list", id, PySem.F.plainAttrs_list, slot, hty, h1, h2, Calls.callWith_builtin rfl (PySem.evalArgs_none (hm pins s1 σ H1 _ [] v [] Q I1 r1 .nil q.2))⟩
  | _ => exact False.elim q
theorem mz_l (slot : Slot "list" name id) (hty : typeOf (.builtin id) = pure (.type "method_descriptor")) (hm : MtR X id r) (ho : PE X o to) (ha : PA X (e :: es) t)
    (hbase : attributeBase o name X.env (eval o X.env) = eval o X.env := by rfl)
    (hfew : ((backTo cpos (starEach (e :: es) X.env)).all (fun x => !x.1) && (backToKw cpos (keywordEach [] X.env)).all (fun x => x.1.isSome)
      && decide ((e :: es).length + ([] : List Keyword).length + (if ([] : List Keyword).isEmpty then 0 else 1) < 30)) = true := by rfl)
    (hline : (apos.endLine == cpos.line) = true := by rfl) (hs : starEach (e :: es) X.env = (false, eval e X.env) :: starEach es X.env := by rfl) (hplain : (backTo cpos (starEach es X.env)).any (·.1) = false := by rfl) :
    PE X (.Call (.Attribute o name apos) (e :: es) [] cpos) (zMl X.K r to t) := by
  refine ⟨fun pins s σ H Q I h => ?_⟩
  refine wpAny_Call_method_late hbase hfew hline rfl (thn (ho.run pins s σ H _ I h) fun v s1 ⟨x, H1, I1, r1, q1⟩ => ?_)
  cases x with
  | ref p =>
    obtain ⟨h1, h2⟩ := tyV_is (T := "list") I1 r1 (isL_ty q1.1)
    refine ⟨"list", id, PySem.F.plainAttrs_list, slot, hty, h1, h2, ?_⟩
    have hA := ha.run cpos pins s1 σ H1 _ I1 q1.2
    rw [hs] at hA ⊢
    refine Calls.callWith_builtin (by show (false || (backTo cpos (starEach es X.env)).any (·.1)) = false; rw [hplain] <;> rfl) (Calls.evalArgs_plain ?_)
    exact thn hA fun us s2 ⟨vs, H2, I2, r2, q2⟩ => hm pins s2 σ H2 _ vs v us Q I2 r1 r2 q2
  | _ => exact False.elim q1
/-! texts' methods -/
/-- z.m() -/
def rS0 (C : Str → Prop) (g : Str → V) : RM := fun x xs H Q => match x, xs with
  | .str a, [] => C a ∧ Q (g a) H
  | _, _ => False
theorem rS0_eq {C g a H Q} : rS0 C g (.str a) [] H Q = (C a ∧ Q (g a) H) := rfl
theorem rS0_of {C g} (h : MtR X id (fun x xs H Q => ∃ a, x = .str a ∧ xs = [] ∧ C a ∧ Q (g a) H)) : MtR X id (rS0 C g) := mtR_imp h fun x xs H Q q => by
  unfold rS0 at q
  split at q
  · exact ⟨_, rfl, rfl, q.1, q.2⟩
  · exact q.elim
/-- z.m(t) -/
def rS1 (C : Str → Str → Prop) (g : Str → Str → V) : RM := fun x xs H Q => match x, xs with
  | .str a, [.str b] => C a b ∧ Q (g a b) H
  | _, _ => False
theorem rS1_eq {C g a b H Q} : rS1 C g (.str a) [.str b] H Q = (C a b ∧ Q (g a b) H) := rfl
theorem rS1_of {C g} (h : MtR X id (fun x xs H Q => ∃ a b, x = .str a ∧ xs = [.str b] ∧ C a b ∧ Q (g a b) H)) : MtR X id (rS1 C g) := mtR_imp h fun x xs H Q q => by
  unfold rS1 at q
  split at q
  · exact ⟨_, _, rfl, rfl, q.1, q.2⟩
  · exact q.elim
abbrev rIsdigit : RM := rS0 (fun _ => True) fun a => .bl (Txt.isdigit a)
abbrev rIsalnum : RM := rS0 (fun _ => True) fun a => .bl (Txt.isalnum a)
abbrev rLower : RM := rS0 (fun a => a.length ≤ 5592405) fun a => .str (Txt.lower a)
theorem tz_isdigit : MtR X "str.isdigit" rIsdigit := rS0_of mt_isdigit
theorem tz_isalnum : MtR X "str.isalnum" rIsalnum := rS0_of mt_isalnum
theorem tz_lower : MtR X "str.lower" rLower := rS0_of mt_lower
def rFind : RM := fun x xs H Q => match x, xs with
  | .str a, [.str b] => Q (.int (Txt.find a b)) H
  | .str a, [.str b, .int i] => Q (.int (Txt.find3 a b i)) H
  | _, _ => False
theorem rFind1 {a b H Q} : rFind (.str a) [.str b] H Q = Q (.int (Txt.find a b)) H := rfl
theorem rFind2 {a b i H Q} : rFind (.str a) [.str b, .int i] H Q = Q (.int (Txt.find3 a b i)) H := rfl
theorem tz_find : MtR X "str.find" rFind := mtR_imp (mt_find.or mt_find3) fun x xs H Q q => by
  unfold rFind at q
  split at q
  · exact .inl ⟨_, _, rfl, rfl, q⟩
  · exact .inr ⟨_, _, _, rfl, rfl, q⟩
  · exact q.elim
def joinO (K : PySem.W.Frag) (a : Str) (p : Addr) (H : Hp) (Q : VK) : Prop := ∃ ys : List Str, (SqL K H p (ys.map V.str) ∨ SqT K H p (ys.map V.str)) ∧ (ys.map (fun x => x.length)).sum + ys.length * a.length ≤ 16777216 ∧ Q (.str (Txt.join a ys)) H
def rJoin (K : PySem.W.Frag) : RM := fun x xs H Q => match x, xs with
  | .str a, [.ref p] => joinO K a p H Q
  | _, _ => False
theorem rJoin_eq {K a p H Q} : rJoin K (.str a) [.ref p] H Q = joinO K a p H Q := rfl
theorem tz_join : MtR X "str.join" (rJoin X.K) := mtR_imp mt_join fun x xs H Q q => by
  unfold rJoin at q
  split at q
  · obtain ⟨ys, h1, h2, h3⟩ := q
    exact ⟨_, _, ys, rfl, rfl, h1, h2, h3⟩
  · exact q.elim
theorem joinO_of {K : PySem.W.Frag} {a : List Nat} {p : Addr} {H : Hp} {Q : VK} (ls : List (List Nat)) (h : SqL K H p (ls.map fun l => V.str (mkS l))) (hz : (ls.map List.length).sum + ls.length * a.length ≤ 16777216) (q : Q (.str (mkS (joinL a ls))) H) : joinO K (mkS a) p H Q := by
  refine ⟨ls.map mkS, .inl (by rw [List.map_map]; exact h), ?_, ?_⟩
  · have e : (ls.map mkS).map (fun x => x.length) = ls.map List.length := by
      rw [List.map_map]
      exact List.map_congr_left fun l _ => len_mkS l
    rw [e, List.length_map, len_mkS]
    exact hz
  · have e : Txt.join (mkS a) (ls.map mkS) = mkS (joinL a ls) := by
      rw [join_eq]
      refine ext_tl ?_
      rw [tl_join, List.map_map]
      show joinL a (ls.map id) = joinL a ls
      rw [List.map_id]
    rw [e]
    exact q
/-! lists' methods -/
def appO (v : V) (p : Addr) (H : Hp) (Q : VK) : Option HO → Prop
  | some (.lst xs) => xs.length < sizeLine ∧ Q .non (upd H p (.lst (xs ++ [v])))
  | _ => False
def rAppZ : RM := fun x vs H Q => match x, vs with
  | .ref p, [v] => appO v p H Q (H p)
  | _, _ => False
theorem rAppZ_eq {p v H Q} : rAppZ (.ref p) [v] H Q = appO v p H Q (H p) := rfl
theorem appO_eq {p v H Q xs} : appO v p H Q (some (.lst xs)) = (xs.length < sizeLine ∧ Q .non (upd H p (.lst (xs ++ [v])))) := rfl
theorem tz_append : MtR X "list.append" rAppZ := mtR_imp (show MtR X "list.append" rAppend from mt_append) fun x xs H Q q => by
  unfold rAppZ at q
  split at q
  · rename_i p v
    unfold appO at q
    split at q
    · rename_i ys e
      exact ⟨p, ys, v, rfl, rfl, e, q.1, q.2⟩
    · exact q.elim
  · exact q.elim
end
/-! ### f-strings -/
def kFm (Q : VK) : VK := fun x H1 => (∃ y : Str, x = .str y ∧ y.length ≤ sizeLine ∧ Q (.str y) H1) ∨ ∃ i : Int, x = .int i ∧ i.natAbs.log2 < 1920 ∧ Q (.str (toString i)) H1
def zFm (te : TE) : TE := fun σ H Q => te σ H (kFm Q)
theorem zFm_eq {te} {σ : Sl} {H Q} : zFm te σ H Q = te σ H (kFm Q) := rfl
theorem kFm_str {y : Str} {H Q} : kFm Q (.str y) H = (y.length ≤ sizeLine ∧ Q (.str y) H) := by
  unfold kFm
  simp
theorem kFm_int {i : Int} {H Q} : kFm Q (.int i) H = (i.natAbs.log2 < 1920 ∧ Q (.str (mkS (numS i))) H) := by
  unfold kFm
  apply propext
  constructor
  · rintro (⟨y, h, _⟩ | ⟨j, h, h1, h2⟩)
    · cases h
    · cases h
      rw [num_eq] at h2
      exact ⟨h1, h2⟩
  · rintro ⟨h1, h2⟩
    exact .inr ⟨i, rfl, h1, by rw [num_eq]; exact h2⟩
def kJs (ts : List TE) (acc : Str) (σ : Sl) (Q : Str → Hp → Prop) : VK := fun x H1 => ∃ y : Str, x = .str y ∧ (acc ++ y).length ≤ sizeLine ∧ tJs ts (acc ++ y) σ H1 Q
def kJq (Q : VK) : Str → Hp → Prop := fun out H1 => Q (.str out) H1
theorem kJq_eq {Q : VK} {out H} : kJq Q out H = Q (.str out) H := rfl
theorem tJs_nil {acc} {σ : Sl} {H Q} : tJs [] acc σ H Q = Q acc H := rfl
theorem tJs_cons {t ts acc} {σ : Sl} {H Q} : tJs (t :: ts) acc σ H Q = t σ H (kJs ts acc σ Q) := rfl
theorem kJs_str {ts acc} {σ : Sl} {y : Str} {H Q} : kJs ts acc σ Q (.str y) H = ((acc ++ y).length ≤ sizeLine ∧ tJs ts (acc ++ y) σ H Q) := by
  unfold kJs
  simp
def zJs (ts : List TE) : TE := fun σ H Q => tJs ts (mkS []) σ H (kJq Q)
theorem zJs_eq {ts} {σ : Sl} {H Q} : zJs ts σ H Q = tJs ts (mkS []) σ H (kJq Q) := rfl
section
variable {X : Cx} {e : Expr} {te : TE} {pos : Pos}
theorem fz_fmt (he : PE X e te) : PE X (.FormattedValue e (-1) none pos) (zFm te) := pe_fmt he
theorem fz_js {v1 v2 : Expr} {rest : List Expr} {ts : List TE} (h : PJ X (v1 :: v2 :: rest) ts) : PE X (.JoinedStr (v1 :: v2 :: rest) pos) (zJs ts) := pe_joined h
end
end Z
namespace Z
open PySem PySem.Spec PyProof.Rows L2 TL
/-! ### raising -/
structure Ex (K : PySem.W.Frag) (mg : Str → Option Value) (x : Str) : Prop where
  m : mg x = some (.ref (He.ga K x))
  kp : PySem.W.keepIn K (.ref (He.ga K x)) = true
  ex : PySem.W.excIn K (He.ga K x) [.type "ValueError", .type "Exception", .type "BaseException", .type "object"] "ValueError.__new__" = true
  sb : PySem.W.subIn K (.ref (He.ga K x)) (.type "BaseException") = some true
  ty : PySem.W.typeIn K (.ref (He.ga K x)) = some (.type "type")
def zRaise (C : Addr) (W : WX) : TS := fun _ σ H => W (.ref C) none σ H
theorem zRaise_eq {C W D} {σ : Sl} {H : Hp} : zRaise C W D σ H = W (.ref C) none σ H := rfl
theorem sz_raise {X : Cx} {W : WX} {x m : Str} {j : Nat} {p p2 pos pos' : Pos} (hc : X.calm = true) (tk : L2N.Takes X W) (E : Ex X.K X.mg x) (hg : Gl X x := by rfl) (hdb : (x == ("__debug__" : Str)) = false := by decide) :
    PS X (.Raise (some (.Call (.Name x p) [.Constant (.str m) j p2] [] pos)) none pos') (zRaise (He.ga X.K x) W) :=
  L2N.ps_raise hc tk (L2N.pmk_own PySem.F.excBase_ValueError E.ex E.m E.kp (raises_own E.sb E.ty) hg hdb)
/-! ### try .. except X: suite; try .. except X as n: suite -/
abbrev Suite := Addr → Value → Option Addr → TS
def zTryAs (K : PySem.W.Frag) (c : Value) (i : Nat) (tb : WX → TS) (ts : Suite) (W : WX) : TS := fun D σ H => tb (wAs K c i ts W D) D σ H
theorem zTryAs_eq {K c i tb ts W D} {σ : Sl} {H : Hp} : zTryAs K c i tb ts W D σ H = tb (wAs K c i ts W D) D σ H := rfl
def zTry (K : PySem.W.Frag) (l : List (Value × Suite)) (tb : WX → TS) (W : WX) : TS := fun D σ H => tb (wMany K W D l) D σ H
theorem zTry_eq {K l tb W D} {σ : Sl} {H : Hp} : zTry K l tb W D σ H = tb (wMany K W D l) D σ H := rfl
section
variable {X : Cx} {x n : Str} {c : Value} {i : Nat} {body suite : List Stmt} {b₀ : Stmt} {h₀ : ExceptHandler} {hds : List ExceptHandler} {np pos pos' : Pos} {tb : WX → TS} {ts : Suite} {W : WX} {l : List (Value × Suite)}
theorem sz_tryAs (i : Nat) (hs : X.stack = X.env :: X.outer) (hf : X.env.frame = some X.env.locals) (hN : X.N.Nodup) (hc : Names X x c) (tk : L2N.Takes X W)
    (hb : ∀ (W : WX) (pn : List (Addr × Obj)) (xe : Value → Shared → Prop), L2N.Takes (X.tr pn xe) W → PassesOwn (model X.prog X.w) X.A X.env xe → PSs (X.tr pn xe) body (tb W))
    (hsu : ∀ (a : Addr) (oe : Obj) (cls : Value) (d : Option Addr) (pn : List (Addr × Obj)), L2N.Zn cls d oe → (∃ vs, oe.data = .fields vs) → PSs (X.suite a ((a, oe) :: pn)) (b₀ :: suite) (ts a cls d))
    (hi : X.N[i]? = some n := by rfl) (hln : X.env.kindOf n = some .local := by rfl) :
    PS X (.Try body [.ExceptHandler (some (.Name x np)) (some n) (b₀ :: suite) pos'] [] [] pos) (zTryAs X.K c i tb ts W) := L2N.ps_try_as hs hf hN hi hln hc tk hb hsu
theorem sz_try (hs : X.stack = X.env :: X.outer) (hf : X.env.frame = some X.env.locals) (tk : L2N.Takes X W)
    (hb : ∀ (W : WX) (pn : List (Addr × Obj)) (xe : Value → Shared → Prop), L2N.Takes (X.tr pn xe) W → PassesOwn (model X.prog X.w) X.A X.env xe → PSs (X.tr pn xe) body (tb W))
    (hh : L2N.HdsOk X (h₀ :: hds) l) : PS X (.Try body (h₀ :: hds) [] [] pos) (zTry X.K l tb W) := L2N.ps_try_many hs hf tk hb hh
end
/-! ### targets -/
def sz0 : TG := fun _ _ _ _ => False
abbrev zN (i : Nat) : TG := gName i
theorem gName_eq {i v} {σ : Sl} {H : Hp} {Q} : gName i v σ H Q = Q (σ.set i (some v)) H := rfl
theorem gNil_eq {σ : Sl} {H : Hp} {Q} : gNil [] σ H Q = Q σ H := by
  unfold gNil
  simp
def kG (u : TGs) (r : List V) (Q : Sl → Hp → Prop) : Sl → Hp → Prop := fun σ' H' => u r σ' H' Q
theorem kG_eq {u : TGs} {r Q} {σ : Sl} {H : Hp} : kG u r Q σ H = u r σ H Q := rfl
theorem gCons_eq {t : TG} {u : TGs} {v r} {σ : Sl} {H : Hp} {Q} : gCons t u (v :: r) σ H Q = t v σ H (kG u r Q) := by
  unfold gCons kG
  apply propext
  constructor
  · rintro ⟨v', r', h, q⟩
    cases h
    exact q
  · intro q
    exact ⟨v, r, rfl, q⟩
def tupO (K : PySem.W.Frag) (a : Addr) (n : Nat) (t : TGs) (σ : Sl) (H : Hp) (Q : Sl → Hp → Prop) : Option HO → Prop
  | some (.tup xs) => xs.length = n ∧ t xs σ H Q
  | _ => ∃ xs, SqT K H a xs ∧ xs.length = n ∧ t xs σ H Q
theorem tupO_eq {K a n t H Q xs} {σ : Sl} : tupO K a n t σ H Q (some (.tup xs)) = (xs.length = n ∧ t xs σ H Q) := rfl
def zgT (K : PySem.W.Frag) (n : Nat) (t : TGs) : TG := fun v σ H Q => match v with
  | .ref a => tupO K a n t σ H Q (H a)
  | _ => False
theorem zgT_eq {K n t} {a : Addr} {σ : Sl} {H : Hp} {Q} : zgT K n t (.ref a) σ H Q = tupO K a n t σ H Q (H a) := rfl
theorem pg_imp {X : Cx} {e : Expr} {t t' : TG} (h : PG X e t) (i : ∀ v σ H Q, t' v σ H Q → t v σ H Q) : PG X e t' := ⟨fun pins s σ H v u Q I r q => h.run pins s σ H v u Q I r (i v σ H Q q)⟩
theorem gz_name {X : Cx} {pos : Pos} (i : Nat) {x : Str} (hN : X.N.Nodup) (hi : X.N[i]? = some x := by rfl) (hx : Loc X.env.scope x := by first | exact Or.inl rfl | exact Or.inr rfl) (hf : X.fn x = true ∨ X.env.scope.names.lookup x = some .local := by first | exact .inl rfl | exact .inr rfl | assumption) : PG X (.Name x pos) (gName i) := pg_name hN hi hx hf
theorem gz_tup {X : Cx} {es : List Expr} {k : Nat} {t : TGs} {n : Nat} {pos : Pos} (hc : X.calm = true) (h : PGs X es t) (hn : (assignEach es X.env).length = n := by rfl) (hst : (assignEach es X.env).findIdx? (·.1) = none := by rfl) : PG X (.Tuple es k pos) (zgT X.K n t) :=
  pg_imp (pg_tup hc h hn hst) fun v σ H Q q => by
    cases v with
    | ref a =>
      have q : tupO X.K a n t σ H Q (H a) := q
      unfold tupO at q
      split at q
      · rename_i xs e
        exact ⟨a, xs, rfl, .inl (.inl e), q.1, q.2⟩
      · obtain ⟨xs, h1, h2, h3⟩ := q
        exact ⟨a, xs, rfl, h1, h2, h3⟩
    | _ => exact False.elim q
def kAsg (g : TG) (D : Ends) (σ : Sl) : VK := fun x H1 => g x σ H1 D.nx
theorem kAsg_eq {g : TG} {D x} {σ : Sl} {H : Hp} : kAsg g D σ x H = g x σ H D.nx := rfl
def zAsg (te : TE) (g : TG) : TS := fun D σ H => te σ H (kAsg g D σ)
theorem zAsg_eq {te g D} {σ : Sl} {H : Hp} : zAsg te g D σ H = te σ H (kAsg g D σ) := rfl
theorem sz_asg {X : Cx} {tg e : Expr} {te : TE} {g : TG} {pos : Pos} (he : PE X e te) (hg : PG X tg g) (hs : swapsWithSole [tg] e pos.line X.env = pure false := by rfl) (hw : swappedStores [tg] e X.env = pure none := by rfl)
    (h1 : (assignEach [tg] X.env).map (·.2) = [assign tg X.env] := by rfl) : PS X (.Assign [tg] e pos) (zAsg te g) := ps_asg he hg hs hw h1
/-- name op= e -/
def kAug2 (i : Nat) (D : Ends) (σ : Sl) : VK := fun z H2 => D.nx (σ.set i (some z)) H2
def kAug1 (i : Nat) (ti : TIp) (x : V) (D : Ends) (σ : Sl) : VK := fun y H1 => ti x y H1 (kAug2 i D σ)
theorem kAug2_eq {i D z} {σ : Sl} {H : Hp} : kAug2 i D σ z H = D.nx (σ.set i (some z)) H := rfl
theorem kAug1_eq {i ti x D y} {σ : Sl} {H : Hp} : kAug1 i ti x D σ y H = ti x y H (kAug2 i D σ) := rfl
def augC (i : Nat) (te : TE) (ti : TIp) (D : Ends) (σ : Sl) (H : Hp) : Option (Option V) → Prop
  | some (some x) => te σ H (kAug1 i ti x D σ)
  | _ => False
theorem augC_eq {i te ti D x} {σ : Sl} {H : Hp} : augC i te ti D σ H (some (some x)) = te σ H (kAug1 i ti x D σ) := rfl
def zAug (i : Nat) (te : TE) (ti : TIp) : TS := fun D σ H => augC i te ti D σ H (σ[i]?)
theorem zAug_eq {i te ti D} {σ : Sl} {H : Hp} : zAug i te ti D σ H = augC i te ti D σ H (σ[i]?) := rfl
theorem sz_aug {X : Cx} {e : Expr} {te : TE} {op : Operator} {ti : TIp} {pos pos' : Pos} {x : Str} (i : Nat) (hN : X.N.Nodup) (he : PE X e te) (ho : PIp X op ti) (hi : X.N[i]? = some x := by rfl) (hx : Loc X.env.scope x := by first | exact Or.inl rfl | exact Or.inr rfl) (hf : X.fn x = true ∨ X.env.scope.names.lookup x = some .local := by first | exact .inl rfl | exact .inr rfl | assumption) :
    PS X (.AugAssign (.Name x pos') op e pos) (zAug i te ti) := ps_imp (ps_aug hN hi hx he ho hf) fun D σ H q => by
  have q : augC i te ti D σ H (σ[i]?) := q
  unfold augC at q
  split at q
  · rename_i x e
    exact ⟨x, e, q⟩
  · exact q.elim
theorem opR_ip {X : Cx} {op : Operator} {r : R2} (h : OpR X (inplaceOp op) r) : PIp X op r := fun pins s σ H x y v u Q I rx ry q => h pins s σ H x y v u Q I rx ry q
def rAddI : R2 := fun x y H Q => match x, y with
  | .int i, .int j => Q (.int (i + j)) H
  | .str i, .str j => i.length + j.length ≤ sizeLine ∧ Q (.str (i ++ j)) H
  | _, _ => False
theorem rAddI_int {i j : Int} {H Q} : rAddI (.int i) (.int j) H Q = Q (.int (i + j)) H := rfl
theorem rAddI_str {i j : Str} {H Q} : rAddI (.str i) (.str j) H Q = (i.length + j.length ≤ sizeLine ∧ Q (.str (i ++ j)) H) := rfl
section
variable {X : Cx}
theorem ipz_add : PIp X .Add rAddI := opR_ip (opR_imp (iop_add.or iop_add_str) fun x y H Q q => by
  cases x <;> cases y <;> first | exact False.elim q | exact .inl ⟨_, _, rfl, rfl, q⟩ | exact .inr ⟨_, _, rfl, rfl, q.1, q.2⟩)
theorem ipz_sub : PIp X .Sub rSub := opR_ip (rI20_of iop_sub)
theorem ipz_mul : PIp X .Mult (rI2 CMul fun i j => .int (i * j)) := opR_ip (rI2_of iop_mul)
theorem ipz_fdv : PIp X .FloorDiv rFdv := opR_ip (rI2_of iop_fdiv)
end
/-! ### for -/
def loopE (D : Ends) (N : Sl → Hp → Prop) : Ends := { D with nx := N, ct := N, bk := D.nx }
theorem loopE_nx {D N} : (loopE D N).nx = N := rfl
theorem loopE_ct {D N} : (loopE D N).ct = N := rfl
theorem loopE_bk {D N} : (loopE D N).bk = D.nx := rfl
theorem loopE_rt {D N} : (loopE D N).rt = D.rt := rfl
def kFor (g : TG) (tb : TS) (D : Ends) (σ : Sl) : It → Hp → Prop := fun J H1 => ∃ W : Nat → Nat → Sl → Hp → Prop, (∃ m, W 0 m σ H1) ∧ ∀ i m σ H, W i m σ H →
  (J.stop i H ∧ D.nx σ H) ∨ (J.go i H ∧ ∃ N : Sl → Hp → Prop, (∀ σ' H', N σ' H' → ∃ m', m' < m ∧ W (i + 1) m' σ' H') ∧ ∀ x H', J.yld i H x H' → g x σ H' fun σ2 H2 => tb { D with nx := N, ct := N, bk := D.nx } σ2 H2)
def zFor (wi : TI) (g : TG) (tb : TS) : TS := fun D σ H => wi σ H (kFor g tb D σ)
theorem zFor_eq {wi g tb D} {σ : Sl} {H : Hp} : zFor wi g tb D σ H = wi σ H (kFor g tb D σ) := rfl
theorem sz_for {X : Cx} {iter tg : Expr} {body : List Stmt} {wi : TI} {g : TG} {tb : TS} {pos : Pos} (hp : PassesOwn (model X.prog X.w) X.A X.env X.xe) (hc : X.calm = true) (hi : PI X tg iter wi) (hg : PG X tg g) (hb : PSs X body tb)
    (hs : ∀ x, foldedSetIterable iter X.env x = pure x := by intro _; rfl) : PS X (.For tg iter body [] pos) (zFor wi g tb) := ps_for hp hc hi hg hb hs
def kiL (K : PySem.W.Frag) (R : It → Hp → Prop) : VK := fun x H1 => ∃ a, x = .ref a ∧ (∃ xs, SqL K H1 a xs) ∧ R (Itl K a) H1
def ziL (K : PySem.W.Frag) (tl : TE) : TI := fun σ H R => tl σ H (kiL K R)
theorem ziL_eq {K tl R} {σ : Sl} {H : Hp} : ziL K tl σ H R = tl σ H (kiL K R) := rfl
theorem kiL_eq {K} {a : Addr} {R H} : kiL K R (.ref a) H = ((∃ xs, SqL K H a xs) ∧ R (Itl K a) H) := by
  unfold kiL
  simp
def kiT (K : PySem.W.Frag) (R : It → Hp → Prop) : VK := fun x H1 => ∃ a, x = .ref a ∧ (∃ xs, SqT K H1 a xs) ∧ R (Itt K a) H1
def ziT (K : PySem.W.Frag) (tl : TE) : TI := fun σ H R => tl σ H (kiT K R)
theorem ziT_eq {K tl R} {σ : Sl} {H : Hp} : ziT K tl σ H R = tl σ H (kiT K R) := rfl
theorem kiT_eq {K} {a : Addr} {R H} : kiT K R (.ref a) H = ((∃ xs, SqT K H a xs) ∧ R (Itt K a) H) := by
  unfold kiT
  simp
def kiS (R : It → Hp → Prop) : VK := fun v H1 => ∃ x, v = .str x ∧ R (Its x) H1
def ziS (te : TE) : TI := fun σ H R => te σ H (kiS R)
theorem ziS_eq {te R} {σ : Sl} {H : Hp} : ziS te σ H R = te σ H (kiS R) := rfl
theorem kiS_eq {x R H} : kiS R (.str x) H = R (Its x) H := by
  unfold kiS
  simp
def kiR1 (R : It → Hp → Prop) : List V → Hp → Prop := fun vs H1 => ∃ j : Int, vs = [.int j] ∧ -(2 ^ 62) ≤ j ∧ j < 2 ^ 62 ∧ R (Itr 0 j.toNat) H1
def ziR1 (ta : TA) : TI := fun σ H R => ta σ H (kiR1 R)
theorem ziR1_eq {ta R} {σ : Sl} {H : Hp} : ziR1 ta σ H R = ta σ H (kiR1 R) := rfl
theorem kiR1_eq {j R H} : kiR1 R [.int j] H = (-(2 ^ 62) ≤ j ∧ j < 2 ^ 62 ∧ R (Itr 0 j.toNat) H) := by
  unfold kiR1
  apply propext
  constructor
  · rintro ⟨i, h, q⟩
    cases h
    exact q
  · intro q
    exact ⟨j, rfl, q⟩
def kiR2 (R : It → Hp → Prop) : List V → Hp → Prop := fun vs H1 => ∃ i j : Int, vs = [.int i, .int j] ∧ (-(2 ^ 62) ≤ i ∧ i < 2 ^ 62 ∧ -(2 ^ 62) ≤ j ∧ j < 2 ^ 62) ∧ R (Itr i (j - i).toNat) H1
def ziR2 (ta : TA) : TI := fun σ H R => ta σ H (kiR2 R)
theorem ziR2_eq {ta R} {σ : Sl} {H : Hp} : ziR2 ta σ H R = ta σ H (kiR2 R) := rfl
theorem kiR2_eq {i j R H} : kiR2 R [.int i, .int j] H = ((-(2 ^ 62) ≤ i ∧ i < 2 ^ 62 ∧ -(2 ^ 62) ≤ j ∧ j < 2 ^ 62) ∧ R (Itr i (j - i).toNat) H) := by
  unfold kiR2
  apply propext
  constructor
  · rintro ⟨i', j', h, q⟩
    cases h
    exact q
  · intro q
    exact ⟨i, j, rfl, q⟩
section
variable {X : Cx} {tg e a b : Expr} {te : TE} {ta : TA} {p pos : Pos}
theorem wz_list (he : PE X e te) : PI X tg e (ziL X.K te) := pi_list he
theorem wz_tup (he : PE X e te) : PI X tg e (ziT X.K te) := pi_tup he
theorem wz_str (he : PE X e te) : PI X tg e (ziS te) := pi_str he
theorem wz_range1 (hm : X.mg "range" = none) (ha : PA X [a] ta) (hg : Gl X "range" := by rfl) (hs : starEach [a] X.env = [(false, eval a X.env)] := by rfl) : PI X tg (.Call (.Name "range" p) [a] [] pos) (ziR1 ta) := pi_range1 hg hm ha hs
theorem wz_range2 (hm : X.mg "range" = none) (ha : PA X [a, b] ta) (hg : Gl X "range" := by rfl) (hs : starEach [a, b] X.env = [(false, eval a X.env), (false, eval b X.env)] := by rfl) (hs2 : starEach [b] X.env = [(false, eval b X.env)] := by rfl) :
    PI X tg (.Call (.Name "range" p) [a, b] [] pos) (ziR2 ta) := pi_range2 hg hm ha hs hs2
end
/-- by an invariant: over a list -/
theorem for_l {K : PySem.W.Frag} {a : Addr} {xs : List V} {g : TG} {tb : TS} {D : Ends} {σ : Sl} {H : Hp} (Pv : Nat → Sl → Hp → Prop) (h0 : Pv 0 σ H) (hl : ∀ i σ H, i ≤ xs.length → Pv i σ H → SqL K H a xs)
    (hs : ∀ i x σ H, xs[i]? = some x → Pv i σ H → g x σ H (tb (loopE D (Pv (i + 1))))) (hd : ∀ σ H, Pv xs.length σ H → D.nx σ H) : kFor g tb D σ (Itl K a) H := for_list Pv h0 hl hs hd
theorem for_t {K : PySem.W.Frag} {a : Addr} {xs : List V} {g : TG} {tb : TS} {D : Ends} {σ : Sl} {H : Hp} (Pv : Nat → Sl → Hp → Prop) (h0 : Pv 0 σ H) (hl : ∀ i σ H, i ≤ xs.length → Pv i σ H → SqT K H a xs)
    (hs : ∀ i x σ H, xs[i]? = some x → Pv i σ H → g x σ H (tb (loopE D (Pv (i + 1))))) (hd : ∀ σ H, Pv xs.length σ H → D.nx σ H) : kFor g tb D σ (Itt K a) H := for_tup Pv h0 hl hs hd
theorem for_r {lo : Int} {n : Nat} {g : TG} {tb : TS} {D : Ends} {σ : Sl} {H : Hp} (Pv : Nat → Sl → Hp → Prop) (h0 : Pv 0 σ H)
    (hs : ∀ (i : Nat) σ H, i < n → Pv i σ H → g (.int (lo + i)) σ H (tb (loopE D (Pv (i + 1))))) (hd : ∀ σ H, Pv n σ H → D.nx σ H) : kFor g tb D σ (Itr lo n) H := for_range Pv h0 hs hd
theorem for_s {l : List Nat} {g : TG} {tb : TS} {D : Ends} {σ : Sl} {H : Hp} (Pv : Nat → Sl → Hp → Prop) (h0 : Pv 0 σ H)
    (hs : ∀ (i c : Nat) σ H, l[i]? = some c → Pv i σ H → g (.str (mkS [c])) σ H (tb (loopE D (Pv (i + 1))))) (hd : ∀ σ H, Pv l.length σ H → D.nx σ H) : kFor g tb D σ (Its (mkS l)) H := by
  have hsz : (mkS l).cps.size = l.length := by simp [mkS]
  refine ⟨fun i m σ H => m = l.length - i ∧ i ≤ l.length ∧ Pv i σ H, ⟨l.length, by simp, Nat.zero_le _, h0⟩, ?_⟩
  rintro i m σ H ⟨rfl, hi, p⟩
  by_cases hlt : i < l.length
  · refine .inr ⟨by show i < (mkS l).cps.size; rw [hsz]; exact hlt, Pv (i + 1), fun σ' H' p' => ⟨l.length - (i + 1), by omega, rfl, hlt, p'⟩, fun x H' y => ?_⟩
    obtain ⟨e, c, e2, e3⟩ := y
    subst e e3
    have e4 : l[i]? = some c := by
      have : (mkS l).cps[i]? = l[i]? := by simp [mkS]
      rw [← this]
      exact e2
    exact hs i c σ _ e4 p
  · have e : i = l.length := by omega
    subst e
    exact .inl ⟨by show (mkS l).cps.size ≤ l.length; rw [hsz]; exact Nat.le_refl _, hd σ H p⟩
/-! ### while -/
def low (Pv : Nat → Sl → Hp → Prop) (m : Nat) : Sl → Hp → Prop := fun σ' H' => ∃ m', m' < m ∧ Pv m' σ' H'
def kWh (Pv : Nat → Sl → Hp → Prop) (m : Nat) (tb : TS) (D : Ends) (σ : Sl) : Bool → Hp → Prop := fun b H1 => if b = true then ∃ N : Sl → Hp → Prop, (∀ σ' H', N σ' H' → ∃ m', m' < m ∧ Pv m' σ' H') ∧ tb { D with nx := N, ct := N, bk := D.nx } σ H1 else D.nx σ H1
theorem kWh_split {Pv m tb D} {σ : Sl} {H : Hp} {k : Bool} (h1 : k = true → tb (loopE D (low Pv m)) σ H) (h2 : k = false → D.nx σ H) : kWh Pv m tb D σ k H := by
  cases k
  · exact h2 rfl
  · exact ⟨low Pv m, fun σ' H' h => h, h1 rfl⟩
theorem kWh_f {Pv m tb D} {σ : Sl} {H : Hp} : kWh Pv m tb D σ false H = D.nx σ H := rfl
theorem kWh_t {Pv m tb D} {σ : Sl} {H : Hp} (h : tb (loopE D (low Pv m)) σ H) : kWh Pv m tb D σ true H := ⟨low Pv m, fun σ' H' h => h, h⟩
def zWhile (c : TT) (tb : TS) : TS := fun D σ H => ∃ Pv : Nat → Sl → Hp → Prop, (∃ m, Pv m σ H) ∧ ∀ m σ H, Pv m σ H → c σ H (kWh Pv m tb D σ)
theorem sz_while {X : Cx} {c : Expr} {body : List Stmt} {tc : TT} {tb : TS} {pos : Pos} (hp : PassesOwn (model X.prog X.w) X.A X.env X.xe) (hc : PT X c tc) (hb : PSs X body tb) : PS X (.While c body [] pos) (zWhile tc tb) := ps_while hp hc hb
theorem wh_by {c : TT} {tb : TS} {D : Ends} {σ : Sl} {H : Hp} (Pv : Nat → Sl → Hp → Prop) (m : Nat) (h0 : Pv m σ H) (hs : ∀ m σ H, Pv m σ H → c σ H (kWh Pv m tb D σ)) : zWhile c tb D σ H := ⟨Pv, ⟨m, h0⟩, hs⟩
/-! ### comprehensions -/
def kLc (g : TG) (tt : TT) (te : TE) (vs : List Nat) (σ : Sl) (Q : VK) : It → Hp → Prop := fun J H1 => ∀ D, H1 D = none → ∃ W : Nat → Nat → Hp → Prop, (∃ m, W 0 m (upd H1 D (.lst []))) ∧ ∀ i m H, W i m H →
  (J.stop i H ∧ Q (.ref D) H) ∨ (J.go i H ∧ ∃ Nx : Hp → Prop, (∀ H', Nx H' → ∃ m', m' < m ∧ W (i + 1) m' H') ∧ ∀ x H', J.yld i H x H' → g x (wipe σ vs) H' fun σ2 H2 => wipe σ2 vs = wipe σ vs ∧ tt σ2 H2 fun b H3 =>
    if b = true then te σ2 H3 fun y H4 => ∃ acc, H4 D = some (.lst acc) ∧ acc.length < sizeLine ∧ Nx (upd H4 D (.lst (acc ++ [y]))) else Nx H3)
def zLc (wi : TI) (g : TG) (tt : TT) (te : TE) (vs : List Nat) : TE := fun σ H Q => wi σ H (kLc g tt te vs σ Q)
theorem zLc_eq {wi g tt te vs} {σ : Sl} {H : Hp} {Q : VK} : zLc wi g tt te vs σ H Q = wi σ H (kLc g tt te vs σ Q) := rfl
def zYes : TT := fun _ H Q => Q true H
theorem zYes_eq {σ : Sl} {H : Hp} {Q} : zYes σ H Q = Q true H := rfl
section
variable {X : Cx}
theorem lz_nil : PTs X [] zYes := pts_nil
theorem lz_one {c : Expr} {t : TT} (h : PT X c t) : PTs X [c] t := pts_one h
theorem pz_lc {elt tg iter : Expr} {ifs : List Expr} {scope : Scope} {pos : Pos} {wi : TI} {g : TG} {tt : TT} {te : TE} (own : List (Str × Nat)) (hc : X.calm = true) (hN : X.N.Nodup) (hi : PI X tg iter wi) (ok : BlkOk X.N X.env.scope scope own)
    (hg : ∀ (s : Shared) (H : Hp) (C : Addr) (cl : List (Str × Addr)) (fp : List Addr), PG (X.blk s H scope (compEnvC scope cl C X.env) fp) tg g) (ht : ∀ (s : Shared) (H : Hp) (C : Addr) (cl : List (Str × Addr)) (fp : List Addr), PTs (X.blk s H scope (compEnvC scope cl C X.env) fp) ifs tt)
    (he : ∀ (s : Shared) (H : Hp) (C : Addr) (cl : List (Str × Addr)) (fp : List Addr), PE (X.blk s H scope (compEnvC scope cl C X.env) fp) elt te) (hs : ∀ x, foldedSetIterable iter X.env x = pure x := by intro _; rfl) :
    PE X (.ListComp elt [⟨tg, iter, ifs, 0⟩] scope pos) (zLc wi g tt te (own.map (·.2))) := pe_lc hc hN hi ok hg ht he hs
theorem sz_setLc {y : Str} {py : Pos} {elt tg iter : Expr} {ifs : List Expr} {scope : Scope} {pos spos : Pos} {wi : TI} {g : TG} {tt : TT} {te : TE} (i : Nat) (own : List (Str × Nat)) (hc : X.calm = true) (hN : X.N.Nodup) (hi : PI X tg iter wi) (ok : BlkOk X.N X.env.scope scope own)
    (hg : ∀ (s : Shared) (H : Hp) (C : Addr) (cl : List (Str × Addr)) (fp : List Addr), PG (X.blk s H scope (compEnvC scope cl C X.env) fp) tg g) (ht : ∀ (s : Shared) (H : Hp) (C : Addr) (cl : List (Str × Addr)) (fp : List Addr), PTs (X.blk s H scope (compEnvC scope cl C X.env) fp) ifs tt)
    (he : ∀ (s : Shared) (H : Hp) (C : Addr) (cl : List (Str × Addr)) (fp : List Addr), PE (X.blk s H scope (compEnvC scope cl C X.env) fp) elt te) (hy : X.N[i]? = some y := by rfl) (hyl : X.env.scope.names.lookup y = some .local := by rfl)
    (hsw : swapsWith (.ListComp elt [⟨tg, iter, ifs, 0⟩] scope pos) (some (.Name y py)) spos.line X.env = pure true := by exact sw_true rfl rfl rfl (by decide +kernel)) (hs : ∀ x, foldedSetIterable iter X.env x = pure x := by intro _; rfl) :
    PS X (.Assign [.Name y py] (.ListComp elt [⟨tg, iter, ifs, 0⟩] scope pos) spos) (zSet i (zLc wi g tt te (own.map (·.2)))) := ps_setLc hc hN hy hyl hsw hi ok hg ht he hs
theorem tk_no {X : Cx} (h : X.xe = fun _ _ => False := by rfl) : L2N.Takes X (fun _ _ _ _ => False) := fun u s' x => by
  obtain ⟨_, _, _, _, _, _, _, _, _, _, _, _, _, _, _, _, z⟩ := x
  exact z.elim
end
/-- the block's slots -/
theorem wipe_nil {σ : Sl} : wipe σ [] = σ := rfl
theorem wipe_cons {σ : Sl} {v vs} : wipe σ (v :: vs) = (wipe σ vs).set v none := rfl
/-- what an element's value is to do -/
def kEl (D : Addr) (Nx : Hp → Prop) : VK := fun y H4 => ∃ acc, H4 D = some (.lst acc) ∧ acc.length < sizeLine ∧ Nx (upd H4 D (.lst (acc ++ [y])))
def kIt (te : TE) (D : Addr) (Nx : Hp → Prop) (σ : Sl) : Bool → Hp → Prop := fun b H3 => if b = true then te σ H3 (kEl D Nx) else Nx H3
theorem kIt_t {te D Nx} {σ : Sl} {H : Hp} : kIt te D Nx σ true H = te σ H (kEl D Nx) := rfl
theorem kIt_f {te D Nx} {σ : Sl} {H : Hp} : kIt te D Nx σ false H = Nx H := rfl
theorem kIt_split {te D Nx} {σ : Sl} {H : Hp} {k : Bool} (h1 : k = true → te σ H (kEl D Nx)) (h2 : k = false → Nx H) : kIt te D Nx σ k H := by
  cases k
  · exact h2 rfl
  · exact h1 rfl
def kTg (tt : TT) (te : TE) (vs : List Nat) (σ : Sl) (D : Addr) (Nx : Hp → Prop) : Sl → Hp → Prop := fun σ2 H2 => wipe σ2 vs = wipe σ vs ∧ tt σ2 H2 (kIt te D Nx σ2)
theorem kTg_eq {tt te vs σ D Nx} {σ2 : Sl} {H : Hp} : kTg tt te vs σ D Nx σ2 H = (wipe σ2 vs = wipe σ vs ∧ tt σ2 H (kIt te D Nx σ2)) := rfl
theorem kEl_at {H : Hp} {D : Addr} {acc : List V} {y : V} {Nx : Hp → Prop} (h : H D = some (.lst acc)) (hz : acc.length < sizeLine) (q : Nx (upd H D (.lst (acc ++ [y])))) : kEl D Nx y H := ⟨acc, h, hz, q⟩
theorem lcz_l {K : PySem.W.Frag} {a : Addr} {xs : List V} {g : TG} {tt : TT} {te : TE} {vs : List Nat} {σ : Sl} {H1 : Hp} {Q : VK} (Pv : Addr → Nat → Hp → Prop) (h0 : ∀ D, H1 D = none → Pv D 0 (upd H1 D (.lst []))) (hl : ∀ D i H, H1 D = none → i ≤ xs.length → Pv D i H → SqL K H a xs)
    (hs : ∀ D i x H, H1 D = none → xs[i]? = some x → Pv D i H → g x (wipe σ vs) H (kTg tt te vs σ D (Pv D (i + 1)))) (hd : ∀ D H, H1 D = none → Pv D xs.length H → Q (.ref D) H) : kLc g tt te vs σ Q (Itl K a) H1 :=
  fun D hD => lc_list (Pv D) (h0 D hD) (fun i H hi p => hl D i H hD hi p) (fun i x H e p => hs D i x H hD e p) fun H p => hd D H hD p
theorem lcz_t {K : PySem.W.Frag} {a : Addr} {xs : List V} {g : TG} {tt : TT} {te : TE} {vs : List Nat} {σ : Sl} {H1 : Hp} {Q : VK} (Pv : Addr → Nat → Hp → Prop) (h0 : ∀ D, H1 D = none → Pv D 0 (upd H1 D (.lst []))) (hl : ∀ D i H, H1 D = none → i ≤ xs.length → Pv D i H → SqT K H a xs)
    (hs : ∀ D i x H, H1 D = none → xs[i]? = some x → Pv D i H → g x (wipe σ vs) H (kTg tt te vs σ D (Pv D (i + 1)))) (hd : ∀ D H, H1 D = none → Pv D xs.length H → Q (.ref D) H) : kLc g tt te vs σ Q (Itt K a) H1 :=
  fun D hD => lc_tup (Pv D) (h0 D hD) (fun i H hi p => hl D i H hD hi p) (fun i x H e p => hs D i x H hD e p) fun H p => hd D H hD p
theorem lcz_r {lo : Int} {n : Nat} {g : TG} {tt : TT} {te : TE} {vs : List Nat} {σ : Sl} {H1 : Hp} {Q : VK} (Pv : Addr → Nat → Hp → Prop) (h0 : ∀ D, H1 D = none → Pv D 0 (upd H1 D (.lst [])))
    (hs : ∀ D (i : Nat) H, H1 D = none → i < n → Pv D i H → g (.int (lo + i)) (wipe σ vs) H (kTg tt te vs σ D (Pv D (i + 1)))) (hd : ∀ D H, H1 D = none → Pv D n H → Q (.ref D) H) : kLc g tt te vs σ Q (Itr lo n) H1 :=
  fun D hD => lc_range (Pv D) (h0 D hD) (fun i H hi p => hs D i H hD hi p) fun H p => hd D H hD p
/-- each element by a function, the heap as it was but for the new list -/
theorem lcm_l {K : PySem.W.Frag} {a : Addr} {xs ys : List V} {g : TG} {te : TE} {vs : List Nat} {σ : Sl} {H1 : Hp} {Q : VK} (hlen : ys.length = xs.length) (hz : xs.length < sizeLine) (hx : H1 a = some (.lst xs))
    (hs : ∀ D i x y (Nx : Hp → Prop) , H1 D = none → xs[i]? = some x → ys[i]? = some y → (∀ H, H = upd H1 D (.lst (ys.take i)) → kEl D Nx y H) → g x (wipe σ vs) (upd H1 D (.lst (ys.take i))) (kTg zYes te vs σ D Nx)) (hd : ∀ D, H1 D = none → Q (.ref D) (upd H1 D (.lst ys))) : kLc g zYes te vs σ Q (Itl K a) H1 := by
  refine lcz_l (xs := xs) (fun D i H => H = upd H1 D (.lst (ys.take i))) (fun D hD => by rw [List.take_zero]) (fun D i H hD hi e => ?_) (fun D i x H hD hx' e => ?_) fun D H hD e => ?_
  · rw [e]
    exact .inl (.inl (by rw [upd_ne (ne_of_none hx hD)]; exact hx))
  · subst e
    have hi : i < xs.length := (List.getElem?_eq_some_iff.mp hx').1
    have hy : ys[i]? = some (ys[i]'(by omega)) := List.getElem?_eq_getElem (by omega)
    refine hs D i x _ _ hD hx' hy fun H e => ?_
    subst e
    refine kEl_at upd_same (by rw [List.length_take]; omega) ?_
    rw [upd_upd, List.take_succ, hy]
    rfl
  · subst e
    have e : ys.take xs.length = ys := by rw [← hlen]; exact List.take_length
    rw [e]
    exact hd D hD
end Z
namespace Z
open PySem PySem.Spec PyProof.Rows L2 TL
abbrev W0 (H : Hp) (E : XK) : WX := fun c d _ H' => RE H E c d H'
abbrev WN : WX := fun _ _ _ _ => False
theorem WE_eq {W : WX} {σ : Sl} {c d H} : WE W σ c d H = W c d σ H := rfl
theorem W0_eq {H : Hp} {E : XK} {c d H'} {σ : Sl} : W0 H E c d σ H' = RE H E c d H' := rfl
theorem pc_gx {X : Cx} {x : Str} {v : V} {pos : Pos} (h : ∃ u, X.mg x = some u ∧ RelV v u) (hg : Gl X x := by rfl) (hd : (x == ("__debug__" : Str)) = false := by decide) : PE X (.Name x pos) (zC v) := by
  obtain ⟨u, h1, h2⟩ := h
  exact pe_glob hg h1 h2 hd
section
variable {X : Cx}
def rNeg : R1 := fun x H Q => match x with
  | .int i => Q (.int (-i)) H
  | _ => False
theorem rNeg_eq {i H Q} : rNeg (.int i) H Q = Q (.int (-i)) H := rfl
theorem uz_neg : UnR X (unaryOp .USub) rNeg := fun pins s σ H x v Q I r q => by
  refine un_neg pins s σ H x v Q I r ?_
  cases x <;> first | exact False.elim q | exact ⟨_, rfl, q⟩
def rStarts : RM := fun x xs H Q => match x, xs with
  | .str a, [.str b] => Q (.bl (Txt.startswith a b)) H
  | _, _ => False
theorem rStarts_eq {a b H Q} : rStarts (.str a) [.str b] H Q = Q (.bl (Txt.startswith a b)) H := rfl
theorem tz_startswith : MtR X "str.startswith" rStarts := mtR_imp mt_startswith fun x xs H Q q => by
  unfold rStarts at q
  split at q
  · exact ⟨_, _, rfl, rfl, q⟩
  · exact q.elim
def rZfill : RM := fun x xs H Q => match x, xs with
  | .str a, [.int i] => PadOk i = true ∧ Q (.str (Txt.zfill a i)) H
  | _, _ => False
theorem rZfill_eq {a i H Q} : rZfill (.str a) [.int i] H Q = (PadOk i = true ∧ Q (.str (Txt.zfill a i)) H) := rfl
theorem tz_zfill : MtR X "str.zfill" rZfill := mtR_imp mt_zfill fun x xs H Q q => by
  unfold rZfill at q
  split at q
  · exact ⟨_, _, rfl, rfl, q.1, q.2⟩
  · exact q.elim
def rPart : RM := fun x xs H Q => match x, xs with
  | .str a, [.str b] => (b.length == 0) = false ∧ a.length ≤ sizeLine ∧ zNew (.tup [.str (Txt.partition a b).1, .str (Txt.partition a b).2.1, .str (Txt.partition a b).2.2]) H Q
  | _, _ => False
theorem rPart_eq {a b H Q} : rPart (.str a) [.str b] H Q = ((b.length == 0) = false ∧ a.length ≤ sizeLine ∧ zNew (.tup [.str (Txt.partition a b).1, .str (Txt.partition a b).2.1, .str (Txt.partition a b).2.2]) H Q) := rfl
theorem tz_partition : MtR X "str.partition" rPart := mtR_imp mt_partition fun x xs H Q q => by
  unfold rPart at q
  split at q
  · exact ⟨_, _, rfl, rfl, q.1, q.2.1, q.2.2⟩
  · exact q.elim
def rSplit : RM := fun x xs H Q => match x, xs with
  | .str a, [.str b] => (b.length == 0) = false ∧ a.length + 2 ≤ sizeLine ∧ zNew (.lst ((Txt.split a b).map V.str)) H Q
  | _, _ => False
theorem rSplit_eq {a b H Q} : rSplit (.str a) [.str b] H Q = ((b.length == 0) = false ∧ a.length + 2 ≤ sizeLine ∧ zNew (.lst ((Txt.split a b).map V.str)) H Q) := rfl
theorem tz_split : MtR X "str.split" rSplit := mtR_imp mt_split fun x xs H Q q => by
  unfold rSplit at q
  split at q
  · exact ⟨_, _, rfl, rfl, q.1, q.2.1, q.2.2⟩
  · exact q.elim
/-! list -/
def popO (p : Addr) (H : Hp) (Q : VK) : Option HO → Prop
  | some (.lst xs) => ∃ y, xs[xs.length - 1]? = some y ∧ Q y (upd H p (.lst xs.dropLast))
  | _ => False
def rPopZ : RM := fun x vs H Q => match x, vs with
  | .ref p, [] => popO p H Q (H p)
  | _, _ => False
theorem rPopZ_eq {p H Q} : rPopZ (.ref p) [] H Q = popO p H Q (H p) := rfl
theorem popO_eq {p H Q xs} : popO p H Q (some (.lst xs)) = ∃ y, xs[xs.length - 1]? = some y ∧ Q y (upd H p (.lst xs.dropLast)) := rfl
theorem tz_pop : MtR X "list.pop" rPopZ := mtR_imp (show MtR X "list.pop" rPop from mt_pop) fun x xs H Q q => by
  unfold rPopZ at q
  split at q
  · rename_i p
    unfold popO at q
    split at q
    · rename_i ys e
      obtain ⟨y, h1, h2⟩ := q
      exact ⟨p, ys, y, rfl, rfl, e, h1, h2⟩
    · exact q.elim
  · exact q.elim
end
end Z
namespace Z
open PySem PySem.Spec PyProof.Rows L2 TL
/-! ### texts of plain signs -/
def Asc (l : List Nat) : Prop := ∀ c ∈ l, c < 128
theorem Asc.app {a b : List Nat} (ha : Asc a) (hb : Asc b) : Asc (a ++ b) := fun c h => (List.mem_append.mp h).elim (ha c) (hb c)
theorem Asc.of_sub {a b : List Nat} (h : ∀ c ∈ a, c ∈ b) (hb : Asc b) : Asc a := fun c hc => hb c (h c hc)
theorem Asc.take {a : List Nat} (h : Asc a) (n : Nat) : Asc (a.take n) := h.of_sub fun _ => List.mem_of_mem_take
theorem Asc.drop {a : List Nat} (h : Asc a) (n : Nat) : Asc (a.drop n) := h.of_sub fun _ => List.mem_of_mem_drop
theorem Asc.nil : Asc [] := fun _ h => nomatch h
theorem Asc.cons {c : Nat} {l : List Nat} (h : c < 128) (hl : Asc l) : Asc (c :: l) := fun d hd => (List.mem_cons.mp hd).elim (fun e => e ▸ h) (hl d)
theorem asc_dec {l : List Nat} (h : l.all (fun c => decide (c < 128)) = true) : Asc l := fun c hc => of_decide_eq_true (List.all_eq_true.mp h c hc)
theorem Asc.all {l : List Nat} (h : Asc l) : l.all (· < 128) = true := List.all_eq_true.mpr fun c hc => decide_eq_true (h c hc)
def isFig (c : Nat) : Bool := decide (48 ≤ c) && decide (c ≤ 57)
def isUp (c : Nat) : Bool := decide (65 ≤ c) && decide (c ≤ 90)
def isLow (c : Nat) : Bool := decide (97 ≤ c) && decide (c ≤ 122)
def isAln (c : Nat) : Bool := isFig c || isUp c || isLow c
def lowC (c : Nat) : Nat := if isUp c then c + 32 else c
theorem uni_dig : ∀ c : Fin 128, Unicode.isDigit c.1 = isFig c.1 := by decide +kernel
theorem uni_aln : ∀ c : Fin 128, Unicode.isAlnum c.1 = isAln c.1 := by decide +kernel
theorem uni_lo1 : ∀ c : Fin 128, PyProof.Rows.lo1 c.1 = lowC c.1 := by decide +kernel
theorem all_congr' {l : List Nat} {p q : Nat → Bool} (h : ∀ c ∈ l, p c = q c) : l.all p = l.all q := by
  induction l with
  | nil => rfl
  | cons a r ih => rw [List.all_cons, List.all_cons, h a List.mem_cons_self, ih fun c hc => h c (List.mem_cons_of_mem _ hc)]
theorem all_cps (l : List Nat) (p : Nat → Bool) : (mkS l).cps.all p = l.all p := by simp [mkS]
theorem isdigit_eq {l : List Nat} (h : Asc l) : Txt.isdigit (mkS l) = (decide (l.length > 0) && l.all isFig) := by
  unfold Txt.isdigit
  rw [len_mkS, all_cps, all_congr' fun c hc => uni_dig ⟨c, h c hc⟩]
theorem isalnum_eq {l : List Nat} (h : Asc l) : Txt.isalnum (mkS l) = (decide (l.length > 0) && l.all isAln) := by
  unfold Txt.isalnum
  rw [len_mkS, all_cps, all_congr' fun c hc => uni_aln ⟨c, h c hc⟩]
theorem lower_eq {l : List Nat} (h : Asc l) : Txt.lower (mkS l) = mkS (l.map lowC) := by
  have e : Txt.lower (mkS l) = mkS (l.map PyProof.Rows.lo1) := SX.lower_S h.all
  rw [e]
  exact congrArg mkS (List.map_congr_left fun c hc => uni_lo1 ⟨c, h c hc⟩)
/-! ### numbers -/
def valD (l : List Nat) : Nat := NumText.digitsVal l
theorem intText_eq {l : List Nat} (h : l.all isFig = true) (hne : l ≠ []) (hl : l.length ≤ 4300) : intText? (mkS l) = some ((valD l : Nat) : Int) := SX.int_S h hne hl
theorem numS_nat (n : Nat) : numS (n : Int) = numL n := by
  have e : Str.ofString (toString ((n : Nat) : Int)) = mkS (numL n) := SX.num_S n
  rw [num_eq] at e
  exact mkS_inj e
theorem numS_pos {i : Int} (h : 0 ≤ i) : numS i = numL i.toNat := by
  have e : i = ((i.toNat : Nat) : Int) := by omega
  rw [e, numS_nat]
  rfl
theorem valD_numL (n : Nat) : valD (numL n) = n := numL_val n
theorem numL_fig (n : Nat) : (numL n).all isFig = true := List.all_eq_true.mpr fun c hc => by
  have h := numL_digits n c hc
  unfold isFig
  simp only [Bool.and_eq_true, decide_eq_true_eq]
  exact h
theorem numL_asc (n : Nat) : Asc (numL n) := fun c hc => by
  have h := numL_digits n c hc
  have h : 48 ≤ c ∧ c ≤ 57 := h
  omega
theorem log_small {i : Int} (h : i.natAbs < 2 ^ 1000) : i.natAbs.log2 < 1920 := by
  by_cases h0 : i.natAbs = 0
  · rw [h0]
    decide
  · exact Nat.lt_trans ((Nat.log2_lt h0).mpr h) (by decide)
/-! ### find -/
/-- the first place of c in l, from i on -/
def findC (c : Nat) (l : List Nat) (i : Nat) : Option Nat := ((l.drop i).findIdx? (· == c)).map (· + i)
theorem findIdx_first {c : Nat} : ∀ {l : List Nat} {k : Nat}, l[k]? = some c → (∀ v, v < k → l[v]? ≠ some c) → l.findIdx? (· == c) = some k
  | [], _, h, _ => by simp at h
  | a :: l, 0, h, _ => by
    have e : a = c := by simpa using h
    simp [List.findIdx?_cons, e]
  | a :: l, k + 1, h, hn => by
    have ha : a ≠ c := fun e => hn 0 (Nat.succ_pos _) (by simp [e])
    have ih := findIdx_first (c := c) (l := l) (k := k) (by simpa using h) fun v hv => by
      have := hn (v + 1) (by omega)
      simpa using this
    simp [List.findIdx?_cons, ha, ih]
theorem findC_some {c : Nat} {l : List Nat} {i k : Nat} (h1 : i ≤ k) (h2 : l[k]? = some c) (h3 : ∀ v, i ≤ v → v < k → l[v]? ≠ some c) : findC c l i = some k := by
  unfold findC
  rw [findIdx_first (k := k - i) (by rw [List.getElem?_drop, Nat.add_sub_cancel' h1]; exact h2) fun v hv => by
    rw [List.getElem?_drop]
    exact h3 _ (by omega) (by omega)]
  simp
  omega
theorem findC_none {c : Nat} {l : List Nat} {i : Nat} (h3 : ∀ v, i ≤ v → l[v]? ≠ some c) : findC c l i = none := by
  unfold findC
  rw [Option.map_eq_none_iff, List.findIdx?_eq_none_iff]
  intro x hx
  obtain ⟨v, hv⟩ := List.mem_iff_getElem?.mp hx
  rw [List.getElem?_drop] at hv
  have := h3 (i + v) (by omega)
  rw [hv] at this
  simpa using this
theorem findC_spec {c : Nat} {l : List Nat} {i k : Nat} (h : findC c l i = some k) : i ≤ k ∧ k < l.length ∧ l[k]? = some c ∧ ∀ v, i ≤ v → v < k → l[v]? ≠ some c := by
  unfold findC at h
  cases e : (l.drop i).findIdx? (· == c) with
  | none =>
    rw [e] at h
    simp at h
  | some j =>
    rw [e] at h
    have ek : j + i = k := by simpa using h
    obtain ⟨hj, h1, h2⟩ := List.findIdx?_eq_some_iff_getElem.mp e
    have hlen : i + j < l.length := by
      rw [List.length_drop] at hj
      omega
    have e1 : l[k]? = some c := by
      rw [← ek, Nat.add_comm, List.getElem?_eq_getElem hlen]
      have : (l.drop i)[j] = l[i + j] := List.getElem_drop
      rw [← this]
      simpa using h1
    refine ⟨by omega, by omega, e1, fun v hv1 hv2 hv => ?_⟩
    have h3 := h2 (v - i) (by omega)
    have e2 : (l.drop i)[v - i]'(by omega) = l[v]'(by omega) := by
      rw [List.getElem_drop]
      congr 1
      omega
    rw [e2] at h3
    rw [List.getElem?_eq_getElem (by omega)] at hv
    have h5 := Option.some.inj hv
    rw [h5] at h3
    simp at h3
theorem find3_eq {l : List Nat} {c i : Nat} (hi : i ≤ l.length) : Txt.find3 (mkS l) (mkS [c]) (i : Int) = match findC c l i with | some k => (k : Int) | none => -1 := by
  have ef : fromIndex (mkS l).length (i : Int) = i := by
    unfold fromIndex
    rw [if_neg (by omega)]
    omega
  have gd : ∀ v, v < l.length → (mkS l).cps.getD v 0 = l[v]! := fun v hv => by simp [mkS, Array.getD, hv]
  have gv : ∀ v, v < l.length → l[v]? = some ((mkS l).cps.getD v 0) := fun v hv => by simp [mkS, Array.getD, hv]
  rcases StrLaws.find3_spec (mkS l) c (i : Int) with ⟨h1, h2⟩ | ⟨k, h1, h2, h3, h4, h5⟩
  · rw [show Txt.find3 (mkS l) (mkS [c]) (i : Int) = -1 from h1]
    rw [ef] at h2
    rw [findC_none fun v hv hx => ?_]
    have hlt : v < l.length := (List.getElem?_eq_some_iff.mp hx).1
    rw [gv v hlt] at hx
    exact h2 v hv (by rw [len_mkS]; exact hlt) (Option.some.inj hx)
  · rw [show Txt.find3 (mkS l) (mkS [c]) (i : Int) = k from h1]
    rw [ef] at h2 h5
    rw [len_mkS] at h3
    rw [findC_some h2 (by rw [gv k h3, h4]) fun v hv1 hv2 hx => ?_]
    rw [gv v (by omega)] at hx
    exact h5 v hv1 hv2 (Option.some.inj hx)
/-! ### slices -/
theorem sIx_some {n d k : Nat} : HT.sIx n d (some (k : Int)) = min k n := HT.sIx_nat n d k
theorem cutS_nn {l : List Nat} {a b : Nat} (hab : a ≤ b) (hb : b ≤ l.length) : cutS (mkS l) (some (a : Int)) (some (b : Int)) = mkS ((l.drop a).take (b - a)) := by
  unfold cutS
  rw [sIx_some, sIx_some, cps_mkS, len_mkS, Nat.min_eq_left (show a ≤ l.length by omega), Nat.min_eq_left hb]
  rfl
theorem cutS_n_ {l : List Nat} {a : Nat} : cutS (mkS l) (some (a : Int)) none = mkS (l.drop a) := by
  unfold cutS
  rw [sIx_some, HT.sIx_none, cps_mkS, len_mkS]
  show mkS ((l.drop (min a l.length)).take (l.length - min a l.length)) = mkS (l.drop a)
  congr 1
  rw [List.take_of_length_le (by rw [List.length_drop]; omega)]
  by_cases h : a ≤ l.length
  · rw [Nat.min_eq_left h]
  · rw [Nat.min_eq_right (by omega), List.drop_eq_nil_of_le (by omega), List.drop_eq_nil_of_le (by omega)]
theorem cutS__n {l : List Nat} {b : Nat} : cutS (mkS l) none (some (b : Int)) = mkS (l.take b) := by
  unfold cutS
  rw [sIx_some, HT.sIx_none, cps_mkS, len_mkS]
  show mkS ((l.drop 0).take (min b l.length - 0)) = mkS (l.take b)
  rw [List.drop_zero, Nat.sub_zero]
  congr 1
  by_cases h : b ≤ l.length
  · rw [Nat.min_eq_left h]
  · rw [Nat.min_eq_right (by omega), List.take_length, List.take_of_length_le (by omega)]
theorem cutV_n_ {xs : List V} {a : Nat} : cutV xs (some (a : Int)) none = xs.drop a := by
  unfold cutV
  rw [sIx_some, HT.sIx_none]
  rw [List.take_of_length_le (by rw [List.length_drop]; omega)]
  by_cases h : a ≤ xs.length
  · rw [Nat.min_eq_left h]
  · rw [Nat.min_eq_right (by omega), List.drop_eq_nil_of_le (by omega), List.drop_eq_nil_of_le (by omega)]
theorem cutV__n {xs : List V} {b : Nat} : cutV xs none (some (b : Int)) = xs.take b := by
  unfold cutV
  rw [sIx_some, HT.sIx_none, List.drop_zero, Nat.sub_zero]
  by_cases h : b ≤ xs.length
  · rw [Nat.min_eq_left h]
  · rw [Nat.min_eq_right (by omega), List.take_length, List.take_of_length_le (by omega)]
theorem line_of {n : Nat} (h : n ≤ 16000000) : n ≤ sizeLine := by
  rw [sizeLine_eq]
  omega
theorem line_lt {n : Nat} (h : n < 16000000) : n < sizeLine := by
  rw [sizeLine_eq]
  omega
end Z
namespace Z
open PySem PySem.Spec PyProof.Rows L2 TL
/-! ### tests and values without effects -/
def EvT (t : TT) (σ : Sl) (H : Hp) (b : Bool) : Prop := ∀ Q, Q b H → t σ H Q
def EvE (t : TE) (σ : Sl) (H : Hp) (v : V) : Prop := ∀ Q : VK, Q v H → t σ H Q
section
variable {t u : TT} {ta tb : TE} {σ : Sl} {H : Hp} {a b c : Bool} {v w : V}
theorem ev_or (h1 : EvT t σ H a) (h2 : a = false → EvT u σ H b) : EvT (zOr t u) σ H (a || b) := fun Q q => h1 _ (by
  cases a
  · exact h2 rfl Q q
  · exact q)
theorem ev_and (h1 : EvT t σ H a) (h2 : a = true → EvT u σ H b) : EvT (zAnd t u) σ H (a && b) := fun Q q => h1 _ (by
  cases a
  · exact q
  · exact h2 rfl Q q)
theorem ev_not (h1 : EvT t σ H a) : EvT (zNot t) σ H (!a) := fun Q q => h1 _ q
theorem ev_t (h : EvE ta σ H (.bl a)) : EvT (zT ta) σ H a := fun Q q => h _ ⟨a, rfl, q⟩
theorem ev_tr {K : PySem.W.Frag} (h : EvE ta σ H (.bl a)) : EvT (zTr K ta) σ H a := fun Q q => h _ ⟨a, rfl, q⟩
theorem ev_orV (h1 : EvE ta σ H (.bl a)) (h2 : a = false → EvE tb σ H (.bl b)) : EvE (zOrV ta tb) σ H (.bl (a || b)) := fun Q q => h1 _ ⟨a, rfl, by
  cases a
  · exact h2 rfl Q q
  · exact q⟩
theorem ev_andV (h1 : EvE ta σ H (.bl a)) (h2 : a = true → EvE tb σ H (.bl b)) : EvE (zAndV ta tb) σ H (.bl (a && b)) := fun Q q => h1 _ ⟨a, rfl, by
  cases a
  · exact q
  · exact h2 rfl Q q⟩
theorem ev_notV (h1 : EvE ta σ H (.bl a)) : EvE (zNotV ta) σ H (.bl (!a)) := fun Q q => h1 _ ⟨a, rfl, q⟩
theorem if_of {c : TT} {t u : TS} {D : Ends} {σ : Sl} {H : Hp} {b : Bool} (h : EvT c σ H b) (h1 : b = true → t D σ H) (h2 : b = false → u D σ H) : zIf c t u D σ H := h _ (kIf_split h1 h2)
theorem ifE_of {c : TT} {t u : TE} {σ : Sl} {H : Hp} {Q : VK} {b : Bool} (h : EvT c σ H b) (h1 : b = true → t σ H Q) (h2 : b = false → u σ H Q) : zIfE c t u σ H Q := h _ (kIfE_split h1 h2)
theorem wh_of {c : TT} {tb : TS} {D : Ends} {σ : Sl} {H : Hp} {Pv m} {b : Bool} (h : EvT c σ H b) (h1 : b = true → tb (loopE D (low Pv m)) σ H) (h2 : b = false → D.nx σ H) : c σ H (kWh Pv m tb D σ) := h _ (kWh_split h1 h2)
theorem it_of {c : TT} {te : TE} {D : Addr} {Nx : Hp → Prop} {σ : Sl} {H : Hp} {b : Bool} (h : EvT c σ H b) (h1 : b = true → te σ H (kEl D Nx)) (h2 : b = false → Nx H) : c σ H (kIt te D Nx σ) := h _ (kIt_split h1 h2)
end
theorem atI_0 {α : Type} {l : List α} : atI l 0 = l[0]? := atI_lit (n := 0)
theorem cmul_r {i j : Int} (h : -(2 ^ 64) < j ∧ j < 2 ^ 64) : CMul i j = True := eq_true (.inr h)
theorem cdiv_r {i j : Int} (h : 0 < j ∧ j < 1073741824) : CDiv i j = True := eq_true h
theorem dec_and {p q : Prop} [Decidable p] [Decidable q] : (decide p && decide q) = decide (p ∧ q) := by simp
end Z
namespace Z
open PySem PySem.Spec PyProof.Rows L2 TL
theorem log_nat {n : Nat} (h : n ≤ 1000000000000) : ((n : Int)).natAbs.log2 < 1920 := by
  refine log_small ?_
  rw [Int.natAbs_natCast]
  exact Nat.lt_of_le_of_lt h (by decide)
theorem log_int {i : Int} (h : -1000000000000 ≤ i ∧ i ≤ 1000000000000) : i.natAbs.log2 < 1920 := by
  refine log_small (Nat.lt_of_le_of_lt (m := 1000000000000) (by omega) (by decide))
end Z
namespace Z
theorem len_nil' {α : Type} : ([] : List α).length = 0 := rfl
theorem len_cons' {α : Type} {a : α} {l : List α} : (a :: l).length = l.length + 1 := rfl
end Z
namespace Z
open PySem PySem.Spec PyProof.Rows L2 TL
section
variable {t u : TT} {ta tb : TE} {σ : Sl} {H : Hp} {a b c : Bool} {v w : V}
theorem ev_or' (h1 : EvT t σ H a) (h2 : EvT u σ H b) : EvT (zOr t u) σ H (a || b) := ev_or h1 fun _ => h2
theorem ev_and' (h1 : EvT t σ H a) (h2 : EvT u σ H b) : EvT (zAnd t u) σ H (a && b) := ev_and h1 fun _ => h2
theorem ev_orV' (h1 : EvE ta σ H (.bl a)) (h2 : EvE tb σ H (.bl b)) : EvE (zOrV ta tb) σ H (.bl (a || b)) := ev_orV h1 fun _ => h2
theorem ev_andV' (h1 : EvE ta σ H (.bl a)) (h2 : EvE tb σ H (.bl b)) : EvE (zAndV ta tb) σ H (.bl (a && b)) := ev_andV h1 fun _ => h2
end
end Z
namespace Z
open PySem PySem.Spec PyProof.Rows L2 TL
theorem cl_put {H : Hp} {p a : Addr} {o o0 : HO} (hp : H p = some o0) (h0 : plainO o0 = true) (u : HO) : Cl H a u → Cl (upd H p o) a u := by
  induction u with
  | ins C dx fs =>
    intro c
    have c : H dx = some (.own a) := c
    show upd H p o dx = some (.own a)
    rw [upd_ne fun z => by
      rw [z, hp] at c
      cases c
      cases h0]
    exact c
  | frz b u ih => exact fun c => ih c
  | _ => exact fun _ => trivial
theorem wf_put {H : Hp} {p : Addr} {o o0 : HO} (wf : WF H) (hp : H p = some o0) (h0 : plainO o0 = true) (po : plainO o = true) : WF (upd H p o) := fun a u e => by
  by_cases hb : a = p
  · rw [hb, upd_same] at e
    cases e
    exact cl_plain po
  · rw [upd_ne hb] at e
    exact cl_put hp h0 u (wf a u e)
theorem Same.back {H H' : Hp} {p : Addr} (s : Same H H') (h : H' p = none) : H p = none := s.free h
end Z
namespace Z
open PySem PySem.Spec PyProof.Rows L2 TL
section
variable {ta tb tc : TE} {σ : Sl} {H : Hp} {i j k : Int} {x y z : Str} {f f' : Int → Int → Bool} {g g' : List Nat → List Nat → Bool}
theorem ev_chI (ha : EvE ta σ H (.int i)) (hb : EvE tb σ H (.int j)) (hc : EvE tc σ H (.int k)) : EvE (zCh (rOrd f g) (rOrd f' g') ta tb tc) σ H (.bl (f i j && f' j k)) := fun Q q => ha _ (hb _ ⟨f i j, rfl, by
  cases e : f i j
  · rw [e] at q
    exact q
  · rw [e] at q
    exact hc _ q⟩)
theorem ev_chS (ha : EvE ta σ H (.str x)) (hb : EvE tb σ H (.str y)) (hc : EvE tc σ H (.str z)) : EvE (zCh (rOrd f g) (rOrd f' g') ta tb tc) σ H (.bl (g (tl x) (tl y) && g' (tl y) (tl z))) := fun Q q => ha _ (hb _ ⟨g (tl x) (tl y), rfl, by
  cases e : g (tl x) (tl y)
  · rw [e] at q
    exact q
  · rw [e] at q
    exact hc _ q⟩)
end
end Z
namespace Z
open PySem PySem.Spec PyProof.Rows L2 TL
theorem use_andV {ta tb : TE} {σ : Sl} {H : Hp} {Q : VK} {v : V} (h : EvE (zAndV ta tb) σ H v) (q : Q v H) : zAndV ta tb σ H Q := h Q q
theorem use_orV {ta tb : TE} {σ : Sl} {H : Hp} {Q : VK} {v : V} (h : EvE (zOrV ta tb) σ H v) (q : Q v H) : zOrV ta tb σ H Q := h Q q
theorem use_notV {ta : TE} {σ : Sl} {H : Hp} {Q : VK} {v : V} (h : EvE (zNotV ta) σ H v) (q : Q v H) : zNotV ta σ H Q := h Q q
theorem use_ch {r r' : R2} {ta tb tc : TE} {σ : Sl} {H : Hp} {Q : VK} {v : V} (h : EvE (zCh r r' ta tb tc) σ H v) (q : Q v H) : zCh r r' ta tb tc σ H Q := h Q q
end Z
namespace Z
open PySem PySem.Spec PyProof.Rows L2 TL
theorem cut_id {H H' : Hp} (wf : WF H') (nd : NoDT H') (h : ∀ b, H' b = none → H b = none) : Cut H H' H' := ⟨fun _ _ e => e, h, nd, wf⟩
theorem ret_id {H H' : Hp} {Q : VK} {v : V} (wf : WF H') (nd : NoDT H') (h : ∀ b, H' b = none → H b = none) (q : Q v H') : RQ H Q v H' := ⟨H', cut_id wf nd h, q⟩
theorem cl_ins {H : Hp} {p a : Addr} {C dx : Addr} {fs gs : List (Str × V)} (hp : H p = some (.ins C dx fs)) (u : HO) : Cl H a u → Cl (upd H p (.ins C dx gs)) a u := by
  induction u with
  | ins C' dx' fs' =>
    intro c
    have c : H dx' = some (.own a) := c
    show upd H p _ dx' = some (.own a)
    rw [upd_ne fun z => by
      rw [z, hp] at c
      cases c]
    exact c
  | frz b u ih => exact fun c => ih c
  | _ => exact fun _ => trivial
theorem wf_ins {H : Hp} {p C dx : Addr} {fs gs : List (Str × V)} (wf : WF H) (hp : H p = some (.ins C dx fs)) : WF (upd H p (.ins C dx gs)) := fun a u e => by
  by_cases hb : a = p
  · rw [hb, upd_same] at e
    cases e
    have c : H dx = some (.own p) := wf p _ hp
    show upd H p _ dx = some (.own a)
    rw [hb, upd_ne fun z => by
      rw [z, hp] at c
      cases c]
    exact c
  · rw [upd_ne hb] at e
    exact cl_ins hp u (wf a u e)
theorem free_upd {H H' : Hp} {p : Addr} {o : HO} (h : ∀ b, H' b = none → H b = none) : ∀ b, upd H' p o b = none → H b = none := fun b e => h b (upd_none.mp e).2
theorem some_of {H H' : Hp} {p : Addr} {o : HO} (h : ∀ b, H' b = none → H b = none) (e : H p = some o) : H' p ≠ none := fun z => by
  rw [h p z] at e
  cases e
/-- a made instance, before its __init__ -/
def mkH (H : Hp) (C x dx : Addr) : Hp := upd (upd H dx (.own x)) x (.ins C dx [])
theorem mkH_at {H : Hp} {C x dx : Addr} : mkH H C x dx x = some (.ins C dx []) := upd_same
theorem mkH_same {H : Hp} {C x dx : Addr} (hx : H x = none) (hd : H dx = none) : Same H (mkH H C x dx) := same_upd (same_new hd) hx
theorem mkH_noDT {H : Hp} {C x dx : Addr} (nd : NoDT H) : NoDT (mkH H C x dx) := noDT_upd (noDT_upd nd rfl) rfl
theorem mkH_wf {H : Hp} {C x dx : Addr} (wf : WF H) (hx : H x = none) (hd : H dx = none) (hne : dx ≠ x) : WF (mkH H C x dx) := fun a u e => by
  unfold mkH at e ⊢
  by_cases ha : a = x
  · rw [ha, upd_same] at e
    cases e
    show upd _ x _ dx = _
    rw [upd_ne hne, upd_same, ha]
  · rw [upd_ne ha] at e
    by_cases hb : a = dx
    · rw [hb, upd_same] at e
      cases e
      trivial
    · rw [upd_ne hb] at e
      have h1 := cl_upd (o := .own x) hd u (wf a u e)
      exact cl_upd (by rw [upd_ne (Ne.symm hne)]; exact hx) u h1
end Z
namespace Z
open PySem PySem.Spec PyProof.Rows L2 TL
theorem upd_upd' {H : Hp} {a : Addr} {o u : HO} : upd (upd H a o) a u = upd H a u := upd_upd
theorem upd_3 {H : Hp} {p q : Addr} {a b c : HO} (h : p ≠ q) : upd (upd (upd H p a) q b) p c = upd (upd H q b) p c := by
  funext z
  unfold upd
  by_cases h1 : z = p
  · simp [h1]
  · by_cases h2 : z = q
    · simp [h1, h2]
    · simp [h1, h2]
theorem upd_comm {H : Hp} {p q : Addr} {a b : HO} (h : p ≠ q) : upd (upd H p a) q b = upd (upd H q b) p a := by
  funext z
  unfold upd
  by_cases h1 : z = p
  · simp [h1, h]
  · by_cases h2 : z = q
    · subst h2
      simp [h1]
    · simp [h1, h2]
end Z
namespace Z
open PySem PySem.Spec PyProof.Rows L2 TL
/-! ### an exception out of a list comprehension -/
/-- the block's context, an exception may leave -/
abbrev blkE (X : Cx) (s : Shared) (H : Hp) (scope : Scope) (cenv : Env) (fp : List Addr) : Cx :=
  { X with s_0 := s, H_0 := H, env := cenv, outer := X.stack, ex := fp, fn := fun x => scope.names.lookup x == some .cell, pn := [], xe := notedBy (model X.prog X.w) X.A cenv (CompFails (model X.prog X.w) X.A X.xe cenv) }
theorem funFrames_less {h B B2 : Heap} (k : ∀ b, B.get? b = none → B2.get? b = none) : ∀ {l : List Env}, h.FunFrames B l → h.FunFrames B2 l
  | [], _ => trivial
  | _ :: _, ⟨hk, ⟨L', o, hf, hb, ho, hd⟩, hr⟩ => ⟨hk, ⟨L', o, hf, k _ hb, ho, hd⟩, funFrames_less k hr⟩
section
variable {X : Cx} {pins : List (Addr × Obj)} {σ : Sl} {H3 : Hp} {s3 : Shared} {W : WX}
theorem blk_err {fp : List Addr} {scope : Scope} {ce : Env} (hs : X.stack = X.env :: X.outer) (hf : X.env.frame = some X.env.locals) (tk : L2N.Takes X W) (I3 : Inv X pins σ H3 s3)
    (f3 : ∀ b ∈ fp, FpOk X pins H3 b ∧ b < s3.heap.objs.size) (hce : ce.locals = s3.heap.objs.size) (hcf : ce.frame = X.env.frame)
    {pins' : List (Addr × Obj)} {σ8 : Sl} {H8 : Hp} {s9 : Shared} (I8 : Inv (blkE X s3 H3 scope ce fp) pins' σ8 H8 s9) {E : XK} (hE : ∀ c d H', E c d H' → W c d σ H') {u : Value} {s' : Shared}
    (c : L2N.CX X.prog X.w X.stack H8 s9 E u s') : notedBy (model X.prog X.w) X.A ce (CompFails (model X.prog X.w) X.A X.xe ce) u s' := by
  obtain ⟨a, B, H', cls, d, rfl, fl, hok, ub, na, os, ag, hE'⟩ := c
  have hfr : X.A.frames = some (X.env :: X.outer) := by rw [I3.ok.frames, hs]
  obtain ⟨m, hn9, _⟩ := I8.loc
  have hn9 : s9.heap.Ns ce.locals m := hn9
  obtain ⟨oC, es, ep, hoC, hdC, rC⟩ := id hn9
  have hC8 : H8 ce.locals = none := I8.free
  have C' : H' ce.locals = none := ub.free _ _ hoC hC8
  have nC : ce.locals ∉ frs X.stack := fun hm => by
    obtain ⟨_, o, ho, _⟩ := I3.stack.mem hm
    have z := Heap.lt_size ho
    rw [hce] at z
    exact absurd z (Nat.lt_irrefl _)
  have n3 : ∀ b o, s3.heap.get? b = some o → b ≠ ce.locals := fun b o e z => by
    have q := Heap.lt_size e
    rw [z, hce] at q
    exact absurd q (Nat.lt_irrefl _)
  have BC : B.get? ce.locals = some oC := ub.keep _ _ hoC hC8 nC
  have sC : s'.heap.get? ce.locals = some oC := fl.1 _ _ BC
  show wpAny _ X.A (noteFrame (.ref a) ce) _ _ s'
  rw [noteFrame_env _ hcf]
  have fl' : HandSPX.FlyingZ B (X.env :: X.outer) a (L2N.Zn cls d) s'.heap := by rw [← hs]; exact fl
  refine PXN.looks_onZ L2N.Zn.steady hfr hf fl' fun h1 hh1 up1 => ?_
  obtain ⟨b1, b0, ff1, tr1⟩ := hh1
  have ndC : ∀ vs, oC.data ≠ .fields vs := fun vs q => by rw [hdC] at q; cases q
  obtain ⟨slC, h1C⟩ := up1 _ _ sC ndC
  have hn1 : h1.Ns ce.locals m := ⟨_, es, ep, h1C, hdC, rC⟩
  refine ⟨m, hn1, fun h2 m2 hn2 sb2 => ?_⟩
  obtain ⟨B2, g1, g2⟩ := restrict B fun b => decide (b ≠ ce.locals)
  have B2a : ∀ b, b ≠ ce.locals → B2.get? b = B.get? b := fun b hb => g1 b (by simp [hb])
  have B2C : B2.get? ce.locals = none := g2 _ (by simp)
  have B2s : ∀ b o, B2.get? b = some o → B.get? b = some o ∧ b ≠ ce.locals := fun b o e => by
    by_cases hb : b = ce.locals
    · rw [hb, B2C] at e; cases e
    · rw [B2a b hb] at e; exact ⟨e, hb⟩
  have B2n : ∀ b, B.get? b = none → B2.get? b = none := fun b e => by
    by_cases hb : b = ce.locals
    · rw [hb]; exact B2C
    · rw [B2a b hb]; exact e
  have ne_f : ∀ b o vs, h1.get? b = some o → o.data = .fields vs → b ≠ ce.locals := fun b o vs e dd z => by
    rw [z, h1C] at e
    cases e
    exact ndC vs dd
  have st2 : B2.StaysIn h2 := fun b o e => (sb2.2 b (B2s b o e).2).trans (b1 b o (B2s b o e).1)
  have ff2 : h2.FunFrames B2 (X.env :: X.outer) := funFrames_less B2n (Heap.FunFrames.sameBut sb2 hn2 ff1)
  obtain ⟨oe, vs, T, oT, ts, he, hz, hd, hv1, hnT, hTe, hT, hdT, h3⟩ := tr1
  have tr2 : HandSPX.TracedZ h2 B2 a (L2N.Zn cls d) (rawInt X.env.locals) := ⟨oe, vs, T, oT, ts, (sb2.2 a (ne_f a _ _ he hd)).trans he, hz, hd, hv1, B2n _ hnT, hTe, (sb2.2 T (ne_f T _ _ hT hdT)).trans hT, hdT, h3⟩
  unfold PySem.passOn
  refine wpAny_bind (wpAny_field ((sb2.2 a (ne_f a _ _ he hd)).trans he) hd hv1 ?_)
  rw [if_neg (show ¬ ((Value.ref T == Value.none) = true) from by simp)]
  have fin : wpAny (model X.prog X.w) X.A (setFlight (.ref a) ce.frame) (fun _ s4 => wpAny (model X.prog X.w) X.A (throw (.ref a) : Sem Value) (fun _ _ => False) X.xe s4) X.xe { s' with heap := h2 } := by
    rw [hcf, hf]
    refine HandSPX.setFlight_anyZ st2 ff2 tr2 fun h3' k1 k2 k3 k4 => wpAny_throw (tk _ _ ?_)
    obtain ⟨G, e1, e2⟩ := restrict s'.heap fun b => (B2.get? b).isSome || decide (b ∈ frs X.stack)
    have gB : ∀ b o, B2.get? b = some o → G.get? b = some o := fun b o e => by
      rw [e1 b (by simp [e])]
      exact fl.1 b o (B2s b o e).1
    have gF : ∀ b, b ∈ frs X.stack → G.get? b = s'.heap.get? b := fun b hb => e1 b (by simp [hb])
    have og : ∀ b o, G.get? b = some o → s'.heap.get? b = some o ∧ ((B2.get? b).isSome = true ∨ b ∈ frs X.stack) := fun b o e => by
      cases q : ((B2.get? b).isSome || decide (b ∈ frs X.stack)) with
      | false => rw [e2 b q] at e; cases e
      | true =>
        rw [e1 b q] at e
        exact ⟨e, by simpa [Bool.or_eq_true] using q⟩
    have hok2 : HOk X.prog X.w H' B2 := fun b o q => (hok b o q).stay (fun c v hc r => by
      rw [B2a c (fun z => by
        rw [z] at hc
        rcases hc with hc | hc
        · rw [← hc, C'] at q; cases q
        · rw [C'] at hc; cases hc)]
      exact r) (fun _ r => r) fun _ _ r => r
    have u8 := I8.base
    have J : Inv X pins σ H' { s3 with heap := G, gens := s'.gens, drawn := s'.drawn, toks := s'.toks } := by
      refine I3.call (ch := fp) ⟨fun b o e n hb hx => ?_, fun b o e n hb hx => ?_, fun b o e n hx => ?_, fun b o e hx => ?_, fun b xs e => ub.tups b xs (u8.tups b xs e), fun b o x e => ub.frzs b o x (u8.frzs b o x e), fun b ps e => ?_⟩ (hok2.kept gB) ag
        (fun b hb => ⟨(f3 b hb).1.2.2.2.1, (f3 b hb).1.2.1, (f3 b hb).1.2.2.2.2.1, (f3 b hb).1.2.2.2.2.2⟩)
      · have q9 := u8.keep b o e n hb hx
        have qB := ub.keep b o q9 (u8.free b o e n hx) hb
        exact gB b o (by rw [B2a b (n3 b o e)]; exact qB)
      · obtain ⟨sl, q9⟩ := u8.slot b o e n hb hx
        obtain ⟨sl2, q'⟩ := ub.slot b _ q9 hb
        exact ⟨sl2, by rw [gF b hb]; exact q'⟩
      · obtain ⟨o', q9⟩ := u8.there b o e hx
        exact ub.free b o' q9 (u8.free b o e n hx)
      · obtain ⟨o', q9⟩ := u8.there b o e hx
        by_cases hb : b ∈ frs X.stack
        · obtain ⟨sl, q⟩ := ub.slot b o' q9 hb
          exact ⟨_, by rw [gF b hb]; exact q⟩
        · obtain ⟨o2, q⟩ := ub.there b o' q9 hb
          exact ⟨o2, gB b o2 (by rw [B2a b (n3 b o e)]; exact q)⟩
      · obtain ⟨more, q⟩ := u8.tbls b ps e
        obtain ⟨more2, q2⟩ := ub.tbls b _ q
        exact ⟨more ++ more2, by rw [← Array.append_assoc]; exact q2⟩
    refine ⟨a, B2, _, pins, σ, H', cls, d, rfl, J, fun b o e hb => ?_, fun b o e nf => ?_, .inr (.inr ?_), na, ?_, ag, hE _ _ _ hE'⟩
    · obtain ⟨e', h⟩ := og b o e
      rcases h with h | h
      · obtain ⟨o', q⟩ := Option.isSome_iff_exists.mp h
        have z := fl.1 b o' (B2s b o' q).1
        rw [e'] at z; cases z
        exact q
      · exact absurd h hb
    · have hb : b ≠ ce.locals := fun z => by
        obtain ⟨_, h⟩ := og b o e
        rcases h with h | h
        · rw [z, B2C] at h; cases h
        · exact nC (by rw [← z]; exact h)
      obtain ⟨sl, q1⟩ := up1 b o (og b o e).1 nf
      obtain ⟨sl2, q2⟩ := k4 b _ ((sb2.2 b hb).trans q1) nf
      exact ⟨sl2, q2⟩
    · rw [hs]
      exact ⟨k1, B2n _ b0, k2, k3⟩
    · show s'.os = s3.os
      rw [os]
      exact I8.os
  first
    | exact wpAny_bind (wpAny_pure (wpAny_bind fin))
    | exact wpAny_bind fin
end
section
variable {X : Cx} {W : WX}
/-- what the element of a comprehension may use: a call's exception is taken -/
abbrev TkB (X : Cx) (W : WX) : Prop := ∀ σ : Sl, PassesAt (L2N.CX X.prog X.w) X σ (WE W σ)
theorem pe_lcE {elt tg iter : Expr} {ifs : List Expr} {scope : Scope} {own : List (Str × Nat)} {pos : Pos} {wi : TI} {g : TG} {tt : TT} {te : TE} (hst : X.stack = X.env :: X.outer) (hf : X.env.frame = some X.env.locals) (tk : L2N.Takes X W) (hW : ∀ c d σ σ' H, W c d σ H → W c d σ' H)
    (hc : X.calm = true) (hN : X.N.Nodup) (hi : PI X tg iter wi) (ok : BlkOk X.N X.env.scope scope own)
    (hg : ∀ (s : Shared) (H : Hp) (C : Addr) (cl : List (Str × Addr)) (fp : List Addr), PG (blkE X s H scope (compEnvC scope cl C X.env) fp) tg g) (ht : ∀ (s : Shared) (H : Hp) (C : Addr) (cl : List (Str × Addr)) (fp : List Addr), PTs (blkE X s H scope (compEnvC scope cl C X.env) fp) ifs tt)
    (he : ∀ (s : Shared) (H : Hp) (C : Addr) (cl : List (Str × Addr)) (fp : List Addr), TkB (blkE X s H scope (compEnvC scope cl C X.env) fp) W → PE (blkE X s H scope (compEnvC scope cl C X.env) fp) elt te) (hs : ∀ x, foldedSetIterable iter X.env x = pure x := by intro _; rfl) :
    PE X (.ListComp elt [⟨tg, iter, ifs, 0⟩] scope pos) (tLc wi g tt te (own.map (·.2))) := by
  refine ⟨fun pins s σ H Q I h => ?_⟩
  rw [eval_ListComp]
  have hfree : ∀ y ∈ scope.names, y.2 = .free → ∃ c, X.env.cells.lookup y.1 = some c := fun y hy e => by
    rcases ok.free y hy e with k | k
    · exact I.ok.has _ (.inl k)
    · exact I.ok.has _ (.inr k)
  refine comprehension_at (use := none) rfl hs (closure_ok hfree) ok.kind (fun y hy e => by rw [ok.uniq y hy, e])
    (thn (hi.run pins s σ H _ I h) fun xv s1 hx => thn hx fun itv s2 h2 => ?_)
  obtain ⟨it, fp, tn, J, H2, e, I2, T, st2, f2, q⟩ := h2
  subst e
  refine wpAny_newObj_type (newEnv_comp ?_) (by show 0 ≤ sizeLine; decide)
  generalize hD : s2.heap.objs.size = D
  have hDn : H2 D = none := I2.hok.fresh (Nat.le_of_eq hD)
  obtain ⟨Wv, ⟨m0, w0⟩, turn⟩ := q D hDn
  generalize hs3 : ({ s2 with heap := s2.heap.push { cls := .type "list", data := .seq ([] : List Value).toArray } } : Shared) = s3
  have I3 : Inv X pins σ (upd H2 D (.lst [])) s3 := by
    rw [← hs3]
    refine I2.laid (t' := s2.toks) (fun b o e => Heap.get?_push_of_some _ e) (Nat.le_of_eq hD) ⟨Nat.zero_le _, [], 0, .nil, ?_⟩
    rw [← hD]
    exact Heap.get?_push_size _ rfl
  have h3 : s3.heap = s2.heap.push { cls := .type "list", data := .seq ([] : List Value).toArray } := by rw [← hs3]
  have sz : ∀ b ∈ fp, b < s2.heap.objs.size := fun b hb => by
    obtain ⟨o, e, _⟩ := T.obj _ _ st2 b hb
    exact Heap.lt_size e
  have f3 : ∀ b ∈ fp, FpOk X pins (upd H2 D (.lst [])) b ∧ b < s3.heap.objs.size := fun b hb => by
    have hlt := sz b hb
    refine ⟨⟨?_, (f2 b hb).2⟩, by rw [h3, Heap.size_push]; exact Nat.lt_succ_of_lt hlt⟩
    rw [upd_ne (by rw [← hD]; exact Nat.ne_of_lt hlt)]
    exact (f2 b hb).1
  have st3 : tn 0 s3.heap := T.keep _ _ _ st2 fun b _ o e => by rw [h3]; exact Heap.get?_push_of_some _ e
  have I4 := block_start I3 ok hN f3
  have pg := hg s3 (upd H2 D (.lst [])) s3.heap.objs.size (cellsFrom (s3.heap.objs.size + 1) scope.names (cloFrom X.env.cells scope.names [])) fp
  have pt := ht s3 (upd H2 D (.lst [])) s3.heap.objs.size (cellsFrom (s3.heap.objs.size + 1) scope.names (cloFrom X.env.cells scope.names [])) fp
  have pe := he s3 (upd H2 D (.lst [])) s3.heap.objs.size (cellsFrom (s3.heap.objs.size + 1) scope.names (cloFrom X.env.cells scope.names [])) fp
    fun σ8 pins8 H8 s8 u s' I8 cx => blk_err (scope := scope) (ce := compEnvC scope (cellsFrom (s3.heap.objs.size + 1) scope.names (cloFrom X.env.cells scope.names [])) s3.heap.objs.size X.env) hst hf tk I3 f3 rfl rfl I8 (fun c d H' z => hW c d _ _ H' z) cx
  show codeAny _ _ (.compStart (.ListComp elt [⟨tg, iter, ifs, 0⟩] scope pos) 0 (.ref it) (.ref D) (compEnvC scope (cellsFrom (s3.heap.objs.size + 1) scope.names (cloFrom X.env.cells scope.names [])) s3.heap.objs.size X.env)) (compEnds (model X.prog X.w) X.A X.xe none (EP X pins σ Q) (.ref D) (compEnvC scope (cellsFrom (s3.heap.objs.size + 1) scope.names (cloFrom X.env.cells scope.names [])) s3.heap.objs.size X.env)) { s3 with heap := pushCells (s3.heap.push { cls := .type "dict", data := .dict #[] }) scope.names }
  have nfp : ∀ b ∈ fp, (upd H2 D (.lst [])) b = none := fun b hb => (f3 b hb).1.1
  generalize hce : compEnvC scope (cellsFrom (s3.heap.objs.size + 1) scope.names (cloFrom X.env.cells scope.names [])) s3.heap.objs.size X.env = ce at I4 pg pt pe ⊢
  have cL : ce.locals = s3.heap.objs.size := by subst hce; rfl
  generalize hH3 : upd H2 D (.lst []) = H3 at I3 I4 pg pt pe w0 nfp f3
  generalize hs4 : ({ s3 with heap := pushCells (s3.heap.push { cls := .type "dict", data := .dict #[] }) scope.names } : Shared) = s4 at I4 ⊢
  have st4 : tn 0 s4.heap := T.keep _ _ _ st3 fun b _ o e => by rw [← hs4]; exact pushCells_keeps _ _ _ _ (Heap.get?_push_of_some _ e)
  have I4 : Inv (blkE X s3 H3 scope ce fp) [] (wipe σ (own.map (·.2))) H3 s4 := I4.wish _
  have stat : ∀ {σ' : Sl} {H' : Hp} {s' : Shared}, Inv (blkE X s3 H3 scope ce fp) [] σ' H' s' → (∀ b ∈ fp, H' b = none) → ∀ b ∈ fp, FpOk (blkE X s3 H3 scope ce fp) [] H' b := fun {σ' H' s'} I' hn b hb =>
    ⟨hn b hb, (I'.ok.exf b hb).1, I'.ok.exfs b hb, .inl hb, fun x c e => (I'.ok.exf b hb).2 x c e, fun p hp => absurd (show p ∈ ([] : List (Addr × Obj)) ++ [] from hp) (by simp)⟩
  have loop : codeAny (model X.prog X.w) X.A (.compLoop (.ListComp elt [⟨tg, iter, ifs, 0⟩] scope pos) 0 (.ref it) (.ref D) ce) (compEnds (model X.prog X.w) X.A X.xe none (EP X pins σ Q) (.ref D) ce) s4 := by
    refine compLoop_any (fun n s' => ∃ i H', Inv (blkE X s3 H3 scope ce fp) [] (wipe σ (own.map (·.2))) H' s' ∧ tn i s'.heap ∧ (∀ b ∈ fp, H' b = none) ∧ Wv i n H') ?_ m0 ⟨0, H3, I4, st4, nfp, w0⟩
    rintro n s5 ⟨i, H5, I5, st5, n5, w5⟩
    rcases turn i n H5 w5 with ⟨stop, qq⟩ | ⟨go, Nx, hNx, step⟩
    · have td := T.done (blkE X s3 H3 scope ce fp) rfl rfl rfl hc i [] s5 _ H5 (fun _ _ => False) I5 (stat I5 n5) st5 stop
      refine thnF td fun r s6 ⟨hr, I6⟩ => ?_
      subst hr
      have I7 : Inv X pins σ H5 s6 := I3.call' (ch := fp) I6.os I6.base I6.hok I6.bare fun b hb => ⟨(f3 b hb).1.2.2.2.1, (f3 b hb).1.2.1, (f3 b hb).1.2.2.2.2.1, (f3 b hb).1.2.2.2.2.2⟩
      have nC : H5 s3.heap.objs.size = none := by
        have z : H5 ce.locals = none := I6.free
        rw [cL] at z
        exact z
      obtain ⟨m, hn, _⟩ := I6.loc
      have hn : s6.heap.Ns ce.locals m := hn
      obtain ⟨f0, f1, f2, f3, f4, f5⟩ := I3.fpOk (Nat.le_refl _) nC
      refine ⟨m, hn, fun h'' sb => ?_⟩
      rw [cL] at sb
      exact ⟨.ref D, H5, I7.turned (t' := s6.toks) (fun b o hb e => (sb.2 b hb).trans e) f0 f1 f3 f4 f5, rfl, qq⟩
    · have ti := T.item (blkE X s3 H3 scope ce fp) rfl rfl rfl hc i [] s5 _ H5 (fun _ _ => False) I5 (stat I5 n5) st5 go
      refine thnF ti fun r s6 ⟨u, hr, h6⟩ => ?_
      subst hr
      refine thnF h6 fun _ s7 ⟨x, H7, I7, r7, y7, st7, n7⟩ => ?_
      have I7' := I7.pinned (stat I7 n7) (T.obj _ _ st7)
      refine thn (pg.run _ s7 _ H7 x u _ I7' r7 (step x H7 y7)) fun _ s8 ⟨σ8, H8, I8, hw8, q8⟩ => ?_
      refine thn (pt.run _ s8 σ8 H8 _ I8 q8) fun b s9 ⟨H9, I9, q9⟩ => ?_
      have fin : ∀ {s' : Shared} {H' : Hp}, Inv (blkE X s3 H3 scope ce fp) ([] ++ pinsAt fp s7.heap) σ8 H' s' → Nx H' → ∃ m, m < n ∧ ∃ i H', Inv (blkE X s3 H3 scope ce fp) [] (wipe σ (own.map (·.2))) H' s' ∧ tn i s'.heap ∧ (∀ b ∈ fp, H' b = none) ∧ Wv i m H' := fun {s' H'} I' nx => by
        obtain ⟨m', hm, w'⟩ := hNx H' nx
        have pin' : ∀ b ∈ fp, ∀ o, s7.heap.get? b = some o → s'.heap.get? b = some o ∧ H' b = none := fun b hb o e =>
          let z := I'.pin (b, o) (List.mem_append_right _ (List.mem_append_right _ (mem_pinsAt hb e)))
          ⟨z.1, z.2.1⟩
        have hl : (wipe σ (own.map (·.2))).length = σ8.length := by rw [← hw8, wipe_length]
        refine ⟨m', hm, i + 1, H', (I'.unpinned (pins := [])).weak hl (fun j v e => ?_), T.keep _ _ _ st7 fun b hb o e => (pin' b hb o e).1, fun b hb => ?_, w'⟩
        · rw [← hw8] at e
          exact (wipe_some e).1
        · obtain ⟨o, e, _⟩ := T.obj _ _ st7 b hb
          exact (pin' b hb o e).2
      cases b with
      | false =>
        simp only [Bool.false_eq_true, if_false] at q9 ⊢
        exact fin I9 q9
      | true =>
        simp only [if_true] at q9 ⊢
        refine thn (pe.run _ s9 σ8 H9 _ I9 q9) fun z s10 ⟨yv, H10, I10, r10, acc, hD10, hz10, nx⟩ => ?_
        exact app_ok (X := blkE X s3 H3 scope ce fp) I10 hD10 hz10 r10 fun s11 I11 => fin I11 nx
  exact codeAny_compStart_list loop (T.self X.A 0 _ _ _ st4 loop)
theorem pz_lcE {elt tg iter : Expr} {ifs : List Expr} {scope : Scope} {pos : Pos} {wi : TI} {g : TG} {tt : TT} {te : TE} (own : List (Str × Nat)) (hst : X.stack = X.env :: X.outer) (hf : X.env.frame = some X.env.locals) (tk : L2N.Takes X W) (hW : ∀ c d σ σ' H, W c d σ H → W c d σ' H)
    (hc : X.calm = true) (hN : X.N.Nodup) (hi : PI X tg iter wi) (ok : BlkOk X.N X.env.scope scope own)
    (hg : ∀ (s : Shared) (H : Hp) (C : Addr) (cl : List (Str × Addr)) (fp : List Addr), PG (blkE X s H scope (compEnvC scope cl C X.env) fp) tg g) (ht : ∀ (s : Shared) (H : Hp) (C : Addr) (cl : List (Str × Addr)) (fp : List Addr), PTs (blkE X s H scope (compEnvC scope cl C X.env) fp) ifs tt)
    (he : ∀ (s : Shared) (H : Hp) (C : Addr) (cl : List (Str × Addr)) (fp : List Addr), TkB (blkE X s H scope (compEnvC scope cl C X.env) fp) W → PE (blkE X s H scope (compEnvC scope cl C X.env) fp) elt te) (hs : ∀ x, foldedSetIterable iter X.env x = pure x := by intro _; rfl) :
    PE X (.ListComp elt [⟨tg, iter, ifs, 0⟩] scope pos) (zLc wi g tt te (own.map (·.2))) := pe_lcE hst hf tk hW hc hN hi ok hg ht he hs
end
section
variable {X : Cx} {k : Nat} {f : Addr} {ps : List Str} {sp : Sp} {W : WX} {x : Str} {p pos : Pos} {e : Expr} {es : List Expr} {t : TA}
/-- a call in the element -/
theorem cz_callB (F : Kn X.prog X.w X.K X.mg X.base k f ps sp) (hr : Room k X.A) (hm : X.mg x = some (.ref f)) (tk : TkB X W) (ha : PA X (e :: es) t) (hg : Gl X x := by rfl) (hdb : (x == ("__debug__" : Str)) = false := by decide)
    (he : starEach (e :: es) X.env = (false, eval e X.env) :: starEach es X.env := by rfl) (hpl : (backTo pos (starEach es X.env)).any (·.1) = false := by rfl) : PE X (.Call (.Name x p) (e :: es) [] pos) (zCall sp W t) := by
  obtain ⟨⟨fd, a, b⟩, c⟩ := F
  exact pe_callS a hr hg hm c b tk ha hdb he hpl
end
end Z
namespace Z
open PySem PySem.Spec PyProof.Rows L2 TL HotX L2H
section
variable {X : Cx} {pins : List (Addr × Obj)} {σ : Sl} {H : Hp} {s : Shared} {h' : Heap}
/-- all names forgotten, the names' own object as it may be -/
theorem inv_names {m' : Str → Option Value} (I : Inv X pins σ H s) (hs : Heap.SameBut X.env.locals s.heap h') (hn' : h'.Ns X.env.locals m') : Inv X pins (List.replicate X.N.length none) H { s with heap := h' } := by
  have neL : ∀ b o, X.s_0.heap.get? b = some o → b ≠ X.env.locals := fun b o e => Nat.ne_of_lt (Nat.lt_of_lt_of_le (Heap.lt_size e) I.ok.above)
  refine ⟨I.ok, I.os, I.bare, ⟨fun b o e n hb hx => ?_, fun b o e n hb hx => ?_, I.base.free, fun b o e hx => ?_, I.base.tups, I.base.frzs, I.base.tbls⟩, ⟨_, hn', fun j y v' e1 e2 e3 => ?_⟩, fun y c e => ?_, I.free, I.freeC, fun p hp => ?_, fun b ob e => ?_, by simp⟩
  · exact (hs.2 b (neL b o e)).trans (I.base.keep b o e n hb hx)
  · obtain ⟨sl, e1⟩ := I.base.slot b o e n hb hx
    exact ⟨sl, (hs.2 b (neL b o e)).trans e1⟩
  · obtain ⟨o', e1⟩ := I.base.there b o e hx
    exact ⟨o', (hs.2 b (neL b o e)).trans e1⟩
  · rw [List.getElem?_replicate] at e2
    split at e2 <;> cases e2
  · obtain ⟨w', z⟩ := I.cell y c e
    exact ⟨w', z.sameBut hs (I.cne y c e)⟩
  · obtain ⟨e, n, ne, nf, d⟩ := I.pin p hp
    exact ⟨(hs.2 p.1 ne).trans e, n, ne, nf, d⟩
  · refine (I.hok b ob e).stay (fun c w' hc q => (hs.2 c ?_).trans q) (fun _ q => q) fun _ _ q => q
    intro z
    subst z
    rcases hc with hc | hc
    · rw [← hc, I.free] at e; cases e
    · rw [I.free] at hc; cases hc
theorem ld_v {E : Value → Shared → Prop} {i : Nat} {x : Str} {v : V} {pos : Pos} {Q : Value → Shared → Prop} (I : Inv X pins σ H s) (hN : X.N[i]? = some x) (hv : Vis X.env.scope x) (e : σ[i]? = some (some v)) (h : ∀ u, RelV v u → Q u s)
    (hd : (x == ("__debug__" : Str)) = false := by decide) (hcd : (x == ("__classdict__" : Str)) = false := by decide) : wpAny (model X.prog X.w) X.A (eval (.Name x pos) X.env) Q E s := by
  obtain ⟨m, hn, hl⟩ := I.loc
  obtain ⟨u, r, l⟩ := hl i x v hN e hv
  have fin := h u r
  rcases l with ⟨hk, hm⟩ | ⟨hk, c, hc, hcell⟩
  · exact wpAny_Name (wpAny_loadName_local I.ok.kind hk hn hm fin) hd
  · rcases hk with hk | hk
    · exact wpAny_Name (wpAny_loadName_cell I.ok.kind hk hc hcell fin) hd
    · exact wpAny_Name (wpAny_loadName_free I.ok.kind hk hc hcell fin hcd) hd
end
section
variable {X : Cx}
/-- an exception out of an except suite «as n»: the name goes, the exception goes on -/
theorem suite_tail {pins : List (Addr × Obj)} {n : Str} {pos : Pos} {a0 : Addr} {q0 : Addr × Obj} {Wout : WX} {hd : Option Value} (hs : X.stack = X.env :: X.outer) (hf : X.env.frame = some X.env.locals) (hln : X.env.kindOf n = some .local) (tk : L2.Takes X Wout)
    (hW : ∀ c d σ σ' H, Wout c d σ H → Wout c d σ' H) (ok : X.Ok) {u : Value} {s3 : Shared} (x : L2.XE (suiteX X a0 (q0 :: (X.pn ++ pins))) Wout u s3) {E2 E3 : Value → Shared → Prop} :
    wpAny (model X.prog X.w) (X.A.mark hd) (noteFrame u X.env) (fun _ s₃' => wpAny (model X.prog X.w) (X.A.mark hd) (do bindName X.env n .none; unbindBehindTheSuite X.env n pos)
      (fun _ s₄ => wpAny (model X.prog X.w) (X.A.mark hd) (PySem.passOn "try.except-as" u X.env : Sem Flow) (fun _ _ => False) (notedBy (model X.prog X.w) (X.A.mark hd) X.env (cameBackBy (model X.prog X.w) X.A X.env X.xe)) s₄) E2 s₃') E3 s3 := by
  obtain ⟨a, B, sI, pn2, σ, H, cls, d, rfl, I', nb, up, sky, na, os, ag, w⟩ := x
  have I : Inv X pins σ H sI := unsuiteX I' ok
  have hfr : (X.A.mark hd).frames = some (X.env :: X.outer) := by
    show X.A.frames = _
    rw [ok.frames, hs]
  have sky : Sky B (X.env :: X.outer) a (Zc cls d) X.env.locals s3.heap := by rw [← hs]; exact sky
  have hbL : ∀ {h1 : Heap}, h1.FunFrames B (X.env :: X.outer) → B.get? X.env.locals = none := fun {h1} f1 => by
    obtain ⟨_, ⟨L', _, hf', hb', _⟩, _⟩ := f1
    rw [hf] at hf'
    rw [Option.some.inj hf']
    exact hb'
  have hp : (X.env.scope.kind == .class || (X.env.scope.kind == .module && X.env.locals != X.env.globals)) = false := by rw [ok.kind]; rfl
  obtain ⟨m, hnI, _⟩ := id I.loc
  obtain ⟨oL, es, ep, hoL, hdL, rL⟩ := id hnI
  have hmem : X.env.locals ∈ frs X.stack := by
    rw [hs]
    exact List.mem_filterMap.mpr ⟨X.env, List.mem_cons_self, hf⟩
  have go : ∀ h1, HandSPX.HeldZ B (X.env :: X.outer) a (Zc cls d) X.env.locals h1 → s3.heap.UpToSlots h1 → wpAny (model X.prog X.w) (X.A.mark hd) (do bindName X.env n .none; unbindBehindTheSuite X.env n pos)
      (fun _ s₄ => wpAny (model X.prog X.w) (X.A.mark hd) (PySem.passOn "try.except-as" (.ref a) X.env : Sem Flow) (fun _ _ => False) (notedBy (model X.prog X.w) (X.A.mark hd) X.env (cameBackBy (model X.prog X.w) X.A X.env X.xe)) s₄) E2 { s3 with heap := h1 } := fun h1 hh up1 => by
    obtain ⟨b1, b0, f1, t1⟩ := hh
    have ndL : ∀ vs, oL.data ≠ .fields vs := fun vs q => by rw [hdL] at q; cases q
    obtain ⟨sl3, e3⟩ := up _ _ hoL ndL
    obtain ⟨sl1, e1⟩ := up1 _ _ e3 ndL
    have hn1 : h1.Ns X.env.locals m := ⟨_, es, ep, e1, hdL, rL⟩
    refine wpAny_nameGoes hln hn1 hp fun h2 m2 hn2 hs2 => ?_
    have b2 : B.StaysIn h2 := fun b o hb => (hs2.2 b fun q => by rw [q, hbL f1] at hb; cases hb).trans (b1 b o hb)
    have f2 : h2.FunFrames B (X.env :: X.outer) := Heap.FunFrames.sameBut hs2 hn2 f1
    obtain ⟨oe, vs, T, oT, ts, he, hz, hdd, hv1, hnT, hTe, hT, hdT, h3⟩ := t1
    have ne_f : ∀ b o vs, h1.get? b = some o → o.data = .fields vs → b ≠ X.env.locals := fun b o vs e dd z => by
      rw [z, e1] at e
      cases e
      exact ndL vs dd
    have t2 : HandSPX.TracedZ h2 B a (Zc cls d) (rawInt X.env.locals) := ⟨oe, vs, T, oT, ts, (hs2.2 a (ne_f a _ _ he hdd)).trans he, hz, hdd, hv1, hnT, hTe, (hs2.2 T (ne_f T _ _ hT hdT)).trans hT, hdT, h3⟩
    unfold PySem.passOn
    refine wpAny_bind (wpAny_field ((hs2.2 a (ne_f a _ _ he hdd)).trans he) hdd hv1 ?_)
    rw [if_neg (show ¬ ((Value.ref T == Value.none) = true) from by simp)]
    have fin : wpAny (model X.prog X.w) (X.A.mark hd) (setFlight (.ref a) X.env.frame) (fun _ s5 => wpAny (model X.prog X.w) (X.A.mark hd) (throw (.ref a) : Sem Flow) (fun _ _ => False) (notedBy (model X.prog X.w) (X.A.mark hd) X.env (cameBackBy (model X.prog X.w) X.A X.env X.xe)) s5)
        (notedBy (model X.prog X.w) (X.A.mark hd) X.env (cameBackBy (model X.prog X.w) X.A X.env X.xe)) { s3 with heap := h2, toks := s3.toks + 1 } := by
      rw [hf]
      refine HandSPX.setFlight_anyZ b2 f2 t2 fun h3' k1 k2 k3 k4 => wpAny_throw ?_
      show wpAny _ (X.A.mark hd) (noteFrame (.ref a) X.env) _ _ _
      refine HandSPX.againZ hf k3 ?_
      obtain ⟨oe', vs', T', oT', ts', he', hz', hd', h1', r'⟩ := id k3
      show wpAny _ X.A (do
        if (← field (.ref a) 1) == .none then unsupported "frame.own-activation:exception-without-traceback"
        setFlight (.ref a) X.env.frame) _ _ _
      refine wpAny_bind (wpAny_field he' hd' h1' ?_)
      rw [if_neg (show ¬ ((Value.ref T' == Value.none) = true) from by simp)]
      rw [hf]
      refine HandSPX.setFlight_anyZ k1 k2 k3 fun h4 q1 q2 q3 q4 => tk _ _ ?_
      obtain ⟨o2, es2, ep2, ho2, hd2, r2⟩ := id hn2
      have hsI : Heap.SameBut X.env.locals sI.heap (sI.heap.update X.env.locals fun _ => o2) := Heap.SameBut.update ..
      have gI : (sI.heap.update X.env.locals fun _ => o2).get? X.env.locals = some o2 := Heap.get?_update_self _ hoL (by obtain ⟨c2, d2, dt2, sl2⟩ := o2; cases hd2; rfl)
      have J := inv_names I hsI ⟨o2, es2, ep2, gI, hd2, r2⟩
      have upB : ∀ b o, b ≠ X.env.locals → sI.heap.get? b = some o → (∀ vs, o.data ≠ .fields vs) → ∃ sl, h2.get? b = some { o with slots := sl } := fun b o hb e nd => by
        obtain ⟨sl, x3⟩ := up b o e nd
        obtain ⟨sl', x1⟩ := up1 b _ x3 nd
        exact ⟨sl', (hs2.2 b hb).trans x1⟩
      have up2 : ∀ b o, (sI.heap.update X.env.locals fun _ => o2).get? b = some o → (∀ vs, o.data ≠ .fields vs) → ∃ sl, h2.get? b = some { o with slots := sl } := fun b o e nd => by
        by_cases hb : b = X.env.locals
        · rw [hb, gI] at e
          cases e
          exact ⟨o2.slots, by rw [hb]; exact ho2⟩
        · exact upB b o hb ((hsI.2 b hb).symm.trans e) nd
      refine ⟨a, B, _, pins, _, H, cls, d, rfl, J, fun b o e hb => ?_, fun b o e nd => ?_, .inr (.inr ?_), na, os, ag, hW _ _ _ _ _ w⟩
      · have hbL : b ≠ X.env.locals := fun z => hb (by rw [z]; exact hmem)
        exact nb b o ((hsI.2 b hbL).symm.trans e) hb
      · obtain ⟨sl, x2⟩ := up2 b o e nd
        obtain ⟨sl3, x3⟩ := k4 b _ x2 nd
        exact q4 b { o with slots := sl3 } x3 nd
      · rw [hs]
        exact ⟨q1, b0, q2, q3⟩
    first
      | exact wpAny_bind (wpAny_pure (wpAny_bind fin))
      | exact wpAny_bind fin
  rcases sky with ⟨hB, hn, hl, oe, vs, he, hz, hd', h1⟩ | fl | hh
  · exact HandSPX.look_newZ Zc.steady hfr hl hf he hB hn hd' h1 hz go
  · exact HandSPX.looks_onZ Zc.steady hfr hf fl go
  · exact HandSPX.againZ hf hh.2.2.2 (go s3.heap hh (Heap.UpToSlots.refl _))
end
section
variable {X : Cx} {x n : Str} {c : Value} {i : Nat} {body suite : List Stmt} {b₀ : Stmt} {np pos pos' : Pos} {tb : WX → TS} {ts : Addr → Value → Option Addr → TS} {Wout : WX}
/-- the suite's context, an exception may leave -/
abbrev suiteW (X : Cx) (a : Addr) (pn : List (Addr × Obj)) (Ws : WX) : Cx := { X with A := X.A.mark (some (.ref a)), calm := false, pn := pn, xe := L2.XE (suiteX X a pn) Ws }
theorem takes_suiteW {a : Addr} {pn : List (Addr × Obj)} {Ws : WX} : L2.Takes (suiteW X a pn Ws) Ws := fun u s' xx => by
  obtain ⟨a2, B, sI, pn2, σ, H, cls, d, e, I, nb, up, sky, na, os, ag, w⟩ := xx
  exact ⟨a2, B, sI, pn2, σ, H, cls, d, e, Inv.unwish (X := suiteX X a pn) I, nb, up, sky, na, os, ag, w⟩
/-- what a suite knows of the exception that it handles -/
structure Held (X : Cx) (a : Addr) (oe : Obj) (cls : Value) (d : Option Addr) : Prop where
  hd : X.A.handled = some (.ref a)
  pn : (a, oe) ∈ X.pn
  zn : L2N.Zn cls d oe
  vs : ∃ vs, oe.data = .fields vs
  bs : X.base.get? a = none
theorem Held.hot {a : Addr} {oe : Obj} {cls : Value} {d : Option Addr} (h : Held X a oe cls d) : HotC X := by
  obtain ⟨vs, e⟩ := h.vs
  exact ⟨(a, oe), ⟨h.hd, vs, e, h.zn.2.2 vs e⟩, h.pn⟩
theorem ps_try_asX (hs : X.stack = X.env :: X.outer) (hf : X.env.frame = some X.env.locals) (hN : X.N.Nodup) (hi : X.N[i]? = some n) (hln : X.env.kindOf n = some .local) (hc : Names X x c) (tk : L2.Takes X Wout)
    (hW : ∀ c d σ σ' H, Wout c d σ H → Wout c d σ' H)
    (hb : ∀ (W : WX) (pn : List (Addr × Obj)) (xe : Value → Shared → Prop), L2N.Takes (X.tr pn xe) W → PassesOwn (model X.prog X.w) X.A X.env xe → PSs (X.tr pn xe) body (tb W))
    (hsu : ∀ (a : Addr) (oe : Obj) (cls : Value) (d : Option Addr) (pn : List (Addr × Obj)), Held (suiteW X a ((a, oe) :: pn) Wout) a oe cls d → PSs (suiteW X a ((a, oe) :: pn) Wout) (b₀ :: suite) (ts a cls d)) :
    PS X (.Try body [.ExceptHandler (some (.Name x np)) (some n) (b₀ :: suite) pos'] [] [] pos) (fun D σ H => tb (wAs X.K c i ts Wout D) D σ H) := by
  refine ⟨fun pins s σ H D I h => ?_⟩
  have ok := I.ok
  have hfr : X.A.frames = some (X.env :: X.outer) := by rw [ok.frames, hs]
  have hloc : Loc X.env.scope n := .inl hln
  refine wpAny_Try_except ?_
  refine wpAny_mono ((hb (wAs X.K c i ts Wout D) (X.pn ++ pins) (fun e s₁ => wpAny (model X.prog X.w) X.A (noteFrame e X.env) (fun _ s₂ => wpAny (model X.prog X.w) X.A (setFlight e none) (fun _ s₃ =>
    wpAny (model X.prog X.w) X.A (handleBy e X.env [.ExceptHandler (some (.Name x np)) (some n) (b₀ :: suite) pos']) (SP X pins D) X.xe s₃) X.xe s₂) X.xe s₁) (fun u s' xx => ?_) PassesOwn.looking).run [] s σ H D (I.toTry _) h) (fun f s1 hsp => ?_) (fun e s1 he => he)
  · obtain ⟨a, B, sI, pins', σ', H', cls, d, rfl, J', nb, up, sky, na, os, ag, b, hb1, hyes, hno⟩ := xx
    have J : Inv X pins σ' H' sI := J'.ofTry ok
    have sky' : Sky B (X.env :: X.outer) a (L2N.Zn cls d) X.env.locals s'.heap := by rw [← hs]; exact sky
    show wpAny (model X.prog X.w) X.A (noteFrame (.ref a) X.env) _ _ _
    refine L2N.Sky.land L2N.Zn.steady hfr hf sky' fun h3 fl3 up3 => ?_
    have J3 : Inv X pins σ' H' { s' with heap := h3 } := J.landed nb fl3.1 (up.trans up3) os ag
    obtain ⟨oe3, vs3, he3, hz3, hd3⟩ := fl3.there
    have notFr : ∀ {h : Heap} {o : Obj} {vs : Array Value}, h.FunFrames B (X.env :: X.outer) → h.get? a = some o → o.data = .fields vs → a ∉ frs (X.env :: X.outer) := fun {h o vs} ff e dd hm => by
      obtain ⟨_, o', e', hnf⟩ := ff.mem hm
      rw [e] at e'; cases e'
      exact hnf _ dd
    have nfr := notFr fl3.2.2.1 he3 hd3
    have nL : a ≠ X.env.locals := fun z => nfr (List.mem_filterMap.mpr ⟨X.env, List.mem_cons_self, by rw [hf, z]⟩)
    have nF : a ∉ X.fs := fun hm => by
      obtain ⟨e, he, q⟩ := List.mem_filterMap.mp hm
      exact nfr (List.mem_filterMap.mpr ⟨e, List.mem_cons_of_mem _ he, q⟩)
    have nbase : X.base.get? a = none := by
      cases z : X.base.get? a with
      | none => rfl
      | some o =>
        have z2 := nb a o (J.bk a o z) (by rw [hs]; exact nfr)
        rw [fl3.2.1] at z2
        cases z2
    have S3 := J3.suite he3 hd3 na nL nF
    refine wpAny_handleBy_cons (codeAny_handlers_test ?_) (by intro q; cases q)
    have LT : PySem.W.Looks (model X.prog X.w) h3 (typeOf (.ref a)) cls := fun A Q E s k q => wpAny_typeOf_ref (k _ _ he3) (by rw [hz3.1]; exact q)
    have LM := PySem.W.exm_one (M := model X.prog X.w) (J3.kIn) LT hb1
    have test : ∀ {Q : Value → Shared → Prop} {E : Value → Shared → Prop}, Q c { s' with heap := h3 } → wpAny (model X.prog X.w) (X.A.mark (some (.ref a))) (eval (.Name x np) X.env) Q E { s' with heap := h3 } := fun {Q E} q => by
      obtain ⟨hg, hdbg, hm | ⟨hm, hv, hnn⟩⟩ := hc
      · exact ld_glob (X := X.suite a ((a, oe3) :: (X.pn ++ pins))) S3 hg hm q hdbg
      · exact ld_blt (X := X.suite a ((a, oe3) :: (X.pn ++ pins))) S3 hg hm hv q hnn hdbg
    refine test (LM.here ?_)
    cases b with
    | true =>
      refine codeAny_handlers_suite_as ?_
      refine HandSPX.lands_againZ fl3 fun h4 fl4 up4 => ?_
      have J4 : Inv X pins σ' H' { s' with heap := h4 } := J.landed nb fl4.1 ((up.trans up3).trans up4) os ag
      obtain ⟨oe4, vs4, he4, hz4, hd4⟩ := fl4.there
      have S4 := J4.suite he4 hd4 na nL nF
      refine store_ok (X := X.suite a ((a, oe4) :: (X.pn ++ pins))) (v := .ref a) S4 hN hi hloc rfl (fun s5 S5 => ?_) (.inr hln)
      have S5' : Inv (suiteW X a ((a, oe4) :: (X.pn ++ pins)) Wout) [] (σ'.set i (some (.ref a))) H' s5 := (suiteX_of S5).wish _
      refine wpAny_mono ((hsu a oe4 cls d (X.pn ++ pins) ⟨rfl, List.mem_cons_self, hz4, ⟨_, hd4⟩, nbase⟩).run [] s5 _ H' _ S5' (hyes rfl a na)) (fun f s6 hsp => ?_) (fun e6 s6 z => suite_tail hs hf hln tk hW ok z)
      have end_ : ∀ {σ6 : Sl} {H6 : Hp} {Q : Shared → Prop}, Inv (suiteW X a ((a, oe4) :: (X.pn ++ pins)) Wout) [] σ6 H6 s6 → (∀ s7, Inv X pins (σ6.set i none) H6 s7 → Q s7) →
          wpAny (model X.prog X.w) X.A (do bindName X.env n .none; unbindBehindTheSuite X.env n pos') (fun _ s7 => Q s7) X.xe s6 := fun {σ6 H6 Q} S6 hq => gone_ok (unsuiteX (Inv.unwish (X := suiteX X a ((a, oe4) :: (X.pn ++ pins))) S6) ok) hN hi hln hq
      cases f with
      | next =>
        obtain ⟨σ6, H6, S6, q6⟩ := hsp
        exact end_ S6 fun s7 J7 => ⟨_, _, J7, q6⟩
      | brk =>
        obtain ⟨σ6, H6, S6, q6⟩ := hsp
        exact end_ S6 fun s7 J7 => ⟨_, _, J7, q6⟩
      | cont =>
        obtain ⟨σ6, H6, S6, q6⟩ := hsp
        exact end_ S6 fun s7 J7 => ⟨_, _, J7, q6⟩
      | ret u =>
        obtain ⟨v6, σ6, H6, S6, r6, q6⟩ := hsp
        exact end_ S6 fun s7 J7 => ⟨_, _, _, J7, r6, q6⟩
    | false =>
      show wpAny _ X.A (handleBy (.ref a) X.env []) _ _ _
      refine wpAny_handleBy_nil ?_
      obtain ⟨k1, k2, k3, oe, vs, T, oT, ts', he, hz, hd, h1, hr⟩ := id fl3
      unfold PySem.passOn
      refine wpAny_bind (wpAny_field he hd h1 ?_)
      rw [if_neg (show ¬ ((Value.ref T == Value.none) = true) from by simp)]
      have fin : wpAny (model X.prog X.w) X.A (setFlight (.ref a) X.env.frame) (fun _ s4 => wpAny (model X.prog X.w) X.A (throw (.ref a) : Sem Flow) (SP X pins D) X.xe s4) X.xe { s' with heap := h3 } := by
        rw [hf]
        refine HandSPX.setFlight_upZ fl3 fun h4 hh4 up4 => wpAny_throw (tk _ _ ?_)
        exact ⟨a, B, sI, pins, σ', H', cls, d, rfl, J, nb, (up.trans up3).trans up4, .inr (.inr (by rw [hs]; exact ⟨hh4.1, hh4.2.1, hh4.2.2.1, tracedZ_imp (fun o z => z.zc) hh4.2.2.2⟩)), na, os, ag, hno rfl⟩
      first
        | exact wpAny_bind (wpAny_pure (wpAny_bind fin))
        | exact wpAny_bind fin
  · cases f with
    | next =>
      obtain ⟨σ', H', J', q⟩ := hsp
      exact wpAny_execs_nil ⟨σ', H', J'.ofTry ok, q⟩
    | brk =>
      obtain ⟨σ', H', J', q⟩ := hsp
      exact ⟨σ', H', J'.ofTry ok, q⟩
    | cont =>
      obtain ⟨σ', H', J', q⟩ := hsp
      exact ⟨σ', H', J'.ofTry ok, q⟩
    | ret u =>
      obtain ⟨v, σ', H', J', r, q⟩ := hsp
      exact ⟨v, σ', H', J'.ofTry ok, r, q⟩
end
end Z
namespace Z
open PySem PySem.Spec PyProof.Rows L2 TL HotX L2H
section
variable {X : Cx}
/-- X('m'), as an exception whose record has its six fields -/
theorem pmk_own5 {C : Addr} {bmB : List Value} {B newId initId : String} {x m : Str} {j : Nat} {p p2 pos : Pos} (F : ExcBaseFacts B newId initId bmB) (q : PySem.W.excIn X.K C bmB newId = true) (gC : X.mg x = some (.ref C)) (kC : PySem.W.keepIn X.K (.ref C) = true) (r : Raises X (.ref C)) (hg : Gl X x)
    (hdb : (x == ("__debug__" : Str)) = false := by decide) : PMk5 X (.Call (.Name x p) [.Constant (.str m) j p2] [] pos) (fun _ H Q => Q (.ref C) none H) := by
  intro pins s σ H Q I h
  refine wpAny_Call_Name_kw (ld_glob I hg gC ?_ hdb)
  have ha : PA X [.Constant (.str m) j p2] (tCons (tC (.str m)) tNil) := pa_cons pe_str pa_nil
  refine PySem.W.callWith_K (h₀ := X.base) I.ok.mod.kin kC (thn (ha.run pos pins s σ H (fun vs H1 => vs = [V.str m] ∧ H = H1) I ⟨rfl, rfl⟩) fun us s1 hh => ?_)
  obtain ⟨vs, H1, I1, r1, ev, eH⟩ := hh
  subst ev
  rw [← eH] at I1
  refine ⟨I1.kIn, ?_⟩
  cases r1 with
  | cons ru rn =>
    rename_i u us'
    cases rn
    show wpAny _ _ (call (.ref C) [u]) _ _ _
    obtain ⟨bm, N, nm, qn, bs, hdct, sn, sub, ab, col, dd, k0, k1, k2, k3, k5, mN, hC, hN, hni, T⟩ := exc_obj I1.kIn q
    refine wpAny_call_exc_subT F T hC hN hni (fun h' e hm => ?_) (by show 1 ≤ sizeLine; rw [sizeLine_eq]; omega)
    exact mk_of5 I1 hm r h (I1.hok.gone hm.new)
/-- raise X('m') from e, e the exception that is handled -/
theorem ps_raiseF {W : WX} {ex : Expr} {t : Sl → Hp → XK → Prop} {n : Str} {i : Nat} {a : Addr} {oe : Obj} {cls : Value} {d : Option Addr} {np pos : Pos} (hh : Held X a oe cls d) (hr : Raises X cls) (hN : X.N[i]? = some n) (hv : Vis X.env.scope n) (tk : L2.Takes X W) (he : PMk5 X ex t)
    (hd : (n == ("__debug__" : Str)) = false := by decide) (hcd : (n == ("__classdict__" : Str)) = false := by decide) :
    PS X (.Raise (some ex) (some (.Name n np)) pos) (fun _ σ H => σ[i]? = some (some (.ref a)) ∧ t σ H fun c2 d2 H' => W c2 d2 σ H') := by
  refine ⟨fun pins s σ H D I h => ?_⟩
  obtain ⟨hσ, h⟩ := h
  refine wpAny_Raise_from ?_
  refine wpAny_mono (he pins s σ H _ I h) (fun u s1 hu => ?_) fun _ _ x => x
  obtain ⟨⟨a2, o2, vs, sI, H', c2, d2, rfl, J, k, hne, ha, hz, hdd, h1, na, os, ag, r, q⟩, h5⟩ := hu
  have hi : 4 < vs.size := h5 a2 o2 vs rfl ha hdd
  obtain ⟨g1, g2, g3, g4, g5⟩ := s1
  have J1 : Inv X pins σ H' ⟨g1, g2, g3, g4, g5⟩ := J.call' (ch := []) os (Un.kept k) (J.hok.kept k) ag (fun _ z => nomatch z)
  refine ld_v J1 hN hv hσ (fun u2 r2 => ?_) hd hcd
  have r2 : u2 = .ref a := r2
  subst r2
  have P1 := J.pin (a, oe) (List.mem_append_left _ hh.pn)
  have P2 : g1.get? a = some oe := k _ _ P1.1
  obtain ⟨vb, hvb⟩ := hh.vs
  have KS := J.kIn
  have hRA : RaiseAt (model X.prog X.w) sI.heap g1 a2 o2 vs c2 := ⟨ha, hz.1, hdd, k, hne, (r (model X.prog X.w) sI.heap KS).1, (r (model X.prog X.w) sI.heap KS).2⟩
  have hRB : RaiseAt (model X.prog X.w) X.base g1 a oe vb cls := ⟨P2, hh.zn.1, hvb, fun b o e => k b o (J.bk b o e), hh.bs, (hr (model X.prog X.w) X.base J.ok.mod.kin).1, (hr (model X.prog X.w) X.base J.ok.mod.kin).2⟩
  have naa : a ≠ a2 := fun z => by
    rw [z, hne] at P1
    cases P1.1
  refine raise_from_tree (s := ⟨g1, g2, g3, g4, g5⟩) hRA hi (.inr ⟨a, oe, vb, cls, rfl, X.base, hRB⟩) ?_
  have H2 := (hRA.set 3 (Value.ref a)).set 4 (.bool true)
  have h1' : ((vs.setIfInBounds 3 (Value.ref a)).setIfInBounds 4 (Value.bool true))[1]? = some Value.none := set_other (by decide) (set_other (by decide) h1)
  refine setFlight_fresh H2.at_ H2.dat h1' ?_
  have kb : ∀ b o, sI.heap.get? b = some o → ((g1.update a2 (Obj.mapFields (·.setIfInBounds 3 (Value.ref a)))).update a2 (Obj.mapFields (·.setIfInBounds 4 (.bool true)))).get? b = some o := H2.keep
  have hot : HotAt X.A a ((g1.update a2 (Obj.mapFields (·.setIfInBounds 3 (Value.ref a)))).update a2 (Obj.mapFields (·.setIfInBounds 4 (.bool true)))) := ⟨hh.hd, oe, vb, kb _ _ P1.1, hvb, hh.zn.2.2 vb hvb⟩
  have h2s : 2 < ((vs.setIfInBounds 3 (Value.ref a)).setIfInBounds 4 (Value.bool true)).size := by rw [set_size, set_size]; omega
  refine raiseNew_hot (s := { heap := _, gens := g2, drawn := g3, toks := g4, os := g5 }) hot naa H2.at_ H2.dat h2s ?_
  have H3 := H2.set 2 (Value.ref a)
  have h12 : (((vs.setIfInBounds 3 (Value.ref a)).setIfInBounds 4 (Value.bool true)).setIfInBounds 2 (Value.ref a))[1]? = some Value.none := set_other (by decide) h1'
  exact tk _ _ (L2.XE.new J H3.keep hne H3.at_ ⟨H3.cl, by rw [HandSPX.dict_mapFields, HandSPX.dict_mapFields, HandSPX.dict_mapFields]; exact hz.2.1⟩ H3.dat h12 na os ag q)
/-- raise X('m') from n -/
def zRaiseF (C D : Addr) (i : Nat) (a : Addr) (cls : Value) (W : WX) : TS := fun _ σ H => cls = .ref D ∧ σ[i]? = some (some (.ref a)) ∧ W (.ref C) none σ H
theorem zRaiseF_eq {C D i a cls W Dn} {σ : Sl} {H : Hp} : zRaiseF C D i a cls W Dn σ H = (cls = .ref D ∧ σ[i]? = some (some (.ref a)) ∧ W (.ref C) none σ H) := rfl
theorem sz_raiseF {W : WX} {x m y n : Str} (i : Nat) {a : Addr} {oe : Obj} {cls : Value} {d : Option Addr} {j : Nat} {p p2 np pos pos' : Pos} (hh : Held X a oe cls d) (tk : L2.Takes X W) (E : Ex X.K X.mg x) (E2 : Ex X.K X.mg y) (hN : X.N[i]? = some n := by rfl) (hv : Vis X.env.scope n := by exact Or.inl rfl) (hg : Gl X x := by rfl) (hdb : (x == ("__debug__" : Str)) = false := by decide)
    (hd : (n == ("__debug__" : Str)) = false := by decide) (hcd : (n == ("__classdict__" : Str)) = false := by decide) :
    PS X (.Raise (some (.Call (.Name x p) [.Constant (.str m) j p2] [] pos)) (some (.Name n np)) pos') (zRaiseF (He.ga X.K x) (He.ga X.K y) i a cls W) := by
  refine ⟨fun pins s σ H D I h => ?_⟩
  obtain ⟨rfl, h1, h2⟩ := h
  exact (ps_raiseF hh (raises_own E2.sb E2.ty) hN hv tk (pmk_own5 PySem.F.excBase_ValueError E.ex E.m E.kp (raises_own E.sb E.ty) hg hdb) hd hcd).run pins s σ H D I ⟨h1, h2⟩
/-- try .. except Y as n: suite, the suite may raise -/
theorem sz_tryAsX {x n : Str} {c : Value} {body suite : List Stmt} {b₀ : Stmt} {np pos pos' : Pos} {tb : WX → TS} {ts : Suite} {W : WX} (i : Nat) (hs : X.stack = X.env :: X.outer) (hf : X.env.frame = some X.env.locals) (hN : X.N.Nodup) (hc : Names X x c) (tk : L2.Takes X W) (hW : ∀ c d σ σ' H, W c d σ H → W c d σ' H)
    (hb : ∀ (W : WX) (pn : List (Addr × Obj)) (xe : Value → Shared → Prop), L2N.Takes (X.tr pn xe) W → PassesOwn (model X.prog X.w) X.A X.env xe → PSs (X.tr pn xe) body (tb W))
    (hsu : ∀ (a : Addr) (oe : Obj) (cls : Value) (d : Option Addr) (pn : List (Addr × Obj)), Held (suiteW X a ((a, oe) :: pn) W) a oe cls d → PSs (suiteW X a ((a, oe) :: pn) W) (b₀ :: suite) (ts a cls d))
    (hi : X.N[i]? = some n := by rfl) (hln : X.env.kindOf n = some .local := by rfl) :
    PS X (.Try body [.ExceptHandler (some (.Name x np)) (some n) (b₀ :: suite) pos'] [] [] pos) (zTryAs X.K c i tb ts W) := ps_try_asX hs hf hN hi hln hc tk hW hb hsu
theorem takes_N {W : WX} (tk : L2.Takes X W) : L2N.Takes X W := fun u s' xx => by
  obtain ⟨a, B, sI, pins, σ, H, cls, d, e, I, nb, up, sky, na, os, ag, w⟩ := xx
  refine tk u s' ⟨a, B, sI, pins, σ, H, cls, d, e, I, nb, up, ?_, na, os, ag, w⟩
  rcases sky with ⟨h1, h2, h3, oe, vs, he, hz, r⟩ | fl | hh
  · exact .inl ⟨h1, h2, h3, oe, vs, he, hz.zc, r⟩
  · exact .inr (.inl (flyingZ_imp (fun o z => z.zc) fl))
  · exact .inr (.inr ⟨hh.1, hh.2.1, hh.2.2.1, tracedZ_imp (fun o z => z.zc) hh.2.2.2⟩)
end
end Z
namespace Z
open PySem PySem.Spec PyProof.Rows L2 TL HotX L2H
/-! ### (a, b, ..) = a list -/
def lstO (n : Nat) (t : TGs) (σ : Sl) (H : Hp) (Q : Sl → Hp → Prop) : Option HO → Prop
  | some (.lst xs) => xs.length = n ∧ t xs σ H Q
  | _ => False
theorem lstO_eq {n t H Q xs} {σ : Sl} : lstO n t σ H Q (some (.lst xs)) = (xs.length = n ∧ t xs σ H Q) := rfl
def zgL (n : Nat) (t : TGs) : TG := fun v σ H Q => match v with
  | .ref a => lstO n t σ H Q (H a)
  | _ => False
theorem zgL_eq {n t} {a : Addr} {H Q} {σ : Sl} : zgL n t (.ref a) σ H Q = lstO n t σ H Q (H a) := rfl
theorem gz_lst {X : Cx} {es : List Expr} {k : Nat} {t : TGs} {n : Nat} {pos : Pos} (hc : X.calm = true) (h : PGs X es t) (hn : (assignEach es X.env).length = n := by rfl) (hst : (assignEach es X.env).findIdx? (·.1) = none := by rfl) : PG X (.Tuple es k pos) (zgL n t) := by
  refine ⟨fun pins s σ H v u Q I r hw => ?_⟩
  refine (pg_unl hc h hn hst).run pins s σ H v u Q I r ?_
  cases v <;> first | exact False.elim hw | skip
  rename_i a
  have hw : lstO n t σ H Q (H a) := hw
  unfold lstO at hw
  split at hw
  · rename_i xs e
    exact ⟨a, xs, rfl, .inl (.inl e), hw.1, hw.2⟩
  · exact hw.elim
/-! ### isinstance of the exception that a suite holds -/
def IsE (D a : Addr) (cls : Value) (d : Option Addr) (i : Nat) (σ : Sl) : Prop := cls = .ref D ∧ d = none ∧ σ[i]? = some (some (.ref a))
def zIsE (D a : Addr) (cls : Value) (d : Option Addr) (i : Nat) (b : Bool) : TE := fun σ H Q => IsE D a cls d i σ ∧ Q (.bl b) H
theorem zIsE_eq {D a cls d i b} {σ : Sl} {H : Hp} {Q : VK} : zIsE D a cls d i b σ H Q = (IsE D a cls d i σ ∧ Q (.bl b) H) := rfl
/-- isinstance(e, (C1, C2, ..)) -/
def zIsET (D a : Addr) (cls : Value) (d : Option Addr) (i : Nat) (cs : List V) (b : Bool) : TE := fun σ H Q => IsE D a cls d i σ ∧ ∀ p, H p = none → Q (.bl b) (upd H p (.tup cs))
theorem zIsET_eq {D a cls d i cs b} {σ : Sl} {H : Hp} {Q : VK} : zIsET D a cls d i cs b σ H Q = (IsE D a cls d i σ ∧ ∀ p, H p = none → Q (.bl b) (upd H p (.tup cs))) := rfl
section
variable {X : Cx} {a D : Addr} {oe : Obj} {pn : List (Addr × Obj)}
theorem call_isET {cs : List V} {us : List Value} {b : Bool} (C : ExcC X.K D) (hz : Zc (.ref D) none oe) (hf : ∃ vs, oe.data = .fields vs) (k : Paired ClsV cs us) (e : PySem.W.kitAny X.K (.ref D) us = some b) :
    CallR (X.suite a ((a, oe) :: pn)) (.builtin "isinstance") (fun xs H Q => ∃ tp, xs = [.ref a, .ref tp] ∧ H tp = some (.tup cs) ∧ Q (.bl b) H) := by
  intro pins s σ H xs ws Q I r h
  obtain ⟨tp, rfl, hT, q⟩ := h
  cases r with
  | cons rx rr =>
    cases rr with
    | cons rt rr =>
      cases rr
      cases rx
      cases rt
      obtain ⟨hget, _⟩ := I.pin (a, oe) (List.mem_append.mpr (.inl List.mem_cons_self))
      obtain ⟨vs, hv⟩ := hf
      have J : PySem.W.InstAt s.heap a oe D none := by
        obtain ⟨oc, od, oda, osl⟩ := oe
        obtain ⟨h1, h2⟩ := hz
        dsimp only at h1 h2 hv
        subst h1 h2 hv
        exact ⟨hget, rfl, rfl, trivial⟩
      obtain ⟨_, its, rv, o, h1, h2, n, h3⟩ := (show ObjOk X.prog X.w H s.heap tp (.tup cs) from I.hok tp _ hT)
      have e3 := ClsV.all k rv
      subst e3
      obtain ⟨oc, od, dt, sl⟩ := o
      simp only at h2 h3
      subst h2 h3
      exact PySem.W.kia_tup (PySem.W.handS_kitx_exc C.hg C.hk C.hs C.hd C.ha C.hn C.ht C.hm) I.kIn J h1 e (fun z => nomatch z) fun tk => ⟨.bl b, H, I.kept (t' := tk) fun _ _ z => z, rfl, q⟩
variable {cls : Value} {d : Option Addr} {n x : Str} {np p pos cp : Pos} {C : Addr} {b : Bool} {ce : Expr} {ces : List Expr} {cs : List V} {us : List Value} {kk : Nat}
local macro_rules | `(tactic| simp only [seval]) => `(tactic| simp only [zV_eq, vcase_some, ix_zero, ix_succ, set_zero, set_succ, start_cons, start_none, start_nil, zC_eq, zB_eq, kB1_eq, kB2_eq, zU_eq, kU_eq, kCh1_eq, kCh2_eq, kCh3_t, kCh3_f, zT_eq, kT_bl, zTr_eq, kTr_bl, kTr_non, kTr_int, kTr_str, zAnd_eq, zOr_eq, zNot_eq, kNot_eq, kAnd_t, kAnd_f, kOr_t, kOr_f, zNotV_eq, kAndV_t, kAndV_f, kOrV_t, kOrV_f, kNotV_bl, kIfE_t, kIfE_f, zNil_eq, zCons_eq, kArg1_eq, kArg2_eq, zTup_eq, zLst_eq, kTup_eq, kLst_eq, thnE_nx, thnE_rt, thnE_bk, thnE_ct, mk_nx, mk_rt, mk_bk, mk_ct, zSeq_eq, zNext_eq, zBreak_eq, zCont_eq, zSet_eq, kSet_eq, zDrop_eq, kDrop_eq, zRet_eq, zRetN_eq, kIf_t, kIf_f, tl_mkS, cps_mkS, len_mkS, app_mkS, mkS_eq, V_int, V_str, V_bl, V_ref, dec_T, dec_F, not_t, not_f, and_T, T_and, upd_at, rAdd_int, rAdd_str, rAdd_ref, catO_lst, rI2_int, rI20_int, rMul_int, rMul_str, rMul_ref, repO_lst, rOrd_int, rOrd_str, rEqG_int, rEqG_str, rEqG_bl, rEqG_nn, rEqG_ni, rEqG_in, rEqG_ns, rEqG_sn, rEqG_is, rEqG_si, bne_ff, bne_tt, zCall_eq, kCall_eq, zMeth_eq, kMe2_eq, kMe1_eq, insO_eq, zMake_eq, fldO_eq, kFld_eq, zFld_eq, sfO_eq, kSf2_eq, kSf1_eq, zSetF_eq, chQ_eq, rIxZ_str, rIxZ_ref, ixO_lst, ixO_tup, ixO_frz, atI_zero, atI_1, atI_2, atI_3, atI_4, atI_5, atI_6, atI_7, atI_8, atI_9, atI_10, atI_11, atI_12, atI_13, atI_14, atI_15, zSl_eq, kS1_eq, kS2_eq, kS3_eq, zNo_eq, kPt_eq, zPt_eq, rSlZ_str, rSlZ_ref, slO_lst, slO_frz, slO_tup, V_lit, V_mk1, zCB_eq, kCB_eq, rLenZ_str, rLenZ_ref, lenO_lst, lenO_tup, lenO_dK, lenO_frz, intQ_eq, rIntZ_int, rIntZ_bl, rIntZ_str, rStrZ_int, rStrZ_str, rOrdZ_str, rMax2_eq, rMin2_eq, rListZ_eq, lofO_lst, lofO_tup, isNon_non, isNon_int, isNon_str, isNon_bl, isNon_ref, rIs_eq, rIsN_eq, rInZ_str, rNotInZ_str, rInZ_ref, rNotInZ_ref, zMs_eq, kMs_eq, kM2_eq, isL_lst, zMl_eq, kMl_eq, rS0_eq, rS1_eq, rFind1, rFind2, rJoin_eq, rAppZ_eq, appO_eq, zFm_eq, kFm_str, kFm_int, kJq_eq, tJs_nil, tJs_cons, kJs_str, zJs_eq, zRaise_eq, zTryAs_eq, zTry_eq, gName_eq, gNil_eq, kG_eq, gCons_eq, tupO_eq, zgT_eq, kAsg_eq, zAsg_eq, kAug2_eq, kAug1_eq, augC_eq, zAug_eq, rAddI_int, rAddI_str, loopE_nx, loopE_ct, loopE_bk, loopE_rt, zFor_eq, ziL_eq, kiL_eq, ziT_eq, kiT_eq, ziS_eq, kiS_eq, ziR1_eq, kiR1_eq, ziR2_eq, kiR2_eq, kWh_f, zLc_eq, zYes_eq, wipe_nil, wipe_cons, kIt_t, kIt_f, kTg_eq, WE_eq, W0_eq, rNeg_eq, rStarts_eq, rZfill_eq, rPart_eq, rSplit_eq, rPopZ_eq, popO_eq, atI_0, cmul_r, cdiv_r, dec_and, len_nil', len_cons', upd_upd', zRaiseF_eq, lstO_eq, zgL_eq, zIsE_eq, zIsET_eq, Int.isPosValue, Int.reduceAbs, Int.reduceAdd, Int.reduceBEq, Int.reduceBNe, Int.reduceBdiv, Int.reduceBmod, Int.reduceDiv, Int.reduceDvd, Int.reduceEq, Int.reduceFDiv, Int.reduceFMod, Int.reduceGE, Int.reduceGT, Int.reduceLE, Int.reduceLT, Int.reduceMod, Int.reduceMul, Int.reduceNe, Int.reduceNeg, Int.reduceNegSucc, Int.reduceOfNat, Int.reducePow, Int.reduceSub, Int.reduceTDiv, Int.reduceTMod, Int.reduceToNat, List.reduceReplicate, Nat.isValue, Nat.reduceAdd, Nat.reduceAnd, Nat.reduceBEq, Nat.reduceBNe, Nat.reduceBeqDiff, Nat.reduceBneDiff, Nat.reduceDiv, Nat.reduceDvd, Nat.reduceEqDiff, Nat.reduceGT, Nat.reduceGcd, Nat.reduceLT, Nat.reduceLeDiff, Nat.reduceMod, Nat.reduceMul, Nat.reduceOr, Nat.reducePow, Nat.reduceShiftLeft, Nat.reduceShiftRight, Nat.reduceSub, Nat.reduceSubDiff, Nat.reduceSucc, Nat.reduceXor, dreduceDIte, dreduceIte, reduceCtorEq, reduceDIte, reduceIte])
local macro_rules | `(tactic| simp only [seval, $xs,*]) => `(tactic| simp only [zV_eq, vcase_some, ix_zero, ix_succ, set_zero, set_succ, start_cons, start_none, start_nil, zC_eq, zB_eq, kB1_eq, kB2_eq, zU_eq, kU_eq, kCh1_eq, kCh2_eq, kCh3_t, kCh3_f, zT_eq, kT_bl, zTr_eq, kTr_bl, kTr_non, kTr_int, kTr_str, zAnd_eq, zOr_eq, zNot_eq, kNot_eq, kAnd_t, kAnd_f, kOr_t, kOr_f, zNotV_eq, kAndV_t, kAndV_f, kOrV_t, kOrV_f, kNotV_bl, kIfE_t, kIfE_f, zNil_eq, zCons_eq, kArg1_eq, kArg2_eq, zTup_eq, zLst_eq, kTup_eq, kLst_eq, thnE_nx, thnE_rt, thnE_bk, thnE_ct, mk_nx, mk_rt, mk_bk, mk_ct, zSeq_eq, zNext_eq, zBreak_eq, zCont_eq, zSet_eq, kSet_eq, zDrop_eq, kDrop_eq, zRet_eq, zRetN_eq, kIf_t, kIf_f, tl_mkS, cps_mkS, len_mkS, app_mkS, mkS_eq, V_int, V_str, V_bl, V_ref, dec_T, dec_F, not_t, not_f, and_T, T_and, upd_at, rAdd_int, rAdd_str, rAdd_ref, catO_lst, rI2_int, rI20_int, rMul_int, rMul_str, rMul_ref, repO_lst, rOrd_int, rOrd_str, rEqG_int, rEqG_str, rEqG_bl, rEqG_nn, rEqG_ni, rEqG_in, rEqG_ns, rEqG_sn, rEqG_is, rEqG_si, bne_ff, bne_tt, zCall_eq, kCall_eq, zMeth_eq, kMe2_eq, kMe1_eq, insO_eq, zMake_eq, fldO_eq, kFld_eq, zFld_eq, sfO_eq, kSf2_eq, kSf1_eq, zSetF_eq, chQ_eq, rIxZ_str, rIxZ_ref, ixO_lst, ixO_tup, ixO_frz, atI_zero, atI_1, atI_2, atI_3, atI_4, atI_5, atI_6, atI_7, atI_8, atI_9, atI_10, atI_11, atI_12, atI_13, atI_14, atI_15, zSl_eq, kS1_eq, kS2_eq, kS3_eq, zNo_eq, kPt_eq, zPt_eq, rSlZ_str, rSlZ_ref, slO_lst, slO_frz, slO_tup, V_lit, V_mk1, zCB_eq, kCB_eq, rLenZ_str, rLenZ_ref, lenO_lst, lenO_tup, lenO_dK, lenO_frz, intQ_eq, rIntZ_int, rIntZ_bl, rIntZ_str, rStrZ_int, rStrZ_str, rOrdZ_str, rMax2_eq, rMin2_eq, rListZ_eq, lofO_lst, lofO_tup, isNon_non, isNon_int, isNon_str, isNon_bl, isNon_ref, rIs_eq, rIsN_eq, rInZ_str, rNotInZ_str, rInZ_ref, rNotInZ_ref, zMs_eq, kMs_eq, kM2_eq, isL_lst, zMl_eq, kMl_eq, rS0_eq, rS1_eq, rFind1, rFind2, rJoin_eq, rAppZ_eq, appO_eq, zFm_eq, kFm_str, kFm_int, kJq_eq, tJs_nil, tJs_cons, kJs_str, zJs_eq, zRaise_eq, zTryAs_eq, zTry_eq, gName_eq, gNil_eq, kG_eq, gCons_eq, tupO_eq, zgT_eq, kAsg_eq, zAsg_eq, kAug2_eq, kAug1_eq, augC_eq, zAug_eq, rAddI_int, rAddI_str, loopE_nx, loopE_ct, loopE_bk, loopE_rt, zFor_eq, ziL_eq, kiL_eq, ziT_eq, kiT_eq, ziS_eq, kiS_eq, ziR1_eq, kiR1_eq, ziR2_eq, kiR2_eq, kWh_f, zLc_eq, zYes_eq, wipe_nil, wipe_cons, kIt_t, kIt_f, kTg_eq, WE_eq, W0_eq, rNeg_eq, rStarts_eq, rZfill_eq, rPart_eq, rSplit_eq, rPopZ_eq, popO_eq, atI_0, cmul_r, cdiv_r, dec_and, len_nil', len_cons', upd_upd', zRaiseF_eq, lstO_eq, zgL_eq, zIsE_eq, zIsET_eq, Int.isPosValue, Int.reduceAbs, Int.reduceAdd, Int.reduceBEq, Int.reduceBNe, Int.reduceBdiv, Int.reduceBmod, Int.reduceDiv, Int.reduceDvd, Int.reduceEq, Int.reduceFDiv, Int.reduceFMod, Int.reduceGE, Int.reduceGT, Int.reduceLE, Int.reduceLT, Int.reduceMod, Int.reduceMul, Int.reduceNe, Int.reduceNeg, Int.reduceNegSucc, Int.reduceOfNat, Int.reducePow, Int.reduceSub, Int.reduceTDiv, Int.reduceTMod, Int.reduceToNat, List.reduceReplicate, Nat.isValue, Nat.reduceAdd, Nat.reduceAnd, Nat.reduceBEq, Nat.reduceBNe, Nat.reduceBeqDiff, Nat.reduceBneDiff, Nat.reduceDiv, Nat.reduceDvd, Nat.reduceEqDiff, Nat.reduceGT, Nat.reduceGcd, Nat.reduceLT, Nat.reduceLeDiff, Nat.reduceMod, Nat.reduceMul, Nat.reduceOr, Nat.reducePow, Nat.reduceShiftLeft, Nat.reduceShiftRight, Nat.reduceSub, Nat.reduceSubDiff, Nat.reduceSucc, Nat.reduceXor, dreduceDIte, dreduceIte, reduceCtorEq, reduceDIte, reduceIte, $xs,*])
theorem pz_isE (i : Nat) (C : ExcC X.K D) (hz : Zc cls d oe) (hf : ∃ vs, oe.data = .fields vs) (hm : X.mg "isinstance" = none) (hcv : X.mg x = some (.ref C')) (hk : PySem.W.kitOne X.K (.ref D) (.ref C') = some b)
    (hN : X.N[i]? = some n := by rfl) (hv : Vis X.env.scope n := by exact Or.inl rfl) (hgi : Gl X "isinstance" := by rfl) (hgx : Gl X x := by rfl) (hd : (n == ("__debug__" : Str)) = false := by decide) (hcd : (n == ("__classdict__" : Str)) = false := by decide) (hdx : (x == ("__debug__" : Str)) = false := by decide) :
    PE (X.suite a ((a, oe) :: pn)) (.Call (.Name "isinstance" p) [.Name n np, .Name x cp] [] pos) (zIsE D a cls d i b) := by
  refine ⟨fun pins s σ H Q I h => ?_⟩
  obtain ⟨⟨rfl, rfl, hσ⟩, q⟩ := h
  refine (cz_b (X := X.suite a ((a, oe) :: pn)) (x := "isinstance") (call_isE (X := X) (pn := pn) C hz hf) hm (by decide +kernel) (az_cons (pv (X := X.suite a ((a, oe) :: pn)) i hN hv hd hcd) (az_cons (pc_gx (X := X.suite a ((a, oe) :: pn)) (v := .ref C') ⟨_, hcv, rfl⟩ hgx hdx) az_nil)) hgi (by decide) (by decide) rfl rfl).run pins s σ H Q I ?_
  simp only [seval, hσ]
  exact ⟨.ref C', .ref C', b, rfl, fun u r => r, hk, q⟩
theorem pz_isET (i : Nat) {ta : TA} (C : ExcC X.K D) (hz : Zc cls d oe) (hf : ∃ vs, oe.data = .fields vs) (hm : X.mg "isinstance" = none) (ha : PA (X.suite a ((a, oe) :: pn)) ces ta) (hta : ∀ σ H Q, ta σ H Q = Q cs H) (hlen : cs.length ≤ sizeLine) (k : Paired ClsV cs us) (hk : PySem.W.kitAny X.K (.ref D) us = some b)
    (hN : X.N[i]? = some n := by rfl) (hv : Vis X.env.scope n := by exact Or.inl rfl) (hgi : Gl X "isinstance" := by rfl) (hd : (n == ("__debug__" : Str)) = false := by decide) (hcd : (n == ("__classdict__" : Str)) = false := by decide) :
    PE (X.suite a ((a, oe) :: pn)) (.Call (.Name "isinstance" p) [.Name n np, .Tuple ces kk cp] [] pos) (zIsET D a cls d i cs b) := by
  refine ⟨fun pins s σ H Q I h => ?_⟩
  obtain ⟨⟨rfl, rfl, hσ⟩, q⟩ := h
  refine (cz_b (X := X.suite a ((a, oe) :: pn)) (x := "isinstance") (call_isET (X := X) (pn := pn) C hz hf k hk) hm (by decide +kernel) (az_cons (pv (X := X.suite a ((a, oe) :: pn)) i hN hv hd hcd) (az_cons (pz_tup ha) az_nil)) hgi (by decide) (by decide) rfl rfl).run pins s σ H Q I ?_
  simp only [seval, hσ, hta]
  first
    | exact ⟨hlen, fun p hp => ⟨p, rfl, upd_same, q p hp⟩⟩
    | exact fun p hp => ⟨p, rfl, upd_same, q p hp⟩
end
end Z
namespace Z
open PySem PySem.Spec PyProof.Rows L2 TL HotX L2H
/-! ### where an exception is handled: loops over a list, over a text -/
section
variable {prog : Program} {w : World} {A : Around} {E : Value → Shared → Prop} {s : Shared}
theorem pyNext_list_end_hot {it l x1 : Addr} {i : Nat} {items} {Q : Option Value → Shared → Prop} (hot : HotAt A x1 s.heap) (hne : x1 ≠ it)
    (hit : s.heap.IsListIter it l i) (hl : s.heap.IsList l items) (hx : items[i]? = none)
    (hQ : ∀ h', Heap.ExtBut it s.heap h' → Q none { s with heap := h' }) : wpAny (model prog w) A (pyNext (.ref it)) Q E s := by
  obtain ⟨o, ho, hc, hd⟩ := id hit
  obtain ⟨ol, hol, _, nl, hdl⟩ := hl
  obtain ⟨hh, o1, vs1, h1, d1, c1⟩ := hot
  unfold pyNext
  refine wpAny_bind (wpAny_attempt (wpAny_callSpecial?_slot (name := Str.ofString "__next__") hit.typeIs slot_listiter_next
    (wpAny_call_entry slot_listiter_next hit.typeIs entry_listiter_next ?_ (args_listiter_next _))))
  show wpAny _ _ (field (.ref it) 0 >>= _) _ _ s
  refine wpAny_bind (wpAny_field ho hd (x := .ref l) rfl ?_)
  show wpAny _ _ (if (Value.ref l == Value.none) = true then _ else _) _ _ s
  rw [if_neg (show ¬ ((Value.ref l == Value.none) = true) from Bool.false_ne_true)]
  show wpAny _ _ (field (.ref it) 1 >>= _) _ _ s
  refine wpAny_bind (wpAny_field ho hd (x := .int i 0) rfl ?_)
  show wpAny _ _ (seqItems? (.ref l) >>= _) _ _ s
  refine wpAny_bind (wpAny_seqItems hol hdl ?_)
  simp only [Int.toNat_natCast, hx]
  refine wpAny_bind (wpAny_rule (wpAny_bind (wpAny_setField ho hd (by simp) ?_)))
  show wpAny _ _ (newExc (.type "StopIteration") [] >>= _) _ _ _
  refine wpAny_bind ?_
  simp only [newExc, newTuple]
  refine wpAny_bind (wpAny_newObj_type ?_ (by size_fits))
  refine wpAny_bind (m := firstArgMember _ _) (wpAny_of_eq (a := Value.none) (by first | rfl | (simp only [firstArgMember]; rfl)) ?_)
  refine wpAny_newObj_type ?_ (by size_fits)
  have h1' : (s.heap.update it (Obj.mapFields (·.setIfInBounds 0 .none))).get? x1 = some o1 := (Heap.get?_update_other _ _ (Ne.symm hne)).trans h1
  refine raiseNew_hot ⟨hh, o1, vs1, Heap.get?_push_of_some _ (Heap.get?_push_of_some _ h1'), d1, c1⟩ (Nat.ne_of_lt (Heap.lt_size (Heap.get?_push_of_some _ h1'))) (Heap.get?_push_size _ rfl) rfl (by first | (simp; done) | (simp; omega) | (simp only [Array.size_append]; simp; omega)) ?_
  refine wpAny_bind (wpAny_isInstance (T := "StopIteration") (b := true) ⟨_, Heap.get?_update_self _ (Heap.get?_push_size _ rfl) rfl, rfl⟩ isSubtype_stop ?_)
  refine wpAny_pure (hQ _ fun b o hb e => ?_)
  have e' : (s.heap.update it (Obj.mapFields (·.setIfInBounds 0 .none))).get? b = some o := (Heap.get?_update_other _ _ (Ne.symm hb)).trans e
  rw [Heap.get?_update_other _ _ (Nat.ne_of_gt (Heap.lt_size (Heap.get?_push_of_some _ e')))]
  exact Heap.get?_push_of_some _ (Heap.get?_push_of_some _ e')
theorem pyNext_ascii_end_hot {it x1 : Addr} {x : Str} {t : Tok} {i : Nat} {Q : Option Value → Shared → Prop} (hot : HotAt A x1 s.heap) (hne : x1 ≠ it)
    (hit : s.heap.IsStrIter it "str_ascii_iterator" x t i) (hx : x.cps[i]? = none)
    (hQ : ∀ h', Heap.ExtBut it s.heap h' → Q none { s with heap := h' }) : wpAny (model prog w) A (pyNext (.ref it)) Q E s := by
  obtain ⟨o, ho, hc, hd⟩ := id hit
  obtain ⟨hh, o1, vs1, h1, d1, c1⟩ := hot
  unfold pyNext
  refine wpAny_bind (wpAny_attempt (wpAny_callSpecial?_slot (name := Str.ofString "__next__") hit.typeIs F.slot_str_ascii_iterator_next
    (wpAny_call_entry F.slot_str_ascii_iterator_next hit.typeIs F.entry_str_ascii_iterator_next ?_ (F.args_str_ascii_iterator_next_1 _))))
  show wpAny _ _ (field (.ref it) 0 >>= _) _ _ s
  refine wpAny_bind (wpAny_field ho hd (x := .str x t) rfl ?_)
  show wpAny _ _ (field (.ref it) 1 >>= _) _ _ s
  refine wpAny_bind (wpAny_field ho hd (x := .int i 0) rfl ?_)
  simp only [Int.toNat_natCast, hx]
  refine wpAny_bind (wpAny_rule (wpAny_bind (wpAny_setField ho hd (by simp) (wpAny_bind (wpAny_letGo ?_)))))
  show wpAny _ _ (newExc (.type "StopIteration") [] >>= _) _ _ _
  refine wpAny_bind ?_
  simp only [newExc, newTuple]
  refine wpAny_bind (wpAny_newObj_type ?_ (by size_fits))
  refine wpAny_bind (m := firstArgMember _ _) (wpAny_of_eq (a := Value.none) (by first | rfl | (simp only [firstArgMember]; rfl)) ?_)
  refine wpAny_newObj_type ?_ (by size_fits)
  have h1' : (s.heap.update it (Obj.mapFields (·.setIfInBounds 0 .none))).get? x1 = some o1 := (Heap.get?_update_other _ _ (Ne.symm hne)).trans h1
  refine raiseNew_hot ⟨hh, o1, vs1, Heap.get?_push_of_some _ (Heap.get?_push_of_some _ h1'), d1, c1⟩ (Nat.ne_of_lt (Heap.lt_size (Heap.get?_push_of_some _ h1'))) (Heap.get?_push_size _ rfl) rfl (by first | (simp; done) | (simp; omega) | (simp only [Array.size_append]; simp; omega)) ?_
  refine wpAny_bind (wpAny_isInstance (T := "StopIteration") (b := true) ⟨_, Heap.get?_update_self _ (Heap.get?_push_size _ rfl) rfl, rfl⟩ isSubtype_stop ?_)
  refine wpAny_pure (hQ _ fun b o hb e => ?_)
  have e' : (s.heap.update it (Obj.mapFields (·.setIfInBounds 0 .none))).get? b = some o := (Heap.get?_update_other _ _ (Ne.symm hb)).trans e
  rw [Heap.get?_update_other _ _ (Nat.ne_of_gt (Heap.lt_size (Heap.get?_push_of_some _ e')))]
  exact Heap.get?_push_of_some _ (Heap.get?_push_of_some _ e')
theorem pyNext_wide_end_hot {it x1 : Addr} {x : Str} {t : Tok} {i : Nat} {Q : Option Value → Shared → Prop} (hot : HotAt A x1 s.heap) (hne : x1 ≠ it)
    (hit : s.heap.IsStrIter it "str_iterator" x t i) (hx : x.cps[i]? = none)
    (hQ : ∀ h', Heap.ExtBut it s.heap h' → Q none { s with heap := h' }) : wpAny (model prog w) A (pyNext (.ref it)) Q E s := by
  obtain ⟨o, ho, hc, hd⟩ := id hit
  obtain ⟨hh, o1, vs1, h1, d1, c1⟩ := hot
  unfold pyNext
  refine wpAny_bind (wpAny_attempt (wpAny_callSpecial?_slot (name := Str.ofString "__next__") hit.typeIs F.slot_str_iterator_next
    (wpAny_call_entry F.slot_str_iterator_next hit.typeIs F.entry_str_iterator_next ?_ (F.args_str_iterator_next_1 _))))
  show wpAny _ _ (field (.ref it) 0 >>= _) _ _ s
  refine wpAny_bind (wpAny_field ho hd (x := .str x t) rfl ?_)
  show wpAny _ _ (field (.ref it) 1 >>= _) _ _ s
  refine wpAny_bind (wpAny_field ho hd (x := .int i 0) rfl ?_)
  simp only [Int.toNat_natCast, hx]
  refine wpAny_bind (wpAny_rule (wpAny_bind (wpAny_setField ho hd (by simp) (wpAny_bind (wpAny_letGo ?_)))))
  show wpAny _ _ (newExc (.type "StopIteration") [] >>= _) _ _ _
  refine wpAny_bind ?_
  simp only [newExc, newTuple]
  refine wpAny_bind (wpAny_newObj_type ?_ (by size_fits))
  refine wpAny_bind (m := firstArgMember _ _) (wpAny_of_eq (a := Value.none) (by first | rfl | (simp only [firstArgMember]; rfl)) ?_)
  refine wpAny_newObj_type ?_ (by size_fits)
  have h1' : (s.heap.update it (Obj.mapFields (·.setIfInBounds 0 .none))).get? x1 = some o1 := (Heap.get?_update_other _ _ (Ne.symm hne)).trans h1
  refine raiseNew_hot ⟨hh, o1, vs1, Heap.get?_push_of_some _ (Heap.get?_push_of_some _ h1'), d1, c1⟩ (Nat.ne_of_lt (Heap.lt_size (Heap.get?_push_of_some _ h1'))) (Heap.get?_push_size _ rfl) rfl (by first | (simp; done) | (simp; omega) | (simp only [Array.size_append]; simp; omega)) ?_
  refine wpAny_bind (wpAny_isInstance (T := "StopIteration") (b := true) ⟨_, Heap.get?_update_self _ (Heap.get?_push_size _ rfl) rfl, rfl⟩ isSubtype_stop ?_)
  refine wpAny_pure (hQ _ fun b o hb e => ?_)
  have e' : (s.heap.update it (Obj.mapFields (·.setIfInBounds 0 .none))).get? b = some o := (Heap.get?_update_other _ _ (Ne.symm hb)).trans e
  rw [Heap.get?_update_other _ _ (Nat.ne_of_gt (Heap.lt_size (Heap.get?_push_of_some _ e')))]
  exact Heap.get?_push_of_some _ (Heap.get?_push_of_some _ e')
end
theorem turn_listH {P : Program} {w : World} {K : PySem.W.Frag} {tg : Expr} (a it : Addr) : TurnH P w K tg (Itl K a) [it] it (fun i h => h.IsListIter it a i) where
  mem := by simp
  obj := (turn_list (P := P) (w := w) (K := K) (tg := tg) a it).obj
  keep := (turn_list (P := P) (w := w) (K := K) (tg := tg) a it).keep
  item := by
    intro X hP hw hK hc i pins s σ H E I hf st hg
    subst hP hw hK
    obtain ⟨xs, x, hq, hx⟩ := hg
    obtain ⟨its, rv, p, hz⟩ := I.list hq
    obtain ⟨u, hu, ru⟩ := rv.get hx
    obtain ⟨f0, f1, f2, f3, f4, f5⟩ := hf it (by simp)
    refine wpAny_pyNext_list_item st p.isList (x := u) (by simpa using hu) fun h' st' sb => ?_
    have I1 : Inv X pins σ H { s with heap := h' } := I.turned (t' := s.toks) (fun b o hb e => (sb.2 b hb).trans e) f0 f1 f3 f4 f5
    obtain ⟨o, e, c, d⟩ := id st'
    exact ⟨u, rfl, go_of (s := { s with heap := h' }) e c d (by decide) ⟨x, H, I1, ru, ⟨rfl, fun ys hy => by rw [I.list_inj hy hq]; exact hx⟩, st', fun b hb => (hf b hb).1⟩⟩
  done := by
    intro X hP hw hK hc i pins s σ H E I hf st hg
    subst hP hw hK
    obtain ⟨xs, hq, hx⟩ := hg
    obtain ⟨its, rv, p, hz⟩ := I.list hq
    obtain ⟨f0, f1, f2, f3, f4, f5⟩ := hf it (by simp)
    have hl := rv.length
    obtain ⟨q, ⟨hh, v1, e1, c1⟩, hq⟩ := hc
    have P1 := (I.pin q (List.mem_append_left _ hq)).1
    exact pyNext_list_end_hot (x1 := q.1) ⟨hh, q.2, v1, P1, e1, c1⟩ (f5 q (List.mem_append_left _ hq)) st p.isList (by simp; omega) fun h' eb => ⟨rfl, I.turned (t' := s.toks) (fun b o hb e => eb b o hb e) f0 f1 f3 f4 f5⟩
  self := fun _ _ _ _ _ st h => wpAny_pyIter_listiter st h
theorem turn_strH {P : Program} {w : World} {K : PySem.W.Frag} {tg : Expr} (it : Addr) (x : Str) (t : Tok) (ty : String) (hty : ty = "str_ascii_iterator" ∨ ty = "str_iterator") :
    TurnH P w K tg (Its x) [it] it (fun i h => h.IsStrIter it ty x t i) where
  mem := by simp
  obj := (turn_str (P := P) (w := w) (K := K) (tg := tg) it x t ty hty).obj
  keep := (turn_str (P := P) (w := w) (K := K) (tg := tg) it x t ty hty).keep
  item := by
    intro X hP hw hK hc i pins s σ H E I hf st hg
    subst hP hw hK
    obtain ⟨f0, f1, f2, f3, f4, f5⟩ := hf it (by simp)
    have hno : ["enumerate", "zip", "dict_itemiterator", "dict_reverseitemiterator", "odict_iterator", "itertools.zip_longest", "itertools.pairwise"].contains ty = false := by
      rcases hty with e | e
      · rw [e]; decide
      · rw [e]; decide
    have hg : i < x.cps.size := hg
    have hcx : x.cps[i]? = some x.cps[i] := Array.getElem?_eq_getElem hg
    have fin : ∀ h', h'.IsStrIter it ty x t (i + 1) → Heap.SameBut it s.heap h' → ∃ u, some (Value.str ⟨#[x.cps[i]]⟩ s.toks) = some u ∧ wpAny (model X.prog X.w) X.A (letOwnedTupleGo tg (.ref it) u) (fun _ s2 => ∃ x_1 H', Inv X pins σ H' s2 ∧ RelV x_1 u ∧ (Its x).yld i H x_1 H' ∧ s2.heap.IsStrIter it ty x t (i + 1) ∧ ∀ b ∈ [it], H' b = none) E { s with heap := h', toks := s.toks + 1 } := fun h' st' sb => by
      have I1 : Inv X pins σ H { s with heap := h', toks := s.toks + 1 } := I.turned (fun b o hb e => (sb.2 b hb).trans e) f0 f1 f3 f4 f5
      obtain ⟨oi, e, cc, dd⟩ := id st'
      exact ⟨_, rfl, go_of (s := { s with heap := h', toks := s.toks + 1 }) e cc dd hno ⟨.str ⟨#[x.cps[i]]⟩, H, I1, ⟨_, rfl⟩, ⟨rfl, _, hcx, rfl⟩, st', fun b hb => (hf b hb).1⟩⟩
    rcases hty with e | e
    · subst e
      exact wpAny_pyNext_ascii_item st hcx fin
    · subst e
      exact wpAny_pyNext_wide_item st hcx fin
  done := by
    intro X hP hw hK hc i pins s σ H E I hf st hg
    subst hP hw hK
    obtain ⟨f0, f1, f2, f3, f4, f5⟩ := hf it (by simp)
    have hx : x.cps[i]? = none := Array.getElem?_eq_none hg
    obtain ⟨q, ⟨hh, v1, e1, c1⟩, hq⟩ := hc
    have P1 := (I.pin q (List.mem_append_left _ hq)).1
    have hot : HotAt X.A q.1 s.heap := ⟨hh, q.2, v1, P1, e1, c1⟩
    rcases hty with e | e
    · subst e
      exact pyNext_ascii_end_hot hot (f5 q (List.mem_append_left _ hq)) st hx fun h' eb => ⟨rfl, I.turned (t' := s.toks) (fun b o hb e => eb b o hb e) f0 f1 f3 f4 f5⟩
    · subst e
      exact pyNext_wide_end_hot hot (f5 q (List.mem_append_left _ hq)) st hx fun h' eb => ⟨rfl, I.turned (t' := s.toks) (fun b o hb e => eb b o hb e) f0 f1 f3 f4 f5⟩
  self := (turn_str (P := P) (w := w) (K := K) (tg := tg) it x t ty hty).self
section
variable {X : Cx} {tg : Expr}
theorem wz_listH {l : Expr} {tl : TE} (hl : PE X l tl) : PIH X tg l (ziL X.K tl) := by
  refine ⟨fun pins s σ H R I h => ?_⟩
  refine thn (hl.run pins s σ H _ I h) fun v s1 ⟨x, H1, I1, r1, q1⟩ => ?_
  obtain ⟨a, e, ⟨xs, hq⟩, q⟩ := q1
  subst e
  cases r1
  obtain ⟨its, rv, p, hz⟩ := I1.list hq
  refine wpAny_pyIter_list p.isList ?_
  refine ⟨s1.heap.objs.size, [s1.heap.objs.size], _, _, H1, rfl, I1.kept (t' := s1.toks) fun b o e => Heap.get?_push_of_some _ e, turn_listH a _, ⟨_, Heap.get?_push_size _ rfl, rfl, rfl⟩, fun b hb => ?_, q⟩
  have e : b = s1.heap.objs.size := by simpa using hb
  subst e
  exact I1.fpOk (Nat.le_refl _) (I1.hok.fresh (Nat.le_refl _))
theorem pi_oneH {pins : List (Addr × Obj)} {σ : Sl} {H : Hp} {s : Shared} {R : It → Hp → Prop} {J : It} {tn : Nat → Heap → Prop} {tk : Nat} (I : Inv X pins σ H s) (o : Obj)
    (T : TurnH X.prog X.w X.K tg J [s.heap.objs.size] s.heap.objs.size tn) (st : tn 0 (s.heap.push o)) (q : R J H) : PIEH X pins σ tg R (.ref s.heap.objs.size) { s with heap := s.heap.push o, toks := tk } := by
  refine ⟨s.heap.objs.size, [s.heap.objs.size], tn, J, H, rfl, I.kept fun b ob e => Heap.get?_push_of_some _ e, T, st, fun b hb => ?_, q⟩
  have e : b = s.heap.objs.size := by simpa using hb
  subst e
  exact I.fpOk (Nat.le_refl _) (I.hok.fresh (Nat.le_refl _))
theorem wz_strH {e : Expr} {te : TE} (he : PE X e te) : PIH X tg e (ziS te) := by
  refine ⟨fun pins s σ H R I h => ?_⟩
  refine thn (he.run pins s σ H _ I h) fun v s1 ⟨y, H1, I1, r1, x, ex, q⟩ => ?_
  subst ex
  obtain ⟨t, rfl⟩ := r1
  cases ha : x.cps.all (· < 128)
  · exact wpAny_pyIter_wide ha (pi_oneH (tk := s1.toks) I1 _ (turn_strH _ x t "str_iterator" (.inr rfl)) ⟨_, Heap.get?_push_size _ rfl, rfl, rfl⟩ q)
  · exact wpAny_pyIter_ascii ha (pi_oneH (tk := s1.toks) I1 _ (turn_strH _ x t "str_ascii_iterator" (.inl rfl)) ⟨_, Heap.get?_push_size _ rfl, rfl, rfl⟩ q)
theorem sz_forH {iter : Expr} {body : List Stmt} {wi : TI} {g : TG} {tb : TS} {pos : Pos} (hp : PassesOwn (model X.prog X.w) X.A X.env X.xe) (hc : HotC X) (hi : PIH X tg iter wi) (hg : PG X tg g) (hb : PSs X body tb)
    (hs : ∀ x, foldedSetIterable iter X.env x = pure x := by intro _; rfl) : PS X (.For tg iter body [] pos) (zFor wi g tb) := ps_forH hp hc hi hg hb hs
end
/-! ### defs that are called where an exception is handled -/
structure KnH (P : Program) (w : World) (K : PySem.W.Frag) (mg : Str → Option Value) (base : Heap) (k : Nat) (f : Addr) (ps : List Str) (sp : Sp) : Prop where
  ex : ∃ fd, FnH P w K mg base (L2N.CX P w) k f fd ps sp ∧ Binds K fd ps []
  kp : PySem.W.keepIn K (.ref f) = true
section
variable {P : Program} {w : World} {K : PySem.W.Frag} {mg : Str → Option Value} {base : Heap}
theorem FnH.mono' {CX : CXT} {j k : Nat} {f : Addr} {fd : FuncData} {ps : List Str} {sp : Sp} (F : FnH P w K mg base CX j f fd ps sp) (h : j ≤ k) : FnH P w K mg base CX k f fd ps sp :=
  ⟨F.len, fun A outer s H args us vs Q E p hr => F.run A outer s H args us vs Q E p (hr.mono h)⟩
theorem KnH.mono {j k : Nat} {f : Addr} {ps : List Str} {sp : Sp} (F : KnH P w K mg base j f ps sp) (h : j ≤ k) : KnH P w K mg base k f ps sp := by
  obtain ⟨⟨fd, a, b⟩, c⟩ := F
  exact ⟨⟨fd, FnH.mono' a h, b⟩, c⟩
theorem okZH {x qual : Str} {params : Arguments} {body : List Stmt} {scope : Scope} {f : Addr} {fd : FuncData} {N ps : List Str} {k : Nat} {sp : Sp}
    (F : FunD K x qual params body scope [] [] f fd) (S : FnScope N ps scope) (len : ∀ vs H Q E, sp vs H Q E → vs.length = ps.length)
    (hbody : ∀ (cdv : Value) (A : Around) (outer : List Env) (s : Shared) (H : Hp) (vs : List V) (Q : VK) (E : XK) (p : Addr × Obj), Hot1 A p → RoomH k (A.deeper (envOfC qual scope s.heap.objs.size f cdv)) → WF H → sp vs H Q E →
      ∃ t, PSs (cxH (L2N.CX P w) P w K mg base N qual scope f cdv A outer s H (RE H E) p) body t ∧ t { nx := fun _ H' => RQ H Q .non H', rt := RQ H Q } (L2.start N vs) H) : FnH P w K mg base (L2N.CX P w) (k + 1) f fd ps sp := by
  have F1 : FnH P w K mg base (L2N.CX P w) (k + 1) f fd ps (fun vs H Q1 E1 => ∃ Q E, WF H ∧ sp vs H Q E ∧ Q1 = RQ H Q ∧ E1 = RE H E) := by
    obtain ⟨oc, od, dV, kV, doc, pm, an, cdv, ct, osl, rfl, lk, hcd, _, _⟩ := F.ex
    refine fn_ofH lk hcd S (fun vs H Q E h => ?_) (fun A outer s H vs Q1 E1 p hot hr h => ?_)
    · obtain ⟨Q, E, _, h, _, _⟩ := h
      exact len vs H Q E h
    · obtain ⟨Q, E, wf, h, rfl, rfl⟩ := h
      exact hbody cdv A outer s H vs Q E p hot hr wf h
  refine ⟨len, fun A outer s H args us vs Q E p hr hot hpin e0 hb hv hs => ?_⟩
  refine codeAny_mono (F1.run A outer s H args us vs (RQ H Q) (RE H E) p hr hot hpin e0 hb hv ⟨Q, E, wf_of e0.hok, hs, rfl, rfl⟩) fun r s' hq => ?_
  cases r with
  | error e =>
    obtain ⟨a, B, H', cls, d, h1, h2, h3, h4, h5, h6, h7, H2, c, q⟩ := hq
    have h8 : H2 a = none := by
      cases z : H2 a with
      | none => rfl
      | some v =>
        rw [c.sub a v z] at h5
        cases h5
    exact ⟨a, B, H2, cls, d, h1, h2, hok_cut c h3, ub_cut c h4, h8, h6, h7, q⟩
  | ok fl =>
    cases fl with
    | ret u =>
      obtain ⟨v, H', h1, h2, h3, h4, h5, H2, c, q⟩ := hq
      exact ⟨v, H2, h1, h2, un_cut c h3, hok_cut c h4, h5, q⟩
    | next => exact hq
    | brk => exact hq
    | cont => exact hq
theorem hot_cxH {CX : CXT} {N : List Str} {qual : Str} {scope : Scope} {f : Addr} {cd : Value} {A : Around} {outer : List Env} {s : Shared} {H : Hp} {E : XK} {p : Addr × Obj} (h : Hot1 A p) : HotC (cxH CX P w K mg base N qual scope f cd A outer s H E p) := ⟨p, h, List.mem_cons_self⟩
theorem _root_.L2H.RoomH.units {k : Nat} {A : Around} (r : RoomH k A) : A.units + 64 < cLine := by have := r.un; omega
end
section
variable {X : Cx} {k : Nat} {f : Addr} {ps : List Str} {sp : Sp} {W : WX} {x : Str} {p pos : Pos} {e : Expr} {es : List Expr} {t : TA}
/-- a call where an exception is handled; nothing comes out -/
theorem cz_callH (F : KnH X.prog X.w X.K X.mg X.base k f ps sp) (hr : RoomH k X.A) (hc : HotC X) (hm : X.mg x = some (.ref f)) (tk : L2N.Takes X W) (ha : PA X (e :: es) t) (hg : Gl X x := by rfl) (hdb : (x == ("__debug__" : Str)) = false := by decide)
    (he : starEach (e :: es) X.env = (false, eval e X.env) :: starEach es X.env := by rfl) (hpl : (backTo pos (starEach es X.env)).any (·.1) = false := by rfl) : PE X (.Call (.Name x p) (e :: es) [] pos) (zCall sp W t) := by
  obtain ⟨⟨fd, a, b⟩, c⟩ := F
  exact pe_callH a hr hc hg hm c b (fun σ => L2N.passAt tk σ) ha hdb he hpl
theorem hot_suite {a : Addr} {oe : Obj} {pn : List (Addr × Obj)} {cls : Value} {d : Option Addr} (hz : L2N.Zn cls d oe) (hv : ∃ vs, oe.data = .fields vs) : HotC (X.suite a ((a, oe) :: pn)) := by
  obtain ⟨vs, e⟩ := hv
  exact ⟨(a, oe), ⟨rfl, vs, e, hz.2.2 vs e⟩, List.mem_cons_self⟩
theorem room_suite {a : Addr} {pn : List (Addr × Obj)} {k : Nat} (h : Room k X.A) : RoomH k (X.suite a pn).A := ⟨h.dp, h.un⟩
end
/-! ### defs whose exceptions may bear a context -/
structure KnL (P : Program) (w : World) (K : PySem.W.Frag) (mg : Str → Option Value) (base : Heap) (k : Nat) (f : Addr) (ps : List Str) (sp : Sp) : Prop where
  ex : ∃ fd, FnOk P w K mg base (L2.CX P w) k f fd ps sp ∧ Binds K fd ps []
  kp : PySem.W.keepIn K (.ref f) = true
section
variable {P : Program} {w : World} {K : PySem.W.Frag} {mg : Str → Option Value} {base : Heap}
theorem okZL {x qual : Str} {params : Arguments} {body : List Stmt} {scope : Scope} {dvs : List V} {kws : List (Str × V)} {f : Addr} {fd : FuncData} {N ps : List Str} {k : Nat} {sp : Sp}
    (F : FunD K x qual params body scope dvs kws f fd) (S : FnScope N ps scope) (len : ∀ vs H Q E, sp vs H Q E → vs.length = ps.length)
    (hbody : ∀ (cdv : Value) (A : Around) (outer : List Env) (s : Shared) (H : Hp) (vs : List V) (Q : VK) (E : XK), Room k (A.deeper (envOfC qual scope s.heap.objs.size f cdv)) → WF H → sp vs H Q E →
      ∃ t, PSs (cxOf (L2.CX P w) P w K mg base N qual scope f cdv A outer s H (RE H E)) body t ∧ t { nx := fun _ H' => RQ H Q .non H', rt := RQ H Q } (L2.start N vs) H) : FnOk P w K mg base (L2.CX P w) (k + 1) f fd ps sp := by
  have F1 : FnOk P w K mg base (L2.CX P w) (k + 1) f fd ps (fun vs H Q1 E1 => ∃ Q E, WF H ∧ sp vs H Q E ∧ Q1 = RQ H Q ∧ E1 = RE H E) := by
    refine F.ok S (fun vs H Q E h => ?_) (fun cdv A outer s H vs Q1 E1 hr h => ?_)
    · obtain ⟨Q, E, _, h, _, _⟩ := h
      exact len vs H Q E h
    · obtain ⟨Q, E, wf, h, rfl, rfl⟩ := h
      exact hbody cdv A outer s H vs Q E hr wf h
  refine ⟨len, fun A outer s H args us vs Q E hr e0 hb hv hs => ?_⟩
  refine codeAny_mono (F1.run A outer s H args us vs (RQ H Q) (RE H E) hr e0 hb hv ⟨Q, E, wf_of e0.hok, hs, rfl, rfl⟩) fun r s' hq => ?_
  cases r with
  | error e =>
    obtain ⟨a, B, H', cls, d, h1, h2, h3, h4, h5, h6, h7, H2, c, q⟩ := hq
    have h8 : H2 a = none := by
      cases z : H2 a with
      | none => rfl
      | some v =>
        rw [c.sub a v z] at h5
        cases h5
    exact ⟨a, B, H2, cls, d, h1, h2, hok_cut c h3, ub_cut c h4, h8, h6, h7, q⟩
  | ok fl =>
    cases fl with
    | ret u =>
      obtain ⟨v, H', h1, h2, h3, h4, h5, H2, c, q⟩ := hq
      exact ⟨v, H2, h1, h2, un_cut c h3, hok_cut c h4, h5, q⟩
    | next => exact hq
    | brk => exact hq
    | cont => exact hq
end
section
variable {X : Cx} {k : Nat} {f : Addr} {ps : List Str} {sp : Sp} {W : WX} {x : Str} {p pos : Pos} {e : Expr} {es : List Expr} {t : TA}
theorem cz_callL (F : KnL X.prog X.w X.K X.mg X.base k f ps sp) (hr : Room k X.A) (hm : X.mg x = some (.ref f)) (tk : L2.Takes X W) (ha : PA X (e :: es) t) (hg : Gl X x := by rfl) (hdb : (x == ("__debug__" : Str)) = false := by decide)
    (he : starEach (e :: es) X.env = (false, eval e X.env) :: starEach es X.env := by rfl) (hpl : (backTo pos (starEach es X.env)).any (·.1) = false := by rfl) : PE X (.Call (.Name x p) (e :: es) [] pos) (zCall sp W t) := by
  obtain ⟨⟨fd, a, b⟩, c⟩ := F
  exact pe_callS a hr hg hm c b (fun σ _ _ _ e s' I c => tk e s' (L2.XE.of_call I (fun _ _ _ h => h) c)) ha hdb he hpl
theorem sz_tryAsL {x n : Str} {c : Value} {body suite : List Stmt} {b₀ : Stmt} {np pos pos' : Pos} {tb : WX → TS} {ts : Suite} (i : Nat) (hs : X.stack = X.env :: X.outer) (hf : X.env.frame = some X.env.locals) (hN : X.N.Nodup) (hc : Names X x c) (tk : L2.Takes X W)
    (hb : ∀ (W : WX) (pn : List (Addr × Obj)) (xe : Value → Shared → Prop), L2.Takes (X.tr pn xe) W → PassesOwn (model X.prog X.w) X.A X.env xe → PSs (X.tr pn xe) body (tb W))
    (hsu : ∀ (a : Addr) (oe : Obj) (cls : Value) (d : Option Addr) (pn : List (Addr × Obj)), Zc cls d oe → (∃ vs, oe.data = .fields vs) → PSs (X.suite a ((a, oe) :: pn)) (b₀ :: suite) (ts a cls d))
    (hi : X.N[i]? = some n := by rfl) (hln : X.env.kindOf n = some .local := by rfl) :
    PS X (.Try body [.ExceptHandler (some (.Name x np)) (some n) (b₀ :: suite) pos'] [] [] pos) (zTryAs X.K c i tb ts W) := L2.ps_try_as hs hf hN hi hln hc tk hb hsu
theorem takes_L {W : WX} (tk : L2N.Takes X W) (h : X.xe = fun _ _ => False := by rfl) : True := trivial
end
end Z
namespace Z
open PySem PySem.Spec PyProof.Rows L2 TL HotX L2H
/-! ### isinstance of plain values -/
def isiL (T : String) (H : Hp) (Q : VK) : Option HO → Prop
  | some (.lst _) => T = "list" ∧ Q (.bl true) H
  | _ => False
def rIsiZ : RC := fun vs H Q => match vs with
  | [.bl _, .ty T] => T = "bool" ∧ Q (.bl true) H
  | [.ref p, .ty T] => isiL T H Q (H p)
  | _ => False
theorem rIsiZ_bl {k T} {H : Hp} {Q : VK} : rIsiZ [.bl k, .ty T] H Q = (T = "bool" ∧ Q (.bl true) H) := rfl
theorem rIsiZ_rf {p T} {H : Hp} {Q : VK} : rIsiZ [.ref p, .ty T] H Q = isiL T H Q (H p) := rfl
theorem isiL_eq {T xs} {H : Hp} {Q : VK} : isiL T H Q (some (.lst xs)) = (T = "list" ∧ Q (.bl true) H) := rfl
theorem bz_isi {X : Cx} : CallR X (.builtin "isinstance") rIsiZ := callR_imp call_isi fun vs H Q q => by
  unfold rIsiZ at q
  split at q
  · obtain ⟨rfl, q⟩ := q
    exact ⟨_, _, .type "bool", .type "bool", true, rfl, .ty _, .base (.bl _), by rfl, q⟩
  · unfold isiL at q
    split at q
    · rename_i e
      obtain ⟨rfl, q⟩ := q
      exact ⟨_, _, .type "list", .type "list", true, rfl, .ty _, .base (.lst e), by rfl, q⟩
    · exact q.elim
  · exact q.elim
theorem pc_ty {X : Cx} {x : Str} {pos : Pos} {t : String} (hm : X.mg x = none) (hv : bootBuiltins x = some (.type t)) (hg : Gl X x := by rfl) (hn : x ≠ "__name__" := by decide) (hd : (x == ("__debug__" : Str)) = false := by decide) : PE X (.Name x pos) (zC (.ty t)) :=
  pe_bltn hg hm hv rfl hn hd
/-! ### a.replace('x', 'y'), a token being out -/
def kRep (y z : Str) (Q : VK) : VK := fun v H => match v with
  | .str x => x.length + (x.length + 1) * z.length ≤ 16777216 ∧ Q (.str (Txt.replace x y z)) H
  | _ => False
def zRep (y z : Str) (to : TE) : TE := fun σ H Q => to σ H (kRep y z Q)
theorem zRep_eq {y z to} {σ : Sl} {H : Hp} {Q : VK} : zRep y z to σ H Q = to σ H (kRep y z Q) := rfl
theorem kRep_eq {y z x} {H : Hp} {Q : VK} : kRep y z Q (.str x) H = (x.length + (x.length + 1) * z.length ≤ 16777216 ∧ Q (.str (Txt.replace x y z)) H) := rfl
section
variable {X : Cx} {e o : Expr} {te to : TE} {y z x : Str} {j k : Nat} {c0 c1 apos pos p p' cp q : Pos} {rest a b : List Stmt} {st : Stmt} {t u : TS} {c : Int} {tc : TT}
theorem yz_rep (ho : PE X o to) (hyz : (y == z) = false := by decide)
    (hst : starEach [.Constant (.str y) j c0, .Constant (.str z) k c1] X.env = [(false, eval (.Constant (.str y) j c0) X.env), (false, eval (.Constant (.str z) k c1) X.env)] := by rfl)
    (hbase : attributeBase o "replace" X.env (eval o X.env) = eval o X.env := by rfl) (hline : (apos.endLine == pos.line) = true := by rfl) :
    PET X (.Call (.Attribute o "replace" apos) [.Constant (.str y) j c0, .Constant (.str z) k c1] [] pos) (zRep y z to) := by
  intro pins s σ H Q h0 I h
  have e : kRep y z Q = fun v H1 => ∃ x, v = .str x ∧ x.length + (x.length + 1) * z.length ≤ 16777216 ∧ Q (.str (Txt.replace x y z)) H1 := by
    funext v H1
    cases v <;> simp [kRep]
  have h : to σ H (kRep y z Q) := h
  rw [e] at h
  exact CwR.pet_replC ho hyz hst hbase hline pins s σ H Q h0 I h
theorem tz_set (i : Nat) {pos' : Pos} (hN : X.N.Nodup) (he : PET X e te) (hi : X.N[i]? = some x := by rfl) (hx : Loc X.env.scope x := by first | exact Or.inl rfl | exact Or.inr rfl) (hs : swapsWith e (some (.Name x pos')) pos.line X.env = pure false := by rfl) (hf : X.fn x = true ∨ X.env.scope.names.lookup x = some .local := by first | exact .inl rfl | exact .inr rfl | assumption) :
    PST X (.Assign [.Name x pos'] e pos) (zSet i te) := by
  intro pins s σ H D h0 I h
  refine wpAny_Assign_Name (thn (he pins s σ H _ h0 I h) fun v s1 ⟨y, H1, I1, r1, q1⟩ => ?_) hs
  exact store_ok I1 hN hi hx r1 (fun s2 I2 => ⟨_, H1, I2, q1⟩) hf
theorem tz_cons (h1 : PST X st t) (h2 : PSsT X rest u) : PSsT X (st :: rest) (zSeq t u) := psst_cons h1 h2
theorem tz_one (h1 : PST X st t) : PSsT X [st] t := CwR.psst_one h1
theorem tz_if (hc : PT X c' tc) (ha : PSsT X a t) (hb : PSsT X b u) : PST X (.If c' a b pos) (zIf tc t u) := CwR.pst_if hc ha hb
/-- x = (e == c) at the head: behind it a token is out -/
theorem sz_eqT (i : Nat) (hN : X.N.Nodup) (he : PE X e te) (hu : X.A.units + 64 < cLine) (h2 : PSsT X rest u) (hi : X.N[i]? = some x := by rfl) (hx : Loc X.env.scope x := by first | exact Or.inl rfl | exact Or.inr rfl)
    (hs : swapsWith (.Compare e [.Eq] [.Constant (.int c) j cp] q) (some (.Name x p')) pos.line X.env = pure false := by rfl) (hf : X.fn x = true ∨ X.env.scope.names.lookup x = some .local := by first | exact .inl rfl | exact .inr rfl | assumption)
    (hm : behindInMarks .Eq (.Constant (.int c) j cp) = false := by rfl) :
    PSs X (.Assign [.Name x p'] (.Compare e [.Eq] [.Constant (.int c) j cp] q) pos :: rest) (zSeq (zSet i (zB (rEqZ X.K) te (zC (.int c)))) u) := by
  refine ⟨fun pins s σ H D I h => ?_⟩
  refine wpAny_execs_cons (wpAny_Assign_Name (wpAny_Compare1 (thn (he.run pins s σ H _ I h) fun v s1 ⟨y, H1, I1, r1, q1⟩ => ?_) hm) hs)
  refine wpAny_Constant_int ?_
  have h1 : 1 ≤ s1.toks + 1 := Nat.le_add_left _ _
  refine wpAny_mono (PySem.wpAny_toks (oz_eq (X := X) hu pins { s1 with toks := s1.toks + 1 } σ H1 y (.int c) v (.int c s1.toks) _ (I1.tok _) r1 ⟨_, rfl⟩ q1)) (fun v2 s2 qq => ?_) fun _ _ z => z.2
  obtain ⟨hk, y2, H2, I2, r2, q2⟩ := qq
  have hk : s1.toks + 1 ≤ s2.toks := hk
  refine wpAny_mono (PySem.wpAny_toks (store_ok (Q := fun _ s3 => Inv X pins (σ.set i (some y2)) H2 s3) I2 hN hi hx r2 (fun s3 I3 => I3) hf)) (fun _ s3 qq => ?_) fun _ _ z => z.2
  exact h2 pins s3 _ H2 D (by have := qq.1; omega) qq.2 q2
end
theorem pz_slK {X : Cx} {e : Expr} {te : TE} {lo hi : Option Expr} {tl th : TO} {p2 pos : Pos} (he : PE X e te) (hl : PO X lo tl) (hu : PO X hi th) : PE X (.Subscript e (.Slice lo hi none p2) pos) (zSl (rSlL X.K) te tl th) := pe_slice sl_list he hl hu
end Z
namespace Z
open PySem PySem.Spec PyProof.Rows L2 TL L2H
def N_pack : List Str := ["parts", "part"]
def t_pack (K : PySem.W.Frag) (w : World) (W : WX)  : TS :=
  (zRet (zMs (rJoin K) (zC (.str "")) (zCons (zLc (ziL K (zV 0)) (gName 1) zYes (zJs [(zFm (zCB (rLenZ K) (zCons (zV 1) zNil))), (zC (.str ":")), (zFm (zV 1))]) [1]) zNil)))

def N_number_of : List Str := ["text"]
def t_number_of (K : PySem.W.Frag) (w : World) (W : WX)  : TS :=
  (zSeq (zIf (zOr (zNot (zTr K (zMs rIsdigit (zV 0) zNil))) (zT (zB rGt (zCB (rLenZ K) (zCons (zV 0) zNil)) (zC (.int 9)))))
    (zRaise (He.ga K "BadForm") W)
    zNext)
    (zSeq (zIf (zAnd (zT (zB (rEqZ K) (zB (rIxZ K) (zV 0) (zC (.int 0))) (zC (.str "0")))) (zT (zB rGt (zCB (rLenZ K) (zCons (zV 0) zNil)) (zC (.int 1)))))
    (zRaise (He.ga K "BadForm") W)
    zNext)
    (zRet (zCB rIntZ (zCons (zV 0) zNil)))))

def N_part_at : List Str := ["text", "start", "colon", "end"]
def t_part_at (K : PySem.W.Frag) (w : World) (W : WX) (s_number_of : Sp) : TS :=
  (zSeq (zSet 2 (zMs rFind (zV 0) (zCons (zC (.str ":")) (zCons (zV 1) zNil))))
    (zSeq (zIf (zT (zB rLt (zV 2) (zC (.int 0))))
    (zRaise (He.ga K "BadForm") W)
    zNext)
    (zSeq (zSet 3 (zB rAdd (zB rAdd (zV 2) (zC (.int 1))) (zCall s_number_of W (zCons (zSl (rSlZ K) (zV 0) (zPt (zV 1)) (zPt (zV 2))) zNil))))
    (zSeq (zIf (zT (zB rGt (zV 3) (zCB (rLenZ K) (zCons (zV 0) zNil))))
    (zRaise (He.ga K "BadForm") W)
    zNext)
    (zRet (zTup (zCons (zSl (rSlZ K) (zV 0) (zPt (zB rAdd (zV 2) (zC (.int 1)))) (zPt (zV 3))) (zCons (zV 3) zNil))))))))

def N_unpack : List Str := ["text", "parts", "at", "part"]
def t_unpack (K : PySem.W.Frag) (w : World) (W : WX) (s_part_at : Sp) : TS :=
  (zSeq (zSet 1 (zLst zNil))
    (zSeq (zSet 2 (zC (.int 0)))
    (zSeq (zWhile (zT (zB rLt (zV 2) (zCB (rLenZ K) (zCons (zV 0) zNil)))) (zSeq (zAsg (zCall s_part_at W (zCons (zV 0) (zCons (zV 2) zNil))) (zgT K 2 (gCons (gName 3) (gCons (gName 2) gNil))))
    (zDrop (zMl K rAppZ (zV 1) (zCons (zV 3) zNil)))))
    (zRet (zV 1)))))

def N_is_name : List Str := ["text"]
def t_is_name (K : PySem.W.Frag) (w : World) (W : WX)  : TS :=
  (zSeq (zIf (zNot (zT (zCh rLe rLe (zC (.int 1)) (zCB (rLenZ K) (zCons (zV 0) zNil)) (zC (.int 4)))))
    (zRet (zC (.bl false)))
    zNext)
    (zRet (zAndV (zMs rIsalnum (zV 0) zNil) (zB (rEqZ K) (zV 0) (zMs rLower (zV 0) zNil)))))

def N_is_record_text : List Str := ["text"]
def t_is_record_text (K : PySem.W.Frag) (w : World) (W : WX)  : TS :=
  (zRet (zAndV (zB rLe (zCB (rLenZ K) (zCons (zV 0) zNil)) (zC (.int 16))) (zB (rNotInZ K) (zC (.str "\"")) (zV 0))))

def N_are_holders : List Str := ["names", "name", "k"]
def t_are_holders (K : PySem.W.Frag) (w : World) (W : WX) (s_is_name : Sp) : TS :=
  (zSeq (zIf (zOr (zT (zB rGt (zCB (rLenZ K) (zCons (zV 0) zNil)) (zC (.int 2)))) (zNot (zTr K (zCB (rAll K) (zCons (zLc (ziL K (zV 0)) (gName 1) zYes (zCall s_is_name WN (zCons (zV 1) zNil)) [1]) zNil)))))
    (zRet (zC (.bl false)))
    zNext)
    (zRet (zCB (rAll K) (zCons (zLc (ziR1 (zCons (zB rSub (zCB (rLenZ K) (zCons (zV 0) zNil)) (zC (.int 1))) zNil)) (gName 2) zYes (zB rLt (zB (rIxZ K) (zV 0) (zV 2)) (zB (rIxZ K) (zV 0) (zB rAdd (zV 2) (zC (.int 1))))) [2]) zNil))))

def N_Record___init__ : List Str := ["self", "x", "y", "label", "text", "holders", "due"]
def t_Record___init__ (K : PySem.W.Frag) (w : World) (W : WX) (s_is_record_text : Sp) (s_are_holders : Sp) : TS :=
  (zSeq (zIf (zOr (zNot (zT (zCh rLe rLe (zC (.int 0)) (zV 1) (zC (.int 99))))) (zNot (zT (zCh rLe rLe (zC (.int 0)) (zV 2) (zC (.int 99))))))
    (zRaise (He.ga K "NotAllowed") W)
    zNext)
    (zSeq (zIf (zOr (zNot (zT (zCh rLe rLe (zC (.int 0)) (zV 3) (zC (.int 3))))) (zNot (zTr K (zCall s_is_record_text W (zCons (zV 4) zNil)))))
    (zRaise (He.ga K "NotAllowed") W)
    zNext)
    (zSeq (zIf (zOr (zNot (zTr K (zCall s_are_holders W (zCons (zV 5) zNil)))) (zAnd (zTr K (zV 6)) (zT (zB (rEqZ K) (zCB (rLenZ K) (zCons (zV 5) zNil)) (zC (.int 0))))))
    (zRaise (He.ga K "NotAllowed") W)
    zNext)
    (zSeq (zSetF (He.ga K "Record") "x" (zV 0) (zV 1))
    (zSeq (zSetF (He.ga K "Record") "y" (zV 0) (zV 2))
    (zSeq (zSetF (He.ga K "Record") "label" (zV 0) (zV 3))
    (zSeq (zSetF (He.ga K "Record") "text" (zV 0) (zV 4))
    (zSeq (zSetF (He.ga K "Record") "holders" (zV 0) (zCB (rListZ K) (zCons (zV 5) zNil)))
    (zSetF (He.ga K "Record") "due" (zV 0) (zV 6))))))))))

def N_record_value : List Str := ["record", "due", "parts"]
def t_record_value (K : PySem.W.Frag) (w : World) (W : WX) (s_pack : Sp) : TS :=
  (zSeq (zSet 1 (zC (.str "0")))
    (zSeq (zIf (zTr K (zFld (He.ga K "Record") "due" (zV 0)))
    (zSet 1 (zC (.str "1")))
    zNext)
    (zSeq (zSet 2 (zLst (zCons (zCB rStrZ (zCons (zFld (He.ga K "Record") "x" (zV 0)) zNil)) (zCons (zCB rStrZ (zCons (zFld (He.ga K "Record") "y" (zV 0)) zNil)) (zCons (zCB rStrZ (zCons (zFld (He.ga K "Record") "label" (zV 0)) zNil)) (zCons (zV 1) (zCons (zFld (He.ga K "Record") "text" (zV 0)) zNil)))))))
    (zRet (zCall s_pack W (zCons (zB rAdd (zV 2) (zFld (He.ga K "Record") "holders" (zV 0))) zNil))))))

def N_record_from_value : List Str := ["text", "parts", "x", "y", "label", "record", "e", "part"]
def t_record_from_value (K : PySem.W.Frag) (w : World) (W : WX) (s_unpack : Sp) (s_number_of : Sp) (s_Record___init__ : Sp) : TS :=
  (zSeq (zSet 1 (zCall s_unpack W (zCons (zV 0) zNil)))
    (zSeq (zIf (zOr (zT (zB rLt (zCB (rLenZ K) (zCons (zV 1) zNil)) (zC (.int 5)))) (zT (zB (rNotInZ K) (zB (rIxZ K) (zV 1) (zC (.int 3))) (zTup (zCons (zC (.str "0")) (zCons (zC (.str "1")) zNil))))))
    (zRaise (He.ga K "BadForm") W)
    zNext)
    (zSeq (zAsg (zLc (ziL K (zSl (rSlZ K) (zV 1) zNo (zPt (zC (.int 3))))) (gName 7) zYes (zCall s_number_of W (zCons (zV 7) zNil)) [7]) (zgL 3 (gCons (gName 2) (gCons (gName 3) (gCons (gName 4) gNil)))))
    (zSeq (zTryAs K (.ref (He.ga K "NotAllowed")) 6 (fun W1 => (zSet 5 (zMake (He.ga K "Record") s_Record___init__ W1 (zCons (zV 2) (zCons (zV 3) (zCons (zV 4) (zCons (zB (rIxZ K) (zV 1) (zC (.int 4))) (zCons (zSl (rSlZ K) (zV 1) (zPt (zC (.int 5))) zNo) (zCons (zB (rEqZ K) (zB (rIxZ K) (zV 1) (zC (.int 3))) (zC (.str "1"))) zNil))))))))) (fun a1 c1 _ => (zRaiseF (He.ga K "BadForm") (He.ga K "NotAllowed") 6 a1 c1 W)) W)
    (zRet (zV 5))))))

def N__law_stream : List Str := ["_law_script", "_law_numbers", "_law_cell", "_law_rest", "_law_k", "_law_mixed"]
def t__law_stream (K : PySem.W.Frag) (w : World) (W : WX)  : TS :=
  (zSeq (zSet 1 (zLst zNil))
    (zSeq (zFor (ziL K (zSl (rSlL K) (zV 0) zNo (zPt (zC (.int 63))))) (gName 2) (zSeq (zSet 3 (zCB rIntZ (zCons (zV 2) zNil)))
    (zIf (zT (zB rGe (zV 3) (zB rPow (zC (.int 10)) (zC (.int 18)))))
    (zFor (ziR1 (zCons (zC (.int 60)) zNil)) (gName 4) (zSeq (zDrop (zMl K rAppZ (zV 1) (zCons (zB rMod (zCB rIntZ (zCons (zV 3) zNil)) (zC (.int 1009))) zNil)))
    (zSeq (zSet 3 (zB rFdv (zV 3) (zC (.int 1009))))
    (zIf (zT (zB (rEqZ K) (zV 3) (zC (.int 0))))
    zBreak
    zNext))))
    (zSeq (zSet 5 (zB rMod (zCB rIntZ (zCons (zV 3) zNil)) (zC (.int 2147483647))))
    (zFor (ziR1 (zCons (zC (.int 10)) zNil)) (gName 4) (zSeq (zSet 5 (zB rMod (zCB rIntZ (zCons (zB rAdd (zB rAdd (zB rMul (zV 5) (zC (.int 48271))) (zB rMul (zC (.int 7)) (zV 4))) (zC (.int 11))) zNil)) (zC (.int 2147483647))))
    (zDrop (zMl K rAppZ (zV 1) (zCons (zB rMod (zB rMod (zCB rIntZ (zCons (zB rAdd (zB rMul (zV 5) (zC (.int 69621))) (zV 4)) zNil)) (zC (.int 2147483629))) (zC (.int 1009))) zNil)))))))))
    (zSeq (zIf (zT (zB (rEqZ K) (zCB (rLenZ K) (zCons (zV 1) zNil)) (zC (.int 0))))
    (zDrop (zMl K rAppZ (zV 1) (zCons (zC (.int 0)) zNil)))
    zNext)
    (zRet (zV 1)))))

def N__law_pick : List Str := ["_law_numbers", "_law_at", "_law_many"]
def t__law_pick (K : PySem.W.Frag) (w : World) (W : WX)  : TS :=
  (zRet (zB rMod (zCB rIntZ (zCons (zB (rIxZ K) (zV 0) (zB rMod (zV 1) (zCB (rLenZ K) (zCons (zV 0) zNil)))) zNil)) (zV 2)))

def N__law_signs : List Str := ["_law_signs_here"]
def t__law_signs (K : PySem.W.Frag) (w : World) (W : WX)  : TS :=
  (zSeq (zSet 0 (zC (.str " !\"#$&'()*+,-./0123456789:;<=>?@ABCDEFGHIJKLMNOPQRSTUVWXYZ")))
    (zRet (zB rAdd (zV 0) (zC (.str "[\\]^_`abcdefghijklmnopqrstuvwxyz{|}~")))))

def N__law_text : List Str := ["_law_numbers", "_law_at", "_law_size", "_law_wide", "_law_signs_here", "_law_k"]
def t__law_text (K : PySem.W.Frag) (w : World) (W : WX) (s__law_signs : Sp) (s__law_pick : Sp) : TS :=
  (zSeq (zSet 4 (zC (.str "ab01:;. ")))
    (zSeq (zIf (zTr K (zV 3))
    (zSet 4 (zCall s__law_signs W zNil))
    zNext)
    (zRet (zMs (rJoin K) (zC (.str "")) (zCons (zLc (ziR1 (zCons (zV 2) zNil)) (gName 5) zYes (zB (rIxZ K) (zV 4) (zCall s__law_pick WN (zCons (zV 0) (zCons (zB rAdd (zV 1) (zV 5)) (zCons (zCB (rLenZ K) (zCons (zV 4) zNil)) zNil))))) [5]) zNil)))))

def N__law_is_name : List Str := ["_law_text_here", "_law_good_here", "_law_sign"]
def t__law_is_name (K : PySem.W.Frag) (w : World) (W : WX)  : TS :=
  (zSeq (zSet 1 (zCh rLe rLe (zC (.int 1)) (zCB (rLenZ K) (zCons (zV 0) zNil)) (zC (.int 4))))
    (zSeq (zFor (ziS (zV 0)) (gName 2) (zSet 1 (zAndV (zV 1) (zB rGe (zMs rFind (zC (.str "abcdefghijklmnopqrstuvwxyz0123456789")) (zCons (zV 2) zNil)) (zC (.int 0))))))
    (zRet (zV 1))))

def N__law_number : List Str := ["_law_text_here", "_law_value_here", "_law_sign", "_law_place"]
def t__law_number (K : PySem.W.Frag) (w : World) (W : WX)  : TS :=
  (zSeq (zIf (zOr (zT (zB rLt (zCB (rLenZ K) (zCons (zV 0) zNil)) (zC (.int 1)))) (zOr (zT (zB rGt (zCB (rLenZ K) (zCons (zV 0) zNil)) (zC (.int 9)))) (zAnd (zT (zB rGt (zCB (rLenZ K) (zCons (zV 0) zNil)) (zC (.int 1)))) (zT (zB (rEqZ K) (zB (rIxZ K) (zV 0) (zC (.int 0))) (zC (.str "0")))))))
    (zRet (zC .non))
    zNext)
    (zSeq (zSet 1 (zC (.int 0)))
    (zSeq (zFor (ziS (zV 0)) (gName 2) (zSeq (zSet 3 (zMs rFind (zC (.str "0123456789")) (zCons (zV 2) zNil)))
    (zSeq (zIf (zT (zB rLt (zV 3) (zC (.int 0))))
    (zRet (zC .non))
    zNext)
    (zSet 1 (zB rAdd (zB rMul (zV 1) (zC (.int 10))) (zV 3))))))
    (zRet (zV 1)))))

def N__law_parts : List Str := ["_law_text_here", "_law_parts_here", "_law_at", "_law_turn", "_law_colon", "_law_size"]
def t__law_parts (K : PySem.W.Frag) (w : World) (W : WX) (s__law_number : Sp) : TS :=
  (zSeq (zSet 1 (zLst zNil))
    (zSeq (zSet 2 (zC (.int 0)))
    (zSeq (zFor (ziR1 (zCons (zC (.int 100)) zNil)) (gName 3) (zSeq (zIf (zT (zB (rEqZ K) (zV 2) (zCB (rLenZ K) (zCons (zV 0) zNil))))
    (zRet (zV 1))
    zNext)
    (zSeq (zSet 4 (zMs rFind (zV 0) (zCons (zC (.str ":")) (zCons (zV 2) zNil))))
    (zSeq (zIf (zT (zB rLt (zV 4) (zC (.int 0))))
    (zRet (zC .non))
    zNext)
    (zSeq (zSet 5 (zCall s__law_number W (zCons (zSl (rSlZ K) (zV 0) (zPt (zV 2)) (zPt (zV 4))) zNil)))
    (zSeq (zIf (zOr (zT (zB rIs (zV 5) (zC .non))) (zT (zB rGt (zB rAdd (zB rAdd (zV 4) (zC (.int 1))) (zV 5)) (zCB (rLenZ K) (zCons (zV 0) zNil)))))
    (zRet (zC .non))
    zNext)
    (zSeq (zDrop (zMl K rAppZ (zV 1) (zCons (zSl (rSlZ K) (zV 0) (zPt (zB rAdd (zV 4) (zC (.int 1)))) (zPt (zB rAdd (zB rAdd (zV 4) (zC (.int 1))) (zV 5)))) zNil)))
    (zSet 2 (zB rAdd (zB rAdd (zV 4) (zC (.int 1))) (zV 5))))))))))
    (zRet (zC .non)))))

def N__law_good : List Str := ["_law_row_here", "_law_name"]
def t__law_good (K : PySem.W.Frag) (w : World) (W : WX) (s__law_is_name : Sp) : TS :=
  (zSeq (zIf (zOr (zNot (zT (zCh rLe rLe (zC (.int 0)) (zB (rIxZ K) (zV 0) (zC (.int 0))) (zC (.int 99))))) (zOr (zNot (zT (zCh rLe rLe (zC (.int 0)) (zB (rIxZ K) (zV 0) (zC (.int 1))) (zC (.int 99))))) (zNot (zT (zCh rLe rLe (zC (.int 0)) (zB (rIxZ K) (zV 0) (zC (.int 2))) (zC (.int 3)))))))
    (zRet (zC (.bl false)))
    zNext)
    (zSeq (zIf (zOr (zT (zB rGt (zCB (rLenZ K) (zCons (zB (rIxZ K) (zV 0) (zC (.int 3))) zNil)) (zC (.int 16)))) (zOr (zT (zB rGe (zMs rFind (zB (rIxZ K) (zV 0) (zC (.int 3))) (zCons (zC (.str "\"")) zNil)) (zC (.int 0)))) (zT (zB rGt (zCB (rLenZ K) (zCons (zB (rIxZ K) (zV 0) (zC (.int 4))) zNil)) (zC (.int 2))))))
    (zRet (zC (.bl false)))
    zNext)
    (zSeq (zFor (ziL K (zB (rIxZ K) (zV 0) (zC (.int 4)))) (gName 1) (zIf (zNot (zTr K (zCall s__law_is_name W (zCons (zV 1) zNil))))
    (zRet (zC (.bl false)))
    zNext))
    (zSeq (zIf (zAnd (zT (zB (rEqZ K) (zCB (rLenZ K) (zCons (zB (rIxZ K) (zV 0) (zC (.int 4))) zNil)) (zC (.int 2)))) (zT (zB rGe (zB (rIxZ K) (zB (rIxZ K) (zV 0) (zC (.int 4))) (zC (.int 0))) (zB (rIxZ K) (zB (rIxZ K) (zV 0) (zC (.int 4))) (zC (.int 1))))))
    (zRet (zC (.bl false)))
    zNext)
    (zRet (zOrV (zB rGt (zCB (rLenZ K) (zCons (zB (rIxZ K) (zV 0) (zC (.int 4))) zNil)) (zC (.int 0))) (zNotV (zB (rIxZ K) (zV 0) (zC (.int 5))))))))))

def N__law_value : List Str := ["_law_row_here", "_law_parts_here", "_law_part"]
def t__law_value (K : PySem.W.Frag) (w : World) (W : WX)  : TS :=
  (zSeq (zSet 1 (zB rAdd (zLst (zCons (zCB rStrZ (zCons (zB (rIxZ K) (zV 0) (zC (.int 0))) zNil)) (zCons (zCB rStrZ (zCons (zB (rIxZ K) (zV 0) (zC (.int 1))) zNil)) (zCons (zCB rStrZ (zCons (zB (rIxZ K) (zV 0) (zC (.int 2))) zNil)) (zCons (zCB rStrZ (zCons (zCB rIntZ (zCons (zB (rIxZ K) (zV 0) (zC (.int 5))) zNil)) zNil)) (zCons (zB (rIxZ K) (zV 0) (zC (.int 3))) zNil)))))) (zB (rIxZ K) (zV 0) (zC (.int 4)))))
    (zRet (zMs (rJoin K) (zC (.str "")) (zCons (zLc (ziL K (zV 1)) (gName 2) zYes (zB rAdd (zB rAdd (zCB rStrZ (zCons (zCB (rLenZ K) (zCons (zV 2) zNil)) zNil)) (zC (.str ":"))) (zV 2)) [2]) zNil))))

def N__law_row : List Str := ["_law_text_here", "_law_parts_here", "_law_numbers", "_law_row_here", "_law_part"]
def t__law_row (K : PySem.W.Frag) (w : World) (W : WX) (s__law_parts : Sp) (s__law_number : Sp) (s__law_good : Sp) : TS :=
  (zSeq (zSet 1 (zCall s__law_parts W (zCons (zV 0) zNil)))
    (zSeq (zIf (zOr (zT (zB rIs (zV 1) (zC .non))) (zOr (zT (zB rLt (zCB (rLenZ K) (zCons (zV 1) zNil)) (zC (.int 5)))) (zT (zB (rNotInZ K) (zB (rIxZ K) (zV 1) (zC (.int 3))) (zTup (zCons (zC (.str "0")) (zCons (zC (.str "1")) zNil)))))))
    (zRet (zC .non))
    zNext)
    (zSeq (zSet 2 (zLc (ziL K (zSl (rSlZ K) (zV 1) zNo (zPt (zC (.int 3))))) (gName 4) zYes (zCall s__law_number WN (zCons (zV 4) zNil)) [4]))
    (zSeq (zIf (zOr (zT (zB rIs (zB (rIxZ K) (zV 2) (zC (.int 0))) (zC .non))) (zOr (zT (zB rIs (zB (rIxZ K) (zV 2) (zC (.int 1))) (zC .non))) (zT (zB rIs (zB (rIxZ K) (zV 2) (zC (.int 2))) (zC .non)))))
    (zRet (zC .non))
    zNext)
    (zSeq (zSet 3 (zTup (zCons (zB (rIxZ K) (zV 2) (zC (.int 0))) (zCons (zB (rIxZ K) (zV 2) (zC (.int 1))) (zCons (zB (rIxZ K) (zV 2) (zC (.int 2))) (zCons (zB (rIxZ K) (zV 1) (zC (.int 4))) (zCons (zSl (rSlZ K) (zV 1) (zPt (zC (.int 5))) zNo) (zCons (zB (rEqZ K) (zB (rIxZ K) (zV 1) (zC (.int 3))) (zC (.str "1"))) zNil))))))))
    (zSeq (zIf (zNot (zTr K (zCall s__law_good W (zCons (zV 3) zNil))))
    (zRet (zC .non))
    zNext)
    (zRet (zV 3))))))))

def N__law_is : List Str := ["_law_record", "_law_row_here"]
def t__law_is (K : PySem.W.Frag) (w : World) (W : WX) (s_record_value : Sp) (s__law_value : Sp) : TS :=
  (zSeq (zIf (zT (zB (rNeZ K) (zTup (zCons (zFld (He.ga K "Record") "x" (zV 0)) (zCons (zFld (He.ga K "Record") "y" (zV 0)) (zCons (zFld (He.ga K "Record") "label" (zV 0)) (zCons (zFld (He.ga K "Record") "text" (zV 0)) zNil))))) (zSl (rSlZ K) (zV 1) zNo (zPt (zC (.int 4))))))
    (zRet (zC (.bl false)))
    zNext)
    (zSeq (zIf (zOr (zNot (zTr K (zCB rIsiZ (zCons (zFld (He.ga K "Record") "holders" (zV 0)) (zCons (zC (.ty "list")) zNil))))) (zT (zB (rNeZ K) (zFld (He.ga K "Record") "holders" (zV 0)) (zB (rIxZ K) (zV 1) (zC (.int 4))))))
    (zRet (zC (.bl false)))
    zNext)
    (zRet (zAndV (zCB rIsiZ (zCons (zFld (He.ga K "Record") "due" (zV 0)) (zCons (zC (.ty "bool")) zNil))) (zAndV (zB (rEqZ K) (zFld (He.ga K "Record") "due" (zV 0)) (zB (rIxZ K) (zV 1) (zC (.int 5)))) (zB (rEqZ K) (zCall s_record_value W (zCons (zV 0) zNil)) (zCall s__law_value W (zCons (zV 1) zNil))))))))

def N__law_made : List Str := ["_law_row_here", "_law_holders", "_law_record", "e"]
def t__law_made (K : PySem.W.Frag) (w : World) (W : WX) (s_Record___init__ : Sp) (s__law_good : Sp) (s__law_is : Sp) : TS :=
  (zSeq (zSet 1 (zCB (rListZ K) (zCons (zB (rIxZ K) (zV 0) (zC (.int 4))) zNil)))
    (zSeq (zTryAs K (.ref (He.ga K "NotAllowed")) 3 (fun W1 => (zSet 2 (zMake (He.ga K "Record") s_Record___init__ W1 (zCons (zB (rIxZ K) (zV 0) (zC (.int 0))) (zCons (zB (rIxZ K) (zV 0) (zC (.int 1))) (zCons (zB (rIxZ K) (zV 0) (zC (.int 2))) (zCons (zB (rIxZ K) (zV 0) (zC (.int 3))) (zCons (zV 1) (zCons (zB (rIxZ K) (zV 0) (zC (.int 5))) zNil))))))))) (fun a1 c1 d1 => (zRet (zAndV (zNotV (zCall s__law_good WN (zCons (zV 0) zNil))) (zAndV (zIsE (He.ga K "NotAllowed") a1 c1 d1 3 true) (zNotV (zIsET (He.ga K "NotAllowed") a1 c1 d1 3 [.ref (He.ga K "BadForm"), .ref (He.ga K "Full")] false)))))) W)
    (zSeq (zIf (zOr (zNot (zTr K (zCall s__law_good W (zCons (zV 0) zNil)))) (zOr (zNot (zTr K (zCall s__law_is W (zCons (zV 2) (zCons (zV 0) zNil))))) (zT (zB (rNeZ K) (zV 1) (zB (rIxZ K) (zV 0) (zC (.int 4)))))))
    (zRet (zC (.bl false)))
    zNext)
    (zSeq (zDrop (zMl K rAppZ (zV 1) (zCons (zC (.str "q")) zNil)))
    (zRet (zCall s__law_is W (zCons (zV 2) (zCons (zV 0) zNil))))))))

def N__law_read : List Str := ["_law_text_here", "_law_row_here", "_law_record", "e"]
def t__law_read (K : PySem.W.Frag) (w : World) (W : WX) (s__law_row : Sp) (s_record_from_value : Sp) (s__law_is : Sp) : TS :=
  (zSeq (zSet 1 (zCall s__law_row W (zCons (zV 0) zNil)))
    (zSeq (zTryAs K (.ref (He.ga K "BadForm")) 3 (fun W1 => (zSet 2 (zCall s_record_from_value W1 (zCons (zV 0) zNil)))) (fun a1 c1 d1 => (zRet (zAndV (zB rIs (zV 1) (zC .non)) (zAndV (zIsE (He.ga K "BadForm") a1 c1 d1 3 true) (zNotV (zIsET (He.ga K "BadForm") a1 c1 d1 3 [.ref (He.ga K "NotAllowed"), .ref (He.ga K "Full")] false)))))) WN)
    (zRet (zAndV (zB rIsN (zV 1) (zC .non)) (zCall s__law_is W (zCons (zV 2) (zCons (zV 1) zNil)))))))

def N__law_spoilt : List Str := ["_law_numbers", "_law_text_here", "_law_place", "_law_sign"]
def t__law_spoilt (K : PySem.W.Frag) (w : World) (W : WX) (s__law_pick : Sp) : TS :=
  (zSeq (zSet 2 (zCall s__law_pick W (zCons (zV 0) (zCons (zC (.int 1)) (zCons (zB rAdd (zCB (rLenZ K) (zCons (zV 1) zNil)) (zC (.int 1))) zNil)))))
    (zSeq (zSet 3 (zB (rIxZ K) (zC (.str "0123456789:a\"A")) (zCall s__law_pick W (zCons (zV 0) (zCons (zC (.int 2)) (zCons (zC (.int 14)) zNil))))))
    (zRet (zB rAdd (zB rAdd (zSl (rSlZ K) (zV 1) zNo (zPt (zV 2))) (zB rMul (zV 3) (zCall s__law_pick W (zCons (zV 0) (zCons (zC (.int 3)) (zCons (zC (.int 2)) zNil)))))) (zSl (rSlZ K) (zV 1) (zPt (zB rAdd (zV 2) (zCall s__law_pick W (zCons (zV 0) (zCons (zC (.int 4)) (zCons (zC (.int 2)) zNil)))))) zNo)))))

def N_law : List Str := ["_law_script", "_law_numbers", "_law_near", "_law_row_here", "_law_text_here", "_law_menu", "_law_holders", "_law_whole", "_law_good_here", "_law_told", "_law_k"]
def t_law (K : PySem.W.Frag) (w : World) (W : WX) (s__law_stream : Sp) (s__law_pick : Sp) (s__law_text : Sp) (s__law_made : Sp) (s__law_read : Sp) (s__law_value : Sp) (s__law_spoilt : Sp) (s_is_record_text : Sp) : TS :=
  (zSeq (zSet 1 (zCall s__law_stream W (zCons (zV 0) zNil)))
    (zSeq (zIf (zT (zB (rNeZ K) (zLst (zCons (zC (.int 8)) (zCons (zC (.int 2)) (zCons (zC (.int 16)) zNil)))) (zLst (zCons (zC (.int 8)) (zCons (zC (.int 2)) (zCons (zC (.int 16)) zNil))))))
    (zRet (zC (.bl false)))
    zNext)
    (zSeq (zSet 2 (zB (rEqZ K) (zCall s__law_pick W (zCons (zV 1) (zCons (zC (.int 0)) (zCons (zC (.int 3)) zNil)))) (zC (.int 0))))
    (zSeq (zSet 3 (zLst (zCons (zCall s__law_pick W (zCons (zV 1) (zCons (zC (.int 5)) (zCons (zC (.int 100)) zNil)))) (zCons (zCall s__law_pick W (zCons (zV 1) (zCons (zC (.int 6)) (zCons (zC (.int 100)) zNil)))) (zCons (zCall s__law_pick W (zCons (zV 1) (zCons (zC (.int 7)) (zCons (zC (.int 4)) zNil)))) zNil)))))
    (zSeq (zIf (zTr K (zV 2))
    (zSet 3 (zLst (zCons (zB rSub (zB rAdd (zB (rIxZ K) (zV 3) (zC (.int 0))) (zCall s__law_pick W (zCons (zV 1) (zCons (zC (.int 8)) (zCons (zC (.int 3)) zNil))))) (zC (.int 1))) (zCons (zB rSub (zB rAdd (zB (rIxZ K) (zV 3) (zC (.int 1))) (zCall s__law_pick W (zCons (zV 1) (zCons (zC (.int 9)) (zCons (zC (.int 3)) zNil))))) (zC (.int 1))) (zCons (zB rAdd (zB (rIxZ K) (zV 3) (zC (.int 2))) (zC (.int 1))) zNil)))))
    zNext)
    (zSeq (zSet 4 (zCall s__law_text W (zCons (zV 1) (zCons (zC (.int 20)) (zCons (zCall s__law_pick W (zCons (zV 1) (zCons (zC (.int 10)) (zCons (zB rAdd (zC (.int 17)) (zCB rIntZ (zCons (zV 2) zNil))) zNil)))) (zCons (zB (rEqZ K) (zCall s__law_pick W (zCons (zV 1) (zCons (zC (.int 11)) (zCons (zC (.int 2)) zNil)))) (zC (.int 0))) zNil))))))
    (zSeq (zIf (zNot (zTr K (zV 2)))
    (zSet 4 (zRep "\"" "'" (zV 4)))
    zNext)
    (zSeq (zSet 5 (zLst (zCons (zC (.str "a")) (zCons (zC (.str "b")) (zCons (zC (.str "zz")) (zCons (zC (.str "0")) (zCons (zC (.str "k9z0")) (zCons (zC (.str "kk")) zNil))))))))
    (zSeq (zIf (zTr K (zV 2))
    (zSet 5 (zLst (zCons (zC (.str "a")) (zCons (zC (.str "b")) (zCons (zC (.str "")) (zCons (zC (.str "A")) (zCons (zC (.str "kkkkk")) (zCons (zC (.str "b")) zNil))))))))
    zNext)
    (zSeq (zSet 6 (zLc (ziR1 (zCons (zCall s__law_pick W (zCons (zV 1) (zCons (zC (.int 15)) (zCons (zB rAdd (zC (.int 3)) (zCB rIntZ (zCons (zV 2) zNil))) zNil)))) zNil)) (gName 10) zYes (zB (rIxZ K) (zV 5) (zCall s__law_pick WN (zCons (zV 1) (zCons (zB rAdd (zC (.int 12)) (zV 10)) (zCons (zC (.int 6)) zNil))))) [10]))
    (zSeq (zIf (zT (zB rGt (zCall s__law_pick W (zCons (zV 1) (zCons (zC (.int 16)) (zCons (zC (.int 4)) zNil)))) (zC (.int 0))))
    (zSet 6 (zCB (rSortedS K) (zCons (zV 6) zNil)))
    zNext)
    (zSeq (zSet 7 (zTup (zCons (zB (rIxZ K) (zV 3) (zC (.int 0))) (zCons (zB (rIxZ K) (zV 3) (zC (.int 1))) (zCons (zB (rIxZ K) (zV 3) (zC (.int 2))) (zCons (zV 4) (zCons (zV 6) (zCons (zB (rEqZ K) (zCall s__law_pick W (zCons (zV 1) (zCons (zC (.int 17)) (zCons (zC (.int 2)) zNil)))) (zC (.int 0))) zNil))))))))
    (zSeq (zIf (zOr (zNot (zTr K (zCall s__law_made W (zCons (zV 7) zNil)))) (zOr (zNot (zTr K (zCall s__law_read W (zCons (zCall s__law_value W (zCons (zV 7) zNil)) zNil)))) (zNot (zTr K (zCall s__law_read W (zCons (zCall s__law_spoilt W (zCons (zV 1) (zCons (zCall s__law_value W (zCons (zV 7) zNil)) zNil))) zNil))))))
    (zRet (zC (.bl false)))
    zNext)
    (zSeq (zSet 8 (zAndV (zB rLe (zCB (rLenZ K) (zCons (zV 4) zNil)) (zC (.int 16))) (zB rLt (zMs rFind (zV 4) (zCons (zC (.str "\"")) zNil)) (zC (.int 0)))))
    (zSeq (zSet 9 (zCall s_is_record_text W (zCons (zV 4) zNil)))
    (zRet (zAndV (zCB rIsiZ (zCons (zV 9) (zCons (zC (.ty "bool")) zNil))) (zAndV (zB (rEqZ K) (zV 9) (zV 8)) (zCall s__law_read W (zCons (zC (.str "")) zNil))))))))))))))))))))
end Z
namespace Z
open PySem PySem.Spec PyProof.Rows L2 TL
local macro_rules | `(tactic| walk_at "ev") => `(tactic| (repeat' (first | apply ev_or' | apply ev_and' | apply ev_not | apply ev_t | apply ev_tr | apply ev_orV' | apply ev_andV' | apply ev_notV | apply ev_chI | apply ev_chS)))
local macro_rules | `(tactic| walk_at "if") => `(tactic| (apply if_of; focus (walk_at "ev" <;> walk_at "leaf")))
local macro_rules | `(tactic| walk_at "side") => `(tactic| first
  | exact line_of (by (try simp only [List.length_append, List.length_cons, List.length_nil, len_mkS, List.length_map, List.length_take, List.length_drop]); omega)
  | exact line_lt (by (try simp only [List.length_append, List.length_cons, List.length_nil, len_mkS, List.length_map, List.length_take, List.length_drop]); omega)
  | exact log_nat (by omega)
  | exact log_int (by omega)
  | rfl
  | omega
  | decide
  | assumption)
local macro_rules | `(tactic| walk_at "val") => `(tactic| ((first | apply use_andV | apply use_orV | apply use_notV | apply use_ch); focus (walk_at "ev" <;> walk_at "leaf")))
abbrev DD (H : Hp) (Q : VK) : Ends := { nx := fun _ H' => RQ H Q .non H', rt := RQ H Q }
/-! ### pack -/
def packP (l : List Nat) : List Nat := numL l.length ++ ([58] ++ l)
def packS (ls : List (List Nat)) : List Nat := (ls.map packP).flatten
abbrev SS (ls : List (List Nat)) : List V := ls.map fun l => V.str (mkS l)
def sp_pack (K : PySem.W.Frag) : Sp := fun vs H Q E => ∃ p ls, vs = [.ref p] ∧ H p = some (.lst (SS ls)) ∧ ls.length ≤ 1000 ∧ (∀ l ∈ ls, l.length ≤ 10000) ∧ NoDT H ∧ Q (.str (mkS (packS ls))) H
theorem joinL_nil : ∀ ls : List (List Nat), joinL [] ls = ls.flatten
  | [] => rfl
  | [a] => by simp [joinL]
  | a :: b :: r => by
    have ih := joinL_nil (b :: r)
    simp [joinL] at ih ⊢
    exact ih
theorem cs_colon : cs ":" = [58] := by decide
theorem cs_empty : cs "" = [] := by decide
theorem numL_len9 {n : Nat} (h : n ≤ 100000000) : (numL n).length ≤ 9 := numL_len (k := 9) (by decide) (by omega)
theorem sum_map_le {α : Type} {f : α → Nat} {m : Nat} : ∀ {l : List α}, (∀ a ∈ l, f a ≤ m) → (l.map f).sum ≤ l.length * m
  | [], _ => by simp
  | a :: r, h => by
    have h1 := h a List.mem_cons_self
    have h2 := sum_map_le (l := r) fun b hb => h b (List.mem_cons_of_mem _ hb)
    simp only [List.map_cons, List.sum_cons, List.length_cons, Nat.succ_mul]
    omega
local macro_rules | `(tactic| simp only [seval]) => `(tactic| simp only [zV_eq, vcase_some, ix_zero, ix_succ, set_zero, set_succ, start_cons, start_none, start_nil, zC_eq, zB_eq, kB1_eq, kB2_eq, zU_eq, kU_eq, kCh1_eq, kCh2_eq, kCh3_t, kCh3_f, zT_eq, kT_bl, zTr_eq, kTr_bl, kTr_non, kTr_int, kTr_str, zAnd_eq, zOr_eq, zNot_eq, kNot_eq, kAnd_t, kAnd_f, kOr_t, kOr_f, zNotV_eq, kAndV_t, kAndV_f, kOrV_t, kOrV_f, kNotV_bl, kIfE_t, kIfE_f, zNil_eq, zCons_eq, kArg1_eq, kArg2_eq, zTup_eq, zLst_eq, kTup_eq, kLst_eq, thnE_nx, thnE_rt, thnE_bk, thnE_ct, mk_nx, mk_rt, mk_bk, mk_ct, zSeq_eq, zNext_eq, zBreak_eq, zCont_eq, zSet_eq, kSet_eq, zDrop_eq, kDrop_eq, zRet_eq, zRetN_eq, kIf_t, kIf_f, tl_mkS, cps_mkS, len_mkS, app_mkS, mkS_eq, V_int, V_str, V_bl, V_ref, dec_T, dec_F, not_t, not_f, and_T, T_and, upd_at, rAdd_int, rAdd_str, rAdd_ref, catO_lst, rI2_int, rI20_int, rMul_int, rMul_str, rMul_ref, repO_lst, rOrd_int, rOrd_str, rEqG_int, rEqG_str, rEqG_bl, rEqG_nn, rEqG_ni, rEqG_in, rEqG_ns, rEqG_sn, rEqG_is, rEqG_si, bne_ff, bne_tt, zCall_eq, kCall_eq, zMeth_eq, kMe2_eq, kMe1_eq, insO_eq, zMake_eq, fldO_eq, kFld_eq, zFld_eq, sfO_eq, kSf2_eq, kSf1_eq, zSetF_eq, chQ_eq, rIxZ_str, rIxZ_ref, ixO_lst, ixO_tup, ixO_frz, atI_zero, atI_1, atI_2, atI_3, atI_4, atI_5, atI_6, atI_7, atI_8, atI_9, atI_10, atI_11, atI_12, atI_13, atI_14, atI_15, zSl_eq, kS1_eq, kS2_eq, kS3_eq, zNo_eq, kPt_eq, zPt_eq, rSlZ_str, rSlZ_ref, slO_lst, slO_frz, slO_tup, V_lit, V_mk1, zCB_eq, kCB_eq, rLenZ_str, rLenZ_ref, lenO_lst, lenO_tup, lenO_dK, lenO_frz, intQ_eq, rIntZ_int, rIntZ_bl, rIntZ_str, rStrZ_int, rStrZ_str, rOrdZ_str, rMax2_eq, rMin2_eq, rListZ_eq, lofO_lst, lofO_tup, isNon_non, isNon_int, isNon_str, isNon_bl, isNon_ref, rIs_eq, rIsN_eq, rInZ_str, rNotInZ_str, rInZ_ref, rNotInZ_ref, zMs_eq, kMs_eq, kM2_eq, isL_lst, zMl_eq, kMl_eq, rS0_eq, rS1_eq, rFind1, rFind2, rJoin_eq, rAppZ_eq, appO_eq, zFm_eq, kFm_str, kFm_int, kJq_eq, tJs_nil, tJs_cons, kJs_str, zJs_eq, zRaise_eq, zTryAs_eq, zTry_eq, gName_eq, gNil_eq, kG_eq, gCons_eq, tupO_eq, zgT_eq, kAsg_eq, zAsg_eq, kAug2_eq, kAug1_eq, augC_eq, zAug_eq, rAddI_int, rAddI_str, loopE_nx, loopE_ct, loopE_bk, loopE_rt, zFor_eq, ziL_eq, kiL_eq, ziT_eq, kiT_eq, ziS_eq, kiS_eq, ziR1_eq, kiR1_eq, ziR2_eq, kiR2_eq, kWh_f, zLc_eq, zYes_eq, wipe_nil, wipe_cons, kIt_t, kIt_f, kTg_eq, WE_eq, W0_eq, rNeg_eq, rStarts_eq, rZfill_eq, rPart_eq, rSplit_eq, rPopZ_eq, popO_eq, atI_0, cmul_r, cdiv_r, dec_and, len_nil', len_cons', upd_upd', zRaiseF_eq, lstO_eq, zgL_eq, zIsE_eq, zIsET_eq, rIsiZ_bl, rIsiZ_rf, isiL_eq, zRep_eq, kRep_eq, Int.isPosValue, Int.reduceAbs, Int.reduceAdd, Int.reduceBEq, Int.reduceBNe, Int.reduceBdiv, Int.reduceBmod, Int.reduceDiv, Int.reduceDvd, Int.reduceEq, Int.reduceFDiv, Int.reduceFMod, Int.reduceGE, Int.reduceGT, Int.reduceLE, Int.reduceLT, Int.reduceMod, Int.reduceMul, Int.reduceNe, Int.reduceNeg, Int.reduceNegSucc, Int.reduceOfNat, Int.reducePow, Int.reduceSub, Int.reduceTDiv, Int.reduceTMod, Int.reduceToNat, List.reduceReplicate, Nat.isValue, Nat.reduceAdd, Nat.reduceAnd, Nat.reduceBEq, Nat.reduceBNe, Nat.reduceBeqDiff, Nat.reduceBneDiff, Nat.reduceDiv, Nat.reduceDvd, Nat.reduceEqDiff, Nat.reduceGT, Nat.reduceGcd, Nat.reduceLT, Nat.reduceLeDiff, Nat.reduceMod, Nat.reduceMul, Nat.reduceOr, Nat.reducePow, Nat.reduceShiftLeft, Nat.reduceShiftRight, Nat.reduceSub, Nat.reduceSubDiff, Nat.reduceSucc, Nat.reduceXor, dreduceDIte, dreduceIte, reduceCtorEq, reduceDIte, reduceIte])
local macro_rules | `(tactic| simp only [seval, $xs,*]) => `(tactic| simp only [zV_eq, vcase_some, ix_zero, ix_succ, set_zero, set_succ, start_cons, start_none, start_nil, zC_eq, zB_eq, kB1_eq, kB2_eq, zU_eq, kU_eq, kCh1_eq, kCh2_eq, kCh3_t, kCh3_f, zT_eq, kT_bl, zTr_eq, kTr_bl, kTr_non, kTr_int, kTr_str, zAnd_eq, zOr_eq, zNot_eq, kNot_eq, kAnd_t, kAnd_f, kOr_t, kOr_f, zNotV_eq, kAndV_t, kAndV_f, kOrV_t, kOrV_f, kNotV_bl, kIfE_t, kIfE_f, zNil_eq, zCons_eq, kArg1_eq, kArg2_eq, zTup_eq, zLst_eq, kTup_eq, kLst_eq, thnE_nx, thnE_rt, thnE_bk, thnE_ct, mk_nx, mk_rt, mk_bk, mk_ct, zSeq_eq, zNext_eq, zBreak_eq, zCont_eq, zSet_eq, kSet_eq, zDrop_eq, kDrop_eq, zRet_eq, zRetN_eq, kIf_t, kIf_f, tl_mkS, cps_mkS, len_mkS, app_mkS, mkS_eq, V_int, V_str, V_bl, V_ref, dec_T, dec_F, not_t, not_f, and_T, T_and, upd_at, rAdd_int, rAdd_str, rAdd_ref, catO_lst, rI2_int, rI20_int, rMul_int, rMul_str, rMul_ref, repO_lst, rOrd_int, rOrd_str, rEqG_int, rEqG_str, rEqG_bl, rEqG_nn, rEqG_ni, rEqG_in, rEqG_ns, rEqG_sn, rEqG_is, rEqG_si, bne_ff, bne_tt, zCall_eq, kCall_eq, zMeth_eq, kMe2_eq, kMe1_eq, insO_eq, zMake_eq, fldO_eq, kFld_eq, zFld_eq, sfO_eq, kSf2_eq, kSf1_eq, zSetF_eq, chQ_eq, rIxZ_str, rIxZ_ref, ixO_lst, ixO_tup, ixO_frz, atI_zero, atI_1, atI_2, atI_3, atI_4, atI_5, atI_6, atI_7, atI_8, atI_9, atI_10, atI_11, atI_12, atI_13, atI_14, atI_15, zSl_eq, kS1_eq, kS2_eq, kS3_eq, zNo_eq, kPt_eq, zPt_eq, rSlZ_str, rSlZ_ref, slO_lst, slO_frz, slO_tup, V_lit, V_mk1, zCB_eq, kCB_eq, rLenZ_str, rLenZ_ref, lenO_lst, lenO_tup, lenO_dK, lenO_frz, intQ_eq, rIntZ_int, rIntZ_bl, rIntZ_str, rStrZ_int, rStrZ_str, rOrdZ_str, rMax2_eq, rMin2_eq, rListZ_eq, lofO_lst, lofO_tup, isNon_non, isNon_int, isNon_str, isNon_bl, isNon_ref, rIs_eq, rIsN_eq, rInZ_str, rNotInZ_str, rInZ_ref, rNotInZ_ref, zMs_eq, kMs_eq, kM2_eq, isL_lst, zMl_eq, kMl_eq, rS0_eq, rS1_eq, rFind1, rFind2, rJoin_eq, rAppZ_eq, appO_eq, zFm_eq, kFm_str, kFm_int, kJq_eq, tJs_nil, tJs_cons, kJs_str, zJs_eq, zRaise_eq, zTryAs_eq, zTry_eq, gName_eq, gNil_eq, kG_eq, gCons_eq, tupO_eq, zgT_eq, kAsg_eq, zAsg_eq, kAug2_eq, kAug1_eq, augC_eq, zAug_eq, rAddI_int, rAddI_str, loopE_nx, loopE_ct, loopE_bk, loopE_rt, zFor_eq, ziL_eq, kiL_eq, ziT_eq, kiT_eq, ziS_eq, kiS_eq, ziR1_eq, kiR1_eq, ziR2_eq, kiR2_eq, kWh_f, zLc_eq, zYes_eq, wipe_nil, wipe_cons, kIt_t, kIt_f, kTg_eq, WE_eq, W0_eq, rNeg_eq, rStarts_eq, rZfill_eq, rPart_eq, rSplit_eq, rPopZ_eq, popO_eq, atI_0, cmul_r, cdiv_r, dec_and, len_nil', len_cons', upd_upd', zRaiseF_eq, lstO_eq, zgL_eq, zIsE_eq, zIsET_eq, rIsiZ_bl, rIsiZ_rf, isiL_eq, zRep_eq, kRep_eq, Int.isPosValue, Int.reduceAbs, Int.reduceAdd, Int.reduceBEq, Int.reduceBNe, Int.reduceBdiv, Int.reduceBmod, Int.reduceDiv, Int.reduceDvd, Int.reduceEq, Int.reduceFDiv, Int.reduceFMod, Int.reduceGE, Int.reduceGT, Int.reduceLE, Int.reduceLT, Int.reduceMod, Int.reduceMul, Int.reduceNe, Int.reduceNeg, Int.reduceNegSucc, Int.reduceOfNat, Int.reducePow, Int.reduceSub, Int.reduceTDiv, Int.reduceTMod, Int.reduceToNat, List.reduceReplicate, Nat.isValue, Nat.reduceAdd, Nat.reduceAnd, Nat.reduceBEq, Nat.reduceBNe, Nat.reduceBeqDiff, Nat.reduceBneDiff, Nat.reduceDiv, Nat.reduceDvd, Nat.reduceEqDiff, Nat.reduceGT, Nat.reduceGcd, Nat.reduceLT, Nat.reduceLeDiff, Nat.reduceMod, Nat.reduceMul, Nat.reduceOr, Nat.reducePow, Nat.reduceShiftLeft, Nat.reduceShiftRight, Nat.reduceSub, Nat.reduceSubDiff, Nat.reduceSucc, Nat.reduceXor, dreduceDIte, dreduceIte, reduceCtorEq, reduceDIte, reduceIte, $xs,*])
local macro_rules | `(tactic| walk_at "z") => `(tactic| simp only [zV_eq, vcase_some, ix_zero, ix_succ, set_zero, set_succ, start_cons, start_none, start_nil, zC_eq, zB_eq, kB1_eq, kB2_eq, zU_eq, kU_eq, kCh1_eq, kCh2_eq, kCh3_t, kCh3_f, zT_eq, kT_bl, zTr_eq, kTr_bl, kTr_non, kTr_int, kTr_str, zAnd_eq, zOr_eq, zNot_eq, kNot_eq, kAnd_t, kAnd_f, kOr_t, kOr_f, zNotV_eq, kAndV_t, kAndV_f, kOrV_t, kOrV_f, kNotV_bl, kIfE_t, kIfE_f, zNil_eq, zCons_eq, kArg1_eq, kArg2_eq, zTup_eq, zLst_eq, kTup_eq, kLst_eq, thnE_nx, thnE_rt, thnE_bk, thnE_ct, mk_nx, mk_rt, mk_bk, mk_ct, zSeq_eq, zNext_eq, zBreak_eq, zCont_eq, zSet_eq, kSet_eq, zDrop_eq, kDrop_eq, zRet_eq, zRetN_eq, kIf_t, kIf_f, tl_mkS, cps_mkS, len_mkS, app_mkS, mkS_eq, V_int, V_str, V_bl, V_ref, dec_T, dec_F, not_t, not_f, and_T, T_and, upd_at, rAdd_int, rAdd_str, rAdd_ref, catO_lst, rI2_int, rI20_int, rMul_int, rMul_str, rMul_ref, repO_lst, rOrd_int, rOrd_str, rEqG_int, rEqG_str, rEqG_bl, rEqG_nn, rEqG_ni, rEqG_in, rEqG_ns, rEqG_sn, rEqG_is, rEqG_si, bne_ff, bne_tt, zCall_eq, kCall_eq, zMeth_eq, kMe2_eq, kMe1_eq, insO_eq, zMake_eq, fldO_eq, kFld_eq, zFld_eq, sfO_eq, kSf2_eq, kSf1_eq, zSetF_eq, chQ_eq, rIxZ_str, rIxZ_ref, ixO_lst, ixO_tup, ixO_frz, atI_zero, atI_1, atI_2, atI_3, atI_4, atI_5, atI_6, atI_7, atI_8, atI_9, atI_10, atI_11, atI_12, atI_13, atI_14, atI_15, zSl_eq, kS1_eq, kS2_eq, kS3_eq, zNo_eq, kPt_eq, zPt_eq, rSlZ_str, rSlZ_ref, slO_lst, slO_frz, slO_tup, V_lit, V_mk1, zCB_eq, kCB_eq, rLenZ_str, rLenZ_ref, lenO_lst, lenO_tup, lenO_dK, lenO_frz, intQ_eq, rIntZ_int, rIntZ_bl, rIntZ_str, rStrZ_int, rStrZ_str, rOrdZ_str, rMax2_eq, rMin2_eq, rListZ_eq, lofO_lst, lofO_tup, isNon_non, isNon_int, isNon_str, isNon_bl, isNon_ref, rIs_eq, rIsN_eq, rInZ_str, rNotInZ_str, rInZ_ref, rNotInZ_ref, zMs_eq, kMs_eq, kM2_eq, isL_lst, zMl_eq, kMl_eq, rS0_eq, rS1_eq, rFind1, rFind2, rJoin_eq, rAppZ_eq, appO_eq, zFm_eq, kFm_str, kFm_int, kJq_eq, tJs_nil, tJs_cons, kJs_str, zJs_eq, zRaise_eq, zTryAs_eq, zTry_eq, gName_eq, gNil_eq, kG_eq, gCons_eq, tupO_eq, zgT_eq, kAsg_eq, zAsg_eq, kAug2_eq, kAug1_eq, augC_eq, zAug_eq, rAddI_int, rAddI_str, loopE_nx, loopE_ct, loopE_bk, loopE_rt, zFor_eq, ziL_eq, kiL_eq, ziT_eq, kiT_eq, ziS_eq, kiS_eq, ziR1_eq, kiR1_eq, ziR2_eq, kiR2_eq, kWh_f, zLc_eq, zYes_eq, wipe_nil, wipe_cons, kIt_t, kIt_f, kTg_eq, WE_eq, W0_eq, rNeg_eq, rStarts_eq, rZfill_eq, rPart_eq, rSplit_eq, rPopZ_eq, popO_eq, atI_0, cmul_r, cdiv_r, dec_and, len_nil', len_cons', upd_upd', zRaiseF_eq, lstO_eq, zgL_eq, zIsE_eq, zIsET_eq, rIsiZ_bl, rIsiZ_rf, isiL_eq, zRep_eq, kRep_eq, Int.isPosValue, Int.reduceAbs, Int.reduceAdd, Int.reduceBEq, Int.reduceBNe, Int.reduceBdiv, Int.reduceBmod, Int.reduceDiv, Int.reduceDvd, Int.reduceEq, Int.reduceFDiv, Int.reduceFMod, Int.reduceGE, Int.reduceGT, Int.reduceLE, Int.reduceLT, Int.reduceMod, Int.reduceMul, Int.reduceNe, Int.reduceNeg, Int.reduceNegSucc, Int.reduceOfNat, Int.reducePow, Int.reduceSub, Int.reduceTDiv, Int.reduceTMod, Int.reduceToNat, List.reduceReplicate, Nat.isValue, Nat.reduceAdd, Nat.reduceAnd, Nat.reduceBEq, Nat.reduceBNe, Nat.reduceBeqDiff, Nat.reduceBneDiff, Nat.reduceDiv, Nat.reduceDvd, Nat.reduceEqDiff, Nat.reduceGT, Nat.reduceGcd, Nat.reduceLT, Nat.reduceLeDiff, Nat.reduceMod, Nat.reduceMul, Nat.reduceOr, Nat.reducePow, Nat.reduceShiftLeft, Nat.reduceShiftRight, Nat.reduceSub, Nat.reduceSubDiff, Nat.reduceSucc, Nat.reduceXor, dreduceDIte, dreduceIte, reduceCtorEq, reduceDIte, reduceIte, *])
local macro_rules | `(tactic| walk_at "s") => `(tactic| simp only [zV_eq, vcase_some, ix_zero, ix_succ, set_zero, set_succ, start_cons, start_none, start_nil, zC_eq, zB_eq, kB1_eq, kB2_eq, zU_eq, kU_eq, kCh1_eq, kCh2_eq, kCh3_t, kCh3_f, zT_eq, kT_bl, zTr_eq, kTr_bl, kTr_non, kTr_int, kTr_str, zAnd_eq, zOr_eq, zNot_eq, kNot_eq, kAnd_t, kAnd_f, kOr_t, kOr_f, zNotV_eq, kAndV_t, kAndV_f, kOrV_t, kOrV_f, kNotV_bl, kIfE_t, kIfE_f, zNil_eq, zCons_eq, kArg1_eq, kArg2_eq, zTup_eq, zLst_eq, kTup_eq, kLst_eq, thnE_nx, thnE_rt, thnE_bk, thnE_ct, mk_nx, mk_rt, mk_bk, mk_ct, zSeq_eq, zNext_eq, zBreak_eq, zCont_eq, zSet_eq, kSet_eq, zDrop_eq, kDrop_eq, zRet_eq, zRetN_eq, kIf_t, kIf_f, tl_mkS, cps_mkS, len_mkS, app_mkS, mkS_eq, V_int, V_str, V_bl, V_ref, dec_T, dec_F, not_t, not_f, and_T, T_and, upd_at, rAdd_int, rAdd_str, rAdd_ref, catO_lst, rI2_int, rI20_int, rMul_int, rMul_str, rMul_ref, repO_lst, rOrd_int, rOrd_str, rEqG_int, rEqG_str, rEqG_bl, rEqG_nn, rEqG_ni, rEqG_in, rEqG_ns, rEqG_sn, rEqG_is, rEqG_si, bne_ff, bne_tt, zCall_eq, kCall_eq, zMeth_eq, kMe2_eq, kMe1_eq, insO_eq, zMake_eq, fldO_eq, kFld_eq, zFld_eq, sfO_eq, kSf2_eq, kSf1_eq, zSetF_eq, chQ_eq, rIxZ_str, rIxZ_ref, ixO_lst, ixO_tup, ixO_frz, atI_zero, atI_1, atI_2, atI_3, atI_4, atI_5, atI_6, atI_7, atI_8, atI_9, atI_10, atI_11, atI_12, atI_13, atI_14, atI_15, zSl_eq, kS1_eq, kS2_eq, kS3_eq, zNo_eq, kPt_eq, zPt_eq, rSlZ_str, rSlZ_ref, slO_lst, slO_frz, slO_tup, V_lit, V_mk1, zCB_eq, kCB_eq, rLenZ_str, rLenZ_ref, lenO_lst, lenO_tup, lenO_dK, lenO_frz, intQ_eq, rIntZ_int, rIntZ_bl, rIntZ_str, rStrZ_int, rStrZ_str, rOrdZ_str, rMax2_eq, rMin2_eq, rListZ_eq, lofO_lst, lofO_tup, isNon_non, isNon_int, isNon_str, isNon_bl, isNon_ref, rIs_eq, rIsN_eq, rInZ_str, rNotInZ_str, rInZ_ref, rNotInZ_ref, zMs_eq, kMs_eq, kM2_eq, isL_lst, zMl_eq, kMl_eq, rS0_eq, rS1_eq, rFind1, rFind2, rJoin_eq, rAppZ_eq, appO_eq, zFm_eq, kFm_str, kFm_int, kJq_eq, tJs_nil, tJs_cons, kJs_str, zJs_eq, zRaise_eq, zTryAs_eq, zTry_eq, gName_eq, gNil_eq, kG_eq, gCons_eq, tupO_eq, zgT_eq, kAsg_eq, zAsg_eq, kAug2_eq, kAug1_eq, augC_eq, zAug_eq, rAddI_int, rAddI_str, loopE_nx, loopE_ct, loopE_bk, loopE_rt, zFor_eq, ziL_eq, kiL_eq, ziT_eq, kiT_eq, ziS_eq, kiS_eq, ziR1_eq, kiR1_eq, ziR2_eq, kiR2_eq, kWh_f, zLc_eq, zYes_eq, wipe_nil, wipe_cons, kIt_t, kIt_f, kTg_eq, WE_eq, W0_eq, rNeg_eq, rStarts_eq, rZfill_eq, rPart_eq, rSplit_eq, rPopZ_eq, popO_eq, atI_0, cmul_r, cdiv_r, dec_and, len_nil', len_cons', upd_upd', zRaiseF_eq, lstO_eq, zgL_eq, zIsE_eq, zIsET_eq, rIsiZ_bl, rIsiZ_rf, isiL_eq, zRep_eq, kRep_eq, Int.isPosValue, Int.reduceAbs, Int.reduceAdd, Int.reduceBEq, Int.reduceBNe, Int.reduceBdiv, Int.reduceBmod, Int.reduceDiv, Int.reduceDvd, Int.reduceEq, Int.reduceFDiv, Int.reduceFMod, Int.reduceGE, Int.reduceGT, Int.reduceLE, Int.reduceLT, Int.reduceMod, Int.reduceMul, Int.reduceNe, Int.reduceNeg, Int.reduceNegSucc, Int.reduceOfNat, Int.reducePow, Int.reduceSub, Int.reduceTDiv, Int.reduceTMod, Int.reduceToNat, List.reduceReplicate, Nat.isValue, Nat.reduceAdd, Nat.reduceAnd, Nat.reduceBEq, Nat.reduceBNe, Nat.reduceBeqDiff, Nat.reduceBneDiff, Nat.reduceDiv, Nat.reduceDvd, Nat.reduceEqDiff, Nat.reduceGT, Nat.reduceGcd, Nat.reduceLT, Nat.reduceLeDiff, Nat.reduceMod, Nat.reduceMul, Nat.reduceOr, Nat.reducePow, Nat.reduceShiftLeft, Nat.reduceShiftRight, Nat.reduceSub, Nat.reduceSubDiff, Nat.reduceSucc, Nat.reduceXor, dreduceDIte, dreduceIte, reduceCtorEq, reduceDIte, reduceIte])
local macro_rules | `(tactic| walk_at "leaf") => `(tactic| (intro Q q; revert q; simp only [zV_eq, vcase_some, ix_zero, ix_succ, set_zero, set_succ, start_cons, start_none, start_nil, zC_eq, zB_eq, kB1_eq, kB2_eq, zU_eq, kU_eq, kCh1_eq, kCh2_eq, kCh3_t, kCh3_f, zT_eq, kT_bl, zTr_eq, kTr_bl, kTr_non, kTr_int, kTr_str, zAnd_eq, zOr_eq, zNot_eq, kNot_eq, kAnd_t, kAnd_f, kOr_t, kOr_f, zNotV_eq, kAndV_t, kAndV_f, kOrV_t, kOrV_f, kNotV_bl, kIfE_t, kIfE_f, zNil_eq, zCons_eq, kArg1_eq, kArg2_eq, zTup_eq, zLst_eq, kTup_eq, kLst_eq, thnE_nx, thnE_rt, thnE_bk, thnE_ct, mk_nx, mk_rt, mk_bk, mk_ct, zSeq_eq, zNext_eq, zBreak_eq, zCont_eq, zSet_eq, kSet_eq, zDrop_eq, kDrop_eq, zRet_eq, zRetN_eq, kIf_t, kIf_f, tl_mkS, cps_mkS, len_mkS, app_mkS, mkS_eq, V_int, V_str, V_bl, V_ref, dec_T, dec_F, not_t, not_f, and_T, T_and, upd_at, rAdd_int, rAdd_str, rAdd_ref, catO_lst, rI2_int, rI20_int, rMul_int, rMul_str, rMul_ref, repO_lst, rOrd_int, rOrd_str, rEqG_int, rEqG_str, rEqG_bl, rEqG_nn, rEqG_ni, rEqG_in, rEqG_ns, rEqG_sn, rEqG_is, rEqG_si, bne_ff, bne_tt, zCall_eq, kCall_eq, zMeth_eq, kMe2_eq, kMe1_eq, insO_eq, zMake_eq, fldO_eq, kFld_eq, zFld_eq, sfO_eq, kSf2_eq, kSf1_eq, zSetF_eq, chQ_eq, rIxZ_str, rIxZ_ref, ixO_lst, ixO_tup, ixO_frz, atI_zero, atI_1, atI_2, atI_3, atI_4, atI_5, atI_6, atI_7, atI_8, atI_9, atI_10, atI_11, atI_12, atI_13, atI_14, atI_15, zSl_eq, kS1_eq, kS2_eq, kS3_eq, zNo_eq, kPt_eq, zPt_eq, rSlZ_str, rSlZ_ref, slO_lst, slO_frz, slO_tup, V_lit, V_mk1, zCB_eq, kCB_eq, rLenZ_str, rLenZ_ref, lenO_lst, lenO_tup, lenO_dK, lenO_frz, intQ_eq, rIntZ_int, rIntZ_bl, rIntZ_str, rStrZ_int, rStrZ_str, rOrdZ_str, rMax2_eq, rMin2_eq, rListZ_eq, lofO_lst, lofO_tup, isNon_non, isNon_int, isNon_str, isNon_bl, isNon_ref, rIs_eq, rIsN_eq, rInZ_str, rNotInZ_str, rInZ_ref, rNotInZ_ref, zMs_eq, kMs_eq, kM2_eq, isL_lst, zMl_eq, kMl_eq, rS0_eq, rS1_eq, rFind1, rFind2, rJoin_eq, rAppZ_eq, appO_eq, zFm_eq, kFm_str, kFm_int, kJq_eq, tJs_nil, tJs_cons, kJs_str, zJs_eq, zRaise_eq, zTryAs_eq, zTry_eq, gName_eq, gNil_eq, kG_eq, gCons_eq, tupO_eq, zgT_eq, kAsg_eq, zAsg_eq, kAug2_eq, kAug1_eq, augC_eq, zAug_eq, rAddI_int, rAddI_str, loopE_nx, loopE_ct, loopE_bk, loopE_rt, zFor_eq, ziL_eq, kiL_eq, ziT_eq, kiT_eq, ziS_eq, kiS_eq, ziR1_eq, kiR1_eq, ziR2_eq, kiR2_eq, kWh_f, zLc_eq, zYes_eq, wipe_nil, wipe_cons, kIt_t, kIt_f, kTg_eq, WE_eq, W0_eq, rNeg_eq, rStarts_eq, rZfill_eq, rPart_eq, rSplit_eq, rPopZ_eq, popO_eq, atI_0, cmul_r, cdiv_r, dec_and, len_nil', len_cons', upd_upd', zRaiseF_eq, lstO_eq, zgL_eq, zIsE_eq, zIsET_eq, rIsiZ_bl, rIsiZ_rf, isiL_eq, zRep_eq, kRep_eq, Int.isPosValue, Int.reduceAbs, Int.reduceAdd, Int.reduceBEq, Int.reduceBNe, Int.reduceBdiv, Int.reduceBmod, Int.reduceDiv, Int.reduceDvd, Int.reduceEq, Int.reduceFDiv, Int.reduceFMod, Int.reduceGE, Int.reduceGT, Int.reduceLE, Int.reduceLT, Int.reduceMod, Int.reduceMul, Int.reduceNe, Int.reduceNeg, Int.reduceNegSucc, Int.reduceOfNat, Int.reducePow, Int.reduceSub, Int.reduceTDiv, Int.reduceTMod, Int.reduceToNat, List.reduceReplicate, Nat.isValue, Nat.reduceAdd, Nat.reduceAnd, Nat.reduceBEq, Nat.reduceBNe, Nat.reduceBeqDiff, Nat.reduceBneDiff, Nat.reduceDiv, Nat.reduceDvd, Nat.reduceEqDiff, Nat.reduceGT, Nat.reduceGcd, Nat.reduceLT, Nat.reduceLeDiff, Nat.reduceMod, Nat.reduceMul, Nat.reduceOr, Nat.reducePow, Nat.reduceShiftLeft, Nat.reduceShiftRight, Nat.reduceSub, Nat.reduceSubDiff, Nat.reduceSucc, Nat.reduceXor, dreduceDIte, dreduceIte, reduceCtorEq, reduceDIte, reduceIte, *]; intro q; exact q))
theorem pure_pack (K : PySem.W.Frag) (w : World) : ∀ vs H Q E, WF H → sp_pack K vs H Q E → t_pack K w (W0 H E) (DD H Q) (L2.start N_pack vs) H := by
  rintro vs H Q E wf ⟨p, ls, rfl, hp, hn, hl, nd, hq⟩
  unfold t_pack N_pack
  walk_at "s"
  refine ⟨⟨_, SqL.of hp⟩, lcm_l (xs := SS ls) (ys := SS (ls.map packP)) (by simp) (line_lt (by simp; omega)) hp ?_ ?_⟩
  · intro D i x y Nx hD hx hy hN
    obtain ⟨l, hl', rfl⟩ : ∃ l, ls[i]? = some l ∧ x = .str (mkS l) := by
      rw [List.getElem?_map] at hx
      cases e : ls[i]? with
      | none => rw [e] at hx; cases hx
      | some l => rw [e] at hx; exact ⟨l, rfl, (Option.some.inj hx).symm⟩
    have ey : y = .str (mkS (packP l)) := by
      simp only [List.getElem?_map, hl', Option.map_some, Option.some.injEq] at hy
      exact hy.symm
    subst ey
    have hb := hl l (List.mem_of_getElem? hl')
    have h9 := numL_len9 (n := l.length) (by omega)
    walk_at "s"
    rw [numS_nat, cs_colon]
    refine ⟨by walk_at "side", by walk_at "side", by walk_at "side", by walk_at "side", by walk_at "side", by walk_at "side", ?_⟩
    have e : [] ++ numL l.length ++ [58] ++ l = packP l := by simp [packP]
    rw [e]
    exact hN _ rfl
  · intro D hD
    walk_at "s"
    rw [cs_empty]
    refine joinO_of (ls.map packP) (SqL.of upd_same) ?_ ?_
    · have h1 : ((ls.map packP).map List.length).sum ≤ (ls.map packP).length * 10020 := sum_map_le fun a ha => by
        obtain ⟨l, hl', rfl⟩ := List.mem_map.mp ha
        have hb := hl l hl'
        have h9 := numL_len9 (n := l.length) (by omega)
        simp [packP]
        omega
      simp only [List.length_map, List.length_nil, Nat.mul_zero, Nat.add_zero] at h1 ⊢
      have : ls.length * 10020 ≤ 1000 * 10020 := Nat.mul_le_mul_right _ hn
      omega
    · rw [joinL_nil]
      exact ret_same wf nd (same_new hD) hq
/-! ### number_of -/
theorem cs_0 : cs "0" = [48] := by decide
theorem cs_1 : cs "1" = [49] := by decide
/-- the number that is written, without leading zeros, 1 to 9 figures -/
def numOk (l : List Nat) : Bool := (decide (0 < l.length) && l.all isFig) && (decide (l.length ≤ 9) && !(decide (l[0]? = some 48) && decide (1 < l.length)))
def sp_number_of (K : PySem.W.Frag) : Sp := fun vs H Q E => ∃ l, vs = [.str (mkS l)] ∧ Asc l ∧ l.length ≤ 1000000 ∧ NoDT H ∧ (numOk l = true → Q (.int (valD l : Nat)) H) ∧ (numOk l = false → E (.ref (He.ga K "BadForm")) none H)
theorem pure_number_of (K : PySem.W.Frag) (w : World) : ∀ vs H Q E, WF H → sp_number_of K vs H Q E → t_number_of K w (W0 H E) (DD H Q) (L2.start N_number_of vs) H := by
  rintro vs H Q E wf ⟨l, rfl, hA, hl, nd, hq, he⟩
  unfold t_number_of N_number_of
  have bad : numOk l = false → RE H E (.ref (He.ga K "BadForm")) none H := fun h => exc_same wf nd (Same.refl _) (he h)
  have h1 : l.length ≤ sizeLine := line_of (by omega)
  have hd := isdigit_eq hA
  walk_at "s"
  walk_at "if"
  case h1 =>
    intro k
    walk_at "z"
    refine bad ?_
    unfold numOk
    simp at k ⊢
    grind
  case h2 =>
    intro k
    simp only [Bool.or_eq_false_iff, Bool.not_eq_false', decide_eq_false_iff_not, Bool.and_eq_true, decide_eq_true_eq] at k
    obtain ⟨⟨k1, k2⟩, k3⟩ := k
    obtain ⟨c, r, rfl⟩ : ∃ c r, l = c :: r := by
      cases l with
      | nil => simp at k1
      | cons c r => exact ⟨c, r, rfl⟩
    walk_at "s"
    have z0 := cs_0
    have h1' : r.length + 1 ≤ sizeLine := h1
    walk_at "if"
    case h1 =>
      intro k
      walk_at "z"
      refine bad ?_
      unfold numOk
      simp at k ⊢
      grind
    case h2 =>
      intro k
      walk_at "s"
      rw [intText_eq k2 (by simp) (by simp at k3 ⊢; omega)]
      walk_at "s"
      refine ⟨by simp at k3 ⊢; omega, ret_same wf nd (Same.refl _) (hq ?_)⟩
      unfold numOk
      simp at k k2 k3 ⊢
      grind
/-! ### part_at, unpack -/
/-- the part that begins at i, and the place behind it -/
def partAt (l : List Nat) (i : Nat) : Option (List Nat × Nat) :=
  match findC 58 l i with
  | none => none
  | some k => if numOk ((l.drop i).take (k - i)) = true ∧ k + 1 + valD ((l.drop i).take (k - i)) ≤ l.length then
      some ((l.drop (k + 1)).take (valD ((l.drop i).take (k - i))), k + 1 + valD ((l.drop i).take (k - i))) else none
def sp_part_at (K : PySem.W.Frag) : Sp := fun vs H Q E => ∃ l i, vs = [.str (mkS l), .int (i : Nat)] ∧ Asc l ∧ l.length ≤ 1000000 ∧ i ≤ l.length ∧ NoDT H ∧
  (∀ m j, partAt l i = some (m, j) → ∀ p, H p = none → Q (.ref p) (upd H p (.tup [.str (mkS m), .int (j : Nat)]))) ∧ (partAt l i = none → E (.ref (He.ga K "BadForm")) none H)
theorem valD_lt {l : List Nat} (h : l.length ≤ 9) (hf : l.all isFig = true) : valD l < 1000000000 := by
  have gen : ∀ (l : List Nat) (a : Nat), l.all isFig = true → l.foldl (fun acc c => acc * 10 + (c - 48)) a < (a + 1) * 10 ^ l.length := by
    intro l
    induction l with
    | nil => intro a _; simp
    | cons c r ih =>
      intro a hf
      rw [List.all_cons, Bool.and_eq_true] at hf
      have hc : c - 48 ≤ 9 := by
        have := hf.1
        simp [isFig] at this
        omega
      have h2 := ih (a * 10 + (c - 48)) hf.2
      rw [List.foldl_cons, List.length_cons, Nat.pow_succ, Nat.mul_comm (10 ^ r.length) 10, ← Nat.mul_assoc]
      refine Nat.lt_of_lt_of_le h2 (Nat.mul_le_mul_right _ ?_)
      omega
  have h2 := gen l 0 hf
  have h3 : valD l < 1 * 10 ^ l.length := by
    simpa [valD, NumText.digitsVal] using h2
  have h4 : 10 ^ l.length ≤ 10 ^ 9 := Nat.pow_le_pow_right (by decide) h
  omega
theorem numOk_fig {l : List Nat} (h : numOk l = true) : l.all isFig = true ∧ l.length ≤ 9 ∧ 0 < l.length := by
  unfold numOk at h
  simp at h
  exact ⟨by simpa using h.1.2, h.2.1, h.1.1⟩
theorem pure_part_at (K : PySem.W.Frag) (w : World) : ∀ vs H Q E, WF H → sp_part_at K vs H Q E → t_part_at K w (W0 H E) (sp_number_of K) (DD H Q) (L2.start N_part_at vs) H := by
  rintro vs H Q E wf ⟨l, i, rfl, hA, hl, hi, nd, hq, he⟩
  unfold t_part_at N_part_at
  have bad : partAt l i = none → RE H E (.ref (He.ga K "BadForm")) none H := fun h => exc_same wf nd (Same.refl _) (he h)
  have h1 : l.length ≤ sizeLine := line_of (by omega)
  walk_at "s"
  rw [cs_colon, find3_eq hi]
  cases hf : findC 58 l i with
  | none =>
    walk_at "if"
    case h1 =>
      intro _
      walk_at "s"
      refine bad ?_
      unfold partAt
      rw [hf]
    case h2 =>
      intro k
      simp at k
  | some k =>
    obtain ⟨f1, f2, f3, f4⟩ := findC_spec hf
    walk_at "if"
    case h1 =>
      intro k
      simp at k
      omega
    case h2 =>
      intro _
      walk_at "s"
      rw [cutS_nn f1 (by omega)]
      refine ⟨h1, (l.drop i).take (k - i), rfl, (hA.drop _).take _, by rw [List.length_take, List.length_drop]; omega, nd, fun ho => ?_, fun ho => ?_⟩
      · walk_at "s"
        walk_at "if"
        case h1 =>
          intro e
          walk_at "s"
          refine bad ?_
          unfold partAt
          rw [hf]
          simp only [decide_eq_true_eq] at e
          simp only [ho, true_and]
          rw [if_neg (by omega)]
        case h2 =>
          intro e
          simp only [decide_eq_false_iff_not] at e
          have ep : partAt l i = some ((l.drop (k + 1)).take (valD ((l.drop i).take (k - i))), k + 1 + valD ((l.drop i).take (k - i))) := by
            unfold partAt
            rw [hf]
            simp only [ho, true_and]
            rw [if_pos (by omega)]
          have e1 : (k : Int) + 1 = ((k + 1 : Nat) : Int) := by omega
          have e2 : (k : Int) + 1 + (valD ((l.drop i).take (k - i)) : Nat) = ((k + 1 + valD ((l.drop i).take (k - i)) : Nat) : Int) := by omega
          walk_at "s"
          rw [e2, e1, cutS_nn (by omega) (by omega)]
          refine ⟨h1, fun p hp => ?_⟩
          have e3 : k + 1 + valD ((l.drop i).take (k - i)) - (k + 1) = valD ((l.drop i).take (k - i)) := by omega
          rw [e3]
          exact ret_new wf nd (same_new hp) hp upd_same rfl (hq _ _ ep p hp)
      · walk_at "s"
        refine bad ?_
        unfold partAt
        rw [hf]
        simp only [ho]
        rfl
/-- all parts from i on -/
def partsFrom (l : List Nat) : Nat → Nat → Option (List (List Nat))
  | 0, i => if i < l.length then none else some []
  | n + 1, i => if i < l.length then (match partAt l i with
      | none => none
      | some (m, j) => (partsFrom l n j).map (m :: ·)) else some []
def unpackL (l : List Nat) : Option (List (List Nat)) := partsFrom l l.length 0
theorem partAt_lt {l : List Nat} {i j : Nat} {m : List Nat} (h : partAt l i = some (m, j)) : i < j ∧ j ≤ l.length ∧ m.length ≤ l.length ∧ ∀ c ∈ m, c ∈ l := by
  unfold partAt at h
  split at h
  · cases h
  · rename_i k hf
    obtain ⟨f1, f2, f3, f4⟩ := findC_spec hf
    split at h
    · rename_i hc
      cases h
      refine ⟨by omega, hc.2, by rw [List.length_take, List.length_drop]; omega, fun c hc => List.mem_of_mem_drop (List.mem_of_mem_take hc)⟩
    · cases h
theorem partsFrom_enough {l : List Nat} : ∀ (n i : Nat), l.length ≤ n + i → ∀ m, n ≤ m → partsFrom l n i = partsFrom l m i
  | 0, i, h, 0, _ => rfl
  | 0, i, h, m + 1, _ => by
    show (if i < l.length then none else some []) = _
    unfold partsFrom
    rw [if_neg (by omega), if_neg (by omega)]
  | n + 1, i, h, 0, hm => by omega
  | n + 1, i, h, m + 1, hm => by
    unfold partsFrom
    by_cases hi : i < l.length
    · rw [if_pos hi, if_pos hi]
      cases e : partAt l i with
      | none => rfl
      | some p =>
        obtain ⟨q, j⟩ := p
        have := (partAt_lt e).1
        show (partsFrom l n j).map _ = (partsFrom l m j).map _
        rw [partsFrom_enough n j (by omega) m (by omega)]
    · rw [if_neg hi, if_neg hi]
def sp_unpack (K : PySem.W.Frag) : Sp := fun vs H Q E => ∃ l, vs = [.str (mkS l)] ∧ Asc l ∧ l.length ≤ 1000000 ∧ NoDT H ∧
  (∀ ls, unpackL l = some ls → ∀ p, H p = none → Q (.ref p) (upd H p (.lst (SS ls)))) ∧ (unpackL l = none → E (.ref (He.ga K "BadForm")) none H)
theorem pure_unpack (K : PySem.W.Frag) (w : World) : ∀ vs H Q E, WF H → sp_unpack K vs H Q E → t_unpack K w (W0 H E) (sp_part_at K) (DD H Q) (L2.start N_unpack vs) H := by
  rintro vs H Q E wf ⟨l, rfl, hA, hl, nd, hq, he⟩
  unfold t_unpack N_unpack
  have h1 : l.length ≤ sizeLine := line_of (by omega)
  walk_at "s"
  intro P hP
  walk_at "s"
  -- turns left m: at is l.length - m or so
  refine wh_by (fun m σ H' => ∃ (at_ : Nat) (ls : List (List Nat)) (v : Option V), σ = [some (.str (mkS l)), some (.ref P), some (.int at_), v] ∧ at_ ≤ l.length ∧ m = l.length - at_ ∧ ls.length ≤ at_ ∧ Same H H' ∧ NoDT H' ∧ WF H' ∧ H' P = some (.lst (SS ls)) ∧
    ∀ r, partsFrom l (l.length - at_) at_ = r → unpackL l = r.map (ls ++ ·)) l.length ?_ ?_
  · refine ⟨0, [], none, rfl, by omega, by omega, by simp, same_new hP, noDT_upd nd rfl, wf_upd wf hP rfl, upd_same, fun r hr => ?_⟩
    rw [← hr]
    unfold unpackL
    simp
  · rintro m σ H' ⟨at_, ls, v, rfl, ha, rfl, hn, hs, nd', wf', hp, hr⟩
    refine wh_of (b := decide (at_ < l.length)) ?_ (fun k => ?_) (fun k => ?_)
    · walk_at "ev"
      intro Q q
      walk_at "z"
      simpa using q
    · simp only [decide_eq_true_eq] at k
      walk_at "s"
      have hstep : partsFrom l (l.length - at_) at_ = (match partAt l at_ with | none => none | some (m, j) => (partsFrom l (l.length - at_ - 1) j).map (m :: ·)) := by
        obtain ⟨n, hn⟩ : ∃ n, l.length - at_ = n + 1 := ⟨l.length - at_ - 1, by omega⟩
        rw [hn, partsFrom, if_pos k, Nat.add_sub_cancel]
      refine ⟨l, at_, rfl, hA, hl, ha, nd', fun mm j e p hp' => ?_, fun e => ?_⟩
      · obtain ⟨j1, j2, j3, _⟩ := partAt_lt e
        have hpP : P ≠ p := ne_of_none hp hp'
        have hp2 : upd H' p (.tup [.str (mkS mm), .int (j : Nat)]) P = some (.lst (SS ls)) := by rw [upd_ne hpP]; exact hp
        simp only [seval, hp2]
        refine ⟨line_lt (by simp; omega), l.length - j, by omega, j, ls ++ [mm], _, rfl, j2, rfl, by simp; omega, same_upd (same_upd hs (hs.free hp')) hP, noDT_upd (noDT_upd nd' rfl) rfl, ?_, by rw [upd_same]; simp, ?_⟩
        · exact wf_put (wf_upd wf' hp' rfl) hp2 rfl rfl
        · intro r hr'
          have := hr _ rfl
          rw [this, hstep, e]
          have en : partsFrom l (l.length - at_ - 1) j = r := by
            rw [← hr']
            exact (partsFrom_enough (l.length - j) j (by omega) (l.length - at_ - 1) (by omega)).symm
          show Option.map _ ((partsFrom l (l.length - at_ - 1) j).map (mm :: ·)) = _
          rw [en]
          cases r <;> simp
      · walk_at "s"
        refine exc_same wf nd hs (he ?_)
        rw [hr _ rfl, hstep, e]
        rfl
    · simp only [decide_eq_false_iff_not] at k
      walk_at "s"
      refine ret_new wf nd hs hP hp rfl (hq ls ?_ P hP)
      have : l.length - at_ = 0 := by omega
      have h := hr _ rfl
      rw [this] at h
      unfold partsFrom at h
      rw [if_neg k] at h
      simpa using h
/-! ### names, words -/
def isNameL (l : List Nat) : Bool := (decide (1 ≤ l.length) && decide (l.length ≤ 4)) && (l.all isAln && decide (l = l.map lowC))
def sp_is_name : Sp := fun vs H Q E => ∃ l, vs = [.str (mkS l)] ∧ Asc l ∧ l.length ≤ 1000000 ∧ NoDT H ∧ Q (.bl (isNameL l)) H
theorem pure_is_name (K : PySem.W.Frag) (w : World) : ∀ vs H Q E, WF H → sp_is_name vs H Q E → t_is_name K w (W0 H E) (DD H Q) (L2.start N_is_name vs) H := by
  rintro vs H Q E wf ⟨l, rfl, hA, hl, nd, hq⟩
  unfold t_is_name N_is_name
  have h1 : l.length ≤ sizeLine := line_of (by omega)
  have h2 := isalnum_eq hA
  have h3 := lower_eq hA
  have h4 : l.length ≤ 5592405 := by omega
  have ret : ∀ {b}, b = isNameL l → RQ H Q (.bl b) H := fun {b} e => ret_same wf nd (Same.refl _) (by rw [e]; exact hq)
  walk_at "s"
  walk_at "if"
  case h1 =>
    intro k
    walk_at "s"
    refine ret ?_
    unfold isNameL
    simp at k ⊢
    grind
  case h2 =>
    intro k
    walk_at "s"
    walk_at "val"
    refine ret ?_
    unfold isNameL
    simp at k ⊢
    grind
/-! ### records -/
def isTextL (l : List Nat) : Bool := decide (l.length ≤ 16) && !decide (34 ∈ l)
def sp_is_record_text : Sp := fun vs H Q E => ∃ l, vs = [.str (mkS l)] ∧ l.length ≤ 1000000 ∧ NoDT H ∧ Q (.bl (isTextL l)) H
theorem cs_q : cs "\"" = [34] := by decide
theorem pure_is_record_text (K : PySem.W.Frag) (w : World) : ∀ vs H Q E, WF H → sp_is_record_text vs H Q E → t_is_record_text K w (W0 H E) (DD H Q) (L2.start N_is_record_text vs) H := by
  rintro vs H Q E wf ⟨l, rfl, hl, nd, hq⟩
  unfold t_is_record_text N_is_record_text
  have h1 : l.length ≤ sizeLine := line_of (by omega)
  have h2 := cs_q
  have h3 := in_one l 34
  walk_at "s"
  walk_at "val"
  refine ret_same wf nd (Same.refl _) ?_
  have e : isTextL l = (decide ((l.length : Int) ≤ 16) && !decide (34 ∈ l)) := by
    unfold isTextL
    congr 1
    simp
    omega
  rw [← e]
  exact hq
def F_Record_0 : List (Str × V) := []
def F_Record_1 (v0 : V) : List (Str × V) := [("x", v0)]
def F_Record_2 (v0 : V) (v1 : V) : List (Str × V) := [("x", v0), ("y", v1)]
def F_Record_3 (v0 : V) (v1 : V) (v2 : V) : List (Str × V) := [("x", v0), ("y", v1), ("label", v2)]
def F_Record_4 (v0 : V) (v1 : V) (v2 : V) (v3 : V) : List (Str × V) := [("x", v0), ("y", v1), ("label", v2), ("text", v3)]
def F_Record_5 (v0 : V) (v1 : V) (v2 : V) (v3 : V) (v4 : V) : List (Str × V) := [("x", v0), ("y", v1), ("label", v2), ("text", v3), ("holders", v4)]
def F_Record (v0 : V) (v1 : V) (v2 : V) (v3 : V) (v4 : V) (v5 : V) : List (Str × V) := [("x", v0), ("y", v1), ("label", v2), ("text", v3), ("holders", v4), ("due", v5)]
theorem F_Record_get_x {v0 v1 v2 v3 v4 v5 : V} : (F_Record v0 v1 v2 v3 v4 v5).lookup ("x" : Str) = some v0 := rfl
theorem F_Record_set_x {v0 v1 v2 v3 v4 v5 : V} {u : V} : putF "x" u (F_Record v0 v1 v2 v3 v4 v5) = F_Record u v1 v2 v3 v4 v5 := rfl
theorem F_Record_ini_x {u : V} : putF "x" u (F_Record_0) = F_Record_1 u := rfl
theorem F_Record_len0 : (F_Record_0).length = 0 := rfl
theorem F_Record_get_y {v0 v1 v2 v3 v4 v5 : V} : (F_Record v0 v1 v2 v3 v4 v5).lookup ("y" : Str) = some v1 := rfl
theorem F_Record_set_y {v0 v1 v2 v3 v4 v5 : V} {u : V} : putF "y" u (F_Record v0 v1 v2 v3 v4 v5) = F_Record v0 u v2 v3 v4 v5 := rfl
theorem F_Record_ini_y {v0 : V} {u : V} : putF "y" u (F_Record_1 v0) = F_Record_2 v0 u := rfl
theorem F_Record_len1 {v0 : V} : (F_Record_1 v0).length = 1 := rfl
theorem F_Record_get_label {v0 v1 v2 v3 v4 v5 : V} : (F_Record v0 v1 v2 v3 v4 v5).lookup ("label" : Str) = some v2 := rfl
theorem F_Record_set_label {v0 v1 v2 v3 v4 v5 : V} {u : V} : putF "label" u (F_Record v0 v1 v2 v3 v4 v5) = F_Record v0 v1 u v3 v4 v5 := rfl
theorem F_Record_ini_label {v0 v1 : V} {u : V} : putF "label" u (F_Record_2 v0 v1) = F_Record_3 v0 v1 u := rfl
theorem F_Record_len2 {v0 v1 : V} : (F_Record_2 v0 v1).length = 2 := rfl
theorem F_Record_get_text {v0 v1 v2 v3 v4 v5 : V} : (F_Record v0 v1 v2 v3 v4 v5).lookup ("text" : Str) = some v3 := rfl
theorem F_Record_set_text {v0 v1 v2 v3 v4 v5 : V} {u : V} : putF "text" u (F_Record v0 v1 v2 v3 v4 v5) = F_Record v0 v1 v2 u v4 v5 := rfl
theorem F_Record_ini_text {v0 v1 v2 : V} {u : V} : putF "text" u (F_Record_3 v0 v1 v2) = F_Record_4 v0 v1 v2 u := rfl
theorem F_Record_len3 {v0 v1 v2 : V} : (F_Record_3 v0 v1 v2).length = 3 := rfl
theorem F_Record_get_holders {v0 v1 v2 v3 v4 v5 : V} : (F_Record v0 v1 v2 v3 v4 v5).lookup ("holders" : Str) = some v4 := rfl
theorem F_Record_set_holders {v0 v1 v2 v3 v4 v5 : V} {u : V} : putF "holders" u (F_Record v0 v1 v2 v3 v4 v5) = F_Record v0 v1 v2 v3 u v5 := rfl
theorem F_Record_ini_holders {v0 v1 v2 v3 : V} {u : V} : putF "holders" u (F_Record_4 v0 v1 v2 v3) = F_Record_5 v0 v1 v2 v3 u := rfl
theorem F_Record_len4 {v0 v1 v2 v3 : V} : (F_Record_4 v0 v1 v2 v3).length = 4 := rfl
theorem F_Record_get_due {v0 v1 v2 v3 v4 v5 : V} : (F_Record v0 v1 v2 v3 v4 v5).lookup ("due" : Str) = some v5 := rfl
theorem F_Record_set_due {v0 v1 v2 v3 v4 v5 : V} {u : V} : putF "due" u (F_Record v0 v1 v2 v3 v4 v5) = F_Record v0 v1 v2 v3 v4 u := rfl
theorem F_Record_ini_due {v0 v1 v2 v3 v4 : V} {u : V} : putF "due" u (F_Record_5 v0 v1 v2 v3 v4) = F_Record v0 v1 v2 v3 v4 u := rfl
theorem F_Record_len5 {v0 v1 v2 v3 v4 : V} : (F_Record_5 v0 v1 v2 v3 v4).length = 5 := rfl
theorem F_Record_nil : ([] : List (Str × V)) = F_Record_0 := rfl
theorem F_Record_len {v0 v1 v2 v3 v4 v5 : V} : (F_Record v0 v1 v2 v3 v4 v5).length = 6 := rfl
/-! ### are_holders -/
def risingL : List (List Nat) → Bool
  | a :: b :: r => ltL a b && risingL (b :: r)
  | _ => true
def holdersOk (ls : List (List Nat)) : Bool := decide (ls.length ≤ 2) && (ls.all isNameL && risingL ls)
def sp_are_holders : Sp := fun vs H Q E => ∃ p ls, vs = [.ref p] ∧ H p = some (.lst (SS ls)) ∧ ls.length ≤ 1000000 ∧ (∀ l ∈ ls, Asc l ∧ l.length ≤ 1000000) ∧ NoDT H ∧ Q (.bl (holdersOk ls)) H
theorem ss_get {ls : List (List Nat)} {i : Nat} {x : V} (hx : (SS ls)[i]? = some x) : ∃ l, ls[i]? = some l ∧ x = .str (mkS l) := by
  rw [List.getElem?_map] at hx
  cases e : ls[i]? with
  | none => rw [e] at hx; cases hx
  | some l => rw [e] at hx; exact ⟨l, rfl, (Option.some.inj hx).symm⟩
local macro_rules | `(tactic| simp only [seval]) => `(tactic| simp only [zV_eq, vcase_some, ix_zero, ix_succ, set_zero, set_succ, start_cons, start_none, start_nil, zC_eq, zB_eq, kB1_eq, kB2_eq, zU_eq, kU_eq, kCh1_eq, kCh2_eq, kCh3_t, kCh3_f, zT_eq, kT_bl, zTr_eq, kTr_bl, kTr_non, kTr_int, kTr_str, zAnd_eq, zOr_eq, zNot_eq, kNot_eq, kAnd_t, kAnd_f, kOr_t, kOr_f, zNotV_eq, kAndV_t, kAndV_f, kOrV_t, kOrV_f, kNotV_bl, kIfE_t, kIfE_f, zNil_eq, zCons_eq, kArg1_eq, kArg2_eq, zTup_eq, zLst_eq, kTup_eq, kLst_eq, thnE_nx, thnE_rt, thnE_bk, thnE_ct, mk_nx, mk_rt, mk_bk, mk_ct, zSeq_eq, zNext_eq, zBreak_eq, zCont_eq, zSet_eq, kSet_eq, zDrop_eq, kDrop_eq, zRet_eq, zRetN_eq, kIf_t, kIf_f, tl_mkS, cps_mkS, len_mkS, app_mkS, mkS_eq, V_int, V_str, V_bl, V_ref, dec_T, dec_F, not_t, not_f, and_T, T_and, upd_at, rAdd_int, rAdd_str, rAdd_ref, catO_lst, rI2_int, rI20_int, rMul_int, rMul_str, rMul_ref, repO_lst, rOrd_int, rOrd_str, rEqG_int, rEqG_str, rEqG_bl, rEqG_nn, rEqG_ni, rEqG_in, rEqG_ns, rEqG_sn, rEqG_is, rEqG_si, bne_ff, bne_tt, zCall_eq, kCall_eq, zMeth_eq, kMe2_eq, kMe1_eq, insO_eq, zMake_eq, fldO_eq, kFld_eq, zFld_eq, sfO_eq, kSf2_eq, kSf1_eq, zSetF_eq, chQ_eq, rIxZ_str, rIxZ_ref, ixO_lst, ixO_tup, ixO_frz, atI_zero, atI_1, atI_2, atI_3, atI_4, atI_5, atI_6, atI_7, atI_8, atI_9, atI_10, atI_11, atI_12, atI_13, atI_14, atI_15, zSl_eq, kS1_eq, kS2_eq, kS3_eq, zNo_eq, kPt_eq, zPt_eq, rSlZ_str, rSlZ_ref, slO_lst, slO_frz, slO_tup, V_lit, V_mk1, zCB_eq, kCB_eq, rLenZ_str, rLenZ_ref, lenO_lst, lenO_tup, lenO_dK, lenO_frz, intQ_eq, rIntZ_int, rIntZ_bl, rIntZ_str, rStrZ_int, rStrZ_str, rOrdZ_str, rMax2_eq, rMin2_eq, rListZ_eq, lofO_lst, lofO_tup, isNon_non, isNon_int, isNon_str, isNon_bl, isNon_ref, rIs_eq, rIsN_eq, rInZ_str, rNotInZ_str, rInZ_ref, rNotInZ_ref, zMs_eq, kMs_eq, kM2_eq, isL_lst, zMl_eq, kMl_eq, rS0_eq, rS1_eq, rFind1, rFind2, rJoin_eq, rAppZ_eq, appO_eq, zFm_eq, kFm_str, kFm_int, kJq_eq, tJs_nil, tJs_cons, kJs_str, zJs_eq, zRaise_eq, zTryAs_eq, zTry_eq, gName_eq, gNil_eq, kG_eq, gCons_eq, tupO_eq, zgT_eq, kAsg_eq, zAsg_eq, kAug2_eq, kAug1_eq, augC_eq, zAug_eq, rAddI_int, rAddI_str, loopE_nx, loopE_ct, loopE_bk, loopE_rt, zFor_eq, ziL_eq, kiL_eq, ziT_eq, kiT_eq, ziS_eq, kiS_eq, ziR1_eq, kiR1_eq, ziR2_eq, kiR2_eq, kWh_f, zLc_eq, zYes_eq, wipe_nil, wipe_cons, kIt_t, kIt_f, kTg_eq, WE_eq, W0_eq, rNeg_eq, rStarts_eq, rZfill_eq, rPart_eq, rSplit_eq, rPopZ_eq, popO_eq, atI_0, cmul_r, cdiv_r, dec_and, len_nil', len_cons', upd_upd', zRaiseF_eq, lstO_eq, zgL_eq, zIsE_eq, zIsET_eq, rIsiZ_bl, rIsiZ_rf, isiL_eq, zRep_eq, kRep_eq, F_Record_get_x, F_Record_set_x, F_Record_ini_x, F_Record_len0, F_Record_get_y, F_Record_set_y, F_Record_ini_y, F_Record_len1, F_Record_get_label, F_Record_set_label, F_Record_ini_label, F_Record_len2, F_Record_get_text, F_Record_set_text, F_Record_ini_text, F_Record_len3, F_Record_get_holders, F_Record_set_holders, F_Record_ini_holders, F_Record_len4, F_Record_get_due, F_Record_set_due, F_Record_ini_due, F_Record_len5, F_Record_len, Int.isPosValue, Int.reduceAbs, Int.reduceAdd, Int.reduceBEq, Int.reduceBNe, Int.reduceBdiv, Int.reduceBmod, Int.reduceDiv, Int.reduceDvd, Int.reduceEq, Int.reduceFDiv, Int.reduceFMod, Int.reduceGE, Int.reduceGT, Int.reduceLE, Int.reduceLT, Int.reduceMod, Int.reduceMul, Int.reduceNe, Int.reduceNeg, Int.reduceNegSucc, Int.reduceOfNat, Int.reducePow, Int.reduceSub, Int.reduceTDiv, Int.reduceTMod, Int.reduceToNat, List.reduceReplicate, Nat.isValue, Nat.reduceAdd, Nat.reduceAnd, Nat.reduceBEq, Nat.reduceBNe, Nat.reduceBeqDiff, Nat.reduceBneDiff, Nat.reduceDiv, Nat.reduceDvd, Nat.reduceEqDiff, Nat.reduceGT, Nat.reduceGcd, Nat.reduceLT, Nat.reduceLeDiff, Nat.reduceMod, Nat.reduceMul, Nat.reduceOr, Nat.reducePow, Nat.reduceShiftLeft, Nat.reduceShiftRight, Nat.reduceSub, Nat.reduceSubDiff, Nat.reduceSucc, Nat.reduceXor, dreduceDIte, dreduceIte, reduceCtorEq, reduceDIte, reduceIte])
local macro_rules | `(tactic| simp only [seval, $xs,*]) => `(tactic| simp only [zV_eq, vcase_some, ix_zero, ix_succ, set_zero, set_succ, start_cons, start_none, start_nil, zC_eq, zB_eq, kB1_eq, kB2_eq, zU_eq, kU_eq, kCh1_eq, kCh2_eq, kCh3_t, kCh3_f, zT_eq, kT_bl, zTr_eq, kTr_bl, kTr_non, kTr_int, kTr_str, zAnd_eq, zOr_eq, zNot_eq, kNot_eq, kAnd_t, kAnd_f, kOr_t, kOr_f, zNotV_eq, kAndV_t, kAndV_f, kOrV_t, kOrV_f, kNotV_bl, kIfE_t, kIfE_f, zNil_eq, zCons_eq, kArg1_eq, kArg2_eq, zTup_eq, zLst_eq, kTup_eq, kLst_eq, thnE_nx, thnE_rt, thnE_bk, thnE_ct, mk_nx, mk_rt, mk_bk, mk_ct, zSeq_eq, zNext_eq, zBreak_eq, zCont_eq, zSet_eq, kSet_eq, zDrop_eq, kDrop_eq, zRet_eq, zRetN_eq, kIf_t, kIf_f, tl_mkS, cps_mkS, len_mkS, app_mkS, mkS_eq, V_int, V_str, V_bl, V_ref, dec_T, dec_F, not_t, not_f, and_T, T_and, upd_at, rAdd_int, rAdd_str, rAdd_ref, catO_lst, rI2_int, rI20_int, rMul_int, rMul_str, rMul_ref, repO_lst, rOrd_int, rOrd_str, rEqG_int, rEqG_str, rEqG_bl, rEqG_nn, rEqG_ni, rEqG_in, rEqG_ns, rEqG_sn, rEqG_is, rEqG_si, bne_ff, bne_tt, zCall_eq, kCall_eq, zMeth_eq, kMe2_eq, kMe1_eq, insO_eq, zMake_eq, fldO_eq, kFld_eq, zFld_eq, sfO_eq, kSf2_eq, kSf1_eq, zSetF_eq, chQ_eq, rIxZ_str, rIxZ_ref, ixO_lst, ixO_tup, ixO_frz, atI_zero, atI_1, atI_2, atI_3, atI_4, atI_5, atI_6, atI_7, atI_8, atI_9, atI_10, atI_11, atI_12, atI_13, atI_14, atI_15, zSl_eq, kS1_eq, kS2_eq, kS3_eq, zNo_eq, kPt_eq, zPt_eq, rSlZ_str, rSlZ_ref, slO_lst, slO_frz, slO_tup, V_lit, V_mk1, zCB_eq, kCB_eq, rLenZ_str, rLenZ_ref, lenO_lst, lenO_tup, lenO_dK, lenO_frz, intQ_eq, rIntZ_int, rIntZ_bl, rIntZ_str, rStrZ_int, rStrZ_str, rOrdZ_str, rMax2_eq, rMin2_eq, rListZ_eq, lofO_lst, lofO_tup, isNon_non, isNon_int, isNon_str, isNon_bl, isNon_ref, rIs_eq, rIsN_eq, rInZ_str, rNotInZ_str, rInZ_ref, rNotInZ_ref, zMs_eq, kMs_eq, kM2_eq, isL_lst, zMl_eq, kMl_eq, rS0_eq, rS1_eq, rFind1, rFind2, rJoin_eq, rAppZ_eq, appO_eq, zFm_eq, kFm_str, kFm_int, kJq_eq, tJs_nil, tJs_cons, kJs_str, zJs_eq, zRaise_eq, zTryAs_eq, zTry_eq, gName_eq, gNil_eq, kG_eq, gCons_eq, tupO_eq, zgT_eq, kAsg_eq, zAsg_eq, kAug2_eq, kAug1_eq, augC_eq, zAug_eq, rAddI_int, rAddI_str, loopE_nx, loopE_ct, loopE_bk, loopE_rt, zFor_eq, ziL_eq, kiL_eq, ziT_eq, kiT_eq, ziS_eq, kiS_eq, ziR1_eq, kiR1_eq, ziR2_eq, kiR2_eq, kWh_f, zLc_eq, zYes_eq, wipe_nil, wipe_cons, kIt_t, kIt_f, kTg_eq, WE_eq, W0_eq, rNeg_eq, rStarts_eq, rZfill_eq, rPart_eq, rSplit_eq, rPopZ_eq, popO_eq, atI_0, cmul_r, cdiv_r, dec_and, len_nil', len_cons', upd_upd', zRaiseF_eq, lstO_eq, zgL_eq, zIsE_eq, zIsET_eq, rIsiZ_bl, rIsiZ_rf, isiL_eq, zRep_eq, kRep_eq, F_Record_get_x, F_Record_set_x, F_Record_ini_x, F_Record_len0, F_Record_get_y, F_Record_set_y, F_Record_ini_y, F_Record_len1, F_Record_get_label, F_Record_set_label, F_Record_ini_label, F_Record_len2, F_Record_get_text, F_Record_set_text, F_Record_ini_text, F_Record_len3, F_Record_get_holders, F_Record_set_holders, F_Record_ini_holders, F_Record_len4, F_Record_get_due, F_Record_set_due, F_Record_ini_due, F_Record_len5, F_Record_len, Int.isPosValue, Int.reduceAbs, Int.reduceAdd, Int.reduceBEq, Int.reduceBNe, Int.reduceBdiv, Int.reduceBmod, Int.reduceDiv, Int.reduceDvd, Int.reduceEq, Int.reduceFDiv, Int.reduceFMod, Int.reduceGE, Int.reduceGT, Int.reduceLE, Int.reduceLT, Int.reduceMod, Int.reduceMul, Int.reduceNe, Int.reduceNeg, Int.reduceNegSucc, Int.reduceOfNat, Int.reducePow, Int.reduceSub, Int.reduceTDiv, Int.reduceTMod, Int.reduceToNat, List.reduceReplicate, Nat.isValue, Nat.reduceAdd, Nat.reduceAnd, Nat.reduceBEq, Nat.reduceBNe, Nat.reduceBeqDiff, Nat.reduceBneDiff, Nat.reduceDiv, Nat.reduceDvd, Nat.reduceEqDiff, Nat.reduceGT, Nat.reduceGcd, Nat.reduceLT, Nat.reduceLeDiff, Nat.reduceMod, Nat.reduceMul, Nat.reduceOr, Nat.reducePow, Nat.reduceShiftLeft, Nat.reduceShiftRight, Nat.reduceSub, Nat.reduceSubDiff, Nat.reduceSucc, Nat.reduceXor, dreduceDIte, dreduceIte, reduceCtorEq, reduceDIte, reduceIte, $xs,*])
local macro_rules | `(tactic| walk_at "z") => `(tactic| simp only [zV_eq, vcase_some, ix_zero, ix_succ, set_zero, set_succ, start_cons, start_none, start_nil, zC_eq, zB_eq, kB1_eq, kB2_eq, zU_eq, kU_eq, kCh1_eq, kCh2_eq, kCh3_t, kCh3_f, zT_eq, kT_bl, zTr_eq, kTr_bl, kTr_non, kTr_int, kTr_str, zAnd_eq, zOr_eq, zNot_eq, kNot_eq, kAnd_t, kAnd_f, kOr_t, kOr_f, zNotV_eq, kAndV_t, kAndV_f, kOrV_t, kOrV_f, kNotV_bl, kIfE_t, kIfE_f, zNil_eq, zCons_eq, kArg1_eq, kArg2_eq, zTup_eq, zLst_eq, kTup_eq, kLst_eq, thnE_nx, thnE_rt, thnE_bk, thnE_ct, mk_nx, mk_rt, mk_bk, mk_ct, zSeq_eq, zNext_eq, zBreak_eq, zCont_eq, zSet_eq, kSet_eq, zDrop_eq, kDrop_eq, zRet_eq, zRetN_eq, kIf_t, kIf_f, tl_mkS, cps_mkS, len_mkS, app_mkS, mkS_eq, V_int, V_str, V_bl, V_ref, dec_T, dec_F, not_t, not_f, and_T, T_and, upd_at, rAdd_int, rAdd_str, rAdd_ref, catO_lst, rI2_int, rI20_int, rMul_int, rMul_str, rMul_ref, repO_lst, rOrd_int, rOrd_str, rEqG_int, rEqG_str, rEqG_bl, rEqG_nn, rEqG_ni, rEqG_in, rEqG_ns, rEqG_sn, rEqG_is, rEqG_si, bne_ff, bne_tt, zCall_eq, kCall_eq, zMeth_eq, kMe2_eq, kMe1_eq, insO_eq, zMake_eq, fldO_eq, kFld_eq, zFld_eq, sfO_eq, kSf2_eq, kSf1_eq, zSetF_eq, chQ_eq, rIxZ_str, rIxZ_ref, ixO_lst, ixO_tup, ixO_frz, atI_zero, atI_1, atI_2, atI_3, atI_4, atI_5, atI_6, atI_7, atI_8, atI_9, atI_10, atI_11, atI_12, atI_13, atI_14, atI_15, zSl_eq, kS1_eq, kS2_eq, kS3_eq, zNo_eq, kPt_eq, zPt_eq, rSlZ_str, rSlZ_ref, slO_lst, slO_frz, slO_tup, V_lit, V_mk1, zCB_eq, kCB_eq, rLenZ_str, rLenZ_ref, lenO_lst, lenO_tup, lenO_dK, lenO_frz, intQ_eq, rIntZ_int, rIntZ_bl, rIntZ_str, rStrZ_int, rStrZ_str, rOrdZ_str, rMax2_eq, rMin2_eq, rListZ_eq, lofO_lst, lofO_tup, isNon_non, isNon_int, isNon_str, isNon_bl, isNon_ref, rIs_eq, rIsN_eq, rInZ_str, rNotInZ_str, rInZ_ref, rNotInZ_ref, zMs_eq, kMs_eq, kM2_eq, isL_lst, zMl_eq, kMl_eq, rS0_eq, rS1_eq, rFind1, rFind2, rJoin_eq, rAppZ_eq, appO_eq, zFm_eq, kFm_str, kFm_int, kJq_eq, tJs_nil, tJs_cons, kJs_str, zJs_eq, zRaise_eq, zTryAs_eq, zTry_eq, gName_eq, gNil_eq, kG_eq, gCons_eq, tupO_eq, zgT_eq, kAsg_eq, zAsg_eq, kAug2_eq, kAug1_eq, augC_eq, zAug_eq, rAddI_int, rAddI_str, loopE_nx, loopE_ct, loopE_bk, loopE_rt, zFor_eq, ziL_eq, kiL_eq, ziT_eq, kiT_eq, ziS_eq, kiS_eq, ziR1_eq, kiR1_eq, ziR2_eq, kiR2_eq, kWh_f, zLc_eq, zYes_eq, wipe_nil, wipe_cons, kIt_t, kIt_f, kTg_eq, WE_eq, W0_eq, rNeg_eq, rStarts_eq, rZfill_eq, rPart_eq, rSplit_eq, rPopZ_eq, popO_eq, atI_0, cmul_r, cdiv_r, dec_and, len_nil', len_cons', upd_upd', zRaiseF_eq, lstO_eq, zgL_eq, zIsE_eq, zIsET_eq, rIsiZ_bl, rIsiZ_rf, isiL_eq, zRep_eq, kRep_eq, F_Record_get_x, F_Record_set_x, F_Record_ini_x, F_Record_len0, F_Record_get_y, F_Record_set_y, F_Record_ini_y, F_Record_len1, F_Record_get_label, F_Record_set_label, F_Record_ini_label, F_Record_len2, F_Record_get_text, F_Record_set_text, F_Record_ini_text, F_Record_len3, F_Record_get_holders, F_Record_set_holders, F_Record_ini_holders, F_Record_len4, F_Record_get_due, F_Record_set_due, F_Record_ini_due, F_Record_len5, F_Record_len, Int.isPosValue, Int.reduceAbs, Int.reduceAdd, Int.reduceBEq, Int.reduceBNe, Int.reduceBdiv, Int.reduceBmod, Int.reduceDiv, Int.reduceDvd, Int.reduceEq, Int.reduceFDiv, Int.reduceFMod, Int.reduceGE, Int.reduceGT, Int.reduceLE, Int.reduceLT, Int.reduceMod, Int.reduceMul, Int.reduceNe, Int.reduceNeg, Int.reduceNegSucc, Int.reduceOfNat, Int.reducePow, Int.reduceSub, Int.reduceTDiv, Int.reduceTMod, Int.reduceToNat, List.reduceReplicate, Nat.isValue, Nat.reduceAdd, Nat.reduceAnd, Nat.reduceBEq, Nat.reduceBNe, Nat.reduceBeqDiff, Nat.reduceBneDiff, Nat.reduceDiv, Nat.reduceDvd, Nat.reduceEqDiff, Nat.reduceGT, Nat.reduceGcd, Nat.reduceLT, Nat.reduceLeDiff, Nat.reduceMod, Nat.reduceMul, Nat.reduceOr, Nat.reducePow, Nat.reduceShiftLeft, Nat.reduceShiftRight, Nat.reduceSub, Nat.reduceSubDiff, Nat.reduceSucc, Nat.reduceXor, dreduceDIte, dreduceIte, reduceCtorEq, reduceDIte, reduceIte, *])
local macro_rules | `(tactic| walk_at "s") => `(tactic| simp only [zV_eq, vcase_some, ix_zero, ix_succ, set_zero, set_succ, start_cons, start_none, start_nil, zC_eq, zB_eq, kB1_eq, kB2_eq, zU_eq, kU_eq, kCh1_eq, kCh2_eq, kCh3_t, kCh3_f, zT_eq, kT_bl, zTr_eq, kTr_bl, kTr_non, kTr_int, kTr_str, zAnd_eq, zOr_eq, zNot_eq, kNot_eq, kAnd_t, kAnd_f, kOr_t, kOr_f, zNotV_eq, kAndV_t, kAndV_f, kOrV_t, kOrV_f, kNotV_bl, kIfE_t, kIfE_f, zNil_eq, zCons_eq, kArg1_eq, kArg2_eq, zTup_eq, zLst_eq, kTup_eq, kLst_eq, thnE_nx, thnE_rt, thnE_bk, thnE_ct, mk_nx, mk_rt, mk_bk, mk_ct, zSeq_eq, zNext_eq, zBreak_eq, zCont_eq, zSet_eq, kSet_eq, zDrop_eq, kDrop_eq, zRet_eq, zRetN_eq, kIf_t, kIf_f, tl_mkS, cps_mkS, len_mkS, app_mkS, mkS_eq, V_int, V_str, V_bl, V_ref, dec_T, dec_F, not_t, not_f, and_T, T_and, upd_at, rAdd_int, rAdd_str, rAdd_ref, catO_lst, rI2_int, rI20_int, rMul_int, rMul_str, rMul_ref, repO_lst, rOrd_int, rOrd_str, rEqG_int, rEqG_str, rEqG_bl, rEqG_nn, rEqG_ni, rEqG_in, rEqG_ns, rEqG_sn, rEqG_is, rEqG_si, bne_ff, bne_tt, zCall_eq, kCall_eq, zMeth_eq, kMe2_eq, kMe1_eq, insO_eq, zMake_eq, fldO_eq, kFld_eq, zFld_eq, sfO_eq, kSf2_eq, kSf1_eq, zSetF_eq, chQ_eq, rIxZ_str, rIxZ_ref, ixO_lst, ixO_tup, ixO_frz, atI_zero, atI_1, atI_2, atI_3, atI_4, atI_5, atI_6, atI_7, atI_8, atI_9, atI_10, atI_11, atI_12, atI_13, atI_14, atI_15, zSl_eq, kS1_eq, kS2_eq, kS3_eq, zNo_eq, kPt_eq, zPt_eq, rSlZ_str, rSlZ_ref, slO_lst, slO_frz, slO_tup, V_lit, V_mk1, zCB_eq, kCB_eq, rLenZ_str, rLenZ_ref, lenO_lst, lenO_tup, lenO_dK, lenO_frz, intQ_eq, rIntZ_int, rIntZ_bl, rIntZ_str, rStrZ_int, rStrZ_str, rOrdZ_str, rMax2_eq, rMin2_eq, rListZ_eq, lofO_lst, lofO_tup, isNon_non, isNon_int, isNon_str, isNon_bl, isNon_ref, rIs_eq, rIsN_eq, rInZ_str, rNotInZ_str, rInZ_ref, rNotInZ_ref, zMs_eq, kMs_eq, kM2_eq, isL_lst, zMl_eq, kMl_eq, rS0_eq, rS1_eq, rFind1, rFind2, rJoin_eq, rAppZ_eq, appO_eq, zFm_eq, kFm_str, kFm_int, kJq_eq, tJs_nil, tJs_cons, kJs_str, zJs_eq, zRaise_eq, zTryAs_eq, zTry_eq, gName_eq, gNil_eq, kG_eq, gCons_eq, tupO_eq, zgT_eq, kAsg_eq, zAsg_eq, kAug2_eq, kAug1_eq, augC_eq, zAug_eq, rAddI_int, rAddI_str, loopE_nx, loopE_ct, loopE_bk, loopE_rt, zFor_eq, ziL_eq, kiL_eq, ziT_eq, kiT_eq, ziS_eq, kiS_eq, ziR1_eq, kiR1_eq, ziR2_eq, kiR2_eq, kWh_f, zLc_eq, zYes_eq, wipe_nil, wipe_cons, kIt_t, kIt_f, kTg_eq, WE_eq, W0_eq, rNeg_eq, rStarts_eq, rZfill_eq, rPart_eq, rSplit_eq, rPopZ_eq, popO_eq, atI_0, cmul_r, cdiv_r, dec_and, len_nil', len_cons', upd_upd', zRaiseF_eq, lstO_eq, zgL_eq, zIsE_eq, zIsET_eq, rIsiZ_bl, rIsiZ_rf, isiL_eq, zRep_eq, kRep_eq, F_Record_get_x, F_Record_set_x, F_Record_ini_x, F_Record_len0, F_Record_get_y, F_Record_set_y, F_Record_ini_y, F_Record_len1, F_Record_get_label, F_Record_set_label, F_Record_ini_label, F_Record_len2, F_Record_get_text, F_Record_set_text, F_Record_ini_text, F_Record_len3, F_Record_get_holders, F_Record_set_holders, F_Record_ini_holders, F_Record_len4, F_Record_get_due, F_Record_set_due, F_Record_ini_due, F_Record_len5, F_Record_len, Int.isPosValue, Int.reduceAbs, Int.reduceAdd, Int.reduceBEq, Int.reduceBNe, Int.reduceBdiv, Int.reduceBmod, Int.reduceDiv, Int.reduceDvd, Int.reduceEq, Int.reduceFDiv, Int.reduceFMod, Int.reduceGE, Int.reduceGT, Int.reduceLE, Int.reduceLT, Int.reduceMod, Int.reduceMul, Int.reduceNe, Int.reduceNeg, Int.reduceNegSucc, Int.reduceOfNat, Int.reducePow, Int.reduceSub, Int.reduceTDiv, Int.reduceTMod, Int.reduceToNat, List.reduceReplicate, Nat.isValue, Nat.reduceAdd, Nat.reduceAnd, Nat.reduceBEq, Nat.reduceBNe, Nat.reduceBeqDiff, Nat.reduceBneDiff, Nat.reduceDiv, Nat.reduceDvd, Nat.reduceEqDiff, Nat.reduceGT, Nat.reduceGcd, Nat.reduceLT, Nat.reduceLeDiff, Nat.reduceMod, Nat.reduceMul, Nat.reduceOr, Nat.reducePow, Nat.reduceShiftLeft, Nat.reduceShiftRight, Nat.reduceSub, Nat.reduceSubDiff, Nat.reduceSucc, Nat.reduceXor, dreduceDIte, dreduceIte, reduceCtorEq, reduceDIte, reduceIte])
local macro_rules | `(tactic| walk_at "leaf") => `(tactic| (intro Q q; revert q; simp only [zV_eq, vcase_some, ix_zero, ix_succ, set_zero, set_succ, start_cons, start_none, start_nil, zC_eq, zB_eq, kB1_eq, kB2_eq, zU_eq, kU_eq, kCh1_eq, kCh2_eq, kCh3_t, kCh3_f, zT_eq, kT_bl, zTr_eq, kTr_bl, kTr_non, kTr_int, kTr_str, zAnd_eq, zOr_eq, zNot_eq, kNot_eq, kAnd_t, kAnd_f, kOr_t, kOr_f, zNotV_eq, kAndV_t, kAndV_f, kOrV_t, kOrV_f, kNotV_bl, kIfE_t, kIfE_f, zNil_eq, zCons_eq, kArg1_eq, kArg2_eq, zTup_eq, zLst_eq, kTup_eq, kLst_eq, thnE_nx, thnE_rt, thnE_bk, thnE_ct, mk_nx, mk_rt, mk_bk, mk_ct, zSeq_eq, zNext_eq, zBreak_eq, zCont_eq, zSet_eq, kSet_eq, zDrop_eq, kDrop_eq, zRet_eq, zRetN_eq, kIf_t, kIf_f, tl_mkS, cps_mkS, len_mkS, app_mkS, mkS_eq, V_int, V_str, V_bl, V_ref, dec_T, dec_F, not_t, not_f, and_T, T_and, upd_at, rAdd_int, rAdd_str, rAdd_ref, catO_lst, rI2_int, rI20_int, rMul_int, rMul_str, rMul_ref, repO_lst, rOrd_int, rOrd_str, rEqG_int, rEqG_str, rEqG_bl, rEqG_nn, rEqG_ni, rEqG_in, rEqG_ns, rEqG_sn, rEqG_is, rEqG_si, bne_ff, bne_tt, zCall_eq, kCall_eq, zMeth_eq, kMe2_eq, kMe1_eq, insO_eq, zMake_eq, fldO_eq, kFld_eq, zFld_eq, sfO_eq, kSf2_eq, kSf1_eq, zSetF_eq, chQ_eq, rIxZ_str, rIxZ_ref, ixO_lst, ixO_tup, ixO_frz, atI_zero, atI_1, atI_2, atI_3, atI_4, atI_5, atI_6, atI_7, atI_8, atI_9, atI_10, atI_11, atI_12, atI_13, atI_14, atI_15, zSl_eq, kS1_eq, kS2_eq, kS3_eq, zNo_eq, kPt_eq, zPt_eq, rSlZ_str, rSlZ_ref, slO_lst, slO_frz, slO_tup, V_lit, V_mk1, zCB_eq, kCB_eq, rLenZ_str, rLenZ_ref, lenO_lst, lenO_tup, lenO_dK, lenO_frz, intQ_eq, rIntZ_int, rIntZ_bl, rIntZ_str, rStrZ_int, rStrZ_str, rOrdZ_str, rMax2_eq, rMin2_eq, rListZ_eq, lofO_lst, lofO_tup, isNon_non, isNon_int, isNon_str, isNon_bl, isNon_ref, rIs_eq, rIsN_eq, rInZ_str, rNotInZ_str, rInZ_ref, rNotInZ_ref, zMs_eq, kMs_eq, kM2_eq, isL_lst, zMl_eq, kMl_eq, rS0_eq, rS1_eq, rFind1, rFind2, rJoin_eq, rAppZ_eq, appO_eq, zFm_eq, kFm_str, kFm_int, kJq_eq, tJs_nil, tJs_cons, kJs_str, zJs_eq, zRaise_eq, zTryAs_eq, zTry_eq, gName_eq, gNil_eq, kG_eq, gCons_eq, tupO_eq, zgT_eq, kAsg_eq, zAsg_eq, kAug2_eq, kAug1_eq, augC_eq, zAug_eq, rAddI_int, rAddI_str, loopE_nx, loopE_ct, loopE_bk, loopE_rt, zFor_eq, ziL_eq, kiL_eq, ziT_eq, kiT_eq, ziS_eq, kiS_eq, ziR1_eq, kiR1_eq, ziR2_eq, kiR2_eq, kWh_f, zLc_eq, zYes_eq, wipe_nil, wipe_cons, kIt_t, kIt_f, kTg_eq, WE_eq, W0_eq, rNeg_eq, rStarts_eq, rZfill_eq, rPart_eq, rSplit_eq, rPopZ_eq, popO_eq, atI_0, cmul_r, cdiv_r, dec_and, len_nil', len_cons', upd_upd', zRaiseF_eq, lstO_eq, zgL_eq, zIsE_eq, zIsET_eq, rIsiZ_bl, rIsiZ_rf, isiL_eq, zRep_eq, kRep_eq, F_Record_get_x, F_Record_set_x, F_Record_ini_x, F_Record_len0, F_Record_get_y, F_Record_set_y, F_Record_ini_y, F_Record_len1, F_Record_get_label, F_Record_set_label, F_Record_ini_label, F_Record_len2, F_Record_get_text, F_Record_set_text, F_Record_ini_text, F_Record_len3, F_Record_get_holders, F_Record_set_holders, F_Record_ini_holders, F_Record_len4, F_Record_get_due, F_Record_set_due, F_Record_ini_due, F_Record_len5, F_Record_len, Int.isPosValue, Int.reduceAbs, Int.reduceAdd, Int.reduceBEq, Int.reduceBNe, Int.reduceBdiv, Int.reduceBmod, Int.reduceDiv, Int.reduceDvd, Int.reduceEq, Int.reduceFDiv, Int.reduceFMod, Int.reduceGE, Int.reduceGT, Int.reduceLE, Int.reduceLT, Int.reduceMod, Int.reduceMul, Int.reduceNe, Int.reduceNeg, Int.reduceNegSucc, Int.reduceOfNat, Int.reducePow, Int.reduceSub, Int.reduceTDiv, Int.reduceTMod, Int.reduceToNat, List.reduceReplicate, Nat.isValue, Nat.reduceAdd, Nat.reduceAnd, Nat.reduceBEq, Nat.reduceBNe, Nat.reduceBeqDiff, Nat.reduceBneDiff, Nat.reduceDiv, Nat.reduceDvd, Nat.reduceEqDiff, Nat.reduceGT, Nat.reduceGcd, Nat.reduceLT, Nat.reduceLeDiff, Nat.reduceMod, Nat.reduceMul, Nat.reduceOr, Nat.reducePow, Nat.reduceShiftLeft, Nat.reduceShiftRight, Nat.reduceSub, Nat.reduceSubDiff, Nat.reduceSucc, Nat.reduceXor, dreduceDIte, dreduceIte, reduceCtorEq, reduceDIte, reduceIte, *]; intro q; exact q))
theorem pure_are_holders (K : PySem.W.Frag) (w : World) : ∀ vs H Q E, WF H → sp_are_holders vs H Q E → t_are_holders K w (W0 H E) sp_is_name (DD H Q) (L2.start N_are_holders vs) H := by
  rintro vs H Q E wf ⟨p, ls, rfl, hp, hn, hl, nd, hq⟩
  unfold t_are_holders N_are_holders
  have ret : ∀ {b} {H'}, Same H H' → b = holdersOk ls → RQ H Q (.bl b) H' := fun {b} {H'} s e => ret_same wf nd s (by rw [e]; exact hq)
  walk_at "s"
  unfold zIf
  simp only [seval, hp, List.length_map]
  refine kOr_split (fun k => ?_) (fun k => ?_)
  · walk_at "s"
    refine ret (Same.refl _) ?_
    unfold holdersOk
    simp at k
    have : ¬ ls.length ≤ 2 := by omega
    simp [this]
  · have k2 : ls.length ≤ 2 := by simp at k; omega
    walk_at "s"
    refine ⟨⟨_, SqL.of hp⟩, lcm_l (xs := SS ls) (ys := (ls.map isNameL).map V.bl) (by simp) (line_lt (by simp; omega)) hp ?_ ?_⟩
    · intro D i x y Nx hD hx hy hN
      obtain ⟨l, hl', rfl⟩ := ss_get hx
      have ey : y = .bl (isNameL l) := by
        simp only [List.getElem?_map, hl', Option.map_some, Option.some.injEq] at hy
        exact hy.symm
      subst ey
      obtain ⟨h1, h2⟩ := hl l (List.mem_of_getElem? hl')
      walk_at "s"
      exact ⟨l, rfl, h1, h2, noDT_upd nd rfl, hN _ rfl⟩
    · intro D hD
      walk_at "s"
      refine ⟨D, ls.map isNameL, rfl, SqL.of upd_same, ?_⟩
      have e : (ls.map isNameL).all id = ls.all isNameL := by simp [List.all_map]
      rw [e]
      walk_at "s"
      refine kIf_split (fun k3 => ?_) (fun k3 => ?_)
      · walk_at "s"
        refine ret (same_new hD) ?_
        unfold holdersOk
        simp only [Bool.not_eq_true'] at k3
        rw [k3]
        simp
      · have k4 : ls.all isNameL = true := by simpa using k3
        have hp' : upd H D (.lst ((ls.map isNameL).map V.bl)) p = some (.lst (SS ls)) := by
          rw [upd_ne (ne_of_none hp hD)]
          exact hp
        simp only [seval, hp', List.length_map]
        have fin : ∀ D', upd H D (.lst ((ls.map isNameL).map V.bl)) D' = none → zCB (rAll K) zNil [] (upd H D (.lst ((ls.map isNameL).map V.bl))) Q = zCB (rAll K) zNil [] (upd H D (.lst ((ls.map isNameL).map V.bl))) Q := fun _ _ => rfl
        clear fin
        generalize hH1 : upd H D (.lst ((ls.map isNameL).map V.bl)) = H1 at hp' ⊢
        have s1 : Same H H1 := by rw [← hH1]; exact same_new hD
        have okk : ∀ (bs : List Bool) (D' : Addr) (H2 : Hp), Same H H2 → H2 D' = some (.lst (bs.map V.bl)) → bs.all id = risingL ls → rAll K [.ref D'] H2 (RQ H Q) := fun bs D' H2 s e1 e2 => ⟨D', bs, rfl, SqL.of e1, by
          rw [e2]
          refine ret s ?_
          unfold holdersOk
          simp [k2, k4]⟩
        match ls, k2, hp' with
        | [], _, hp' =>
          refine ⟨by decide, by decide, lcz_r (fun D' i H' => H' = upd H1 D' (.lst [])) (fun _ _ => rfl) (fun D' i H' _ hi => absurd hi (by simp)) fun D' H' hD' e => ?_⟩
          subst e
          walk_at "s"
          exact okk [] D' _ (same_upd s1 (s1.free hD')) upd_same rfl
        | [a], _, hp' =>
          refine ⟨by simp, by simp, lcz_r (fun D' i H' => H' = upd H1 D' (.lst [])) (fun _ _ => rfl) (fun D' i H' _ hi => absurd hi (by simp)) fun D' H' hD' e => ?_⟩
          subst e
          walk_at "s"
          exact okk [] D' _ (same_upd s1 (s1.free hD')) upd_same rfl
        | [a, b], _, hp' =>
          refine ⟨by simp, by simp, lcz_r (fun D' i H' => H' = upd H1 D' (.lst (if i = 0 then [] else [.bl (ltL a b)]))) (fun _ _ => rfl) (fun D' i H' hD' hi e => ?_) fun D' H' hD' e => ?_⟩
          · subst e
            have hi : i = 0 := by simp at hi; omega
            subst hi
            have hp2 : upd H1 D' (.lst []) p = some (.lst (SS [a, b])) := by rw [upd_ne (ne_of_none hp' hD')]; exact hp'
            simp only [seval, hp2, if_true, List.map_cons, List.map_nil, Int.natCast_zero, Int.add_zero, Int.zero_add]
            exact kEl_at upd_same (line_lt (by decide)) (by simp [upd_upd])
          · subst e
            walk_at "s"
            refine okk [ltL a b] D' _ (same_upd s1 (s1.free hD')) (by rw [upd_same]; rfl) (by simp [risingL])
/-! ### Record -/
structure Rec where
  x : Int
  y : Int
  label : Int
  text : List Nat
  holders : List (List Nat)
  due : Bool
  deriving DecidableEq
def recOk (r : Rec) : Bool := ((decide (0 ≤ r.x) && decide (r.x ≤ 99)) && (decide (0 ≤ r.y) && decide (r.y ≤ 99))) && (((decide (0 ≤ r.label) && decide (r.label ≤ 3)) && isTextL r.text) && (holdersOk r.holders && !(r.due && decide (r.holders = []))))
abbrev fRec (r : Rec) (l : Addr) : List (Str × V) := F_Record (.int r.x) (.int r.y) (.int r.label) (.str (mkS r.text)) (.ref l) (.bl r.due)
/-- texts of plain signs, not long -/
def plain (ls : List (List Nat)) : Prop := ∀ l ∈ ls, Asc l ∧ l.length ≤ 1000000
def sp_rec_init (K : PySem.W.Frag) : Sp := fun vs H Q E => ∃ p dx l r, vs = [.ref p, .int r.x, .int r.y, .int r.label, .str (mkS r.text), .ref l, .bl r.due] ∧ H p = some (.ins (He.ga K "Record") dx []) ∧ H l = some (.lst (SS r.holders)) ∧
  r.text.length ≤ 1000000 ∧ r.holders.length ≤ 1000000 ∧ plain r.holders ∧ NoDT H ∧
  (recOk r = true → ∀ l', H l' = none → Q .non (upd (upd H l' (.lst (SS r.holders))) p (.ins (He.ga K "Record") dx (fRec r l')))) ∧ (recOk r = false → E (.ref (He.ga K "NotAllowed")) none H)
theorem pure_rec_init (K : PySem.W.Frag) (w : World) : ∀ vs H Q E, WF H → sp_rec_init K vs H Q E → t_Record___init__ K w (W0 H E) sp_is_record_text sp_are_holders (DD H Q) (L2.start N_Record___init__ vs) H := by
  rintro vs H Q E wf ⟨p, dx, l, r, rfl, hp, hl, ht, hn, hpl, nd, hq, he⟩
  unfold t_Record___init__ N_Record___init__
  have bad : recOk r = false → RE H E (.ref (He.ga K "NotAllowed")) none H := fun h => exc_same wf nd (Same.refl _) (he h)
  walk_at "s"
  walk_at "if"
  case h1 =>
    intro k
    walk_at "s"
    refine bad ?_
    unfold recOk
    simp at k ⊢
    grind
  case h2 =>
    intro k
    walk_at "s"
    apply if_of
    focus
      walk_at "ev"
      · walk_at "leaf"
      · walk_at "leaf"
      · walk_at "leaf"
      · intro Q q
        walk_at "s"
        exact ⟨r.text, rfl, ht, nd, q⟩
    case h1 =>
      intro k2
      walk_at "s"
      refine bad ?_
      unfold recOk
      simp at k k2 ⊢
      grind
    case h2 =>
      intro k2
      walk_at "s"
      apply if_of
      focus
        walk_at "ev"
        · intro Q q
          walk_at "s"
          exact ⟨l, r.holders, rfl, hl, hn, hpl, nd, q⟩
        · walk_at "leaf"
        · walk_at "leaf"
      case h1 =>
        intro k3
        walk_at "s"
        refine bad ?_
        unfold recOk
        simp at k k2 k3 ⊢
        grind
      case h2 =>
        intro k3
        have ok : recOk r = true := by
          unfold recOk
          simp at k k2 k3 ⊢
          grind
        have hlp : l ≠ p := ne_of hl hp (by intro h; cases h)
        simp only [seval, hp, F_Record_nil, upd_ne hlp, hl]
        intro l' hl'
        obtain ⟨n1, n2⟩ := upd_none.mp hl'
        simp only [seval, upd_ne (Ne.symm n1)]
        rw [upd_3 (Ne.symm n1)]
        have hp2 : upd H l' (.lst (SS r.holders)) p = some (.ins (He.ga K "Record") dx []) := by rw [upd_ne (Ne.symm n1)]; exact hp
        exact ret_id (wf_ins (wf_upd wf n2 rfl) hp2) (noDT_upd (noDT_upd nd rfl) rfl) (free_upd (free_upd fun _ e => e)) (hq ok l' n2)
/-! ### record_value -/
def figs (i : Int) : List Nat := numL i.toNat
def valueL (r : Rec) : List Nat := packS ([figs r.x, figs r.y, figs r.label, [if r.due then 49 else 48], r.text] ++ r.holders)
/-- a record at p -/
def RecAt (K : PySem.W.Frag) (H : Hp) (p : Addr) (r : Rec) : Prop := ∃ dx l, H p = some (.ins (He.ga K "Record") dx (fRec r l)) ∧ H l = some (.lst (SS r.holders))
theorem RecAt.same {K : PySem.W.Frag} {H H' : Hp} {p : Addr} {r : Rec} (h : RecAt K H p r) (s : Same H H') : RecAt K H' p r := by
  obtain ⟨dx, l, h1, h2⟩ := h
  exact ⟨dx, l, s _ _ h1, s _ _ h2⟩
def sp_record_value (K : PySem.W.Frag) : Sp := fun vs H Q E => ∃ p r, vs = [.ref p] ∧ RecAt K H p r ∧ recOk r = true ∧ NoDT H ∧ Q (.str (mkS (valueL r))) H
theorem recOk_of {r : Rec} (h : recOk r = true) : (0 ≤ r.x ∧ r.x ≤ 99) ∧ (0 ≤ r.y ∧ r.y ≤ 99) ∧ (0 ≤ r.label ∧ r.label ≤ 3) ∧ r.text.length ≤ 16 ∧ 34 ∉ r.text ∧ holdersOk r.holders = true ∧ (r.due = true → r.holders ≠ []) := by
  unfold recOk isTextL at h
  simp at h
  grind
theorem holdersOk_of {ls : List (List Nat)} (h : holdersOk ls = true) : ls.length ≤ 2 ∧ (∀ l ∈ ls, isNameL l = true) ∧ risingL ls = true := by
  unfold holdersOk at h
  simp at h
  exact ⟨h.1, by simpa using h.2.1, h.2.2⟩
theorem isNameL_of {l : List Nat} (h : isNameL l = true) : 1 ≤ l.length ∧ l.length ≤ 4 ∧ l.all isAln = true ∧ l = l.map lowC := by
  unfold isNameL at h
  simp only [Bool.and_eq_true, decide_eq_true_eq] at h
  exact ⟨h.1.1, h.1.2, h.2.1, h.2.2⟩
theorem figs_len {i : Int} (h : i ≤ 99) : (figs i).length ≤ 2 := numL_len (k := 2) (by decide) (by omega)
theorem pure_record_value (K : PySem.W.Frag) (w : World) : ∀ vs H Q E, WF H → sp_record_value K vs H Q E → t_record_value K w (W0 H E) (sp_pack K) (DD H Q) (L2.start N_record_value vs) H := by
  rintro vs H Q E wf ⟨p, r, rfl, ⟨dx, l, hp, hl⟩, ok, nd, hq⟩
  unfold t_record_value N_record_value
  obtain ⟨hx, hy, hb, ht, _, hh, _⟩ := recOk_of ok
  obtain ⟨hh1, hh2, _⟩ := holdersOk_of hh
  have fin : ∀ c : List Nat, c = [if r.due then 49 else 48] → zSeq (zSet 2 (zLst (zCons (zCB rStrZ (zCons (zFld (He.ga K "Record") "x" (zV 0)) zNil)) (zCons (zCB rStrZ (zCons (zFld (He.ga K "Record") "y" (zV 0)) zNil)) (zCons (zCB rStrZ (zCons (zFld (He.ga K "Record") "label" (zV 0)) zNil)) (zCons (zV 1) (zCons (zFld (He.ga K "Record") "text" (zV 0)) zNil)))))))
      (zRet (zCall (sp_pack K) (W0 H E) (zCons (zB rAdd (zV 2) (zFld (He.ga K "Record") "holders" (zV 0))) zNil))) (DD H Q) [some (.ref p), some (.str (mkS c)), none] H := by
    intro c hc
    simp only [seval, hp]
    rw [numS_pos hx.1, numS_pos hy.1, numS_pos hb.1]
    refine ⟨log_int (by omega), log_int (by omega), log_int (by omega), fun q hq' => ?_⟩
    have e1 := upd_old (o := .lst [V.str (mkS (numL r.x.toNat)), .str (mkS (numL r.y.toNat)), .str (mkS (numL r.label.toNat)), .str (mkS c), .str (mkS r.text)]) hq' (show (H p).isSome = true by rw [hp]; rfl)
    have e2 := upd_old (o := .lst [V.str (mkS (numL r.x.toNat)), .str (mkS (numL r.y.toNat)), .str (mkS (numL r.label.toNat)), .str (mkS c), .str (mkS r.text)]) hq' (show (H l).isSome = true by rw [hl]; rfl)
    simp only [seval, e1, e2, hp, hl]
    refine ⟨by simp; exact line_of (by omega), fun q2 hq2 => ?_⟩
    obtain ⟨n1, n2⟩ := upd_none.mp hq2
    walk_at "s"
    have ev : valueL r = packS ([figs r.x, figs r.y, figs r.label, c, r.text] ++ r.holders) := by rw [hc]; rfl
    refine ⟨q2, [figs r.x, figs r.y, figs r.label, c, r.text] ++ r.holders, rfl, by rw [upd_same]; simp [figs, SS], by simp; omega, fun a ha => ?_, noDT_upd (noDT_upd nd rfl) rfl, ?_⟩
    · have h1 := figs_len (i := r.x) (by omega)
      have h2 := figs_len (i := r.y) (by omega)
      have h3 := figs_len (i := r.label) (by omega)
      have h4 : c.length = 1 := by rw [hc]; rfl
      simp only [List.mem_append, List.mem_cons, List.not_mem_nil, or_false] at ha
      rcases ha with (rfl | rfl | rfl | rfl | rfl) | ha
      · omega
      · omega
      · omega
      · omega
      · omega
      · have := (isNameL_of (hh2 a ha)).2.1
        omega
    · rw [← ev]
      exact ret_same wf nd (same_upd (same_new hq') n2) hq
  walk_at "s"
  refine if_of (b := r.due) ?_ (fun k => ?_) (fun k => ?_)
  · intro Q q
    simp only [seval, hp]
    exact q
  · have := fin [49] (by rw [k]; rfl)
    simp only [zSet_eq, zC_eq, kSet_eq, set_succ, set_zero, thnE_nx, V_lit, cs_1]
    exact this
  · have := fin [48] (by rw [k]; rfl)
    simp only [zNext_eq, thnE_nx, V_lit, cs_0]
    exact this
/-! ### what is packed is read back -/
theorem numL_head : ∀ n : Nat, 0 < n → ∀ c r, numL n = c :: r → c ≠ 48 := by
  intro n
  induction n using Nat.strongRecOn with
  | ind n ih =>
    intro hn c r h
    by_cases h10 : n < 10
    · rw [numL_lt h10] at h
      cases h
      omega
    · rw [numL_step (by omega)] at h
      cases e : numL (n / 10) with
      | nil => exact absurd e (numL_ne _)
      | cons d q =>
        rw [e] at h
        cases h
        exact ih (n / 10) (by omega) (by omega) _ _ e
theorem numOk_numL {n : Nat} (h : n < 1000000000) : numOk (numL n) = true := by
  unfold numOk
  have h1 := numL_fig n
  have h2 : (numL n).length ≤ 9 := numL_len (k := 9) (by decide) h
  have h3 : 0 < (numL n).length := List.length_pos_iff.mpr (numL_ne n)
  rw [h1, decide_eq_true h2, decide_eq_true h3]
  by_cases h0 : n = 0
  · subst h0
    decide
  · cases e : numL n with
    | nil => exact absurd e (numL_ne n)
    | cons c r =>
      have := numL_head n (by omega) c r e
      simp [this]
theorem findC_here {pre mid post : List Nat} {c : Nat} (h : c ∉ mid) : findC c (pre ++ (mid ++ (c :: post))) pre.length = some (pre.length + mid.length) := by
  refine findC_some (by omega) ?_ fun v h1 h2 => ?_
  · rw [List.getElem?_append_right (by omega), Nat.add_sub_cancel_left, List.getElem?_append_right (by omega), Nat.sub_self]
    rfl
  · rw [List.getElem?_append_right h1, List.getElem?_append_left (by omega)]
    intro e
    exact h (List.mem_of_getElem? e)
theorem colon_free (n : Nat) : 58 ∉ numL n := numL_free (by omega)
theorem partAt_pack {pre l post : List Nat} (h : l.length < 1000000000) : partAt (pre ++ (packP l ++ post)) pre.length = some (l, pre.length + (packP l).length) := by
  have e0 : pre ++ (packP l ++ post) = pre ++ (numL l.length ++ (58 :: (l ++ post))) := by simp [packP]
  unfold partAt
  rw [e0, findC_here (colon_free l.length)]
  have e1 : ((pre ++ (numL l.length ++ (58 :: (l ++ post)))).drop pre.length).take (pre.length + (numL l.length).length - pre.length) = numL l.length := by
    rw [List.drop_left' rfl, Nat.add_sub_cancel_left, List.take_left' rfl]
  have e2 : (pre ++ (numL l.length ++ (58 :: (l ++ post)))).drop (pre.length + (numL l.length).length + 1) = l ++ post := by
    rw [show pre.length + (numL l.length).length + 1 = pre.length + ((numL l.length).length + 1) from rfl, ← List.drop_drop, List.drop_left' rfl, ← List.drop_drop, List.drop_left' rfl]
    rfl
  simp only [e1, e2, numOk_numL h, valD_numL, true_and]
  rw [if_pos (by simp; omega), List.take_left' rfl]
  simp [packP]
  omega
theorem partsFrom_pack : ∀ (ls : List (List Nat)) (pre : List Nat) (n : Nat), (∀ l ∈ ls, l.length < 1000000000) → (packS ls).length ≤ n → partsFrom (pre ++ packS ls) n pre.length = some ls
  | [], pre, n, _, _ => by
    cases n with
    | zero =>
      show (if _ then none else some []) = some []
      rw [if_neg (by simp [packS])]
    | succ n =>
      unfold partsFrom
      rw [if_neg (by simp [packS])]
  | l :: r, pre, n, h, hn => by
    have e : packS (l :: r) = packP l ++ packS r := by simp [packS]
    have hp : 0 < (packP l).length := by simp [packP]; omega
    rw [e] at hn ⊢
    rw [List.length_append] at hn
    cases n with
    | zero => omega
    | succ n =>
      unfold partsFrom
      rw [if_pos (by simp; omega), partAt_pack (h l List.mem_cons_self)]
      have ih := partsFrom_pack r (pre ++ packP l) n (fun a ha => h a (List.mem_cons_of_mem _ ha)) (by omega)
      rw [List.length_append, List.append_assoc] at ih
      show (partsFrom _ n (pre.length + (packP l).length)).map _ = _
      rw [ih]
      rfl
theorem unpack_pack {ls : List (List Nat)} (h : ∀ l ∈ ls, l.length < 1000000000) : unpackL (packS ls) = some ls := by
  have := partsFrom_pack ls [] (packS ls).length h (Nat.le_refl _)
  simpa [unpackL] using this
theorem packS_asc {ls : List (List Nat)} (h : ∀ l ∈ ls, Asc l) : Asc (packS ls) := by
  intro c hc
  obtain ⟨p, hp, hcp⟩ := List.mem_flatten.mp hc
  obtain ⟨l, hl, rfl⟩ := List.mem_map.mp hp
  simp only [packP, List.mem_append, List.mem_cons, List.not_mem_nil, or_false] at hcp
  rcases hcp with h1 | rfl | h1
  · exact numL_asc _ c h1
  · decide
  · exact h l hl c h1
theorem packS_len {ls : List (List Nat)} {m : Nat} (h : ∀ l ∈ ls, l.length ≤ m) (hm : m ≤ 100000000) : (packS ls).length ≤ ls.length * (m + 10) := by
  unfold packS
  rw [List.length_flatten, List.map_map]
  exact sum_map_le fun l hl => by
    have := h l hl
    have := numL_len9 (n := l.length) (by omega)
    simp [packP]
    omega
/-! ### record_from_value -/
def fromParts : List (List Nat) → Option Rec
  | a :: b :: c :: d :: t :: hs => if (d = [48] ∨ d = [49]) ∧ (numOk a = true ∧ numOk b = true ∧ numOk c = true) ∧ recOk ⟨valD a, valD b, valD c, t, hs, decide (d = [49])⟩ = true then some ⟨valD a, valD b, valD c, t, hs, decide (d = [49])⟩ else none
  | _ => none
abbrev Good (a b c d t : List Nat) (hs : List (List Nat)) : Prop := (d = [48] ∨ d = [49]) ∧ (numOk a = true ∧ numOk b = true ∧ numOk c = true) ∧ recOk ⟨valD a, valD b, valD c, t, hs, decide (d = [49])⟩ = true
theorem fromParts_no {a b c d t : List Nat} {hs : List (List Nat)} (h : ¬ Good a b c d t hs) : fromParts (a :: b :: c :: d :: t :: hs) = none := if_neg h
theorem fromParts_yes {a b c d t : List Nat} {hs : List (List Nat)} (h : Good a b c d t hs) : fromParts (a :: b :: c :: d :: t :: hs) = some ⟨valD a, valD b, valD c, t, hs, decide (d = [49])⟩ := if_pos h
def fromValue (l : List Nat) : Option Rec := (unpackL l).bind fromParts
def recH (K : PySem.W.Frag) (H : Hp) (p dx q : Addr) (r : Rec) : Hp := upd (upd (upd H dx (.own p)) q (.lst (SS r.holders))) p (.ins (He.ga K "Record") dx (fRec r q))
def sp_from (K : PySem.W.Frag) : Sp := fun vs H Q E => ∃ l, vs = [.str (mkS l)] ∧ Asc l ∧ l.length ≤ 100000 ∧ NoDT H ∧
  (∀ r, fromValue l = some r → ∀ p dx q, H p = none → H dx = none → H q = none → dx ≠ p → q ≠ p → q ≠ dx → Q (.ref p) (recH K H p dx q r)) ∧ (fromValue l = none → E (.ref (He.ga K "BadForm")) none H)
theorem or_of {t u : TT} {σ : Sl} {H : Hp} {Q : Bool → Hp → Prop} {a : Bool} (h : EvT t σ H a) (h1 : a = true → Q true H) (h2 : a = false → u σ H Q) : zOr t u σ H Q := h _ (kOr_split h1 h2)
theorem partsFrom_mem {l : List Nat} : ∀ (n i : Nat) (ls : List (List Nat)), partsFrom l n i = some ls → ∀ a ∈ ls, a.length ≤ l.length ∧ ∀ c ∈ a, c ∈ l := by
  intro n
  induction n with
  | zero =>
    intro i ls h a ha
    unfold partsFrom at h
    split at h
    · cases h
    · cases h
      cases ha
  | succ n ih =>
    intro i ls h a ha
    unfold partsFrom at h
    split at h
    · cases e : partAt l i with
      | none => rw [e] at h; cases h
      | some mj =>
        obtain ⟨m, j⟩ := mj
        rw [e] at h
        cases e2 : partsFrom l n j with
        | none => simp [e2] at h
        | some ls2 =>
          simp [e2] at h
          subst h
          obtain ⟨h1, h2, h3, h4⟩ := partAt_lt e
          rcases List.mem_cons.mp ha with rfl | ha
          · exact ⟨h3, h4⟩
          · exact ih j ls2 e2 a ha
    · cases h
      cases ha
theorem partsFrom_len {l : List Nat} : ∀ (n i : Nat) (ls : List (List Nat)), partsFrom l n i = some ls → ls.length ≤ n := by
  intro n
  induction n with
  | zero =>
    intro i ls h
    unfold partsFrom at h
    split at h
    · cases h
    · cases h
      exact Nat.le_refl _
  | succ n ih =>
    intro i ls h
    unfold partsFrom at h
    split at h
    · cases e : partAt l i with
      | none => rw [e] at h; cases h
      | some mj =>
        obtain ⟨m, j⟩ := mj
        rw [e] at h
        cases e2 : partsFrom l n j with
        | none => simp [e2] at h
        | some ls2 =>
          simp [e2] at h
          subst h
          have := ih j ls2 e2
          simp
          omega
    · cases h
      exact Nat.zero_le _
theorem unpackL_mem {l : List Nat} {ls : List (List Nat)} (h : unpackL l = some ls) : ls.length ≤ l.length ∧ ∀ a ∈ ls, a.length ≤ l.length ∧ ∀ c ∈ a, c ∈ l := ⟨partsFrom_len _ _ _ h, partsFrom_mem _ _ _ h⟩
theorem ret_rec {K : PySem.W.Frag} {H Hf : Hp} {Q : VK} {x dx q : Addr} {r : Rec} (wf : WF H) (nd : NoDT H) (hx : H x = none) (hdx : H dx = none) (hq : H q = none) (n1 : dx ≠ x) (n2 : q ≠ x) (n3 : q ≠ dx) (s : Same H Hf) (e1 : Hf x = some (.ins (He.ga K "Record") dx (fRec r q)))
    (e2 : Hf dx = some (.own x)) (e3 : Hf q = some (.lst (SS r.holders))) (qq : Q (.ref x) (recH K H x dx q r)) : RQ H Q (.ref x) Hf := by
  refine ⟨recH K H x dx q r, ⟨fun b o e => ?_, fun b e => ?_, noDT_upd (noDT_upd (noDT_upd nd rfl) rfl) rfl, fun a u e => ?_⟩, qq⟩
  · unfold recH at e
    by_cases h1 : b = x
    · rw [h1, upd_same] at e
      cases e
      rw [h1]
      exact e1
    · rw [upd_ne h1] at e
      by_cases h2 : b = q
      · rw [h2, upd_same] at e
        cases e
        rw [h2]
        exact e3
      · rw [upd_ne h2] at e
        by_cases h3 : b = dx
        · rw [h3, upd_same] at e
          cases e
          rw [h3]
          exact e2
        · rw [upd_ne h3] at e
          exact s b o e
  · unfold recH at e
    exact (upd_none.mp (upd_none.mp (upd_none.mp e).2).2).2
  · unfold recH at e ⊢
    by_cases h1 : a = x
    · rw [h1, upd_same] at e
      cases e
      show upd _ x _ dx = _
      rw [upd_ne n1, upd_ne (Ne.symm n3), upd_same, h1]
    · rw [upd_ne h1] at e
      refine cl_upd (by rw [upd_ne (Ne.symm n2), upd_ne (Ne.symm n1)]; exact hx) u ?_
      by_cases h2 : a = q
      · rw [h2, upd_same] at e
        cases e
        trivial
      · rw [upd_ne h2] at e
        refine cl_upd (by rw [upd_ne n3]; exact hq) u ?_
        by_cases h3 : a = dx
        · rw [h3, upd_same] at e
          cases e
          trivial
        · rw [upd_ne h3] at e
          exact cl_upd hdx u (wf a u e)
theorem in01 (d : List Nat) : inV (.str (mkS d)) [.str (mkS [48]), .str (mkS [49])] = decide (d = [48] ∨ d = [49]) := by
  unfold inV
  simp only [List.any_cons, List.any_nil, Bool.or_false]
  rw [Bool.decide_or]
  congr 1
  · show decide _ = _
    exact decide_eq_decide.mpr (by rw [mkS_eq]; exact eq_comm)
  · show decide _ = _
    exact decide_eq_decide.mpr (by rw [mkS_eq]; exact eq_comm)
theorem pure_record_from_value (K : PySem.W.Frag) (w : World) (exm : PySem.W.exmOne K (.ref (He.ga K "NotAllowed")) (.ref (He.ga K "NotAllowed")) = some true) : ∀ vs H Q E, WF H → sp_from K vs H Q E → t_record_from_value K w (W0 H E) (sp_unpack K) (sp_number_of K) (sp_rec_init K) (DD H Q) (L2.start N_record_from_value vs) H := by
  rintro vs H Q E wf ⟨l, rfl, hA, hl, nd, hq, he⟩
  unfold t_record_from_value N_record_from_value
  walk_at "s"
  refine ⟨l, rfl, hA, by omega, nd, fun ps hps p hp => ?_, fun hn => ?_⟩
  · obtain ⟨pl, pm⟩ := unpackL_mem hps
    have hv : fromValue l = fromParts ps := by unfold fromValue; rw [hps]; rfl
    have bad : ∀ H', Same H H' → fromParts ps = none → RE H E (.ref (He.ga K "BadForm")) none H' := fun H' s e => exc_same wf nd s (he (hv.trans e))
    have hps' : upd H p (.lst (SS ps)) p = some (.lst (SS ps)) := upd_same
    generalize hH1 : upd H p (.lst (SS ps)) = H1 at hps' ⊢
    have s1 : Same H H1 := by rw [← hH1]; exact same_new hp
    have nd1 : NoDT H1 := by rw [← hH1]; exact noDT_upd nd rfl
    walk_at "s"
    refine or_of (a := decide (ps.length < 5)) ?_ (fun k => ?_) (fun k => ?_)
    · walk_at "ev"
      intro Q q
      simp only [seval, hps', List.length_map]
      rw [show decide (((ps.length : Nat) : Int) < 5) = decide (ps.length < 5) from decide_eq_decide.mpr (by omega)]
      exact q
    · walk_at "s"
      refine bad _ s1 ?_
      simp only [decide_eq_true_eq] at k
      unfold fromParts
      split
      · simp at k
        omega
      · rfl
    · simp only [decide_eq_false_iff_not, Nat.not_lt] at k
      obtain ⟨a, b, c, d, t, hs, rfl⟩ : ∃ a b c d t hs, ps = a :: b :: c :: d :: t :: hs := by
        match ps, k with
        | a :: b :: c :: d :: t :: hs, _ => exact ⟨a, b, c, d, t, hs, rfl⟩
      have hps' : H1 p = some (.lst (.str (mkS a) :: .str (mkS b) :: .str (mkS c) :: .str (mkS d) :: .str (mkS t) :: SS hs)) := hps'
      simp only [seval, hps']
      rw [cs_0, cs_1]
      intro tp htp
      have e2 : upd H1 tp (.tup [.str (mkS [48]), .str (mkS [49])]) p = _ := (upd_old htp (by rw [hps']; rfl)).trans hps'
      have e2t : upd H1 tp (.tup [.str (mkS [48]), .str (mkS [49])]) tp = some (.tup [.str (mkS [48]), .str (mkS [49])]) := upd_same
      have s2 : Same H (upd H1 tp (.tup [.str (mkS [48]), .str (mkS [49])])) := same_upd s1 (s1.free htp)
      have nd2 : NoDT (upd H1 tp (.tup [.str (mkS [48]), .str (mkS [49])])) := noDT_upd nd1 rfl
      generalize upd H1 tp (.tup [.str (mkS [48]), .str (mkS [49])]) = H2 at e2 e2t s2 nd2 ⊢
      simp only [seval]
      refine ⟨tp, _, rfl, .inr (SqT.of e2t), rfl, by decide, ?_⟩
      rw [in01]
      simp only [seval]
      by_cases hd : d = [48] ∨ d = [49]
      case neg =>
        rw [decide_eq_false hd]
        walk_at "s"
        exact bad _ s2 (fromParts_no fun z => hd z.1)
      rw [decide_eq_true hd]
      simp only [seval, e2]
      intro q3 hq3
      have c3 : cutV (V.str (mkS a) :: V.str (mkS b) :: V.str (mkS c) :: V.str (mkS d) :: V.str (mkS t) :: SS hs) none (some (3 : Int)) = [.str (mkS a), .str (mkS b), .str (mkS c)] := cutV__n (b := 3)
      rw [c3]
      have e3 : upd H2 q3 (.lst [.str (mkS a), .str (mkS b), .str (mkS c)]) p = _ := (upd_old hq3 (by rw [e2]; rfl)).trans e2
      have e3q : upd H2 q3 (.lst [.str (mkS a), .str (mkS b), .str (mkS c)]) q3 = some (.lst [.str (mkS a), .str (mkS b), .str (mkS c)]) := upd_same
      have s3 : Same H (upd H2 q3 (.lst [.str (mkS a), .str (mkS b), .str (mkS c)])) := same_upd s2 (s2.free hq3)
      have nd3 : NoDT (upd H2 q3 (.lst [.str (mkS a), .str (mkS b), .str (mkS c)])) := noDT_upd nd2 rfl
      generalize upd H2 q3 (.lst [.str (mkS a), .str (mkS b), .str (mkS c)]) = H3 at e3 e3q s3 nd3 ⊢
      simp only [seval]
      have asc : ∀ x ∈ a :: b :: c :: d :: t :: hs, Asc x ∧ x.length ≤ 1000000 := fun x hx => ⟨hA.of_sub (pm x hx).2, by have := (pm x hx).1; omega⟩
      have ysz : ∀ i, (List.take i [V.int (valD a : Nat), .int (valD b : Nat), .int (valD c : Nat)]).length < sizeLine := fun i => Nat.lt_of_le_of_lt (List.length_take_le' _ _) (show 3 < sizeLine by decide)
      refine ⟨⟨_, SqL.of e3q⟩, lcz_l (xs := [.str (mkS a), .str (mkS b), .str (mkS c)]) (fun D i H' => (∀ j m, j < i → [a, b, c][j]? = some m → numOk m = true) ∧ H' = upd H3 D (.lst (List.take i [V.int (valD a : Nat), .int (valD b : Nat), .int (valD c : Nat)]))) (fun D hD => ⟨fun j m z => absurd z (Nat.not_lt_zero _), rfl⟩)
        (fun D i H' hD hi p => by rw [p.2]; exact SqL.of ((upd_old hD (by rw [e3q]; rfl)).trans e3q)) ?_ ?_⟩
      · rintro D i x H' hD hx ⟨hok, rfl⟩
        obtain ⟨m, hm, hxm, hym, hbad, hmi⟩ : ∃ m, m ∈ a :: b :: c :: d :: t :: hs ∧ x = .str (mkS m) ∧ [V.int (valD a : Nat), .int (valD b : Nat), .int (valD c : Nat)][i]? = some (.int (valD m : Nat)) ∧ (numOk m = false → fromParts (a :: b :: c :: d :: t :: hs) = none) ∧ [a, b, c][i]? = some m := by
          match i, hx with
          | 0, hx => exact ⟨a, by simp, (Option.some.inj hx).symm, rfl, (fun z => fromParts_no fun y => by rw [y.2.1.1] at z; cases z), rfl⟩
          | 1, hx => exact ⟨b, by simp, (Option.some.inj hx).symm, rfl, (fun z => fromParts_no fun y => by rw [y.2.1.2.1] at z; cases z), rfl⟩
          | 2, hx => exact ⟨c, by simp, (Option.some.inj hx).symm, rfl, (fun z => fromParts_no fun y => by rw [y.2.1.2.2] at z; cases z), rfl⟩
          | n + 3, hx => simp at hx
        subst hxm
        have sD : Same H (upd H3 D (.lst (List.take i [V.int (valD a : Nat), .int (valD b : Nat), .int (valD c : Nat)]))) := same_upd s3 (s3.free hD)
        simp only [seval]
        refine ⟨m, rfl, (asc m hm).1, (asc m hm).2, noDT_upd nd3 rfl, fun ho => ?_, fun ho => ?_⟩
        · refine kEl_at upd_same (ysz i) ⟨fun j m' hj hm' => ?_, ?_⟩
          · by_cases hji : j = i
            · rw [hji, hmi] at hm'
              cases hm'
              exact ho
            · exact hok j m' (by omega) hm'
          · rw [upd_upd, List.take_succ, hym]
            rfl
        · simp only [seval]
          exact bad _ sD (hbad ho)
      · rintro D H' hD ⟨hok, rfl⟩
        have hok3 : numOk a = true ∧ numOk b = true ∧ numOk c = true := ⟨hok 0 a (show 0 < 3 by decide) rfl, hok 1 b (show 1 < 3 by decide) rfl, hok 2 c (show 2 < 3 by decide) rfl⟩
        rw [show List.take [V.str (mkS a), V.str (mkS b), V.str (mkS c)].length [V.int (valD a : Nat), .int (valD b : Nat), .int (valD c : Nat)] = [V.int (valD a : Nat), .int (valD b : Nat), .int (valD c : Nat)] from rfl]
        have e4 : upd H3 D (.lst [.int (valD a : Nat), .int (valD b : Nat), .int (valD c : Nat)]) p = _ := (upd_old hD (by rw [e3]; rfl)).trans e3
        have s4 : Same H (upd H3 D (.lst [.int (valD a : Nat), .int (valD b : Nat), .int (valD c : Nat)])) := same_upd s3 (s3.free hD)
        have nd4 : NoDT (upd H3 D (.lst [.int (valD a : Nat), .int (valD b : Nat), .int (valD c : Nat)])) := noDT_upd nd3 rfl
        have e4D : upd H3 D (.lst [.int (valD a : Nat), .int (valD b : Nat), .int (valD c : Nat)]) D = some (.lst [.int (valD a : Nat), .int (valD b : Nat), .int (valD c : Nat)]) := upd_same
        generalize upd H3 D (.lst [.int (valD a : Nat), .int (valD b : Nat), .int (valD c : Nat)]) = H4 at e4 e4D s4 nd4 ⊢
        simp only [seval, e4D, e4]
        have c5 : cutV (V.str (mkS a) :: V.str (mkS b) :: V.str (mkS c) :: V.str (mkS d) :: V.str (mkS t) :: SS hs) (some (5 : Int)) none = SS hs := cutV_n_ (a := 5)
        rw [c5]
        intro q5 hq5
        have e5 : upd H4 q5 (.lst (SS hs)) p = _ := (upd_old hq5 (by rw [e4]; rfl)).trans e4
        have e5q : upd H4 q5 (.lst (SS hs)) q5 = some (.lst (SS hs)) := upd_same
        have s5 : Same H (upd H4 q5 (.lst (SS hs))) := same_upd s4 (s4.free hq5)
        have nd5 : NoDT (upd H4 q5 (.lst (SS hs))) := noDT_upd nd4 rfl
        generalize upd H4 q5 (.lst (SS hs)) = H5 at e5 e5q s5 nd5 ⊢
        simp only [seval, e5]
        intro x dx hx hdx hne
        have s6 : Same H (mkH H5 (He.ga K "Record") x dx) := fun b o e => mkH_same hx hdx b o (s5 b o e)
        have e6 : mkH H5 (He.ga K "Record") x dx q5 = some (.lst (SS hs)) := mkH_same hx hdx _ _ e5q
        have e6d : mkH H5 (He.ga K "Record") x dx dx = some (.own x) := by
          unfold mkH
          rw [upd_ne hne, upd_same]
        refine ⟨x, dx, q5, ⟨valD a, valD b, valD c, t, hs, decide (d = [49])⟩, rfl, mkH_at, e6, (asc t (by simp)).2, by simp at pl; show hs.length ≤ _; omega, fun y hy => asc y (by simp [hy]), mkH_noDT nd5, fun ok l' hl' => ⟨rfl, ?_⟩, fun ok => ?_⟩
        · simp only [seval]
          have hg : Good a b c d t hs := by
            exact ⟨hd, hok3, ok⟩
          have n1 : l' ≠ x := fun z => by rw [z, upd_same] at hl'; cases hl'
          have n2 : l' ≠ dx := fun z => by
            rw [z] at hl'
            have := e6d
            unfold mkH at this
            rw [this] at hl'
            cases hl'
          have hl5 := s6.free hl'
          refine ret_rec wf nd (s5.free hx) (s5.free hdx) hl5 hne n1 n2 ?_ upd_same ?_ ?_ (hq _ (hv.trans (fromParts_yes hg)) x dx l' (s5.free hx) (s5.free hdx) hl5 hne n1 n2)
          · intro b o e
            have hb : b ≠ x := ne_of_none e (s5.free hx)
            have hb2 : b ≠ l' := ne_of_none e hl5
            rw [upd_ne hb, upd_ne hb2]
            exact s6 b o e
          · rw [upd_ne hne, upd_ne (Ne.symm n2)]
            exact e6d
          · rw [upd_ne n1, upd_same]
        · refine ⟨true, exm, fun _ a' ha' => ⟨rfl, rfl, ?_⟩, fun z => nomatch z⟩
          simp only [seval]
          refine bad _ s6 (fromParts_no fun z => ?_)
          have := z.2.2
          rw [ok] at this
          cases this
  · walk_at "s"
    exact exc_same wf nd (Same.refl _) (he (by unfold fromValue; rw [hn]; rfl))
/-! ### the law's draws -/
def NumsAt (H : Hp) (p : Addr) : Prop := ∃ ns : List Int, ns ≠ [] ∧ ns.length ≤ 4000 ∧ H p = some (.lst (ns.map V.int))
theorem NumsAt.same {H H' : Hp} {p : Addr} (h : NumsAt H p) (s : Same H H') : NumsAt H' p := by
  obtain ⟨ns, a, b, c⟩ := h
  exact ⟨ns, a, b, s _ _ c⟩
theorem NumsAt.some {H : Hp} {p : Addr} (h : NumsAt H p) : (H p).isSome = true := by
  obtain ⟨ns, a, b, c⟩ := h
  rw [c]
  rfl
def sp_pick : Sp := fun vs H Q E => ∃ p at_ many, vs = [.ref p, .int at_, .int many] ∧ NumsAt H p ∧ 0 < many ∧ NoDT H ∧ ∀ v, 0 ≤ v → v < many → Q (.int v) H
theorem pure_pick (K : PySem.W.Frag) (w : World) : ∀ vs H Q E, WF H → sp_pick vs H Q E → t__law_pick K w (W0 H E) (DD H Q) (L2.start N__law_pick vs) H := by
  rintro vs H Q E wf ⟨p, a, m, rfl, ⟨ns, h0, h1, hp⟩, hm, nd, hq⟩
  unfold t__law_pick N__law_pick
  simp only [seval, hp, List.length_map]
  have hl : 0 < ns.length := List.length_pos_iff.mpr h0
  have hl' : (0 : Int) < (ns.length : Int) := by omega
  refine ⟨hl', ?_⟩
  have h2 := Int.emod_nonneg a (b := (ns.length : Int)) (by omega)
  have h3 := Int.emod_lt_of_pos a hl'
  obtain ⟨j, hj⟩ := Int.eq_ofNat_of_zero_le h2
  have hj' : j < ns.length := by omega
  have e : atI (ns.map V.int) (a % (ns.length : Int)) = some (.int ns[j]) := by
    rw [hj]
    exact atI_nat (by simp [hj'])
  rw [e]
  simp only [seval]
  exact ⟨hm, ret_same wf nd (Same.refl _) (hq _ (Int.emod_nonneg _ (by omega)) (Int.emod_lt_of_pos _ hm))⟩
theorem sqL_upd {K : PySem.W.Frag} {H : Hp} {a p : Addr} {o : HO} {xs : List V} (h : SqL K H a xs) (hp : H p = none) : SqL K (upd H p o) a xs := by
  rcases h with (h | ⟨ob, h⟩) | h
  · exact .inl (.inl (by rw [upd_ne (ne_of_none h hp)]; exact h))
  · exact .inl (.inr ⟨ob, by rw [upd_ne (ne_of_none h hp)]; exact h⟩)
  · exact .inr h
def sp_stream (K : PySem.W.Frag) : Sp := fun vs H Q E => ∃ (a : Addr) (js : List Int), vs = [.ref a] ∧ SqL K H a (js.map V.int) ∧ NoDT H ∧ ∀ p ns, ns ≠ [] → ns.length ≤ 4000 → H p = none → Q (.ref p) (upd H p (.lst (ns.map V.int)))
/-- within the loops: ns the numbers so far -/
def StOk (H : Hp) (a p q : Addr) (xs : List V) (m : Nat) (R : Option V → Option V → Prop) (σ : Sl) (H' : Hp) : Prop := ∃ (ns : List Int) (v2 v3 v4 v5 : Option V), σ = [some (.ref a), some (.ref p), v2, v3, v4, v5] ∧ Same H H' ∧ NoDT H' ∧ H' q = some (.lst xs) ∧ H' p = some (.lst (ns.map V.int)) ∧ ns.length ≤ m ∧ R v3 v5
theorem StOk.more {H : Hp} {a p q : Addr} {xs : List V} {m : Nat} {R : Option V → Option V → Prop} {H' : Hp} {ns : List Int} {v2 v3 v4 v5 : Option V} {n : Int} (hp : H p = none) (hqp : q ≠ p) (hs : Same H H') (nd : NoDT H') (hq : H' q = some (.lst xs)) (hl : ns.length < m) (r : R v3 v5) :
    StOk H a p q xs m R [some (.ref a), some (.ref p), v2, v3, v4, v5] (upd H' p (.lst (ns.map V.int ++ [.int n]))) := by
  refine ⟨ns ++ [n], v2, v3, v4, v5, rfl, ?_, noDT_upd nd rfl, by rw [upd_ne hqp]; exact hq, by rw [upd_same]; simp, by simp; omega, r⟩
  intro b o e
  rw [upd_ne (ne_of_none e hp)]
  exact hs b o e
theorem StOk.mono {H : Hp} {a p q : Addr} {xs : List V} {m m' : Nat} {R R' : Option V → Option V → Prop} {σ : Sl} {H' : Hp} (h : StOk H a p q xs m R σ H') (hm : m ≤ m') (hR : ∀ x y, R x y → R' x y) : StOk H a p q xs m' R' σ H' := by
  obtain ⟨ns, v2, v3, v4, v5, e, s, nd, h1, h2, h3, r⟩ := h
  exact ⟨ns, v2, v3, v4, v5, e, s, nd, h1, h2, by omega, hR _ _ r⟩
theorem pure_stream (K : PySem.W.Frag) (w : World) : ∀ vs H Q E, WF H → sp_stream K vs H Q E → t__law_stream K w (W0 H E) (DD H Q) (L2.start N__law_stream vs) H := by
  rintro vs H Q E wf ⟨a, js, rfl, ha, nd, hq⟩
  unfold t__law_stream N__law_stream
  walk_at "s"
  intro p hp
  walk_at "s"
  refine ⟨a, _, rfl, sqL_upd ha hp, fun q hq1 => ?_⟩
  obtain ⟨hqp, hq2⟩ := upd_none.mp hq1
  have cx : cutV (js.map V.int) none (some (63 : Int)) = (js.take 63).map V.int := by rw [List.map_take]; exact cutV__n (b := 63)
  rw [cx]
  simp only [seval]
  refine ⟨⟨_, SqL.of upd_same⟩, for_l (xs := (js.take 63).map V.int) (fun i σ H' => StOk H a p q ((js.take 63).map V.int) (60 * i) (fun _ _ => True) σ H') ⟨[], none, none, none, none, rfl, same_upd (same_new hp) hq2, noDT_upd (noDT_upd nd rfl) rfl, upd_same, by rw [upd_ne (Ne.symm hqp)]; exact upd_same, by simp, trivial⟩ ?_ ?_ ?_⟩
  · rintro i σ H' hi ⟨ns, v2, v3, v4, v5, rfl, s, nd', h1, h2, h3, _⟩
    exact SqL.of h1
  · rintro i x σ H' hx ⟨ns, v2, v3, v4, v5, rfl, s, nd', h1, h2, h3, _⟩
    obtain ⟨c, hc⟩ : ∃ c : Int, x = .int c := by
      rw [List.getElem?_map] at hx
      cases e : (js.take 63)[i]? with
      | none => rw [e] at hx; cases hx
      | some c => rw [e] at hx; exact ⟨c, (Option.some.inj hx).symm⟩
    subst hc
    walk_at "s"
    have hi : i < 63 := by
      have h := (List.getElem?_eq_some_iff.mp hx).1
      rw [List.length_map, List.length_take] at h
      omega
    refine if_of (b := decide ((10 : Int) ^ (18 : Int).toNat ≤ c)) ?_ (fun _ => ?_) (fun _ => ?_)
    · walk_at "ev"
      intro Q q
      simp only [seval]
      exact ⟨⟨by decide, by decide, by decide⟩, q⟩
    · walk_at "s"
      refine for_r (fun j σ H' => StOk H a p q ((js.take 63).map V.int) (60 * i + j) (fun v3 _ => ∃ r, v3 = some (.int r)) σ H') ⟨ns, _, _, _, _, rfl, s, nd', h1, h2, by omega, c, rfl⟩ ?_ ?_
      · rintro j σ H' hj ⟨ns, v2, v3, v4, v5, rfl, s, nd', h1, h2, h3, r, rfl⟩
        have hj : j < 60 := hj
        have hz : ns.length < sizeLine := line_lt (by omega)
        simp only [seval, h2, List.length_map]
        refine ⟨hz, ?_⟩
        have st := StOk.more (H := H) (a := a) (m := 60 * i + (j + 1)) (R := fun v3 _ => ∃ r, v3 = some (.int r)) (v2 := v2) (v3 := some (.int (r / 1009))) (v4 := some (.int (0 + (j : Int)))) (v5 := v5) (n := r % 1009) hp hqp s nd' h1 (ns := ns) (by omega) ⟨_, rfl⟩
        refine if_of (b := decide (r / 1009 = 0)) ?_ (fun _ => ?_) (fun _ => ?_)
        · walk_at "ev"
          walk_at "leaf"
        · walk_at "s"
          exact st.mono (by omega) fun _ _ _ => trivial
        · walk_at "s"
          exact st
      · rintro σ H' h
        walk_at "s"
        have h : StOk H a p q ((js.take 63).map V.int) (60 * i + 60) (fun v3 _ => ∃ r, v3 = some (.int r)) σ H' := h
        exact h.mono (by omega) fun _ _ _ => trivial
    · walk_at "s"
      refine for_r (fun j σ H' => StOk H a p q ((js.take 63).map V.int) (60 * i + j) (fun _ v5 => ∃ r, v5 = some (.int r) ∧ 0 ≤ r ∧ r < 2147483647) σ H') ⟨ns, _, _, _, _, rfl, s, nd', h1, h2, by omega, _, rfl, Int.emod_nonneg _ (by decide), Int.emod_lt_of_pos _ (by decide)⟩ ?_ ?_
      · rintro j σ H' hj ⟨ns, v2, v3, v4, v5, rfl, s, nd', h1, h2, h3, r, rfl, r1, r2⟩
        have hj : j < 10 := hj
        have hz : ns.length < sizeLine := line_lt (by omega)
        simp only [seval, h2, List.length_map]
        exact ⟨.inl ⟨by decide, by decide⟩, hz, StOk.more hp hqp s nd' h1 (by omega) ⟨_, rfl, Int.emod_nonneg _ (by decide), Int.emod_lt_of_pos _ (by decide)⟩⟩
      · rintro σ H' h
        walk_at "s"
        have h : StOk H a p q ((js.take 63).map V.int) (60 * i + 10) (fun _ v5 => ∃ r, v5 = some (.int r) ∧ 0 ≤ r ∧ r < 2147483647) σ H' := h
        exact h.mono (by omega) fun _ _ _ => trivial
  · rintro σ H' ⟨ns, v2, v3, v4, v5, rfl, s, nd', h1, h2, h3, _⟩
    have h3 : ns.length ≤ 60 * 63 := by
      refine Nat.le_trans h3 (Nat.mul_le_mul_left _ ?_)
      rw [List.length_map, List.length_take]
      omega
    walk_at "s"
    refine if_of (b := decide ((ns.length : Int) = 0)) ?_ (fun k => ?_) (fun k => ?_)
    · walk_at "ev"
      intro Q q
      simp only [seval, h2, List.length_map]
      exact q
    · have hz : ns.length < sizeLine := line_lt (by omega)
      simp only [seval, h2, List.length_map]
      refine ⟨hz, ?_⟩
      refine ret_new wf nd ?_ hp upd_same rfl ?_
      · intro b o e
        rw [upd_ne (ne_of_none e hp)]
        exact s b o e
      · have := hq p (ns ++ [0]) (by simp) (by simp; omega) hp
        simpa using this
    · walk_at "s"
      refine ret_new wf nd s hp h2 rfl (hq p ns ?_ (by omega) hp)
      intro e
      subst e
      simp at k
/-! ### texts that are drawn -/
def sp_signs : Sp := fun vs H Q E => vs = [] ∧ NoDT H ∧ ∀ l, Asc l → 0 < l.length → l.length ≤ 1000 → Q (.str (mkS l)) H
theorem asc_all {l : List Nat} (h : l.all (fun c => decide (c < 128)) = true) : Asc l := fun c hc => of_decide_eq_true (List.all_eq_true.mp h c hc)
theorem pure_signs (K : PySem.W.Frag) (w : World) : ∀ vs H Q E, WF H → sp_signs vs H Q E → t__law_signs K w (W0 H E) (DD H Q) (L2.start N__law_signs vs) H := by
  rintro vs H Q E wf ⟨rfl, nd, hq⟩
  unfold t__law_signs N__law_signs
  walk_at "s"
  refine ⟨?_, ret_same wf nd (Same.refl _) (hq _ ?_ ?_ ?_)⟩
  · exact line_of (by decide)
  · exact asc_all (by decide)
  · decide
  · decide
def sp_text : Sp := fun vs H Q E => ∃ (p : Addr) (at_ : Int) (size : Nat) (wide : Bool), vs = [.ref p, .int at_, .int size, .bl wide] ∧ NumsAt H p ∧ size ≤ 1000 ∧ NoDT H ∧ ∀ l, Asc l → l.length = size → Q (.str (mkS l)) H
theorem joinL_one : ∀ l : List Nat, joinL [] (l.map fun c => [c]) = l := fun l => by
  rw [joinL_nil]
  induction l with
  | nil => rfl
  | cons c r ih => simp [ih]
theorem pure_text (K : PySem.W.Frag) (w : World) : ∀ vs H Q E, WF H → sp_text vs H Q E → t__law_text K w (W0 H E) sp_signs sp_pick (DD H Q) (L2.start N__law_text vs) H := by
  rintro vs H Q E wf ⟨p, a, n, wide, rfl, hp, hn, nd, hq⟩
  unfold t__law_text N__law_text
  have fin : ∀ l, Asc l → 0 < l.length → l.length ≤ 1000 → zRet (zMs (rJoin K) (zC (.str "")) (zCons (zLc (ziR1 (zCons (zV 2) zNil)) (gName 5) zYes (zB (rIxZ K) (zV 4) (zCall sp_pick WN (zCons (zV 0) (zCons (zB rAdd (zV 1) (zV 5)) (zCons (zCB (rLenZ K) (zCons (zV 4) zNil)) zNil))))) [5]) zNil)) (DD H Q)
      [some (.ref p), some (.int a), some (.int n), some (.bl wide), some (.str (mkS l)), none] H := by
    intro l hA h0 h1
    have hz : l.length ≤ sizeLine := line_of (by omega)
    walk_at "s"
    refine ⟨by omega, by omega, lcz_r (fun D i H' => ∃ cs : List Nat, cs.length = i ∧ Asc cs ∧ H' = upd H D (.lst (SS (cs.map fun c => [c])))) (fun D hD => ⟨[], rfl, Asc.nil, rfl⟩) ?_ ?_⟩
    · rintro D i H' hD hi ⟨cs, hc, hA', rfl⟩
      have hi : i < n := by simpa using hi
      walk_at "s"
      refine ⟨hz, p, _, _, rfl, hp.same (same_new hD), by omega, noDT_upd nd rfl, fun v v0 v1 => ?_⟩
      obtain ⟨j, rfl⟩ := Int.eq_ofNat_of_zero_le v0
      have hj : j < l.length := by omega
      have e : atI l (j : Int) = some l[j] := atI_nat (by simp [hj])
      simp only [seval, e]
      refine ⟨hz, kEl_at upd_same (line_lt (by simp; omega)) ⟨cs ++ [l[j]], by simp [hc], hA'.app (Asc.cons (hA _ (List.getElem_mem hj)) Asc.nil), ?_⟩⟩
      rw [upd_upd]
      simp [SS]
    · rintro D H' hD ⟨cs, hc, hA', rfl⟩
      have hc : cs.length = n := by simpa using hc
      walk_at "s"
      rw [cs_empty]
      refine joinO_of (cs.map fun c => [c]) (SqL.of upd_same) ?_ ?_
      · have : (((cs.map fun c => [c]).map List.length).sum) ≤ (cs.map fun c => [c]).length * 1 := sum_map_le fun x hx => by
          obtain ⟨c, _, rfl⟩ := List.mem_map.mp hx
          exact Nat.le_refl _
        simp only [List.length_map, List.length_nil, Nat.mul_zero, Nat.add_zero, Nat.mul_one] at this ⊢
        omega
      · rw [joinL_one]
        exact ret_same wf nd (same_new hD) (hq _ hA' hc)
  walk_at "s"
  refine if_of (b := wide) ?_ (fun k => ?_) (fun k => ?_)
  · intro Q q
    simp only [seval]
    exact q
  · walk_at "s"
    refine ⟨rfl, nd, fun l hA h0 h1 => ?_⟩
    have := fin l hA h0 h1
    revert this
    simp only [seval]
    exact fun h => h
  · have := fin (cs "ab01:;. ") (asc_all (by decide)) (by decide) (by decide)
    revert this
    simp only [seval]
    exact fun h => h
/-! ### the law's own reader -/
theorem find_eq (l : List Nat) (c : Nat) : Txt.find (mkS l) (mkS [c]) = match findC c l 0 with | some k => (k : Int) | none => -1 := by
  have h := find3_eq (l := l) (c := c) (i := 0) (Nat.zero_le _)
  refine Eq.trans ?_ h
  unfold Txt.find Txt.find3 fromIndex
  simp
  generalize Builtin.Str.occurrences (mkS l) (mkS [c]) 0 (mkS l).length 1 = o
  cases o <;> rfl
theorem find_in (l : List Nat) (c : Nat) : decide ((0 : Int) ≤ Txt.find (mkS l) (mkS [c])) = decide (c ∈ l) := by
  rw [find_eq]
  cases e : findC c l 0 with
  | some k =>
    obtain ⟨_, _, h, _⟩ := findC_spec e
    have : c ∈ l := List.mem_of_getElem? h
    simp [this]
  | none =>
    have : c ∉ l := fun hc => by
      unfold findC at e
      simp only [List.drop_zero, Option.map_eq_none_iff, List.findIdx?_eq_none_iff] at e
      have := e c hc
      simp at this
    simp [this]
theorem aln_in : ∀ c, c < 128 → decide (c ∈ cs "abcdefghijklmnopqrstuvwxyz0123456789") = (isAln c && decide (lowC c = c)) := by decide
def sp_lname : Sp := fun vs H Q E => ∃ l, vs = [.str (mkS l)] ∧ Asc l ∧ l.length ≤ 1000000 ∧ NoDT H ∧ Q (.bl (isNameL l)) H
theorem isNameL_all (l : List Nat) : isNameL l = ((decide (1 ≤ l.length) && decide (l.length ≤ 4)) && l.all fun c => isAln c && decide (lowC c = c)) := by
  unfold isNameL
  congr 1
  have e : decide (l = l.map lowC) = l.all fun c => decide (lowC c = c) := by
    induction l with
    | nil => rfl
    | cons c r ih =>
      simp only [List.map_cons, List.all_cons, List.cons.injEq, Bool.decide_and, ih]
      congr 1
      exact decide_eq_decide.mpr eq_comm
  rw [e]
  clear e
  induction l with
  | nil => rfl
  | cons c r ih =>
    simp only [List.all_cons, ← ih]
    cases isAln c <;> cases decide (lowC c = c) <;> simp
theorem pure_lname (K : PySem.W.Frag) (w : World) : ∀ vs H Q E, WF H → sp_lname vs H Q E → t__law_is_name K w (W0 H E) (DD H Q) (L2.start N__law_is_name vs) H := by
  rintro vs H Q E wf ⟨l, rfl, hA, hl, nd, hq⟩
  unfold t__law_is_name N__law_is_name
  have hz : l.length ≤ sizeLine := line_of (by omega)
  walk_at "s"
  walk_at "val"
  walk_at "s"
  refine for_s (fun i σ H' => H' = H ∧ ∃ v, σ = [some (.str (mkS l)), some (.bl ((decide (1 ≤ l.length) && decide (l.length ≤ 4)) && (l.take i).all fun c => isAln c && decide (lowC c = c))), v]) ⟨rfl, none, ?_⟩ ?_ ?_
  · have e : decide ((1 : Int) ≤ (l.length : Int) ∧ (l.length : Int) ≤ 4) = (decide (1 ≤ l.length) && decide (l.length ≤ 4)) := by
      rw [Bool.decide_and]
      congr 1
      · exact decide_eq_decide.mpr (by omega)
      · exact decide_eq_decide.mpr (by omega)
    simp only [List.take_zero, List.all_nil, Bool.and_true]
    first
      | rw [e]
      | (rw [← e]; simp)
  · rintro i c σ H' hi ⟨rfl, v, rfl⟩
    have hc : c < 128 := hA c (List.mem_of_getElem? hi)
    walk_at "s"
    walk_at "val"
    walk_at "s"
    refine ⟨some (.str (mkS [c])), ?_⟩
    rw [List.take_succ, hi, List.all_append, find_in, aln_in c hc]
    simp [Bool.and_assoc]
  · rintro σ H' ⟨rfl, v, rfl⟩
    rw [List.take_length, ← isNameL_all]
    walk_at "s"
    exact ret_same wf nd (Same.refl _) hq
/-! ### the law's own numbers -/
theorem dig_find : ∀ c, c < 128 → Txt.find (mkS (cs "0123456789")) (mkS [c]) = if isFig c then ((c - 48 : Nat) : Int) else -1 := by
  have h : ∀ c, c < 128 → findC c (cs "0123456789") 0 = if isFig c then some (c - 48) else none := by decide
  intro c hc
  rw [find_eq, h c hc]
  cases isFig c <;> rfl
theorem valD_snoc (l : List Nat) (c : Nat) : valD (l ++ [c]) = valD l * 10 + (c - 48) := by
  unfold valD NumText.digitsVal
  rw [List.foldl_append]
  rfl
def sp_lnum : Sp := fun vs H Q E => ∃ l, vs = [.str (mkS l)] ∧ Asc l ∧ l.length ≤ 1000000 ∧ NoDT H ∧ (numOk l = true → Q (.int (valD l : Nat)) H) ∧ (numOk l = false → Q .non H)
theorem pure_lnum (K : PySem.W.Frag) (w : World) : ∀ vs H Q E, WF H → sp_lnum vs H Q E → t__law_number K w (W0 H E) (DD H Q) (L2.start N__law_number vs) H := by
  rintro vs H Q E wf ⟨l, rfl, hA, hl, nd, hq, hn⟩
  unfold t__law_number N__law_number
  have hz : l.length ≤ sizeLine := line_of (by omega)
  have bad : numOk l = false → RQ H Q .non H := fun h => ret_same wf nd (Same.refl _) (hn h)
  walk_at "s"
  have z0 := cs_0
  refine if_of (b := decide (l.length < 1) || (decide (9 < l.length) || (decide (1 < l.length) && decide (l[0]? = some 48)))) ?_ (fun k => ?_) (fun k => ?_)
  · refine ev_or ?_ fun k1 => ev_or ?_ fun k2 => ev_and ?_ fun k3 => ?_
    · rw [show decide (l.length < 1) = decide ((l.length : Int) < 1) from decide_eq_decide.mpr (by omega)]
      walk_at "ev" <;> walk_at "leaf"
    · rw [show decide (9 < l.length) = decide ((9 : Int) < (l.length : Int)) from decide_eq_decide.mpr (by omega)]
      walk_at "ev" <;> walk_at "leaf"
    · rw [show decide (1 < l.length) = decide ((1 : Int) < (l.length : Int)) from decide_eq_decide.mpr (by omega)]
      walk_at "ev" <;> walk_at "leaf"
    · obtain ⟨c, r, rfl⟩ : ∃ c r, l = c :: r := by
        cases l with
        | nil => simp at k1
        | cons c r => exact ⟨c, r, rfl⟩
      have h1' : r.length + 1 ≤ sizeLine := hz
      walk_at "ev"
      intro Q q
      simp only [seval, z0]
      refine ⟨h1', ?_⟩
      simpa using q
  · walk_at "s"
    refine bad ?_
    unfold numOk
    simp at k ⊢
    grind
  · walk_at "s"
    simp only [Bool.or_eq_false_iff, Bool.and_eq_false_iff, decide_eq_false_iff_not] at k
    obtain ⟨k1, k2, k3⟩ := k
    refine for_s (fun i σ H' => H' = H ∧ (l.take i).all isFig = true ∧ ∃ v2 v3, σ = [some (.str (mkS l)), some (.int (valD (l.take i) : Nat)), v2, v3]) ⟨rfl, rfl, none, none, rfl⟩ ?_ ?_
    · rintro i c σ H' hi ⟨rfl, hf, v2, v3, rfl⟩
      have hc : c < 128 := hA c (List.mem_of_getElem? hi)
      have hlt : i < l.length := (List.getElem?_eq_some_iff.mp hi).1
      walk_at "s"
      rw [dig_find c hc]
      by_cases hd : isFig c = true
      · have hd' := hd
        unfold isFig at hd'
        simp only [Bool.and_eq_true, decide_eq_true_eq] at hd'
        rw [if_pos hd]
        refine if_of (b := false) ?_ (fun z => nomatch z) (fun _ => ?_)
        · walk_at "ev"
          intro Q q
          simp only [seval]
          rw [decide_eq_false (by omega)]
          exact q
        · walk_at "s"
          have e : l.take (i + 1) = l.take i ++ [c] := by rw [List.take_succ, hi]; rfl
          refine ⟨by rw [e, List.all_append, hf]; simp [hd], some (.str (mkS [c])), some (.int ((c - 48 : Nat) : Int)), ?_⟩
          rw [e, valD_snoc, Int.natCast_add, Int.natCast_mul]
          rfl
      · rw [if_neg hd]
        refine if_of (b := true) ?_ (fun _ => ?_) (fun z => nomatch z)
        · walk_at "ev"
          intro Q q
          simp only [seval]
          exact q
        · walk_at "s"
          refine bad ?_
          have : l.all isFig = false := by
            cases h : l.all isFig with
            | false => rfl
            | true => exact absurd (List.all_eq_true.mp h c (List.mem_of_getElem? hi)) hd
          unfold numOk
          rw [this]
          simp
    · rintro σ H' ⟨rfl, hf, v2, v3, rfl⟩
      rw [List.take_length] at hf ⊢
      walk_at "s"
      refine ret_same wf nd (Same.refl _) (hq ?_)
      unfold numOk
      rw [hf]
      simp
      grind
/-! ### the law's own parts -/
def sp_lparts : Sp := fun vs H Q E => ∃ l, vs = [.str (mkS l)] ∧ Asc l ∧ l.length ≤ 190 ∧ NoDT H ∧ (∀ ls, unpackL l = some ls → ∀ p, H p = none → Q (.ref p) (upd H p (.lst (SS ls)))) ∧ (unpackL l = none → Q .non H)
theorem partAt_two {l : List Nat} {i j : Nat} {m : List Nat} (h : partAt l i = some (m, j)) : i + 2 ≤ j := by
  unfold partAt at h
  split at h
  · cases h
  · rename_i k hf
    obtain ⟨f1, f2, f3, f4⟩ := findC_spec hf
    split at h
    · rename_i hc
      cases h
      obtain ⟨_, _, n0⟩ := numOk_fig hc.1
      rw [List.length_take, List.length_drop] at n0
      omega
    · cases h
theorem pure_lparts (K : PySem.W.Frag) (w : World) : ∀ vs H Q E, WF H → sp_lparts vs H Q E → t__law_parts K w (W0 H E) sp_lnum (DD H Q) (L2.start N__law_parts vs) H := by
  rintro vs H Q E wf ⟨l, rfl, hA, hl, nd, hq, hn⟩
  unfold t__law_parts N__law_parts
  have hz : l.length ≤ sizeLine := line_of (by omega)
  walk_at "s"
  intro P hP
  walk_at "s"
  refine for_r (fun i σ H' => ∃ (at_ : Nat) (ls : List (List Nat)) (v3 v4 v5 : Option V), σ = [some (.str (mkS l)), some (.ref P), some (.int at_), v3, v4, v5] ∧ at_ ≤ l.length ∧ 2 * i ≤ at_ ∧ ls.length ≤ at_ ∧ Same H H' ∧ NoDT H' ∧ H' P = some (.lst (SS ls)) ∧
    ∀ r, partsFrom l (l.length - at_) at_ = r → unpackL l = r.map (ls ++ ·)) ⟨0, [], none, none, none, rfl, by omega, by omega, by simp, same_new hP, noDT_upd nd rfl, upd_same, fun r hr => ?_⟩ ?_ ?_
  · rw [← hr]
    unfold unpackL
    simp
  · rintro i σ H' hi ⟨at_, ls, v3, v4, v5, rfl, ha, h2, hc, hs, nd', hp, hr⟩
    have bad : unpackL l = none → RQ H Q .non H' := fun h => ret_same wf nd hs (hn h)
    walk_at "s"
    refine if_of (b := decide (at_ = l.length)) ?_ (fun k => ?_) (fun k => ?_)
    · rw [show decide (at_ = l.length) = decide ((at_ : Int) = (l.length : Int)) from decide_eq_decide.mpr (by omega)]
      walk_at "ev" <;> walk_at "leaf"
    · walk_at "s"
      refine ret_new wf nd hs hP hp rfl (hq ls ?_ P hP)
      simp only [decide_eq_true_eq] at k
      have h := hr _ rfl
      rw [k, Nat.sub_self] at h
      unfold partsFrom at h
      rw [if_neg (Nat.lt_irrefl _)] at h
      simpa using h
    · simp only [decide_eq_false_iff_not] at k
      have hlt : at_ < l.length := by omega
      have hstep : partsFrom l (l.length - at_) at_ = (match partAt l at_ with | none => none | some (m, j) => (partsFrom l (l.length - at_ - 1) j).map (m :: ·)) := by
        obtain ⟨n, hn⟩ : ∃ n, l.length - at_ = n + 1 := ⟨l.length - at_ - 1, by omega⟩
        rw [hn, partsFrom, if_pos hlt, Nat.add_sub_cancel]
        all_goals (rcases partAt l at_ with _ | ⟨m, j⟩ <;> rfl)
      have badp : partAt l at_ = none → RQ H Q .non H' := fun h => bad (by rw [hr _ rfl, hstep, h]; rfl)
      walk_at "s"
      rw [cs_colon, find3_eq ha]
      cases hf : findC 58 l at_ with
      | none =>
        refine if_of (b := true) ?_ (fun _ => ?_) (fun z => nomatch z)
        · walk_at "ev"
          intro Q q
          simp only [seval]
          exact q
        · walk_at "s"
          refine badp ?_
          unfold partAt
          rw [hf]
      | some k2 =>
        obtain ⟨f1, f2, f3, f4⟩ := findC_spec hf
        refine if_of (b := false) ?_ (fun z => nomatch z) (fun _ => ?_)
        · walk_at "ev"
          intro Q q
          simp only [seval]
          rw [decide_eq_false (by omega)]
          exact q
        · walk_at "s"
          rw [cutS_nn f1 (by omega)]
          refine ⟨hz, (l.drop at_).take (k2 - at_), rfl, (hA.drop _).take _, by rw [List.length_take, List.length_drop]; omega, nd', fun ho => ?_, fun ho => ?_⟩
          · have hv := valD_lt (numOk_fig ho).2.1 (numOk_fig ho).1
            walk_at "s"
            refine if_of (b := decide (l.length < k2 + 1 + valD ((l.drop at_).take (k2 - at_)))) ?_ (fun k3 => ?_) (fun k3 => ?_)
            · refine ev_or (a := false) ?_ fun _ => ?_
              · walk_at "ev"
                intro Q q
                simp only [seval]
                exact q
              · walk_at "ev"
                intro Q q
                simp only [seval]
                rw [show decide ((l.length : Int) < (k2 : Int) + 1 + (valD ((l.drop at_).take (k2 - at_)) : Nat)) = decide (l.length < k2 + 1 + valD ((l.drop at_).take (k2 - at_))) from decide_eq_decide.mpr (by omega)]
                exact ⟨hz, q⟩
            · walk_at "s"
              refine badp ?_
              unfold partAt
              rw [hf]
              simp only [decide_eq_true_eq] at k3
              exact if_neg fun z => by have := z.2; omega
            · simp only [decide_eq_false_iff_not] at k3
              have e : partAt l at_ = some ((l.drop (k2 + 1)).take (valD ((l.drop at_).take (k2 - at_))), k2 + 1 + valD ((l.drop at_).take (k2 - at_))) := by
                unfold partAt
                rw [hf]
                exact if_pos ⟨ho, by omega⟩
              have j2 := partAt_two e
              obtain ⟨j1, j3, _⟩ := partAt_lt e
              generalize valD ((l.drop at_).take (k2 - at_)) = v at e j1 j2 j3 k3 hv ⊢
              have c1 : cutS (mkS l) (some ((k2 : Int) + 1)) (some ((k2 : Int) + 1 + (v : Nat))) = mkS ((l.drop (k2 + 1)).take v) := by
                have := cutS_nn (l := l) (a := k2 + 1) (b := k2 + 1 + v) (by omega) (by omega)
                rw [Nat.add_sub_cancel_left] at this
                exact this
              simp only [seval, hp, c1]
              refine ⟨hz, line_lt (by simp; omega), k2 + 1 + v, ls ++ [(l.drop (k2 + 1)).take v], _, _, _, rfl, j3, by omega, by simp; omega, ?_, noDT_upd nd' rfl, by simp, ?_⟩
              · intro b o e
                rw [upd_ne (ne_of_none e hP)]
                exact hs b o e
              · intro r hr'
                have h := hr _ rfl
                rw [h, hstep, e]
                have en : partsFrom l (l.length - at_ - 1) (k2 + 1 + v) = r := by
                  rw [← hr']
                  exact (partsFrom_enough (l.length - (k2 + 1 + v)) (k2 + 1 + v) (by omega) (l.length - at_ - 1) (by omega)).symm
                show Option.map _ ((partsFrom l (l.length - at_ - 1) (k2 + 1 + v)).map ((l.drop (k2 + 1)).take v :: ·)) = _
                rw [en]
                cases r <;> simp
          · walk_at "s"
            refine if_of (b := true) ?_ (fun _ => ?_) (fun z => nomatch z)
            · refine ev_or (a := true) (b := true) ?_ fun z => nomatch z
              walk_at "ev"
              intro Q q
              simp only [seval]
              exact q
            · walk_at "s"
              refine badp ?_
              unfold partAt
              rw [hf]
              exact if_neg fun z => by rw [z.1] at ho; cases ho
  · rintro σ H' ⟨at_, ls, v3, v4, v5, rfl, ha, h2, hc, hs, nd', hp, hr⟩
    have : 2 * 100 ≤ at_ := h2
    omega
/-! ### the law's own rule of rows -/
def RowAt (H : Hp) (p l : Addr) (r : Rec) : Prop := H p = some (.tup [.int r.x, .int r.y, .int r.label, .str (mkS r.text), .ref l, .bl r.due]) ∧ H l = some (.lst (SS r.holders))
theorem RowAt.same {H H' : Hp} {p l : Addr} {r : Rec} (h : RowAt H p l r) (s : Same H H') : RowAt H' p l r := ⟨s _ _ h.1, s _ _ h.2⟩
structure RowOk (r : Rec) : Prop where
  tx : r.text.length ≤ 1000000
  ta : Asc r.text
  hn : r.holders.length ≤ 1000
  hp : plain r.holders
def sp_lgood : Sp := fun vs H Q E => ∃ p l r, vs = [.ref p] ∧ RowAt H p l r ∧ RowOk r ∧ NoDT H ∧ Q (.bl (recOk r)) H
def notRise : List (List Nat) → Bool
  | a :: b :: _ => !ltL a b
  | _ => false
theorem rising_short {ls : List (List Nat)} (h : ls.length ≤ 2) : risingL ls = !(decide (ls.length = 2) && notRise ls) := by
  match ls, h with
  | [], _ => rfl
  | [a], _ => rfl
  | [a, b], _ => simp [risingL, notRise]
theorem pure_lgood (K : PySem.W.Frag) (w : World) : ∀ vs H Q E, WF H → sp_lgood vs H Q E → t__law_good K w (W0 H E) sp_lname (DD H Q) (L2.start N__law_good vs) H := by
  rintro vs H Q E wf ⟨p, l, r, rfl, ⟨hp, hl⟩, ok, nd, hq⟩
  unfold t__law_good N__law_good
  have fin : ∀ b, b = recOk r → RQ H Q (.bl b) H := fun b e => ret_same wf nd (Same.refl _) (by rw [e]; exact hq)
  have hz : r.text.length ≤ sizeLine := line_of (by have := ok.tx; omega)
  have zq := cs_q
  have fi : decide ((0 : Int) ≤ Txt.find (mkS r.text) (mkS [34])) = decide (34 ∈ r.text) := find_in _ _
  walk_at "s"
  walk_at "if"
  case h1 =>
    intro k
    walk_at "s"
    refine fin _ ?_
    unfold recOk
    simp at k ⊢
    grind
  case h2 =>
    intro k
    walk_at "s"
    refine if_of (b := decide (16 < r.text.length) || (decide (34 ∈ r.text) || decide (2 < r.holders.length))) ?_ (fun k2 => ?_) (fun k2 => ?_)
    · refine ev_or' ?_ (ev_or' ?_ ?_)
      · rw [show decide (16 < r.text.length) = decide ((16 : Int) < (r.text.length : Int)) from decide_eq_decide.mpr (by omega)]
        walk_at "ev" <;> walk_at "leaf"
      · rw [← fi]
        walk_at "ev" <;> walk_at "leaf"
      · rw [show decide (2 < r.holders.length) = decide ((2 : Int) < ((SS r.holders).length : Int)) from decide_eq_decide.mpr (by simp; omega)]
        walk_at "ev" <;> walk_at "leaf"
    · walk_at "s"
      refine fin _ ?_
      unfold recOk isTextL holdersOk
      simp at k2 ⊢
      grind
    · simp only [Bool.or_eq_false_iff, decide_eq_false_iff_not, Nat.not_lt] at k2
      obtain ⟨k2, k3, k4⟩ := k2
      simp only [seval, hp]
      refine ⟨⟨_, SqL.of hl⟩, for_l (xs := SS r.holders) (fun i σ H' => H' = H ∧ (∀ m ∈ r.holders.take i, isNameL m = true) ∧ ∃ v, σ = [some (.ref p), v]) ⟨rfl, fun m hm => by simp at hm, none, rfl⟩ (fun i σ H' _ h => by rw [h.1]; exact SqL.of hl) ?_ ?_⟩
      · rintro i x σ H' hx ⟨rfl, hnm, v, rfl⟩
        obtain ⟨m, hm, rfl⟩ := ss_get hx
        have hpl := ok.hp m (List.mem_of_getElem? hm)
        walk_at "s"
        refine if_of (b := !isNameL m) ?_ (fun k5 => ?_) (fun k5 => ?_)
        · walk_at "ev"
          intro Q q
          simp only [seval]
          exact ⟨m, rfl, hpl.1, hpl.2, nd, q⟩
        · walk_at "s"
          refine fin _ ?_
          have : r.holders.all isNameL = false := by
            cases h : r.holders.all isNameL with
            | false => rfl
            | true =>
              have := List.all_eq_true.mp h m (List.mem_of_getElem? hm)
              rw [this] at k5
              cases k5
          unfold recOk holdersOk
          rw [this]
          simp
        · walk_at "s"
          refine ⟨fun m' hm' => ?_, _, rfl⟩
          rw [List.take_succ, hm] at hm'
          rcases List.mem_append.mp hm' with h | h
          · exact hnm m' h
          · have : m' = m := by simpa using h
            rw [this]
            simpa using k5
      · rintro σ H' ⟨rfl, hnm, v, rfl⟩
        have hnm : ∀ m ∈ r.holders, isNameL m = true := fun m hm => hnm m (by rw [show (SS r.holders).length = r.holders.length from by simp, List.take_length]; exact hm)
        have hall : r.holders.all isNameL = true := List.all_eq_true.mpr hnm
        have hris := rising_short k4
        walk_at "s"
        refine if_of (b := !risingL r.holders) ?_ (fun k5 => ?_) (fun k5 => ?_)
        · rw [hris, Bool.not_not]
          refine ev_and ?_ fun k6 => ?_
          · rw [show decide (r.holders.length = 2) = decide (((SS r.holders).length : Int) = 2) from decide_eq_decide.mpr (by simp; omega)]
            walk_at "ev" <;> walk_at "leaf"
          · simp only [decide_eq_true_eq] at k6
            obtain ⟨a, b, e⟩ : ∃ a b, r.holders = [a, b] := by
              match r.holders, k6 with
              | [a, b], _ => exact ⟨a, b, rfl⟩
            have hl2 : H' l = some (.lst [.str (mkS a), .str (mkS b)]) := by rw [hl, e]; rfl
            rw [e]
            walk_at "ev"
            intro Q q
            simp only [seval, hp, hl2]
            exact q
        · walk_at "s"
          refine fin _ ?_
          unfold recOk holdersOk
          have : risingL r.holders = false := by simpa using k5
          rw [this]
          simp
        · have hr : risingL r.holders = true := by simpa using k5
          walk_at "s"
          refine use_orV (v := .bl (decide ((0 : Int) < ((SS r.holders).length : Int)) || !r.due)) ?_ ?_
          · walk_at "ev" <;> walk_at "leaf"
          · refine fin _ ?_
            unfold recOk isTextL holdersOk
            rw [hall, hr]
            have k3' : decide (34 ∈ r.text) = false := decide_eq_false k3
            rw [k3']
            cases hh : r.holders with
            | nil =>
              simp [hh] at k ⊢
              grind
            | cons a t =>
              rw [hh] at k4
              simp [hh] at k k4 ⊢
              grind
/-! ### the law's own text of a row -/
def valueG (r : Rec) : List Nat := packS ([numS r.x, numS r.y, numS r.label, [if r.due then 49 else 48], r.text] ++ r.holders)
structure RowIn (r : Rec) : Prop where
  x : -1 ≤ r.x ∧ r.x ≤ 200
  y : -1 ≤ r.y ∧ r.y ≤ 200
  l : -1 ≤ r.label ∧ r.label ≤ 200
  t : r.text.length ≤ 100
  h : r.holders.length ≤ 10
  e : ∀ m ∈ r.holders, m.length ≤ 100
theorem numS_small {i : Int} (h : -1 ≤ i ∧ i ≤ 200) : (numS i).length ≤ 3 ∧ Asc (numS i) := by
  by_cases h0 : 0 ≤ i
  · rw [numS_pos h0]
    exact ⟨numL_len (k := 3) (by decide) (by omega), fun c hc => by
      have := numL_fig i.toNat
      have := List.all_eq_true.mp this c hc
      unfold isFig at this
      simp at this
      omega⟩
  · have : i = -1 := by omega
    subst this
    exact ⟨by decide, asc_all (by decide)⟩
theorem valueG_ok {r : Rec} (h : recOk r = true) : valueG r = valueL r := by
  obtain ⟨hx, hy, hb, _⟩ := recOk_of h
  unfold valueG valueL figs
  rw [numS_pos hx.1, numS_pos hy.1, numS_pos hb.1]
def sp_lvalue : Sp := fun vs H Q E => ∃ p l r, vs = [.ref p] ∧ RowAt H p l r ∧ RowIn r ∧ NoDT H ∧ Q (.str (mkS (valueG r))) H
theorem pure_lvalue (K : PySem.W.Frag) (w : World) : ∀ vs H Q E, WF H → sp_lvalue vs H Q E → t__law_value K w (W0 H E) (DD H Q) (L2.start N__law_value vs) H := by
  rintro vs H Q E wf ⟨p, l, r, rfl, ⟨hp, hl⟩, ok, nd, hq⟩
  unfold t__law_value N__law_value
  obtain ⟨hx, hy, hb, ht, hh, he⟩ := ok
  simp only [seval, hp]
  have ed : numS (if r.due = true then 1 else 0) = [if r.due then 49 else 48] := by cases r.due <;> decide
  rw [ed]
  refine ⟨log_int (by omega), log_int (by omega), log_int (by omega), by cases r.due <;> decide, fun q hq' => ?_⟩
  have e1 := upd_old (o := .lst [V.str (mkS (numS r.x)), .str (mkS (numS r.y)), .str (mkS (numS r.label)), .str (mkS [if r.due then 49 else 48]), .str (mkS r.text)]) hq' (show (H p).isSome = true by rw [hp]; rfl)
  have e2 := upd_old (o := .lst [V.str (mkS (numS r.x)), .str (mkS (numS r.y)), .str (mkS (numS r.label)), .str (mkS [if r.due then 49 else 48]), .str (mkS r.text)]) hq' (show (H l).isSome = true by rw [hl]; rfl)
  simp only [seval, e1, e2, hp, hl]
  refine ⟨by simp; exact line_of (by omega), fun q2 hq2 => ?_⟩
  obtain ⟨n1, n2⟩ := upd_none.mp hq2
  have es : (V.str (mkS (numS r.x)) :: V.str (mkS (numS r.y)) :: V.str (mkS (numS r.label)) :: V.str (mkS [if r.due then 49 else 48]) :: V.str (mkS r.text) :: SS r.holders) = SS ([numS r.x, numS r.y, numS r.label, [if r.due then 49 else 48], r.text] ++ r.holders) := rfl
  have nd1 : NoDT (upd (upd H q (.lst [V.str (mkS (numS r.x)), .str (mkS (numS r.y)), .str (mkS (numS r.label)), .str (mkS [if r.due then 49 else 48]), .str (mkS r.text)])) q2 (.lst (SS ([numS r.x, numS r.y, numS r.label, [if r.due then 49 else 48], r.text] ++ r.holders)))) := noDT_upd (noDT_upd nd rfl) rfl
  have s1 : Same H (upd (upd H q (.lst [V.str (mkS (numS r.x)), .str (mkS (numS r.y)), .str (mkS (numS r.label)), .str (mkS [if r.due then 49 else 48]), .str (mkS r.text)])) q2 (.lst (SS ([numS r.x, numS r.y, numS r.label, [if r.due then 49 else 48], r.text] ++ r.holders)))) := same_upd (same_new hq') n2
  have hq2s : upd (upd H q (.lst [V.str (mkS (numS r.x)), .str (mkS (numS r.y)), .str (mkS (numS r.label)), .str (mkS [if r.due then 49 else 48]), .str (mkS r.text)])) q2 (.lst (SS ([numS r.x, numS r.y, numS r.label, [if r.due then 49 else 48], r.text] ++ r.holders))) q2 = some (.lst (SS ([numS r.x, numS r.y, numS r.label, [if r.due then 49 else 48], r.text] ++ r.holders))) := upd_same
  have hl9 : ([numS r.x, numS r.y, numS r.label, [if r.due then 49 else 48], r.text] ++ r.holders).length ≤ 20 := by simp; omega
  have hls : ∀ m ∈ [numS r.x, numS r.y, numS r.label, [if r.due then 49 else 48], r.text] ++ r.holders, m.length ≤ 100 := by
    intro m hm
    have h1 := (numS_small hx).1
    have h2 := (numS_small hy).1
    have h3 := (numS_small hb).1
    simp only [List.mem_append, List.mem_cons, List.not_mem_nil, or_false] at hm
    rcases hm with (rfl | rfl | rfl | rfl | rfl) | hm
    · omega
    · omega
    · omega
    · simp
    · omega
    · exact he m hm
  unfold valueG at hq
  simp only [List.cons_append, List.nil_append] at es ⊢
  simp only [List.cons_append, List.nil_append] at nd1 s1 hq2s hl9 hls hq
  rw [es]
  generalize (numS r.x :: numS r.y :: numS r.label :: [if r.due then 49 else 48] :: r.text :: r.holders) = ls at nd1 s1 hq2s hl9 hls hq ⊢
  generalize upd (upd H q (.lst [V.str (mkS (numS r.x)), .str (mkS (numS r.y)), .str (mkS (numS r.label)), .str (mkS [if r.due then 49 else 48]), .str (mkS r.text)])) q2 (.lst (SS ls)) = H2 at nd1 s1 hq2s ⊢
  simp only [seval]
  refine ⟨⟨_, SqL.of hq2s⟩, lcm_l (xs := SS ls) (ys := SS (ls.map packP)) (by simp) (line_lt (by simp; omega)) hq2s ?_ ?_⟩
  · intro D i x y Nx hD hx' hy' hN
    obtain ⟨m, hl', rfl⟩ := ss_get hx'
    have ey : y = .str (mkS (packP m)) := by
      simp only [List.getElem?_map, hl', Option.map_some, Option.some.injEq] at hy'
      exact hy'.symm
    subst ey
    have hb' := hls m (List.mem_of_getElem? hl')
    have h9 := numL_len9 (n := m.length) (by omega)
    have hz : m.length ≤ sizeLine := line_of (by omega)
    walk_at "s"
    rw [numS_nat, cs_colon]
    refine ⟨hz, log_nat (by omega), by walk_at "side", by walk_at "side", ?_⟩
    have e : numL m.length ++ [58] ++ m = packP m := by simp [packP]
    rw [e]
    exact hN _ rfl
  · intro D hD
    walk_at "s"
    rw [cs_empty]
    refine joinO_of (ls.map packP) (SqL.of upd_same) ?_ ?_
    · have h1 : ((ls.map packP).map List.length).sum ≤ (ls.map packP).length * 200 := sum_map_le fun a ha => by
        obtain ⟨m, hl', rfl⟩ := List.mem_map.mp ha
        have hb := hls m hl'
        have h9 := numL_len9 (n := m.length) (by omega)
        simp [packP]
        omega
      simp only [List.length_map, List.length_nil, Nat.mul_zero, Nat.add_zero] at h1 ⊢
      omega
    · rw [joinL_nil]
      exact ret_same wf nd (same_upd s1 (s1.free hD)) hq
/-! ### the law's own rows of texts -/
theorem ret_new2 {H H' : Hp} {Q : VK} {p q : Addr} {o1 o2 : HO} (wf : WF H) (nd : NoDT H) (s : Same H H') (hq : H q = none) (hp : H p = none) (hpq : p ≠ q) (e1 : H' q = some o1) (e2 : H' p = some o2) (po1 : plainO o1 = true) (po2 : plainO o2 = true) (qq : Q (.ref p) (upd (upd H q o1) p o2)) : RQ H Q (.ref p) H' := by
  have hp' : upd H q o1 p = none := by rw [upd_ne hpq]; exact hp
  refine ⟨upd (upd H q o1) p o2, ⟨fun b u z => ?_, fun b z => (upd_none.mp (upd_none.mp z).2).2, noDT_upd (noDT_upd nd (noDT_plain po1)) (noDT_plain po2), wf_upd (wf_upd wf hq po1) hp' po2⟩, qq⟩
  by_cases h1 : b = p
  · rw [h1, upd_same] at z
    cases z
    rw [h1]
    exact e2
  · rw [upd_ne h1] at z
    by_cases h2 : b = q
    · rw [h2, upd_same] at z
      cases z
      rw [h2]
      exact e1
    · rw [upd_ne h2] at z
      exact s b u z
abbrev rowT (r : Rec) (q : Addr) : HO := .tup [.int r.x, .int r.y, .int r.label, .str (mkS r.text), .ref q, .bl r.due]
def sp_lrow : Sp := fun vs H Q E => ∃ l, vs = [.str (mkS l)] ∧ Asc l ∧ l.length ≤ 190 ∧ NoDT H ∧ (∀ r, fromValue l = some r → ∀ p q, H p = none → H q = none → p ≠ q → Q (.ref p) (upd (upd H q (.lst (SS r.holders))) p (rowT r q))) ∧ (fromValue l = none → Q .non H)
def nv (m : List Nat) : V := if numOk m = true then .int (valD m : Nat) else .non
theorem nv_non (m : List Nat) : isNon (nv m) = !numOk m := by
  unfold nv
  cases numOk m <;> rfl
theorem pure_lrow (K : PySem.W.Frag) (w : World) : ∀ vs H Q E, WF H → sp_lrow vs H Q E → t__law_row K w (W0 H E) sp_lparts sp_lnum sp_lgood (DD H Q) (L2.start N__law_row vs) H := by
  rintro vs H Q E wf ⟨l, rfl, hA, hl, nd, hq, hn⟩
  unfold t__law_row N__law_row
  walk_at "s"
  refine ⟨l, rfl, hA, hl, nd, fun ps hps p hp => ?_, fun hnone => ?_⟩
  case refine_2 =>
    walk_at "s"
    refine if_of (b := true) ?_ (fun _ => ?_) (fun z => nomatch z)
    · refine ev_or (a := true) (b := true) ?_ fun z => nomatch z
      walk_at "ev"
      intro Q q
      simp only [seval]
      exact q
    · walk_at "s"
      exact ret_same wf nd (Same.refl _) (hn (by unfold fromValue; rw [hnone]; rfl))
  obtain ⟨pl, pm⟩ := unpackL_mem hps
  have hv : fromValue l = fromParts ps := by unfold fromValue; rw [hps]; rfl
  have bad : ∀ H', Same H H' → fromParts ps = none → RQ H Q .non H' := fun H' s e => ret_same wf nd s (hn (hv.trans e))
  have hps' : upd H p (.lst (SS ps)) p = some (.lst (SS ps)) := upd_same
  have s1 : Same H (upd H p (.lst (SS ps))) := same_new hp
  have nd1 : NoDT (upd H p (.lst (SS ps))) := noDT_upd nd rfl
  generalize upd H p (.lst (SS ps)) = H1 at hps' s1 nd1 ⊢
  walk_at "s"
  refine or_of (a := false) ?_ (fun z => nomatch z) fun _ => ?_
  · walk_at "ev"
    intro Q q
    simp only [seval]
    exact q
  refine or_of (a := decide (ps.length < 5)) ?_ (fun k => ?_) (fun k => ?_)
  · walk_at "ev"
    intro Q q
    simp only [seval, hps', List.length_map]
    rw [show decide (((ps.length : Nat) : Int) < 5) = decide (ps.length < 5) from decide_eq_decide.mpr (by omega)]
    exact q
  · walk_at "s"
    refine bad _ s1 ?_
    simp only [decide_eq_true_eq] at k
    unfold fromParts
    split
    · simp at k
      omega
    · rfl
  simp only [decide_eq_false_iff_not, Nat.not_lt] at k
  obtain ⟨a, b, c, d, t, hs, rfl⟩ : ∃ a b c d t hs, ps = a :: b :: c :: d :: t :: hs := by
    match ps, k with
    | a :: b :: c :: d :: t :: hs, _ => exact ⟨a, b, c, d, t, hs, rfl⟩
  have hps' : H1 p = some (.lst (.str (mkS a) :: .str (mkS b) :: .str (mkS c) :: .str (mkS d) :: .str (mkS t) :: SS hs)) := hps'
  simp only [seval, hps']
  rw [cs_0, cs_1]
  intro tp htp
  have e2 : upd H1 tp (.tup [.str (mkS [48]), .str (mkS [49])]) p = _ := (upd_old htp (by rw [hps']; rfl)).trans hps'
  have e2t : upd H1 tp (.tup [.str (mkS [48]), .str (mkS [49])]) tp = some (.tup [.str (mkS [48]), .str (mkS [49])]) := upd_same
  have s2 : Same H (upd H1 tp (.tup [.str (mkS [48]), .str (mkS [49])])) := same_upd s1 (s1.free htp)
  have nd2 : NoDT (upd H1 tp (.tup [.str (mkS [48]), .str (mkS [49])])) := noDT_upd nd1 rfl
  generalize upd H1 tp (.tup [.str (mkS [48]), .str (mkS [49])]) = H2 at e2 e2t s2 nd2 ⊢
  simp only [seval]
  refine ⟨tp, _, rfl, .inr (SqT.of e2t), rfl, by decide, ?_⟩
  rw [in01]
  simp only [seval]
  by_cases hd : d = [48] ∨ d = [49]
  case neg =>
    rw [decide_eq_false hd]
    walk_at "s"
    exact bad _ s2 (fromParts_no fun z => hd z.1)
  rw [decide_eq_true hd]
  simp only [seval, e2]
  intro q3 hq3
  have c3 : cutV (V.str (mkS a) :: V.str (mkS b) :: V.str (mkS c) :: V.str (mkS d) :: V.str (mkS t) :: SS hs) none (some (3 : Int)) = [.str (mkS a), .str (mkS b), .str (mkS c)] := cutV__n (b := 3)
  rw [c3]
  have e3 : upd H2 q3 (.lst [.str (mkS a), .str (mkS b), .str (mkS c)]) p = _ := (upd_old hq3 (by rw [e2]; rfl)).trans e2
  have e3q : upd H2 q3 (.lst [.str (mkS a), .str (mkS b), .str (mkS c)]) q3 = some (.lst [.str (mkS a), .str (mkS b), .str (mkS c)]) := upd_same
  have s3 : Same H (upd H2 q3 (.lst [.str (mkS a), .str (mkS b), .str (mkS c)])) := same_upd s2 (s2.free hq3)
  have nd3 : NoDT (upd H2 q3 (.lst [.str (mkS a), .str (mkS b), .str (mkS c)])) := noDT_upd nd2 rfl
  generalize upd H2 q3 (.lst [.str (mkS a), .str (mkS b), .str (mkS c)]) = H3 at e3 e3q s3 nd3 ⊢
  simp only [seval]
  have asc : ∀ x ∈ a :: b :: c :: d :: t :: hs, Asc x ∧ x.length ≤ 190 := fun x hx => ⟨hA.of_sub (pm x hx).2, by have := (pm x hx).1; omega⟩
  refine ⟨⟨_, SqL.of e3q⟩, lcm_l (xs := [.str (mkS a), .str (mkS b), .str (mkS c)]) (ys := [nv a, nv b, nv c]) rfl (show 3 < sizeLine by decide) e3q ?_ ?_⟩
  · intro D i x y Nx hD hx hy hN
    obtain ⟨m, hm, hxm, hym⟩ : ∃ m, m ∈ a :: b :: c :: d :: t :: hs ∧ x = .str (mkS m) ∧ y = nv m := by
      match i, hx, hy with
      | 0, hx, hy => exact ⟨a, by simp, (Option.some.inj hx).symm, (Option.some.inj hy).symm⟩
      | 1, hx, hy => exact ⟨b, by simp, (Option.some.inj hx).symm, (Option.some.inj hy).symm⟩
      | 2, hx, hy => exact ⟨c, by simp, (Option.some.inj hx).symm, (Option.some.inj hy).symm⟩
      | n + 3, hx, _ => simp at hx
    subst hxm hym
    simp only [seval]
    refine ⟨m, rfl, (asc m hm).1, by have := (asc m hm).2; omega, noDT_upd nd3 rfl, fun ho => ?_, fun ho => ?_⟩
    · have e : nv m = .int (valD m : Nat) := by unfold nv; rw [if_pos ho]
      rw [← e]
      exact hN _ rfl
    · have e : nv m = .non := by unfold nv; rw [if_neg (by rw [ho]; decide)]
      rw [← e]
      exact hN _ rfl
  · intro D hD
    have e4 : upd H3 D (.lst [nv a, nv b, nv c]) p = _ := (upd_old hD (by rw [e3]; rfl)).trans e3
    have s4 : Same H (upd H3 D (.lst [nv a, nv b, nv c])) := same_upd s3 (s3.free hD)
    have nd4 : NoDT (upd H3 D (.lst [nv a, nv b, nv c])) := noDT_upd nd3 rfl
    have e4D : upd H3 D (.lst [nv a, nv b, nv c]) D = some (.lst [nv a, nv b, nv c]) := upd_same
    generalize upd H3 D (.lst [nv a, nv b, nv c]) = H4 at e4 e4D s4 nd4 ⊢
    simp only [seval]
    refine if_of (b := isNon (nv a) || (isNon (nv b) || isNon (nv c))) ?_ (fun k5 => ?_) (fun k5 => ?_)
    · walk_at "ev"
      · intro Q q
        simp only [seval, e4D]
        exact q
      · intro Q q
        simp only [seval, e4D]
        exact q
      · intro Q q
        simp only [seval, e4D]
        exact q
    · walk_at "s"
      refine bad _ s4 (fromParts_no fun z => ?_)
      rw [nv_non, nv_non, nv_non, z.2.1.1, z.2.1.2.1, z.2.1.2.2] at k5
      cases k5
    · rw [nv_non, nv_non, nv_non] at k5
      simp only [Bool.or_eq_false_iff, Bool.not_eq_false'] at k5
      obtain ⟨ka, kb, kc⟩ := k5
      have ea : nv a = .int (valD a : Nat) := by unfold nv; rw [if_pos ka]
      have eb : nv b = .int (valD b : Nat) := by unfold nv; rw [if_pos kb]
      have ec : nv c = .int (valD c : Nat) := by unfold nv; rw [if_pos kc]
      rw [ea, eb, ec] at e4D
      simp only [seval, e4, e4D]
      have c5 : cutV (V.str (mkS a) :: V.str (mkS b) :: V.str (mkS c) :: V.str (mkS d) :: V.str (mkS t) :: SS hs) (some (5 : Int)) none = SS hs := cutV_n_ (a := 5)
      rw [c5]
      intro q5 hq5
      have e5 : upd H4 q5 (.lst (SS hs)) p = _ := (upd_old hq5 (by rw [e4]; rfl)).trans e4
      have e5q : upd H4 q5 (.lst (SS hs)) q5 = some (.lst (SS hs)) := upd_same
      have s5 : Same H (upd H4 q5 (.lst (SS hs))) := same_upd s4 (s4.free hq5)
      have nd5 : NoDT (upd H4 q5 (.lst (SS hs))) := noDT_upd nd4 rfl
      have hq50 := s4.free hq5
      generalize upd H4 q5 (.lst (SS hs)) = H5 at e5 e5q s5 nd5 ⊢
      simp only [seval, e5]
      intro x hx
      have hx0 := s5.free hx
      have n1 : x ≠ q5 := fun z => by rw [z, e5q] at hx; cases hx
      have e6 : upd H5 x (.tup [.int (valD a : Nat), .int (valD b : Nat), .int (valD c : Nat), .str (mkS t), .ref q5, .bl (decide (d = [49]))]) q5 = some (.lst (SS hs)) := (upd_old hx (by rw [e5q]; rfl)).trans e5q
      have e6x : upd H5 x (.tup [.int (valD a : Nat), .int (valD b : Nat), .int (valD c : Nat), .str (mkS t), .ref q5, .bl (decide (d = [49]))]) x = some (.tup [.int (valD a : Nat), .int (valD b : Nat), .int (valD c : Nat), .str (mkS t), .ref q5, .bl (decide (d = [49]))]) := upd_same
      have s6 : Same H (upd H5 x (.tup [.int (valD a : Nat), .int (valD b : Nat), .int (valD c : Nat), .str (mkS t), .ref q5, .bl (decide (d = [49]))])) := same_upd s5 hx0
      have nd6 : NoDT (upd H5 x (.tup [.int (valD a : Nat), .int (valD b : Nat), .int (valD c : Nat), .str (mkS t), .ref q5, .bl (decide (d = [49]))])) := noDT_upd nd5 rfl
      generalize upd H5 x (.tup [.int (valD a : Nat), .int (valD b : Nat), .int (valD c : Nat), .str (mkS t), .ref q5, .bl (decide (d = [49]))]) = H6 at e6 e6x s6 nd6 ⊢
      simp only [seval]
      refine if_of (b := !recOk ⟨valD a, valD b, valD c, t, hs, decide (d = [49])⟩) ?_ (fun k6 => ?_) (fun k6 => ?_)
      · walk_at "ev"
        intro Q q
        simp only [seval]
        refine ⟨x, q5, ⟨valD a, valD b, valD c, t, hs, decide (d = [49])⟩, rfl, ⟨e6x, e6⟩, ⟨?_, (asc t (by simp)).1, ?_, fun m hm => ?_⟩, nd6, q⟩
        · have := (asc t (by simp)).2
          show t.length ≤ _
          omega
        · simp at pl
          show hs.length ≤ _
          omega
        · have := asc m (by simp [hm])
          exact ⟨this.1, by omega⟩
      · walk_at "s"
        refine bad _ s6 (fromParts_no fun z => ?_)
        rw [z.2.2] at k6
        cases k6
      · have hg : Good a b c d t hs := ⟨hd, ⟨ka, kb, kc⟩, by simpa using k6⟩
        walk_at "s"
        exact ret_new2 wf nd s6 hq50 hx0 n1 e6 e6x rfl rfl (hq _ (hv.trans (fromParts_yes hg)) x q5 hx0 hq50 n1)
/-! ### a record is a row -/
abbrev dStrs (ls : List (List Nat)) : List PyData := ls.map fun l => PyData.str (mkS l)
theorem dpAll_strs {K : PySem.W.Frag} {H : Hp} : ∀ ls : List (List Nat), DpAll K H (SS ls) (dStrs ls)
  | [] => .nil
  | l :: r => .cons (.str _) (dpAll_strs r)
theorem strOk_asc {l : List Nat} (h : Asc l) : PyData.strOk (mkS l) = true := by
  unfold PyData.strOk
  simp only [mkS, List.all_toArray]
  exact List.all_eq_true.mpr fun c hc => decide_eq_true (by have := h c hc; omega)
theorem asc_name {l : List Nat} (h : isNameL l = true) : Asc l := fun c hc => by
  have := List.all_eq_true.mp (isNameL_of h).2.2.1 c hc
  unfold isAln isFig isUp isLow at this
  simp at this
  omega
theorem lay_strs : ∀ ls : List (List Nat), (∀ l ∈ ls, Asc l) → PyData.canLayAll0 (dStrs ls) = true
  | [], _ => rfl
  | l :: r, h => by
    show PyData.canLayAll0 (PyData.str (mkS l) :: dStrs r) = true
    unfold PyData.canLayAll0
    rw [lay_strs r fun x hx => h x (List.mem_cons_of_mem _ hx), Bool.and_true]
    unfold PyData.canLay0
    exact strOk_asc (h l List.mem_cons_self)
theorem dep_strs : ∀ ls : List (List Nat), PyData.depthAll (dStrs ls) = 0
  | [] => rfl
  | l :: r => by
    show PyData.depthAll (PyData.str (mkS l) :: dStrs r) = 0
    unfold PyData.depthAll
    rw [dep_strs r]
    rfl
theorem shaped_strs {ls : List (List Nat)} (h : ∀ l ∈ ls, Asc l) : SeqAt.shaped (.list (dStrs ls)) = true := by
  unfold SeqAt.shaped PyData.canLay0
  rw [lay_strs ls h, Bool.true_and]
  refine decide_eq_true ?_
  show PyData.depthAll (dStrs ls) + 1 ≤ 64
  rw [dep_strs]
  decide
theorem eqv_strs {ls : List (List Nat)} (h : ∀ l ∈ ls, Asc l) : PyData.eqv (.list (dStrs ls)) (.list (dStrs ls)) = true := SeqAt.eqv_refl _ (SeqAt.canLay_of_shaped (shaped_strs h))
/-- two lists of the same texts -/
theorem ne_strs {K : PySem.W.Frag} {p q : Addr} {ls : List (List Nat)} {H : Hp} {Q : VK} (h1 : H p = some (.lst (SS ls))) (h2 : H q = some (.lst (SS ls))) (hA : ∀ l ∈ ls, Asc l) (h : Q (.bl false) H) : rNeZ K (.ref p) (.ref q) H Q :=
  rEqG_rr (.lst (SqL.of h1) (dpAll_strs ls)) (.lst (SqL.of h2) (dpAll_strs ls)) (shaped_strs hA) (shaped_strs hA) (by rw [eqv_strs hA]; exact h)
def sp_lis (K : PySem.W.Frag) : Sp := fun vs H Q E => ∃ x p l r, vs = [.ref x, .ref p] ∧ RecAt K H x r ∧ RowAt H p l r ∧ recOk r = true ∧ r.text.length ≤ 100 ∧ Asc r.text ∧ NoDT H ∧ Q (.bl true) H
theorem rowIn_ok {r : Rec} (h : recOk r = true) (ht : r.text.length ≤ 100) : RowIn r := by
  obtain ⟨hx, hy, hb, _, _, hh, _⟩ := recOk_of h
  obtain ⟨h1, h2, _⟩ := holdersOk_of hh
  refine ⟨⟨by omega, by omega⟩, ⟨by omega, by omega⟩, ⟨by omega, by omega⟩, ht, by omega, fun m hm => ?_⟩
  have := (isNameL_of (h2 m hm)).2.1
  omega
theorem pure_lis (K : PySem.W.Frag) (w : World) : ∀ vs H Q E, WF H → sp_lis K vs H Q E → t__law_is K w (W0 H E) (sp_record_value K) sp_lvalue (DD H Q) (L2.start N__law_is vs) H := by
  rintro vs H Q E wf ⟨x, p, l, r, rfl, ⟨dx, h, hx, hh⟩, ⟨hp, hl⟩, ok, ht, hta, nd, hq⟩
  unfold t__law_is N__law_is
  walk_at "s"
  rw [zIf_eq]
  simp only [seval, hx]
  intro q1 hq1
  have a1 : upd H q1 (.tup [.int r.x, .int r.y, .int r.label, .str (mkS r.text)]) q1 = some (.tup [.int r.x, .int r.y, .int r.label, .str (mkS r.text)]) := upd_same
  have s1 : Same H (upd H q1 (.tup [.int r.x, .int r.y, .int r.label, .str (mkS r.text)])) := same_new hq1
  have nd1 : NoDT (upd H q1 (.tup [.int r.x, .int r.y, .int r.label, .str (mkS r.text)])) := noDT_upd nd rfl
  generalize upd H q1 (.tup [.int r.x, .int r.y, .int r.label, .str (mkS r.text)]) = H1 at a1 s1 nd1 ⊢
  have hp1 := s1 _ _ hp
  simp only [seval, hp1]
  have hasc : ∀ m ∈ r.holders, Asc m := fun m hm => asc_name ((holdersOk_of (recOk_of ok).2.2.2.2.2.1).2.1 m hm)
  refine ⟨by decide, fun q2 hq2 => ?_⟩
  have c4 : cutV [V.int r.x, V.int r.y, V.int r.label, V.str (mkS r.text), V.ref l, V.bl r.due] none (some (4 : Int)) = [.int r.x, .int r.y, .int r.label, .str (mkS r.text)] := cutV__n (b := 4)
  rw [c4]
  have a2 : upd H1 q2 (.tup [.int r.x, .int r.y, .int r.label, .str (mkS r.text)]) q1 = some (.tup [.int r.x, .int r.y, .int r.label, .str (mkS r.text)]) := (upd_old hq2 (by rw [a1]; rfl)).trans a1
  have a2' : upd H1 q2 (.tup [.int r.x, .int r.y, .int r.label, .str (mkS r.text)]) q2 = some (.tup [.int r.x, .int r.y, .int r.label, .str (mkS r.text)]) := upd_same
  have s2 : Same H (upd H1 q2 (.tup [.int r.x, .int r.y, .int r.label, .str (mkS r.text)])) := same_upd s1 (s1.free hq2)
  have nd2 : NoDT (upd H1 q2 (.tup [.int r.x, .int r.y, .int r.label, .str (mkS r.text)])) := noDT_upd nd1 rfl
  generalize upd H1 q2 (.tup [.int r.x, .int r.y, .int r.label, .str (mkS r.text)]) = H2 at a2 a2' s2 nd2 ⊢
  have hx2 := s2 _ _ hx
  have hp2 := s2 _ _ hp
  have hl2 := s2 _ _ hl
  have hh2 := s2 _ _ hh
  have dp : ∀ q, H2 q = some (.tup [.int r.x, .int r.y, .int r.label, .str (mkS r.text)]) → Dp K H2 (.ref q) (.tuple [.int r.x, .int r.y, .int r.label, .str (mkS r.text)]) := fun q e => .tup (SqT.of e) (.cons (.int _) (.cons (.int _) (.cons (.int _) (.cons (.str _) .nil))))
  have hsh : SeqAt.shaped (.tuple [.int r.x, .int r.y, .int r.label, .str (mkS r.text)]) = true := by
    unfold SeqAt.shaped
    simp [PyData.canLay0, PyData.canLayAll0, PyData.depth, PyData.depthAll, strOk_asc hta]
  simp only [seval]
  refine rEqG_rr (dp _ a2) (dp _ a2') hsh hsh ?_
  rw [SeqAt.eqv_refl _ (SeqAt.canLay_of_shaped hsh)]
  simp only [seval]
  refine if_of (b := false) ?_ (fun z => nomatch z) fun _ => ?_
  · refine ev_or (a := false) (b := false) ?_ fun _ => ?_
    · refine ev_not (a := true) ?_
      walk_at "ev"
      intro Q q
      simp only [seval, hx2, hh2]
      exact q
    · walk_at "ev"
      intro Q q
      simp only [seval, hx2, hp2]
      exact ne_strs hh2 hl2 hasc q
  · walk_at "s"
    refine use_andV (v := .bl (true && (true && decide (valueL r = valueG r)))) ?_ ?_
    · refine ev_andV ?_ fun _ => ev_andV ?_ fun _ => ?_
      · intro Q q
        simp only [seval, hx2]
        exact q
      · intro Q q
        simp only [seval, hx2, hp2]
        exact q
      · intro Q q
        simp only [seval]
        refine ⟨x, r, rfl, ⟨dx, h, hx2, hh2⟩, ok, nd2, ?_⟩
        simp only [seval]
        refine ⟨p, l, r, rfl, ⟨hp2, hl2⟩, rowIn_ok ok ht, nd2, ?_⟩
        simp only [seval]
        exact q
    · rw [valueG_ok ok]
      simp only [decide_true, Bool.and_true]
      exact ret_same wf nd s2 hq
/-! ### made and read -/
theorem andV_of {ta tb : TE} {σ : Sl} {H : Hp} {Q : VK} {a : Bool} (h : EvE ta σ H (.bl a)) (h1 : a = true → tb σ H Q) (h2 : a = false → Q (.bl false) H) : zAndV ta tb σ H Q := h _ ⟨a, rfl, by
  cases a
  · exact h2 rfl
  · exact h1 rfl⟩
theorem notV_of {ta : TE} {σ : Sl} {H : Hp} {Q : VK} (h : ta σ H (kNotV Q)) : zNotV ta σ H Q := h
def sp_lmade : Sp := fun vs H Q E => ∃ p l r, vs = [.ref p] ∧ RowAt H p l r ∧ RowOk r ∧ r.text.length ≤ 100 ∧ NoDT H ∧ Q (.bl true) H
theorem pure_lmade (K : PySem.W.Frag) (w : World) (exm : PySem.W.exmOne K (.ref (He.ga K "NotAllowed")) (.ref (He.ga K "NotAllowed")) = some true) : ∀ vs H Q E, WF H → sp_lmade vs H Q E → t__law_made K w (W0 H E) (sp_rec_init K) sp_lgood (sp_lis K) (DD H Q) (L2.start N__law_made vs) H := by
  rintro vs H Q E wf ⟨p, l, r, rfl, ⟨hp, hl⟩, ok, ht, nd, hq⟩
  unfold t__law_made N__law_made
  simp only [seval, hp]
  simp only [seval, hl]
  intro q hqn
  have s1 : Same H (upd H q (.lst (SS r.holders))) := same_new hqn
  have nd1 : NoDT (upd H q (.lst (SS r.holders))) := noDT_upd nd rfl
  have e1 : upd H q (.lst (SS r.holders)) q = some (.lst (SS r.holders)) := upd_same
  generalize upd H q (.lst (SS r.holders)) = H1 at s1 nd1 e1 ⊢
  have hp1 := s1 _ _ hp
  have hl1 := s1 _ _ hl
  simp only [seval, hp1]
  intro x dx hx hdx hne
  have sM : Same H1 (mkH H1 (He.ga K "Record") x dx) := mkH_same hx hdx
  have s2 : Same H (mkH H1 (He.ga K "Record") x dx) := fun b o e => sM b o (s1 b o e)
  have eM := sM _ _ e1
  refine ⟨x, dx, q, r, rfl, mkH_at, eM, ok.tx, by have := ok.hn; omega, ok.hp, mkH_noDT nd1, fun okr l' hl' => ⟨rfl, ?_⟩, fun okr => ?_⟩
  · -- made
    have hl2 : mkH H1 (He.ga K "Record") x dx l' = none := hl'
    have n1 : l' ≠ x := fun z => by rw [z, mkH_at] at hl2; cases hl2
    have nqx : q ≠ x := ne_of_none e1 hx
    have nl' : l' ≠ q := fun z => by rw [z, eM] at hl2; cases hl2
    have s3 : Same H (upd (upd (mkH H1 (He.ga K "Record") x dx) l' (.lst (SS r.holders))) x (.ins (He.ga K "Record") dx (fRec r l'))) := fun b o e => by
      rw [upd_ne (ne_of_none e (s1.free hx)), upd_ne (ne_of_none e (s2.free hl2))]
      exact s2 b o e
    have r3 : RecAt K (upd (upd (mkH H1 (He.ga K "Record") x dx) l' (.lst (SS r.holders))) x (.ins (He.ga K "Record") dx (fRec r l'))) x r := ⟨dx, l', upd_same, by rw [upd_ne n1, upd_same]⟩
    have q3 : upd (upd (mkH H1 (He.ga K "Record") x dx) l' (.lst (SS r.holders))) x (.ins (He.ga K "Record") dx (fRec r l')) q = some (.lst (SS r.holders)) := by
      rw [upd_ne nqx, upd_ne (Ne.symm nl')]
      exact eM
    have nd3 : NoDT (upd (upd (mkH H1 (He.ga K "Record") x dx) l' (.lst (SS r.holders))) x (.ins (He.ga K "Record") dx (fRec r l'))) := noDT_upd (noDT_upd (mkH_noDT nd1) rfl) rfl
    have ql3 : ∀ h', RecAt K h' x r → True := fun _ _ => trivial
    change zSeq _ _ _ _ (upd (upd (mkH H1 (He.ga K "Record") x dx) l' (.lst (SS r.holders))) x (.ins (He.ga K "Record") dx (fRec r l')))
    have r4 : RecAt K (upd (upd (upd (mkH H1 (He.ga K "Record") x dx) l' (.lst (SS r.holders))) x (.ins (He.ga K "Record") dx (fRec r l'))) q (.lst (SS r.holders ++ [.str (mkS (cs "q"))]))) x r := by
      refine ⟨dx, l', ?_, ?_⟩
      · rw [upd_ne (Ne.symm nqx), upd_same]
      · rw [upd_ne nl', upd_ne n1, upd_same]
    have hp3 := s3 _ _ hp
    have hl3 := s3 _ _ hl
    have nqp : p ≠ q := ne_of_none hp hqn
    have nql : l ≠ q := ne_of_none hl hqn
    generalize upd (upd (mkH H1 (He.ga K "Record") x dx) l' (.lst (SS r.holders))) x (.ins (He.ga K "Record") dx (fRec r l')) = H3 at s3 r3 q3 nd3 r4 hp3 hl3 ⊢
    walk_at "s"
    refine if_of (b := false) ?_ (fun z => nomatch z) fun _ => ?_
    · refine ev_or (a := false) (b := false) ?_ fun _ => ev_or (a := false) (b := false) ?_ fun _ => ?_
      · refine ev_not (a := true) ?_
        walk_at "ev"
        intro Q q
        simp only [seval]
        exact ⟨p, l, r, rfl, ⟨hp3, hl3⟩, ok, nd3, by rw [okr]; exact q⟩
      · refine ev_not (a := true) ?_
        walk_at "ev"
        intro Q q
        simp only [seval]
        exact ⟨x, p, l, r, rfl, r3, ⟨hp3, hl3⟩, okr, ht, ok.ta, nd3, q⟩
      · walk_at "ev"
        intro Q q
        simp only [seval, hp3]
        exact ne_strs q3 hl3 (fun m hm => (ok.hp m hm).1) q
    · have hz : (SS r.holders).length < sizeLine := line_lt (by have := ok.hn; simp; omega)
      simp only [seval, q3]
      refine ⟨hz, x, p, l, r, rfl, r4, ⟨by rw [upd_ne nqp]; exact hp3, by rw [upd_ne nql]; exact hl3⟩, okr, ht, ok.ta, noDT_upd nd3 rfl, ?_⟩
      refine ret_same wf nd (fun b o e => ?_) hq
      rw [upd_ne (ne_of_none e hqn)]
      exact s3 b o e
  · -- refused
    have hp2 := s2 _ _ hp
    have hl2 := s2 _ _ hl
    have nd2 : NoDT (mkH H1 (He.ga K "Record") x dx) := mkH_noDT nd1
    change wAs _ _ _ _ _ _ _ _ _ (mkH H1 (He.ga K "Record") x dx)
    generalize mkH H1 (He.ga K "Record") x dx = H2 at s2 hp2 hl2 nd2 ⊢
    refine ⟨true, exm, fun _ a ha => ?_, fun z => nomatch z⟩
    simp only [seval]
    refine andV_of (a := true) ?_ (fun _ => ?_) (fun z => nomatch z)
    · intro Q q
      refine notV_of ?_
      simp only [seval]
      refine ⟨p, l, r, rfl, ⟨hp2, hl2⟩, ok, nd2, ?_⟩
      rw [okr]
      exact kNotV_bl.mpr q
    · refine andV_of (a := true) ?_ (fun _ => ?_) (fun z => nomatch z)
      · intro Q q
        simp only [seval]
        exact ⟨⟨rfl, rfl, rfl⟩, q⟩
      · refine notV_of ?_
        simp only [seval]
        refine ⟨⟨rfl, rfl, rfl⟩, fun y hy => ?_⟩
        exact ret_same wf nd (same_upd s2 (s2.free hy)) hq
/-! ### read -/
theorem fromValue_ok {l : List Nat} {r : Rec} (h : fromValue l = some r) : recOk r = true ∧ (Asc l → Asc r.text) := by
  unfold fromValue at h
  cases e : unpackL l with
  | none => rw [e] at h; cases h
  | some ps =>
    rw [e] at h
    have h : fromParts ps = some r := h
    obtain ⟨_, pm⟩ := unpackL_mem e
    match ps, h, pm with
    | a :: b :: c :: d :: t :: hs, h, pm =>
      by_cases hg : Good a b c d t hs
      · rw [fromParts_yes hg] at h
        cases h
        exact ⟨hg.2.2, fun hA => hA.of_sub (pm t (by simp)).2⟩
      · rw [fromParts_no hg] at h
        cases h
    | [], h, _ => cases h
    | [_], h, _ => cases h
    | [_, _], h, _ => cases h
    | [_, _, _], h, _ => cases h
    | [_, _, _, _], h, _ => cases h
theorem recOk_text {r : Rec} (h : recOk r = true) : r.text.length ≤ 16 := (recOk_of h).2.2.2.1
def sp_lread : Sp := fun vs H Q E => ∃ l, vs = [.str (mkS l)] ∧ Asc l ∧ l.length ≤ 190 ∧ NoDT H ∧ Q (.bl true) H
theorem pure_lread (K : PySem.W.Frag) (w : World) (exm : PySem.W.exmOne K (.ref (He.ga K "BadForm")) (.ref (He.ga K "BadForm")) = some true) : ∀ vs H Q E, WF H → sp_lread vs H Q E → t__law_read K w (W0 H E) sp_lrow (sp_from K) (sp_lis K) (DD H Q) (L2.start N__law_read vs) H := by
  rintro vs H Q E wf ⟨l, rfl, hA, hl, nd, hq⟩
  unfold t__law_read N__law_read
  simp only [seval]
  refine ⟨l, rfl, hA, hl, nd, fun r hr p q hp hqn hpq => ?_, fun hn => ?_⟩
  · obtain ⟨ok, hta⟩ := fromValue_ok hr
    have hqp : upd H q (.lst (SS r.holders)) p = none := by rw [upd_ne hpq]; exact hp
    have s1 : Same H (upd (upd H q (.lst (SS r.holders))) p (rowT r q)) := same_upd (same_new hqn) hp
    have nd1 : NoDT (upd (upd H q (.lst (SS r.holders))) p (rowT r q)) := noDT_upd (noDT_upd nd rfl) rfl
    have a1 : RowAt (upd (upd H q (.lst (SS r.holders))) p (rowT r q)) p q r := ⟨upd_same, by rw [upd_ne (Ne.symm hpq), upd_same]⟩
    generalize upd (upd H q (.lst (SS r.holders))) p (rowT r q) = H1 at s1 nd1 a1 ⊢
    simp only [seval]
    refine ⟨l, rfl, hA, by omega, nd1, fun r' hr' x dx l' hx hdx hl' n1 n2 n3 => ?_, fun hn => ?_⟩
    · rw [hr] at hr'
      cases hr'
      have s2 : Same H1 (recH K H1 x dx l' r) := fun b o e => by
        unfold recH
        rw [upd_ne (ne_of_none e hx), upd_ne (ne_of_none e hl'), upd_ne (ne_of_none e hdx)]
        exact e
      have r2 : RecAt K (recH K H1 x dx l' r) x r := ⟨dx, l', upd_same, by unfold recH; rw [upd_ne n2, upd_same]⟩
      have nd2 : NoDT (recH K H1 x dx l' r) := noDT_upd (noDT_upd (noDT_upd nd1 rfl) rfl) rfl
      have a2 := a1.same s2
      generalize recH K H1 x dx l' r = H2 at s2 r2 nd2 a2 ⊢
      simp only [seval]
      refine andV_of (a := true) ?_ (fun _ => ?_) (fun z => nomatch z)
      · intro Q q
        simp only [seval]
        exact q
      · simp only [seval]
        exact ⟨x, p, q, r, rfl, r2, a2, ok, by have := recOk_text ok; omega, hta hA, nd2, ret_same wf nd (fun b o e => s2 b o (s1 b o e)) hq⟩
    · rw [hr] at hn
      cases hn
  · simp only [seval]
    refine ⟨l, rfl, hA, by omega, nd, (fun r' hr' => by rw [hn] at hr'; cases hr'), fun _ => ?_⟩
    refine ⟨true, exm, fun _ a ha => ?_, fun z => nomatch z⟩
    simp only [seval]
    refine andV_of (a := true) ?_ (fun _ => ?_) (fun z => nomatch z)
    · intro Q q
      simp only [seval]
      exact q
    · refine andV_of (a := true) ?_ (fun _ => ?_) (fun z => nomatch z)
      · intro Q q
        simp only [seval]
        exact ⟨⟨rfl, rfl, rfl⟩, q⟩
      · refine notV_of ?_
        simp only [seval]
        refine ⟨⟨rfl, rfl, rfl⟩, fun y hy => ?_⟩
        exact ret_same wf nd (same_new hy) hq
theorem mul01 {c : Nat} {v : Int} (h0 : 0 ≤ v) (h1 : v < 2) : MulOk (mkS [c]) v ∧ ∃ m : List Nat, Txt.mul (mkS [c]) v = mkS m ∧ m.length ≤ 1 ∧ ∀ x ∈ m, x = c := by
  have hv : v = 0 ∨ v = 1 := by omega
  rcases hv with rfl | rfl
  · exact ⟨⟨by decide, fun h => absurd (by decide) h, fun h => absurd (by decide) h⟩, [], rfl, by simp, by simp⟩
  · exact ⟨⟨by decide, fun _ h => by simp at h, fun _ h => by simp at h⟩, [c], rfl, by simp, by simp⟩
def sp_lspoilt : Sp := fun vs H Q E => ∃ (p : Addr) (l : List Nat), vs = [.ref p, .str (mkS l)] ∧ NumsAt H p ∧ Asc l ∧ l.length ≤ 180 ∧ NoDT H ∧ ∀ l', Asc l' → l'.length ≤ l.length + 1 → Q (.str (mkS l')) H
theorem pure_lspoilt (K : PySem.W.Frag) (w : World) : ∀ vs H Q E, WF H → sp_lspoilt vs H Q E → t__law_spoilt K w (W0 H E) sp_pick (DD H Q) (L2.start N__law_spoilt vs) H := by
  rintro vs H Q E wf ⟨p, l, rfl, hp, hA, hl, nd, hq⟩
  unfold t__law_spoilt N__law_spoilt
  have hz : l.length ≤ sizeLine := line_of (by omega)
  simp only [seval]
  refine ⟨hz, p, 1, _, rfl, hp, by omega, nd, fun v v0 v1 => ?_⟩
  obtain ⟨j, rfl⟩ := Int.eq_ofNat_of_zero_le v0
  simp only [seval]
  refine ⟨p, 2, 14, rfl, hp, by decide, nd, fun c c0 c1 => ?_⟩
  obtain ⟨i, rfl⟩ := Int.eq_ofNat_of_zero_le c0
  have hlen : (cs "0123456789:a\"A").length = 14 := by decide
  have hi : i < (cs "0123456789:a\"A").length := by rw [hlen]; omega
  have hsA : Asc (cs "0123456789:a\"A") := asc_all (by decide)
  have e : atI (cs "0123456789:a\"A") (i : Int) = some (cs "0123456789:a\"A")[i] := atI_nat (List.getElem?_eq_getElem hi)
  simp only [seval, e]
  have hg := hsA _ (List.getElem_mem hi)
  generalize (cs "0123456789:a\"A")[i] = sg at hg ⊢
  have c3 : cutS (mkS l) none (some (j : Int)) = mkS (l.take j) := cutS__n
  rw [c3]
  refine ⟨line_of (by rw [hlen]; omega), hz, p, 3, 2, rfl, hp, by decide, nd, fun v w0 w1 => ?_⟩
  obtain ⟨mok, m, em, ml, mm⟩ := mul01 (c := sg) w0 w1
  simp only [seval, em]
  refine ⟨mok, line_of (by simp; omega), p, 4, 2, rfl, hp, by decide, nd, fun u u0 u1 => ?_⟩
  obtain ⟨k, rfl⟩ := Int.eq_ofNat_of_zero_le u0
  have c4 : cutS (mkS l) (some ((j : Int) + (k : Int))) none = mkS (l.drop (j + k)) := cutS_n_ (a := j + k)
  simp only [seval, c4]
  have hj : j ≤ l.length := by omega
  refine ⟨hz, line_of (by simp; omega), ret_same wf nd (Same.refl _) (hq _ ?_ ?_)⟩
  · exact ((hA.take _).app (fun x hx => by rw [mm x hx]; exact hg)).app (hA.drop _)
  · simp
    omega
/-! ### the law -/
theorem replL_one (a b : Nat) : ∀ l : List Nat, StrLaws.replL [a] [b] l = l.map fun c => if c = a then b else c
  | [] => StrLaws.replL_nil
  | c :: r => by
    by_cases h : c = a
    · subst h
      rw [StrLaws.replL_hit (by simp) (by simp)]
      simp [replL_one c b r]
    · rw [StrLaws.replL_miss (by simpa using h)]
      simp [replL_one a b r, h]
theorem replace_map (l : List Nat) (a b : Nat) : Txt.replace (mkS l) (mkS [a]) (mkS [b]) = mkS (l.map fun c => if c = a then b else c) := by
  refine ext_tl ?_
  have h := StrLaws.replace_list (x := mkS l) (y := mkS [a]) (z := mkS [b]) (by simp [len_mkS])
  exact h.trans (replL_one a b l)
theorem numL_two {n : Nat} (h : n < 100) : (numL n).length ≤ 2 := numL_len (k := 2) (by decide) (by omega)
theorem packS_len2 {ls : List (List Nat)} {m : Nat} (h : ∀ l ∈ ls, l.length ≤ m) (hm : m < 100) : (packS ls).length ≤ ls.length * (m + 3) := by
  unfold packS
  rw [List.length_flatten, List.map_map]
  have := sum_map_le (f := List.length ∘ packP) (m := m + 3) (l := ls) fun a ha => by
    have h1 := h a ha
    have h2 := numL_two (n := a.length) (by omega)
    simp [packP]
    omega
  exact this
structure RowSm (r : Rec) : Prop where
  x : -1 ≤ r.x ∧ r.x ≤ 200
  y : -1 ≤ r.y ∧ r.y ≤ 200
  l : -1 ≤ r.label ∧ r.label ≤ 200
  t : r.text.length ≤ 17
  ta : Asc r.text
  h : r.holders.length ≤ 3
  e : ∀ m ∈ r.holders, Asc m ∧ m.length ≤ 5
theorem RowSm.rowIn {r : Rec} (h : RowSm r) : RowIn r := ⟨h.x, h.y, h.l, by have := h.t; omega, by have := h.h; omega, fun m hm => by have := (h.e m hm).2; omega⟩
theorem RowSm.rowOk {r : Rec} (h : RowSm r) : RowOk r := ⟨by have := h.t; omega, h.ta, by have := h.h; omega, fun m hm => ⟨(h.e m hm).1, by have := (h.e m hm).2; omega⟩⟩
theorem RowSm.value {r : Rec} (h : RowSm r) : Asc (valueG r) ∧ (valueG r).length ≤ 180 := by
  have hx := numS_small h.x
  have hy := numS_small h.y
  have hl := numS_small h.l
  have all : ∀ m ∈ [numS r.x, numS r.y, numS r.label, [if r.due then 49 else 48], r.text] ++ r.holders, Asc m ∧ m.length ≤ 17 := by
    intro m hm
    simp only [List.mem_append, List.mem_cons, List.not_mem_nil, or_false] at hm
    rcases hm with (rfl | rfl | rfl | rfl | rfl) | hm
    · exact ⟨hx.2, by have := hx.1; omega⟩
    · exact ⟨hy.2, by have := hy.1; omega⟩
    · exact ⟨hl.2, by have := hl.1; omega⟩
    · cases r.due
      · exact ⟨asc_all (by decide), by decide⟩
      · exact ⟨asc_all (by decide), by decide⟩
    · exact ⟨h.ta, h.t⟩
    · exact ⟨(h.e m hm).1, by have := (h.e m hm).2; omega⟩
  refine ⟨packS_asc fun m hm => (all m hm).1, ?_⟩
  have h1 := packS_len2 (fun m hm => (all m hm).2) (by decide)
  have h2 : ([numS r.x, numS r.y, numS r.label, [if r.due then 49 else 48], r.text] ++ r.holders).length ≤ 8 := by
    have := h.h
    simp
    omega
  unfold valueG
  omega
theorem if_cut {c : TT} {t u : TS} {D : Ends} {σ : Sl} {H : Hp} {b : Bool} (P : Sl → Hp → Prop) (hc : EvT c σ H b) (h1 : b = true → ∀ N : Sl → Hp → Prop, (∀ σ' H', P σ' H' → N σ' H') → t { D with nx := N } σ H) (h2 : b = false → ∀ N : Sl → Hp → Prop, (∀ σ' H', P σ' H' → N σ' H') → u { D with nx := N } σ H)
    (h3 : ∀ σ' H', P σ' H' → D.nx σ' H') : zIf c t u D σ H := if_of hc (fun e => h1 e D.nx h3) (fun e => h2 e D.nx h3)
theorem kIf_cut {t u : TS} {D : Ends} {σ : Sl} {H : Hp} {b : Bool} (P : Sl → Hp → Prop) (h1 : b = true → ∀ N : Sl → Hp → Prop, (∀ σ' H', P σ' H' → N σ' H') → t { D with nx := N } σ H) (h2 : b = false → ∀ N : Sl → Hp → Prop, (∀ σ' H', P σ' H' → N σ' H') → u { D with nx := N } σ H)
    (h3 : ∀ σ' H', P σ' H' → D.nx σ' H') : kIf t u D σ b H := kIf_split (fun e => h1 e D.nx h3) (fun e => h2 e D.nx h3)
theorem ev_v2 {K : PySem.W.Frag} {b : Bool} {a v1 : Option V} {r : Sl} {H : Hp} : EvT (zTr K (zV 2)) (a :: v1 :: some (.bl b) :: r) H b := fun Q q => ev_tr (ta := zV 2) (fun Q q => by simp only [seval]; exact q) Q q
def sp_law (K : PySem.W.Frag) : Sp := fun vs H Q E => ∃ (a : Addr) (js : List Int), vs = [.ref a] ∧ SqL K H a (js.map V.int) ∧ NoDT H ∧ Q (.bl true) H
/-- the state within the law: numbers at p, near -/
structure LS (H : Hp) (a p : Addr) (near : Bool) (σ : Sl) (H' : Hp) : Prop where
  s : Same H H'
  nd : NoDT H'
  n : NumsAt H' p
theorem LS.upd' {H : Hp} {a p : Addr} {near : Bool} {σ σ' : Sl} {H' : Hp} (h : LS H a p near σ H') {q : Addr} {o : HO} (hq : H' q = none) (ho : noDT o = true) : LS H a p near σ' (upd H' q o) :=
  ⟨same_upd h.s (h.s.free hq), noDT_upd h.nd ho, h.n.same (same_new hq)⟩
theorem pure_law (K : PySem.W.Frag) (w : World) : ∀ vs H Q E, WF H → sp_law K vs H Q E → t_law K w (W0 H E) (sp_stream K) sp_pick sp_text sp_lmade sp_lread sp_lvalue sp_lspoilt sp_is_record_text (DD H Q) (L2.start N_law vs) H := by
  rintro vs H Q E wf ⟨a, js, rfl, ha, nd, hq⟩
  unfold t_law N_law
  simp only [seval]
  refine ⟨a, js, rfl, ha, nd, fun p ns n0 n1 hp => ?_⟩
  have L1 : LS H a p true [] (upd H p (.lst (ns.map V.int))) := ⟨same_new hp, noDT_upd nd rfl, ns, n0, n1, upd_same⟩
  generalize upd H p (.lst (ns.map V.int)) = H1 at L1 ⊢
  simp only [seval]
  rw [zIf_eq]
  simp only [seval]
  intro c1 hc1
  have L2 : LS H a p true [] (upd H1 c1 (.lst [.int 8, .int 2, .int 16])) := L1.upd' hc1 rfl
  have e1 : upd H1 c1 (.lst [.int 8, .int 2, .int 16]) c1 = some (.lst [.int 8, .int 2, .int 16]) := upd_same
  generalize upd H1 c1 (.lst [.int 8, .int 2, .int 16]) = H2 at L2 e1 ⊢
  simp only [seval]
  intro c2 hc2
  have L3 : LS H a p true [] (upd H2 c2 (.lst [.int 8, .int 2, .int 16])) := L2.upd' hc2 rfl
  have e2 : upd H2 c2 (.lst [.int 8, .int 2, .int 16]) c2 = some (.lst [.int 8, .int 2, .int 16]) := upd_same
  have e1' := (upd_old (o := .lst [.int 8, .int 2, .int 16]) hc2 (by rw [e1]; rfl)).trans e1
  generalize upd H2 c2 (.lst [.int 8, .int 2, .int 16]) = H3 at L3 e2 e1' ⊢
  simp only [seval]
  have dp : ∀ q, H3 q = some (.lst [.int 8, .int 2, .int 16]) → Dp K H3 (.ref q) (.list [.int 8, .int 2, .int 16]) := fun q e => .lst (SqL.of e) (.cons (.int _) (.cons (.int _) (.cons (.int _) .nil)))
  refine rEqG_rr (dp _ e1') (dp _ e2) (by decide) (by decide) ?_
  rw [show PyData.eqv (.list [.int 8, .int 2, .int 16]) (.list [.int 8, .int 2, .int 16]) = true from by decide]
  simp only [seval]
  refine ⟨p, 0, 3, rfl, L3.n, by decide, L3.nd, fun v _ _ => ?_⟩
  simp only [seval]
  generalize decide (v = 0) = near
  refine ⟨p, 5, 100, rfl, L3.n, by decide, L3.nd, fun x x0 x1 => ?_⟩
  simp only [seval]
  refine ⟨p, 6, 100, rfl, L3.n, by decide, L3.nd, fun y y0 y1 => ?_⟩
  simp only [seval]
  refine ⟨p, 7, 4, rfl, L3.n, by decide, L3.nd, fun lb l0 l1 => ?_⟩
  simp only [seval]
  intro q hqn
  have L4 : LS H a p near [] (upd H3 q (.lst [.int x, .int y, .int lb])) := ⟨same_upd L3.s (L3.s.free hqn), noDT_upd L3.nd rfl, L3.n.same (same_new hqn)⟩
  have e4 : upd H3 q (.lst [.int x, .int y, .int lb]) q = some (.lst [.int x, .int y, .int lb]) := upd_same
  generalize upd H3 q (.lst [.int x, .int y, .int lb]) = H4 at L4 e4 ⊢
  simp only [seval]
  refine if_cut (fun σ' H' => ∃ q x y lb, σ' = [some (.ref a), some (.ref p), some (.bl near), some (.ref q), none, none, none, none, none, none, none] ∧ LS H a p near [] H' ∧ H' q = some (.lst [.int x, .int y, .int lb]) ∧ (-1 ≤ x ∧ x ≤ 200) ∧ (-1 ≤ y ∧ y ≤ 200) ∧ (-1 ≤ lb ∧ lb ≤ 200)) ev_v2 (fun _ N hN => ?_) (fun _ N hN => ?_) ?_
  · simp only [seval, e4]
    refine ⟨p, 8, 3, rfl, L4.n, by decide, L4.nd, fun u u0 u1 => ?_⟩
    simp only [seval, e4]
    refine ⟨p, 9, 3, rfl, L4.n, by decide, L4.nd, fun u2 u20 u21 => ?_⟩
    simp only [seval, e4]
    intro q' hq'
    exact hN _ _ ⟨q', _, _, _, rfl, L4.upd' hq' rfl, upd_same, by omega, by omega, by omega⟩
  · simp only [seval]
    exact hN _ _ ⟨q, _, _, _, rfl, L4, e4, by omega, by omega, by omega⟩
  clear e4 L4 hqn L3 L2 L1 e1 e2 e1' dp hc1 hc2
  rintro σ H5 ⟨q, x, y, lb, rfl, L5, e5, hx, hy, hlb⟩
  simp only [seval]
  refine ⟨p, 10, _, rfl, L5.n, by cases near <;> decide, L5.nd, fun v v0 v1 => ?_⟩
  have hv : v < 18 := by
    cases near
    · have : v < 17 := v1
      omega
    · exact v1
  obtain ⟨n, rfl⟩ := Int.eq_ofNat_of_zero_le v0
  simp only [seval]
  refine ⟨p, 11, 2, rfl, L5.n, by decide, L5.nd, fun v2 _ _ => ?_⟩
  simp only [seval]
  refine ⟨p, 20, n, _, rfl, L5.n, by omega, L5.nd, fun t tA tl => ?_⟩
  simp only [seval]
  refine if_cut (b := !near) (fun σ' H' => ∃ t, σ' = [some (.ref a), some (.ref p), some (.bl near), some (.ref q), some (.str (mkS t)), none, none, none, none, none, none] ∧ H' = H5 ∧ Asc t ∧ t.length ≤ 17) (ev_not ev_v2) (fun _ N hN => ?_) (fun _ N hN => ?_) ?_
  · simp only [seval]
    rw [lit_eq "\"", lit_eq "'", cs_q, show cs "'" = [39] from by decide, replace_map]
    refine ⟨?_, ?_⟩
    · rw [show (mkS [39]).length = 1 from rfl]
      omega
    · refine hN _ _ ⟨_, rfl, rfl, fun c hc => ?_, by simp; omega⟩
      obtain ⟨d, hd, rfl⟩ := List.mem_map.mp hc
      have := tA d hd
      split <;> omega
  · simp only [seval]
    exact hN _ _ ⟨t, rfl, rfl, tA, by omega⟩
  clear tl tA t
  rintro σ H' ⟨t, rfl, rfl, tA, tl⟩
  simp only [seval]
  intro m1 hm1
  have L6 := L5.upd' (q := m1) (o := .lst (SS [cs "a", cs "b", cs "zz", cs "0", cs "k9z0", cs "kk"])) (σ' := []) hm1 rfl
  have e6 : upd H' m1 (.lst (SS [cs "a", cs "b", cs "zz", cs "0", cs "k9z0", cs "kk"])) m1 = some (.lst (SS [cs "a", cs "b", cs "zz", cs "0", cs "k9z0", cs "kk"])) := upd_same
  have e6q : upd H' m1 (.lst (SS [cs "a", cs "b", cs "zz", cs "0", cs "k9z0", cs "kk"])) q = _ := (upd_old hm1 (by rw [e5]; rfl)).trans e5
  change kSet _ _ _ _ (upd H' m1 (.lst (SS [cs "a", cs "b", cs "zz", cs "0", cs "k9z0", cs "kk"])))
  generalize upd H' m1 (.lst (SS [cs "a", cs "b", cs "zz", cs "0", cs "k9z0", cs "kk"])) = H6 at L6 e6 e6q ⊢
  clear e5 L5 hm1
  simp only [seval]
  refine if_cut (fun σ' H' => ∃ m ms, σ' = [some (.ref a), some (.ref p), some (.bl near), some (.ref q), some (.str (mkS t)), some (.ref m), none, none, none, none, none] ∧ LS H a p near [] H' ∧ H' q = some (.lst [.int x, .int y, .int lb]) ∧ H' m = some (.lst (SS ms)) ∧ ms.length = 6 ∧ ∀ l ∈ ms, Asc l ∧ l.length ≤ 5) ev_v2 (fun _ N hN => ?_) (fun _ N hN => ?_) ?_
  · simp only [seval]
    intro m2 hm2
    refine hN _ _ ⟨m2, [cs "a", cs "b", cs "", cs "A", cs "kkkkk", cs "b"], rfl, L6.upd' hm2 rfl, (upd_old hm2 (by rw [e6q]; rfl)).trans e6q, upd_same, rfl, ?_⟩
    have : ([cs "a", cs "b", cs "", cs "A", cs "kkkkk", cs "b"].all fun l => l.all (fun c => decide (c < 128)) && decide (l.length ≤ 5)) = true := by decide
    intro l hl
    have h := Bool.and_eq_true_iff.mp (List.all_eq_true.mp this l hl)
    exact ⟨asc_all h.1, of_decide_eq_true h.2⟩
  · simp only [seval]
    refine hN _ _ ⟨m1, _, rfl, L6, e6q, e6, rfl, ?_⟩
    have : ([cs "a", cs "b", cs "zz", cs "0", cs "k9z0", cs "kk"].all fun l => l.all (fun c => decide (c < 128)) && decide (l.length ≤ 5)) = true := by decide
    intro l hl
    have h := Bool.and_eq_true_iff.mp (List.all_eq_true.mp this l hl)
    exact ⟨asc_all h.1, of_decide_eq_true h.2⟩
  clear e6 L6 e6q
  rintro σ H7 ⟨m, ms, rfl, L7, e7q, e7, hm6, hms⟩
  simp only [seval]
  refine ⟨p, 15, _, rfl, L7.n, by cases near <;> decide, L7.nd, fun v v0 v1 => ?_⟩
  have hv : v < 5 := by
    cases near
    · have : v < 3 := v1
      omega
    · have : v < 4 := v1
      omega
  obtain ⟨k, rfl⟩ := Int.eq_ofNat_of_zero_le v0
  simp only [seval]
  refine ⟨by omega, by omega, lcz_r (fun D i H' => ∃ hs : List (List Nat), hs.length = i ∧ (∀ l ∈ hs, l ∈ ms) ∧ H' = upd H7 D (.lst (SS hs))) (fun D hD => ⟨[], rfl, by simp, rfl⟩) ?_ ?_⟩
  · rintro D i H' hD hi ⟨hs, hc, hmem, rfl⟩
    have hi : i < k := by simpa using hi
    have e8 : upd H7 D (.lst (SS hs)) m = some (.lst (SS ms)) := (upd_old hD (by rw [e7]; rfl)).trans e7
    simp only [seval]
    refine ⟨p, _, 6, rfl, L7.n.same (same_new hD), by decide, noDT_upd L7.nd rfl, fun u u0 u1 => ?_⟩
    obtain ⟨j, rfl⟩ := Int.eq_ofNat_of_zero_le u0
    have hj : j < ms.length := by omega
    have e : atI (SS ms) (j : Int) = some (.str (mkS ms[j])) := atI_nat (by simp [SS, hj])
    simp only [seval, e8, e]
    refine kEl_at upd_same (line_lt (by simp; omega)) ⟨hs ++ [ms[j]], by simp [hc], fun l hl => ?_, ?_⟩
    · rcases List.mem_append.mp hl with h | h
      · exact hmem l h
      · have : l = ms[j] := by simpa using h
        rw [this]
        exact List.getElem_mem hj
    · rw [upd_upd]
      simp [SS]
  rintro D H' hD ⟨hs, hc, hmem, rfl⟩
  have hc : hs.length = k := by simpa using hc
  have hk3 : k ≤ 3 := by
    cases near
    · have : (k : Int) < 3 := v1
      omega
    · have : (k : Int) < 4 := v1
      omega
  have L8 : LS H a p near [] (upd H7 D (.lst (SS hs))) := L7.upd' hD rfl
  have e8 : upd H7 D (.lst (SS hs)) D = some (.lst (SS hs)) := upd_same
  have e8q := (upd_old (o := .lst (SS hs)) hD (by rw [e7q]; rfl)).trans e7q
  have hhs : ∀ l ∈ hs, Asc l ∧ l.length ≤ 5 := fun l hl => hms l (hmem l hl)
  generalize upd H7 D (.lst (SS hs)) = H8 at L8 e8 e8q ⊢
  simp only [seval]
  rw [zIf_eq]
  simp only [seval]
  refine ⟨p, 16, 4, rfl, L8.n, by decide, L8.nd, fun u _ _ => ?_⟩
  simp only [seval]
  refine kIf_cut (fun σ' H' => ∃ h hs, σ' = [some (.ref a), some (.ref p), some (.bl near), some (.ref q), some (.str (mkS t)), some (.ref m), some (.ref h), none, none, none, none] ∧ LS H a p near [] H' ∧ H' q = some (.lst [.int x, .int y, .int lb]) ∧ H' h = some (.lst (SS hs)) ∧ hs.length ≤ 3 ∧ ∀ l ∈ hs, Asc l ∧ l.length ≤ 5) (fun _ N hN => ?_) (fun _ N hN => ?_) ?_
  · simp only [seval]
    refine ⟨D, hs.map mkS, rfl, SqL.of (by rw [e8, List.map_map]; rfl), by simp; omega, fun ys h hp hsd hh => ?_⟩
    obtain ⟨zs, rfl⟩ : ∃ zs : List (List Nat), ys = zs.map mkS := ⟨ys.map TL.tl, by rw [List.map_map]; exact (List.map_id'' (fun z => mkS_tl z) ys).symm⟩
    have hperm : ∀ l, l ∈ zs → l ∈ hs := fun l hl => by
      have := hp.mem_iff.mp (List.mem_map.mpr ⟨l, hl, rfl⟩)
      obtain ⟨l', h1, h2⟩ := List.mem_map.mp this
      rw [← mkS_inj h2]
      exact h1
    have hlen := hp.length_eq
    simp only [List.length_map] at hlen
    have L9 := L8.upd' (q := h) (o := .lst (SS zs)) (σ' := []) hh rfl
    rw [show (zs.map mkS).map V.str = SS zs from by rw [List.map_map]; rfl]
    refine hN _ _ ⟨h, zs, rfl, L9, (upd_old hh (by rw [e8q]; rfl)).trans e8q, upd_same, by omega, fun l hl => hhs l (hperm l hl)⟩
  · simp only [seval]
    exact hN _ _ ⟨D, hs, rfl, L8, e8q, e8, by omega, hhs⟩
  clear e8 e8q L8 hhs hmem hc
  rintro σ H9 ⟨h, hs, rfl, L9, e9q, e9, hh3, hhs⟩
  simp only [seval, e9q]
  refine ⟨p, 17, 2, rfl, L9.n, by decide, L9.nd, fun u _ _ => ?_⟩
  simp only [seval]
  generalize decide (u = 0) = due
  intro z hz
  have rw_ : RowSm ⟨x, y, lb, t, hs, due⟩ := ⟨hx, hy, hlb, tl, tA, hh3, hhs⟩
  have LA := L9.upd' (q := z) (o := rowT ⟨x, y, lb, t, hs, due⟩ h) (σ' := []) hz rfl
  have aA : RowAt (upd H9 z (rowT ⟨x, y, lb, t, hs, due⟩ h)) z h ⟨x, y, lb, t, hs, due⟩ := ⟨upd_same, (upd_old hz (by rw [e9]; rfl)).trans e9⟩
  change kSet _ _ _ _ (upd H9 z (rowT ⟨x, y, lb, t, hs, due⟩ h))
  generalize upd H9 z (rowT ⟨x, y, lb, t, hs, due⟩ h) = HA at LA aA ⊢
  obtain ⟨vA, vl⟩ := rw_.value
  simp only [seval]
  refine if_of (b := false) ?_ (fun z => nomatch z) fun _ => ?_
  · refine ev_or (a := false) (b := false) ?_ fun _ => ev_or (a := false) (b := false) ?_ fun _ => ?_
    · refine ev_not (a := true) (ev_tr fun Q q => ?_)
      simp only [seval]
      exact ⟨z, h, _, rfl, aA, rw_.rowOk, by show t.length ≤ 100; omega, LA.nd, q⟩
    · refine ev_not (a := true) (ev_tr fun Q q => ?_)
      simp only [seval]
      refine ⟨z, h, _, rfl, aA, rw_.rowIn, LA.nd, ?_⟩
      simp only [seval]
      exact ⟨_, rfl, vA, by omega, LA.nd, q⟩
    · refine ev_not (a := true) (ev_tr fun Q q => ?_)
      simp only [seval]
      refine ⟨z, h, _, rfl, aA, rw_.rowIn, LA.nd, ?_⟩
      simp only [seval]
      refine ⟨p, _, rfl, LA.n, vA, vl, LA.nd, fun l' hA' hl' => ?_⟩
      simp only [seval]
      exact ⟨_, rfl, hA', by omega, LA.nd, q⟩
  have fi : decide (Txt.find (mkS t) (mkS [34]) < (0 : Int)) = !decide (34 ∈ t) := by
    rw [← find_in]
    by_cases h : (0 : Int) ≤ Txt.find (mkS t) (mkS [34])
    · rw [decide_eq_true h, decide_eq_false (by omega)]
      rfl
    · rw [decide_eq_false h, decide_eq_true (by omega)]
      rfl
  have hz1 : t.length ≤ sizeLine := line_of (by omega)
  have zq := cs_q
  simp only [seval]
  refine use_andV (v := .bl (isTextL t)) ?_ ?_
  · have e : isTextL t = (decide ((t.length : Int) ≤ 16) && decide (Txt.find (mkS t) (mkS [34]) < (0 : Int))) := by
      rw [fi]
      unfold isTextL
      congr 1
      exact decide_eq_decide.mpr (by omega)
    rw [e]
    walk_at "ev" <;> walk_at "leaf"
  · simp only [seval]
    refine ⟨t, rfl, by omega, LA.nd, ?_⟩
    simp only [seval]
    refine andV_of (a := true) ?_ (fun _ => ?_) (fun z => nomatch z)
    · intro Q q
      simp only [seval]
      exact q
    · refine andV_of (a := true) ?_ (fun _ => ?_) (fun z => nomatch z)
      · intro Q q
        simp only [seval]
        exact q
      · simp only [seval]
        exact ⟨[], rfl, Asc.nil, by simp, LA.nd, ret_same wf nd LA.s hq⟩
end Z
namespace Z
open PySem PySem.Spec PyProof.Rows L2 TL L2H
def topS (i : Nat) : Stmt := PySem.Challenge.pw_lethe_k11_records_written.main.body.getD i (.Pass ⟨0, 0, 0, 0⟩)
structure Tx (K : PySem.W.Frag) (mg : Str → Option Value) : Prop where
  a_Record_due : NoAttr K (He.ga K "Record") "due"
  a_Record_holders : NoAttr K (He.ga K "Record") "holders"
  a_Record_label : NoAttr K (He.ga K "Record") "label"
  a_Record_text : NoAttr K (He.ga K "Record") "text"
  a_Record_x : NoAttr K (He.ga K "Record") "x"
  a_Record_y : NoAttr K (He.ga K "Record") "y"
  c_MAX_HOLDERS : ∃ u, mg "MAX_HOLDERS" = some u ∧ RelV (.int 2) u
  c_MAX_NAME : ∃ u, mg "MAX_NAME" = some u ∧ RelV (.int 4) u
  c_MAX_RECORDS : ∃ u, mg "MAX_RECORDS" = some u ∧ RelV (.int 8) u
  c_MAX_TEXT : ∃ u, mg "MAX_TEXT" = some u ∧ RelV (.int 16) u
  c_MOST_COORDINATE : ∃ u, mg "MOST_COORDINATE" = some u ∧ RelV (.int 99) u
  c_MOST_DIGITS : ∃ u, mg "MOST_DIGITS" = some u ∧ RelV (.int 9) u
  c_MOST_LABEL : ∃ u, mg "MOST_LABEL" = some u ∧ RelV (.int 3) u
  e_BadForm : Ex K mg "BadForm"
  e_Full : Ex K mg "Full"
  e_LetheError : Ex K mg "LetheError"
  e_NotAllowed : Ex K mg "NotAllowed"
  g_Record : mg "Record" = some (.ref (He.ga K "Record"))
  g__law_good : mg "_law_good" = some (.ref (He.fAd K ("_law_good", none)))
  g__law_is : mg "_law_is" = some (.ref (He.fAd K ("_law_is", none)))
  g__law_is_name : mg "_law_is_name" = some (.ref (He.fAd K ("_law_is_name", none)))
  g__law_made : mg "_law_made" = some (.ref (He.fAd K ("_law_made", none)))
  g__law_number : mg "_law_number" = some (.ref (He.fAd K ("_law_number", none)))
  g__law_parts : mg "_law_parts" = some (.ref (He.fAd K ("_law_parts", none)))
  g__law_pick : mg "_law_pick" = some (.ref (He.fAd K ("_law_pick", none)))
  g__law_read : mg "_law_read" = some (.ref (He.fAd K ("_law_read", none)))
  g__law_row : mg "_law_row" = some (.ref (He.fAd K ("_law_row", none)))
  g__law_signs : mg "_law_signs" = some (.ref (He.fAd K ("_law_signs", none)))
  g__law_spoilt : mg "_law_spoilt" = some (.ref (He.fAd K ("_law_spoilt", none)))
  g__law_stream : mg "_law_stream" = some (.ref (He.fAd K ("_law_stream", none)))
  g__law_text : mg "_law_text" = some (.ref (He.fAd K ("_law_text", none)))
  g__law_value : mg "_law_value" = some (.ref (He.fAd K ("_law_value", none)))
  g_are_holders : mg "are_holders" = some (.ref (He.fAd K ("are_holders", none)))
  g_is_name : mg "is_name" = some (.ref (He.fAd K ("is_name", none)))
  g_is_record_text : mg "is_record_text" = some (.ref (He.fAd K ("is_record_text", none)))
  g_number_of : mg "number_of" = some (.ref (He.fAd K ("number_of", none)))
  g_pack : mg "pack" = some (.ref (He.fAd K ("pack", none)))
  g_part_at : mg "part_at" = some (.ref (He.fAd K ("part_at", none)))
  g_record_from_value : mg "record_from_value" = some (.ref (He.fAd K ("record_from_value", none)))
  g_record_value : mg "record_value" = some (.ref (He.fAd K ("record_value", none)))
  g_unpack : mg "unpack" = some (.ref (He.fAd K ("unpack", none)))
  k_Record : Cls K (He.ga K "Record")
  ki_BadForm_LetheError : PySem.W.kitOne K (.ref (He.ga K "BadForm")) (.ref (He.ga K "LetheError")) = some true
  ki_NotAllowed_LetheError : PySem.W.kitOne K (.ref (He.ga K "NotAllowed")) (.ref (He.ga K "LetheError")) = some true
  ks_BadForm_NotAllowed_Full : PySem.W.kitAny K (.ref (He.ga K "BadForm")) [.ref (He.ga K "NotAllowed"), .ref (He.ga K "Full")] = some false
  ks_NotAllowed_BadForm_Full : PySem.W.kitAny K (.ref (He.ga K "NotAllowed")) [.ref (He.ga K "BadForm"), .ref (He.ga K "Full")] = some false
  mk_Record : Mk K (He.ga K "Record") (He.fAd K ("Record", some "__init__"))
  n_all : mg "all" = none
  n_bool : mg "bool" = none
  n_int : mg "int" = none
  n_isinstance : mg "isinstance" = none
  n_len : mg "len" = none
  n_list : mg "list" = none
  n_range : mg "range" = none
  n_sorted : mg "sorted" = none
  n_str : mg "str" = none
  x_BadForm : ExcC K (He.ga K "BadForm")
  x_NotAllowed : ExcC K (He.ga K "NotAllowed")

abbrev spack : Stmt := (topS 7)
theorem sc_pack : FnScope N_pack ["parts"] (defScope spack) := ⟨rfl, rfl, rfl, by decide +kernel, rfl, by decide +kernel, by decide +kernel⟩
theorem ok_pack {P : Program} {w : World} {K : PySem.W.Frag} {mg : Str → Option Value} {base : Heap} {k : Nat} {fd : FuncData} {sp : Sp} (T : Tx K mg) (F : FunD K "pack" "pack" (defArgs spack) (defBody spack) (defScope spack) [] [] (He.fAd K ("pack", none)) fd)
       (len : ∀ vs H Q E, sp vs H Q E → vs.length = 1)
    (pure : ∀ vs H Q E, WF H → sp vs H Q E → t_pack K w (W0 H E)  { nx := fun _ H' => RQ H Q .non H', rt := RQ H Q } (L2.start N_pack vs) H) : Kn P w K mg base (k + 1) (He.fAd K ("pack", none)) ["parts"] sp := by
  refine ⟨⟨fd, okZ F sc_pack len (fun cdv A outer s H vs Q E hr wf h => ⟨_, ?_, pure vs H Q E wf h⟩), F.bindsN fun _ _ _ _ _ _ us hl => match us, hl with | [_], _ => rfl⟩, F.kp⟩
  have nd : (N_pack).Nodup := sc_pack.nd
  have tk : L2N.Takes (cxOf (L2N.CX P w) P w K mg base N_pack "pack" (defScope spack) (He.fAd K ("pack", none)) cdv A outer s H (RE H E)) (W0 H E) := L2N.takes_of rfl rfl rfl rfl
  exact (sz_one (sz_ret (mz_s PySem.F.slot_str_join PySem.F.type_str_join tz_join pc_str (az_cons (pz_lc [("part", 1)] rfl nd (wz_list (pv 0)) (blkOk_by (N := N_pack) (sc := defScope spack) (by decide +kernel)) (fun _ _ _ _ _ => (gz_name 1 nd)) (fun _ _ _ _ _ => lz_nil) (fun _ _ _ _ _ => (fz_js (.cons (fz_fmt (cz_b bz_len T.n_len (by decide +kernel) (az_cons (pv 1) az_nil))) (.cons pc_str (.cons (fz_fmt (pv 1)) .nil)))))) az_nil))))

abbrev snumber_of : Stmt := (topS 8)
theorem sc_number_of : FnScope N_number_of ["text"] (defScope snumber_of) := ⟨rfl, rfl, rfl, by decide +kernel, rfl, by decide +kernel, by decide +kernel⟩
theorem ok_number_of {P : Program} {w : World} {K : PySem.W.Frag} {mg : Str → Option Value} {base : Heap} {k : Nat} {fd : FuncData} {sp : Sp} (T : Tx K mg) (F : FunD K "number_of" "number_of" (defArgs snumber_of) (defBody snumber_of) (defScope snumber_of) [] [] (He.fAd K ("number_of", none)) fd)
       (len : ∀ vs H Q E, sp vs H Q E → vs.length = 1)
    (pure : ∀ vs H Q E, WF H → sp vs H Q E → t_number_of K w (W0 H E)  { nx := fun _ H' => RQ H Q .non H', rt := RQ H Q } (L2.start N_number_of vs) H) : Kn P w K mg base (k + 1) (He.fAd K ("number_of", none)) ["text"] sp := by
  refine ⟨⟨fd, okZ F sc_number_of len (fun cdv A outer s H vs Q E hr wf h => ⟨_, ?_, pure vs H Q E wf h⟩), F.bindsN fun _ _ _ _ _ _ us hl => match us, hl with | [_], _ => rfl⟩, F.kp⟩
  have nd : (N_number_of).Nodup := sc_number_of.nd
  have tk : L2N.Takes (cxOf (L2N.CX P w) P w K mg base N_number_of "number_of" (defScope snumber_of) (He.fAd K ("number_of", none)) cdv A outer s H (RE H E)) (W0 H E) := L2N.takes_of rfl rfl rfl rfl
  exact (sz_cons (sz_if (PW.pt (pqw_or (pq_not (pq_val (mz_s0 PySem.F.slot_str_isdigit PySem.F.type_str_isdigit tz_isdigit (pv 0)))) (pqw_or1 (pq_cmp oz_gt (cz_b bz_len T.n_len (by decide +kernel) (az_cons (pv 0) az_nil)) (pc_gx T.c_MOST_DIGITS))))) (sz_one (sz_raise rfl tk T.e_BadForm)) sz_nil)
    (sz_cons (sz_if (PW.pt (pqw_and (pq_cmp (oz_eq hr.units) (pz_ix (pv 0) pc_int) pc_str) (pqw_and1 (pq_cmp oz_gt (cz_b bz_len T.n_len (by decide +kernel) (az_cons (pv 0) az_nil)) pc_int)))) (sz_one (sz_raise rfl tk T.e_BadForm)) sz_nil)
    (sz_one (sz_ret (cz_t bz_int T.n_int (by decide +kernel) (az_cons (pv 0) az_nil))))))

abbrev spart_at : Stmt := (topS 9)
theorem sc_part_at : FnScope N_part_at ["text", "start"] (defScope spart_at) := ⟨rfl, rfl, rfl, by decide +kernel, rfl, by decide +kernel, by decide +kernel⟩
theorem ok_part_at {P : Program} {w : World} {K : PySem.W.Frag} {mg : Str → Option Value} {base : Heap} {k : Nat} {fd : FuncData} {sp : Sp} (T : Tx K mg) (F : FunD K "part_at" "part_at" (defArgs spart_at) (defBody spart_at) (defScope spart_at) [] [] (He.fAd K ("part_at", none)) fd)
    {s_number_of : Sp} {k_number_of : Nat} (K_number_of : Kn P w K mg base k_number_of (He.fAd K ("number_of", none)) ["text"] s_number_of) (l_number_of : k_number_of ≤ k)  (len : ∀ vs H Q E, sp vs H Q E → vs.length = 2)
    (pure : ∀ vs H Q E, WF H → sp vs H Q E → t_part_at K w (W0 H E) s_number_of { nx := fun _ H' => RQ H Q .non H', rt := RQ H Q } (L2.start N_part_at vs) H) : Kn P w K mg base (k + 1) (He.fAd K ("part_at", none)) ["text", "start"] sp := by
  refine ⟨⟨fd, okZ F sc_part_at len (fun cdv A outer s H vs Q E hr wf h => ⟨_, ?_, pure vs H Q E wf h⟩), F.bindsN fun _ _ _ _ _ _ us hl => match us, hl with | [_, _], _ => rfl⟩, F.kp⟩
  have nd : (N_part_at).Nodup := sc_part_at.nd
  have tk : L2N.Takes (cxOf (L2N.CX P w) P w K mg base N_part_at "part_at" (defScope spart_at) (He.fAd K ("part_at", none)) cdv A outer s H (RE H E)) (W0 H E) := L2N.takes_of rfl rfl rfl rfl
  exact (sz_cons (sz_set 2 nd (mz_s PySem.F.slot_str_find PySem.F.type_str_find tz_find (pv 0) (az_cons pc_str (az_cons (pv 1) az_nil))))
    (sz_cons (sz_if (pq_cmp oz_lt (pv 2) pc_int) (sz_one (sz_raise rfl tk T.e_BadForm)) sz_nil)
    (sz_cons (sz_set 3 nd (pz_op oz_add (pz_op oz_add (pv 2) pc_int) (cz_call K_number_of (hr.mono l_number_of) T.g_number_of tk (az_cons (pz_sl (pv 0) (oz_pt (pv 1)) (oz_pt (pv 2))) az_nil))))
    (sz_cons (sz_if (pq_cmp oz_gt (pv 3) (cz_b bz_len T.n_len (by decide +kernel) (az_cons (pv 0) az_nil))) (sz_one (sz_raise rfl tk T.e_BadForm)) sz_nil)
    (sz_one (sz_ret (pz_tup (az_cons (pz_sl (pv 0) (oz_pt (pz_op oz_add (pv 2) pc_int)) (oz_pt (pv 3))) (az_cons (pv 3) az_nil)))))))))

abbrev sunpack : Stmt := (topS 10)
theorem sc_unpack : FnScope N_unpack ["text"] (defScope sunpack) := ⟨rfl, rfl, rfl, by decide +kernel, rfl, by decide +kernel, by decide +kernel⟩
theorem ok_unpack {P : Program} {w : World} {K : PySem.W.Frag} {mg : Str → Option Value} {base : Heap} {k : Nat} {fd : FuncData} {sp : Sp} (T : Tx K mg) (F : FunD K "unpack" "unpack" (defArgs sunpack) (defBody sunpack) (defScope sunpack) [] [] (He.fAd K ("unpack", none)) fd)
    {s_part_at : Sp} {k_part_at : Nat} (K_part_at : Kn P w K mg base k_part_at (He.fAd K ("part_at", none)) ["text", "start"] s_part_at) (l_part_at : k_part_at ≤ k)  (len : ∀ vs H Q E, sp vs H Q E → vs.length = 1)
    (pure : ∀ vs H Q E, WF H → sp vs H Q E → t_unpack K w (W0 H E) s_part_at { nx := fun _ H' => RQ H Q .non H', rt := RQ H Q } (L2.start N_unpack vs) H) : Kn P w K mg base (k + 1) (He.fAd K ("unpack", none)) ["text"] sp := by
  refine ⟨⟨fd, okZ F sc_unpack len (fun cdv A outer s H vs Q E hr wf h => ⟨_, ?_, pure vs H Q E wf h⟩), F.bindsN fun _ _ _ _ _ _ us hl => match us, hl with | [_], _ => rfl⟩, F.kp⟩
  have nd : (N_unpack).Nodup := sc_unpack.nd
  have tk : L2N.Takes (cxOf (L2N.CX P w) P w K mg base N_unpack "unpack" (defScope sunpack) (He.fAd K ("unpack", none)) cdv A outer s H (RE H E)) (W0 H E) := L2N.takes_of rfl rfl rfl rfl
  exact (sz_cons (sz_set 1 nd (pz_lst az_nil))
    (sz_cons (sz_set 2 nd pc_int)
    (sz_cons (sz_while (passes_of rfl) (pq_cmp oz_lt (pv 2) (cz_b bz_len T.n_len (by decide +kernel) (az_cons (pv 0) az_nil))) (sz_cons (sz_asg (cz_call K_part_at (hr.mono l_part_at) T.g_part_at tk (az_cons (pv 0) (az_cons (pv 2) az_nil))) (gz_tup rfl (pgs_cons (gz_name 3 nd) (pgs_cons (gz_name 2 nd) pgs_nil))))
    (sz_one (sz_expr (mz_l PySem.F.slot_list_append PySem.F.type_list_append tz_append (pv 1) (az_cons (pv 3) az_nil))))))
    (sz_one (sz_ret (pv 1))))))

abbrev sis_name : Stmt := (topS 13)
theorem sc_is_name : FnScope N_is_name ["text"] (defScope sis_name) := ⟨rfl, rfl, rfl, by decide +kernel, rfl, by decide +kernel, by decide +kernel⟩
theorem ok_is_name {P : Program} {w : World} {K : PySem.W.Frag} {mg : Str → Option Value} {base : Heap} {k : Nat} {fd : FuncData} {sp : Sp} (T : Tx K mg) (F : FunD K "is_name" "is_name" (defArgs sis_name) (defBody sis_name) (defScope sis_name) [] [] (He.fAd K ("is_name", none)) fd)
       (len : ∀ vs H Q E, sp vs H Q E → vs.length = 1)
    (pure : ∀ vs H Q E, WF H → sp vs H Q E → t_is_name K w (W0 H E)  { nx := fun _ H' => RQ H Q .non H', rt := RQ H Q } (L2.start N_is_name vs) H) : Kn P w K mg base (k + 1) (He.fAd K ("is_name", none)) ["text"] sp := by
  refine ⟨⟨fd, okZ F sc_is_name len (fun cdv A outer s H vs Q E hr wf h => ⟨_, ?_, pure vs H Q E wf h⟩), F.bindsN fun _ _ _ _ _ _ us hl => match us, hl with | [_], _ => rfl⟩, F.kp⟩
  have nd : (N_is_name).Nodup := sc_is_name.nd
  have tk : L2N.Takes (cxOf (L2N.CX P w) P w K mg base N_is_name "is_name" (defScope sis_name) (He.fAd K ("is_name", none)) cdv A outer s H (RE H E)) (W0 H E) := L2N.takes_of rfl rfl rfl rfl
  exact (sz_cons (sz_if (pq_not (pq_chain oz_le oz_le pc_int (cz_b bz_len T.n_len (by decide +kernel) (az_cons (pv 0) az_nil)) (pc_gx T.c_MAX_NAME))) (sz_one (sz_ret pc_bl)) sz_nil)
    (sz_one (sz_ret (pz_and (mz_s0 PySem.F.slot_str_isalnum PySem.F.type_str_isalnum tz_isalnum (pv 0)) (pe_one (pz_cmp (oz_eq hr.units) (pv 0) (mz_s0 PySem.F.slot_str_lower PySem.F.type_str_lower tz_lower (pv 0))))))))

abbrev sis_record_text : Stmt := (topS 20)
theorem sc_is_record_text : FnScope N_is_record_text ["text"] (defScope sis_record_text) := ⟨rfl, rfl, rfl, by decide +kernel, rfl, by decide +kernel, by decide +kernel⟩
theorem ok_is_record_text {P : Program} {w : World} {K : PySem.W.Frag} {mg : Str → Option Value} {base : Heap} {k : Nat} {fd : FuncData} {sp : Sp} (T : Tx K mg) (F : FunD K "is_record_text" "is_record_text" (defArgs sis_record_text) (defBody sis_record_text) (defScope sis_record_text) [] [] (He.fAd K ("is_record_text", none)) fd)
       (len : ∀ vs H Q E, sp vs H Q E → vs.length = 1)
    (pure : ∀ vs H Q E, WF H → sp vs H Q E → t_is_record_text K w (W0 H E)  { nx := fun _ H' => RQ H Q .non H', rt := RQ H Q } (L2.start N_is_record_text vs) H) : Kn P w K mg base (k + 1) (He.fAd K ("is_record_text", none)) ["text"] sp := by
  refine ⟨⟨fd, okZ F sc_is_record_text len (fun cdv A outer s H vs Q E hr wf h => ⟨_, ?_, pure vs H Q E wf h⟩), F.bindsN fun _ _ _ _ _ _ us hl => match us, hl with | [_], _ => rfl⟩, F.kp⟩
  have nd : (N_is_record_text).Nodup := sc_is_record_text.nd
  have tk : L2N.Takes (cxOf (L2N.CX P w) P w K mg base N_is_record_text "is_record_text" (defScope sis_record_text) (He.fAd K ("is_record_text", none)) cdv A outer s H (RE H E)) (W0 H E) := L2N.takes_of rfl rfl rfl rfl
  exact (sz_one (sz_ret (pz_and (pz_cmp oz_le (cz_b bz_len T.n_len (by decide +kernel) (az_cons (pv 0) az_nil)) (pc_gx T.c_MAX_TEXT)) (pe_one (pz_cmp oz_nin pc_str (pv 0))))))

abbrev sare_holders : Stmt := (topS 21)
theorem sc_are_holders : FnScope N_are_holders ["names"] (defScope sare_holders) := ⟨rfl, rfl, rfl, by decide +kernel, rfl, by decide +kernel, by decide +kernel⟩
theorem ok_are_holders {P : Program} {w : World} {K : PySem.W.Frag} {mg : Str → Option Value} {base : Heap} {k : Nat} {fd : FuncData} {sp : Sp} (T : Tx K mg) (F : FunD K "are_holders" "are_holders" (defArgs sare_holders) (defBody sare_holders) (defScope sare_holders) [] [] (He.fAd K ("are_holders", none)) fd)
    {s_is_name : Sp} {k_is_name : Nat} (K_is_name : Kn P w K mg base k_is_name (He.fAd K ("is_name", none)) ["text"] s_is_name) (l_is_name : k_is_name ≤ k)  (len : ∀ vs H Q E, sp vs H Q E → vs.length = 1)
    (pure : ∀ vs H Q E, WF H → sp vs H Q E → t_are_holders K w (W0 H E) s_is_name { nx := fun _ H' => RQ H Q .non H', rt := RQ H Q } (L2.start N_are_holders vs) H) : Kn P w K mg base (k + 1) (He.fAd K ("are_holders", none)) ["names"] sp := by
  refine ⟨⟨fd, okZ F sc_are_holders len (fun cdv A outer s H vs Q E hr wf h => ⟨_, ?_, pure vs H Q E wf h⟩), F.bindsN fun _ _ _ _ _ _ us hl => match us, hl with | [_], _ => rfl⟩, F.kp⟩
  have nd : (N_are_holders).Nodup := sc_are_holders.nd
  have tk : L2N.Takes (cxOf (L2N.CX P w) P w K mg base N_are_holders "are_holders" (defScope sare_holders) (He.fAd K ("are_holders", none)) cdv A outer s H (RE H E)) (W0 H E) := L2N.takes_of rfl rfl rfl rfl
  exact (sz_cons (sz_if (PW.pt (pqw_or (pq_cmp oz_gt (cz_b bz_len T.n_len (by decide +kernel) (az_cons (pv 0) az_nil)) (pc_gx T.c_MAX_HOLDERS)) (pqw_or1 (pq_not (pq_val (cz_b (bz_all rfl) T.n_all (by decide +kernel) (az_cons (pz_lc [("name", 1)] rfl nd (wz_list (pv 0)) (blkOk_by (N := N_are_holders) (sc := defScope sare_holders) (by decide +kernel)) (fun _ _ _ _ _ => (gz_name 1 nd)) (fun _ _ _ _ _ => lz_nil) (fun _ _ _ _ _ => (cz_call K_is_name (hr.mono l_is_name) T.g_is_name tk_no (az_cons (pv 1) az_nil)))) az_nil))))))) (sz_one (sz_ret pc_bl)) sz_nil)
    (sz_one (sz_ret (cz_b (bz_all rfl) T.n_all (by decide +kernel) (az_cons (pz_lc [("k", 2)] rfl nd (wz_range1 T.n_range (az_cons (pz_op oz_sub (cz_b bz_len T.n_len (by decide +kernel) (az_cons (pv 0) az_nil)) pc_int) az_nil)) (blkOk_by (N := N_are_holders) (sc := defScope sare_holders) (by decide +kernel)) (fun _ _ _ _ _ => (gz_name 2 nd)) (fun _ _ _ _ _ => lz_nil) (fun _ _ _ _ _ => (pz_cmp oz_lt (pz_ix (pv 0) (pv 2)) (pz_ix (pv 0) (pz_op oz_add (pv 2) pc_int))))) az_nil)))))

abbrev sRecord___init__ : Stmt := (inClass (topS 22) 0)
theorem sc_Record___init__ : FnScope N_Record___init__ ["self", "x", "y", "label", "text", "holders", "due"] (defScope sRecord___init__) := ⟨rfl, rfl, rfl, by decide +kernel, rfl, by decide +kernel, by decide +kernel⟩
theorem ok_Record___init__ {P : Program} {w : World} {K : PySem.W.Frag} {mg : Str → Option Value} {base : Heap} {k : Nat} {fd : FuncData} {sp : Sp} (T : Tx K mg) (F : FunD K "__init__" "Record.__init__" (defArgs sRecord___init__) (defBody sRecord___init__) (defScope sRecord___init__) [] [] (He.fAd K ("Record", some "__init__")) fd)
    {s_is_record_text : Sp} {s_are_holders : Sp} {k_is_record_text : Nat} (K_is_record_text : Kn P w K mg base k_is_record_text (He.fAd K ("is_record_text", none)) ["text"] s_is_record_text) (l_is_record_text : k_is_record_text ≤ k) {k_are_holders : Nat} (K_are_holders : Kn P w K mg base k_are_holders (He.fAd K ("are_holders", none)) ["names"] s_are_holders) (l_are_holders : k_are_holders ≤ k)  (len : ∀ vs H Q E, sp vs H Q E → vs.length = 7)
    (pure : ∀ vs H Q E, WF H → sp vs H Q E → t_Record___init__ K w (W0 H E) s_is_record_text s_are_holders { nx := fun _ H' => RQ H Q .non H', rt := RQ H Q } (L2.start N_Record___init__ vs) H) : Kn P w K mg base (k + 1) (He.fAd K ("Record", some "__init__")) ["self", "x", "y", "label", "text", "holders", "due"] sp := by
  refine ⟨⟨fd, okZ F sc_Record___init__ len (fun cdv A outer s H vs Q E hr wf h => ⟨_, ?_, pure vs H Q E wf h⟩), F.bindsN fun _ _ _ _ _ _ us hl => match us, hl with | [_, _, _, _, _, _, _], _ => rfl⟩, F.kp⟩
  have nd : (N_Record___init__).Nodup := sc_Record___init__.nd
  have tk : L2N.Takes (cxOf (L2N.CX P w) P w K mg base N_Record___init__ "Record.__init__" (defScope sRecord___init__) (He.fAd K ("Record", some "__init__")) cdv A outer s H (RE H E)) (W0 H E) := L2N.takes_of rfl rfl rfl rfl
  exact (sz_cons (sz_if (PW.pt (pqw_or (pq_not (pq_chain oz_le oz_le pc_int (pv 1) (pc_gx T.c_MOST_COORDINATE))) (pqw_or1 (pq_not (pq_chain oz_le oz_le pc_int (pv 2) (pc_gx T.c_MOST_COORDINATE)))))) (sz_one (sz_raise rfl tk T.e_NotAllowed)) sz_nil)
    (sz_cons (sz_if (PW.pt (pqw_or (pq_not (pq_chain oz_le oz_le pc_int (pv 3) (pc_gx T.c_MOST_LABEL))) (pqw_or1 (pq_not (pq_val (cz_call K_is_record_text (hr.mono l_is_record_text) T.g_is_record_text tk (az_cons (pv 4) az_nil))))))) (sz_one (sz_raise rfl tk T.e_NotAllowed)) sz_nil)
    (sz_cons (sz_if (PW.pt (pqw_or (pq_not (pq_val (cz_call K_are_holders (hr.mono l_are_holders) T.g_are_holders tk (az_cons (pv 5) az_nil)))) (pqw_or1 (PW.pt (pqw_and (pq_val (pv 6)) (pqw_and1 (pq_cmp (oz_eq hr.units) (cz_b bz_len T.n_len (by decide +kernel) (az_cons (pv 5) az_nil)) pc_int))))))) (sz_one (sz_raise rfl tk T.e_NotAllowed)) sz_nil)
    (sz_cons (sz_fld (pv 0) (pv 1) T.k_Record T.a_Record_x)
    (sz_cons (sz_fld (pv 0) (pv 2) T.k_Record T.a_Record_y)
    (sz_cons (sz_fld (pv 0) (pv 3) T.k_Record T.a_Record_label)
    (sz_cons (sz_fld (pv 0) (pv 4) T.k_Record T.a_Record_text)
    (sz_cons (sz_fld (pv 0) (cz_t bz_list T.n_list (by decide +kernel) (az_cons (pv 5) az_nil)) T.k_Record T.a_Record_holders)
    (sz_one (sz_fld (pv 0) (pv 6) T.k_Record T.a_Record_due))))))))))

abbrev srecord_value : Stmt := (topS 23)
theorem sc_record_value : FnScope N_record_value ["record"] (defScope srecord_value) := ⟨rfl, rfl, rfl, by decide +kernel, rfl, by decide +kernel, by decide +kernel⟩
theorem ok_record_value {P : Program} {w : World} {K : PySem.W.Frag} {mg : Str → Option Value} {base : Heap} {k : Nat} {fd : FuncData} {sp : Sp} (T : Tx K mg) (F : FunD K "record_value" "record_value" (defArgs srecord_value) (defBody srecord_value) (defScope srecord_value) [] [] (He.fAd K ("record_value", none)) fd)
    {s_pack : Sp} {k_pack : Nat} (K_pack : Kn P w K mg base k_pack (He.fAd K ("pack", none)) ["parts"] s_pack) (l_pack : k_pack ≤ k)  (len : ∀ vs H Q E, sp vs H Q E → vs.length = 1)
    (pure : ∀ vs H Q E, WF H → sp vs H Q E → t_record_value K w (W0 H E) s_pack { nx := fun _ H' => RQ H Q .non H', rt := RQ H Q } (L2.start N_record_value vs) H) : Kn P w K mg base (k + 1) (He.fAd K ("record_value", none)) ["record"] sp := by
  refine ⟨⟨fd, okZ F sc_record_value len (fun cdv A outer s H vs Q E hr wf h => ⟨_, ?_, pure vs H Q E wf h⟩), F.bindsN fun _ _ _ _ _ _ us hl => match us, hl with | [_], _ => rfl⟩, F.kp⟩
  have nd : (N_record_value).Nodup := sc_record_value.nd
  have tk : L2N.Takes (cxOf (L2N.CX P w) P w K mg base N_record_value "record_value" (defScope srecord_value) (He.fAd K ("record_value", none)) cdv A outer s H (RE H E)) (W0 H E) := L2N.takes_of rfl rfl rfl rfl
  exact (sz_cons (sz_set 1 nd pc_str)
    (sz_cons (sz_if (pq_val (cz_fld (pv 0) T.k_Record T.a_Record_due)) (sz_one (sz_set 1 nd pc_str)) sz_nil)
    (sz_cons (sz_set 2 nd (pz_lst (az_cons (cz_t bz_str T.n_str (by decide +kernel) (az_cons (cz_fld (pv 0) T.k_Record T.a_Record_x) az_nil)) (az_cons (cz_t bz_str T.n_str (by decide +kernel) (az_cons (cz_fld (pv 0) T.k_Record T.a_Record_y) az_nil)) (az_cons (cz_t bz_str T.n_str (by decide +kernel) (az_cons (cz_fld (pv 0) T.k_Record T.a_Record_label) az_nil)) (az_cons (pv 1) (az_cons (cz_fld (pv 0) T.k_Record T.a_Record_text) az_nil)))))))
    (sz_one (sz_ret (cz_call K_pack (hr.mono l_pack) T.g_pack tk (az_cons (pz_op oz_add (pv 2) (cz_fld (pv 0) T.k_Record T.a_Record_holders)) az_nil)))))))

abbrev srecord_from_value : Stmt := (topS 24)
theorem sc_record_from_value : FnScope N_record_from_value ["text"] (defScope srecord_from_value) := ⟨rfl, rfl, rfl, by decide +kernel, rfl, by decide +kernel, by decide +kernel⟩
theorem ok_record_from_value {P : Program} {w : World} {K : PySem.W.Frag} {mg : Str → Option Value} {base : Heap} {k : Nat} {fd : FuncData} {sp : Sp} (T : Tx K mg) (F : FunD K "record_from_value" "record_from_value" (defArgs srecord_from_value) (defBody srecord_from_value) (defScope srecord_from_value) [] [] (He.fAd K ("record_from_value", none)) fd)
    {s_unpack : Sp} {s_number_of : Sp} {s_Record___init__ : Sp} {k_unpack : Nat} (K_unpack : Kn P w K mg base k_unpack (He.fAd K ("unpack", none)) ["text"] s_unpack) (l_unpack : k_unpack ≤ k) {k_number_of : Nat} (K_number_of : Kn P w K mg base k_number_of (He.fAd K ("number_of", none)) ["text"] s_number_of) (l_number_of : k_number_of ≤ k) {k_Record___init__ : Nat} (K_Record___init__ : Kn P w K mg base k_Record___init__ (He.fAd K ("Record", some "__init__")) ["self", "x", "y", "label", "text", "holders", "due"] s_Record___init__) (l_Record___init__ : k_Record___init__ ≤ k)  (len : ∀ vs H Q E, sp vs H Q E → vs.length = 1)
    (pure : ∀ vs H Q E, WF H → sp vs H Q E → t_record_from_value K w (W0 H E) s_unpack s_number_of s_Record___init__ { nx := fun _ H' => RQ H Q .non H', rt := RQ H Q } (L2.start N_record_from_value vs) H) : KnL P w K mg base (k + 1 + 1) (He.fAd K ("record_from_value", none)) ["text"] sp := by
  refine ⟨⟨fd, okZL F sc_record_from_value len (fun cdv A outer s H vs Q E hr wf h => ⟨_, ?_, pure vs H Q E wf h⟩), F.bindsN fun _ _ _ _ _ _ us hl => match us, hl with | [_], _ => rfl⟩, F.kp⟩
  have nd : (N_record_from_value).Nodup := sc_record_from_value.nd
  have tkL : L2.Takes (cxOf (L2.CX P w) P w K mg base N_record_from_value "record_from_value" (defScope srecord_from_value) (He.fAd K ("record_from_value", none)) cdv A outer s H (RE H E)) (W0 H E) := L2.takes_of rfl rfl rfl rfl
  have tk := takes_N tkL
  exact (sz_cons (sz_set 1 nd (cz_call K_unpack (hr.mono (Nat.le_succ_of_le l_unpack)) T.g_unpack tk (az_cons (pv 0) az_nil)))
    (sz_cons (sz_if (PW.pt (pqw_or (pq_cmp oz_lt (cz_b bz_len T.n_len (by decide +kernel) (az_cons (pv 1) az_nil)) pc_int) (pqw_or1 (pq_cmp oz_nin (pz_ix (pv 1) pc_int) (pz_tup (az_cons pc_str (az_cons pc_str az_nil))))))) (sz_one (sz_raise rfl tk T.e_BadForm)) sz_nil)
    (sz_cons (sz_asg (pz_lcE [("part", 7)] rfl rfl tk (fun _ _ _ _ _ h => h) rfl nd (wz_list (pz_sl (pv 1) oz_no (oz_pt pc_int))) (blkOk_by (N := N_record_from_value) (sc := defScope srecord_from_value) (by decide +kernel)) (fun _ _ _ _ _ => (gz_name 7 nd)) (fun _ _ _ _ _ => lz_nil) (fun _ _ _ _ _ tkB => (cz_callB K_number_of (hr.mono (Nat.le_succ_of_le l_number_of)) T.g_number_of tkB (az_cons (pv 7) az_nil)))) (gz_lst rfl (pgs_cons (gz_name 2 nd) (pgs_cons (gz_name 3 nd) (pgs_cons (gz_name 4 nd) pgs_nil)))))
    (sz_cons (sz_tryAsX 6 rfl rfl nd ⟨by rfl, by decide, .inl T.e_NotAllowed.m⟩ tkL (fun _ _ _ _ _ h => h) (fun W1 _ _ tk1 po1 => (sz_one (sz_set 5 nd (cz_make T.mk_Record K_Record___init__ (hr.mono (Nat.succ_le_succ l_Record___init__)) T.g_Record tk1 (az_cons (pv 2) (az_cons (pv 3) (az_cons (pv 4) (az_cons (pz_ix (pv 1) pc_int) (az_cons (pz_sl (pv 1) (oz_pt pc_int) oz_no) (az_cons (pz_cmp (oz_eq hr.units) (pz_ix (pv 1) pc_int) pc_str) az_nil)))))))))) (fun a1 _ c1 _ _ hh1 => (sz_one (sz_raiseF 6 hh1 takes_suiteW T.e_BadForm T.e_NotAllowed))))
    (sz_one (sz_ret (pv 5)))))))

abbrev s_law_stream : Stmt := (topS 26)
theorem sc__law_stream : FnScope N__law_stream ["_law_script"] (defScope s_law_stream) := ⟨rfl, rfl, rfl, by decide +kernel, rfl, by decide +kernel, by decide +kernel⟩
theorem ok__law_stream {P : Program} {w : World} {K : PySem.W.Frag} {mg : Str → Option Value} {base : Heap} {k : Nat} {fd : FuncData} {sp : Sp} (T : Tx K mg) (F : FunD K "_law_stream" "_law_stream" (defArgs s_law_stream) (defBody s_law_stream) (defScope s_law_stream) [] [] (He.fAd K ("_law_stream", none)) fd)
       (len : ∀ vs H Q E, sp vs H Q E → vs.length = 1)
    (pure : ∀ vs H Q E, WF H → sp vs H Q E → t__law_stream K w (W0 H E)  { nx := fun _ H' => RQ H Q .non H', rt := RQ H Q } (L2.start N__law_stream vs) H) : Kn P w K mg base (k + 1) (He.fAd K ("_law_stream", none)) ["_law_script"] sp := by
  refine ⟨⟨fd, okZ F sc__law_stream len (fun cdv A outer s H vs Q E hr wf h => ⟨_, ?_, pure vs H Q E wf h⟩), F.bindsN fun _ _ _ _ _ _ us hl => match us, hl with | [_], _ => rfl⟩, F.kp⟩
  have nd : (N__law_stream).Nodup := sc__law_stream.nd
  have tk : L2N.Takes (cxOf (L2N.CX P w) P w K mg base N__law_stream "_law_stream" (defScope s_law_stream) (He.fAd K ("_law_stream", none)) cdv A outer s H (RE H E)) (W0 H E) := L2N.takes_of rfl rfl rfl rfl
  exact (sz_cons (sz_set 1 nd (pz_lst az_nil))
    (sz_cons (sz_for (passes_of rfl) rfl (wz_list (pz_slK (pv 0) oz_no (oz_pt pc_int))) (gz_name 2 nd) (sz_cons (sz_set 3 nd (cz_t bz_int T.n_int (by decide +kernel) (az_cons (pv 2) az_nil)))
    (sz_one (sz_if (pq_cmp oz_ge (pv 3) (pz_op oz_pow pc_int pc_int)) (sz_one (sz_for (passes_of rfl) rfl (wz_range1 T.n_range (az_cons pc_int az_nil)) (gz_name 4 nd) (sz_cons (sz_expr (mz_l PySem.F.slot_list_append PySem.F.type_list_append tz_append (pv 1) (az_cons (pz_op oz_mod (cz_t bz_int T.n_int (by decide +kernel) (az_cons (pv 3) az_nil)) pc_int) az_nil)))
    (sz_cons (sz_set 3 nd (pz_op oz_fdv (pv 3) pc_int))
    (sz_one (sz_if (pq_cmp (oz_eq hr.units) (pv 3) pc_int) (sz_one sz_break) sz_nil)))))) (sz_cons (sz_set 5 nd (pz_op oz_mod (cz_t bz_int T.n_int (by decide +kernel) (az_cons (pv 3) az_nil)) pc_int))
    (sz_one (sz_for (passes_of rfl) rfl (wz_range1 T.n_range (az_cons pc_int az_nil)) (gz_name 4 nd) (sz_cons (sz_set 5 nd (pz_op oz_mod (cz_t bz_int T.n_int (by decide +kernel) (az_cons (pz_op oz_add (pz_op oz_add (pz_op oz_mul (pv 5) pc_int) (pz_op oz_mul pc_int (pv 4))) pc_int) az_nil)) pc_int))
    (sz_one (sz_expr (mz_l PySem.F.slot_list_append PySem.F.type_list_append tz_append (pv 1) (az_cons (pz_op oz_mod (pz_op oz_mod (cz_t bz_int T.n_int (by decide +kernel) (az_cons (pz_op oz_add (pz_op oz_mul (pv 5) pc_int) (pv 4)) az_nil)) pc_int) pc_int) az_nil))))))))))))
    (sz_cons (sz_if (pq_cmp (oz_eq hr.units) (cz_b bz_len T.n_len (by decide +kernel) (az_cons (pv 1) az_nil)) pc_int) (sz_one (sz_expr (mz_l PySem.F.slot_list_append PySem.F.type_list_append tz_append (pv 1) (az_cons pc_int az_nil)))) sz_nil)
    (sz_one (sz_ret (pv 1))))))

abbrev s_law_pick : Stmt := (topS 27)
theorem sc__law_pick : FnScope N__law_pick ["_law_numbers", "_law_at", "_law_many"] (defScope s_law_pick) := ⟨rfl, rfl, rfl, by decide +kernel, rfl, by decide +kernel, by decide +kernel⟩
theorem ok__law_pick {P : Program} {w : World} {K : PySem.W.Frag} {mg : Str → Option Value} {base : Heap} {k : Nat} {fd : FuncData} {sp : Sp} (T : Tx K mg) (F : FunD K "_law_pick" "_law_pick" (defArgs s_law_pick) (defBody s_law_pick) (defScope s_law_pick) [] [] (He.fAd K ("_law_pick", none)) fd)
       (len : ∀ vs H Q E, sp vs H Q E → vs.length = 3)
    (pure : ∀ vs H Q E, WF H → sp vs H Q E → t__law_pick K w (W0 H E)  { nx := fun _ H' => RQ H Q .non H', rt := RQ H Q } (L2.start N__law_pick vs) H) : Kn P w K mg base (k + 1) (He.fAd K ("_law_pick", none)) ["_law_numbers", "_law_at", "_law_many"] sp := by
  refine ⟨⟨fd, okZ F sc__law_pick len (fun cdv A outer s H vs Q E hr wf h => ⟨_, ?_, pure vs H Q E wf h⟩), F.bindsN fun _ _ _ _ _ _ us hl => match us, hl with | [_, _, _], _ => rfl⟩, F.kp⟩
  have nd : (N__law_pick).Nodup := sc__law_pick.nd
  have tk : L2N.Takes (cxOf (L2N.CX P w) P w K mg base N__law_pick "_law_pick" (defScope s_law_pick) (He.fAd K ("_law_pick", none)) cdv A outer s H (RE H E)) (W0 H E) := L2N.takes_of rfl rfl rfl rfl
  exact (sz_one (sz_ret (pz_op oz_mod (cz_t bz_int T.n_int (by decide +kernel) (az_cons (pz_ix (pv 0) (pz_op oz_mod (pv 1) (cz_b bz_len T.n_len (by decide +kernel) (az_cons (pv 0) az_nil)))) az_nil)) (pv 2))))

abbrev s_law_signs : Stmt := (topS 28)
theorem sc__law_signs : FnScope N__law_signs [] (defScope s_law_signs) := ⟨rfl, rfl, rfl, by decide +kernel, rfl, by decide +kernel, by decide +kernel⟩
theorem ok__law_signs {P : Program} {w : World} {K : PySem.W.Frag} {mg : Str → Option Value} {base : Heap} {k : Nat} {fd : FuncData} {sp : Sp} (T : Tx K mg) (F : FunD K "_law_signs" "_law_signs" (defArgs s_law_signs) (defBody s_law_signs) (defScope s_law_signs) [] [] (He.fAd K ("_law_signs", none)) fd)
       (len : ∀ vs H Q E, sp vs H Q E → vs.length = 0)
    (pure : ∀ vs H Q E, WF H → sp vs H Q E → t__law_signs K w (W0 H E)  { nx := fun _ H' => RQ H Q .non H', rt := RQ H Q } (L2.start N__law_signs vs) H) : Kn P w K mg base (k + 1) (He.fAd K ("_law_signs", none)) [] sp := by
  refine ⟨⟨fd, okZ F sc__law_signs len (fun cdv A outer s H vs Q E hr wf h => ⟨_, ?_, pure vs H Q E wf h⟩), F.bindsN fun _ _ _ _ _ _ us hl => match us, hl with | [], _ => rfl⟩, F.kp⟩
  have nd : (N__law_signs).Nodup := sc__law_signs.nd
  have tk : L2N.Takes (cxOf (L2N.CX P w) P w K mg base N__law_signs "_law_signs" (defScope s_law_signs) (He.fAd K ("_law_signs", none)) cdv A outer s H (RE H E)) (W0 H E) := L2N.takes_of rfl rfl rfl rfl
  exact (sz_cons (sz_set 0 nd pc_str)
    (sz_one (sz_ret (pz_op oz_add (pv 0) pc_str))))

abbrev s_law_text : Stmt := (topS 29)
theorem sc__law_text : FnScope N__law_text ["_law_numbers", "_law_at", "_law_size", "_law_wide"] (defScope s_law_text) := ⟨rfl, rfl, rfl, by decide +kernel, rfl, by decide +kernel, by decide +kernel⟩
theorem ok__law_text {P : Program} {w : World} {K : PySem.W.Frag} {mg : Str → Option Value} {base : Heap} {k : Nat} {fd : FuncData} {sp : Sp} (T : Tx K mg) (F : FunD K "_law_text" "_law_text" (defArgs s_law_text) (defBody s_law_text) (defScope s_law_text) [] [] (He.fAd K ("_law_text", none)) fd)
    {s__law_signs : Sp} {s__law_pick : Sp} {k__law_signs : Nat} (K__law_signs : Kn P w K mg base k__law_signs (He.fAd K ("_law_signs", none)) [] s__law_signs) (l__law_signs : k__law_signs ≤ k) {k__law_pick : Nat} (K__law_pick : Kn P w K mg base k__law_pick (He.fAd K ("_law_pick", none)) ["_law_numbers", "_law_at", "_law_many"] s__law_pick) (l__law_pick : k__law_pick ≤ k)  (len : ∀ vs H Q E, sp vs H Q E → vs.length = 4)
    (pure : ∀ vs H Q E, WF H → sp vs H Q E → t__law_text K w (W0 H E) s__law_signs s__law_pick { nx := fun _ H' => RQ H Q .non H', rt := RQ H Q } (L2.start N__law_text vs) H) : Kn P w K mg base (k + 1) (He.fAd K ("_law_text", none)) ["_law_numbers", "_law_at", "_law_size", "_law_wide"] sp := by
  refine ⟨⟨fd, okZ F sc__law_text len (fun cdv A outer s H vs Q E hr wf h => ⟨_, ?_, pure vs H Q E wf h⟩), F.bindsN fun _ _ _ _ _ _ us hl => match us, hl with | [_, _, _, _], _ => rfl⟩, F.kp⟩
  have nd : (N__law_text).Nodup := sc__law_text.nd
  have tk : L2N.Takes (cxOf (L2N.CX P w) P w K mg base N__law_text "_law_text" (defScope s_law_text) (He.fAd K ("_law_text", none)) cdv A outer s H (RE H E)) (W0 H E) := L2N.takes_of rfl rfl rfl rfl
  exact (sz_cons (sz_set 4 nd pc_str)
    (sz_cons (sz_if (pq_val (pv 3)) (sz_one (sz_set 4 nd (cz_call0 K__law_signs (hr.mono l__law_signs) T.g__law_signs tk))) sz_nil)
    (sz_one (sz_ret (mz_s PySem.F.slot_str_join PySem.F.type_str_join tz_join pc_str (az_cons (pz_lc [("_law_k", 5)] rfl nd (wz_range1 T.n_range (az_cons (pv 2) az_nil)) (blkOk_by (N := N__law_text) (sc := defScope s_law_text) (by decide +kernel)) (fun _ _ _ _ _ => (gz_name 5 nd)) (fun _ _ _ _ _ => lz_nil) (fun _ _ _ _ _ => (pz_ix (pv 4) (cz_call K__law_pick (hr.mono l__law_pick) T.g__law_pick tk_no (az_cons (pv 0) (az_cons (pz_op oz_add (pv 1) (pv 5)) (az_cons (cz_b bz_len T.n_len (by decide +kernel) (az_cons (pv 4) az_nil)) az_nil))))))) az_nil))))))

abbrev s_law_is_name : Stmt := (topS 30)
theorem sc__law_is_name : FnScope N__law_is_name ["_law_text_here"] (defScope s_law_is_name) := ⟨rfl, rfl, rfl, by decide +kernel, rfl, by decide +kernel, by decide +kernel⟩
theorem ok__law_is_name {P : Program} {w : World} {K : PySem.W.Frag} {mg : Str → Option Value} {base : Heap} {k : Nat} {fd : FuncData} {sp : Sp} (T : Tx K mg) (F : FunD K "_law_is_name" "_law_is_name" (defArgs s_law_is_name) (defBody s_law_is_name) (defScope s_law_is_name) [] [] (He.fAd K ("_law_is_name", none)) fd)
       (len : ∀ vs H Q E, sp vs H Q E → vs.length = 1)
    (pure : ∀ vs H Q E, WF H → sp vs H Q E → t__law_is_name K w (W0 H E)  { nx := fun _ H' => RQ H Q .non H', rt := RQ H Q } (L2.start N__law_is_name vs) H) : Kn P w K mg base (k + 1) (He.fAd K ("_law_is_name", none)) ["_law_text_here"] sp := by
  refine ⟨⟨fd, okZ F sc__law_is_name len (fun cdv A outer s H vs Q E hr wf h => ⟨_, ?_, pure vs H Q E wf h⟩), F.bindsN fun _ _ _ _ _ _ us hl => match us, hl with | [_], _ => rfl⟩, F.kp⟩
  have nd : (N__law_is_name).Nodup := sc__law_is_name.nd
  have tk : L2N.Takes (cxOf (L2N.CX P w) P w K mg base N__law_is_name "_law_is_name" (defScope s_law_is_name) (He.fAd K ("_law_is_name", none)) cdv A outer s H (RE H E)) (W0 H E) := L2N.takes_of rfl rfl rfl rfl
  exact (sz_cons (sz_set 1 nd (pz_chain oz_le oz_le pc_int (cz_b bz_len T.n_len (by decide +kernel) (az_cons (pv 0) az_nil)) pc_int))
    (sz_cons (sz_for (passes_of rfl) rfl (wz_str (pv 0)) (gz_name 2 nd) (sz_one (sz_set 1 nd (pz_and (pv 1) (pe_one (pz_cmp oz_ge (mz_s PySem.F.slot_str_find PySem.F.type_str_find tz_find pc_str (az_cons (pv 2) az_nil)) pc_int))))))
    (sz_one (sz_ret (pv 1)))))

theorem okH__law_is_name {P : Program} {w : World} {K : PySem.W.Frag} {mg : Str → Option Value} {base : Heap} {k : Nat} {fd : FuncData} {sp : Sp} (T : Tx K mg) (F : FunD K "_law_is_name" "_law_is_name" (defArgs s_law_is_name) (defBody s_law_is_name) (defScope s_law_is_name) [] [] (He.fAd K ("_law_is_name", none)) fd)
       (len : ∀ vs H Q E, sp vs H Q E → vs.length = 1)
    (pure : ∀ vs H Q E, WF H → sp vs H Q E → t__law_is_name K w (W0 H E)  { nx := fun _ H' => RQ H Q .non H', rt := RQ H Q } (L2.start N__law_is_name vs) H) : KnH P w K mg base (k + 1) (He.fAd K ("_law_is_name", none)) ["_law_text_here"] sp := by
  refine ⟨⟨fd, okZH F sc__law_is_name len (fun cdv A outer s H vs Q E p hot hr wf h => ⟨_, ?_, pure vs H Q E wf h⟩), F.bindsN fun _ _ _ _ _ _ us hl => match us, hl with | [_], _ => rfl⟩, F.kp⟩
  have nd : (N__law_is_name).Nodup := sc__law_is_name.nd
  have tk : L2N.Takes (cxH (L2N.CX P w) P w K mg base N__law_is_name "_law_is_name" (defScope s_law_is_name) (He.fAd K ("_law_is_name", none)) cdv A outer s H (RE H E) p) (W0 H E) := L2N.takes_of rfl rfl rfl rfl
  exact (sz_cons (sz_set 1 nd (pz_chain oz_le oz_le pc_int (cz_b bz_len T.n_len (by decide +kernel) (az_cons (pv 0) az_nil)) pc_int))
    (sz_cons (sz_forH (passes_of rfl) (hot_cxH hot) (wz_strH (pv 0)) (gz_name 2 nd) (sz_one (sz_set 1 nd (pz_and (pv 1) (pe_one (pz_cmp oz_ge (mz_s PySem.F.slot_str_find PySem.F.type_str_find tz_find pc_str (az_cons (pv 2) az_nil)) pc_int))))))
    (sz_one (sz_ret (pv 1)))))

abbrev s_law_number : Stmt := (topS 31)
theorem sc__law_number : FnScope N__law_number ["_law_text_here"] (defScope s_law_number) := ⟨rfl, rfl, rfl, by decide +kernel, rfl, by decide +kernel, by decide +kernel⟩
theorem ok__law_number {P : Program} {w : World} {K : PySem.W.Frag} {mg : Str → Option Value} {base : Heap} {k : Nat} {fd : FuncData} {sp : Sp} (T : Tx K mg) (F : FunD K "_law_number" "_law_number" (defArgs s_law_number) (defBody s_law_number) (defScope s_law_number) [] [] (He.fAd K ("_law_number", none)) fd)
       (len : ∀ vs H Q E, sp vs H Q E → vs.length = 1)
    (pure : ∀ vs H Q E, WF H → sp vs H Q E → t__law_number K w (W0 H E)  { nx := fun _ H' => RQ H Q .non H', rt := RQ H Q } (L2.start N__law_number vs) H) : Kn P w K mg base (k + 1) (He.fAd K ("_law_number", none)) ["_law_text_here"] sp := by
  refine ⟨⟨fd, okZ F sc__law_number len (fun cdv A outer s H vs Q E hr wf h => ⟨_, ?_, pure vs H Q E wf h⟩), F.bindsN fun _ _ _ _ _ _ us hl => match us, hl with | [_], _ => rfl⟩, F.kp⟩
  have nd : (N__law_number).Nodup := sc__law_number.nd
  have tk : L2N.Takes (cxOf (L2N.CX P w) P w K mg base N__law_number "_law_number" (defScope s_law_number) (He.fAd K ("_law_number", none)) cdv A outer s H (RE H E)) (W0 H E) := L2N.takes_of rfl rfl rfl rfl
  exact (sz_cons (sz_if (PW.pt (pqw_or (pq_cmp oz_lt (cz_b bz_len T.n_len (by decide +kernel) (az_cons (pv 0) az_nil)) pc_int) (pqw_or (pq_cmp oz_gt (cz_b bz_len T.n_len (by decide +kernel) (az_cons (pv 0) az_nil)) pc_int) (pqw_or1 (PW.pt (pqw_and (pq_cmp oz_gt (cz_b bz_len T.n_len (by decide +kernel) (az_cons (pv 0) az_nil)) pc_int) (pqw_and1 (pq_cmp (oz_eq hr.units) (pz_ix (pv 0) pc_int) pc_str)))))))) (sz_one (sz_ret pc_non)) sz_nil)
    (sz_cons (sz_set 1 nd pc_int)
    (sz_cons (sz_for (passes_of rfl) rfl (wz_str (pv 0)) (gz_name 2 nd) (sz_cons (sz_set 3 nd (mz_s PySem.F.slot_str_find PySem.F.type_str_find tz_find pc_str (az_cons (pv 2) az_nil)))
    (sz_cons (sz_if (pq_cmp oz_lt (pv 3) pc_int) (sz_one (sz_ret pc_non)) sz_nil)
    (sz_one (sz_set 1 nd (pz_op oz_add (pz_op oz_mul (pv 1) pc_int) (pv 3)))))))
    (sz_one (sz_ret (pv 1))))))

abbrev s_law_parts : Stmt := (topS 32)
theorem sc__law_parts : FnScope N__law_parts ["_law_text_here"] (defScope s_law_parts) := ⟨rfl, rfl, rfl, by decide +kernel, rfl, by decide +kernel, by decide +kernel⟩
theorem ok__law_parts {P : Program} {w : World} {K : PySem.W.Frag} {mg : Str → Option Value} {base : Heap} {k : Nat} {fd : FuncData} {sp : Sp} (T : Tx K mg) (F : FunD K "_law_parts" "_law_parts" (defArgs s_law_parts) (defBody s_law_parts) (defScope s_law_parts) [] [] (He.fAd K ("_law_parts", none)) fd)
    {s__law_number : Sp} {k__law_number : Nat} (K__law_number : Kn P w K mg base k__law_number (He.fAd K ("_law_number", none)) ["_law_text_here"] s__law_number) (l__law_number : k__law_number ≤ k)  (len : ∀ vs H Q E, sp vs H Q E → vs.length = 1)
    (pure : ∀ vs H Q E, WF H → sp vs H Q E → t__law_parts K w (W0 H E) s__law_number { nx := fun _ H' => RQ H Q .non H', rt := RQ H Q } (L2.start N__law_parts vs) H) : Kn P w K mg base (k + 1) (He.fAd K ("_law_parts", none)) ["_law_text_here"] sp := by
  refine ⟨⟨fd, okZ F sc__law_parts len (fun cdv A outer s H vs Q E hr wf h => ⟨_, ?_, pure vs H Q E wf h⟩), F.bindsN fun _ _ _ _ _ _ us hl => match us, hl with | [_], _ => rfl⟩, F.kp⟩
  have nd : (N__law_parts).Nodup := sc__law_parts.nd
  have tk : L2N.Takes (cxOf (L2N.CX P w) P w K mg base N__law_parts "_law_parts" (defScope s_law_parts) (He.fAd K ("_law_parts", none)) cdv A outer s H (RE H E)) (W0 H E) := L2N.takes_of rfl rfl rfl rfl
  exact (sz_cons (sz_set 1 nd (pz_lst az_nil))
    (sz_cons (sz_set 2 nd pc_int)
    (sz_cons (sz_for (passes_of rfl) rfl (wz_range1 T.n_range (az_cons pc_int az_nil)) (gz_name 3 nd) (sz_cons (sz_if (pq_cmp (oz_eq hr.units) (pv 2) (cz_b bz_len T.n_len (by decide +kernel) (az_cons (pv 0) az_nil))) (sz_one (sz_ret (pv 1))) sz_nil)
    (sz_cons (sz_set 4 nd (mz_s PySem.F.slot_str_find PySem.F.type_str_find tz_find (pv 0) (az_cons pc_str (az_cons (pv 2) az_nil))))
    (sz_cons (sz_if (pq_cmp oz_lt (pv 4) pc_int) (sz_one (sz_ret pc_non)) sz_nil)
    (sz_cons (sz_set 5 nd (cz_call K__law_number (hr.mono l__law_number) T.g__law_number tk (az_cons (pz_sl (pv 0) (oz_pt (pv 2)) (oz_pt (pv 4))) az_nil)))
    (sz_cons (sz_if (PW.pt (pqw_or (pq_cmp oz_is (pv 5) pc_non) (pqw_or1 (pq_cmp oz_gt (pz_op oz_add (pz_op oz_add (pv 4) pc_int) (pv 5)) (cz_b bz_len T.n_len (by decide +kernel) (az_cons (pv 0) az_nil)))))) (sz_one (sz_ret pc_non)) sz_nil)
    (sz_cons (sz_expr (mz_l PySem.F.slot_list_append PySem.F.type_list_append tz_append (pv 1) (az_cons (pz_sl (pv 0) (oz_pt (pz_op oz_add (pv 4) pc_int)) (oz_pt (pz_op oz_add (pz_op oz_add (pv 4) pc_int) (pv 5)))) az_nil)))
    (sz_one (sz_set 2 nd (pz_op oz_add (pz_op oz_add (pv 4) pc_int) (pv 5)))))))))))
    (sz_one (sz_ret pc_non)))))

abbrev s_law_good : Stmt := (topS 33)
theorem sc__law_good : FnScope N__law_good ["_law_row_here"] (defScope s_law_good) := ⟨rfl, rfl, rfl, by decide +kernel, rfl, by decide +kernel, by decide +kernel⟩
theorem ok__law_good {P : Program} {w : World} {K : PySem.W.Frag} {mg : Str → Option Value} {base : Heap} {k : Nat} {fd : FuncData} {sp : Sp} (T : Tx K mg) (F : FunD K "_law_good" "_law_good" (defArgs s_law_good) (defBody s_law_good) (defScope s_law_good) [] [] (He.fAd K ("_law_good", none)) fd)
    {s__law_is_name : Sp} {k__law_is_name : Nat} (K__law_is_name : Kn P w K mg base k__law_is_name (He.fAd K ("_law_is_name", none)) ["_law_text_here"] s__law_is_name) (l__law_is_name : k__law_is_name ≤ k)  (len : ∀ vs H Q E, sp vs H Q E → vs.length = 1)
    (pure : ∀ vs H Q E, WF H → sp vs H Q E → t__law_good K w (W0 H E) s__law_is_name { nx := fun _ H' => RQ H Q .non H', rt := RQ H Q } (L2.start N__law_good vs) H) : Kn P w K mg base (k + 1) (He.fAd K ("_law_good", none)) ["_law_row_here"] sp := by
  refine ⟨⟨fd, okZ F sc__law_good len (fun cdv A outer s H vs Q E hr wf h => ⟨_, ?_, pure vs H Q E wf h⟩), F.bindsN fun _ _ _ _ _ _ us hl => match us, hl with | [_], _ => rfl⟩, F.kp⟩
  have nd : (N__law_good).Nodup := sc__law_good.nd
  have tk : L2N.Takes (cxOf (L2N.CX P w) P w K mg base N__law_good "_law_good" (defScope s_law_good) (He.fAd K ("_law_good", none)) cdv A outer s H (RE H E)) (W0 H E) := L2N.takes_of rfl rfl rfl rfl
  exact (sz_cons (sz_if (PW.pt (pqw_or (pq_not (pq_chain oz_le oz_le pc_int (pz_ix (pv 0) pc_int) pc_int)) (pqw_or (pq_not (pq_chain oz_le oz_le pc_int (pz_ix (pv 0) pc_int) pc_int)) (pqw_or1 (pq_not (pq_chain oz_le oz_le pc_int (pz_ix (pv 0) pc_int) pc_int)))))) (sz_one (sz_ret pc_bl)) sz_nil)
    (sz_cons (sz_if (PW.pt (pqw_or (pq_cmp oz_gt (cz_b bz_len T.n_len (by decide +kernel) (az_cons (pz_ix (pv 0) pc_int) az_nil)) pc_int) (pqw_or (pq_cmp oz_ge (mz_s PySem.F.slot_str_find PySem.F.type_str_find tz_find (pz_ix (pv 0) pc_int) (az_cons pc_str az_nil)) pc_int) (pqw_or1 (pq_cmp oz_gt (cz_b bz_len T.n_len (by decide +kernel) (az_cons (pz_ix (pv 0) pc_int) az_nil)) pc_int))))) (sz_one (sz_ret pc_bl)) sz_nil)
    (sz_cons (sz_for (passes_of rfl) rfl (wz_list (pz_ix (pv 0) pc_int)) (gz_name 1 nd) (sz_one (sz_if (pq_not (pq_val (cz_call K__law_is_name (hr.mono l__law_is_name) T.g__law_is_name tk (az_cons (pv 1) az_nil)))) (sz_one (sz_ret pc_bl)) sz_nil)))
    (sz_cons (sz_if (PW.pt (pqw_and (pq_cmp (oz_eq hr.units) (cz_b bz_len T.n_len (by decide +kernel) (az_cons (pz_ix (pv 0) pc_int) az_nil)) pc_int) (pqw_and1 (pq_cmp oz_ge (pz_ix (pz_ix (pv 0) pc_int) pc_int) (pz_ix (pz_ix (pv 0) pc_int) pc_int))))) (sz_one (sz_ret pc_bl)) sz_nil)
    (sz_one (sz_ret (pz_or (pz_cmp oz_gt (cz_b bz_len T.n_len (by decide +kernel) (az_cons (pz_ix (pv 0) pc_int) az_nil)) pc_int) (pe_one (pz_not (pz_ix (pv 0) pc_int))))))))))

theorem okH__law_good {P : Program} {w : World} {K : PySem.W.Frag} {mg : Str → Option Value} {base : Heap} {k : Nat} {fd : FuncData} {sp : Sp} (T : Tx K mg) (F : FunD K "_law_good" "_law_good" (defArgs s_law_good) (defBody s_law_good) (defScope s_law_good) [] [] (He.fAd K ("_law_good", none)) fd)
    {s__law_is_name : Sp}  {kh__law_is_name : Nat} (KH__law_is_name : KnH P w K mg base kh__law_is_name (He.fAd K ("_law_is_name", none)) ["_law_text_here"] s__law_is_name) (lh__law_is_name : kh__law_is_name ≤ k) (len : ∀ vs H Q E, sp vs H Q E → vs.length = 1)
    (pure : ∀ vs H Q E, WF H → sp vs H Q E → t__law_good K w (W0 H E) s__law_is_name { nx := fun _ H' => RQ H Q .non H', rt := RQ H Q } (L2.start N__law_good vs) H) : KnH P w K mg base (k + 1) (He.fAd K ("_law_good", none)) ["_law_row_here"] sp := by
  refine ⟨⟨fd, okZH F sc__law_good len (fun cdv A outer s H vs Q E p hot hr wf h => ⟨_, ?_, pure vs H Q E wf h⟩), F.bindsN fun _ _ _ _ _ _ us hl => match us, hl with | [_], _ => rfl⟩, F.kp⟩
  have nd : (N__law_good).Nodup := sc__law_good.nd
  have tk : L2N.Takes (cxH (L2N.CX P w) P w K mg base N__law_good "_law_good" (defScope s_law_good) (He.fAd K ("_law_good", none)) cdv A outer s H (RE H E) p) (W0 H E) := L2N.takes_of rfl rfl rfl rfl
  exact (sz_cons (sz_if (PW.pt (pqw_or (pq_not (pq_chain oz_le oz_le pc_int (pz_ix (pv 0) pc_int) pc_int)) (pqw_or (pq_not (pq_chain oz_le oz_le pc_int (pz_ix (pv 0) pc_int) pc_int)) (pqw_or1 (pq_not (pq_chain oz_le oz_le pc_int (pz_ix (pv 0) pc_int) pc_int)))))) (sz_one (sz_ret pc_bl)) sz_nil)
    (sz_cons (sz_if (PW.pt (pqw_or (pq_cmp oz_gt (cz_b bz_len T.n_len (by decide +kernel) (az_cons (pz_ix (pv 0) pc_int) az_nil)) pc_int) (pqw_or (pq_cmp oz_ge (mz_s PySem.F.slot_str_find PySem.F.type_str_find tz_find (pz_ix (pv 0) pc_int) (az_cons pc_str az_nil)) pc_int) (pqw_or1 (pq_cmp oz_gt (cz_b bz_len T.n_len (by decide +kernel) (az_cons (pz_ix (pv 0) pc_int) az_nil)) pc_int))))) (sz_one (sz_ret pc_bl)) sz_nil)
    (sz_cons (sz_forH (passes_of rfl) (hot_cxH hot) (wz_listH (pz_ix (pv 0) pc_int)) (gz_name 1 nd) (sz_one (sz_if (pq_not (pq_val (cz_callH KH__law_is_name (RoomH.mono hr lh__law_is_name) (hot_cxH hot) T.g__law_is_name tk (az_cons (pv 1) az_nil)))) (sz_one (sz_ret pc_bl)) sz_nil)))
    (sz_cons (sz_if (PW.pt (pqw_and (pq_cmp (oz_eq (hr).units) (cz_b bz_len T.n_len (by decide +kernel) (az_cons (pz_ix (pv 0) pc_int) az_nil)) pc_int) (pqw_and1 (pq_cmp oz_ge (pz_ix (pz_ix (pv 0) pc_int) pc_int) (pz_ix (pz_ix (pv 0) pc_int) pc_int))))) (sz_one (sz_ret pc_bl)) sz_nil)
    (sz_one (sz_ret (pz_or (pz_cmp oz_gt (cz_b bz_len T.n_len (by decide +kernel) (az_cons (pz_ix (pv 0) pc_int) az_nil)) pc_int) (pe_one (pz_not (pz_ix (pv 0) pc_int))))))))))

abbrev s_law_value : Stmt := (topS 34)
theorem sc__law_value : FnScope N__law_value ["_law_row_here"] (defScope s_law_value) := ⟨rfl, rfl, rfl, by decide +kernel, rfl, by decide +kernel, by decide +kernel⟩
theorem ok__law_value {P : Program} {w : World} {K : PySem.W.Frag} {mg : Str → Option Value} {base : Heap} {k : Nat} {fd : FuncData} {sp : Sp} (T : Tx K mg) (F : FunD K "_law_value" "_law_value" (defArgs s_law_value) (defBody s_law_value) (defScope s_law_value) [] [] (He.fAd K ("_law_value", none)) fd)
       (len : ∀ vs H Q E, sp vs H Q E → vs.length = 1)
    (pure : ∀ vs H Q E, WF H → sp vs H Q E → t__law_value K w (W0 H E)  { nx := fun _ H' => RQ H Q .non H', rt := RQ H Q } (L2.start N__law_value vs) H) : Kn P w K mg base (k + 1) (He.fAd K ("_law_value", none)) ["_law_row_here"] sp := by
  refine ⟨⟨fd, okZ F sc__law_value len (fun cdv A outer s H vs Q E hr wf h => ⟨_, ?_, pure vs H Q E wf h⟩), F.bindsN fun _ _ _ _ _ _ us hl => match us, hl with | [_], _ => rfl⟩, F.kp⟩
  have nd : (N__law_value).Nodup := sc__law_value.nd
  have tk : L2N.Takes (cxOf (L2N.CX P w) P w K mg base N__law_value "_law_value" (defScope s_law_value) (He.fAd K ("_law_value", none)) cdv A outer s H (RE H E)) (W0 H E) := L2N.takes_of rfl rfl rfl rfl
  exact (sz_cons (sz_set 1 nd (pz_op oz_add (pz_lst (az_cons (cz_t bz_str T.n_str (by decide +kernel) (az_cons (pz_ix (pv 0) pc_int) az_nil)) (az_cons (cz_t bz_str T.n_str (by decide +kernel) (az_cons (pz_ix (pv 0) pc_int) az_nil)) (az_cons (cz_t bz_str T.n_str (by decide +kernel) (az_cons (pz_ix (pv 0) pc_int) az_nil)) (az_cons (cz_t bz_str T.n_str (by decide +kernel) (az_cons (cz_t bz_int T.n_int (by decide +kernel) (az_cons (pz_ix (pv 0) pc_int) az_nil)) az_nil)) (az_cons (pz_ix (pv 0) pc_int) az_nil)))))) (pz_ix (pv 0) pc_int)))
    (sz_one (sz_ret (mz_s PySem.F.slot_str_join PySem.F.type_str_join tz_join pc_str (az_cons (pz_lc [("_law_part", 2)] rfl nd (wz_list (pv 1)) (blkOk_by (N := N__law_value) (sc := defScope s_law_value) (by decide +kernel)) (fun _ _ _ _ _ => (gz_name 2 nd)) (fun _ _ _ _ _ => lz_nil) (fun _ _ _ _ _ => (pz_op oz_add (pz_op oz_add (cz_t bz_str T.n_str (by decide +kernel) (az_cons (cz_b bz_len T.n_len (by decide +kernel) (az_cons (pv 2) az_nil)) az_nil)) pc_str) (pv 2)))) az_nil)))))

abbrev s_law_row : Stmt := (topS 35)
theorem sc__law_row : FnScope N__law_row ["_law_text_here"] (defScope s_law_row) := ⟨rfl, rfl, rfl, by decide +kernel, rfl, by decide +kernel, by decide +kernel⟩
theorem ok__law_row {P : Program} {w : World} {K : PySem.W.Frag} {mg : Str → Option Value} {base : Heap} {k : Nat} {fd : FuncData} {sp : Sp} (T : Tx K mg) (F : FunD K "_law_row" "_law_row" (defArgs s_law_row) (defBody s_law_row) (defScope s_law_row) [] [] (He.fAd K ("_law_row", none)) fd)
    {s__law_parts : Sp} {s__law_number : Sp} {s__law_good : Sp} {k__law_parts : Nat} (K__law_parts : Kn P w K mg base k__law_parts (He.fAd K ("_law_parts", none)) ["_law_text_here"] s__law_parts) (l__law_parts : k__law_parts ≤ k) {k__law_number : Nat} (K__law_number : Kn P w K mg base k__law_number (He.fAd K ("_law_number", none)) ["_law_text_here"] s__law_number) (l__law_number : k__law_number ≤ k) {k__law_good : Nat} (K__law_good : Kn P w K mg base k__law_good (He.fAd K ("_law_good", none)) ["_law_row_here"] s__law_good) (l__law_good : k__law_good ≤ k)  (len : ∀ vs H Q E, sp vs H Q E → vs.length = 1)
    (pure : ∀ vs H Q E, WF H → sp vs H Q E → t__law_row K w (W0 H E) s__law_parts s__law_number s__law_good { nx := fun _ H' => RQ H Q .non H', rt := RQ H Q } (L2.start N__law_row vs) H) : Kn P w K mg base (k + 1) (He.fAd K ("_law_row", none)) ["_law_text_here"] sp := by
  refine ⟨⟨fd, okZ F sc__law_row len (fun cdv A outer s H vs Q E hr wf h => ⟨_, ?_, pure vs H Q E wf h⟩), F.bindsN fun _ _ _ _ _ _ us hl => match us, hl with | [_], _ => rfl⟩, F.kp⟩
  have nd : (N__law_row).Nodup := sc__law_row.nd
  have tk : L2N.Takes (cxOf (L2N.CX P w) P w K mg base N__law_row "_law_row" (defScope s_law_row) (He.fAd K ("_law_row", none)) cdv A outer s H (RE H E)) (W0 H E) := L2N.takes_of rfl rfl rfl rfl
  exact (sz_cons (sz_set 1 nd (cz_call K__law_parts (hr.mono l__law_parts) T.g__law_parts tk (az_cons (pv 0) az_nil)))
    (sz_cons (sz_if (PW.pt (pqw_or (pq_cmp oz_is (pv 1) pc_non) (pqw_or (pq_cmp oz_lt (cz_b bz_len T.n_len (by decide +kernel) (az_cons (pv 1) az_nil)) pc_int) (pqw_or1 (pq_cmp oz_nin (pz_ix (pv 1) pc_int) (pz_tup (az_cons pc_str (az_cons pc_str az_nil)))))))) (sz_one (sz_ret pc_non)) sz_nil)
    (sz_cons (sz_setLc 2 [("_law_part", 4)] rfl nd (wz_list (pz_sl (pv 1) oz_no (oz_pt pc_int))) (blkOk_by (N := N__law_row) (sc := defScope s_law_row) (by decide +kernel)) (fun _ _ _ _ _ => (gz_name 4 nd)) (fun _ _ _ _ _ => lz_nil) (fun _ _ _ _ _ => (cz_call K__law_number (hr.mono l__law_number) T.g__law_number tk_no (az_cons (pv 4) az_nil))))
    (sz_cons (sz_if (PW.pt (pqw_or (pq_cmp oz_is (pz_ix (pv 2) pc_int) pc_non) (pqw_or (pq_cmp oz_is (pz_ix (pv 2) pc_int) pc_non) (pqw_or1 (pq_cmp oz_is (pz_ix (pv 2) pc_int) pc_non))))) (sz_one (sz_ret pc_non)) sz_nil)
    (sz_cons (sz_set 3 nd (pz_tup (az_cons (pz_ix (pv 2) pc_int) (az_cons (pz_ix (pv 2) pc_int) (az_cons (pz_ix (pv 2) pc_int) (az_cons (pz_ix (pv 1) pc_int) (az_cons (pz_sl (pv 1) (oz_pt pc_int) oz_no) (az_cons (pz_cmp (oz_eq hr.units) (pz_ix (pv 1) pc_int) pc_str) az_nil))))))))
    (sz_cons (sz_if (pq_not (pq_val (cz_call K__law_good (hr.mono l__law_good) T.g__law_good tk (az_cons (pv 3) az_nil)))) (sz_one (sz_ret pc_non)) sz_nil)
    (sz_one (sz_ret (pv 3)))))))))

abbrev s_law_is : Stmt := (topS 36)
theorem sc__law_is : FnScope N__law_is ["_law_record", "_law_row_here"] (defScope s_law_is) := ⟨rfl, rfl, rfl, by decide +kernel, rfl, by decide +kernel, by decide +kernel⟩
theorem ok__law_is {P : Program} {w : World} {K : PySem.W.Frag} {mg : Str → Option Value} {base : Heap} {k : Nat} {fd : FuncData} {sp : Sp} (T : Tx K mg) (F : FunD K "_law_is" "_law_is" (defArgs s_law_is) (defBody s_law_is) (defScope s_law_is) [] [] (He.fAd K ("_law_is", none)) fd)
    {s_record_value : Sp} {s__law_value : Sp} {k_record_value : Nat} (K_record_value : Kn P w K mg base k_record_value (He.fAd K ("record_value", none)) ["record"] s_record_value) (l_record_value : k_record_value ≤ k) {k__law_value : Nat} (K__law_value : Kn P w K mg base k__law_value (He.fAd K ("_law_value", none)) ["_law_row_here"] s__law_value) (l__law_value : k__law_value ≤ k)  (len : ∀ vs H Q E, sp vs H Q E → vs.length = 2)
    (pure : ∀ vs H Q E, WF H → sp vs H Q E → t__law_is K w (W0 H E) s_record_value s__law_value { nx := fun _ H' => RQ H Q .non H', rt := RQ H Q } (L2.start N__law_is vs) H) : Kn P w K mg base (k + 1) (He.fAd K ("_law_is", none)) ["_law_record", "_law_row_here"] sp := by
  refine ⟨⟨fd, okZ F sc__law_is len (fun cdv A outer s H vs Q E hr wf h => ⟨_, ?_, pure vs H Q E wf h⟩), F.bindsN fun _ _ _ _ _ _ us hl => match us, hl with | [_, _], _ => rfl⟩, F.kp⟩
  have nd : (N__law_is).Nodup := sc__law_is.nd
  have tk : L2N.Takes (cxOf (L2N.CX P w) P w K mg base N__law_is "_law_is" (defScope s_law_is) (He.fAd K ("_law_is", none)) cdv A outer s H (RE H E)) (W0 H E) := L2N.takes_of rfl rfl rfl rfl
  exact (sz_cons (sz_if (pq_cmp (oz_ne hr.units) (pz_tup (az_cons (cz_fld (pv 0) T.k_Record T.a_Record_x) (az_cons (cz_fld (pv 0) T.k_Record T.a_Record_y) (az_cons (cz_fld (pv 0) T.k_Record T.a_Record_label) (az_cons (cz_fld (pv 0) T.k_Record T.a_Record_text) az_nil))))) (pz_sl (pv 1) oz_no (oz_pt pc_int))) (sz_one (sz_ret pc_bl)) sz_nil)
    (sz_cons (sz_if (PW.pt (pqw_or (pq_not (pq_val (cz_b bz_isi T.n_isinstance (by decide +kernel) (az_cons (cz_fld (pv 0) T.k_Record T.a_Record_holders) (az_cons (pc_ty (t := "list") T.n_list (by decide +kernel)) az_nil))))) (pqw_or1 (pq_cmp (oz_ne hr.units) (cz_fld (pv 0) T.k_Record T.a_Record_holders) (pz_ix (pv 1) pc_int))))) (sz_one (sz_ret pc_bl)) sz_nil)
    (sz_one (sz_ret (pz_and (cz_b bz_isi T.n_isinstance (by decide +kernel) (az_cons (cz_fld (pv 0) T.k_Record T.a_Record_due) (az_cons (pc_ty (t := "bool") T.n_bool (by decide +kernel)) az_nil))) (pz_and (pz_cmp (oz_eq hr.units) (cz_fld (pv 0) T.k_Record T.a_Record_due) (pz_ix (pv 1) pc_int)) (pe_one (pz_cmp (oz_eq hr.units) (cz_call K_record_value (hr.mono l_record_value) T.g_record_value tk (az_cons (pv 0) az_nil)) (cz_call K__law_value (hr.mono l__law_value) T.g__law_value tk (az_cons (pv 1) az_nil))))))))))

abbrev s_law_made : Stmt := (topS 37)
theorem sc__law_made : FnScope N__law_made ["_law_row_here"] (defScope s_law_made) := ⟨rfl, rfl, rfl, by decide +kernel, rfl, by decide +kernel, by decide +kernel⟩
theorem ok__law_made {P : Program} {w : World} {K : PySem.W.Frag} {mg : Str → Option Value} {base : Heap} {k : Nat} {fd : FuncData} {sp : Sp} (T : Tx K mg) (F : FunD K "_law_made" "_law_made" (defArgs s_law_made) (defBody s_law_made) (defScope s_law_made) [] [] (He.fAd K ("_law_made", none)) fd)
    {s_Record___init__ : Sp} {s__law_good : Sp} {s__law_is : Sp} {k_Record___init__ : Nat} (K_Record___init__ : Kn P w K mg base k_Record___init__ (He.fAd K ("Record", some "__init__")) ["self", "x", "y", "label", "text", "holders", "due"] s_Record___init__) (l_Record___init__ : k_Record___init__ ≤ k) {k__law_good : Nat} (K__law_good : Kn P w K mg base k__law_good (He.fAd K ("_law_good", none)) ["_law_row_here"] s__law_good) (l__law_good : k__law_good ≤ k) {k__law_is : Nat} (K__law_is : Kn P w K mg base k__law_is (He.fAd K ("_law_is", none)) ["_law_record", "_law_row_here"] s__law_is) (l__law_is : k__law_is ≤ k) {kh__law_good : Nat} (KH__law_good : KnH P w K mg base kh__law_good (He.fAd K ("_law_good", none)) ["_law_row_here"] s__law_good) (lh__law_good : kh__law_good ≤ k) (len : ∀ vs H Q E, sp vs H Q E → vs.length = 1)
    (pure : ∀ vs H Q E, WF H → sp vs H Q E → t__law_made K w (W0 H E) s_Record___init__ s__law_good s__law_is { nx := fun _ H' => RQ H Q .non H', rt := RQ H Q } (L2.start N__law_made vs) H) : Kn P w K mg base (k + 1 + 1) (He.fAd K ("_law_made", none)) ["_law_row_here"] sp := by
  refine ⟨⟨fd, okZ F sc__law_made len (fun cdv A outer s H vs Q E hr wf h => ⟨_, ?_, pure vs H Q E wf h⟩), F.bindsN fun _ _ _ _ _ _ us hl => match us, hl with | [_], _ => rfl⟩, F.kp⟩
  have nd : (N__law_made).Nodup := sc__law_made.nd
  have tk : L2N.Takes (cxOf (L2N.CX P w) P w K mg base N__law_made "_law_made" (defScope s_law_made) (He.fAd K ("_law_made", none)) cdv A outer s H (RE H E)) (W0 H E) := L2N.takes_of rfl rfl rfl rfl
  exact (sz_cons (sz_set 1 nd (cz_t bz_list T.n_list (by decide +kernel) (az_cons (pz_ix (pv 0) pc_int) az_nil)))
    (sz_cons (sz_tryAs 3 rfl rfl nd ⟨by rfl, by decide, .inl T.e_NotAllowed.m⟩ tk (fun W1 _ _ tk1 po1 => (sz_one (sz_set 2 nd (cz_make T.mk_Record K_Record___init__ (hr.mono (Nat.succ_le_succ l_Record___init__)) T.g_Record tk1 (az_cons (pz_ix (pv 0) pc_int) (az_cons (pz_ix (pv 0) pc_int) (az_cons (pz_ix (pv 0) pc_int) (az_cons (pz_ix (pv 0) pc_int) (az_cons (pv 1) (az_cons (pz_ix (pv 0) pc_int) az_nil)))))))))) (fun a1 _ c1 d1 _ hz1 hv1 => (sz_one (sz_ret (pz_and (pz_not (cz_callH KH__law_good (RoomH.mono (room_suite hr) (Nat.le_succ_of_le lh__law_good)) (hot_suite hz1 hv1) T.g__law_good tk_no (az_cons (pv 0) az_nil))) (pz_and (pz_isE 3 T.x_NotAllowed hz1.zc hv1 T.n_isinstance T.e_LetheError.m T.ki_NotAllowed_LetheError) (pe_one (pz_not (pz_isET 3 (cs := [.ref (He.ga K "BadForm"), .ref (He.ga K "Full")]) T.x_NotAllowed hz1.zc hv1 T.n_isinstance (az_cons (pc_gx (v := .ref (He.ga K "BadForm")) ⟨_, T.e_BadForm.m, rfl⟩) (az_cons (pc_gx (v := .ref (He.ga K "Full")) ⟨_, T.e_Full.m, rfl⟩) az_nil)) (fun _ _ _ => rfl) (show 2 ≤ sizeLine by decide) (.cons (.own _) (.cons (.own _) .nil)) T.ks_NotAllowed_BadForm_Full)))))))))
    (sz_cons (sz_if (PW.pt (pqw_or (pq_not (pq_val (cz_call K__law_good (hr.mono (Nat.le_succ_of_le l__law_good)) T.g__law_good tk (az_cons (pv 0) az_nil)))) (pqw_or (pq_not (pq_val (cz_call K__law_is (hr.mono (Nat.le_succ_of_le l__law_is)) T.g__law_is tk (az_cons (pv 2) (az_cons (pv 0) az_nil))))) (pqw_or1 (pq_cmp (oz_ne hr.units) (pv 1) (pz_ix (pv 0) pc_int)))))) (sz_one (sz_ret pc_bl)) sz_nil)
    (sz_cons (sz_expr (mz_l PySem.F.slot_list_append PySem.F.type_list_append tz_append (pv 1) (az_cons pc_str az_nil)))
    (sz_one (sz_ret (cz_call K__law_is (hr.mono (Nat.le_succ_of_le l__law_is)) T.g__law_is tk (az_cons (pv 2) (az_cons (pv 0) az_nil)))))))))

abbrev s_law_read : Stmt := (topS 38)
theorem sc__law_read : FnScope N__law_read ["_law_text_here"] (defScope s_law_read) := ⟨rfl, rfl, rfl, by decide +kernel, rfl, by decide +kernel, by decide +kernel⟩
theorem ok__law_read {P : Program} {w : World} {K : PySem.W.Frag} {mg : Str → Option Value} {base : Heap} {k : Nat} {fd : FuncData} {sp : Sp} (T : Tx K mg) (F : FunD K "_law_read" "_law_read" (defArgs s_law_read) (defBody s_law_read) (defScope s_law_read) [] [] (He.fAd K ("_law_read", none)) fd)
    {s__law_row : Sp} {s_record_from_value : Sp} {s__law_is : Sp} {k__law_row : Nat} (K__law_row : Kn P w K mg base k__law_row (He.fAd K ("_law_row", none)) ["_law_text_here"] s__law_row) (l__law_row : k__law_row ≤ k) {k_record_from_value : Nat} (K_record_from_value : KnL P w K mg base k_record_from_value (He.fAd K ("record_from_value", none)) ["text"] s_record_from_value) (l_record_from_value : k_record_from_value ≤ k) {k__law_is : Nat} (K__law_is : Kn P w K mg base k__law_is (He.fAd K ("_law_is", none)) ["_law_record", "_law_row_here"] s__law_is) (l__law_is : k__law_is ≤ k)  (len : ∀ vs H Q E, sp vs H Q E → vs.length = 1)
    (pure : ∀ vs H Q E, WF H → sp vs H Q E → t__law_read K w (W0 H E) s__law_row s_record_from_value s__law_is { nx := fun _ H' => RQ H Q .non H', rt := RQ H Q } (L2.start N__law_read vs) H) : Kn P w K mg base (k + 1) (He.fAd K ("_law_read", none)) ["_law_text_here"] sp := by
  refine ⟨⟨fd, okZ F sc__law_read len (fun cdv A outer s H vs Q E hr wf h => ⟨_, ?_, pure vs H Q E wf h⟩), F.bindsN fun _ _ _ _ _ _ us hl => match us, hl with | [_], _ => rfl⟩, F.kp⟩
  have nd : (N__law_read).Nodup := sc__law_read.nd
  have tk : L2N.Takes (cxOf (L2N.CX P w) P w K mg base N__law_read "_law_read" (defScope s_law_read) (He.fAd K ("_law_read", none)) cdv A outer s H (RE H E)) (W0 H E) := L2N.takes_of rfl rfl rfl rfl
  have tkN : L2.Takes (cxOf (L2N.CX P w) P w K mg base N__law_read "_law_read" (defScope s_law_read) (He.fAd K ("_law_read", none)) cdv A outer s H (RE H E)) WN := fun _ _ x => by
    obtain ⟨_, _, _, _, _, _, _, _, _, _, _, _, _, _, _, _, z⟩ := x
    exact z.elim
  exact (sz_cons (sz_set 1 nd (cz_call K__law_row (hr.mono l__law_row) T.g__law_row tk (az_cons (pv 0) az_nil)))
    (sz_cons (sz_tryAsL 3 rfl rfl nd ⟨by rfl, by decide, .inl T.e_BadForm.m⟩ tkN (fun W1 _ _ tk1 po1 => (sz_one (sz_set 2 nd (cz_callL K_record_from_value (hr.mono l_record_from_value) T.g_record_from_value tk1 (az_cons (pv 0) az_nil))))) (fun a1 _ c1 d1 _ hz1 hv1 => (sz_one (sz_ret (pz_and (pz_cmp oz_is (pv 1) pc_non) (pz_and (pz_isE 3 T.x_BadForm hz1 hv1 T.n_isinstance T.e_LetheError.m T.ki_BadForm_LetheError) (pe_one (pz_not (pz_isET 3 (cs := [.ref (He.ga K "NotAllowed"), .ref (He.ga K "Full")]) T.x_BadForm hz1 hv1 T.n_isinstance (az_cons (pc_gx (v := .ref (He.ga K "NotAllowed")) ⟨_, T.e_NotAllowed.m, rfl⟩) (az_cons (pc_gx (v := .ref (He.ga K "Full")) ⟨_, T.e_Full.m, rfl⟩) az_nil)) (fun _ _ _ => rfl) (show 2 ≤ sizeLine by decide) (.cons (.own _) (.cons (.own _) .nil)) T.ks_BadForm_NotAllowed_Full)))))))))
    (sz_one (sz_ret (pz_and (pz_cmp oz_isn (pv 1) pc_non) (pe_one (cz_call K__law_is (hr.mono l__law_is) T.g__law_is tk (az_cons (pv 2) (az_cons (pv 1) az_nil)))))))))

abbrev s_law_spoilt : Stmt := (topS 39)
theorem sc__law_spoilt : FnScope N__law_spoilt ["_law_numbers", "_law_text_here"] (defScope s_law_spoilt) := ⟨rfl, rfl, rfl, by decide +kernel, rfl, by decide +kernel, by decide +kernel⟩
theorem ok__law_spoilt {P : Program} {w : World} {K : PySem.W.Frag} {mg : Str → Option Value} {base : Heap} {k : Nat} {fd : FuncData} {sp : Sp} (T : Tx K mg) (F : FunD K "_law_spoilt" "_law_spoilt" (defArgs s_law_spoilt) (defBody s_law_spoilt) (defScope s_law_spoilt) [] [] (He.fAd K ("_law_spoilt", none)) fd)
    {s__law_pick : Sp} {k__law_pick : Nat} (K__law_pick : Kn P w K mg base k__law_pick (He.fAd K ("_law_pick", none)) ["_law_numbers", "_law_at", "_law_many"] s__law_pick) (l__law_pick : k__law_pick ≤ k)  (len : ∀ vs H Q E, sp vs H Q E → vs.length = 2)
    (pure : ∀ vs H Q E, WF H → sp vs H Q E → t__law_spoilt K w (W0 H E) s__law_pick { nx := fun _ H' => RQ H Q .non H', rt := RQ H Q } (L2.start N__law_spoilt vs) H) : Kn P w K mg base (k + 1) (He.fAd K ("_law_spoilt", none)) ["_law_numbers", "_law_text_here"] sp := by
  refine ⟨⟨fd, okZ F sc__law_spoilt len (fun cdv A outer s H vs Q E hr wf h => ⟨_, ?_, pure vs H Q E wf h⟩), F.bindsN fun _ _ _ _ _ _ us hl => match us, hl with | [_, _], _ => rfl⟩, F.kp⟩
  have nd : (N__law_spoilt).Nodup := sc__law_spoilt.nd
  have tk : L2N.Takes (cxOf (L2N.CX P w) P w K mg base N__law_spoilt "_law_spoilt" (defScope s_law_spoilt) (He.fAd K ("_law_spoilt", none)) cdv A outer s H (RE H E)) (W0 H E) := L2N.takes_of rfl rfl rfl rfl
  exact (sz_cons (sz_set 2 nd (cz_call K__law_pick (hr.mono l__law_pick) T.g__law_pick tk (az_cons (pv 0) (az_cons pc_int (az_cons (pz_op oz_add (cz_b bz_len T.n_len (by decide +kernel) (az_cons (pv 1) az_nil)) pc_int) az_nil)))))
    (sz_cons (sz_set 3 nd (pz_ix pc_str (cz_call K__law_pick (hr.mono l__law_pick) T.g__law_pick tk (az_cons (pv 0) (az_cons pc_int (az_cons pc_int az_nil))))))
    (sz_one (sz_ret (pz_op oz_add (pz_op oz_add (pz_sl (pv 1) oz_no (oz_pt (pv 2))) (pz_op oz_mul (pv 3) (cz_call K__law_pick (hr.mono l__law_pick) T.g__law_pick tk (az_cons (pv 0) (az_cons pc_int (az_cons pc_int az_nil)))))) (pz_sl (pv 1) (oz_pt (pz_op oz_add (pv 2) (cz_call K__law_pick (hr.mono l__law_pick) T.g__law_pick tk (az_cons (pv 0) (az_cons pc_int (az_cons pc_int az_nil)))))) oz_no))))))

abbrev slaw : Stmt := (topS 40)
theorem sc_law : FnScope N_law ["_law_script"] (defScope slaw) := ⟨rfl, rfl, rfl, by decide +kernel, rfl, by decide +kernel, by decide +kernel⟩
theorem ok_law {P : Program} {w : World} {K : PySem.W.Frag} {mg : Str → Option Value} {base : Heap} {k : Nat} {fd : FuncData} {sp : Sp} (T : Tx K mg) (F : FunD K "law" "law" (defArgs slaw) (defBody slaw) (defScope slaw) [] [] (He.fAd K ("law", none)) fd)
    {s__law_stream : Sp} {s__law_pick : Sp} {s__law_text : Sp} {s__law_made : Sp} {s__law_read : Sp} {s__law_value : Sp} {s__law_spoilt : Sp} {s_is_record_text : Sp} {k__law_stream : Nat} (K__law_stream : Kn P w K mg base k__law_stream (He.fAd K ("_law_stream", none)) ["_law_script"] s__law_stream) (l__law_stream : k__law_stream ≤ k) {k__law_pick : Nat} (K__law_pick : Kn P w K mg base k__law_pick (He.fAd K ("_law_pick", none)) ["_law_numbers", "_law_at", "_law_many"] s__law_pick) (l__law_pick : k__law_pick ≤ k) {k__law_text : Nat} (K__law_text : Kn P w K mg base k__law_text (He.fAd K ("_law_text", none)) ["_law_numbers", "_law_at", "_law_size", "_law_wide"] s__law_text) (l__law_text : k__law_text ≤ k) {k__law_made : Nat} (K__law_made : Kn P w K mg base k__law_made (He.fAd K ("_law_made", none)) ["_law_row_here"] s__law_made) (l__law_made : k__law_made ≤ k) {k__law_read : Nat} (K__law_read : Kn P w K mg base k__law_read (He.fAd K ("_law_read", none)) ["_law_text_here"] s__law_read) (l__law_read : k__law_read ≤ k) {k__law_value : Nat} (K__law_value : Kn P w K mg base k__law_value (He.fAd K ("_law_value", none)) ["_law_row_here"] s__law_value) (l__law_value : k__law_value ≤ k) {k__law_spoilt : Nat} (K__law_spoilt : Kn P w K mg base k__law_spoilt (He.fAd K ("_law_spoilt", none)) ["_law_numbers", "_law_text_here"] s__law_spoilt) (l__law_spoilt : k__law_spoilt ≤ k) {k_is_record_text : Nat} (K_is_record_text : Kn P w K mg base k_is_record_text (He.fAd K ("is_record_text", none)) ["text"] s_is_record_text) (l_is_record_text : k_is_record_text ≤ k)  (len : ∀ vs H Q E, sp vs H Q E → vs.length = 1)
    (pure : ∀ vs H Q E, WF H → sp vs H Q E → t_law K w (W0 H E) s__law_stream s__law_pick s__law_text s__law_made s__law_read s__law_value s__law_spoilt s_is_record_text { nx := fun _ H' => RQ H Q .non H', rt := RQ H Q } (L2.start N_law vs) H) : FnOk P w K mg base (L2N.CX P w) (k + 1) (He.fAd K ("law", none)) fd ["_law_script"] sp := by
  refine okZ F sc_law len (fun cdv A outer s H vs Q E hr wf h => ⟨_, ?_, pure vs H Q E wf h⟩)
  have nd : (N_law).Nodup := sc_law.nd
  have tk : L2N.Takes (cxOf (L2N.CX P w) P w K mg base N_law "law" (defScope slaw) (He.fAd K ("law", none)) cdv A outer s H (RE H E)) (W0 H E) := L2N.takes_of rfl rfl rfl rfl
  exact (sz_cons (sz_set 1 nd (cz_call K__law_stream (hr.mono l__law_stream) T.g__law_stream tk (az_cons (pv 0) az_nil)))
    (sz_cons (sz_if (pq_cmp (oz_ne hr.units) (pz_lst (az_cons (pc_gx T.c_MAX_RECORDS) (az_cons (pc_gx T.c_MAX_HOLDERS) (az_cons (pc_gx T.c_MAX_TEXT) az_nil)))) (pz_lst (az_cons pc_int (az_cons pc_int (az_cons pc_int az_nil))))) (sz_one (sz_ret pc_bl)) sz_nil)
    (sz_eqT 2 nd (cz_call K__law_pick (hr.mono l__law_pick) T.g__law_pick tk (az_cons (pv 1) (az_cons pc_int (az_cons pc_int az_nil)))) hr.units
    (tz_cons (PST.of (sz_set 3 nd (pz_lst (az_cons (cz_call K__law_pick (hr.mono l__law_pick) T.g__law_pick tk (az_cons (pv 1) (az_cons pc_int (az_cons pc_int az_nil)))) (az_cons (cz_call K__law_pick (hr.mono l__law_pick) T.g__law_pick tk (az_cons (pv 1) (az_cons pc_int (az_cons pc_int az_nil)))) (az_cons (cz_call K__law_pick (hr.mono l__law_pick) T.g__law_pick tk (az_cons (pv 1) (az_cons pc_int (az_cons pc_int az_nil)))) az_nil))))))
    (tz_cons (PST.of (sz_if (pq_val (pv 2)) (sz_one (sz_set 3 nd (pz_lst (az_cons (pz_op oz_sub (pz_op oz_add (pz_ix (pv 3) pc_int) (cz_call K__law_pick (hr.mono l__law_pick) T.g__law_pick tk (az_cons (pv 1) (az_cons pc_int (az_cons pc_int az_nil))))) pc_int) (az_cons (pz_op oz_sub (pz_op oz_add (pz_ix (pv 3) pc_int) (cz_call K__law_pick (hr.mono l__law_pick) T.g__law_pick tk (az_cons (pv 1) (az_cons pc_int (az_cons pc_int az_nil))))) pc_int) (az_cons (pz_op oz_add (pz_ix (pv 3) pc_int) pc_int) az_nil)))))) sz_nil))
    (tz_cons (PST.of (sz_set 4 nd (cz_call K__law_text (hr.mono l__law_text) T.g__law_text tk (az_cons (pv 1) (az_cons pc_int (az_cons (cz_call K__law_pick (hr.mono l__law_pick) T.g__law_pick tk (az_cons (pv 1) (az_cons pc_int (az_cons (pz_op oz_add pc_int (cz_t bz_int T.n_int (by decide +kernel) (az_cons (pv 2) az_nil))) az_nil)))) (az_cons (pz_cmp (oz_eq hr.units) (cz_call K__law_pick (hr.mono l__law_pick) T.g__law_pick tk (az_cons (pv 1) (az_cons pc_int (az_cons pc_int az_nil)))) pc_int) az_nil)))))))
    (tz_cons (tz_if (pq_not (pq_val (pv 2))) (tz_one (tz_set 4 nd (yz_rep (pv 4)))) (PSsT.of sz_nil))
    (PSsT.of (sz_cons (sz_set 5 nd (pz_lst (az_cons pc_str (az_cons pc_str (az_cons pc_str (az_cons pc_str (az_cons pc_str (az_cons pc_str az_nil))))))))
    (sz_cons (sz_if (pq_val (pv 2)) (sz_one (sz_set 5 nd (pz_lst (az_cons pc_str (az_cons pc_str (az_cons pc_str (az_cons pc_str (az_cons pc_str (az_cons pc_str az_nil))))))))) sz_nil)
    (sz_cons (sz_setLc 6 [("_law_k", 10)] rfl nd (wz_range1 T.n_range (az_cons (cz_call K__law_pick (hr.mono l__law_pick) T.g__law_pick tk (az_cons (pv 1) (az_cons pc_int (az_cons (pz_op oz_add pc_int (cz_t bz_int T.n_int (by decide +kernel) (az_cons (pv 2) az_nil))) az_nil)))) az_nil)) (blkOk_by (N := N_law) (sc := defScope slaw) (by decide +kernel)) (fun _ _ _ _ _ => (gz_name 10 nd)) (fun _ _ _ _ _ => lz_nil) (fun _ _ _ _ _ => (pz_ix (pv 5) (cz_call K__law_pick (hr.mono l__law_pick) T.g__law_pick tk_no (az_cons (pv 1) (az_cons (pz_op oz_add pc_int (pv 10)) (az_cons pc_int az_nil)))))))
    (sz_cons (sz_if (pq_cmp oz_gt (cz_call K__law_pick (hr.mono l__law_pick) T.g__law_pick tk (az_cons (pv 1) (az_cons pc_int (az_cons pc_int az_nil)))) pc_int) (sz_one (sz_set 6 nd (cz_b bz_sortedS T.n_sorted (by decide +kernel) (az_cons (pv 6) az_nil)))) sz_nil)
    (sz_cons (sz_set 7 nd (pz_tup (az_cons (pz_ix (pv 3) pc_int) (az_cons (pz_ix (pv 3) pc_int) (az_cons (pz_ix (pv 3) pc_int) (az_cons (pv 4) (az_cons (pv 6) (az_cons (pz_cmp (oz_eq hr.units) (cz_call K__law_pick (hr.mono l__law_pick) T.g__law_pick tk (az_cons (pv 1) (az_cons pc_int (az_cons pc_int az_nil)))) pc_int) az_nil))))))))
    (sz_cons (sz_if (PW.pt (pqw_or (pq_not (pq_val (cz_call K__law_made (hr.mono l__law_made) T.g__law_made tk (az_cons (pv 7) az_nil)))) (pqw_or (pq_not (pq_val (cz_call K__law_read (hr.mono l__law_read) T.g__law_read tk (az_cons (cz_call K__law_value (hr.mono l__law_value) T.g__law_value tk (az_cons (pv 7) az_nil)) az_nil)))) (pqw_or1 (pq_not (pq_val (cz_call K__law_read (hr.mono l__law_read) T.g__law_read tk (az_cons (cz_call K__law_spoilt (hr.mono l__law_spoilt) T.g__law_spoilt tk (az_cons (pv 1) (az_cons (cz_call K__law_value (hr.mono l__law_value) T.g__law_value tk (az_cons (pv 7) az_nil)) az_nil))) az_nil)))))))) (sz_one (sz_ret pc_bl)) sz_nil)
    (sz_cons (sz_set 8 nd (pz_and (pz_cmp oz_le (cz_b bz_len T.n_len (by decide +kernel) (az_cons (pv 4) az_nil)) pc_int) (pe_one (pz_cmp oz_lt (mz_s PySem.F.slot_str_find PySem.F.type_str_find tz_find (pv 4) (az_cons pc_str az_nil)) pc_int))))
    (sz_cons (sz_set 9 nd (cz_call K_is_record_text (hr.mono l_is_record_text) T.g_is_record_text tk (az_cons (pv 4) az_nil)))
    (sz_one (sz_ret (pz_and (cz_b bz_isi T.n_isinstance (by decide +kernel) (az_cons (pv 9) (az_cons (pc_ty (t := "bool") T.n_bool (by decide +kernel)) az_nil))) (pz_and (pz_cmp (oz_eq hr.units) (pv 9) (pv 8)) (pe_one (cz_call K__law_read (hr.mono l__law_read) T.g__law_read tk (az_cons pc_str az_nil)))))))))))))))))))))))
end Z
namespace Z
open PySem PySem.Spec PyProof.Rows L2 TL
/-! ### further facts of the head -/
def eqB (a b : Option Bool) : Bool := decide (a = b)
def excB (K : PySem.W.Frag) (x : Str) : Bool :=
  He.eqO (PySem.W.findIn K (.ref (He.ga K x)) "__getattribute__") (some (some (.builtin "BaseException.__getattribute__"))) && (He.eqO (PySem.W.findIn K (.ref (He.ga K x)) "__getattr__") (some none) && (eqB (PySem.W.subIn K (.ref (He.ga K x)) (.type "BaseException")) (some true) &&
    (PySem.W.hasDictIn K (He.ga K x) && (He.eqO (PySem.W.findIn K (.ref (He.ga K x)) "__class__") (some (some (.builtin "object.__class__"))) && (He.eqO (PySem.W.specialIn K (.builtin "object.__class__") "__get__") (some (some (.builtin "getset_descriptor.__get__"))) &&
      (eqB (PySem.W.takesIn K (.builtin "object.__class__")) (some true) && eqB (PySem.W.mroIn K (He.ga K x) (.type "object")) (some true)))))))
theorem eqB_ok {a b : Option Bool} (h : eqB a b = true) : a = b := of_decide_eq_true h
theorem excB_ok {K : PySem.W.Frag} {x : Str} (h : excB K x = true) : ExcC K (He.ga K x) := by
  obtain ⟨h1, h⟩ := He.ba h
  obtain ⟨h2, h⟩ := He.ba h
  obtain ⟨h3, h⟩ := He.ba h
  obtain ⟨h4, h⟩ := He.ba h
  obtain ⟨h5, h⟩ := He.ba h
  obtain ⟨h6, h⟩ := He.ba h
  obtain ⟨h7, h8⟩ := He.ba h
  exact ⟨He.eqO_ok h1, He.eqO_ok h2, eqB_ok h3, h4, He.eqO_ok h5, He.eqO_ok h6, eqB_ok h7, eqB_ok h8⟩
abbrev AlZ : Type := He.AlD × Bool
def obsZ (fa : List He.Fa) (fn : List He.DefD) (ex : List (PySem.W.Frag → Bool)) (K : PySem.W.Frag) : AlZ := (He.obsD fa fn K, ex.all fun f => f K)
def valZ (fn : List He.DefD) : AlZ := (He.valD fn, true)
def obsZG (n : Nat) (fa : List He.Fa) (fn : List He.DefD) (ex : List (PySem.W.Frag → Bool)) (g : Addr → Option Obj) : AlZ := obsZ fa fn ex (He.frG g (He.asD g n))
def hookZ (n : Nat) (fa : List He.Fa) (fn : List He.DefD) (ex : List (PySem.W.Frag → Bool)) : PySem.W.Hook where
  α := AlZ
  obs := fun s => obsZG n fa fn ex s.heap.get?
  val := fun _ => valZ fn
  says := fun _ h => ∃ K : PySem.W.Frag, K.In h ∧ obsZ fa fn ex K = valZ fn
  of := fun _ _ e => ⟨_, He.frG_in, e⟩
  keeps := fun _ _ _ ⟨K, hK, c⟩ k => ⟨K, PySem.W.Frag.In.keeps hK k, c⟩
theorem obsZG_eq {n : Nat} {fa : List He.Fa} {fn : List He.DefD} {ex : List (PySem.W.Frag → Bool)} {g : Addr → Option Obj} {s : Shared} (h : ∀ a, g a = s.heap.get? a) : obsZG n fa fn ex g = (hookZ n fa fn ex).obs s := by
  have e : g = s.heap.get? := funext h
  rw [e] <;> rfl
theorem says1 {fa : List He.Fa} {fn : List He.DefD} {ex : List (PySem.W.Frag → Bool)} {K : PySem.W.Frag} (c : obsZ fa fn ex K = valZ fn) : He.SaysD fa fn K := congrArg (fun z : AlZ => z.1) c
theorem says2 {fa : List He.Fa} {fn : List He.DefD} {ex : List (PySem.W.Frag → Bool)} {K : PySem.W.Frag} (c : obsZ fa fn ex K = valZ fn) (i : Nat) {f : PySem.W.Frag → Bool} (h : ex[i]? = some f) : f K = true :=
  List.all_eq_true.mp (show ex.all (fun f => f K) = true from congrArg (fun z : AlZ => z.2) c) f (List.mem_of_getElem? h)
/-- what an exception out of the law would tell -/
abbrev CXQ : CXT := fun _ _ _ E _ _ => ∃ c d H', E c d H'
theorem fnOk_cx {P : Program} {w : World} {K : PySem.W.Frag} {mg : Str → Option Value} {base : Heap} {k : Nat} {f : Addr} {fd : FuncData} {ps : List Str} {sp : Sp} (F : FnOk P w K mg base (L2N.CX P w) k f fd ps sp) : FnOk P w K mg base CXQ k f fd ps sp := by
  refine ⟨F.len, fun A outer s H args us vs Q E hr e0 hb hv hs => codeAny_mono (F.run A outer s H args us vs Q E hr e0 hb hv hs) fun r s' hq => ?_⟩
  cases r with
  | error e =>
    obtain ⟨a, B, H', cls, d, _, _, _, _, _, _, _, q⟩ := hq
    exact ⟨cls, d, H', q⟩
  | ok fl => cases fl <;> exact hq
end Z
namespace Z
open PySem PySem.Spec PyProof.Rows L2 TL L2H
local macro_rules | `(tactic| walk_at "zlen") => `(tactic| (intro vs H Q E h; first
  | (obtain ⟨e, _⟩ := h; exact congrArg List.length e)
  | (obtain ⟨_, e, _⟩ := h; exact congrArg List.length e)
  | (obtain ⟨_, _, e, _⟩ := h; exact congrArg List.length e)
  | (obtain ⟨_, _, _, e, _⟩ := h; exact congrArg List.length e)
  | (obtain ⟨_, _, _, _, e, _⟩ := h; exact congrArg List.length e)
  | (obtain ⟨_, _, _, _, _, e, _⟩ := h; exact congrArg List.length e)))
def d_pack : He.DefD := ⟨("pack", none), "pack", "pack", defArgs spack, defBody spack, defScope spack, [], []⟩
def d_number_of : He.DefD := ⟨("number_of", none), "number_of", "number_of", defArgs snumber_of, defBody snumber_of, defScope snumber_of, [], []⟩
def d_part_at : He.DefD := ⟨("part_at", none), "part_at", "part_at", defArgs spart_at, defBody spart_at, defScope spart_at, [], []⟩
def d_unpack : He.DefD := ⟨("unpack", none), "unpack", "unpack", defArgs sunpack, defBody sunpack, defScope sunpack, [], []⟩
def d_is_name : He.DefD := ⟨("is_name", none), "is_name", "is_name", defArgs sis_name, defBody sis_name, defScope sis_name, [], []⟩
def d_is_record_text : He.DefD := ⟨("is_record_text", none), "is_record_text", "is_record_text", defArgs sis_record_text, defBody sis_record_text, defScope sis_record_text, [], []⟩
def d_are_holders : He.DefD := ⟨("are_holders", none), "are_holders", "are_holders", defArgs sare_holders, defBody sare_holders, defScope sare_holders, [], []⟩
def d_Record___init__ : He.DefD := ⟨("Record", some "__init__"), "__init__", "Record.__init__", defArgs sRecord___init__, defBody sRecord___init__, defScope sRecord___init__, [], []⟩
def d_record_value : He.DefD := ⟨("record_value", none), "record_value", "record_value", defArgs srecord_value, defBody srecord_value, defScope srecord_value, [], []⟩
def d_record_from_value : He.DefD := ⟨("record_from_value", none), "record_from_value", "record_from_value", defArgs srecord_from_value, defBody srecord_from_value, defScope srecord_from_value, [], []⟩
def d__law_stream : He.DefD := ⟨("_law_stream", none), "_law_stream", "_law_stream", defArgs s_law_stream, defBody s_law_stream, defScope s_law_stream, [], []⟩
def d__law_pick : He.DefD := ⟨("_law_pick", none), "_law_pick", "_law_pick", defArgs s_law_pick, defBody s_law_pick, defScope s_law_pick, [], []⟩
def d__law_signs : He.DefD := ⟨("_law_signs", none), "_law_signs", "_law_signs", defArgs s_law_signs, defBody s_law_signs, defScope s_law_signs, [], []⟩
def d__law_text : He.DefD := ⟨("_law_text", none), "_law_text", "_law_text", defArgs s_law_text, defBody s_law_text, defScope s_law_text, [], []⟩
def d__law_is_name : He.DefD := ⟨("_law_is_name", none), "_law_is_name", "_law_is_name", defArgs s_law_is_name, defBody s_law_is_name, defScope s_law_is_name, [], []⟩
def d__law_number : He.DefD := ⟨("_law_number", none), "_law_number", "_law_number", defArgs s_law_number, defBody s_law_number, defScope s_law_number, [], []⟩
def d__law_parts : He.DefD := ⟨("_law_parts", none), "_law_parts", "_law_parts", defArgs s_law_parts, defBody s_law_parts, defScope s_law_parts, [], []⟩
def d__law_good : He.DefD := ⟨("_law_good", none), "_law_good", "_law_good", defArgs s_law_good, defBody s_law_good, defScope s_law_good, [], []⟩
def d__law_value : He.DefD := ⟨("_law_value", none), "_law_value", "_law_value", defArgs s_law_value, defBody s_law_value, defScope s_law_value, [], []⟩
def d__law_row : He.DefD := ⟨("_law_row", none), "_law_row", "_law_row", defArgs s_law_row, defBody s_law_row, defScope s_law_row, [], []⟩
def d__law_is : He.DefD := ⟨("_law_is", none), "_law_is", "_law_is", defArgs s_law_is, defBody s_law_is, defScope s_law_is, [], []⟩
def d__law_made : He.DefD := ⟨("_law_made", none), "_law_made", "_law_made", defArgs s_law_made, defBody s_law_made, defScope s_law_made, [], []⟩
def d__law_read : He.DefD := ⟨("_law_read", none), "_law_read", "_law_read", defArgs s_law_read, defBody s_law_read, defScope s_law_read, [], []⟩
def d__law_spoilt : He.DefD := ⟨("_law_spoilt", none), "_law_spoilt", "_law_spoilt", defArgs s_law_spoilt, defBody s_law_spoilt, defScope s_law_spoilt, [], []⟩
def d_law : He.DefD := ⟨("law", none), "law", "law", defArgs slaw, defBody slaw, defScope slaw, [], []⟩
def fnL : List He.DefD := [d_pack, d_number_of, d_part_at, d_unpack, d_is_name, d_is_record_text, d_are_holders, d_Record___init__, d_record_value, d_record_from_value, d__law_stream, d__law_pick, d__law_signs, d__law_text, d__law_is_name, d__law_number, d__law_parts, d__law_good, d__law_value, d__law_row, d__law_is, d__law_made, d__law_read, d__law_spoilt, d_law]
def faL : List He.Fa := [.noat "Record" "due", .noat "Record" "holders", .noat "Record" "label", .noat "Record" "text", .noat "Record" "x", .noat "Record" "y", .int "MAX_HOLDERS" 2, .int "MAX_NAME" 4, .int "MAX_RECORDS" 8, .int "MAX_TEXT" 16, .int "MOST_COORDINATE" 99, .int "MOST_DIGITS" 9, .int "MOST_LABEL" 3, .exc "BadForm", .glo "BadForm", .exc "Full", .glo "Full", .exc "LetheError", .glo "LetheError", .exc "NotAllowed", .glo "NotAllowed", .glo "Record", .glo "_law_good", .glo "_law_is", .glo "_law_is_name", .glo "_law_made", .glo "_law_number", .glo "_law_parts", .glo "_law_pick", .glo "_law_read", .glo "_law_row", .glo "_law_signs", .glo "_law_spoilt", .glo "_law_stream", .glo "_law_text", .glo "_law_value", .glo "are_holders", .glo "is_name", .glo "is_record_text", .glo "number_of", .glo "pack", .glo "part_at", .glo "record_from_value", .glo "record_value", .glo "unpack", .cls "Record", .mkr "Record", .free "all", .free "bool", .free "int", .free "isinstance", .free "len", .free "list", .free "range", .free "sorted", .free "str", .exm "BadForm" "BadForm" true, .exm "NotAllowed" "NotAllowed" true, .glo "law"]
def exL : List (PySem.W.Frag → Bool) := [fun K => decide (PySem.W.kitOne K (.ref (He.ga K "BadForm")) (.ref (He.ga K "LetheError")) = some true), fun K => decide (PySem.W.kitOne K (.ref (He.ga K "NotAllowed")) (.ref (He.ga K "LetheError")) = some true), fun K => decide (PySem.W.kitAny K (.ref (He.ga K "BadForm")) [.ref (He.ga K "NotAllowed"), .ref (He.ga K "Full")] = some false), fun K => decide (PySem.W.kitAny K (.ref (He.ga K "NotAllowed")) [.ref (He.ga K "BadForm"), .ref (He.ga K "Full")] = some false), fun K => excB K "BadForm", fun K => excB K "NotAllowed"]
theorem tx_of {K : PySem.W.Frag} {mg : Str → Option Value} {h : Heap} (X : K.In h) (G : h.Ns mainGlobals mg) (c : He.SaysD faL fnL K) (cx : ∀ (i : Nat) {f : PySem.W.Frag → Bool}, exL[i]? = some f → f K = true) : Tx K mg :=
  ⟨He.noat_ok (c.fact 0 (f := .noat "Record" "due") rfl),
    He.noat_ok (c.fact 1 (f := .noat "Record" "holders") rfl),
    He.noat_ok (c.fact 2 (f := .noat "Record" "label") rfl),
    He.noat_ok (c.fact 3 (f := .noat "Record" "text") rfl),
    He.noat_ok (c.fact 4 (f := .noat "Record" "x") rfl),
    He.noat_ok (c.fact 5 (f := .noat "Record" "y") rfl),
    (by obtain ⟨t, e⟩ := He.int_ok X G (c.fact 6 (f := .int "MAX_HOLDERS" 2) rfl); exact ⟨_, e, t, rfl⟩),
    (by obtain ⟨t, e⟩ := He.int_ok X G (c.fact 7 (f := .int "MAX_NAME" 4) rfl); exact ⟨_, e, t, rfl⟩),
    (by obtain ⟨t, e⟩ := He.int_ok X G (c.fact 8 (f := .int "MAX_RECORDS" 8) rfl); exact ⟨_, e, t, rfl⟩),
    (by obtain ⟨t, e⟩ := He.int_ok X G (c.fact 9 (f := .int "MAX_TEXT" 16) rfl); exact ⟨_, e, t, rfl⟩),
    (by obtain ⟨t, e⟩ := He.int_ok X G (c.fact 10 (f := .int "MOST_COORDINATE" 99) rfl); exact ⟨_, e, t, rfl⟩),
    (by obtain ⟨t, e⟩ := He.int_ok X G (c.fact 11 (f := .int "MOST_DIGITS" 9) rfl); exact ⟨_, e, t, rfl⟩),
    (by obtain ⟨t, e⟩ := He.int_ok X G (c.fact 12 (f := .int "MOST_LABEL" 3) rfl); exact ⟨_, e, t, rfl⟩),
    ⟨He.glo_ok X G (c.fact 14 (f := .glo "BadForm") rfl), (He.exc_ok (c.fact 13 (f := .exc "BadForm") rfl)).2.1, (He.exc_ok (c.fact 13 (f := .exc "BadForm") rfl)).1, (He.exc_ok (c.fact 13 (f := .exc "BadForm") rfl)).2.2.1, (He.exc_ok (c.fact 13 (f := .exc "BadForm") rfl)).2.2.2⟩,
    ⟨He.glo_ok X G (c.fact 16 (f := .glo "Full") rfl), (He.exc_ok (c.fact 15 (f := .exc "Full") rfl)).2.1, (He.exc_ok (c.fact 15 (f := .exc "Full") rfl)).1, (He.exc_ok (c.fact 15 (f := .exc "Full") rfl)).2.2.1, (He.exc_ok (c.fact 15 (f := .exc "Full") rfl)).2.2.2⟩,
    ⟨He.glo_ok X G (c.fact 18 (f := .glo "LetheError") rfl), (He.exc_ok (c.fact 17 (f := .exc "LetheError") rfl)).2.1, (He.exc_ok (c.fact 17 (f := .exc "LetheError") rfl)).1, (He.exc_ok (c.fact 17 (f := .exc "LetheError") rfl)).2.2.1, (He.exc_ok (c.fact 17 (f := .exc "LetheError") rfl)).2.2.2⟩,
    ⟨He.glo_ok X G (c.fact 20 (f := .glo "NotAllowed") rfl), (He.exc_ok (c.fact 19 (f := .exc "NotAllowed") rfl)).2.1, (He.exc_ok (c.fact 19 (f := .exc "NotAllowed") rfl)).1, (He.exc_ok (c.fact 19 (f := .exc "NotAllowed") rfl)).2.2.1, (He.exc_ok (c.fact 19 (f := .exc "NotAllowed") rfl)).2.2.2⟩,
    He.glo_ok X G (c.fact 21 (f := .glo "Record") rfl),
    He.glo_ok X G (c.fact 22 (f := .glo "_law_good") rfl),
    He.glo_ok X G (c.fact 23 (f := .glo "_law_is") rfl),
    He.glo_ok X G (c.fact 24 (f := .glo "_law_is_name") rfl),
    He.glo_ok X G (c.fact 25 (f := .glo "_law_made") rfl),
    He.glo_ok X G (c.fact 26 (f := .glo "_law_number") rfl),
    He.glo_ok X G (c.fact 27 (f := .glo "_law_parts") rfl),
    He.glo_ok X G (c.fact 28 (f := .glo "_law_pick") rfl),
    He.glo_ok X G (c.fact 29 (f := .glo "_law_read") rfl),
    He.glo_ok X G (c.fact 30 (f := .glo "_law_row") rfl),
    He.glo_ok X G (c.fact 31 (f := .glo "_law_signs") rfl),
    He.glo_ok X G (c.fact 32 (f := .glo "_law_spoilt") rfl),
    He.glo_ok X G (c.fact 33 (f := .glo "_law_stream") rfl),
    He.glo_ok X G (c.fact 34 (f := .glo "_law_text") rfl),
    He.glo_ok X G (c.fact 35 (f := .glo "_law_value") rfl),
    He.glo_ok X G (c.fact 36 (f := .glo "are_holders") rfl),
    He.glo_ok X G (c.fact 37 (f := .glo "is_name") rfl),
    He.glo_ok X G (c.fact 38 (f := .glo "is_record_text") rfl),
    He.glo_ok X G (c.fact 39 (f := .glo "number_of") rfl),
    He.glo_ok X G (c.fact 40 (f := .glo "pack") rfl),
    He.glo_ok X G (c.fact 41 (f := .glo "part_at") rfl),
    He.glo_ok X G (c.fact 42 (f := .glo "record_from_value") rfl),
    He.glo_ok X G (c.fact 43 (f := .glo "record_value") rfl),
    He.glo_ok X G (c.fact 44 (f := .glo "unpack") rfl),
    He.cls_ok (c.fact 45 (f := .cls "Record") rfl),
    of_decide_eq_true (cx 0 (f := fun K => decide (PySem.W.kitOne K (.ref (He.ga K "BadForm")) (.ref (He.ga K "LetheError")) = some true)) rfl),
    of_decide_eq_true (cx 1 (f := fun K => decide (PySem.W.kitOne K (.ref (He.ga K "NotAllowed")) (.ref (He.ga K "LetheError")) = some true)) rfl),
    of_decide_eq_true (cx 2 (f := fun K => decide (PySem.W.kitAny K (.ref (He.ga K "BadForm")) [.ref (He.ga K "NotAllowed"), .ref (He.ga K "Full")] = some false)) rfl),
    of_decide_eq_true (cx 3 (f := fun K => decide (PySem.W.kitAny K (.ref (He.ga K "NotAllowed")) [.ref (He.ga K "BadForm"), .ref (He.ga K "Full")] = some false)) rfl),
    He.mkr_ok (c.fact 46 (f := .mkr "Record") rfl),
    He.free_ok X G (c.fact 47 (f := .free "all") rfl),
    He.free_ok X G (c.fact 48 (f := .free "bool") rfl),
    He.free_ok X G (c.fact 49 (f := .free "int") rfl),
    He.free_ok X G (c.fact 50 (f := .free "isinstance") rfl),
    He.free_ok X G (c.fact 51 (f := .free "len") rfl),
    He.free_ok X G (c.fact 52 (f := .free "list") rfl),
    He.free_ok X G (c.fact 53 (f := .free "range") rfl),
    He.free_ok X G (c.fact 54 (f := .free "sorted") rfl),
    He.free_ok X G (c.fact 55 (f := .free "str") rfl),
    excB_ok (cx 4 (f := fun K => excB K "BadForm") rfl),
    excB_ok (cx 5 (f := fun K => excB K "NotAllowed") rfl)⟩
abbrev levL : Nat := 7
theorem noDT_only {H : Hp} (h : Only H) : NoDT H := fun a o e => by
  rcases h a with z | ⟨_, _, z⟩
  · rw [z] at e
    cases e
  · rw [z] at e
    cases e
    rfl
theorem facts_of {P : Program} {w : World} {K : PySem.W.Frag} {h : Heap} {mg : Str → Option Value} {f : Addr} (X : K.In h) (G : h.Ns mainGlobals mg) (hfa : mg ("law" : Str) = some (.ref f)) (c : He.SaysD faL fnL K) (cx : ∀ (i : Nat) {f : PySem.W.Frag → Bool}, exL[i]? = some f → f K = true) :
    ∃ fd : FuncData, (∀ (s : Shared) (v : Value), BindsTo s fd ⟨[v], []⟩ [("_law_script", v)]) ∧ ∀ base : Heap, K.In base → base.Ns mainGlobals mg → FnOk P w K mg base CXQ 7 f fd ["_law_script"] (sp_law K) := by
  have T := tx_of X G c cx
  have exm_BadForm : PySem.W.exmOne K (.ref (He.ga K "BadForm")) (.ref (He.ga K "BadForm")) = some true := He.exm_ok (c.fact 56 (f := .exm "BadForm" "BadForm" true) rfl)
  have exm_NotAllowed : PySem.W.exmOne K (.ref (He.ga K "NotAllowed")) (.ref (He.ga K "NotAllowed")) = some true := He.exm_ok (c.fact 57 (f := .exm "NotAllowed" "NotAllowed" true) rfl)
  obtain ⟨fd_pack, F_pack⟩ := c.def_ 0 (d := d_pack) rfl
  obtain ⟨fd_number_of, F_number_of⟩ := c.def_ 1 (d := d_number_of) rfl
  obtain ⟨fd_part_at, F_part_at⟩ := c.def_ 2 (d := d_part_at) rfl
  obtain ⟨fd_unpack, F_unpack⟩ := c.def_ 3 (d := d_unpack) rfl
  obtain ⟨fd_is_name, F_is_name⟩ := c.def_ 4 (d := d_is_name) rfl
  obtain ⟨fd_is_record_text, F_is_record_text⟩ := c.def_ 5 (d := d_is_record_text) rfl
  obtain ⟨fd_are_holders, F_are_holders⟩ := c.def_ 6 (d := d_are_holders) rfl
  obtain ⟨fd_Record___init__, F_Record___init__⟩ := c.def_ 7 (d := d_Record___init__) rfl
  obtain ⟨fd_record_value, F_record_value⟩ := c.def_ 8 (d := d_record_value) rfl
  obtain ⟨fd_record_from_value, F_record_from_value⟩ := c.def_ 9 (d := d_record_from_value) rfl
  obtain ⟨fd__law_stream, F__law_stream⟩ := c.def_ 10 (d := d__law_stream) rfl
  obtain ⟨fd__law_pick, F__law_pick⟩ := c.def_ 11 (d := d__law_pick) rfl
  obtain ⟨fd__law_signs, F__law_signs⟩ := c.def_ 12 (d := d__law_signs) rfl
  obtain ⟨fd__law_text, F__law_text⟩ := c.def_ 13 (d := d__law_text) rfl
  obtain ⟨fd__law_is_name, F__law_is_name⟩ := c.def_ 14 (d := d__law_is_name) rfl
  obtain ⟨fd__law_number, F__law_number⟩ := c.def_ 15 (d := d__law_number) rfl
  obtain ⟨fd__law_parts, F__law_parts⟩ := c.def_ 16 (d := d__law_parts) rfl
  obtain ⟨fd__law_good, F__law_good⟩ := c.def_ 17 (d := d__law_good) rfl
  obtain ⟨fd__law_value, F__law_value⟩ := c.def_ 18 (d := d__law_value) rfl
  obtain ⟨fd__law_row, F__law_row⟩ := c.def_ 19 (d := d__law_row) rfl
  obtain ⟨fd__law_is, F__law_is⟩ := c.def_ 20 (d := d__law_is) rfl
  obtain ⟨fd__law_made, F__law_made⟩ := c.def_ 21 (d := d__law_made) rfl
  obtain ⟨fd__law_read, F__law_read⟩ := c.def_ 22 (d := d__law_read) rfl
  obtain ⟨fd__law_spoilt, F__law_spoilt⟩ := c.def_ 23 (d := d__law_spoilt) rfl
  obtain ⟨fd_law, F_law⟩ := c.def_ 24 (d := d_law) rfl
  have e := hfa.symm.trans (He.glo_ok X G (c.fact 58 (f := .glo "law") rfl))
  cases e
  have b := FunD.bindsA (ps := ["_law_script"]) F_law fun _ _ _ _ _ _ us hl => match us, hl with | [_], _ => rfl
  refine ⟨fd_law, fun s v => b s [v] rfl, fun base _ _ => ?_⟩
  have K_pack : Kn P w K mg base 1 (He.fAd K ("pack", none)) ["parts"] (sp_pack K) := ok_pack (k := 0) T F_pack (by walk_at "zlen") (pure_pack K w)
  have K_number_of : Kn P w K mg base 1 (He.fAd K ("number_of", none)) ["text"] (sp_number_of K) := ok_number_of (k := 0) T F_number_of (by walk_at "zlen") (pure_number_of K w)
  have K_part_at : Kn P w K mg base 2 (He.fAd K ("part_at", none)) ["text", "start"] (sp_part_at K) := ok_part_at (k := 1) T F_part_at K_number_of (by decide) (by walk_at "zlen") (pure_part_at K w)
  have K_unpack : Kn P w K mg base 3 (He.fAd K ("unpack", none)) ["text"] (sp_unpack K) := ok_unpack (k := 2) T F_unpack K_part_at (by decide) (by walk_at "zlen") (pure_unpack K w)
  have K_is_name : Kn P w K mg base 1 (He.fAd K ("is_name", none)) ["text"] sp_is_name := ok_is_name (k := 0) T F_is_name (by walk_at "zlen") (pure_is_name K w)
  have K_is_record_text : Kn P w K mg base 1 (He.fAd K ("is_record_text", none)) ["text"] sp_is_record_text := ok_is_record_text (k := 0) T F_is_record_text (by walk_at "zlen") (pure_is_record_text K w)
  have K_are_holders : Kn P w K mg base 2 (He.fAd K ("are_holders", none)) ["names"] sp_are_holders := ok_are_holders (k := 1) T F_are_holders K_is_name (by decide) (by walk_at "zlen") (pure_are_holders K w)
  have K_Record___init__ : Kn P w K mg base 3 (He.fAd K ("Record", some "__init__")) ["self", "x", "y", "label", "text", "holders", "due"] (sp_rec_init K) := ok_Record___init__ (k := 2) T F_Record___init__ K_is_record_text (by decide) K_are_holders (by decide) (by walk_at "zlen") (pure_rec_init K w)
  have K_record_value : Kn P w K mg base 2 (He.fAd K ("record_value", none)) ["record"] (sp_record_value K) := ok_record_value (k := 1) T F_record_value K_pack (by decide) (by walk_at "zlen") (pure_record_value K w)
  have K_record_from_value : KnL P w K mg base 5 (He.fAd K ("record_from_value", none)) ["text"] (sp_from K) := ok_record_from_value (k := 3) T F_record_from_value K_unpack (by decide) K_number_of (by decide) K_Record___init__ (by decide) (by walk_at "zlen") (pure_record_from_value K w exm_NotAllowed)
  have K__law_stream : Kn P w K mg base 1 (He.fAd K ("_law_stream", none)) ["_law_script"] (sp_stream K) := ok__law_stream (k := 0) T F__law_stream (by walk_at "zlen") (pure_stream K w)
  have K__law_pick : Kn P w K mg base 1 (He.fAd K ("_law_pick", none)) ["_law_numbers", "_law_at", "_law_many"] sp_pick := ok__law_pick (k := 0) T F__law_pick (by walk_at "zlen") (pure_pick K w)
  have K__law_signs : Kn P w K mg base 1 (He.fAd K ("_law_signs", none)) [] sp_signs := ok__law_signs (k := 0) T F__law_signs (by walk_at "zlen") (pure_signs K w)
  have K__law_text : Kn P w K mg base 2 (He.fAd K ("_law_text", none)) ["_law_numbers", "_law_at", "_law_size", "_law_wide"] sp_text := ok__law_text (k := 1) T F__law_text K__law_signs (by decide) K__law_pick (by decide) (by walk_at "zlen") (pure_text K w)
  have K__law_is_name : Kn P w K mg base 1 (He.fAd K ("_law_is_name", none)) ["_law_text_here"] sp_lname := ok__law_is_name (k := 0) T F__law_is_name (by walk_at "zlen") (pure_lname K w)
  have KH__law_is_name : KnH P w K mg base 1 (He.fAd K ("_law_is_name", none)) ["_law_text_here"] sp_lname := okH__law_is_name (k := 0) T F__law_is_name (by walk_at "zlen") (pure_lname K w)
  have K__law_number : Kn P w K mg base 1 (He.fAd K ("_law_number", none)) ["_law_text_here"] sp_lnum := ok__law_number (k := 0) T F__law_number (by walk_at "zlen") (pure_lnum K w)
  have K__law_parts : Kn P w K mg base 2 (He.fAd K ("_law_parts", none)) ["_law_text_here"] sp_lparts := ok__law_parts (k := 1) T F__law_parts K__law_number (by decide) (by walk_at "zlen") (pure_lparts K w)
  have K__law_good : Kn P w K mg base 2 (He.fAd K ("_law_good", none)) ["_law_row_here"] sp_lgood := ok__law_good (k := 1) T F__law_good K__law_is_name (by decide) (by walk_at "zlen") (pure_lgood K w)
  have KH__law_good : KnH P w K mg base 2 (He.fAd K ("_law_good", none)) ["_law_row_here"] sp_lgood := okH__law_good (k := 1) T F__law_good KH__law_is_name (by decide) (by walk_at "zlen") (pure_lgood K w)
  have K__law_value : Kn P w K mg base 1 (He.fAd K ("_law_value", none)) ["_law_row_here"] sp_lvalue := ok__law_value (k := 0) T F__law_value (by walk_at "zlen") (pure_lvalue K w)
  have K__law_row : Kn P w K mg base 3 (He.fAd K ("_law_row", none)) ["_law_text_here"] sp_lrow := ok__law_row (k := 2) T F__law_row K__law_parts (by decide) K__law_number (by decide) K__law_good (by decide) (by walk_at "zlen") (pure_lrow K w)
  have K__law_is : Kn P w K mg base 3 (He.fAd K ("_law_is", none)) ["_law_record", "_law_row_here"] (sp_lis K) := ok__law_is (k := 2) T F__law_is K_record_value (by decide) K__law_value (by decide) (by walk_at "zlen") (pure_lis K w)
  have K__law_made : Kn P w K mg base 5 (He.fAd K ("_law_made", none)) ["_law_row_here"] sp_lmade := ok__law_made (k := 3) T F__law_made K_Record___init__ (by decide) K__law_good (by decide) K__law_is (by decide) KH__law_good (by decide) (by walk_at "zlen") (pure_lmade K w exm_NotAllowed)
  have K__law_read : Kn P w K mg base 6 (He.fAd K ("_law_read", none)) ["_law_text_here"] sp_lread := ok__law_read (k := 5) T F__law_read K__law_row (by decide) K_record_from_value (by decide) K__law_is (by decide) (by walk_at "zlen") (pure_lread K w exm_BadForm)
  have K__law_spoilt : Kn P w K mg base 2 (He.fAd K ("_law_spoilt", none)) ["_law_numbers", "_law_text_here"] sp_lspoilt := ok__law_spoilt (k := 1) T F__law_spoilt K__law_pick (by decide) (by walk_at "zlen") (pure_lspoilt K w)
  exact fnOk_cx (ok_law (k := 6) T F_law K__law_stream (by decide) K__law_pick (by decide) K__law_text (by decide) K__law_made (by decide) K__law_read (by decide) K__law_value (by decide) K__law_spoilt (by decide) K_is_record_text (by decide) (by walk_at "zlen") (pure_law K w))
abbrev RR : PySem.W.OpenRow := PySem.W.OpenLaw.row PySem.Challenge.rw_lethe_k11_records_written
def looseL : List Str := [("__name__" : Str), ("LetheError" : Str), ("NotAllowed" : Str), ("BadForm" : Str), ("Full" : Str), ("MOST_DIGITS" : Str), ("pack" : Str), ("number_of" : Str), ("part_at" : Str), ("unpack" : Str), ("MAX_NAME" : Str), ("is_name" : Str)] ++ [("MAX_RECORDS" : Str), ("MAX_HOLDERS" : Str), ("MAX_TEXT" : Str), ("MOST_COORDINATE" : Str), ("MOST_LABEL" : Str), ("is_record_text" : Str), ("are_holders" : Str), ("Record" : Str), ("record_value" : Str), ("record_from_value" : Str), ("_law_stream" : Str), ("_law_pick" : Str)] ++ [("_law_signs" : Str), ("_law_text" : Str), ("_law_is_name" : Str), ("_law_number" : Str), ("_law_parts" : Str), ("_law_good" : Str), ("_law_value" : Str), ("_law_row" : Str), ("_law_is" : Str), ("_law_made" : Str), ("_law_read" : Str), ("_law_spoilt" : Str)]
abbrev hkL : PySem.W.Hook := hookZ 4 faL fnL exL
def obL (s : PySem.W.SharedT) : AlZ := obsZG 4 faL fnL exL (HandSHeadRun.getT s)
theorem obL_eq (s : PySem.W.SharedT) : obL s = hkL.obs s.abs := obsZG_eq (HandSHeadRun.getT_eq s)
theorem runL (w : World) : HandSHeadRun.RunEq RR (PySem.W.view RR.prog [40]) hkL obL 6000 looseL w := by
  intro os
  kernel_rfl
end Z
open PySem PySem.W PySem.Calls PyProof.Rows
theorem PySem.Challenge.cw_lethe_k11_records_written_holds : PySem.Challenge.rw_lethe_k11_records_written.Holds := by
  w_on; o_law
  refine HandSHeadRun.head_any (r := OpenLaw.row PySem.Challenge.rw_lethe_k11_records_written) (q := view (OpenLaw.row PySem.Challenge.rw_lethe_k11_records_written).prog [40]) (H := Z.hkL) (ob := Z.obL) (M := 6000) (loose := Z.looseL) (d := HandSHeadRun.topDef (OpenLaw.row PySem.Challenge.rw_lethe_k11_records_written).prog 40) (kwd := []) Z.obL_eq
    (by kernel_rfl) (fun s => by kernel_rfl) Z.runL (by kernel_rfl) (by kernel_rfl) (by kernel_rfl) (by rfl) (by first | assumption | decide +kernel) (by decide +kernel) ⟨rfl, rfl, rfl, rfl, rfl, by decide +kernel⟩ ?hw ?hc
  case hw => w_witness2
  case hc =>
    refine L2.walk_ofE (l := PySem.Challenge.rw_lethe_k11_records_written) (n := 63) (k := Z.levL) (x := "_law_script") (CX := Z.CXQ) rfl (by decide) (by kernel_rfl) ⟨rfl, by decide, by decide⟩ ?F (fun _ _ _ _ z => by obtain ⟨_, _, _, z⟩ := z; exact z)
    intro w mg fa h Y G hmg0
    obtain ⟨K, KX, c⟩ := Y
    have hmg : mg ("law" : PySem.Str) = some (.ref fa) := by
      have e : (HandSHeadRun.topDef (OpenLaw.row PySem.Challenge.rw_lethe_k11_records_written).prog 40).name = ("law" : PySem.Str) := by kernel_rfl
      rw [← e]
      exact hmg0
    obtain ⟨fd, hb, hF⟩ := Z.facts_of (P := (PySem.Challenge.rw_lethe_k11_records_written).prog) (w := w) KX G hmg (Z.says1 c) (fun i f => Z.says2 c i)
    exact ⟨K, fd, Z.sp_law K, KX, hb, fun H a ns hl hO hS => ⟨a, ns, rfl, hS, Z.noDT_only hO, rfl⟩, hF⟩
