import PyProof.Rows.All
import Wide.All
import OpenK.AllK
import Wide.FinOn
import HandS.ForMost
import HandS.Exc
import HandS.TryOnly
import HandS.ExcOwn
import HandS.WordsExc
import HandS.Deep
import HandS.Wide
import HandS.Conv
import HandS.ExcCtx
import HandS.HotCalls
import HandS.ExcIs
import HandS.SuiteRaise
import HandS.More
import KE.KExcRaise
import HandS.IsInst
import HandS.Steps
import HandS.StrMore
import HandS.AnyAll
import PySem.Challenge.RW_evenwear_k18_whole_desk
set_option Elab.async false
set_option linter.all false
set_option maxRecDepth 100000
set_option maxHeartbeats 4000000
namespace Ew
open PySem PySem.Spec PyProof.Rows L2
abbrev zAdd : R2 := rI0 fun i j => .int (i + j)
abbrev zSub : R2 := rI0 fun i j => .int (i - j)
abbrev zMul : R2 := rI CMul fun i j => .int (i * j)
abbrev zMulW : R2 := rI CMulW fun i j => .int (i * j)
abbrev zDiv : R2 := rI CDiv fun i j => .int (i / j)
abbrev zDivW : R2 := rI CDivW fun i j => .int (i / j)
abbrev zMod : R2 := rI (fun _ j => 0 < j) fun i j => .int (i % j)
abbrev zPow : R2 := rI CPow fun i j => .int (i ^ j.toNat)
abbrev zLt : R2 := rI0 fun i j => .bl (decide (i < j))
abbrev zLe : R2 := rI0 fun i j => .bl (decide (i ≤ j))
abbrev zGt : R2 := rI0 fun i j => .bl (decide (j < i))
abbrev zGe : R2 := rI0 fun i j => .bl (decide (j ≤ i))
abbrev zIsN : R2 := fun x y H Q => y = .non ∧ Q (.bl (decide (x = .non))) H
abbrev zNotN : R2 := fun x y H Q => y = .non ∧ Q (.bl (!decide (x = .non))) H
abbrev zAddS : R2 := fun x y H Q => ∃ i j, x = .str i ∧ y = .str j ∧ i.length + j.length ≤ sizeLine ∧ Q (.str (i ++ j)) H
abbrev zMax2 : List V → Hp → VK → Prop := fun xs H Q => ∃ i j, xs = [.int i, .int j] ∧ Q (.int (if j > i then j else i)) H
abbrev zMin2 : List V → Hp → VK → Prop := fun xs H Q => ∃ i j, xs = [.int i, .int j] ∧ Q (.int (if j < i then j else i)) H
abbrev zLen (K : PySem.W.Frag) : List V → Hp → VK → Prop := fun xs H Q => ∃ p ys, xs = [.ref p] ∧ (SqL K H p ys ∨ SqT K H p ys) ∧ Q (.int ys.length) H
abbrev zLenS : List V → Hp → VK → Prop := fun xs H Q => ∃ z, xs = [.str z] ∧ z.length ≤ sizeLine ∧ Q (.int z.length) H
abbrev zInt1 : List V → Hp → VK → Prop := fun xs H Q => (∃ i, xs = [.int i] ∧ Q (.int i) H) ∨ ∃ k, xs = [.bl k] ∧ Q (.int (if k then 1 else 0)) H
abbrev zStrI : List V → Hp → VK → Prop := fun xs H Q => ∃ i, xs = [.int i] ∧ i.natAbs.log2 < 1920 ∧ Q (.str (toString i)) H
abbrev zList (K : PySem.W.Frag) : List V → Hp → VK → Prop := fun xs H Q => ∃ p ys, xs = [.ref p] ∧ (SqL K H p ys ∨ SqT K H p ys) ∧ ∀ l, H l = none → Q (.ref l) (upd H l (.lst ys))

structure DefM (P : Program) (w : World) (K : PySem.W.Frag) (mg : Str → Option Value) (base : Heap) (k : Nat) (C : Addr) (m : Str) (sp : Sp) : Prop where
  ex : ∃ (f : Addr) (fd : FuncData) (ps : List Str), Meth K C m f ∧ FnOk P w K mg base (L2N.CX P w) k f fd ps sp ∧ Binds K fd ps []
structure DefF (P : Program) (w : World) (K : PySem.W.Frag) (mg : Str → Option Value) (base : Heap) (k : Nat) (x : Str) (sp : Sp) : Prop where
  ex : ∃ (f : Addr) (fd : FuncData) (ps : List Str), mg x = some (.ref f) ∧ PySem.W.keepIn K (.ref f) = true ∧ FnOk P w K mg base (L2N.CX P w) k f fd ps sp ∧ Binds K fd ps []
structure DefC (P : Program) (w : World) (K : PySem.W.Frag) (mg : Str → Option Value) (base : Heap) (k : Nat) (x : Str) (C : Addr) (sp : Sp) : Prop where
  ex : ∃ (f : Addr) (fd : FuncData) (ps : List Str), Mk K C f ∧ mg x = some (.ref C) ∧ FnOk P w K mg base (L2N.CX P w) k f fd ps sp ∧ Binds K fd ps []
section
variable {X : Cx} {k j : Nat} {C : Addr} {x m : Str} {sp : Sp} {E : XK} {ES : L2.St → XK} {p pos apos : Pos} {e o : Expr} {es : List Expr} {ta : TE} {t : TA}
theorem pm {pl : Sem Bool} (D : DefM X.prog X.w X.K X.mg X.base k C m sp) (c : Cls X.K C) (hr : Room j X.A) (hk : k ≤ j) (hx : Passes (L2N.CX X.prog X.w) X E) (he : PE X o ta) (ha : PA X (e :: es) t)
    (hst : starEach (e :: es) X.env = (false, eval e X.env) :: starEach es X.env := by rfl) (hpl : (backTo pos (starEach es X.env)).any (·.1) = false := by rfl)
    (ht : eval (.Call (.Attribute o m apos) (e :: es) [] pos) X.env = (do
      let ov ← eval o X.env
      standAt apos.atName
      let (f, first) ← holding [ov] (getMethod ov m pl)
      callWith pos f first (backTo pos (starEach (e :: es) X.env)) (backToKw pos (keywordEach [] X.env))) := by rfl) :
    PE X (.Call (.Attribute o m apos) (e :: es) [] pos) (tMeth C m sp [] E ta t) := by
  obtain ⟨f, fd, ps, hm, F, hb⟩ := D.ex
  exact pe_meth he c hm F (hr.mono hk) hb .nil hx ha hst hpl ht
theorem pm0 {pl : Sem Bool} (D : DefM X.prog X.w X.K X.mg X.base k C m sp) (c : Cls X.K C) (hr : Room j X.A) (hk : k ≤ j) (hx : Passes (L2N.CX X.prog X.w) X E) (he : PE X o ta)
    (ht : eval (.Call (.Attribute o m apos) [] [] pos) X.env = (do
      let ov ← eval o X.env
      standAt apos.atName
      let (f, first) ← holding [ov] (getMethod ov m pl)
      callWith pos f first (backTo pos (starEach [] X.env)) (backToKw pos (keywordEach [] X.env))) := by rfl) :
    PE X (.Call (.Attribute o m apos) [] [] pos) (tMeth C m sp [] E ta tNil) := by
  obtain ⟨f, fd, ps, hm, F, hb⟩ := D.ex
  exact pe_meth0 he c hm F (hr.mono hk) hb .nil hx ht
theorem pf (D : DefF X.prog X.w X.K X.mg X.base k x sp) (hr : Room j X.A) (hk : k ≤ j) (hx : Passes (L2N.CX X.prog X.w) X E) (hg : Gl X x) (ha : PA X (e :: es) t)
    (hdb : (x == ("__debug__" : Str)) = false := by decide) (he : starEach (e :: es) X.env = (false, eval e X.env) :: starEach es X.env := by rfl) (hpl : (backTo pos (starEach es X.env)).any (·.1) = false := by rfl) :
    PE X (.Call (.Name x p) (e :: es) [] pos) (tCall sp [] E t) := by
  obtain ⟨f, fd, ps, hm, kp, F, hb⟩ := D.ex
  exact pe_call F (hr.mono hk) hg hm kp hb .nil hx ha hdb he hpl
theorem pf0 (D : DefF X.prog X.w X.K X.mg X.base k x sp) (hr : Room j X.A) (hk : k ≤ j) (hx : Passes (L2N.CX X.prog X.w) X E) (hg : Gl X x) (hdb : (x == ("__debug__" : Str)) = false := by decide) :
    PE X (.Call (.Name x p) [] [] pos) (tCall sp [] E tNil) := by
  obtain ⟨f, fd, ps, hm, kp, F, hb⟩ := D.ex
  exact pe_call0 F (hr.mono hk) hg hm kp hb .nil hx hdb
theorem pc (D : DefC X.prog X.w X.K X.mg X.base k x C sp) (hr : Room j X.A) (hk : k + 1 ≤ j) (hx : Passes (L2N.CX X.prog X.w) X E) (hg : Gl X x) (ha : PA X (e :: es) t)
    (hdb : (x == ("__debug__" : Str)) = false := by decide) (he : starEach (e :: es) X.env = (false, eval e X.env) :: starEach es X.env := by rfl) (hpl : (backTo pos (starEach es X.env)).any (·.1) = false := by rfl) :
    PE X (.Call (.Name x p) (e :: es) [] pos) (tMake C sp [] E t) := by
  obtain ⟨f, fd, ps, M, hm, F, hb⟩ := D.ex
  exact pe_make M F (hr.mono hk) hg hm hb .nil hx ha hdb he hpl
theorem pc0 (D : DefC X.prog X.w X.K X.mg X.base k x C sp) (hr : Room j X.A) (hk : k + 1 ≤ j) (hx : Passes (L2N.CX X.prog X.w) X E) (hg : Gl X x) (hdb : (x == ("__debug__" : Str)) = false := by decide) :
    PE X (.Call (.Name x p) [] [] pos) (tMake C sp [] E tNil) := by
  obtain ⟨f, fd, ps, M, hm, F, hb⟩ := D.ex
  exact pe_make0 M F (hr.mono hk) hg hm hb .nil hx hdb
theorem pfS (D : DefF X.prog X.w X.K X.mg X.base k x sp) (hr : Room j X.A) (hk : k ≤ j) (hx : ∀ σ, PassesAt (L2N.CX X.prog X.w) X σ (ES σ)) (hg : Gl X x) (ha : PA X (e :: es) t)
    (hdb : (x == ("__debug__" : Str)) = false := by decide) (he : starEach (e :: es) X.env = (false, eval e X.env) :: starEach es X.env := by rfl) (hpl : (backTo pos (starEach es X.env)).any (·.1) = false := by rfl) :
    PE X (.Call (.Name x p) (e :: es) [] pos) (tCallS sp ES t) := by
  obtain ⟨f, fd, ps, hm, kp, F, hb⟩ := D.ex
  exact pe_callS F (hr.mono hk) hg hm kp hb hx ha hdb he hpl
def tMethS (C : Addr) (m : Str) (sp : Sp) (E : L2.St → XK) (ta : TE) (t : TA) : TE := fun σ H Q => ta σ H fun x H1 => ∃ a dx fs, x = .ref a ∧ H1 a = some (.ins C dx fs) ∧ fs.lookup m = none ∧ t σ H1 fun vs H2 => sp (x :: vs) H2 Q (E σ)
theorem pmS {pl : Sem Bool} (D : DefM X.prog X.w X.K X.mg X.base k C m sp) (c : Cls X.K C) (hr : Room j X.A) (hk : k ≤ j) (hx : ∀ σ, PassesAt (L2N.CX X.prog X.w) X σ (ES σ)) (he : PE X o ta) (ha : PA X (e :: es) t)
    (hst : starEach (e :: es) X.env = (false, eval e X.env) :: starEach es X.env := by rfl) (hpl : (backTo pos (starEach es X.env)).any (·.1) = false := by rfl)
    (ht : eval (.Call (.Attribute o m apos) (e :: es) [] pos) X.env = (do
      let ov ← eval o X.env
      standAt apos.atName
      let (f, first) ← holding [ov] (getMethod ov m pl)
      callWith pos f first (backTo pos (starEach (e :: es) X.env)) (backToKw pos (keywordEach [] X.env))) := by rfl) :
    PE X (.Call (.Attribute o m apos) (e :: es) [] pos) (tMethS C m sp ES ta t) := by
  obtain ⟨f, fd, ps, hm, F, hb⟩ := D.ex
  refine ⟨fun pins s σ H Q I h => ?_⟩
  refine PySem.W.methodCall_KW (pl := pl) (thn (he.run pins s σ H _ I h) fun u s1 ⟨x, H1, I1, rx, a, dx, fs, ex, ea, l, q⟩ => ?_) ht
  subst ex
  obtain rfl : u = Value.ref a := rx
  refine getmeth_ok I1 ea c hm l ?_
  refine PySem.W.callWith_K (first := [.ref a]) (h₀ := X.base) I.ok.mod.kin hm.kp (thn (ha.run pos pins s1 σ H1 _ I1 q) fun us s2 ⟨vs, H2, I2, r, q2⟩ => ⟨I2.kIn, ?_⟩) hst hpl
  exact run_fnS (us := .ref a :: us) (vs := .ref a :: vs) F (hr.mono hk) hb (hx σ) I2 (.cons rfl r) q2
theorem pe_gint {i : Int} (h : ∃ t, X.mg x = some (.int i t)) (hg : Gl X x) (hd : (x == ("__debug__" : Str)) = false := by decide) : PE X (.Name x pos) (tC (.int i)) := by
  obtain ⟨t, h⟩ := h
  exact pe_glob hg h ⟨_, rfl⟩ hd
theorem pe_gstr {z : Str} (h : ∃ t, X.mg x = some (.str z t)) (hg : Gl X x) (hd : (x == ("__debug__" : Str)) = false := by decide) : PE X (.Name x pos) (tC (.str z)) := by
  obtain ⟨t, h⟩ := h
  exact pe_glob hg h ⟨_, rfl⟩ hd
end
structure ExcT (K : PySem.W.Frag) (mg : Str → Option Value) (x : Str) (C : Addr) : Prop where
  ex : PySem.W.excIn K C [.type "ValueError", .type "Exception", .type "BaseException", .type "object"] "ValueError.__new__" = true
  g : mg x = some (.ref C)
  kp : PySem.W.keepIn K (.ref C) = true
  sb : PySem.W.subIn K (.ref C) (.type "BaseException") = some true
  ty : PySem.W.typeIn K (.ref C) = some (.type "type")
def tRaise (C : Addr) (E : XK) : TS := fun _ _ H => E (.ref C) none H
theorem pr_raise {X : Cx} {E : XK} {x m : Str} {C : Addr} {j : Nat} {p p2 pos pos' : Pos} (T : ExcT X.K X.mg x C) (hc : X.calm = true) (tk : L2N.Takes X (fun cls d _ H => E cls d H)) (hg : Gl X x)
    (hdb : (x == ("__debug__" : Str)) = false := by decide) : PS X (.Raise (some (.Call (.Name x p) [.Constant (.str m) j p2] [] pos)) none pos') (tRaise C E) :=
  L2N.ps_raise hc tk (L2N.pmk_own PySem.F.excBase_ValueError T.ex T.g T.kp (raises_own T.sb T.ty) hg hdb)
theorem passLN {X : Cx} : Passes (L2N.CX X.prog X.w) X E0 := fun _ _ _ _ _ _ _ h => by
  obtain ⟨_, _, _, _, _, _, _, _, _, _, _, _, z⟩ := h
  exact z.elim
theorem Fun.okN {P : Program} {w : World} {K : PySem.W.Frag} {mg : Str → Option Value} {base : Heap} {x qual : Str} {st : Stmt} {f : Addr} {fd : FuncData} {N ps : List Str} {k : Nat} {sp : Sp} (F : Fun K x qual st f fd) (S : FnScope N ps (defScope st)) (len : ∀ vs H Q E, sp vs H Q E → vs.length = ps.length)
    (hbody : ∀ (cdv : Value) (A : Around) (outer : List Env) (s : Shared) (H : Hp) (vs : List V) (Q : VK) (E : XK), Room k (A.deeper (envOfC qual (defScope st) s.heap.objs.size f cdv)) → sp vs H Q E →
      ∃ t, PSs (cxOf (L2N.CX P w) P w K mg base N qual (defScope st) f cdv A outer s H E) (defBody st) t ∧ t { nx := fun _ H' => Q .non H', rt := Q } (start N vs) H) : FnOk P w K mg base (L2N.CX P w) (k + 1) f fd ps sp := by
  obtain ⟨oc, od, kV, doc, pm, an, cdv, ct, osl, rfl, lk, hcd⟩ := F.ex
  exact fn_of lk hcd S len fun A outer s H vs Q E hr hsp => hbody cdv A outer s H vs Q E hr hsp

def OkD (k : Nat) (d : PyData) : Prop := d.canLay0 = true ∧ d.depth ≤ k
theorem OkD.mono {j k : Nat} {d : PyData} (h : OkD j d) (hk : j ≤ k) : OkD k d := ⟨h.1, Nat.le_trans h.2 hk⟩
theorem OkD.non : OkD 0 .none := ⟨by simp [PyData.canLay0], by simp [PyData.depth]⟩
theorem OkD.bl {b : Bool} : OkD 0 (.bool b) := ⟨by simp [PyData.canLay0], by simp [PyData.depth]⟩
theorem OkD.int {i : Int} : OkD 0 (.int i) := ⟨by simp [PyData.canLay0], by simp [PyData.depth]⟩
theorem OkD.str {x : Str} (h : PyData.strOk x = true) : OkD 0 (.str x) := ⟨by simp [PyData.canLay0, h], by simp [PyData.depth]⟩
theorem okAll {k : Nat} : ∀ {ds : List PyData}, (∀ d ∈ ds, OkD k d) → PyData.canLayAll0 ds = true ∧ PyData.depthAll ds ≤ k
  | [], _ => by simp [PyData.canLayAll0, PyData.depthAll]
  | d :: ds, h => by
    have h1 := h d List.mem_cons_self
    have h2 := okAll fun x hx => h x (List.mem_cons_of_mem _ hx)
    have a1 := h1.2
    have a2 := h2.2
    simp only [PyData.canLayAll0, PyData.depthAll, h1.1, h2.1, Bool.and_self, true_and]
    omega
theorem OkD.list {k : Nat} {ds : List PyData} (h : ∀ d ∈ ds, OkD k d) : OkD (k + 1) (.list ds) := by
  obtain ⟨h1, h2⟩ := okAll h
  refine ⟨by simp only [PyData.canLay0]; exact h1, ?_⟩
  simp only [PyData.depth]
  omega
theorem OkD.tup {k : Nat} {ds : List PyData} (h : ∀ d ∈ ds, OkD k d) : OkD (k + 1) (.tuple ds) := by
  obtain ⟨h1, h2⟩ := okAll h
  refine ⟨by simp only [PyData.canLay0]; exact h1, ?_⟩
  simp only [PyData.depth]
  omega
theorem OkD.sh {k : Nat} {d : PyData} (h : OkD k d) (hk : k ≤ 64 := by decide) : SeqAt.shaped d = true := by
  show (d.canLay0 && decide (d.depth ≤ 64)) = true
  rw [Bool.and_eq_true]
  exact ⟨h.1, decide_eq_true (Nat.le_trans h.2 hk)⟩
theorem OkD.ints {ns : List Int} : ∀ d ∈ ns.map PyData.int, OkD 0 d := fun d hd => by
  obtain ⟨i, _, rfl⟩ := List.mem_map.mp hd
  exact OkD.int
theorem OkD.tupI {ns : List Int} : OkD 1 (.tuple (ns.map PyData.int)) := OkD.tup OkD.ints
theorem OkD.listI {ns : List Int} : OkD 1 (.list (ns.map PyData.int)) := OkD.list OkD.ints
theorem strOk_torn : PyData.strOk "torn" = true := by decide +kernel
mutual
def plainD : PyData → Bool
  | .none | .int _ | .str _ => true
  | .bool _ => false
  | .list xs | .tuple xs => plainDs xs
  | .dict _ => false
def plainDs : List PyData → Bool
  | [] => true
  | x :: xs => plainD x && plainDs xs
end
mutual
theorem eqv_true : ∀ (d e : PyData), plainD d = true → plainD e = true → PyData.eqv d e = true → d = e
  | .none, e, _, he, h => by cases e <;> simp [PyData.eqv, plainD] at h he ⊢
  | .int i, e, _, he, h => by cases e <;> simp_all [PyData.eqv, plainD]
  | .str i, e, _, he, h => by cases e <;> simp_all [PyData.eqv, plainD]
  | .bool b, e, hd, _, _ => by simp [plainD] at hd
  | .dict b, e, hd, _, _ => by simp [plainD] at hd
  | .list xs, e, hd, he, h => by
    cases e with
    | list ys =>
      simp only [PyData.eqv] at h
      simp only [plainD] at hd he
      rw [eqvAll_true xs ys hd he h]
    | _ => simp [PyData.eqv] at h
  | .tuple xs, e, hd, he, h => by
    cases e with
    | tuple ys =>
      simp only [PyData.eqv] at h
      simp only [plainD] at hd he
      rw [eqvAll_true xs ys hd he h]
    | _ => simp [PyData.eqv] at h
theorem eqvAll_true : ∀ (xs ys : List PyData), plainDs xs = true → plainDs ys = true → PyData.eqvAll xs ys = true → xs = ys
  | [], [], _, _, _ => rfl
  | [], y :: ys, _, _, h => by simp [PyData.eqvAll] at h
  | x :: xs, [], _, _, h => by simp [PyData.eqvAll] at h
  | x :: xs, y :: ys, hx, hy, h => by
    simp only [plainDs, Bool.and_eq_true] at hx hy
    simp only [PyData.eqvAll, Bool.and_eq_true] at h
    rw [eqv_true x y hx.1 hy.1 h.1, eqvAll_true xs ys hx.2 hy.2 h.2]
end
mutual
theorem eqv_self : ∀ d : PyData, plainD d = true → PyData.eqv d d = true
  | .none, _ => rfl
  | .int i, _ => by simp [PyData.eqv]
  | .str x, _ => by simp [PyData.eqv]
  | .bool b, h => by simp [plainD] at h
  | .dict b, h => by simp [plainD] at h
  | .list xs, h => by
    simp only [plainD] at h
    rw [PyData.eqv]; exact eqvAll_self xs h
  | .tuple xs, h => by
    simp only [plainD] at h
    rw [PyData.eqv]; exact eqvAll_self xs h
theorem eqvAll_self : ∀ xs : List PyData, plainDs xs = true → PyData.eqvAll xs xs = true
  | [], _ => rfl
  | x :: xs, h => by
    simp only [plainDs, Bool.and_eq_true] at h
    rw [PyData.eqvAll, eqv_self x h.1, eqvAll_self xs h.2]; rfl
end
theorem eqv_iff {d e : PyData} (hd : plainD d = true) (he : plainD e = true) : PyData.eqv d e = true ↔ d = e :=
  ⟨eqv_true d e hd he, fun h => by rw [← h]; exact eqv_self d hd⟩
theorem plainDs_ints : ∀ ns : List Int, plainDs (ns.map PyData.int) = true
  | [] => rfl
  | n :: ns => by
    show (plainD (.int n) && plainDs (ns.map PyData.int)) = true
    rw [plainDs_ints ns]; rfl
theorem dpAll_ints {K : PySem.W.Frag} {H : Hp} : ∀ ns : List Int, DpAll K H (ns.map V.int) (ns.map PyData.int)
  | [] => .nil
  | n :: ns => .cons (.int n) (dpAll_ints ns)
theorem map_int_inj : ∀ {ns ms : List Int}, ns.map PyData.int = ms.map PyData.int → ns = ms
  | [], [], _ => rfl
  | [], m :: ms, h => by cases h
  | n :: ns, [], h => by cases h
  | n :: ns, m :: ms, h => by
    have h1 : PyData.int n = PyData.int m := (List.cons.inj h).1
    have h2 := map_int_inj (List.cons.inj h).2
    injection h1 with h1
    rw [h1, h2]
theorem eqv_lists (ns ms : List Int) : PyData.eqv (.list (ns.map PyData.int)) (.list (ms.map PyData.int)) = decide (ns = ms) := by
  rw [Bool.eq_iff_iff, eqv_iff (by simp only [plainD]; exact plainDs_ints ns) (by simp only [plainD]; exact plainDs_ints ms), decide_eq_true_iff]
  refine ⟨fun h => ?_, fun h => by rw [h]⟩
  injection h with h
  exact map_int_inj h
theorem eqv_tups (ns ms : List Int) : PyData.eqv (.tuple (ns.map PyData.int)) (.tuple (ms.map PyData.int)) = decide (ns = ms) := by
  rw [Bool.eq_iff_iff, eqv_iff (by simp only [plainD]; exact plainDs_ints ns) (by simp only [plainD]; exact plainDs_ints ms), decide_eq_true_iff]
  refine ⟨fun h => ?_, fun h => by rw [h]⟩
  injection h with h
  exact map_int_inj h

theorem units65 {k : Nat} {A : Around} (hr : Room k A) : A.units + 65 < cLine := by have := hr.un; omega
structure Ad where
  chip : Addr
  disk : Addr
  desk : Addr
  badsize : Addr
  nopage : Addr
  noterased : Addr
  nosector : Addr
  badcontent : Addr
  cut : Addr
  nodisk : Addr
  badrow : Addr
  wear : Addr
  shapes : Addr
structure Blt (mg : Str → Option Value) : Prop where
  range : mg "range" = none
  len : mg "len" = none
  max : mg "max" = none
  min : mg "min" = none
  sum : mg "sum" = none
  any : mg "any" = none
  all : mg "all" = none
  enumerate : mg "enumerate" = none
  int : mg "int" = none
  str : mg "str" = none
  list : mg "list" = none
  dict : mg "dict" = none
  isinstance : mg "isinstance" = none
structure Glo (K : PySem.W.Frag) (mg : Str → Option Value) (A : Ad) : Prop where
  g_LEAST_BLOCKS : ∃ t, mg "LEAST_BLOCKS" = some (.int 4 t)
  g_MOST_BLOCKS : ∃ t, mg "MOST_BLOCKS" = some (.int 32 t)
  g_LEAST_PAGES : ∃ t, mg "LEAST_PAGES" = some (.int 2 t)
  g_MOST_PAGES : ∃ t, mg "MOST_PAGES" = some (.int 16 t)
  g_TORN : ∃ t, mg "TORN" = some (.str "torn" t)
  x_BadSize : ExcT K mg "BadSize" A.badsize
  x_NoPage : ExcT K mg "NoPage" A.nopage
  x_NotErased : ExcT K mg "NotErased" A.noterased
  x_NoSector : ExcT K mg "NoSector" A.nosector
  x_BadContent : ExcT K mg "BadContent" A.badcontent
  x_Cut : ExcT K mg "Cut" A.cut
  x_NoDisk : ExcT K mg "NoDisk" A.nodisk
  x_BadRow : ExcT K mg "BadRow" A.badrow
  g_MOST_FIGURES : ∃ t, mg "MOST_FIGURES" = some (.int 12 t)
  g_FIGURES : ∃ t, mg "FIGURES" = some (.str "0123456789" t)
  g_SHAPES : mg "SHAPES" = some (.ref A.shapes)
structure GloD (K : PySem.W.Frag) (mg : Str → Option Value) (A : Ad) : Prop where
  g_MOST_CONTENT : ∃ t, mg "MOST_CONTENT" = some (.int 999999999999 t)
structure Fac (K : PySem.W.Frag) (A : Ad) : Prop where
  cl_Chip : Cls K A.chip
  n_rows : NoAttr K A.chip "rows"
  n_wears : NoAttr K A.chip "wears"
  n_many : NoAttr K A.chip "many"
  n_left : NoAttr K A.chip "left"
  n_is_cut : NoAttr K A.chip "is_cut"

structure Fr (F : Addr → Prop) (H H' : Hp) : Prop where
  keep : ∀ b o, H b = some o → ¬ F b → H' b = some o
  tup : ∀ b xs, H b = some (.tup xs) → H' b = some (.tup xs)
  live : ∀ b, H' b = none → H b = none
theorem Fr.refl {F : Addr → Prop} {H : Hp} : Fr F H H := ⟨fun _ _ h _ => h, fun _ _ h => h, fun _ h => h⟩
theorem Fr.of_same {F : Addr → Prop} {H H' : Hp} (h : Same H H') : Fr F H H' := ⟨fun b o e _ => h b o e, fun b xs e => h b _ e, fun b e => h.free e⟩
theorem Fr.same {H H' : Hp} (h : Fr (fun _ => False) H H') : Same H H' := fun b o e => h.keep b o e id
theorem Fr.trans {F G : Addr → Prop} {H H1 H2 : Hp} (a : Fr F H H1) (b : Fr G H1 H2) (hs : ∀ x, G x → F x ∨ H x = none) : Fr F H H2 where
  keep := fun x o e n => b.keep x o (a.keep x o e n) fun g => by
    rcases hs x g with q | q
    · exact n q
    · rw [e] at q; cases q
  tup := fun x xs e => b.tup x xs (a.tup x xs e)
  live := fun x e => a.live x (b.live x e)
theorem Fr.mono {F G : Addr → Prop} {H H1 : Hp} (a : Fr F H H1) (hs : ∀ x, F x → G x ∨ H x = none) : Fr G H H1 := by
  have z : Fr G H H := .refl
  exact z.trans a hs
theorem Fr.new {F : Addr → Prop} {H : Hp} {p : Addr} {o : HO} (h : H p = none) : Fr F H (upd H p o) where
  keep := fun b u e _ => by rw [upd_ne (ne_of_none e h)]; exact e
  tup := fun b xs e => by rw [upd_ne (ne_of_none e h)]; exact e
  live := fun b e => by
    by_cases q : b = p
    · subst q; exact h
    · rw [upd_ne q] at e; exact e
theorem Fr.put {F : Addr → Prop} {H : Hp} {p : Addr} {o u : HO} (h : H p = some u) (f : F p) (nt : ∀ xs, u ≠ .tup xs) : Fr F H (upd H p o) where
  keep := fun b v e n => by rw [upd_ne (fun q => n (by rw [q]; exact f))]; exact e
  tup := fun b xs e => by
    rw [upd_ne (fun q => by rw [q, h] at e; exact nt xs (Option.some.inj e))]
    exact e
  live := fun b e => by
    by_cases q : b = p
    · subst q; rw [upd_same] at e; cases e
    · rw [upd_ne q] at e; exact e
theorem Same.new {H : Hp} {p : Addr} {o : HO} (h : H p = none) : Same H (upd H p o) := fun b u e => by rw [upd_ne (ne_of_none e h)]; exact e

structure CS where
  rows : List (List V)
  wears : List Int
  many : Int
  left : Option Int
  cut : Bool
  m : Nat
structure CD where
  p : Addr
  dx : Addr
  L : Addr
  W : Addr
  rs : List Addr
def cfp (d : CD) (b : Addr) : Prop := b = d.p ∨ b = d.L ∨ b = d.W ∨ b ∈ d.rs
def leftV : Option Int → V
  | none => .non
  | some n => .int n
def chipF (L W : Addr) (many : Int) (left : V) (cut : Bool) : List (Str × V) := [("rows", .ref L), ("wears", .ref W), ("many", .int many), ("left", left), ("is_cut", .bl cut)]
section
variable {L W : Addr} {many : Int} {left : V} {cut : Bool}
theorem chipF_rows : (chipF L W many left cut).lookup ("rows" : Str) = some (.ref L) := by simp [chipF, List.lookup]
theorem beq_no {a b : Str} (h : ¬ a = b) : (a == b) = false := beq_eq_false_iff_ne.mpr h
theorem n_wr : ("wears" : Str) ≠ "rows" := by decide +kernel
theorem n_mr : ("many" : Str) ≠ "rows" := by decide +kernel
theorem n_lr : ("left" : Str) ≠ "rows" := by decide +kernel
theorem n_cr : ("is_cut" : Str) ≠ "rows" := by decide +kernel
theorem n_mw : ("many" : Str) ≠ "wears" := by decide +kernel
theorem n_lw : ("left" : Str) ≠ "wears" := by decide +kernel
theorem n_cw : ("is_cut" : Str) ≠ "wears" := by decide +kernel
theorem n_lm : ("left" : Str) ≠ "many" := by decide +kernel
theorem n_cm : ("is_cut" : Str) ≠ "many" := by decide +kernel
theorem n_cl : ("is_cut" : Str) ≠ "left" := by decide +kernel
theorem chipF_wears : (chipF L W many left cut).lookup ("wears" : Str) = some (.ref W) := by simp [chipF, List.lookup, beq_no n_wr]
theorem chipF_many : (chipF L W many left cut).lookup ("many" : Str) = some (.int many) := by simp [chipF, List.lookup, beq_no n_mr, beq_no n_mw]
theorem chipF_left : (chipF L W many left cut).lookup ("left" : Str) = some left := by simp [chipF, List.lookup, beq_no n_lr, beq_no n_lw, beq_no n_lm]
theorem chipF_cut : (chipF L W many left cut).lookup ("is_cut" : Str) = some (.bl cut) := by simp [chipF, List.lookup, beq_no n_cr, beq_no n_cw, beq_no n_cm, beq_no n_cl]
theorem chipF_no {m : Str} (h1 : ¬ m = "rows") (h2 : ¬ m = "wears") (h3 : ¬ m = "many") (h4 : ¬ m = "left") (h5 : ¬ m = "is_cut") : (chipF L W many left cut).lookup m = none := by
  simp [chipF, List.lookup, beq_no h1, beq_no h2, beq_no h3, beq_no h4, beq_no h5]
theorem chipF_len : (chipF L W many left cut).length < 1000 := by show 5 < 1000; decide
theorem chipF_pr {L' : Addr} : putF "rows" (.ref L') (chipF L W many left cut) = chipF L' W many left cut := by simp [putF, chipF]
theorem chipF_pw {W' : Addr} : putF "wears" (.ref W') (chipF L W many left cut) = chipF L W' many left cut := by simp [putF, chipF, Ne.symm n_wr]
theorem chipF_pm {n : Int} : putF "many" (.int n) (chipF L W many left cut) = chipF L W n left cut := by simp [putF, chipF, Ne.symm n_mr, Ne.symm n_mw]
theorem chipF_pl {v : V} : putF "left" v (chipF L W many left cut) = chipF L W many v cut := by simp [putF, chipF, Ne.symm n_lr, Ne.symm n_lw, Ne.symm n_lm]
theorem chipF_pc {b : Bool} : putF "is_cut" (.bl b) (chipF L W many left cut) = chipF L W many left b := by simp [putF, chipF, Ne.symm n_cr, Ne.symm n_cw, Ne.symm n_cm, Ne.symm n_cl]
end
structure ChipAt (A : Ad) (H : Hp) (d : CD) (c : CS) : Prop where
  ob : H d.p = some (.ins A.chip d.dx (chipF d.L d.W c.many (leftV c.left) c.cut))
  rows : H d.L = some (.lst (d.rs.map V.ref))
  wears : H d.W = some (.lst (c.wears.map V.int))
  len : d.rs.length = c.rows.length
  row : ∀ (i : Nat) (a : Addr), d.rs[i]? = some a → ∃ xs, c.rows[i]? = some xs ∧ H a = some (.lst xs)
  wlen : c.wears.length = c.rows.length
  pgs : ∀ xs ∈ c.rows, xs.length = c.m
  nd : (d.L :: d.W :: d.rs).Nodup
  lo : 4 ≤ c.rows.length
  hi : c.rows.length ≤ 32
  mlo : 2 ≤ c.m
  mhi : c.m ≤ 16

def inB (c : CS) (b : Int) : Prop := 0 ≤ b ∧ b < c.rows.length
instance {c : CS} {b : Int} : Decidable (inB c b) := inferInstanceAs (Decidable (_ ∧ _))
def inP (c : CS) (b p : Int) : Prop := inB c b ∧ 0 ≤ p ∧ p < c.m
instance {c : CS} {b p : Int} : Decidable (inP c b p) := inferInstanceAs (Decidable (_ ∧ _))
def CS.row (c : CS) (b : Int) : List V := c.rows.getD b.toNat []
def CS.at (c : CS) (b p : Int) : V := (c.row b).getD p.toNat .non
def CS.gw (c : CS) : CS × Bool := match c.left with
  | none => (c, true)
  | some n => ({ c with left := some (n - 1), cut := decide (n ≤ 0) }, !decide (n ≤ 0))
inductive Out where
  | ok | nopage | noterased | cut
  deriving DecidableEq
def Out.fin (A : Ad) (o : Out) (v : V) (Q : VK) (E : XK) (H : Hp) : Prop := match o with
  | .ok => Q v H
  | .nopage => E (.ref A.nopage) none H
  | .noterased => E (.ref A.noterased) none H
  | .cut => E (.ref A.cut) none H
def CS.isFree (c : CS) (b p : Int) : Bool := ((c.row b).drop p.toNat).all fun v => decide (v = .non)
def CS.write (c : CS) (b p : Int) (v : V) : CS × Out :=
  if ¬ inP c b p then (c, .nopage) else if c.isFree b p = false then (c, .noterased) else if c.cut = true then (c, .cut) else
    ({ c.gw.1 with many := c.many + 1, rows := c.rows.set b.toNat ((c.row b).set p.toNat (if c.gw.2 = true then v else .str "torn")) }, if c.gw.2 = true then .ok else .cut)
def CS.erase (c : CS) (b : Int) : CS × Out :=
  if ¬ inB c b then (c, .nopage) else if c.cut = true then (c, .cut) else
    ({ c.gw.1 with wears := c.wears.set b.toNat (c.wears.getD b.toNat 0 + 1), rows := c.rows.set b.toNat (List.replicate c.m (if c.gw.2 = true then .non else .str "torn")) }, if c.gw.2 = true then .ok else .cut)
def CS.new (b m : Int) : CS := ⟨List.replicate b.toNat (List.replicate m.toNat .non), List.replicate b.toNat 0, 0, none, false, m.toNat⟩
structure Chg (A : Ad) (H : Hp) (d : CD) (H' : Hp) (d' : CD) (c' : CS) : Prop where
  at_ : ChipAt A H' d' c'
  p : d'.p = d.p
  sub : ∀ b, cfp d' b → cfp d b ∨ H b = none
  fr : Fr (cfp d) H H'
def sizeOk (b m : Int) : Prop := 4 ≤ b ∧ b ≤ 32 ∧ 2 ≤ m ∧ m ≤ 16
instance {b m : Int} : Decidable (sizeOk b m) := inferInstanceAs (Decidable (_ ∧ _))
def sp_Chip_init (K : PySem.W.Frag) (A : Ad) : Sp := fun vs H Q E => ∃ (p dx : Addr) (b m : Int), vs = [.ref p, .int b, .int m] ∧ H p = some (.ins A.chip dx []) ∧
  (¬ sizeOk b m → E (.ref A.badsize) none H) ∧
  (sizeOk b m → ∀ d H', ChipAt A H' d (CS.new b m) → d.p = p → (∀ x, cfp d x → x = p ∨ H x = none) → Fr (fun x => x = p) H H' → Q .non H')
def sp_Chip_size (K : PySem.W.Frag) (A : Ad) : Sp := fun vs H Q E => ∃ d c, vs = [.ref d.p] ∧ ChipAt A H d c ∧ ∀ t, H t = none → Q (.ref t) (upd H t (.tup [.int c.rows.length, .int c.m]))
def sp_Chip_need_block (K : PySem.W.Frag) (A : Ad) : Sp := fun vs H Q E => ∃ d c b, vs = [.ref d.p, .int b] ∧ ChipAt A H d c ∧ (inB c b → Q .non H) ∧ (¬ inB c b → E (.ref A.nopage) none H)
def sp_Chip_need_page (K : PySem.W.Frag) (A : Ad) : Sp := fun vs H Q E => ∃ d c b p, vs = [.ref d.p, .int b, .int p] ∧ ChipAt A H d c ∧ (inP c b p → Q .non H) ∧ (¬ inP c b p → E (.ref A.nopage) none H)
def sp_Chip_page (K : PySem.W.Frag) (A : Ad) : Sp := fun vs H Q E => ∃ d c b p, vs = [.ref d.p, .int b, .int p] ∧ ChipAt A H d c ∧ (inP c b p → Q (c.at b p) H) ∧ (¬ inP c b p → E (.ref A.nopage) none H)
def sp_Chip_power (K : PySem.W.Frag) (A : Ad) : Sp := fun vs H Q E => ∃ d c l, vs = [.ref d.p, leftV l] ∧ ChipAt A H d c ∧ ∀ H', Chg A H d H' d { c with left := l, cut := false } → Q .non H'
def sp_Chip_goes_well (K : PySem.W.Frag) (A : Ad) : Sp := fun vs H Q E => ∃ d c, vs = [.ref d.p] ∧ ChipAt A H d c ∧ (c.cut = true → E (.ref A.cut) none H) ∧ (c.cut = false → ∀ H', Chg A H d H' d c.gw.1 → Q (.bl c.gw.2) H')
def sp_Chip_write (K : PySem.W.Frag) (A : Ad) : Sp := fun vs H Q E => ∃ d c b p v, vs = [.ref d.p, .int b, .int p, v] ∧ ChipAt A H d c ∧ ∀ d' H', Chg A H d H' d' (c.write b p v).1 → (c.write b p v).2.fin A .non Q E H'
def sp_Chip_erase (K : PySem.W.Frag) (A : Ad) : Sp := fun vs H Q E => ∃ d c b, vs = [.ref d.p, .int b] ∧ ChipAt A H d c ∧ ∀ d' H', Chg A H d H' d' (c.erase b).1 → (c.erase b).2.fin A .non Q E H'
def sp_Chip_worn (K : PySem.W.Frag) (A : Ad) : Sp := fun vs H Q E => ∃ d c b, vs = [.ref d.p, .int b] ∧ ChipAt A H d c ∧ (inB c b → Q (.int (c.wears.getD b.toNat 0)) H) ∧ (¬ inB c b → E (.ref A.nopage) none H)
def sp_Chip_written (K : PySem.W.Frag) (A : Ad) : Sp := fun vs H Q E => ∃ d c, vs = [.ref d.p] ∧ ChipAt A H d c ∧ Q (.int c.many) H
def sp_copied (K : PySem.W.Frag) (A : Ad) : Sp := fun vs H Q E => ∃ d c, vs = [.ref d.p] ∧ ChipAt A H d c ∧ ∀ d' H', ChipAt A H' d' { c with left := none, cut := false } → (∀ x, cfp d' x → H x = none) → Same H H' → Q (.ref d'.p) H'
def N_Chip_init : List Str := ["self", "blocks", "pages", "block"]
def t_Chip_init (K : PySem.W.Frag) (A : Ad) (E : XK) : TS :=
  (tSeq (tIfS (tOr (tNot (tTest (tChain zLe zLe (tC (.int 4)) (tVar 1) (tC (.int 32))))) (tNot (tTest (tChain zLe zLe (tC (.int 2)) (tVar 2) (tC (.int 16))))))
  (tRaise A.badsize E)
  tNext)
  (tSeq (sFld K (tVar 0) (tLc (iRng1 (tCons (tVar 1) tNil)) (gName 3) tYes (tOp rRep (tLst (tCons (tC .non) tNil)) (tVar 2)) [3]) "rows")
  (tSeq (sFld K (tVar 0) (tOp rRep (tLst (tCons (tC (.int 0)) tNil)) (tVar 1)) "wears")
  (tSeq (sFld K (tVar 0) (tC (.int 0)) "many")
  (tSeq (sFld K (tVar 0) (tC .non) "left")
  (sFld K (tVar 0) (tC (.bl false)) "is_cut"))))))

def N_Chip_size : List Str := ["self"]
def t_Chip_size (K : PySem.W.Frag) (A : Ad) (E : XK) : TS :=
  (tRet (tTup (tCons (tCB (zLen K) (tCons (tFld K (tVar 0) "rows") tNil)) (tCons (tCB (zLen K) (tCons (tOp (rIxL K) (tFld K (tVar 0) "rows") (tC (.int 0))) tNil)) tNil))))

def N_Chip_need_block : List Str := ["self", "block"]
def t_Chip_need_block (K : PySem.W.Frag) (A : Ad) (E : XK) : TS :=
  (tIfS (tNot (tTest (tChain zLe zLt (tC (.int 0)) (tVar 1) (tCB (zLen K) (tCons (tFld K (tVar 0) "rows") tNil)))))
  (tRaise A.nopage E)
  tNext)

def N_Chip_need_page : List Str := ["self", "block", "page"]
def t_Chip_need_page (K : PySem.W.Frag) (A : Ad) (E : XK) : TS :=
  (tSeq (tDrop (tMeth A.chip "need_block" (sp_Chip_need_block K A) [] E (tVar 0) (tCons (tVar 1) tNil)))
  (tIfS (tNot (tTest (tChain zLe zLt (tC (.int 0)) (tVar 2) (tCB (zLen K) (tCons (tOp (rIxL K) (tFld K (tVar 0) "rows") (tVar 1)) tNil)))))
  (tRaise A.nopage E)
  tNext))

def N_Chip_page : List Str := ["self", "block", "page"]
def t_Chip_page (K : PySem.W.Frag) (A : Ad) (E : XK) : TS :=
  (tSeq (tDrop (tMeth A.chip "need_page" (sp_Chip_need_page K A) [] E (tVar 0) (tCons (tVar 1) (tCons (tVar 2) tNil))))
  (tRet (tOp (rIxL K) (tOp (rIxL K) (tFld K (tVar 0) "rows") (tVar 1)) (tVar 2))))

def N_Chip_power : List Str := ["self", "many"]
def t_Chip_power (K : PySem.W.Frag) (A : Ad) (E : XK) : TS :=
  (tSeq (sFld K (tVar 0) (tVar 1) "left")
  (sFld K (tVar 0) (tC (.bl false)) "is_cut"))

def N_Chip_goes_well : List Str := ["self"]
def t_Chip_goes_well (K : PySem.W.Frag) (A : Ad) (E : XK) : TS :=
  (tSeq (tIfS (tB (tFld K (tVar 0) "is_cut"))
  (tRaise A.cut E)
  tNext)
  (tSeq (tIfS (tTest (tOp zIsN (tFld K (tVar 0) "left") (tC .non)))
  (tRet (tC (.bl true)))
  tNext)
  (tSeq (sFld K (tVar 0) (tOp zLe (tFld K (tVar 0) "left") (tC (.int 0))) "is_cut")
  (tSeq (sFld K (tVar 0) (tOp zSub (tFld K (tVar 0) "left") (tC (.int 1))) "left")
  (tRet (tNotV (tFld K (tVar 0) "is_cut")))))))

def N_Chip_write : List Str := ["self", "block", "page", "thing", "is_good", "one"]
def t_Chip_write (K : PySem.W.Frag) (A : Ad) (E : XK) : TS :=
  (tSeq (tDrop (tMeth A.chip "need_page" (sp_Chip_need_page K A) [] E (tVar 0) (tCons (tVar 1) (tCons (tVar 2) tNil))))
  (tSeq (tIfS (tNot (tB (tCB (rAll K) (tCons (tLc (iList K (tSl (rSlL K) (tOp (rIxL K) (tFld K (tVar 0) "rows") (tVar 1)) (tPart (tVar 2)) tNoPart)) (gName 5) tYes (tOp zIsN (tVar 5) (tC .non)) [5]) tNil))))
  (tRaise A.noterased E)
  tNext)
  (tSeq (tAsg (tMeth A.chip "goes_well" (sp_Chip_goes_well K A) [] E (tVar 0) tNil) (gName 4))
  (tSeq (sFld K (tVar 0) (tOp zAdd (tFld K (tVar 0) "many") (tC (.int 1))) "many")
  (tSeq (tAsg (tIf (tB (tVar 4)) (tVar 3) (tC (.str "torn"))) (gSub (tOp (rIxL K) (tFld K (tVar 0) "rows") (tVar 1)) (tVar 2) rSetL))
  (tIfS (tNot (tB (tVar 4)))
  (tRaise A.cut E)
  tNext))))))

def N_Chip_erase : List Str := ["self", "block", "is_good"]
def t_Chip_erase (K : PySem.W.Frag) (A : Ad) (E : XK) : TS :=
  (tSeq (tDrop (tMeth A.chip "need_block" (sp_Chip_need_block K A) [] E (tVar 0) (tCons (tVar 1) tNil)))
  (tSeq (tAsg (tMeth A.chip "goes_well" (sp_Chip_goes_well K A) [] E (tVar 0) tNil) (gName 2))
  (tSeq (tAsg (tOp zAdd (tOp (rIxL K) (tFld K (tVar 0) "wears") (tVar 1)) (tC (.int 1))) (gSub (tFld K (tVar 0) "wears") (tVar 1) rSetL))
  (tSeq (tAsg (tOp rRep (tLst (tCons (tIf (tB (tVar 2)) (tC .non) (tC (.str "torn"))) tNil)) (tCB (zLen K) (tCons (tOp (rIxL K) (tFld K (tVar 0) "rows") (tVar 1)) tNil))) (gSub (tFld K (tVar 0) "rows") (tVar 1) rSetL))
  (tIfS (tNot (tB (tVar 2)))
  (tRaise A.cut E)
  tNext)))))

def N_Chip_worn : List Str := ["self", "block"]
def t_Chip_worn (K : PySem.W.Frag) (A : Ad) (E : XK) : TS :=
  (tSeq (tDrop (tMeth A.chip "need_block" (sp_Chip_need_block K A) [] E (tVar 0) (tCons (tVar 1) tNil)))
  (tRet (tOp (rIxL K) (tFld K (tVar 0) "wears") (tVar 1))))

def N_Chip_written : List Str := ["self"]
def t_Chip_written (K : PySem.W.Frag) (A : Ad) (E : XK) : TS :=
  (tRet (tFld K (tVar 0) "many"))

def N_copied : List Str := ["chip", "blocks", "pages", "found", "row"]
def t_copied (K : PySem.W.Frag) (A : Ad) (E : XK) : TS :=
  (tSeq (tAsg (tMeth A.chip "size" (sp_Chip_size K A) [] E0 (tVar 0) tNil) (gTup K 2 (gCons (gName 1) (gCons (gName 2) gNil))))
  (tSeq (tAsg (tMake A.chip (sp_Chip_init K A) [] E (tCons (tVar 1) (tCons (tVar 2) tNil))) (gName 3))
  (tSeq (sFld K (tVar 3) (tLc (iList K (tFld K (tVar 0) "rows")) (gName 4) tYes (tCB (zList K) (tCons (tVar 4) tNil)) [4]) "rows")
  (tSeq (sFld K (tVar 3) (tCB (zList K) (tCons (tFld K (tVar 0) "wears") tNil)) "wears")
  (tSeq (sFld K (tVar 3) (tFld K (tVar 0) "many") "many")
  (tRet (tVar 3)))))))

section
variable {K : PySem.W.Frag} {A : Ad} {vs : List V} {H : Hp} {Q : VK} {E : XK}
theorem len_Chip_size (h : sp_Chip_size K A vs H Q E) : vs.length = 1 := by obtain ⟨d, c, rfl, _⟩ := h; rfl
theorem len_Chip_need_block (h : sp_Chip_need_block K A vs H Q E) : vs.length = 2 := by obtain ⟨d, c, b, rfl, _⟩ := h; rfl
theorem len_Chip_need_page (h : sp_Chip_need_page K A vs H Q E) : vs.length = 3 := by obtain ⟨d, c, b, p, rfl, _⟩ := h; rfl
theorem len_Chip_page (h : sp_Chip_page K A vs H Q E) : vs.length = 3 := by obtain ⟨d, c, b, p, rfl, _⟩ := h; rfl
theorem len_Chip_power (h : sp_Chip_power K A vs H Q E) : vs.length = 2 := by obtain ⟨d, c, l, rfl, _⟩ := h; rfl
theorem len_Chip_goes_well (h : sp_Chip_goes_well K A vs H Q E) : vs.length = 1 := by obtain ⟨d, c, rfl, _⟩ := h; rfl
theorem len_Chip_write (h : sp_Chip_write K A vs H Q E) : vs.length = 4 := by obtain ⟨d, c, b, p, v, rfl, _⟩ := h; rfl
theorem len_Chip_erase (h : sp_Chip_erase K A vs H Q E) : vs.length = 2 := by obtain ⟨d, c, b, rfl, _⟩ := h; rfl
theorem len_Chip_worn (h : sp_Chip_worn K A vs H Q E) : vs.length = 2 := by obtain ⟨d, c, b, rfl, _⟩ := h; rfl
theorem len_Chip_written (h : sp_Chip_written K A vs H Q E) : vs.length = 1 := by obtain ⟨d, c, rfl, _⟩ := h; rfl
theorem len_Chip_init (h : sp_Chip_init K A vs H Q E) : vs.length = 3 := by obtain ⟨p, dx, b, m, rfl, _⟩ := h; rfl
theorem len_copied (h : sp_copied K A vs H Q E) : vs.length = 1 := by obtain ⟨d, c, rfl, _⟩ := h; rfl
theorem ChipAt.rowAt {d : CD} {c : CS} {b : Int} (h : ChipAt A H d c) (hb : inB c b) : ∃ a, d.rs[b.toNat]? = some a ∧ H a = some (.lst (c.row b)) ∧ (c.row b).length = c.m ∧ c.rows[b.toNat]? = some (c.row b) := by
  obtain ⟨h0, h1⟩ := hb
  have hl : b.toNat < d.rs.length := by rw [h.len]; omega
  obtain ⟨xs, hx, ha⟩ := h.row _ _ (List.getElem?_eq_getElem hl)
  have e : c.row b = xs := by unfold CS.row; rw [List.getD_eq_getElem?_getD, hx]; rfl
  exact ⟨_, List.getElem?_eq_getElem hl, by rw [e]; exact ha, by rw [e]; exact h.pgs _ (List.mem_of_getElem? hx), by rw [e]; exact hx⟩
theorem atI_rs {rs : List Addr} {b : Int} {a : Addr} (h0 : 0 ≤ b) (h : rs[b.toNat]? = some a) : atI (rs.map V.ref) b = some (.ref a) :=
  at_of (j := b.toNat) (by omega) (by rw [List.getElem?_map, h]; rfl)
theorem pure_Chip_size (F : Fac K A) (h : sp_Chip_size K A vs H Q E) : t_Chip_size K A E { nx := fun _ H' => Q .non H', rt := Q } (start N_Chip_size vs) H := by
  obtain ⟨d, c, rfl, h, k⟩ := h
  have hb : inB c 0 := ⟨by omega, by have := h.lo; omega⟩
  obtain ⟨a, ha, hx, hl, _⟩ := h.rowAt hb
  refine ⟨_, rfl, d.p, _, d.dx, _, _, rfl, h.ob, F.cl_Chip, F.n_rows, chipF_rows, _, _, rfl, .inl (SqL.of h.rows), ?_⟩
  refine ⟨_, rfl, d.p, _, d.dx, _, _, rfl, h.ob, F.cl_Chip, F.n_rows, chipF_rows, _, _, _, _, rfl, rfl, SqL.of h.rows, atI_rs (by omega) ha, _, _, rfl, .inl (SqL.of hx), ?_⟩
  refine ⟨(by show 2 ≤ sizeLine; decide), fun t ht => ?_⟩
  rw [List.length_map, h.len, hl]
  exact k t ht
theorem pure_Chip_need_block (F : Fac K A) (h : sp_Chip_need_block K A vs H Q E) : t_Chip_need_block K A E { nx := fun _ H' => Q .non H', rt := Q } (start N_Chip_need_block vs) H := by
  obtain ⟨d, c, b, rfl, h, k1, k2⟩ := h
  refine ⟨_, rfl, _, _, rfl, rfl, _, rfl, ?_⟩
  by_cases h0 : 0 ≤ b
  · rw [if_pos (decide_eq_true h0)]
    refine ⟨_, rfl, d.p, _, d.dx, _, _, rfl, h.ob, F.cl_Chip, F.n_rows, chipF_rows, _, _, rfl, .inl (SqL.of h.rows), _, _, rfl, rfl, _, rfl, ?_⟩
    rw [List.length_map, h.len]
    by_cases h1 : b < c.rows.length
    · rw [decide_eq_true h1]
      exact iteF (k1 ⟨h0, h1⟩)
    · rw [decide_eq_false h1]
      exact iteT (k2 fun z => h1 z.2)
  · rw [if_neg (by rw [decide_eq_false h0]; exact Bool.false_ne_true)]
    exact ⟨_, rfl, iteT (k2 fun z => h0 z.1)⟩
theorem pure_Chip_need_page (F : Fac K A) (h : sp_Chip_need_page K A vs H Q E) : t_Chip_need_page K A E { nx := fun _ H' => Q .non H', rt := Q } (start N_Chip_need_page vs) H := by
  obtain ⟨d, c, b, p, rfl, h, k1, k2⟩ := h
  refine ⟨_, rfl, d.p, d.dx, _, rfl, h.ob, chipF_no (by decide +kernel) (by decide +kernel) (by decide +kernel) (by decide +kernel) (by decide +kernel), _, rfl, d, c, b, rfl, h, fun hb => ?_, fun hb => k2 fun z => hb z.1⟩
  obtain ⟨a, ha, hx, hl, _⟩ := h.rowAt hb
  refine ⟨_, rfl, _, _, rfl, rfl, _, rfl, ?_⟩
  by_cases h0 : 0 ≤ p
  · rw [if_pos (decide_eq_true h0)]
    refine ⟨_, rfl, d.p, _, d.dx, _, _, rfl, h.ob, F.cl_Chip, F.n_rows, chipF_rows, _, rfl, _, _, _, _, rfl, rfl, SqL.of h.rows, atI_rs hb.1 ha, _, _, rfl, .inl (SqL.of hx), _, _, rfl, rfl, _, rfl, ?_⟩
    rw [hl]
    by_cases h1 : p < c.m
    · rw [decide_eq_true h1]
      exact iteF (k1 ⟨hb, h0, h1⟩)
    · rw [decide_eq_false h1]
      exact iteT (k2 fun z => h1 z.2.2)
  · rw [if_neg (by rw [decide_eq_false h0]; exact Bool.false_ne_true)]
    exact ⟨_, rfl, iteT (k2 fun z => h0 z.2.1)⟩
theorem pure_Chip_page (F : Fac K A) (h : sp_Chip_page K A vs H Q E) : t_Chip_page K A E { nx := fun _ H' => Q .non H', rt := Q } (start N_Chip_page vs) H := by
  obtain ⟨d, c, b, p, rfl, h, k1, k2⟩ := h
  refine ⟨_, rfl, d.p, d.dx, _, rfl, h.ob, chipF_no (by decide +kernel) (by decide +kernel) (by decide +kernel) (by decide +kernel) (by decide +kernel), _, rfl, _, rfl, d, c, b, p, rfl, h, fun hp => ?_, k2⟩
  obtain ⟨hb, hp0, hp1⟩ := id hp
  obtain ⟨a, ha, hx, hl, _⟩ := h.rowAt hb
  have hpl : p.toNat < (c.row b).length := by rw [hl]; omega
  refine ⟨_, rfl, d.p, _, d.dx, _, _, rfl, h.ob, F.cl_Chip, F.n_rows, chipF_rows, _, rfl, _, _, _, _, rfl, rfl, SqL.of h.rows, atI_rs hb.1 ha, _, rfl, _, _, _, _, rfl, rfl, SqL.of hx,
    at_of (j := p.toNat) (v := c.at b p) (by omega) (by unfold CS.at; rw [List.getD_eq_getElem?_getD, List.getElem?_eq_getElem hpl]; rfl), k1 hp⟩
theorem pure_Chip_worn (F : Fac K A) (h : sp_Chip_worn K A vs H Q E) : t_Chip_worn K A E { nx := fun _ H' => Q .non H', rt := Q } (start N_Chip_worn vs) H := by
  obtain ⟨d, c, b, rfl, h, k1, k2⟩ := h
  refine ⟨_, rfl, d.p, d.dx, _, rfl, h.ob, chipF_no (by decide +kernel) (by decide +kernel) (by decide +kernel) (by decide +kernel) (by decide +kernel), _, rfl, d, c, b, rfl, h, fun hb => ?_, k2⟩
  have hl : b.toNat < c.wears.length := by rw [h.wlen]; have := hb.2; have := hb.1; omega
  refine ⟨_, rfl, d.p, _, d.dx, _, _, rfl, h.ob, F.cl_Chip, F.n_wears, chipF_wears, _, rfl, _, _, _, _, rfl, rfl, SqL.of h.wears,
    at_of (j := b.toNat) (v := .int (c.wears.getD b.toNat 0)) (by have := hb.1; omega) (by rw [List.getElem?_map, List.getD_eq_getElem?_getD, List.getElem?_eq_getElem hl]; rfl), k1 hb⟩
theorem pure_Chip_written (F : Fac K A) (h : sp_Chip_written K A vs H Q E) : t_Chip_written K A E { nx := fun _ H' => Q .non H', rt := Q } (start N_Chip_written vs) H := by
  obtain ⟨d, c, rfl, h, k⟩ := h
  exact ⟨_, rfl, d.p, _, d.dx, _, _, rfl, h.ob, F.cl_Chip, F.n_many, chipF_many, k⟩
end


section
variable {K : PySem.W.Frag} {A : Ad} {vs : List V} {H : Hp} {Q : VK} {E : XK}
theorem ChipAt.pL {d : CD} {c : CS} (h : ChipAt A H d c) : d.L ≠ d.p := ne_of h.rows h.ob (by intro z; cases z)
theorem ChipAt.pW {d : CD} {c : CS} (h : ChipAt A H d c) : d.W ≠ d.p := ne_of h.wears h.ob (by intro z; cases z)
theorem ChipAt.rowP {d : CD} {c : CS} (h : ChipAt A H d c) {i : Nat} {a : Addr} (e : d.rs[i]? = some a) : a ≠ d.p := by
  obtain ⟨xs, _, ha⟩ := h.row i a e
  exact ne_of ha h.ob (by intro z; cases z)
theorem nodup_set {α : Type} : ∀ {l : List α} {b : Nat} {a : α}, l.Nodup → ¬ a ∈ l → (l.set b a).Nodup
  | [], _, _, h, _ => by simpa using h
  | x :: r, 0, a, h, n => by
    show (a :: r).Nodup
    exact List.nodup_cons.mpr ⟨fun m => n (List.mem_cons.mpr (.inr m)), (List.nodup_cons.mp h).2⟩
  | x :: r, b + 1, a, h, n => by
    show (x :: r.set b a).Nodup
    obtain ⟨h1, h2⟩ := List.nodup_cons.mp h
    refine List.nodup_cons.mpr ⟨fun m => ?_, nodup_set h2 fun m => n (List.mem_cons.mpr (.inr m))⟩
    rcases List.mem_or_eq_of_mem_set m with z | z
    · exact h1 z
    · exact n (List.mem_cons.mpr (.inl z.symm))
theorem Chg.setP {d : CD} {c : CS} (h : ChipAt A H d c) (many : Int) (left : Option Int) (cut : Bool) :
    Chg A H d (upd H d.p (.ins A.chip d.dx (chipF d.L d.W many (leftV left) cut))) d { c with many := many, left := left, cut := cut } where
  at_ := { ob := upd_same, rows := by rw [upd_ne h.pL]; exact h.rows, wears := by rw [upd_ne h.pW]; exact h.wears, len := h.len,
           row := fun i a e => by
             obtain ⟨xs, hx, ha⟩ := h.row i a e
             exact ⟨xs, hx, by rw [upd_ne (h.rowP e)]; exact ha⟩,
           wlen := h.wlen, pgs := h.pgs, nd := h.nd, lo := h.lo, hi := h.hi, mlo := h.mlo, mhi := h.mhi }
  p := rfl
  sub := fun b hb => .inl hb
  fr := Fr.put h.ob (.inl rfl) (by intro xs z; cases z)
theorem Chg.trans {d d' d'' : CD} {H1 H2 : Hp} {c1 c2 : CS} (a : Chg A H d H1 d' c1) (b : Chg A H1 d' H2 d'' c2) : Chg A H d H2 d'' c2 where
  at_ := b.at_
  p := b.p.trans a.p
  sub := fun x hx => by
    rcases b.sub x hx with q | q
    · exact a.sub x q
    · exact .inr (a.fr.live x q)
  fr := a.fr.trans b.fr a.sub
theorem Chg.same {d : CD} {c : CS} {H' : Hp} (h : ChipAt A H d c) (s : Same H H') : Chg A H d H' d c where
  at_ := { ob := s _ _ h.ob, rows := s _ _ h.rows, wears := s _ _ h.wears, len := h.len,
           row := fun i a e => by
             obtain ⟨xs, hx, ha⟩ := h.row i a e
             exact ⟨xs, hx, s _ _ ha⟩,
           wlen := h.wlen, pgs := h.pgs, nd := h.nd, lo := h.lo, hi := h.hi, mlo := h.mlo, mhi := h.mhi }
  p := rfl
  sub := fun b hb => .inl hb
  fr := .of_same s
theorem Chg.setRow {d : CD} {c : CS} {b : Nat} {a : Addr} {xs ys : List V} (h : ChipAt A H d c) (ha : d.rs[b]? = some a) (hx : H a = some (.lst xs)) (hl : ys.length = c.m) :
    Chg A H d (upd H a (.lst ys)) d { c with rows := c.rows.set b ys } where
  at_ := by
    have hm := List.mem_of_getElem? ha
    obtain ⟨n1, n2⟩ := List.nodup_cons.mp h.nd
    obtain ⟨n3, n4⟩ := List.nodup_cons.mp n2
    have la : d.L ≠ a := fun q => n1 (List.mem_cons.mpr (.inr (by rw [q]; exact hm)))
    have wa : d.W ≠ a := fun q => n3 (by rw [q]; exact hm)
    have pa : d.p ≠ a := (h.rowP ha).symm
    refine { ob := by rw [upd_ne pa]; exact h.ob, rows := by rw [upd_ne la]; exact h.rows, wears := by rw [upd_ne wa]; exact h.wears, len := by rw [List.length_set]; exact h.len,
             row := fun i x e => ?_, wlen := by rw [List.length_set]; exact h.wlen, pgs := fun zs hz => ?_, nd := h.nd, lo := by rw [List.length_set]; exact h.lo, hi := by rw [List.length_set]; exact h.hi, mlo := h.mlo, mhi := h.mhi }
    · by_cases q : i = b
      · subst q
        have ea : x = a := Option.some.inj (e.symm.trans ha)
        subst ea
        have hi : i < c.rows.length := by rw [← h.len]; exact (List.getElem?_eq_some_iff.mp e).1
        exact ⟨ys, List.getElem?_set_self hi, upd_same⟩
      · obtain ⟨zs, hz, hh⟩ := h.row i x e
        have xa : x ≠ a := fun z => q (nd_ix n4 e (by rw [z]; exact ha))
        exact ⟨zs, by rw [List.getElem?_set_ne (fun z => q z.symm)]; exact hz, by rw [upd_ne xa]; exact hh⟩
    · rcases List.mem_or_eq_of_mem_set hz with z | z
      · exact h.pgs _ z
      · rw [z]; exact hl
  p := rfl
  sub := fun b hb => .inl hb
  fr := Fr.put hx (.inr (.inr (.inr (List.mem_of_getElem? ha)))) (by intro xs z; cases z)
theorem Chg.setW {d : CD} {c : CS} {b : Nat} {z : Int} (h : ChipAt A H d c) :
    Chg A H d (upd H d.W (.lst ((c.wears.set b z).map V.int))) d { c with wears := c.wears.set b z } where
  at_ := by
    obtain ⟨n1, n2⟩ := List.nodup_cons.mp h.nd
    obtain ⟨n3, n4⟩ := List.nodup_cons.mp n2
    have lw : d.L ≠ d.W := fun q => n1 (List.mem_cons.mpr (.inl q))
    refine { ob := by rw [upd_ne h.pW.symm]; exact h.ob, rows := by rw [upd_ne lw]; exact h.rows, wears := upd_same, len := h.len,
             row := fun i x e => ?_, wlen := by rw [List.length_set]; exact h.wlen, pgs := h.pgs, nd := h.nd, lo := h.lo, hi := h.hi, mlo := h.mlo, mhi := h.mhi }
    obtain ⟨zs, hz, hh⟩ := h.row i x e
    have xw : x ≠ d.W := fun q => n3 (by rw [← q]; exact List.mem_of_getElem? e)
    exact ⟨zs, hz, by rw [upd_ne xw]; exact hh⟩
  p := rfl
  sub := fun b hb => .inl hb
  fr := Fr.put h.wears (.inr (.inr (.inl rfl))) (by intro xs z; cases z)
theorem Chg.newRow {d : CD} {c : CS} {b : Nat} {a : Addr} {ys : List V} (h : ChipAt A H d c) (hb : b < c.rows.length) (hn : H a = none) (hl : ys.length = c.m) :
    Chg A H d (upd (upd H a (.lst ys)) d.L (.lst ((d.rs.set b a).map V.ref))) { d with rs := d.rs.set b a } { c with rows := c.rows.set b ys } where
  at_ := by
    obtain ⟨n1, n2⟩ := List.nodup_cons.mp h.nd
    obtain ⟨n3, n4⟩ := List.nodup_cons.mp n2
    have la : d.L ≠ a := ne_of_none h.rows hn
    have wa : d.W ≠ a := ne_of_none h.wears hn
    have pa : d.p ≠ a := ne_of_none h.ob hn
    have wl : d.W ≠ d.L := fun q => n1 (List.mem_cons.mpr (.inl q.symm))
    have ar : ¬ a ∈ d.rs := fun m => by
      obtain ⟨i, hi⟩ := List.getElem?_of_mem m
      obtain ⟨xs, _, hx⟩ := h.row i a hi
      rw [hn] at hx; cases hx
    have hbr : b < d.rs.length := by rw [h.len]; exact hb
    refine { ob := by show upd _ d.L _ d.p = _; rw [upd_ne h.pL.symm, upd_ne pa]; exact h.ob, rows := upd_same, wears := by show upd _ d.L _ d.W = _; rw [upd_ne wl, upd_ne wa]; exact h.wears, len := by rw [List.length_set, List.length_set]; exact h.len,
             row := fun i x e => ?_, wlen := by rw [List.length_set]; exact h.wlen, pgs := fun zs hz => ?_, nd := ?_, lo := by rw [List.length_set]; exact h.lo, hi := by rw [List.length_set]; exact h.hi, mlo := h.mlo, mhi := h.mhi }
    · have e : (d.rs.set b a)[i]? = some x := e
      show ∃ xs, (c.rows.set b ys)[i]? = some xs ∧ upd (upd H a _) d.L _ x = _
      by_cases q : i = b
      · subst q
        rw [List.getElem?_set_self hbr] at e
        have ex : a = x := Option.some.inj e
        subst ex
        exact ⟨ys, List.getElem?_set_self hb, by rw [upd_ne la.symm]; exact upd_same⟩
      · rw [List.getElem?_set_ne (fun z => q z.symm)] at e
        obtain ⟨zs, hz, hh⟩ := h.row i x e
        have xa : x ≠ a := fun z => ar (by rw [← z]; exact List.mem_of_getElem? e)
        have xl : x ≠ d.L := fun z => n1 (List.mem_cons.mpr (.inr (by rw [← z]; exact List.mem_of_getElem? e)))
        exact ⟨zs, by rw [List.getElem?_set_ne (fun z => q z.symm)]; exact hz, by rw [upd_ne xl, upd_ne xa]; exact hh⟩
    · rcases List.mem_or_eq_of_mem_set hz with z | z
      · exact h.pgs _ z
      · rw [z]; exact hl
    · show (d.L :: d.W :: d.rs.set b a).Nodup
      have hs : ∀ x, x ∈ d.rs.set b a → x ∈ d.rs ∨ x = a := fun x hx => List.mem_or_eq_of_mem_set hx
      refine List.nodup_cons.mpr ⟨fun m => ?_, List.nodup_cons.mpr ⟨fun m => ?_, ?_⟩⟩
      · rcases List.mem_cons.mp m with q | q
        · exact wl q.symm
        · rcases hs _ q with z | z
          · exact n1 (List.mem_cons.mpr (.inr z))
          · exact la z
      · rcases hs _ m with z | z
        · exact n3 z
        · exact wa z
      · exact nodup_set n4 ar
  p := rfl
  sub := fun x hx => by
    rcases hx with q | q | q | q
    · exact .inl (.inl q)
    · exact .inl (.inr (.inl q))
    · exact .inl (.inr (.inr (.inl q)))
    · rcases List.mem_or_eq_of_mem_set (show x ∈ d.rs.set b a from q) with z | z
      · exact .inl (.inr (.inr (.inr z)))
      · rw [z]; exact .inr hn
  fr := by
    have f1 : Fr (cfp d) H (upd H a (.lst ys)) := Fr.new hn
    refine f1.trans (Fr.put (F := cfp d) (u := .lst (d.rs.map V.ref)) ?_ (.inr (.inl rfl)) (by intro xs z; cases z)) fun x hx => .inl hx
    rw [upd_ne (ne_of_none h.rows hn)]; exact h.rows
theorem pure_Chip_power (F : Fac K A) (h : sp_Chip_power K A vs H Q E) : t_Chip_power K A E { nx := fun _ H' => Q .non H', rt := Q } (start N_Chip_power vs) H := by
  obtain ⟨d, c, l, rfl, h, k⟩ := h
  refine ⟨_, rfl, _, rfl, d.p, _, d.dx, _, rfl, h.ob, F.cl_Chip, F.n_left, chipF_len, ?_⟩
  refine ⟨_, rfl, d.p, _, d.dx, _, rfl, upd_same, F.cl_Chip, F.n_is_cut, (by rw [chipF_pl]; exact chipF_len), ?_⟩
  rw [upd_upd, chipF_pl, chipF_pc]
  exact k _ (Chg.setP h c.many l false)
theorem pure_Chip_goes_well (F : Fac K A) (h : sp_Chip_goes_well K A vs H Q E) : t_Chip_goes_well K A E { nx := fun _ H' => Q .non H', rt := Q } (start N_Chip_goes_well vs) H := by
  obtain ⟨d, c, rfl, h, k1, k2⟩ := h
  refine ⟨_, rfl, d.p, _, d.dx, _, _, rfl, h.ob, F.cl_Chip, F.n_is_cut, chipF_cut, _, rfl, ?_⟩
  cases hc : c.cut with
  | true => exact iteT (k1 hc)
  | false =>
    refine iteF ?_
    refine ⟨_, rfl, d.p, _, d.dx, _, _, rfl, h.ob, F.cl_Chip, F.n_left, chipF_left, rfl, _, rfl, ?_⟩
    cases hl : c.left with
    | none =>
      refine iteT ?_
      have e : c.gw = (c, true) := by unfold CS.gw; rw [hl]
      have k := k2 hc H
      rw [e] at k
      exact k (Chg.same h (Same.refl H))
    | some n =>
      refine iteF ?_
      refine ⟨_, rfl, d.p, _, d.dx, _, _, rfl, h.ob, F.cl_Chip, F.n_left, (by rw [hl]; exact chipF_left), _, _, rfl, rfl, _, rfl, d.p, _, d.dx, _, rfl, h.ob, F.cl_Chip, F.n_is_cut, chipF_len, ?_⟩
      rw [chipF_pc]
      refine ⟨_, rfl, d.p, _, d.dx, _, _, rfl, upd_same, F.cl_Chip, F.n_left, (by rw [hl]; exact chipF_left), _, _, rfl, rfl, _, rfl, d.p, _, d.dx, _, rfl, upd_same, F.cl_Chip, F.n_left, chipF_len, ?_⟩
      rw [upd_upd, chipF_pl]
      refine ⟨_, rfl, d.p, _, d.dx, _, _, rfl, upd_same, F.cl_Chip, F.n_is_cut, chipF_cut, _, rfl, ?_⟩
      have e : c.gw = ({ c with left := some (n - 1), cut := decide (n ≤ 0) }, !decide (n ≤ 0)) := by unfold CS.gw; rw [hl]
      have k := k2 hc (upd H d.p (.ins A.chip d.dx (chipF d.L d.W c.many (leftV (some (n - 1))) (decide (n ≤ 0)))))
      rw [e] at k
      exact k (Chg.setP h c.many (some (n - 1)) (decide (n ≤ 0)))
end

theorem take_snoc {α : Type} : ∀ {l : List α} {i : Nat} {x : α}, l[i]? = some x → l.take (i + 1) = l.take i ++ [x]
  | [], i, x, h => by simp at h
  | a :: l, 0, x, h => by
    have e : a = x := Option.some.inj h
    subst e
    rfl
  | a :: l, i + 1, x, h => by
    have ih := take_snoc (l := l) (i := i) (x := x) h
    show a :: l.take (i + 1) = a :: l.take i ++ [x]
    rw [ih]
    rfl
theorem Same.at_new {H H' : Hp} {p : Addr} {o : HO} (h : H p = none) (s : Same (upd H p o) H') : Same H H' ∧ H' p = some o :=
  ⟨fun b u e => s b u (by rw [upd_ne (ne_of_none e h)]; exact e), s p o upd_same⟩
theorem yes_of {σ : L2.St} {H : Hp} {P1 P2 : Hp → Prop} (h : P1 H) : tYes σ H (fun b H3 => if b = true then P1 H3 else P2 H3) := by
  have e : (if true = true then P1 H else P2 H) := by rw [if_pos rfl]; exact h
  exact e
theorem lc_map {K : PySem.W.Frag} {a : Addr} {xs : List V} {k : Nat} {te : TE} {vs : List Nat} {σ : L2.St} {H1 : Hp} {D : Addr} {Qd : Hp → Prop} (ys : List V) (hl : ys.length = xs.length) (hz : xs.length ≤ sizeLine) (hS : SqL K H1 a xs) (hD : H1 D = none)
    (st : ∀ (i : Nat) (x y : V) (H : Hp), xs[i]? = some x → ys[i]? = some y → Same H1 H → ∀ R : V → Hp → Prop, (∀ H', Same H H' → R y H') → te ((wipe σ vs).set k (some x)) H R)
    (hw : ∀ x, wipe ((wipe σ vs).set k (some x)) vs = wipe σ vs) (hd : ∀ H, Same H1 H → H D = some (.lst ys) → Qd H) :
    ∃ W : Nat → Nat → Hp → Prop, (∃ m, W 0 m (upd H1 D (.lst []))) ∧ ∀ i m H, W i m H →
      ((Itl K a).stop i H ∧ Qd H) ∨ ((Itl K a).go i H ∧ ∃ Nx : Hp → Prop, (∀ H', Nx H' → ∃ m', m' < m ∧ W (i + 1) m' H') ∧ ∀ x H', (Itl K a).yld i H x H' → gName k x (wipe σ vs) H' fun σ2 H2 => wipe σ2 vs = wipe σ vs ∧ tYes σ2 H2 fun b H3 =>
        if b = true then te σ2 H3 fun y H4 => ∃ acc, H4 D = some (.lst acc) ∧ acc.length < sizeLine ∧ Nx (upd H4 D (.lst (acc ++ [y]))) else Nx H3) := by
  refine lc_list (K := K) (a := a) (xs := xs) (fun i H => Same H1 H ∧ H D = some (.lst (ys.take i))) ⟨Same.new hD, upd_same⟩ (fun i H _ p => p.1.seq hS) (fun i x H hx p => ?_) fun H p => ?_
  · obtain ⟨s, hDi⟩ := p
    have hi := (List.getElem?_eq_some_iff.mp hx).1
    have hy : ys[i]? = some ys[i] := List.getElem?_eq_getElem (by rw [hl]; exact hi)
    refine ⟨hw x, yes_of (P1 := fun H3 => te _ H3 _) ?_⟩
    refine st i x _ H hx hy s _ fun H' s' => ?_
    refine ⟨ys.take i, s' _ _ hDi, by rw [List.length_take]; omega, fun b o e => ?_, ?_⟩
    · rw [upd_ne (ne_of_none e hD)]
      exact s' _ _ (s _ _ e)
    · rw [take_snoc hy]; exact upd_same
  · have e : ys.take xs.length = ys := by rw [← hl]; exact List.take_length
    exact hd H p.1 (by rw [← e]; exact p.2)
theorem lc_mapR {lo : Int} {n : Nat} {k : Nat} {te : TE} {vs : List Nat} {σ : L2.St} {H1 : Hp} {D : Addr} {Qd : Hp → Prop} (ys : List V) (hl : ys.length = n) (hz : n ≤ sizeLine) (hD : H1 D = none)
    (st : ∀ (i : Nat) y H, i < n → ys[i]? = some y → Same H1 H → ∀ R : V → Hp → Prop, (∀ H', Same H H' → R y H') → te ((wipe σ vs).set k (some (.int (lo + i)))) H R)
    (hw : ∀ x, wipe ((wipe σ vs).set k (some x)) vs = wipe σ vs) (hd : ∀ H, Same H1 H → H D = some (.lst ys) → Qd H) :
    ∃ W : Nat → Nat → Hp → Prop, (∃ m, W 0 m (upd H1 D (.lst []))) ∧ ∀ i m H, W i m H →
      ((Itr lo n).stop i H ∧ Qd H) ∨ ((Itr lo n).go i H ∧ ∃ Nx : Hp → Prop, (∀ H', Nx H' → ∃ m', m' < m ∧ W (i + 1) m' H') ∧ ∀ x H', (Itr lo n).yld i H x H' → gName k x (wipe σ vs) H' fun σ2 H2 => wipe σ2 vs = wipe σ vs ∧ tYes σ2 H2 fun b H3 =>
        if b = true then te σ2 H3 fun y H4 => ∃ acc, H4 D = some (.lst acc) ∧ acc.length < sizeLine ∧ Nx (upd H4 D (.lst (acc ++ [y]))) else Nx H3) := by
  refine lc_range (lo := lo) (n := n) (fun i H => Same H1 H ∧ H D = some (.lst (ys.take i))) ⟨Same.new hD, upd_same⟩ (fun i H hi p => ?_) fun H p => ?_
  · obtain ⟨s, hDi⟩ := p
    have hy : ys[i]? = some ys[i] := List.getElem?_eq_getElem (by rw [hl]; exact hi)
    refine ⟨hw _, yes_of (P1 := fun H3 => te _ H3 _) ?_⟩
    refine st i _ H hi hy s _ fun H' s' => ?_
    refine ⟨ys.take i, s' _ _ hDi, by rw [List.length_take]; omega, fun b o e => ?_, ?_⟩
    · rw [upd_ne (ne_of_none e hD)]
      exact s' _ _ (s _ _ e)
    · rw [take_snoc hy]; exact upd_same
  · have e : ys.take n = ys := by rw [← hl]; exact List.take_length
    exact hd H p.1 (by rw [← e]; exact p.2)
theorem lc_filterR {lo : Int} {n : Nat} {k : Nat} {tt : TT} {te : TE} {vs : List Nat} {σ : L2.St} {H1 : Hp} {D : Addr} {Qd : Hp → Prop} (keep : Nat → Bool) (yv : Nat → V) (hz : n ≤ sizeLine) (hD : H1 D = none)
    (sb : ∀ (i : Nat) H, i < n → Same H1 H → ∀ R : Bool → Hp → Prop, (∀ H', Same H H' → R (keep i) H') → tt ((wipe σ vs).set k (some (.int (lo + i)))) H R)
    (st : ∀ (i : Nat) H, i < n → keep i = true → Same H1 H → ∀ R : V → Hp → Prop, (∀ H', Same H H' → R (yv i) H') → te ((wipe σ vs).set k (some (.int (lo + i)))) H R)
    (hw : ∀ x, wipe ((wipe σ vs).set k (some x)) vs = wipe σ vs) (hd : ∀ H, Same H1 H → H D = some (.lst (((List.range n).filter keep).map yv)) → Qd H) :
    ∃ W : Nat → Nat → Hp → Prop, (∃ m, W 0 m (upd H1 D (.lst []))) ∧ ∀ i m H, W i m H →
      ((Itr lo n).stop i H ∧ Qd H) ∨ ((Itr lo n).go i H ∧ ∃ Nx : Hp → Prop, (∀ H', Nx H' → ∃ m', m' < m ∧ W (i + 1) m' H') ∧ ∀ x H', (Itr lo n).yld i H x H' → gName k x (wipe σ vs) H' fun σ2 H2 => wipe σ2 vs = wipe σ vs ∧ tt σ2 H2 fun b H3 =>
        if b = true then te σ2 H3 fun y H4 => ∃ acc, H4 D = some (.lst acc) ∧ acc.length < sizeLine ∧ Nx (upd H4 D (.lst (acc ++ [y]))) else Nx H3) := by
  refine lc_range (lo := lo) (n := n) (fun i H => Same H1 H ∧ H D = some (.lst (((List.range i).filter keep).map yv))) ⟨Same.new hD, upd_same⟩ (fun i H hi p => ?_) fun H p => hd H p.1 p.2
  obtain ⟨s, hDi⟩ := p
  refine ⟨hw _, sb i H hi s _ fun H' s' => ?_⟩
  cases hk : keep i with
  | false =>
    refine iteF ⟨s.trans s', ?_⟩
    rw [List.range_succ, List.filter_append, List.filter_cons_of_neg (by rw [hk]; exact Bool.false_ne_true), List.filter_nil, List.append_nil]
    exact s' _ _ hDi
  | true =>
    refine iteT (st i H' hi hk (s.trans s') _ fun H'' s'' => ?_)
    refine ⟨_, s'' _ _ (s' _ _ hDi), ?_, fun b o e => ?_, ?_⟩
    · rw [List.length_map]
      have h1 : ((List.range i).filter keep).length ≤ (List.range i).length := List.length_filter_le _ _
      rw [List.length_range] at h1
      omega
    · rw [upd_ne (ne_of_none e hD)]
      exact s'' _ _ (s' _ _ (s _ _ e))
    · rw [List.range_succ, List.filter_append, List.filter_cons_of_pos hk, List.filter_nil, List.map_append]
      exact upd_same

section
variable {K : PySem.W.Frag} {A : Ad} {vs : List V} {H : Hp} {Q : VK} {E : XK}
theorem cutV_from {xs : List V} {p : Int} (h0 : 0 ≤ p) (h1 : p ≤ xs.length) : cutV xs (some p) none = xs.drop p.toNat := by
  have e : p = (p.toNat : Int) := by omega
  have e2 : HT.sIx xs.length 0 (some p) = p.toNat := by
    rw [e, HT.sIx_nat]
    omega
  unfold cutV
  rw [e2, HT.sIx_none, List.take_of_length_le (by rw [List.length_drop]; omega)]
theorem isN_all (xs : List V) : ((xs.map fun v => decide (v = V.non)).all id) = xs.all fun v => decide (v = V.non) := by
  rw [List.all_map]; rfl
theorem sz16 {n : Nat} (h : n ≤ 16) : n ≤ sizeLine := Nat.le_trans h (by decide)
theorem sz32 {n : Nat} (h : n ≤ 32) : n ≤ sizeLine := Nat.le_trans h (by decide)
theorem no5 {L W : Addr} {many : Int} {left : V} {cut : Bool} {m : Str} (h : decide (m = "rows" ∨ m = "wears" ∨ m = "many" ∨ m = "left" ∨ m = "is_cut") = false := by decide +kernel) : (chipF L W many left cut).lookup m = none := by
  have h := of_decide_eq_false h
  exact chipF_no (fun z => h (.inl z)) (fun z => h (.inr (.inl z))) (fun z => h (.inr (.inr (.inl z)))) (fun z => h (.inr (.inr (.inr (.inl z))))) (fun z => h (.inr (.inr (.inr (.inr z)))))
theorem ixN_of {n : Nat} {i : Int} (h0 : 0 ≤ i) (h1 : i < n) : ixN n i = some i.toNat := by
  unfold ixN
  rw [if_pos h0, if_pos h1]
theorem gw_rows (c : CS) : c.gw.1.rows = c.rows := by unfold CS.gw; split <;> rfl
theorem gw_wears (c : CS) : c.gw.1.wears = c.wears := by unfold CS.gw; split <;> rfl
theorem gw_many (c : CS) : c.gw.1.many = c.many := by unfold CS.gw; split <;> rfl
theorem gw_m (c : CS) : c.gw.1.m = c.m := by unfold CS.gw; split <;> rfl
theorem row_gw (c : CS) (b : Int) : c.gw.1.row b = c.row b := by unfold CS.row; rw [gw_rows]
theorem pure_Chip_write (F : Fac K A) (h : sp_Chip_write K A vs H Q E) : t_Chip_write K A E { nx := fun _ H' => Q .non H', rt := Q } (start N_Chip_write vs) H := by
  obtain ⟨d, c, b, p, v, rfl, h, k⟩ := h
  refine ⟨_, rfl, d.p, d.dx, _, rfl, h.ob, no5, _, rfl, _, rfl, d, c, b, p, rfl, h, fun hp => ?_, fun hp => ?_⟩
  rotate_left
  · have e : c.write b p v = (c, .nopage) := by unfold CS.write; rw [if_pos hp]
    have k := k d H
    rw [e] at k
    exact k (Chg.same h (Same.refl H))
  obtain ⟨hb, hp0, hp1⟩ := id hp
  obtain ⟨a, ha, hx, hl, hrow⟩ := h.rowAt hb
  refine ⟨_, rfl, d.p, _, d.dx, _, _, rfl, h.ob, F.cl_Chip, F.n_rows, chipF_rows, _, rfl, _, _, _, _, rfl, rfl, SqL.of h.rows, atI_rs hb.1 ha, _, rfl, _, rfl, _, _, rfl, SqL.of hx, fun S hS => ?_⟩
  rw [cutV_from hp0 (by rw [hl]; omega)]
  refine ⟨_, rfl, ⟨_, SqL.of upd_same⟩, fun D hD => ?_⟩
  have hs : ((c.row b).drop p.toNat).length ≤ sizeLine := by
    rw [List.length_drop, hl]
    exact sz16 (by have := h.mhi; omega)
  refine lc_map (K := K) (((c.row b).drop p.toNat).map fun v => .bl (decide (v = .non))) (by rw [List.length_map]) hs (SqL.of upd_same) hD (fun i x y H1 hi hy s R r => ?_) (fun _ => rfl) fun H1 s hD1 => ?_
  · rw [List.getElem?_map, hi] at hy
    have e : V.bl (decide (x = .non)) = y := Option.some.inj hy
    subst e
    exact ⟨_, rfl, rfl, r H1 (Same.refl H1)⟩
  have s1 : Same H H1 := (Same.new hS).trans s
  refine ⟨D, ((c.row b).drop p.toNat).map fun v => decide (v = .non), rfl, SqL.of (by rw [hD1, List.map_map]; rfl), _, rfl, ?_⟩
  rw [isN_all]
  show if (!c.isFree b p) = true then _ else _
  cases hf : c.isFree b p with
  | false =>
    refine iteT ?_
    have e : c.write b p v = (c, .noterased) := by unfold CS.write; rw [if_neg (fun z => z hp), if_pos hf]
    have k := k d H1
    rw [e] at k
    exact k (Chg.same h s1)
  | true =>
    refine iteF ?_
    have h1 : ChipAt A H1 d c := (Chg.same h s1).at_
    refine ⟨_, rfl, d.p, d.dx, _, rfl, h1.ob, no5, d, c, rfl, h1, fun hc => ?_, fun hc H2 g => ?_⟩
    · have e : c.write b p v = (c, .cut) := by unfold CS.write; rw [if_neg (fun z => z hp), if_neg (by rw [hf]; exact Bool.noConfusion), if_pos hc]
      have k := k d H1
      rw [e] at k
      exact k (Chg.same h s1)
    · have h2 := g.at_
      have m1 : Chg A H d H2 d c.gw.1 := (Chg.same h s1).trans g
      refine ⟨_, rfl, d.p, _, d.dx, _, _, rfl, h2.ob, F.cl_Chip, F.n_many, chipF_many, _, _, rfl, rfl, _, rfl, d.p, _, d.dx, _, rfl, h2.ob, F.cl_Chip, F.n_many, chipF_len, ?_⟩
      rw [chipF_pm]
      have g3 := Chg.setP h2 (c.gw.1.many + 1) c.gw.1.left c.gw.1.cut
      have h3 := g3.at_
      have hb2 : inB c.gw.1 b := by unfold inB; rw [gw_rows]; exact hb
      obtain ⟨a2, ha2, hx2, hl2, _⟩ := h3.rowAt (c := { c.gw.1 with many := c.gw.1.many + 1, left := c.gw.1.left, cut := c.gw.1.cut }) hb2
      have er : CS.row { c.gw.1 with many := c.gw.1.many + 1, left := c.gw.1.left, cut := c.gw.1.cut } b = c.row b := row_gw c b
      rw [er] at hx2 hl2
      have fin : ∀ (w : V), (c.gw.2 = true → w = v) → (c.gw.2 = false → w = .str "torn") → Chg A H d (upd (upd H2 d.p (.ins A.chip d.dx (chipF d.L d.W (c.gw.1.many + 1) (leftV c.gw.1.left) c.gw.1.cut))) a2 (.lst ((c.row b).set p.toNat w))) d (c.write b p v).1 := fun w w1 w2 => by
        have e : (c.write b p v).1 = { c.gw.1 with many := c.gw.1.many + 1, rows := c.gw.1.rows.set b.toNat ((c.row b).set p.toNat w) } := by
          unfold CS.write
          rw [if_neg (fun z => z hp), if_neg (by rw [hf]; exact Bool.noConfusion), if_neg (by rw [hc]; exact Bool.noConfusion), gw_many, gw_rows]
          cases hg : c.gw.2 with
          | true => rw [w1 hg]; rfl
          | false => rw [w2 hg]; rfl
        rw [e]
        exact (m1.trans g3).trans (Chg.setRow h3 ha2 hx2 (by rw [List.length_set]; exact hl2))
      have hst : rSetL (.ref a2) (.int p) (if c.gw.2 = true then v else .str "torn") (upd H2 d.p (.ins A.chip d.dx (chipF d.L d.W (c.gw.1.many + 1) (leftV c.gw.1.left) c.gw.1.cut))) (fun H4 => H4 = upd (upd H2 d.p (.ins A.chip d.dx (chipF d.L d.W (c.gw.1.many + 1) (leftV c.gw.1.left) c.gw.1.cut))) a2 (.lst ((c.row b).set p.toNat (if c.gw.2 = true then v else .str "torn")))) :=
        ⟨a2, c.row b, p, p.toNat, rfl, rfl, hx2, ixN_of hp0 (by rw [hl]; exact hp1), rfl⟩
      refine ⟨_, rfl, _, rfl, ?_⟩
      have eo : (c.write b p v).2 = if c.gw.2 = true then .ok else .cut := by
        unfold CS.write
        rw [if_neg (fun z => z hp), if_neg (by rw [hf]; exact Bool.noConfusion), if_neg (by rw [hc]; exact Bool.noConfusion)]
      have kk := k d _ (fin (if c.gw.2 = true then v else .str "torn") (fun z => by rw [if_pos z]) (fun z => by rw [if_neg (by rw [z]; exact Bool.noConfusion)]))
      rw [eo] at kk
      cases hg : c.gw.2 with
      | true =>
        rw [hg, if_pos rfl] at kk
        rw [if_pos rfl] at kk
        refine iteT ⟨_, rfl, _, rfl, d.p, _, d.dx, _, _, rfl, h3.ob, F.cl_Chip, F.n_rows, chipF_rows, _, rfl, _, _, _, _, rfl, rfl, SqL.of h3.rows, atI_rs hb.1 ha2, _, rfl, a2, c.row b, p, p.toNat, rfl, rfl, hx2, ixN_of hp0 (by rw [hl]; exact hp1), ?_⟩
        exact ⟨_, rfl, _, rfl, iteF kk⟩
      | false =>
        rw [hg, if_neg Bool.false_ne_true] at kk
        rw [if_neg Bool.false_ne_true] at kk
        refine iteF ⟨_, rfl, d.p, _, d.dx, _, _, rfl, h3.ob, F.cl_Chip, F.n_rows, chipF_rows, _, rfl, _, _, _, _, rfl, rfl, SqL.of h3.rows, atI_rs hb.1 ha2, _, rfl, a2, c.row b, p, p.toNat, rfl, rfl, hx2, ixN_of hp0 (by rw [hl]; exact hp1), ?_⟩
        exact ⟨_, rfl, _, rfl, iteT kk⟩
end

section
variable {K : PySem.W.Frag} {A : Ad} {vs : List V} {H : Hp} {Q : VK} {E : XK}
theorem rep1 {v : V} : ∀ n : Nat, (List.replicate n [v]).flatten = List.replicate n v
  | 0 => rfl
  | n + 1 => by rw [List.replicate_succ, List.flatten_cons, rep1 n]; rfl
theorem pure_Chip_erase (F : Fac K A) (h : sp_Chip_erase K A vs H Q E) : t_Chip_erase K A E { nx := fun _ H' => Q .non H', rt := Q } (start N_Chip_erase vs) H := by
  obtain ⟨d, c, b, rfl, h, k⟩ := h
  refine ⟨_, rfl, d.p, d.dx, _, rfl, h.ob, no5, _, rfl, d, c, b, rfl, h, fun hb => ?_, fun hb => ?_⟩
  rotate_left
  · have e : c.erase b = (c, .nopage) := by unfold CS.erase; rw [if_pos hb]
    have k := k d H
    rw [e] at k
    exact k (Chg.same h (Same.refl H))
  refine ⟨_, rfl, d.p, d.dx, _, rfl, h.ob, no5, d, c, rfl, h, fun hc => ?_, fun hc H2 g => ?_⟩
  · have e : c.erase b = (c, .cut) := by unfold CS.erase; rw [if_neg (fun z => z hb), if_pos hc]
    have k := k d H
    rw [e] at k
    exact k (Chg.same h (Same.refl H))
  have h2 := g.at_
  have hwl : b.toNat < c.wears.length := by rw [h.wlen]; have := hb.2; have := hb.1; omega
  have ew : (c.gw.1.wears.map V.int)[b.toNat]? = some (.int (c.wears.getD b.toNat 0)) := by
    rw [gw_wears, List.getElem?_map, List.getD_eq_getElem?_getD, List.getElem?_eq_getElem hwl]; rfl
  have hb2 : inB c.gw.1 b := by unfold inB; rw [gw_rows]; exact hb
  refine ⟨_, rfl, d.p, _, d.dx, _, _, rfl, h2.ob, F.cl_Chip, F.n_wears, chipF_wears, _, rfl, _, _, _, _, rfl, rfl, SqL.of h2.wears, at_of (j := b.toNat) (by have := hb.1; omega) ew, _, _, rfl, rfl, ?_⟩
  refine ⟨_, rfl, d.p, _, d.dx, _, _, rfl, h2.ob, F.cl_Chip, F.n_wears, chipF_wears, _, rfl, d.W, _, b, b.toNat, rfl, rfl, h2.wears, ixN_of hb.1 (by rw [List.length_map, gw_wears, h.wlen]; exact hb.2), ?_⟩
  rw [← List.map_set]
  have g3 := Chg.setW (b := b.toNat) (z := c.wears.getD b.toNat 0 + 1) h2
  have h3 := g3.at_
  have hb3 : inB { c.gw.1 with wears := c.gw.1.wears.set b.toNat (c.wears.getD b.toNat 0 + 1) } b := hb2
  obtain ⟨a3, ha3, hx3, hl3, _⟩ := h3.rowAt hb3
  have body : ∀ w : V, (c.gw.2 = true → w = .non) → (c.gw.2 = false → w = .str "torn") → ∀ l, (upd H2 d.W (.lst ((c.gw.1.wears.set b.toNat (c.wears.getD b.toNat 0 + 1)).map V.int))) l = none →
      ∀ a, (upd (upd H2 d.W (.lst ((c.gw.1.wears.set b.toNat (c.wears.getD b.toNat 0 + 1)).map V.int))) l (.lst [w])) a = none →
      Chg A H d (upd (upd (upd (upd H2 d.W (.lst ((c.gw.1.wears.set b.toNat (c.wears.getD b.toNat 0 + 1)).map V.int))) l (.lst [w])) a (.lst (List.replicate c.m w))) d.L (.lst ((d.rs.set b.toNat a).map V.ref))) { d with rs := d.rs.set b.toNat a } (c.erase b).1 := fun w w1 w2 l hl a ha => by
    have e : (c.erase b).1 = { c.gw.1 with wears := c.gw.1.wears.set b.toNat (c.wears.getD b.toNat 0 + 1), rows := c.gw.1.rows.set b.toNat (List.replicate c.m w) } := by
      unfold CS.erase
      rw [if_neg (fun z => z hb), if_neg (by rw [hc]; exact Bool.noConfusion), gw_wears, gw_rows]
      cases hg : c.gw.2 with
      | true => rw [w1 hg]; rfl
      | false => rw [w2 hg]; rfl
    rw [e]
    have g4 := Chg.same h3 (Same.new (o := .lst [w]) hl)
    have g5 := Chg.newRow (b := b.toNat) (ys := List.replicate c.m w) g4.at_ (by show b.toNat < c.gw.1.rows.length; rw [gw_rows]; have := hb.2; have := hb.1; omega) ha (by rw [List.length_replicate]; exact (gw_m c).symm)
    exact ((g.trans g3).trans g4).trans g5
  have eo : (c.erase b).2 = if c.gw.2 = true then .ok else .cut := by
    unfold CS.erase
    rw [if_neg (fun z => z hb), if_neg (by rw [hc]; exact Bool.noConfusion)]
  have hm1 : (CS.row { c.gw.1 with wears := c.gw.1.wears.set b.toNat (c.wears.getD b.toNat 0 + 1) } b).length = c.m := hl3.trans (gw_m c)
  have hrep : (1 : Nat) * ((CS.row { c.gw.1 with wears := c.gw.1.wears.set b.toNat (c.wears.getD b.toNat 0 + 1) } b).length : Int).toNat ≤ sizeLine := by
    rw [hm1]
    exact sz16 (by have := h.mhi; omega)
  have hm64 : ((CS.row { c.gw.1 with wears := c.gw.1.wears.set b.toNat (c.wears.getD b.toNat 0 + 1) } b).length : Int) < 2 ^ 63 := by
    rw [hm1]
    have := h.mhi
    omega
  refine ⟨_, rfl, _, rfl, ?_⟩
  cases hg : c.gw.2 with
  | true =>
    refine iteT ⟨(by show 1 ≤ sizeLine; decide), fun l hl => ?_⟩
    have h4 := (Chg.same h3 (Same.new (o := .lst [V.non]) hl)).at_
    have hx4 : (upd (upd H2 d.W (.lst ((c.gw.1.wears.set b.toNat (c.wears.getD b.toNat 0 + 1)).map V.int))) l (.lst [V.non])) a3 = _ := (Same.new (o := .lst [V.non]) hl) _ _ hx3
    refine ⟨_, rfl, d.p, _, d.dx, _, _, rfl, h4.ob, F.cl_Chip, F.n_rows, chipF_rows, _, rfl, _, _, _, _, rfl, rfl, SqL.of h4.rows, atI_rs hb.1 ha3, _, _, rfl, .inl (SqL.of hx4), ?_⟩
    refine ⟨l, _, _, rfl, rfl, upd_same, by omega, hm64, hrep, fun a ha => ?_⟩
    rw [hm1, rep1]
    have h5 := (Chg.same h4 (Same.new (o := .lst (List.replicate c.m V.non)) ha)).at_
    refine ⟨_, rfl, d.p, _, d.dx, _, _, rfl, h5.ob, F.cl_Chip, F.n_rows, chipF_rows, _, rfl, d.L, _, b, b.toNat, rfl, rfl, h5.rows, ixN_of hb.1 (by rw [List.length_map, h.len]; exact hb.2), ?_⟩
    rw [← List.map_set]
    have kk := k _ _ (body .non (fun _ => rfl) (fun z => by rw [hg] at z; cases z) l hl a ha)
    rw [eo, hg, if_pos rfl] at kk
    exact ⟨_, rfl, _, rfl, iteF kk⟩
  | false =>
    refine iteF ⟨(by show 1 ≤ sizeLine; decide), fun l hl => ?_⟩
    have h4 := (Chg.same h3 (Same.new (o := .lst [V.str "torn"]) hl)).at_
    have hx4 : (upd (upd H2 d.W (.lst ((c.gw.1.wears.set b.toNat (c.wears.getD b.toNat 0 + 1)).map V.int))) l (.lst [V.str "torn"])) a3 = _ := (Same.new (o := .lst [V.str "torn"]) hl) _ _ hx3
    refine ⟨_, rfl, d.p, _, d.dx, _, _, rfl, h4.ob, F.cl_Chip, F.n_rows, chipF_rows, _, rfl, _, _, _, _, rfl, rfl, SqL.of h4.rows, atI_rs hb.1 ha3, _, _, rfl, .inl (SqL.of hx4), ?_⟩
    refine ⟨l, _, _, rfl, rfl, upd_same, by omega, hm64, hrep, fun a ha => ?_⟩
    rw [hm1, rep1]
    have h5 := (Chg.same h4 (Same.new (o := .lst (List.replicate c.m (V.str "torn"))) ha)).at_
    refine ⟨_, rfl, d.p, _, d.dx, _, _, rfl, h5.ob, F.cl_Chip, F.n_rows, chipF_rows, _, rfl, d.L, _, b, b.toNat, rfl, rfl, h5.rows, ixN_of hb.1 (by rw [List.length_map, h.len]; exact hb.2), ?_⟩
    rw [← List.map_set]
    have kk := k _ _ (body (.str "torn") (fun z => by rw [hg] at z; cases z) (fun _ => rfl) l hl a ha)
    rw [eo, hg, if_neg Bool.false_ne_true] at kk
    exact ⟨_, rfl, _, rfl, iteT kk⟩
end

structure News (H1 H : Hp) (D : Addr) (as : List Addr) (os : Nat → HO) : Prop where
  at_ : ∀ i a, as[i]? = some a → H a = some (os i)
  nd : as.Nodup
  new : ∀ a ∈ as, H1 a = none ∧ a ≠ D
theorem News.nil {H1 H : Hp} {D : Addr} {os : Nat → HO} : News H1 H D [] os := ⟨fun i a h => by simp at h, List.nodup_nil, fun a h => by cases h⟩
theorem News.snoc {H1 H H' H'' : Hp} {D a : Addr} {as : List Addr} {os : Nat → HO} (n : News H1 H D as os) (s1 : Same H1 H) (hD : H1 D = none) (hDi : ∃ o, H D = some o) (s : Same H H') (ha : H a = none) (ha' : H' a = some (os as.length)) (hh : ∀ b o, H' b = some o → b ≠ D → H'' b = some o) : News H1 H'' D (as ++ [a]) os where
  at_ := fun i x h => by
    have ne : x ≠ D := by
      by_cases hi : i < as.length
      · rw [List.getElem?_append_left hi] at h
        exact (n.new x (List.mem_of_getElem? h)).2
      · rw [List.getElem?_append_right (by omega)] at h
        have hx : x = a := by
          cases q : i - as.length with
          | zero => rw [q] at h; exact (Option.some.inj h).symm
          | succ k => rw [q] at h; simp at h
        obtain ⟨o, ho⟩ := hDi
        rw [hx]
        exact (ne_of_none ho ha).symm
    refine hh _ _ ?_ ne
    by_cases hi : i < as.length
    · rw [List.getElem?_append_left hi] at h
      exact s _ _ (n.at_ i x h)
    · rw [List.getElem?_append_right (by omega)] at h
      cases q : i - as.length with
      | zero =>
        rw [q] at h
        have hx : a = x := Option.some.inj h
        have e : i = as.length := by omega
        rw [← hx, e]; exact ha'
      | succ k => rw [q] at h; simp at h
  nd := by
    refine nd_snoc n.nd fun m => ?_
    obtain ⟨i, hi⟩ := List.getElem?_of_mem m
    have := n.at_ i a hi
    rw [ha] at this; cases this
  new := fun x hx => by
    rcases List.mem_append.mp hx with m | m
    · exact n.new x m
    · have e := List.mem_singleton.mp m
      subst e
      refine ⟨s1.free ha, ?_⟩
      obtain ⟨o, ho⟩ := hDi
      exact (ne_of_none ho ha).symm
theorem lc_newsR {lo : Int} {n : Nat} {k : Nat} {te : TE} {vs : List Nat} {σ : L2.St} {H1 : Hp} {D : Addr} {Qd : Hp → Prop} (os : Nat → HO) (hz : n ≤ sizeLine) (hD : H1 D = none)
    (st : ∀ (i : Nat) H, i < n → Same H1 H → ∀ R : V → Hp → Prop, (∀ H' a, H a = none → Same H H' → H' a = some (os i) → R (.ref a) H') → te ((wipe σ vs).set k (some (.int (lo + i)))) H R)
    (hw : ∀ x, wipe ((wipe σ vs).set k (some x)) vs = wipe σ vs) (hd : ∀ H as, Same H1 H → H D = some (.lst (as.map V.ref)) → as.length = n → News H1 H D as os → Qd H) :
    ∃ W : Nat → Nat → Hp → Prop, (∃ m, W 0 m (upd H1 D (.lst []))) ∧ ∀ i m H, W i m H →
      ((Itr lo n).stop i H ∧ Qd H) ∨ ((Itr lo n).go i H ∧ ∃ Nx : Hp → Prop, (∀ H', Nx H' → ∃ m', m' < m ∧ W (i + 1) m' H') ∧ ∀ x H', (Itr lo n).yld i H x H' → gName k x (wipe σ vs) H' fun σ2 H2 => wipe σ2 vs = wipe σ vs ∧ tYes σ2 H2 fun b H3 =>
        if b = true then te σ2 H3 fun y H4 => ∃ acc, H4 D = some (.lst acc) ∧ acc.length < sizeLine ∧ Nx (upd H4 D (.lst (acc ++ [y]))) else Nx H3) := by
  refine lc_range (lo := lo) (n := n) (fun i H => ∃ as : List Addr, Same H1 H ∧ H D = some (.lst (as.map V.ref)) ∧ as.length = i ∧ News H1 H D as os) ⟨[], Same.new hD, upd_same, rfl, .nil⟩ (fun i H hi p => ?_) fun H p => ?_
  · obtain ⟨as, s, hDi, hl, N⟩ := p
    refine ⟨hw _, yes_of (P1 := fun H3 => te _ H3 _) ?_⟩
    refine st i H hi s _ fun H' a ha s' ha' => ?_
    refine ⟨as.map V.ref, s' _ _ hDi, by rw [List.length_map]; omega, as ++ [a], fun b o e => ?_, ?_, ?_, ?_⟩
    · rw [upd_ne (ne_of_none e hD)]
      exact s' _ _ (s _ _ e)
    · rw [List.map_append]; exact upd_same
    · rw [List.length_append, hl]; rfl
    · exact N.snoc s hD ⟨_, hDi⟩ s' ha (by rw [hl]; exact ha') fun b o e ne => by rw [upd_ne ne]; exact e
  · obtain ⟨as, s, hDi, hl, N⟩ := p
    exact hd H as s hDi hl N
theorem lc_news {K : PySem.W.Frag} {c : Addr} {xs : List V} {k : Nat} {te : TE} {vs : List Nat} {σ : L2.St} {H1 : Hp} {D : Addr} {Qd : Hp → Prop} (os : Nat → HO) (hz : xs.length ≤ sizeLine) (hS : SqL K H1 c xs) (hD : H1 D = none)
    (st : ∀ (i : Nat) (x : V) (H : Hp), xs[i]? = some x → Same H1 H → ∀ R : V → Hp → Prop, (∀ H' a, H a = none → Same H H' → H' a = some (os i) → R (.ref a) H') → te ((wipe σ vs).set k (some x)) H R)
    (hw : ∀ x, wipe ((wipe σ vs).set k (some x)) vs = wipe σ vs) (hd : ∀ H as, Same H1 H → H D = some (.lst (as.map V.ref)) → as.length = xs.length → News H1 H D as os → Qd H) :
    ∃ W : Nat → Nat → Hp → Prop, (∃ m, W 0 m (upd H1 D (.lst []))) ∧ ∀ i m H, W i m H →
      ((Itl K c).stop i H ∧ Qd H) ∨ ((Itl K c).go i H ∧ ∃ Nx : Hp → Prop, (∀ H', Nx H' → ∃ m', m' < m ∧ W (i + 1) m' H') ∧ ∀ x H', (Itl K c).yld i H x H' → gName k x (wipe σ vs) H' fun σ2 H2 => wipe σ2 vs = wipe σ vs ∧ tYes σ2 H2 fun b H3 =>
        if b = true then te σ2 H3 fun y H4 => ∃ acc, H4 D = some (.lst acc) ∧ acc.length < sizeLine ∧ Nx (upd H4 D (.lst (acc ++ [y]))) else Nx H3) := by
  refine lc_list (K := K) (a := c) (xs := xs) (fun i H => ∃ as : List Addr, Same H1 H ∧ H D = some (.lst (as.map V.ref)) ∧ as.length = i ∧ News H1 H D as os) ⟨[], Same.new hD, upd_same, rfl, .nil⟩ (fun i H _ ⟨as, s, _⟩ => s.seq hS) (fun i x H hx p => ?_) fun H p => ?_
  · obtain ⟨as, s, hDi, hl, N⟩ := p
    have hi := (List.getElem?_eq_some_iff.mp hx).1
    refine ⟨hw _, yes_of (P1 := fun H3 => te _ H3 _) ?_⟩
    refine st i x H hx s _ fun H' a ha s' ha' => ?_
    refine ⟨as.map V.ref, s' _ _ hDi, by rw [List.length_map]; omega, as ++ [a], fun b o e => ?_, ?_, ?_, ?_⟩
    · rw [upd_ne (ne_of_none e hD)]
      exact s' _ _ (s _ _ e)
    · rw [List.map_append]; exact upd_same
    · rw [List.length_append, hl]; rfl
    · exact N.snoc s hD ⟨_, hDi⟩ s' ha (by rw [hl]; exact ha') fun b o e ne => by rw [upd_ne ne]; exact e
  · obtain ⟨as, s, hDi, hl, N⟩ := p
    exact hd H as s hDi hl N
theorem mem_rep {α : Type} {n : Nat} {x y : α} (h : y ∈ List.replicate n x) : y = x := List.eq_of_mem_replicate h
section
variable {K : PySem.W.Frag} {A : Ad} {vs : List V} {H : Hp} {Q : VK} {E : XK}
theorem tst_lele {a c x : Int} {i : Nat} {σ : L2.St} {H : Hp} {R : Bool → Hp → Prop} (hx : σ[i]? = some (some (.int x))) (h : R (decide (a ≤ x ∧ x ≤ c)) H) : tTest (tChain zLe zLe (tC (.int a)) (tVar i) (tC (.int c))) σ H R := by
  refine ⟨_, hx, _, _, rfl, rfl, _, rfl, ?_⟩
  by_cases h0 : a ≤ x
  · rw [if_pos (decide_eq_true h0)]
    refine ⟨_, _, rfl, rfl, _, rfl, ?_⟩
    have e : decide (a ≤ x ∧ x ≤ c) = decide (x ≤ c) := by
      by_cases h1 : x ≤ c
      · rw [decide_eq_true h1, decide_eq_true (And.intro h0 h1)]
      · rw [decide_eq_false h1, decide_eq_false (fun z => h1 z.2)]
    rw [e] at h
    exact h
  · rw [if_neg (by rw [decide_eq_false h0]; exact Bool.false_ne_true)]
    refine ⟨_, rfl, ?_⟩
    rw [decide_eq_false (fun z => h0 z.1)] at h
    exact h
theorem replicate_get {α : Type} {n i : Nat} {x : α} (h : i < n) : (List.replicate n x)[i]? = some x := by
  rw [List.getElem?_replicate, if_pos h]
theorem pure_Chip_init (F : Fac K A) (h : sp_Chip_init K A vs H Q E) : t_Chip_init K A E { nx := fun _ H' => Q .non H', rt := Q } (start N_Chip_init vs) H := by
  obtain ⟨p, dx, b, m, rfl, hp, k1, k2⟩ := h
  refine tst_lele (x := b) rfl ?_
  show if (!decide ((4 : Int) ≤ b ∧ b ≤ 32)) = true then _ else _
  by_cases hb : (4 : Int) ≤ b ∧ b ≤ 32
  rotate_left
  · rw [decide_eq_false hb]
    exact iteT (iteT (k1 fun z => hb ⟨z.1, z.2.1⟩))
  rw [decide_eq_true hb]
  refine iteF (tst_lele (x := m) rfl ?_)
  show if (!decide ((2 : Int) ≤ m ∧ m ≤ 16)) = true then _ else _
  by_cases hm : (2 : Int) ≤ m ∧ m ≤ 16
  rotate_left
  · rw [decide_eq_false hm]
    exact iteT (k1 fun z => hm ⟨z.2.2.1, z.2.2.2⟩)
  rw [decide_eq_true hm]
  refine iteF ?_
  refine ⟨_, rfl, b, rfl, by omega, by omega, fun D hD => ?_⟩
  refine lc_newsR (lo := 0) (n := b.toNat) (fun _ => .lst (List.replicate m.toNat .non)) (sz32 (by omega)) hD (fun i H1 hi s R r => ?_) (fun _ => rfl) fun H1 as s hD1 hlen N => ?_
  · refine ⟨(by show 1 ≤ sizeLine; decide), fun l hl => ?_⟩
    refine ⟨_, rfl, l, m, _, rfl, rfl, upd_same, by omega, by omega, (by show 1 * m.toNat ≤ sizeLine; exact sz16 (by omega)), fun a ha => ?_⟩
    rw [rep1]
    have s1 : Same H1 (upd H1 l (.lst [V.non])) := Same.new hl
    exact r _ a (s1.free ha) (s1.trans (Same.new ha)) upd_same
  have hp1 := s _ _ hp
  have npD : p ≠ D := ne_of_none hp hD
  refine ⟨_, rfl, p, A.chip, dx, [], rfl, hp1, F.cl_Chip, F.n_rows, (by show 0 < 1000; decide), ?_⟩
  refine ⟨(by show 1 ≤ sizeLine; decide), fun l hl => ?_⟩
  have npl : p ≠ l := fun z => by rw [← z, upd_same] at hl; cases hl
  have hl1 : H1 l = none := by rw [upd_ne npl.symm] at hl; exact hl
  refine ⟨_, rfl, l, b, _, rfl, rfl, upd_same, by omega, by omega, (by show 1 * b.toNat ≤ sizeLine; exact sz32 (by omega)), fun w hw => ?_⟩
  rw [rep1]
  have nwl : w ≠ l := fun z => by rw [z, upd_same] at hw; cases hw
  have nwp : w ≠ p := fun z => by rw [z, upd_ne npl, upd_same] at hw; cases hw
  have hw1 : H1 w = none := by rw [upd_ne nwl, upd_ne nwp] at hw; exact hw
  refine ⟨_, rfl, p, A.chip, dx, [("rows", .ref D)], rfl, (by rw [upd_ne nwp.symm, upd_ne npl, upd_same]; rfl), F.cl_Chip, F.n_wears, (by show 1 < 1000; decide), ?_⟩
  refine ⟨_, rfl, p, A.chip, dx, [("rows", .ref D), ("wears", .ref w)], rfl, (by rw [upd_same]; simp [putF, Ne.symm n_wr]), F.cl_Chip, F.n_many, (by show 2 < 1000; decide), ?_⟩
  refine ⟨_, rfl, p, A.chip, dx, [("rows", .ref D), ("wears", .ref w), ("many", .int 0)], rfl, (by rw [upd_same]; simp [putF, Ne.symm n_mr, Ne.symm n_mw]), F.cl_Chip, F.n_left, (by show 3 < 1000; decide), ?_⟩
  refine ⟨_, rfl, p, A.chip, dx, [("rows", .ref D), ("wears", .ref w), ("many", .int 0), ("left", .non)], rfl, (by rw [upd_same]; simp [putF, Ne.symm n_lr, Ne.symm n_lw, Ne.symm n_lm]), F.cl_Chip, F.n_is_cut, (by show 4 < 1000; decide), ?_⟩
  have ef : putF "is_cut" (V.bl false) [("rows", V.ref D), ("wears", .ref w), ("many", .int 0), ("left", .non)] = chipF D w 0 .non false := by simp [putF, chipF, Ne.symm n_cr, Ne.symm n_cw, Ne.symm n_cm, Ne.symm n_cl]
  rw [upd_upd, upd_upd, upd_upd, ef]
  have nDw : D ≠ w := ne_of_none hD1 hw1
  have nDl : D ≠ l := ne_of_none hD1 hl1
  have other : ∀ x o, H1 x = some o → x ≠ p → (upd (upd (upd (upd H1 p (.ins A.chip dx (putF "rows" (.ref D) []))) l (.lst [V.int 0])) w (.lst (List.replicate b.toNat (V.int 0)))) p (.ins A.chip dx (chipF D w 0 .non false))) x = some o := fun x o e hx => by
    rw [upd_ne hx, upd_ne (ne_of_none e hw1), upd_ne (ne_of_none e hl1), upd_ne hx]; exact e
  have live : ∀ x, (upd (upd (upd (upd H1 p (.ins A.chip dx (putF "rows" (.ref D) []))) l (.lst [V.int 0])) w (.lst (List.replicate b.toNat (V.int 0)))) p (.ins A.chip dx (chipF D w 0 .non false))) x = none → H x = none := fun x e => by
    by_cases hx : x = p
    · subst hx; rw [upd_same] at e; cases e
    · refine s.free ?_
      cases q : H1 x with
      | none => rfl
      | some o => rw [other x o q hx] at e; cases e
  refine k2 ⟨hb.1, hb.2, hm.1, hm.2⟩ ⟨p, dx, D, w, as⟩ _ ?_ rfl ?_ ?_
  · refine { ob := upd_same, rows := other _ _ hD1 npD.symm, wears := ?_, len := ?_, row := fun i a e => ?_, wlen := ?_, pgs := fun xs hx => ?_, nd := ?_, lo := ?_, hi := ?_, mlo := ?_, mhi := ?_ }
    · show upd _ p _ w = _
      rw [upd_ne nwp, upd_same]
      show some (HO.lst (List.replicate b.toNat (V.int 0))) = some (.lst ((List.replicate b.toNat (0 : Int)).map V.int))
      rw [List.map_replicate]
    · show as.length = (List.replicate b.toNat _).length
      rw [List.length_replicate]; exact hlen
    · have hi : i < b.toNat := by rw [← hlen]; exact (List.getElem?_eq_some_iff.mp e).1
      refine ⟨List.replicate m.toNat .non, replicate_get hi, other _ _ (N.at_ i a e) fun z => ?_⟩
      have := (N.new a (List.mem_of_getElem? e)).1
      rw [z, hp] at this
      cases this
    · show (List.replicate b.toNat (0 : Int)).length = (List.replicate b.toNat _).length
      rw [List.length_replicate, List.length_replicate]
    · have e := mem_rep hx
      rw [e]; exact List.length_replicate
    · refine List.nodup_cons.mpr ⟨fun z => ?_, List.nodup_cons.mpr ⟨fun z => ?_, N.nd⟩⟩
      · rcases List.mem_cons.mp z with q | q
        · exact nDw q
        · exact (N.new D q).2 rfl
      · obtain ⟨i, hi⟩ := List.getElem?_of_mem z
        have := N.at_ i w hi
        rw [hw1] at this; cases this
    · show 4 ≤ (List.replicate b.toNat _).length
      rw [List.length_replicate]; omega
    · show (List.replicate b.toNat _).length ≤ 32
      rw [List.length_replicate]; omega
    · show 2 ≤ m.toNat
      omega
    · show m.toNat ≤ 16
      omega
  · intro x hx
    rcases hx with z | z | z | z
    · exact .inl z
    · rw [show x = D from z]; exact .inr hD
    · rw [show x = w from z]; exact .inr (s.free hw1)
    · exact .inr (N.new x z).1
  · exact ⟨fun x o e hx => other x o (s _ _ e) hx, fun x xs e => other x _ (s _ _ e) (fun z => by rw [z, hp] at e; cases e), live⟩
theorem pure_copied (F : Fac K A) (h : sp_copied K A vs H Q E) : t_copied K A E { nx := fun _ H' => Q .non H', rt := Q } (start N_copied vs) H := by
  obtain ⟨d, c, rfl, h, k⟩ := h
  refine ⟨_, rfl, d.p, d.dx, _, rfl, h.ob, no5, d, c, rfl, h, fun t ht => ?_⟩
  refine ⟨t, _, rfl, SqT.of upd_same, rfl, _, _, rfl, _, _, rfl, rfl, ?_⟩
  have h1 : ChipAt A (upd H t (.tup [.int c.rows.length, .int c.m])) d c := (Chg.same h (Same.new ht)).at_
  refine ⟨_, rfl, _, rfl, ?_⟩
  intro x dx nx ndx ndn
  have hso : sizeOk c.rows.length c.m := by
    have := h.lo; have := h.hi; have := h.mlo; have := h.mhi
    exact ⟨by omega, by omega, by omega, by omega⟩
  refine ⟨x, dx, _, _, rfl, upd_same, fun z => absurd hso z, fun _ d2 H2 hc2 hp2 sub2 fr2 => ⟨rfl, ?_⟩⟩
  subst hp2
  have s2 : Same (upd H t (.tup [.int c.rows.length, .int c.m])) H2 := fun y o e => by
    refine fr2.keep y o ?_ (fun z => by rw [z] at e; exact absurd e (by rw [nx]; exact fun q => by cases q))
    rw [upd_ne (ne_of_none e nx), upd_ne (ne_of_none e ndx)]; exact e
  have s02 : Same H H2 := (Same.new ht).trans s2
  have h2 : ChipAt A H2 d c := (Chg.same h s02).at_
  refine ⟨_, rfl, d.p, _, d.dx, _, _, rfl, h2.ob, F.cl_Chip, F.n_rows, chipF_rows, d.L, rfl, ⟨_, SqL.of h2.rows⟩, fun D hD => ?_⟩
  refine lc_news (K := K) (c := d.L) (xs := d.rs.map V.ref) (fun i => .lst (c.rows.getD i [])) (by rw [List.length_map, h.len]; exact sz32 h.hi) (SqL.of h2.rows) hD (fun i y H3 hi s R r => ?_) (fun _ => rfl) fun H3 as s hD3 hlen N => ?_
  · rw [List.getElem?_map] at hi
    cases q : d.rs[i]? with
    | none => rw [q] at hi; cases hi
    | some a =>
      rw [q] at hi
      have ey : V.ref a = y := Option.some.inj hi
      subst ey
      obtain ⟨xs, hx, ha⟩ := h2.row i a q
      refine ⟨_, rfl, a, xs, rfl, .inl (SqL.of (s _ _ ha)), fun l hl => r _ l hl (Same.new hl) ?_⟩
      rw [List.getD_eq_getElem?_getD, hx]; exact upd_same
  have hc3 : ChipAt A H3 d2 (CS.new c.rows.length c.m) := (Chg.same hc2 s).at_
  have h3 : ChipAt A H3 d c := (Chg.same h2 s).at_
  refine ⟨_, rfl, d2.p, _, d2.dx, _, rfl, hc3.ob, F.cl_Chip, F.n_rows, chipF_len, ?_⟩
  rw [chipF_pr]
  have npd : d.p ≠ d2.p := fun z => by
    have e := h.ob
    have e2 : (upd H t (.tup [.int c.rows.length, .int c.m])) d2.p = none := nx
    rw [← z, upd_ne (ne_of_none e ht), e] at e2; cases e2
  have nWp : d.W ≠ d2.p := ne_of h3.wears hc3.ob (by intro z; cases z)
  refine ⟨_, rfl, d.p, _, d.dx, _, _, rfl, (by rw [upd_ne npd]; exact h3.ob), F.cl_Chip, F.n_wears, chipF_wears, d.W, _, rfl, .inl (SqL.of (by rw [upd_ne nWp]; exact h3.wears)), fun w hw => ?_⟩
  have nwp : w ≠ d2.p := fun z => by rw [z, upd_same] at hw; cases hw
  have hw3 : H3 w = none := by rw [upd_ne nwp] at hw; exact hw
  refine ⟨_, rfl, d2.p, _, d2.dx, _, rfl, (by rw [upd_ne nwp.symm, upd_same]), F.cl_Chip, F.n_wears, chipF_len, ?_⟩
  rw [chipF_pw]
  have ndw : d.p ≠ w := ne_of_none h3.ob hw3
  refine ⟨_, rfl, d.p, _, d.dx, _, _, rfl, (by rw [upd_ne npd, upd_ne ndw, upd_ne npd]; exact h3.ob), F.cl_Chip, F.n_many, chipF_many, _, rfl, d2.p, _, d2.dx, _, rfl, upd_same, F.cl_Chip, F.n_many, chipF_len, ?_⟩
  rw [upd_upd, chipF_pm]
  have other : ∀ y o, H3 y = some o → y ≠ d2.p → (upd (upd (upd H3 d2.p (.ins A.chip d2.dx (chipF D d2.W (CS.new c.rows.length c.m).many (leftV (CS.new c.rows.length c.m).left) (CS.new c.rows.length c.m).cut))) w (.lst (c.wears.map V.int))) d2.p (.ins A.chip d2.dx (chipF D w c.many (leftV (CS.new c.rows.length c.m).left) (CS.new c.rows.length c.m).cut))) y = some o := fun y o e hy => by
    rw [upd_ne hy, upd_ne (ne_of_none e hw3), upd_ne hy]; exact e
  refine ⟨_, rfl, ?_⟩
  have nDp : D ≠ d2.p := ne_of hD3 hc3.ob (by intro z; cases z)
  have asl : as.length = c.rows.length := by rw [hlen, List.length_map, h.len]
  have nD0 : H D = none := s02.free hD
  refine k ⟨d2.p, d2.dx, D, w, as⟩ _ ?_ ?_ ?_
  · refine { ob := upd_same, rows := other _ _ hD3 nDp, wears := ?_, len := asl, row := fun i a e => ?_, wlen := h.wlen, pgs := h.pgs, nd := ?_, lo := h.lo, hi := h.hi, mlo := h.mlo, mhi := h.mhi }
    · show upd _ d2.p _ w = _
      rw [upd_ne nwp, upd_same]
    · have hi : i < c.rows.length := by rw [← asl]; exact (List.getElem?_eq_some_iff.mp e).1
      refine ⟨c.rows[i], List.getElem?_eq_getElem hi, ?_⟩
      have ea := N.at_ i a e
      rw [List.getD_eq_getElem?_getD, List.getElem?_eq_getElem hi] at ea
      refine other _ _ ea fun z => ?_
      have := (N.new a (List.mem_of_getElem? e)).1
      rw [z, hc2.ob] at this
      cases this
    · refine List.nodup_cons.mpr ⟨fun z => ?_, List.nodup_cons.mpr ⟨fun z => ?_, N.nd⟩⟩
      · rcases List.mem_cons.mp z with q | q
        · exact ne_of_none hD3 hw3 q
        · exact (N.new D q).2 rfl
      · obtain ⟨i, hi⟩ := List.getElem?_of_mem z
        have := N.at_ i w hi
        rw [hw3] at this; cases this
  · intro y hy
    rcases hy with z | z | z | z
    · rw [show y = d2.p from z]
      exact (Same.new (o := .tup [.int c.rows.length, .int c.m]) ht).free nx
    · rw [show y = D from z]; exact nD0
    · rw [show y = w from z]; exact (s02.trans s).free hw3
    · exact s02.free (N.new y z).1
  · intro y o e
    refine other _ _ ((s02.trans s) _ _ e) fun z => ?_
    have e2 : (upd H t (.tup [.int c.rows.length, .int c.m])) d2.p = none := nx
    rw [← z, upd_ne (ne_of_none e ht), e] at e2; cases e2
end

structure Rec where
  s : Int
  t : Int
  c : Int
  deriving DecidableEq
abbrev Blk := List (Option Rec)
structure DC where
  bs : List Blk
  m : Nat
  wears : List Int
  many : Int
  left : Option Int
  cut : Bool
structure Pl where
  b : Nat
  p : Nat
  t : Int
  c : Int
  deriving DecidableEq
structure DS where
  x : DC
  S : Int
  pl : Int → Option Pl
  stamp : Int
  head : Nat
  at_ : Nat
def DC.n (x : DC) : Nat := x.bs.length
def DC.blk (x : DC) (b : Nat) : Blk := x.bs.getD b []
def DC.gw (x : DC) : DC × Bool := match x.left with
  | none => (x, true)
  | some n => ({ x with left := some (n - 1), cut := decide (n ≤ 0) }, !decide (n ≤ 0))
def DC.put (x : DC) (b : Nat) (r : Rec) : DC × Bool :=
  if x.cut = true then (x, false) else
    ({ x.gw.1 with many := x.many + 1, bs := x.bs.set b (x.blk b ++ [if x.gw.2 = true then some r else none]) }, x.gw.2)
def DC.erase (x : DC) (b : Nat) : DC × Bool :=
  if x.cut = true then (x, false) else
    ({ x.gw.1 with wears := x.wears.set b (x.wears.getD b 0 + 1), bs := x.bs.set b (if x.gw.2 = true then [] else List.replicate x.m none) }, x.gw.2)
def isEmpty (k : Blk) : Bool := k.all fun pg => pg.isNone
def updP (pl : Int → Option Pl) (s : Int) (e : Pl) : Int → Option Pl := fun i => if i = s then some e else pl i
def DS.put (st : DS) (s c : Int) : DS × Bool :=
  if (st.x.put st.head ⟨s, st.stamp, c⟩).2 = true then
    ({ st with x := (st.x.put st.head ⟨s, st.stamp, c⟩).1, pl := updP st.pl s ⟨st.head, st.at_, st.stamp, c⟩, stamp := st.stamp + 1, at_ := st.at_ + 1 }, true)
  else ({ st with x := (st.x.put st.head ⟨s, st.stamp, c⟩).1 }, false)
def liveAt (pl : Int → Option Pl) (b p : Nat) (r : Rec) : Bool := match pl r.s with
  | some e => decide (e.b = b ∧ e.p = p)
  | none => false
def cleanGo (b : Nat) : Blk → Nat → DS → DS × Bool
  | [], _, st => (st, true)
  | none :: r, p, st => cleanGo b r (p + 1) st
  | some x :: r, p, st => if liveAt st.pl b p x = true then (if (st.put x.s x.c).2 = true then cleanGo b r (p + 1) (st.put x.s x.c).1 else ((st.put x.s x.c).1, false)) else cleanGo b r (p + 1) st
def DS.clean (st : DS) (b : Nat) : DS × Bool :=
  if (cleanGo b (st.x.blk b) 0 st).2 = true then
    ({ (cleanGo b (st.x.blk b) 0 st).1 with x := ((cleanGo b (st.x.blk b) 0 st).1.x.erase b).1 }, ((cleanGo b (st.x.blk b) 0 st).1.x.erase b).2)
  else ((cleanGo b (st.x.blk b) 0 st).1, false)
def DS.nextH (st : DS) : Nat := (st.head + 1) % st.x.n
def DS.moved (st : DS) : DS := { st with head := st.nextH, at_ := 0 }
def DS.advance (st : DS) : DS × Bool :=
  if isEmpty (st.x.blk st.moved.nextH) = true then (st.moved, true) else st.moved.clean st.moved.nextH
def wloop : Nat → DS → DS × Bool
  | 0, st => (st, true)
  | k + 1, st => if st.at_ = st.x.m then (if st.advance.2 = true then wloop k st.advance.1 else (st.advance.1, false)) else (st, true)
def DS.write (st : DS) (s c : Int) : DS × Bool :=
  if (wloop st.x.n st).2 = true then (wloop st.x.n st).1.put s c else ((wloop st.x.n st).1, false)
def gtRow (b : Nat) : Blk → Option Nat × Int → Option Nat × Int
  | [], a => a
  | none :: r, a => gtRow b r a
  | some x :: r, a => gtRow b r (if a.2 < x.t then (some b, x.t) else a)
def gtGo : List Blk → Nat → Option Nat × Int → Option Nat × Int
  | [], _, a => a
  | k :: r, b, a => gtGo r (b + 1) (gtRow b k a)
def greatest (bs : List Blk) : Option Nat := (gtGo bs 0 (none, -1)).1
def empties (x : DC) : List Nat := (List.range x.n).filter fun b => isEmpty (x.blk b)
def tidyGo : List Nat → DC → DC × Bool
  | [], x => (x, true)
  | b :: r, x => if none ∈ x.blk b then (if (x.erase b).2 = true then tidyGo r (x.erase b).1 else ((x.erase b).1, false)) else tidyGo r x
def tidy (x : DC) : DC × Bool := if empties x = [] then x.erase ((greatest x.bs).getD 0) else tidyGo (empties x) x
def seePage (b p : Nat) (r : Rec) (a : (Int → Option Pl) × Int) : (Int → Option Pl) × Int :=
  (match a.1 r.s with
    | none => updP a.1 r.s ⟨b, p, r.t, r.c⟩
    | some e => if e.t < r.t then updP a.1 r.s ⟨b, p, r.t, r.c⟩ else a.1,
   if r.t + 1 > a.2 then r.t + 1 else a.2)
def seeRow (b : Nat) : Blk → Nat → (Int → Option Pl) × Int → (Int → Option Pl) × Int
  | [], _, a => a
  | none :: r, p, a => seeRow b r (p + 1) a
  | some x :: r, p, a => seeRow b r (p + 1) (seePage b p x a)
def seeAll : List Blk → Nat → (Int → Option Pl) × Int → (Int → Option Pl) × Int
  | [], _, a => a
  | k :: r, b, a => seeAll r (b + 1) (seeRow b k 0 a)
def DS.init (x : DC) (S : Int) : DS := ⟨x, S, fun _ => none, 0, 0, 0⟩
def DS.found (x : DC) (S : Int) : DS :=
  { x := x, S := S, pl := (seeAll x.bs 0 (fun _ => none, 0)).1, stamp := (seeAll x.bs 0 (fun _ => none, 0)).2,
    head := (greatest x.bs).getD 0, at_ := match greatest x.bs with
      | none => 0
      | some b => (x.blk b).length }
def mount (x : DC) (S : Int) : DS × Bool := if (tidy x).2 = true then (DS.found (tidy x).1 S, true) else (DS.init (tidy x).1 S, false)
def DS.val (st : DS) (s : Int) : Int := match st.pl s with
  | none => 0
  | some e => e.c
def Fit (S : Int) (bs : List Blk) : Prop := ∀ k ∈ bs, ∀ r, some r ∈ k → 0 ≤ r.s ∧ r.s < S ∧ 0 ≤ r.t
def PutOk (st : DS) (s : Int) : Prop := st.head < st.x.n ∧ (st.x.blk st.head).length = st.at_ ∧ st.at_ < st.x.m ∧ 0 ≤ s ∧ s < st.S
structure CleanOk (st : DS) (b : Nat) : Prop where
  hb : b < st.x.n
  hh : st.head < st.x.n
  ne : st.head ≠ b
  em : st.x.blk st.head = []
  at0 : st.at_ = 0
  all : ∀ r, some r ∈ st.x.blk b → 0 ≤ r.s ∧ r.s < st.S ∧ st.pl r.s ≠ none
structure AdvOk (st : DS) : Prop where
  n2 : 2 ≤ st.x.n
  em : st.x.blk st.nextH = []
  all : ∀ r, some r ∈ st.x.blk st.moved.nextH → 0 ≤ r.s ∧ r.s < st.S ∧ st.pl r.s ≠ none
def LoopOk : Nat → DS → Prop
  | 0, st => st.at_ ≠ st.x.m
  | k + 1, st => st.at_ = st.x.m → AdvOk st ∧ (st.advance.2 = true → LoopOk k st.advance.1)
def WriteOk (st : DS) (s : Int) : Prop := LoopOk st.x.n st ∧ ((wloop st.x.n st).2 = true → PutOk (wloop st.x.n st).1 s)
def TidyOk (x : DC) : Prop := empties x = [] → ∃ b, greatest x.bs = some b ∧ b < x.n

structure FacD (K : PySem.W.Frag) (A : Ad) : Prop extends Fac K A where
  cl_Disk : Cls K A.disk
  n_chip : NoAttr K A.disk "chip"
  n_dmany : NoAttr K A.disk "many"
  n_blocks : NoAttr K A.disk "blocks"
  n_pages : NoAttr K A.disk "pages"
  n_places : NoAttr K A.disk "places"
  n_stamp : NoAttr K A.disk "stamp"
  n_head : NoAttr K A.disk "head"
  n_at : NoAttr K A.disk "at"
theorem nd01 : ("many" : Str) ≠ "chip" := by decide +kernel
theorem nd02 : ("blocks" : Str) ≠ "chip" := by decide +kernel
theorem nd03 : ("pages" : Str) ≠ "chip" := by decide +kernel
theorem nd04 : ("places" : Str) ≠ "chip" := by decide +kernel
theorem nd05 : ("stamp" : Str) ≠ "chip" := by decide +kernel
theorem nd06 : ("head" : Str) ≠ "chip" := by decide +kernel
theorem nd07 : ("at" : Str) ≠ "chip" := by decide +kernel
theorem nd12 : ("blocks" : Str) ≠ "many" := by decide +kernel
theorem nd13 : ("pages" : Str) ≠ "many" := by decide +kernel
theorem nd14 : ("places" : Str) ≠ "many" := by decide +kernel
theorem nd15 : ("stamp" : Str) ≠ "many" := by decide +kernel
theorem nd16 : ("head" : Str) ≠ "many" := by decide +kernel
theorem nd17 : ("at" : Str) ≠ "many" := by decide +kernel
theorem nd23 : ("pages" : Str) ≠ "blocks" := by decide +kernel
theorem nd24 : ("places" : Str) ≠ "blocks" := by decide +kernel
theorem nd25 : ("stamp" : Str) ≠ "blocks" := by decide +kernel
theorem nd26 : ("head" : Str) ≠ "blocks" := by decide +kernel
theorem nd27 : ("at" : Str) ≠ "blocks" := by decide +kernel
theorem nd34 : ("places" : Str) ≠ "pages" := by decide +kernel
theorem nd35 : ("stamp" : Str) ≠ "pages" := by decide +kernel
theorem nd36 : ("head" : Str) ≠ "pages" := by decide +kernel
theorem nd37 : ("at" : Str) ≠ "pages" := by decide +kernel
theorem nd45 : ("stamp" : Str) ≠ "places" := by decide +kernel
theorem nd46 : ("head" : Str) ≠ "places" := by decide +kernel
theorem nd47 : ("at" : Str) ≠ "places" := by decide +kernel
theorem nd56 : ("head" : Str) ≠ "stamp" := by decide +kernel
theorem nd57 : ("at" : Str) ≠ "stamp" := by decide +kernel
theorem nd67 : ("at" : Str) ≠ "head" := by decide +kernel
def diskF (cp : Addr) (S n m : Int) (P : Addr) (stamp hd at_ : Int) : List (Str × V) := [("chip", .ref cp), ("many", .int S), ("blocks", .int n), ("pages", .int m), ("places", .ref P), ("stamp", .int stamp), ("head", .int hd), ("at", .int at_)]
section
variable {cp P : Addr} {S n m stamp hd at_ : Int}
theorem diskF_chip : (diskF cp S n m P stamp hd at_).lookup ("chip" : Str) = some (.ref cp) := by simp [diskF, List.lookup]
theorem diskF_many : (diskF cp S n m P stamp hd at_).lookup ("many" : Str) = some (.int S) := by simp [diskF, List.lookup, beq_no nd01]
theorem diskF_blocks : (diskF cp S n m P stamp hd at_).lookup ("blocks" : Str) = some (.int n) := by simp [diskF, List.lookup, beq_no nd02, beq_no nd12]
theorem diskF_pages : (diskF cp S n m P stamp hd at_).lookup ("pages" : Str) = some (.int m) := by simp [diskF, List.lookup, beq_no nd03, beq_no nd13, beq_no nd23]
theorem diskF_places : (diskF cp S n m P stamp hd at_).lookup ("places" : Str) = some (.ref P) := by simp [diskF, List.lookup, beq_no nd04, beq_no nd14, beq_no nd24, beq_no nd34]
theorem diskF_stamp : (diskF cp S n m P stamp hd at_).lookup ("stamp" : Str) = some (.int stamp) := by simp [diskF, List.lookup, beq_no nd05, beq_no nd15, beq_no nd25, beq_no nd35, beq_no nd45]
theorem diskF_head : (diskF cp S n m P stamp hd at_).lookup ("head" : Str) = some (.int hd) := by simp [diskF, List.lookup, beq_no nd06, beq_no nd16, beq_no nd26, beq_no nd36, beq_no nd46, beq_no nd56]
theorem diskF_at : (diskF cp S n m P stamp hd at_).lookup ("at" : Str) = some (.int at_) := by simp [diskF, List.lookup, beq_no nd07, beq_no nd17, beq_no nd27, beq_no nd37, beq_no nd47, beq_no nd57, beq_no nd67]
theorem no8 {f : Str} (h : decide (f = "chip" ∨ f = "many" ∨ f = "blocks" ∨ f = "pages" ∨ f = "places" ∨ f = "stamp" ∨ f = "head" ∨ f = "at") = false := by decide +kernel) : (diskF cp S n m P stamp hd at_).lookup f = none := by
  have h := of_decide_eq_false h
  simp only [not_or] at h
  obtain ⟨h0, h1, h2, h3, h4, h5, h6, h7⟩ := h
  simp [diskF, List.lookup, beq_no h0, beq_no h1, beq_no h2, beq_no h3, beq_no h4, beq_no h5, beq_no h6, beq_no h7]
theorem diskF_len : (diskF cp S n m P stamp hd at_).length < 1000 := by show 8 < 1000; decide
theorem diskF_pstamp {z : Int} : putF "stamp" (.int z) (diskF cp S n m P stamp hd at_) = diskF cp S n m P z hd at_ := by simp [putF, diskF, Ne.symm nd05, Ne.symm nd15, Ne.symm nd25, Ne.symm nd35, Ne.symm nd45]
theorem diskF_phead {z : Int} : putF "head" (.int z) (diskF cp S n m P stamp hd at_) = diskF cp S n m P stamp z at_ := by simp [putF, diskF, Ne.symm nd06, Ne.symm nd16, Ne.symm nd26, Ne.symm nd36, Ne.symm nd46, Ne.symm nd56]
theorem diskF_pat {z : Int} : putF "at" (.int z) (diskF cp S n m P stamp hd at_) = diskF cp S n m P stamp hd z := by simp [putF, diskF, Ne.symm nd07, Ne.symm nd17, Ne.symm nd27, Ne.symm nd37, Ne.symm nd47, Ne.symm nd57, Ne.symm nd67]
end
def PgR (H : Hp) : Option Rec → V → Prop
  | none, v => v = .str "torn"
  | some r, v => ∃ t, v = .ref t ∧ H t = some (.tup [.int r.s, .int r.t, .int r.c])
structure RowR (H : Hp) (m : Nat) (k : Blk) (xs : List V) : Prop where
  len : xs.length = m
  le : k.length ≤ m
  at_ : ∀ (i : Nat) pg, k[i]? = some pg → ∃ v, xs[i]? = some v ∧ PgR H pg v
  er : ∀ (i : Nat), k.length ≤ i → i < m → xs[i]? = some .non
structure RowsR (H : Hp) (m : Nat) (bs : List Blk) (rows : List (List V)) : Prop where
  len : bs.length = rows.length
  row : ∀ (i : Nat) k, bs[i]? = some k → ∃ xs, rows[i]? = some xs ∧ RowR H m k xs
def Tups (H H' : Hp) : Prop := ∀ b xs, H b = some (.tup xs) → H' b = some (.tup xs)
theorem PgR.mono {H H' : Hp} (t : Tups H H') : ∀ {pg : Option Rec} {v : V}, PgR H pg v → PgR H' pg v
  | none, _, h => h
  | some r, _, ⟨a, e, h⟩ => ⟨a, e, t a _ h⟩
theorem RowR.mono {H H' : Hp} (t : Tups H H') {m : Nat} {k : Blk} {xs : List V} (h : RowR H m k xs) : RowR H' m k xs :=
  ⟨h.len, h.le, fun i pg e => let ⟨v, h1, h2⟩ := h.at_ i pg e; ⟨v, h1, h2.mono t⟩, h.er⟩
theorem RowsR.mono {H H' : Hp} (t : Tups H H') {m : Nat} {bs : List Blk} {rows : List (List V)} (h : RowsR H m bs rows) : RowsR H' m bs rows :=
  ⟨h.len, fun i k e => let ⟨xs, h1, h2⟩ := h.row i k e; ⟨xs, h1, h2.mono t⟩⟩
structure ChipD (A : Ad) (H : Hp) (d : CD) (x : DC) : Prop where
  ex : ∃ rows, ChipAt A H d ⟨rows, x.wears, x.many, x.left, x.cut, x.m⟩ ∧ RowsR H x.m x.bs rows
structure ChgC (A : Ad) (H : Hp) (d : CD) (H' : Hp) (d' : CD) (x' : DC) : Prop where
  at_ : ChipD A H' d' x'
  p : d'.p = d.p
  sub : ∀ b, cfp d' b → cfp d b ∨ H b = none
  fr : Fr (cfp d) H H'
def plV (e : Pl) : List V := [.int e.b, .int e.p, .int e.t, .int e.c]
structure PlR (H : Hp) (S : Int) (kvs : List (Key × V)) (pl : Int → Option Pl) : Prop where
  nd : (kvs.map (·.1)).Nodup
  ks : ∀ k ∈ kvs.map (·.1), ∃ i : Int, k = Sum.inl i ∧ 0 ≤ i ∧ i < S
  no : ∀ i, pl i = none → valV kvs (Sum.inl i) = none
  yes : ∀ i e, pl i = some e → ∃ t, valV kvs (Sum.inl i) = some (.ref t) ∧ H t = some (.tup (plV e))
theorem PlR.mono {H H' : Hp} (t : Tups H H') {S : Int} {kvs : List (Key × V)} {pl : Int → Option Pl} (h : PlR H S kvs pl) : PlR H' S kvs pl :=
  ⟨h.nd, h.ks, h.no, fun i e q => let ⟨a, h1, h2⟩ := h.yes i e q; ⟨a, h1, t a _ h2⟩⟩
structure DD where
  q : Addr
  qx : Addr
  P : Addr
  chip : CD
def dfp (d : DD) (b : Addr) : Prop := b = d.q ∨ b = d.P ∨ cfp d.chip b
structure DiskAt (A : Ad) (H : Hp) (d : DD) (st : DS) : Prop where
  ob : H d.q = some (.ins A.disk d.qx (diskF d.chip.p st.S st.x.bs.length st.x.m d.P st.stamp st.head st.at_))
  pls : ∃ kvs, H d.P = some (.dK kvs) ∧ PlR H st.S kvs st.pl
  chip : ChipD A H d.chip st.x
  hS : st.S ≤ 512
structure ChgD (A : Ad) (H : Hp) (d : DD) (H' : Hp) (d' : DD) (st' : DS) : Prop where
  at_ : DiskAt A H' d' st'
  q : d'.q = d.q
  p : d'.chip.p = d.chip.p
  sub : ∀ b, dfp d' b → dfp d b ∨ H b = none
  fr : Fr (dfp d) H H'
  csub : ∀ b, cfp d'.chip b → cfp d.chip b ∨ H b = none
  pp : d'.P = d.P
section
variable {A : Ad} {H H' : Hp}
theorem ChipD.len {d : CD} {x : DC} (h : ChipD A H d x) : 4 ≤ x.bs.length ∧ x.bs.length ≤ 32 ∧ 2 ≤ x.m ∧ x.m ≤ 16 ∧ x.wears.length = x.bs.length := by
  obtain ⟨rows, h, r⟩ := h.ex
  rw [r.len]
  exact ⟨h.lo, h.hi, h.mlo, h.mhi, h.wlen⟩
theorem blk_of {x : DC} {b : Nat} (h : b < x.bs.length) : x.bs[b]? = some (x.blk b) := by
  unfold DC.blk
  rw [List.getD_eq_getElem?_getD, List.getElem?_eq_getElem h]; rfl
theorem ChipD.ofSame {d : CD} {x : DC} (h : ChipD A H d x) (s : Same H H') : ChipD A H' d x := by
  obtain ⟨rows, h, r⟩ := h.ex
  exact ⟨rows, (Chg.same h s).at_, r.mono fun b xs e => s _ _ e⟩
theorem ChgC.same {d : CD} {x : DC} (h : ChipD A H d x) (s : Same H H') : ChgC A H d H' d x := ⟨h.ofSame s, rfl, fun b hb => .inl hb, .of_same s⟩
theorem ChgC.trans {d d' d'' : CD} {H1 H2 : Hp} {x1 x2 : DC} (a : ChgC A H d H1 d' x1) (b : ChgC A H1 d' H2 d'' x2) : ChgC A H d H2 d'' x2 where
  at_ := b.at_
  p := b.p.trans a.p
  sub := fun x hx => by
    rcases b.sub x hx with q | q
    · exact a.sub x q
    · exact .inr (a.fr.live x q)
  fr := a.fr.trans b.fr a.sub
theorem ins_ne {C C' dx dx' : Addr} {fs fs' : List (Str × V)} (h : fs.length ≠ fs'.length) : HO.ins C dx fs ≠ HO.ins C' dx' fs' := fun z => by
  injection z with _ _ e
  exact h (by rw [e])
theorem DiskAt.qp {d : DD} {st : DS} (h : DiskAt A H d st) : d.q ≠ d.chip.p := by
  obtain ⟨rows, hc, _⟩ := h.chip.ex
  exact ne_of h.ob hc.ob (ins_ne (by show 8 ≠ 5; decide))
theorem DiskAt.notc {d : DD} {st : DS} (h : DiskAt A H d st) : ¬ cfp d.chip d.q ∧ ¬ cfp d.chip d.P := by
  obtain ⟨rows, hc, _⟩ := h.chip.ex
  obtain ⟨kvs, hp, _⟩ := h.pls
  refine ⟨fun z => ?_, fun z => ?_⟩
  · rcases z with z | z | z | z
    · exact h.qp z
    · have e := h.ob
      rw [z, hc.rows] at e; cases e
    · have e := h.ob
      rw [z, hc.wears] at e; cases e
    · obtain ⟨i, hi⟩ := List.getElem?_of_mem z
      obtain ⟨xs, _, hx⟩ := hc.row i _ hi
      have e := h.ob
      rw [hx] at e; cases e
  · rcases z with z | z | z | z
    · have e := hp
      rw [z, hc.ob] at e; cases e
    · have e := hp
      rw [z, hc.rows] at e; cases e
    · have e := hp
      rw [z, hc.wears] at e; cases e
    · obtain ⟨i, hi⟩ := List.getElem?_of_mem z
      obtain ⟨xs, _, hx⟩ := hc.row i _ hi
      have e := hp
      rw [hx] at e; cases e
theorem DiskAt.qP {d : DD} {st : DS} (h : DiskAt A H d st) : d.q ≠ d.P := by
  obtain ⟨kvs, hp, _⟩ := h.pls
  exact ne_of h.ob hp (by intro z; cases z)
theorem ChgD.same {d : DD} {st : DS} (h : DiskAt A H d st) (s : Same H H') : ChgD A H d H' d st where
  at_ := ⟨s _ _ h.ob, let ⟨kvs, h1, h2⟩ := h.pls; ⟨kvs, s _ _ h1, h2.mono fun b xs e => s _ _ e⟩, h.chip.ofSame s, h.hS⟩
  q := rfl
  p := rfl
  sub := fun b hb => .inl hb
  fr := .of_same s
  csub := fun b hb => .inl hb
  pp := rfl
theorem ChgD.trans {d d' d'' : DD} {H1 H2 : Hp} {x1 x2 : DS} (a : ChgD A H d H1 d' x1) (b : ChgD A H1 d' H2 d'' x2) : ChgD A H d H2 d'' x2 where
  at_ := b.at_
  q := b.q.trans a.q
  p := b.p.trans a.p
  sub := fun x hx => by
    rcases b.sub x hx with q | q
    · exact a.sub x q
    · exact .inr (a.fr.live x q)
  fr := a.fr.trans b.fr a.sub
  csub := fun x hx => by
    rcases b.csub x hx with q | q
    · exact a.csub x q
    · exact .inr (a.fr.live x q)
  pp := b.pp.trans a.pp
theorem ChgD.chip {d : DD} {st : DS} {c' : CD} {x' : DC} (h : DiskAt A H d st) (g : ChgC A H d.chip H' c' x') (hn : x'.bs.length = st.x.bs.length) (hm : x'.m = st.x.m) : ChgD A H d H' { d with chip := c' } { st with x := x' } where
  at_ := by
    obtain ⟨n1, n2⟩ := h.notc
    obtain ⟨kvs, h1, h2⟩ := h.pls
    refine ⟨?_, ⟨kvs, g.fr.keep _ _ h1 n2, h2.mono g.fr.tup⟩, g.at_, h.hS⟩
    show H' d.q = some (.ins A.disk d.qx (diskF c'.p st.S x'.bs.length x'.m d.P st.stamp st.head st.at_))
    rw [g.p, hn, hm]
    exact g.fr.keep _ _ h.ob n1
  q := rfl
  p := g.p
  sub := fun b hb => by
    rcases hb with z | z | z
    · exact .inl (.inl z)
    · exact .inl (.inr (.inl z))
    · rcases g.sub b z with y | y
      · exact .inl (.inr (.inr y))
      · exact .inr y
  fr := g.fr.mono fun x hx => .inl (.inr (.inr hx))
  csub := g.sub
  pp := rfl
theorem ChipD.keepQ {d : CD} {x : DC} {q : Addr} {o u : HO} (h : ChipD A H d x) (hq : H q = some u) (nq : ¬ cfp d q) (nt : ∀ xs, u ≠ .tup xs) : ChipD A (upd H q o) d x := by
  obtain ⟨rows, hc, r⟩ := h.ex
  have k : ∀ b v, H b = some v → b ≠ q → upd H q o b = some v := fun b v e ne => by rw [upd_ne ne]; exact e
  refine ⟨rows, { ob := k _ _ hc.ob (fun z => nq (.inl z.symm)), rows := k _ _ hc.rows (fun z => nq (.inr (.inl z.symm))), wears := k _ _ hc.wears (fun z => nq (.inr (.inr (.inl z.symm)))), len := hc.len, row := fun i a e => ?_, wlen := hc.wlen, pgs := hc.pgs, nd := hc.nd, lo := hc.lo, hi := hc.hi, mlo := hc.mlo, mhi := hc.mhi }, r.mono fun b xs e => k _ _ e fun z => by rw [z, hq] at e; exact nt xs (Option.some.inj e)⟩
  obtain ⟨xs, h1, h2⟩ := hc.row i a e
  exact ⟨xs, h1, k _ _ h2 fun z => nq (.inr (.inr (.inr (by rw [← z]; exact List.mem_of_getElem? e))))⟩
theorem ChgD.setQ {d : DD} {st : DS} (h : DiskAt A H d st) (stamp : Int) (hd at_ : Nat) :
    ChgD A H d (upd H d.q (.ins A.disk d.qx (diskF d.chip.p st.S st.x.bs.length st.x.m d.P stamp hd at_))) d { st with stamp := stamp, head := hd, at_ := at_ } where
  at_ := by
    obtain ⟨n1, n2⟩ := h.notc
    obtain ⟨kvs, h1, h2⟩ := h.pls
    exact ⟨upd_same, ⟨kvs, by rw [upd_ne h.qP.symm]; exact h1, h2.mono fun b xs e => by rw [upd_ne (fun z => by rw [z, h.ob] at e; cases e)]; exact e⟩, h.chip.keepQ h.ob n1 (by intro xs z; cases z), h.hS⟩
  q := rfl
  p := rfl
  sub := fun b hb => .inl hb
  fr := Fr.put h.ob (.inl rfl) (by intro xs z; cases z)
  csub := fun b hb => .inl hb
  pp := rfl
theorem Nodup.bound {n : Nat} : ∀ {l : List Int}, l.Nodup → (∀ i ∈ l, 0 ≤ i ∧ i < n) → l.length ≤ n := fun {l} h hb => by
  have h2 : (l.map Int.toNat).Nodup := by
    refine List.pairwise_map.mpr (h.imp_of_mem fun {i j} hi hj ne e => ?_)
    have := hb i hi
    have := hb j hj
    exact ne (by omega)
  have h3 : l.map Int.toNat ⊆ List.range n := fun x hx => by
    obtain ⟨i, hi, e⟩ := List.mem_map.mp hx
    have := hb i hi
    rw [List.mem_range]; omega
  have := List.Nodup.length_le_of_subset h2 h3
  rw [List.length_map, List.length_range] at this
  exact this
end

section
variable {A : Ad} {H H' : Hp}
abbrev csOf (rows : List (List V)) (x : DC) : CS := ⟨rows, x.wears, x.many, x.left, x.cut, x.m⟩
theorem gw_cs (rows : List (List V)) (x : DC) : (csOf rows x).gw = (csOf rows x.gw.1, x.gw.2) := by
  obtain ⟨bs, m, wears, many, left, cut⟩ := x
  cases left <;> rfl
theorem gwx_bs (x : DC) : x.gw.1.bs = x.bs := by unfold DC.gw; split <;> rfl
theorem gwx_m (x : DC) : x.gw.1.m = x.m := by unfold DC.gw; split <;> rfl
theorem gwx_wears (x : DC) : x.gw.1.wears = x.wears := by unfold DC.gw; split <;> rfl
theorem gwx_many (x : DC) : x.gw.1.many = x.many := by unfold DC.gw; split <;> rfl
theorem put_len (x : DC) (b : Nat) (r : Rec) : (x.put b r).1.bs.length = x.bs.length := by unfold DC.put; split <;> simp
theorem put_m (x : DC) (b : Nat) (r : Rec) : (x.put b r).1.m = x.m := by
  unfold DC.put
  split
  · rfl
  · exact gwx_m x
theorem erase_len (x : DC) (b : Nat) : (x.erase b).1.bs.length = x.bs.length := by unfold DC.erase; split <;> simp
theorem erase_m (x : DC) (b : Nat) : (x.erase b).1.m = x.m := by
  unfold DC.erase
  split
  · rfl
  · exact gwx_m x
theorem row_of {rows : List (List V)} {x : DC} {b : Nat} {xs : List V} (h : rows[b]? = some xs) : (csOf rows x).row (b : Int) = xs := by
  unfold CS.row
  rw [List.getD_eq_getElem?_getD, Int.toNat_natCast, h]; rfl
theorem RowsR.set {m : Nat} {bs : List Blk} {rows : List (List V)} {b : Nat} {k : Blk} {xs : List V} (h : RowsR H m bs rows) (hk : RowR H m k xs) : RowsR H m (bs.set b k) (rows.set b xs) where
  len := by rw [List.length_set, List.length_set]; exact h.len
  row := fun i k' e => by
    by_cases q : i = b
    · subst q
      have hi : i < bs.length := by
        have := (List.getElem?_eq_some_iff.mp e).1
        rw [List.length_set] at this; exact this
      rw [List.getElem?_set_self hi] at e
      have ek : k = k' := Option.some.inj e
      subst ek
      exact ⟨xs, List.getElem?_set_self (by rw [← h.len]; exact hi), hk⟩
    · rw [List.getElem?_set_ne (fun z => q z.symm)] at e
      obtain ⟨ys, h1, h2⟩ := h.row i k' e
      exact ⟨ys, by rw [List.getElem?_set_ne (fun z => q z.symm)]; exact h1, h2⟩
theorem RowR.put {m : Nat} {k : Blk} {xs : List V} {pg : Option Rec} {v : V} (h : RowR H m k xs) (hl : k.length < m) (hv : PgR H pg v) : RowR H m (k ++ [pg]) (xs.set k.length v) where
  len := by rw [List.length_set]; exact h.len
  le := by rw [List.length_append]; exact hl
  at_ := fun i p e => by
    by_cases q : i < k.length
    · rw [List.getElem?_append_left q] at e
      obtain ⟨w, h1, h2⟩ := h.at_ i p e
      exact ⟨w, by rw [List.getElem?_set_ne (by omega)]; exact h1, h2⟩
    · rw [List.getElem?_append_right (by omega)] at e
      cases z : i - k.length with
      | zero =>
        rw [z] at e
        have ep : pg = p := Option.some.inj e
        subst ep
        have ei : i = k.length := by omega
        subst ei
        exact ⟨v, List.getElem?_set_self (by rw [h.len]; exact hl), hv⟩
      | succ j => rw [z] at e; simp at e
  er := fun i h1 h2 => by
    rw [List.length_append] at h1
    have h1 : k.length + 1 ≤ i := h1
    rw [List.getElem?_set_ne (by omega)]
    exact h.er i (by omega) h2
theorem RowR.free {m : Nat} {k : Blk} {xs : List V} (h : RowR H m k xs) : (xs.drop k.length).all (fun v => decide (v = V.non)) = true := by
  rw [List.all_eq_true]
  intro v hv
  obtain ⟨j, hj⟩ := List.getElem?_of_mem hv
  rw [List.getElem?_drop] at hj
  have hl := (List.getElem?_eq_some_iff.mp hj).1
  rw [h.len] at hl
  have := h.er (k.length + j) (by omega) hl
  rw [hj] at this
  exact decide_eq_true (Option.some.inj this)
theorem write_put {d : CD} {x : DC} {rows : List (List V)} {b : Nat} {r : Rec} {v : V} (h : ChipAt A H d (csOf rows x)) (R : RowsR H x.m x.bs rows) (hb : b < x.n) (hl : (x.blk b).length < x.m) (hv : PgR H (some r) v) :
    ∃ rows', ((csOf rows x).write b (x.blk b).length v).1 = csOf rows' (x.put b r).1 ∧ RowsR H x.m (x.put b r).1.bs rows' ∧ ((csOf rows x).write b (x.blk b).length v).2 = (if (x.put b r).2 = true then .ok else .cut) := by
  obtain ⟨xs, hx, hr⟩ := R.row b _ (blk_of hb)
  have er : (csOf rows x).row (b : Int) = xs := row_of hx
  have hp : inP (csOf rows x) b (x.blk b).length := by
    refine ⟨⟨by omega, ?_⟩, by omega, ?_⟩
    · show (b : Int) < rows.length
      rw [← R.len]; have : b < x.bs.length := hb; omega
    · show ((x.blk b).length : Int) < x.m
      omega
  have hf : (csOf rows x).isFree b (x.blk b).length = true := by
    unfold CS.isFree
    rw [er, Int.toNat_natCast]; exact hr.free
  unfold CS.write DC.put
  rw [if_neg (fun z => z hp), if_neg (by rw [hf]; exact Bool.noConfusion)]
  by_cases hc : x.cut = true
  · rw [if_pos (show (csOf rows x).cut = true from hc), if_pos hc]
    exact ⟨rows, rfl, R, rfl⟩
  · rw [if_neg (show ¬ (csOf rows x).cut = true from hc), if_neg hc, gw_cs, er]
    refine ⟨rows.set b (xs.set (x.blk b).length (if x.gw.2 = true then v else .str "torn")), rfl, ?_, rfl⟩
    refine R.set (hr.put hl ?_)
    cases hg : x.gw.2 with
    | true => rw [if_pos rfl, if_pos rfl]; exact hv
    | false => rw [if_neg Bool.false_ne_true, if_neg Bool.false_ne_true]; rfl
theorem erase_cs {d : CD} {x : DC} {rows : List (List V)} {b : Nat} (h : ChipAt A H d (csOf rows x)) (R : RowsR H x.m x.bs rows) (hb : b < x.n) :
    ∃ rows', ((csOf rows x).erase b).1 = csOf rows' (x.erase b).1 ∧ RowsR H x.m (x.erase b).1.bs rows' ∧ ((csOf rows x).erase b).2 = (if (x.erase b).2 = true then .ok else .cut) := by
  have hp : inB (csOf rows x) b := by
    refine ⟨by omega, ?_⟩
    show (b : Int) < rows.length
    rw [← R.len]; have : b < x.bs.length := hb; omega
  unfold CS.erase DC.erase
  rw [if_neg (fun z => z hp)]
  by_cases hc : x.cut = true
  · rw [if_pos (show (csOf rows x).cut = true from hc), if_pos hc]
    exact ⟨rows, rfl, R, rfl⟩
  · rw [if_neg (show ¬ (csOf rows x).cut = true from hc), if_neg hc, gw_cs]
    refine ⟨rows.set b (List.replicate x.m (if x.gw.2 = true then .non else .str "torn")), rfl, ?_, rfl⟩
    refine R.set ?_
    cases hg : x.gw.2 with
    | true =>
      rw [if_pos rfl, if_pos rfl]
      exact ⟨List.length_replicate, Nat.zero_le _, fun i p e => by simp at e, fun i _ h2 => replicate_get h2⟩
    | false =>
      rw [if_neg Bool.false_ne_true, if_neg Bool.false_ne_true]
      refine ⟨List.length_replicate, by rw [List.length_replicate]; exact Nat.le_refl _, fun i p e => ?_, fun i h1 h2 => by rw [List.length_replicate] at h1; omega⟩
      have hi := (List.getElem?_eq_some_iff.mp e).1
      rw [List.length_replicate] at hi
      rw [replicate_get hi] at e
      have ep : none = p := Option.some.inj e
      subst ep
      exact ⟨_, replicate_get hi, rfl⟩
theorem use_write {K : PySem.W.Frag} {d : CD} {x : DC} {b : Nat} {r : Rec} {v : V} {Q : VK} {E : XK} (h : ChipD A H d x) (hb : b < x.n) (hl : (x.blk b).length < x.m) (hv : PgR H (some r) v)
    (k : ∀ d' H', ChgC A H d H' d' (x.put b r).1 → if (x.put b r).2 = true then Q .non H' else E (.ref A.cut) none H') : sp_Chip_write K A [.ref d.p, .int b, .int (x.blk b).length, v] H Q E := by
  obtain ⟨rows, hc, R⟩ := h.ex
  obtain ⟨rows', e1, R', e2⟩ := write_put hc R hb hl hv
  refine ⟨d, csOf rows x, b, (x.blk b).length, v, rfl, hc, fun d' H' g => ?_⟩
  rw [e1] at g
  rw [e2]
  have k := k d' H' ⟨⟨rows', g.at_, by rw [put_m]; exact R'.mono g.fr.tup⟩, g.p, g.sub, g.fr⟩
  cases q : (x.put b r).2 with
  | true => rw [q, if_pos rfl] at k; rw [if_pos rfl]; exact k
  | false => rw [q, if_neg Bool.false_ne_true] at k; rw [if_neg Bool.false_ne_true]; exact k
theorem use_erase {K : PySem.W.Frag} {d : CD} {x : DC} {b : Nat} {Q : VK} {E : XK} (h : ChipD A H d x) (hb : b < x.n)
    (k : ∀ d' H', ChgC A H d H' d' (x.erase b).1 → if (x.erase b).2 = true then Q .non H' else E (.ref A.cut) none H') : sp_Chip_erase K A [.ref d.p, .int b] H Q E := by
  obtain ⟨rows, hc, R⟩ := h.ex
  obtain ⟨rows', e1, R', e2⟩ := erase_cs hc R hb
  refine ⟨d, csOf rows x, b, rfl, hc, fun d' H' g => ?_⟩
  rw [e1] at g
  rw [e2]
  have k := k d' H' ⟨⟨rows', g.at_, by rw [erase_m]; exact R'.mono g.fr.tup⟩, g.p, g.sub, g.fr⟩
  cases q : (x.erase b).2 with
  | true => rw [q, if_pos rfl] at k; rw [if_pos rfl]; exact k
  | false => rw [q, if_neg Bool.false_ne_true] at k; rw [if_neg Bool.false_ne_true]; exact k
def PgE (H : Hp) : Option (Option Rec) → V → Prop
  | none, v => v = .non
  | some pg, v => PgR H pg v
theorem RowR.get {m : Nat} {k : Blk} {xs : List V} (h : RowR H m k xs) {i : Nat} (hi : i < m) : ∃ v, xs[i]? = some v ∧ PgE H k[i]? v := by
  by_cases q : i < k.length
  · obtain ⟨v, h1, h2⟩ := h.at_ i _ (List.getElem?_eq_getElem q)
    exact ⟨v, h1, by rw [List.getElem?_eq_getElem q]; exact h2⟩
  · exact ⟨.non, h.er i (by omega) hi, by rw [List.getElem?_eq_none (by omega)]; rfl⟩
end

def whole? : Option (Option Rec) → Bool
  | some (some _) => true
  | _ => false
def natV : Option Nat → V
  | none => .non
  | some b => .int b
def okE (A : Ad) (b : Bool) (v : V) (Q : VK) (E : XK) (H : Hp) : Prop := if b = true then Q v H else E (.ref A.cut) none H
def secOk (st : DS) (s : Int) : Prop := 0 ≤ s ∧ s < st.S
instance {st : DS} {s : Int} : Decidable (secOk st s) := inferInstanceAs (Decidable (_ ∧ _))
def conOk (c : Int) : Prop := 0 ≤ c ∧ c ≤ 999999999999
instance {c : Int} : Decidable (conOk c) := inferInstanceAs (Decidable (_ ∧ _))
def manyOk (x : DC) (S : Int) : Prop := 1 ≤ S ∧ S ≤ ((x.bs.length : Int) - 2) * x.m
instance {x : DC} {S : Int} : Decidable (manyOk x S) := inferInstanceAs (Decidable (_ ∧ _))
def sp_is_whole (K : PySem.W.Frag) (A : Ad) : Sp := fun vs H Q E => ∃ o v, vs = [v] ∧ PgE H o v ∧ Q (.bl (whole? o)) H
def sp_Disk_init (K : PySem.W.Frag) (A : Ad) : Sp := fun vs H Q E => ∃ (q dx : Addr) (c : CD) (x : DC) (S : Int), vs = [.ref q, .ref c.p, .int S] ∧ H q = some (.ins A.disk dx []) ∧ ChipD A H c x ∧
  (¬ manyOk x S → ∀ H', Same H H' → E (.ref A.badsize) none H') ∧
  (manyOk x S → ∀ d H', DiskAt A H' d (DS.init x S) → d.q = q → d.chip = c → H d.P = none → Fr (fun y => y = q) H H' → Q .non H')
def sp_Disk_sectors (K : PySem.W.Frag) (A : Ad) : Sp := fun vs H Q E => ∃ d st, vs = [.ref d.q] ∧ DiskAt A H d st ∧ Q (.int st.S) H
def sp_Disk_row (K : PySem.W.Frag) (A : Ad) : Sp := fun vs H Q E => ∃ d st b, vs = [.ref d.q, .int (b : Nat)] ∧ DiskAt A H d st ∧ b < st.x.n ∧ ∀ H' l xs, Same H H' → H l = none → H' l = some (.lst xs) → RowR H' st.x.m (st.x.blk b) xs → Q (.ref l) H'
def sp_Disk_is_empty (K : PySem.W.Frag) (A : Ad) : Sp := fun vs H Q E => ∃ d st b, vs = [.ref d.q, .int (b : Nat)] ∧ DiskAt A H d st ∧ b < st.x.n ∧ ∀ H', Same H H' → Q (.bl (isEmpty (st.x.blk b))) H'
def sp_Disk_greatest (K : PySem.W.Frag) (A : Ad) : Sp := fun vs H Q E => ∃ d st, vs = [.ref d.q] ∧ DiskAt A H d st ∧ ∀ H', Same H H' → Q (natV (greatest st.x.bs)) H'
def sp_Disk_tidy (K : PySem.W.Frag) (A : Ad) : Sp := fun vs H Q E => ∃ d st, vs = [.ref d.q] ∧ DiskAt A H d st ∧ TidyOk st.x ∧ ∀ d' H', ChgD A H d H' d' { st with x := (tidy st.x).1 } → okE A (tidy st.x).2 .non Q E H'
def sp_Disk_load (K : PySem.W.Frag) (A : Ad) : Sp := fun vs H Q E => ∃ d x S, vs = [.ref d.q] ∧ DiskAt A H d (DS.init x S) ∧ TidyOk x ∧ ((tidy x).2 = true → Fit S (tidy x).1.bs ∧ ∀ b, greatest (tidy x).1.bs = some b → b < x.n) ∧ ∀ d' H', ChgD A H d H' d' (mount x S).1 → okE A (mount x S).2 .non Q E H'
def sp_Disk_need_sector (K : PySem.W.Frag) (A : Ad) : Sp := fun vs H Q E => ∃ d st s, vs = [.ref d.q, .int s] ∧ DiskAt A H d st ∧ (secOk st s → Q .non H) ∧ (¬ secOk st s → E (.ref A.nosector) none H)
def sp_Disk_read (K : PySem.W.Frag) (A : Ad) : Sp := fun vs H Q E => ∃ d st s, vs = [.ref d.q, .int s] ∧ DiskAt A H d st ∧ (secOk st s → Q (.int (st.val s)) H) ∧ (¬ secOk st s → E (.ref A.nosector) none H)
def sp_Disk_put (K : PySem.W.Frag) (A : Ad) : Sp := fun vs H Q E => ∃ d st s c, vs = [.ref d.q, .int s, .int c] ∧ DiskAt A H d st ∧ PutOk st s ∧ ∀ d' H', ChgD A H d H' d' (st.put s c).1 → okE A (st.put s c).2 .non Q E H'
def sp_Disk_clean (K : PySem.W.Frag) (A : Ad) : Sp := fun vs H Q E => ∃ d st b, vs = [.ref d.q, .int (b : Nat)] ∧ DiskAt A H d st ∧ CleanOk st b ∧ ∀ d' H', ChgD A H d H' d' (st.clean b).1 → okE A (st.clean b).2 .non Q E H'
def sp_Disk_advance (K : PySem.W.Frag) (A : Ad) : Sp := fun vs H Q E => ∃ d st, vs = [.ref d.q] ∧ DiskAt A H d st ∧ AdvOk st ∧ ∀ d' H', ChgD A H d H' d' st.advance.1 → okE A st.advance.2 .non Q E H'
def sp_Disk_write (K : PySem.W.Frag) (A : Ad) : Sp := fun vs H Q E => ∃ d st s c, vs = [.ref d.q, .int s, .int c] ∧ DiskAt A H d st ∧ (¬ secOk st s → E (.ref A.nosector) none H) ∧ (secOk st s → ¬ conOk c → E (.ref A.badcontent) none H) ∧
  (secOk st s → conOk c → WriteOk st s ∧ ∀ d' H', ChgD A H d H' d' (st.write s c).1 → okE A (st.write s c).2 .non Q E H')
structure Mounted (A : Ad) (H : Hp) (c : CD) (H' : Hp) (d : DD) (st : DS) : Prop where
  at_ : DiskAt A H' d st
  p : d.chip.p = c.p
  csub : ∀ b, cfp d.chip b → cfp c b ∨ H b = none
  new : H d.q = none ∧ H d.P = none
  fr : Fr (cfp c) H H'
def sp_mounted (K : PySem.W.Frag) (A : Ad) : Sp := fun vs H Q E => ∃ c x S, vs = [.ref c.p, .int S] ∧ ChipD A H c x ∧ (¬ manyOk x S → ∀ H', Same H H' → E (.ref A.badsize) none H') ∧
  (manyOk x S → TidyOk x ∧ ((tidy x).2 = true → Fit S (tidy x).1.bs ∧ ∀ b, greatest (tidy x).1.bs = some b → b < x.n) ∧ ∀ d H', Mounted A H c H' d (mount x S).1 → okE A (mount x S).2 (.ref d.q) Q E H')
def N_is_whole : List Str := ["thing"]
def t_is_whole (K : PySem.W.Frag) (A : Ad) (E : XK) : TS :=
  (tRet (tAndV (tOp zNotN (tVar 0) (tC .non)) (tOp (rNeD K) (tVar 0) (tC (.str "torn")))))

def N_Disk_init : List Str := ["self", "chip", "sectors", "blocks", "pages"]
def t_Disk_init (K : PySem.W.Frag) (A : Ad) (E : XK) : TS :=
  (tSeq (tAsg (tMeth A.chip "size" (sp_Chip_size K A) [] E0 (tVar 1) tNil) (gTup K 2 (gCons (gName 3) (gCons (gName 4) gNil))))
  (tSeq (tIfS (tNot (tTest (tChain zLe zLe (tC (.int 1)) (tVar 2) (tOp zMul (tOp zSub (tVar 3) (tC (.int 2))) (tVar 4)))))
  (tRaise A.badsize E)
  tNext)
  (tSeq (sFld K (tVar 0) (tVar 1) "chip")
  (tSeq (sFld K (tVar 0) (tVar 2) "many")
  (tSeq (sFld K (tVar 0) (tVar 3) "blocks")
  (tSeq (sFld K (tVar 0) (tVar 4) "pages")
  (tSeq (sFld K (tVar 0) tDNewK "places")
  (tSeq (sFld K (tVar 0) (tC (.int 0)) "stamp")
  (tSeq (sFld K (tVar 0) (tC (.int 0)) "head")
  (sFld K (tVar 0) (tC (.int 0)) "at"))))))))))

def N_Disk_sectors : List Str := ["self"]
def t_Disk_sectors (K : PySem.W.Frag) (A : Ad) (E : XK) : TS :=
  (tRet (tFld K (tVar 0) "many"))

def N_Disk_row : List Str := ["self", "block", "page"]
def t_Disk_row (K : PySem.W.Frag) (A : Ad) (E : XK) : TS :=
  (tRet (tLc (iRng1 (tCons (tFld K (tVar 0) "pages") tNil)) (gName 2) tYes (tMeth A.chip "page" (sp_Chip_page K A) [] E0 (tFld K (tVar 0) "chip") (tCons (tVar 1) (tCons (tVar 2) tNil))) [2]))

def N_Disk_is_empty : List Str := ["self", "block", "thing"]
def t_Disk_is_empty (K : PySem.W.Frag) (A : Ad) (E : XK) : TS :=
  (tRet (tNotV (tCB (rAny K) (tCons (tLc (iList K (tMeth A.disk "row" (sp_Disk_row K A) [] E0 (tVar 0) (tCons (tVar 1) tNil))) (gName 2) tYes (tCall (sp_is_whole K A) [] E0 (tCons (tVar 2) tNil)) [2]) tNil))))

def N_Disk_greatest : List Str := ["self", "found", "best", "block", "thing"]
def t_Disk_greatest (K : PySem.W.Frag) (A : Ad) (E : XK) : TS :=
  (tSeq (tAsg (tC .non) (gName 1))
  (tSeq (tAsg (tUn (rU fun i => .int (-i)) (tC (.int 1))) (gName 2))
  (tSeq (tFor (iRng1 (tCons (tFld K (tVar 0) "blocks") tNil)) (gName 3)
  (tFor (iList K (tMeth A.disk "row" (sp_Disk_row K A) [] E0 (tVar 0) (tCons (tVar 3) tNil))) (gName 4)
  (tIfS (tAnd (tB (tCall (sp_is_whole K A) [] E0 (tCons (tVar 4) tNil))) (tTest (tOp zGt (tOp (rIxT K) (tVar 4) (tC (.int 1))) (tVar 2))))
  (tSeq (tAsg (tVar 3) (gName 1))
  (tAsg (tOp (rIxT K) (tVar 4) (tC (.int 1))) (gName 2)))
  tNext)))
  (tRet (tVar 1)))))

def N_Disk_tidy : List Str := ["self", "empty", "block"]
def t_Disk_tidy (K : PySem.W.Frag) (A : Ad) (E : XK) : TS :=
  (tSeq (tAsg (tLc (iRng1 (tCons (tFld K (tVar 0) "blocks") tNil)) (gName 2) (tB (tMeth A.disk "is_empty" (sp_Disk_is_empty K A) [] E0 (tVar 0) (tCons (tVar 2) tNil))) (tVar 2) [2]) (gName 1))
  (tSeq (tIfS (tTest (tOp (rEqD K) (tVar 1) (tLst tNil)))
  (tDrop (tMeth A.chip "erase" (sp_Chip_erase K A) [] E (tFld K (tVar 0) "chip") (tCons (tMeth A.disk "greatest" (sp_Disk_greatest K A) [] E0 (tVar 0) tNil) tNil)))
  tNext)
  (tFor (iList K (tVar 1)) (gName 2)
  (tIfS (tTest (tOp (rInD K) (tC (.str "torn")) (tMeth A.disk "row" (sp_Disk_row K A) [] E0 (tVar 0) (tCons (tVar 2) tNil))))
  (tDrop (tMeth A.chip "erase" (sp_Chip_erase K A) [] E (tFld K (tVar 0) "chip") (tCons (tVar 2) tNil)))
  tNext))))

def N_Disk_load : List Str := ["self", "block", "page", "thing", "sector", "stamp", "content", "head"]
def t_Disk_load (K : PySem.W.Frag) (A : Ad) (E : XK) : TS :=
  (tSeq (tDrop (tMeth A.disk "tidy" (sp_Disk_tidy K A) [] E (tVar 0) tNil))
  (tSeq (tFor (iRng1 (tCons (tFld K (tVar 0) "blocks") tNil)) (gName 1)
  (tFor (iEnum K (tCons (tMeth A.disk "row" (sp_Disk_row K A) [] E0 (tVar 0) (tCons (tVar 1) tNil)) tNil)) (gTup K 2 (gCons (gName 2) (gCons (gName 3) gNil)))
  (tIfS (tB (tCall (sp_is_whole K A) [] E0 (tCons (tVar 3) tNil)))
  (tSeq (tAsg (tVar 3) (gTup K 3 (gCons (gName 4) (gCons (gName 5) (gCons (gName 6) gNil)))))
  (tSeq (sFld K (tVar 0) (tCB zMax2 (tCons (tFld K (tVar 0) "stamp") (tCons (tOp zAdd (tVar 5) (tC (.int 1))) tNil))) "stamp")
  (tIfS (tOr (tB (tDNotIn (tVar 4) (tFld K (tVar 0) "places"))) (tTest (tOp zLt (tOp (rIxT K) (tDGet (tFld K (tVar 0) "places") (tVar 4)) (tC (.int 2))) (tVar 5))))
  (sDPut (tFld K (tVar 0) "places") (tVar 4) (tTup (tCons (tVar 1) (tCons (tVar 2) (tCons (tVar 5) (tCons (tVar 6) tNil))))))
  tNext)))
  tNext)))
  (tSeq (tAsg (tMeth A.disk "greatest" (sp_Disk_greatest K A) [] E0 (tVar 0) tNil) (gName 7))
  (tIfS (tTest (tOp zNotN (tVar 7) (tC .non)))
  (tSeq (sFld K (tVar 0) (tVar 7) "head")
  (sFld K (tVar 0) (tCB (zLen K) (tCons (tLc (iList K (tMeth A.disk "row" (sp_Disk_row K A) [] E0 (tVar 0) (tCons (tVar 7) tNil))) (gName 3) (tTest (tOp zNotN (tVar 3) (tC .non))) (tC (.int 1)) [3]) tNil)) "at"))
  tNext))))

def N_Disk_read : List Str := ["self", "sector"]
def t_Disk_read (K : PySem.W.Frag) (A : Ad) (E : XK) : TS :=
  (tSeq (tDrop (tMeth A.disk "need_sector" (sp_Disk_need_sector K A) [] E (tVar 0) (tCons (tVar 1) tNil)))
  (tSeq (tIfS (tB (tDNotIn (tVar 1) (tFld K (tVar 0) "places")))
  (tRet (tC (.int 0)))
  tNext)
  (tRet (tOp (rIxT K) (tDGet (tFld K (tVar 0) "places") (tVar 1)) (tC (.int 3))))))

def N_Disk_need_sector : List Str := ["self", "sector"]
def t_Disk_need_sector (K : PySem.W.Frag) (A : Ad) (E : XK) : TS :=
  (tIfS (tNot (tTest (tChain zLe zLt (tC (.int 0)) (tVar 1) (tFld K (tVar 0) "many"))))
  (tRaise A.nosector E)
  tNext)

def N_Disk_write : List Str := ["self", "sector", "content"]
def t_Disk_write (K : PySem.W.Frag) (A : Ad) (E : XK) : TS :=
  (tSeq (tDrop (tMeth A.disk "need_sector" (sp_Disk_need_sector K A) [] E (tVar 0) (tCons (tVar 1) tNil)))
  (tSeq (tIfS (tNot (tTest (tChain zLe zLe (tC (.int 0)) (tVar 2) (tC (.int 999999999999)))))
  (tRaise A.badcontent E)
  tNext)
  (tSeq (tWhile (tTest (tOp rEq (tFld K (tVar 0) "at") (tFld K (tVar 0) "pages")))
  (tDrop (tMeth A.disk "advance" (sp_Disk_advance K A) [] E (tVar 0) tNil)))
  (tDrop (tMeth A.disk "put" (sp_Disk_put K A) [] E (tVar 0) (tCons (tVar 1) (tCons (tVar 2) tNil)))))))

def N_Disk_put : List Str := ["self", "sector", "content"]
def t_Disk_put (K : PySem.W.Frag) (A : Ad) (E : XK) : TS :=
  (tSeq (tDrop (tMeth A.chip "write" (sp_Chip_write K A) [] E (tFld K (tVar 0) "chip") (tCons (tFld K (tVar 0) "head") (tCons (tFld K (tVar 0) "at") (tCons (tTup (tCons (tVar 1) (tCons (tFld K (tVar 0) "stamp") (tCons (tVar 2) tNil)))) tNil)))))
  (tSeq (sDPut (tFld K (tVar 0) "places") (tVar 1) (tTup (tCons (tFld K (tVar 0) "head") (tCons (tFld K (tVar 0) "at") (tCons (tFld K (tVar 0) "stamp") (tCons (tVar 2) tNil))))))
  (tSeq (sFld K (tVar 0) (tOp zAdd (tFld K (tVar 0) "stamp") (tC (.int 1))) "stamp")
  (sFld K (tVar 0) (tOp zAdd (tFld K (tVar 0) "at") (tC (.int 1))) "at"))))

def N_Disk_advance : List Str := ["self", "behind"]
def t_Disk_advance (K : PySem.W.Frag) (A : Ad) (E : XK) : TS :=
  (tSeq (sFld K (tVar 0) (tOp zMod (tOp zAdd (tFld K (tVar 0) "head") (tC (.int 1))) (tFld K (tVar 0) "blocks")) "head")
  (tSeq (sFld K (tVar 0) (tC (.int 0)) "at")
  (tSeq (tAsg (tOp zMod (tOp zAdd (tFld K (tVar 0) "head") (tC (.int 1))) (tFld K (tVar 0) "blocks")) (gName 1))
  (tIfS (tNot (tB (tMeth A.disk "is_empty" (sp_Disk_is_empty K A) [] E0 (tVar 0) (tCons (tVar 1) tNil))))
  (tDrop (tMeth A.disk "clean" (sp_Disk_clean K A) [] E (tVar 0) (tCons (tVar 1) tNil)))
  tNext))))

def N_Disk_clean : List Str := ["self", "block", "page", "thing"]
def t_Disk_clean (K : PySem.W.Frag) (A : Ad) (E : XK) : TS :=
  (tSeq (tFor (iEnum K (tCons (tMeth A.disk "row" (sp_Disk_row K A) [] E0 (tVar 0) (tCons (tVar 1) tNil)) tNil)) (gTup K 2 (gCons (gName 2) (gCons (gName 3) gNil)))
  (tIfS (tAnd (tB (tCall (sp_is_whole K A) [] E0 (tCons (tVar 3) tNil))) (tTest (tOp (rEqD K) (tSl (rSlT K) (tDGet (tFld K (tVar 0) "places") (tOp (rIxT K) (tVar 3) (tC (.int 0)))) tNoPart (tPart (tC (.int 2)))) (tTup (tCons (tVar 1) (tCons (tVar 2) tNil))))))
  (tDrop (tMeth A.disk "put" (sp_Disk_put K A) [] E (tVar 0) (tCons (tOp (rIxT K) (tVar 3) (tC (.int 0))) (tCons (tOp (rIxT K) (tVar 3) (tC (.int 2))) tNil))))
  tNext))
  (tDrop (tMeth A.chip "erase" (sp_Chip_erase K A) [] E (tFld K (tVar 0) "chip") (tCons (tVar 1) tNil))))

def N_mounted : List Str := ["chip", "sectors", "disk"]
def t_mounted (K : PySem.W.Frag) (A : Ad) (E : XK) : TS :=
  (tSeq (tAsg (tMake A.disk (sp_Disk_init K A) [] E (tCons (tVar 0) (tCons (tVar 1) tNil))) (gName 2))
  (tSeq (tDrop (tMeth A.disk "load" (sp_Disk_load K A) [] E (tVar 2) tNil))
  (tRet (tVar 2))))

section
variable {K : PySem.W.Frag} {A : Ad} {vs : List V} {H : Hp} {Q : VK} {E : XK}
theorem len_is_whole (h : sp_is_whole K A vs H Q E) : vs.length = 1 := by obtain ⟨o, v, rfl, _⟩ := h; rfl
theorem len_Disk_init (h : sp_Disk_init K A vs H Q E) : vs.length = 3 := by obtain ⟨q, dx, c, x, S, rfl, _⟩ := h; rfl
theorem len_Disk_sectors (h : sp_Disk_sectors K A vs H Q E) : vs.length = 1 := by obtain ⟨d, st, rfl, _⟩ := h; rfl
theorem len_Disk_row (h : sp_Disk_row K A vs H Q E) : vs.length = 2 := by obtain ⟨d, st, b, rfl, _⟩ := h; rfl
theorem len_Disk_is_empty (h : sp_Disk_is_empty K A vs H Q E) : vs.length = 2 := by obtain ⟨d, st, b, rfl, _⟩ := h; rfl
theorem len_Disk_greatest (h : sp_Disk_greatest K A vs H Q E) : vs.length = 1 := by obtain ⟨d, st, rfl, _⟩ := h; rfl
theorem len_Disk_tidy (h : sp_Disk_tidy K A vs H Q E) : vs.length = 1 := by obtain ⟨d, st, rfl, _⟩ := h; rfl
theorem len_Disk_load (h : sp_Disk_load K A vs H Q E) : vs.length = 1 := by obtain ⟨d, x, S, rfl, _⟩ := h; rfl
theorem len_Disk_need_sector (h : sp_Disk_need_sector K A vs H Q E) : vs.length = 2 := by obtain ⟨d, st, s, rfl, _⟩ := h; rfl
theorem len_Disk_read (h : sp_Disk_read K A vs H Q E) : vs.length = 2 := by obtain ⟨d, st, s, rfl, _⟩ := h; rfl
theorem len_Disk_put (h : sp_Disk_put K A vs H Q E) : vs.length = 3 := by obtain ⟨d, st, s, c, rfl, _⟩ := h; rfl
theorem len_Disk_clean (h : sp_Disk_clean K A vs H Q E) : vs.length = 2 := by obtain ⟨d, st, b, rfl, _⟩ := h; rfl
theorem len_Disk_advance (h : sp_Disk_advance K A vs H Q E) : vs.length = 1 := by obtain ⟨d, st, rfl, _⟩ := h; rfl
theorem len_Disk_write (h : sp_Disk_write K A vs H Q E) : vs.length = 3 := by obtain ⟨d, st, s, c, rfl, _⟩ := h; rfl
theorem len_mounted (h : sp_mounted K A vs H Q E) : vs.length = 2 := by obtain ⟨c, x, S, rfl, _⟩ := h; rfl
theorem pure_is_whole (F : FacD K A) (h : sp_is_whole K A vs H Q E) : t_is_whole K A E { nx := fun _ H' => Q .non H', rt := Q } (start N_is_whole vs) H := by
  obtain ⟨o, v, rfl, h, k⟩ := h
  match o, h with
  | none, h =>
    have h : v = .non := h
    subst h
    exact ⟨_, rfl, rfl, _, rfl, iteF k⟩
  | some none, h =>
    have h : v = .str "torn" := h
    subst h
    refine ⟨_, rfl, rfl, _, rfl, iteT ⟨_, rfl, .str "torn", .str "torn", .str _, .str _, (OkD.str strOk_torn).sh, (OkD.str strOk_torn).sh, ?_⟩⟩
    have e : PyData.eqv (.str "torn") (.str "torn") = true := by decide +kernel
    show Q (.bl (!PyData.eqv (.str "torn") (.str "torn"))) H
    rw [e]; exact k
  | some (some r), h =>
    obtain ⟨t, e, ht⟩ := h
    subst e
    refine ⟨_, rfl, rfl, _, rfl, iteT ⟨_, rfl, .tuple [.int r.s, .int r.t, .int r.c], .str "torn", .tup (SqT.of ht) (.cons (.int _) (.cons (.int _) (.cons (.int _) .nil))), .str _, (OkD.tupI (ns := [r.s, r.t, r.c])).sh, (OkD.str strOk_torn).sh, k⟩⟩
theorem pure_Disk_sectors (F : FacD K A) (h : sp_Disk_sectors K A vs H Q E) : t_Disk_sectors K A E { nx := fun _ H' => Q .non H', rt := Q } (start N_Disk_sectors vs) H := by
  obtain ⟨d, st, rfl, h, k⟩ := h
  exact ⟨_, rfl, d.q, _, d.qx, _, _, rfl, h.ob, F.cl_Disk, F.n_dmany, diskF_many, k⟩
theorem pure_Disk_need_sector (F : FacD K A) (h : sp_Disk_need_sector K A vs H Q E) : t_Disk_need_sector K A E { nx := fun _ H' => Q .non H', rt := Q } (start N_Disk_need_sector vs) H := by
  obtain ⟨d, st, s, rfl, h, k1, k2⟩ := h
  refine ⟨_, rfl, _, _, rfl, rfl, _, rfl, ?_⟩
  by_cases h0 : 0 ≤ s
  · rw [if_pos (decide_eq_true h0)]
    refine ⟨_, rfl, d.q, _, d.qx, _, _, rfl, h.ob, F.cl_Disk, F.n_dmany, diskF_many, _, _, rfl, rfl, _, rfl, ?_⟩
    by_cases h1 : s < st.S
    · rw [decide_eq_true h1]
      exact iteF (k1 ⟨h0, h1⟩)
    · rw [decide_eq_false h1]
      exact iteT (k2 fun z => h1 z.2)
  · rw [if_neg (by rw [decide_eq_false h0]; exact Bool.false_ne_true)]
    exact ⟨_, rfl, iteT (k2 fun z => h0 z.1)⟩
theorem pure_Disk_read (F : FacD K A) (h : sp_Disk_read K A vs H Q E) : t_Disk_read K A E { nx := fun _ H' => Q .non H', rt := Q } (start N_Disk_read vs) H := by
  obtain ⟨d, st, s, rfl, h, k1, k2⟩ := h
  refine ⟨_, rfl, d.q, d.qx, _, rfl, h.ob, no8, _, rfl, d, st, s, rfl, h, fun hs => ?_, k2⟩
  obtain ⟨kvs, hP, R⟩ := h.pls
  refine ⟨_, rfl, _, rfl, d.q, _, d.qx, _, _, rfl, h.ob, F.cl_Disk, F.n_places, diskF_places, d.P, _, rfl, DGet.k (k := Sum.inl s) hP, _, rfl, ?_⟩
  have k := k1 hs
  unfold DS.val at k
  cases e : st.pl s with
  | none =>
    rw [e] at k
    rw [R.no s e]
    exact iteT k
  | some pl =>
    rw [e] at k
    obtain ⟨t, hv, ht⟩ := R.yes s pl e
    rw [hv]
    refine iteF ⟨_, rfl, d.q, _, d.qx, _, _, rfl, h.ob, F.cl_Disk, F.n_places, diskF_places, _, rfl, d.P, .ref t, rfl, by rw [← hv]; exact DGet.k (k := Sum.inl s) hP, _, _, _, _, rfl, rfl, SqT.of ht, at_of (j := 3) rfl rfl, k⟩
theorem pure_Disk_row (F : FacD K A) (h : sp_Disk_row K A vs H Q E) : t_Disk_row K A E { nx := fun _ H' => Q .non H', rt := Q } (start N_Disk_row vs) H := by
  obtain ⟨d, st, b, rfl, h, hb, k⟩ := h
  obtain ⟨rows, hc, R⟩ := h.chip.ex
  obtain ⟨xs, hx, hr⟩ := R.row b _ (blk_of hb)
  have hm := hc.mhi
  have hm : st.x.m ≤ 16 := hm
  refine ⟨_, rfl, d.q, _, d.qx, _, _, rfl, h.ob, F.cl_Disk, F.n_pages, diskF_pages, _, rfl, by omega, by omega, fun D hD => ?_⟩
  refine lc_mapR (lo := 0) (n := ((st.x.m : Nat) : Int).toNat) xs (by rw [hr.len]; omega) (sz16 (by omega)) hD (fun i y H1 hi hy s T r => ?_) (fun _ => rfl) fun H1 s hD1 => k H1 D xs s hD hD1 (hr.mono fun b ys e => s _ _ e)
  have h1 := (ChgD.same h s).at_
  have hc1 := (Chg.same hc s).at_
  refine ⟨_, rfl, d.q, _, d.qx, _, _, rfl, h1.ob, F.cl_Disk, F.n_chip, diskF_chip, d.chip.p, d.chip.dx, _, rfl, hc1.ob, no5, _, rfl, _, rfl, d.chip, _, _, _, rfl, hc1, fun hp => ?_, fun hp => ?_⟩
  · have e : (csOf rows st.x).at (b : Int) (0 + (i : Int)) = y := by
      unfold CS.at
      rw [row_of hx, Int.zero_add, Int.toNat_natCast, List.getD_eq_getElem?_getD, hy]; rfl
    show T ((csOf rows st.x).at (b : Int) (0 + (i : Int))) H1
    rw [e]
    exact r H1 (Same.refl H1)
  · refine absurd ?_ hp
    have hbn : b < st.x.bs.length := hb
    refine ⟨⟨by omega, ?_⟩, by omega, ?_⟩
    · show (b : Int) < rows.length
      rw [← R.len]; omega
    · show (0 : Int) + i < st.x.m
      omega
theorem isEmpty_any {m : Nat} {k : Blk} {xs : List V} (h : RowR H m k xs) : ∃ os : List (Option (Option Rec)), os.length = xs.length ∧ (∀ (i : Nat) v, xs[i]? = some v → ∃ o, os[i]? = some o ∧ PgE H o v) ∧ (!(os.map whole?).any id) = isEmpty k := by
  refine ⟨(List.range m).map fun i => k[i]?, by rw [List.length_map, List.length_range, h.len], fun i v e => ?_, ?_⟩
  · have hi : i < m := by rw [← h.len]; exact (List.getElem?_eq_some_iff.mp e).1
    obtain ⟨w, h1, h2⟩ := h.get hi
    rw [e] at h1
    have ew : v = w := Option.some.inj h1
    subst ew
    exact ⟨_, by rw [List.getElem?_map, List.getElem?_range hi]; rfl, h2⟩
  · unfold isEmpty
    rw [List.map_map, List.any_map, Bool.eq_iff_iff, Bool.not_eq_true', Bool.eq_false_iff, ne_eq, List.any_eq_true, List.all_eq_true]
    constructor
    · intro hn pg hpg
      obtain ⟨i, hi⟩ := List.getElem?_of_mem hpg
      cases pg with
      | none => rfl
      | some r =>
        refine absurd ⟨i, List.mem_range.mpr ?_, ?_⟩ hn
        · have := (List.getElem?_eq_some_iff.mp hi).1
          have := h.le
          omega
        · show whole? k[i]? = true
          rw [hi]; rfl
    · rintro ha ⟨i, _, hw⟩
      have hw : whole? k[i]? = true := hw
      cases e : k[i]? with
      | none => rw [e] at hw; cases hw
      | some pg =>
        cases pg with
        | none => rw [e] at hw; cases hw
        | some r => have := ha _ (List.mem_of_getElem? e); cases this
theorem pure_Disk_is_empty (F : FacD K A) (h : sp_Disk_is_empty K A vs H Q E) : t_Disk_is_empty K A E { nx := fun _ H' => Q .non H', rt := Q } (start N_Disk_is_empty vs) H := by
  obtain ⟨d, st, b, rfl, h, hb, k⟩ := h
  have hm : st.x.m ≤ 16 := h.chip.len.2.2.2.1
  refine ⟨_, rfl, d.q, d.qx, _, rfl, h.ob, no8, _, rfl, d, st, b, rfl, h, hb, fun H1 l xs s hl hl1 R => ?_⟩
  obtain ⟨os, ol, oo, oe⟩ := isEmpty_any R
  refine ⟨l, rfl, ⟨_, SqL.of hl1⟩, fun D hD => ?_⟩
  refine lc_map (K := K) (xs := xs) (os.map fun o => .bl (whole? o)) (by rw [List.length_map, ol]) (by rw [R.len]; exact sz16 hm) (SqL.of hl1) hD (fun i x y H2 hi hy s2 T r => ?_) (fun _ => rfl) fun H2 s2 hD2 => ?_
  · obtain ⟨o, ho, hp⟩ := oo i x hi
    rw [List.getElem?_map, ho] at hy
    have ey : V.bl (whole? o) = y := Option.some.inj hy
    subst ey
    refine ⟨_, rfl, o, x, rfl, ?_, r H2 (Same.refl H2)⟩
    cases o with
    | none => exact hp
    | some pg => exact PgR.mono (fun b ys e => s2 _ _ e) hp
  · refine ⟨D, os.map whole?, rfl, SqL.of (by rw [hD2, List.map_map]; rfl), _, rfl, ?_⟩
    rw [oe]
    exact k H2 (s.trans s2)
end


theorem for_enum {K : PySem.W.Frag} {a : Addr} {xs : List V} {g : TG} {tb : TS} {D : Ends} {σ : L2.St} {H : Hp} (Pv : Nat → L2.St → Hp → Prop) (h0 : Pv 0 σ H) (hl : ∀ i σ H, i ≤ xs.length → Pv i σ H → SqL K H a xs)
    (hs : ∀ (i : Nat) (x : V) (T : Addr) (σ : L2.St) (H : Hp), xs[i]? = some x → Pv i σ H → H T = none → g (.ref T) σ (upd H T (.tup [.int (i : Nat), x])) fun σ2 H2 => tb { D with nx := Pv (i + 1), ct := Pv (i + 1), bk := D.nx } σ2 H2) (hd : ∀ σ H, Pv xs.length σ H → D.nx σ H) :
    ∃ W : Nat → Nat → L2.St → Hp → Prop, (∃ m, W 0 m σ H) ∧ ∀ i m σ H, W i m σ H →
      ((Ite K a).stop i H ∧ D.nx σ H) ∨ ((Ite K a).go i H ∧ ∃ N : L2.St → Hp → Prop, (∀ σ' H', N σ' H' → ∃ m', m' < m ∧ W (i + 1) m' σ' H') ∧ ∀ x H', (Ite K a).yld i H x H' → g x σ H' fun σ2 H2 => tb { D with nx := N, ct := N, bk := D.nx } σ2 H2) := by
  refine ⟨fun i m σ H => m = xs.length - i ∧ i ≤ xs.length ∧ Pv i σ H, ⟨xs.length, by simp, Nat.zero_le _, h0⟩, ?_⟩
  rintro i m σ H ⟨rfl, hi, p⟩
  have q := hl i σ H hi p
  by_cases hlt : i < xs.length
  · refine .inr ⟨⟨xs, xs[i], q, by simp [hlt]⟩, Pv (i + 1), fun σ' H' p' => ⟨xs.length - (i + 1), by omega, rfl, hlt, p'⟩, fun x H' y => ?_⟩
    obtain ⟨T, x0, e1, e2, e3, e4⟩ := y
    subst e1 e3
    exact hs i x0 T σ H (e4 xs q) p e2
  · have e : i = xs.length := by omega
    subst e
    exact .inl ⟨⟨xs, q, Nat.le_refl _⟩, hd σ H p⟩
theorem keys_put {κ : Type} [DecidableEq κ] {kvs : List (κ × V)} {k : κ} {v : V} : (putK kvs k v).map (·.1) = if (valV kvs k).isSome = true then kvs.map (·.1) else kvs.map (·.1) ++ [k] := by
  unfold putK
  rw [valV_any]
  by_cases h : (valV kvs k).isSome = true
  · rw [if_pos h, if_pos h, List.map_map]
    refine List.map_congr_left fun p hp => ?_
    show (if p.1 = k then (p.1, v) else p).1 = p.1
    split <;> rfl
  · rw [if_neg h, if_neg h, List.map_append]; rfl
theorem nd_put {κ : Type} [DecidableEq κ] {kvs : List (κ × V)} {k : κ} {v : V} (h : (kvs.map (·.1)).Nodup) : ((putK kvs k v).map (·.1)).Nodup := by
  rw [keys_put]
  split
  · exact h
  · rename_i q
    refine nd_snoc h (valV_not ?_)
    cases e : valV kvs k with
    | none => rfl
    | some x => rw [e] at q; exact absurd rfl q
theorem PlR.put {H : Hp} {S : Int} {kvs : List (Key × V)} {pl : Int → Option Pl} {s : Int} {e : Pl} {t : Addr} (h : PlR H S kvs pl) (h0 : 0 ≤ s) (h1 : s < S) (ht : H t = some (.tup (plV e))) : PlR H S (putK kvs (Sum.inl s) (.ref t)) (updP pl s e) where
  nd := nd_put h.nd
  ks := fun k hk => by
    rw [keys_put] at hk
    split at hk
    · exact h.ks k hk
    · rcases List.mem_append.mp hk with q | q
      · exact h.ks k q
      · exact ⟨s, List.mem_singleton.mp q, h0, h1⟩
  no := fun i e => by
    unfold updP at e
    rw [valV_put]
    by_cases q : i = s
    · rw [if_pos q] at e; cases e
    · rw [if_neg q] at e
      rw [if_neg (fun z => q (Sum.inl.inj z))]
      exact h.no i e
  yes := fun i e' q => by
    unfold updP at q
    rw [valV_put]
    by_cases z : i = s
    · rw [if_pos z] at q
      have ee := Option.some.inj q
      subst ee
      rw [if_pos (by rw [z])]
      exact ⟨t, rfl, ht⟩
    · rw [if_neg z] at q
      rw [if_neg (fun w => z (Sum.inl.inj w))]
      exact h.yes i e' q
theorem keys_small {S : Int} {kvs : List (Key × V)} (nd : (kvs.map (·.1)).Nodup) (ks : ∀ k ∈ kvs.map (·.1), ∃ i : Int, k = Sum.inl i ∧ 0 ≤ i ∧ i < S) (hS : S ≤ 512) : kvs.length < sizeLine := by
  have key : ∀ l : List Key, l.Nodup → (∀ k ∈ l, ∃ i : Int, k = Sum.inl i ∧ 0 ≤ i ∧ i < S) → ∃ m : List Int, m.length = l.length ∧ m.Nodup ∧ (∀ i ∈ m, 0 ≤ i ∧ i < S) ∧ ∀ i ∈ m, (Sum.inl i : Key) ∈ l := by
    intro l
    induction l with
    | nil => exact fun _ _ => ⟨[], rfl, List.nodup_nil, fun i hi => (nomatch hi), fun i hi => (nomatch hi)⟩
    | cons k l ih =>
      intro hn hb
      obtain ⟨n1, n2⟩ := List.nodup_cons.mp hn
      obtain ⟨m, m1, m2, m3, m4⟩ := ih n2 fun x hx => hb x (List.mem_cons_of_mem _ hx)
      obtain ⟨i, e, i0, i1⟩ := hb k List.mem_cons_self
      refine ⟨i :: m, by simp [m1], List.nodup_cons.mpr ⟨fun z => n1 (by rw [e]; exact m4 i z), m2⟩, fun j hj => ?_, fun j hj => ?_⟩
      · rcases List.mem_cons.mp hj with z | z
        · rw [z]; exact ⟨i0, i1⟩
        · exact m3 j z
      · rcases List.mem_cons.mp hj with z | z
        · rw [z, e]; exact List.mem_cons_self
        · exact List.mem_cons_of_mem _ (m4 j z)
  obtain ⟨m, m1, m2, m3, _⟩ := key _ nd ks
  have := Nodup.bound (n := 512) m2 fun i hi => ⟨(m3 i hi).1, by have := (m3 i hi).2; omega⟩
  rw [m1, List.length_map] at this
  exact Nat.lt_of_le_of_lt this (by decide)
theorem PlR.small {H : Hp} {S : Int} {kvs : List (Key × V)} {pl : Int → Option Pl} (h : PlR H S kvs pl) (hS : S ≤ 512) : kvs.length < sizeLine := keys_small h.nd h.ks hS
theorem ChgD.setP {A : Ad} {H : Hp} {d : DD} {st : DS} {kvs kvs' : List (Key × V)} {pl' : Int → Option Pl} (h : DiskAt A H d st) (hP : H d.P = some (.dK kvs)) (R : PlR H st.S kvs' pl') : ChgD A H d (upd H d.P (.dK kvs')) d { st with pl := pl' } where
  at_ := by
    obtain ⟨n1, n2⟩ := h.notc
    exact ⟨by rw [upd_ne h.qP]; exact h.ob, ⟨kvs', upd_same, R.mono fun b xs e => by rw [upd_ne (fun z => by rw [z, hP] at e; cases e)]; exact e⟩, h.chip.keepQ hP n2 (by intro xs z; cases z), h.hS⟩
  q := rfl
  p := rfl
  sub := fun b hb => .inl hb
  fr := Fr.put hP (.inr (.inl rfl)) (by intro xs z; cases z)
  csub := fun b hb => .inl hb
  pp := rfl
theorem use_write' {K : PySem.W.Frag} {A : Ad} {H : Hp} {d : CD} {x : DC} {b p : Nat} {r : Rec} {v : V} {Q : VK} {E : XK} (hp : (x.blk b).length = p) (h : ChipD A H d x) (hb : b < x.n) (hl : p < x.m) (hv : PgR H (some r) v)
    (k : ∀ d' H', ChgC A H d H' d' (x.put b r).1 → if (x.put b r).2 = true then Q .non H' else E (.ref A.cut) none H') : sp_Chip_write K A [.ref d.p, .int b, .int p, v] H Q E := by
  subst hp
  exact use_write h hb hl hv k
section
variable {K : PySem.W.Frag} {A : Ad} {vs : List V} {H : Hp} {Q : VK} {E : XK}
theorem pure_Disk_put (F : FacD K A) (h : sp_Disk_put K A vs H Q E) : t_Disk_put K A E { nx := fun _ H' => Q .non H', rt := Q } (start N_Disk_put vs) H := by
  obtain ⟨d, st, s, c, rfl, h, ok, k⟩ := h
  obtain ⟨hb, hl, hlt, s0, s1⟩ := ok
  obtain ⟨rows, hc, R⟩ := h.chip.ex
  refine ⟨_, rfl, d.q, _, d.qx, _, _, rfl, h.ob, F.cl_Disk, F.n_chip, diskF_chip, d.chip.p, d.chip.dx, _, rfl, hc.ob, no5, _, rfl, d.q, _, d.qx, _, _, rfl, h.ob, F.cl_Disk, F.n_head, diskF_head, _, rfl, d.q, _, d.qx, _, _, rfl, h.ob, F.cl_Disk, F.n_at, diskF_at,
    _, rfl, _, rfl, d.q, _, d.qx, _, _, rfl, h.ob, F.cl_Disk, F.n_stamp, diskF_stamp, _, rfl, (by show 3 ≤ sizeLine; decide), fun t ht => ?_⟩
  have g1 := ChgD.same h (Same.new (o := .tup [.int s, .int st.stamp, .int c]) ht)
  have hv : PgR (upd H t (.tup [.int s, .int st.stamp, .int c])) (some ⟨s, st.stamp, c⟩) (.ref t) := ⟨t, rfl, upd_same⟩
  refine use_write' (K := K) (b := st.head) (p := st.at_) hl g1.at_.chip hb hlt hv fun d' H2 g2 => ?_
  have gg := g1.trans (ChgD.chip g1.at_ g2 (put_len _ _ _) (put_m _ _ _))
  have kk := k { d with chip := d' }
  unfold DS.put at kk
  cases q : (st.x.put st.head ⟨s, st.stamp, c⟩).2 with
  | false =>
    rw [if_neg Bool.false_ne_true]
    rw [if_neg (by rw [q]; exact Bool.false_ne_true)] at kk
    exact kk H2 gg
  | true =>
    rw [if_pos rfl]
    rw [if_pos q] at kk
    have h2 := gg.at_
    obtain ⟨kvs, hP, RP⟩ := h2.pls
    have f2 : H2 d.q = some (.ins A.disk d.qx (diskF d'.p st.S (st.x.put st.head ⟨s, st.stamp, c⟩).1.bs.length (st.x.put st.head ⟨s, st.stamp, c⟩).1.m d.P st.stamp st.head st.at_)) := h2.ob
    refine ⟨_, rfl, d.q, _, d.qx, _, _, rfl, f2, F.cl_Disk, F.n_head, diskF_head, _, rfl, d.q, _, d.qx, _, _, rfl, f2, F.cl_Disk, F.n_at, diskF_at, _, rfl, d.q, _, d.qx, _, _, rfl, f2, F.cl_Disk, F.n_stamp, diskF_stamp, _, rfl, (by show 4 ≤ sizeLine; decide), fun u hu => ?_⟩
    have g3 := ChgD.same h2 (Same.new (o := .tup [.int st.head, .int st.at_, .int st.stamp, .int c]) hu)
    have hP3 := (Same.new (o := .tup [.int st.head, .int st.at_, .int st.stamp, .int c]) hu) _ _ hP
    have f3 := g3.at_.ob
    have RP3 : PlR (upd H2 u (.tup [.int st.head, .int st.at_, .int st.stamp, .int c])) st.S kvs st.pl := RP.mono fun b xs e => (Same.new hu) _ _ e
    refine ⟨_, rfl, d.q, _, d.qx, _, _, rfl, f3, F.cl_Disk, F.n_places, diskF_places, _, rfl, d.P, _, rfl, DPut.k (k := Sum.inl s) hP3 (RP.small h2.hS), ?_⟩
    have RP4 := RP3.put (e := ⟨st.head, st.at_, st.stamp, c⟩) (t := u) s0 s1 upd_same
    have g4 := ChgD.setP g3.at_ hP3 RP4
    have f4 := g4.at_.ob
    refine ⟨_, rfl, d.q, _, d.qx, _, _, rfl, f4, F.cl_Disk, F.n_stamp, diskF_stamp, _, _, rfl, rfl, _, rfl, d.q, _, d.qx, _, rfl, f4, F.cl_Disk, F.n_stamp, diskF_len, ?_⟩
    rw [diskF_pstamp]
    have g5 := ChgD.setQ g4.at_ (st.stamp + 1) st.head st.at_
    have f5 := g5.at_.ob
    refine ⟨_, rfl, d.q, _, d.qx, _, _, rfl, f5, F.cl_Disk, F.n_at, diskF_at, _, _, rfl, rfl, _, rfl, d.q, _, d.qx, _, rfl, f5, F.cl_Disk, F.n_at, diskF_len, ?_⟩
    rw [diskF_pat]
    have g6 := ChgD.setQ g5.at_ (st.stamp + 1) st.head (st.at_ + 1)
    exact kk _ ((((gg.trans g3).trans g4).trans g5).trans g6)
end

theorem gtRow_snoc (b : Nat) (pg : Option Rec) : ∀ (k : Blk) (a : Option Nat × Int), gtRow b (k ++ [pg]) a = match pg with
    | none => gtRow b k a
    | some x => if (gtRow b k a).2 < x.t then (some b, x.t) else gtRow b k a
  | [], a => by cases pg <;> rfl
  | none :: r, a => by
    show gtRow b (r ++ [pg]) a = _
    rw [gtRow_snoc b pg r a]; rfl
  | some y :: r, a => by
    show gtRow b (r ++ [pg]) _ = _
    rw [gtRow_snoc b pg r _]; rfl
theorem gtGo_snoc (k : Blk) : ∀ (l : List Blk) (b : Nat) (a : Option Nat × Int), gtGo (l ++ [k]) b a = gtRow (b + l.length) k (gtGo l b a)
  | [], b, a => rfl
  | y :: r, b, a => by
    show gtGo (r ++ [k]) (b + 1) _ = gtRow (b + (r.length + 1)) k (gtGo r (b + 1) _)
    rw [gtGo_snoc k r (b + 1) _, Nat.add_assoc, Nat.add_comm 1]
theorem take_over {α : Type} {l : List α} {i : Nat} (h : l[i]? = none) : l.take (i + 1) = l.take i := by
  have := List.getElem?_eq_none_iff.mp h
  rw [List.take_of_length_le (by omega), List.take_of_length_le (by omega)]
theorem DiskAt.live {A : Ad} {H : Hp} {d : DD} {st : DS} (h : DiskAt A H d st) {b : Addr} (hb : dfp d b) : ∃ o, H b = some o := by
  obtain ⟨rows, hc, _⟩ := h.chip.ex
  obtain ⟨kvs, hp, _⟩ := h.pls
  rcases hb with z | z | z | z | z | z
  · rw [z]; exact ⟨_, h.ob⟩
  · rw [z]; exact ⟨_, hp⟩
  · rw [z]; exact ⟨_, hc.ob⟩
  · rw [z]; exact ⟨_, hc.rows⟩
  · rw [z]; exact ⟨_, hc.wears⟩
  · obtain ⟨i, hi⟩ := List.getElem?_of_mem z
    obtain ⟨xs, _, hx⟩ := hc.row i _ hi
    exact ⟨_, hx⟩
theorem DiskAt.fresh {A : Ad} {H : Hp} {d : DD} {st : DS} (h : DiskAt A H d st) {b : Addr} (hb : H b = none) : ¬ dfp d b := fun z => by
  obtain ⟨o, e⟩ := h.live z
  rw [hb] at e; cases e
theorem ChgD.stay {A : Ad} {H H' : Hp} {d d' : DD} {st' : DS} (g : ChgD A H d H' d' st') {b : Addr} {o : HO} (e : H b = some o) (n : ¬ dfp d b) : H' b = some o ∧ ¬ dfp d' b :=
  ⟨g.fr.keep b o e n, fun z => by
    rcases g.sub b z with q | q
    · exact n q
    · rw [e] at q; cases q⟩
section
variable {K : PySem.W.Frag} {A : Ad} {vs : List V} {H : Hp} {Q : VK} {E : XK}
theorem pure_Disk_greatest (F : FacD K A) (h : sp_Disk_greatest K A vs H Q E) : t_Disk_greatest K A E { nx := fun _ H' => Q .non H', rt := Q } (start N_Disk_greatest vs) H := by
  obtain ⟨d, st, rfl, h, k⟩ := h
  have hn : st.x.bs.length ≤ 32 := h.chip.len.2.1
  refine ⟨1, rfl, ?_⟩
  refine ⟨_, rfl, d.q, _, d.qx, _, _, rfl, h.ob, F.cl_Disk, F.n_blocks, diskF_blocks, _, rfl, by omega, by omega, ?_⟩
  refine for_range (lo := 0) (n := ((st.x.bs.length : Nat) : Int).toNat) (fun i σ H' => ∃ v3 v4, Same H H' ∧ σ = [some (.ref d.q), some (natV (gtGo (st.x.bs.take i) 0 (none, -1)).1), some (.int (gtGo (st.x.bs.take i) 0 (none, -1)).2), v3, v4]) ⟨none, none, Same.refl H, rfl⟩ ?_ ?_
  · rintro i σ H1 hi ⟨v3, v4, s, rfl⟩
    have hi : i < st.x.n := by have : i < ((st.x.bs.length : Nat) : Int).toNat := hi; show i < st.x.bs.length; omega
    have h1 := (ChgD.same h s).at_
    refine ⟨_, rfl, d.q, d.qx, _, rfl, h1.ob, no8, _, rfl, d, st, i, (by rw [Int.zero_add]; rfl), h1, hi, fun H2 l xs s2 hl hl2 R => ?_⟩
    have hm : st.x.m ≤ 16 := h.chip.len.2.2.2.1
    refine ⟨l, rfl, ⟨_, SqL.of hl2⟩, for_list (K := K) (a := l) (xs := xs) (fun j σ H' => ∃ v4, Same H2 H' ∧ σ = [some (.ref d.q), some (natV (gtRow i ((st.x.blk i).take j) (gtGo (st.x.bs.take i) 0 (none, -1))).1), some (.int (gtRow i ((st.x.blk i).take j) (gtGo (st.x.bs.take i) 0 (none, -1))).2), some (.int (0 + (i : Nat))), v4]) ⟨v4, Same.refl H2, rfl⟩ (fun j σ H' _ ⟨_, z, _⟩ => z.seq (SqL.of hl2)) ?_ ?_⟩
    · rintro j y σ H3 hj ⟨v4, s3, rfl⟩
      have hjm : j < st.x.m := by rw [← R.len]; exact (List.getElem?_eq_some_iff.mp hj).1
      obtain ⟨w, hw, hp⟩ := R.get hjm
      have ew : y = w := Option.some.inj (hj.symm.trans hw)
      subst ew
      have hp3 : PgE H3 (st.x.blk i)[j]? y := by
        cases q : (st.x.blk i)[j]? with
        | none => rw [q] at hp; exact hp
        | some pg => rw [q] at hp; exact PgR.mono (fun b ys e => s3 _ _ e) hp
      refine ⟨_, rfl, _, y, rfl, hp3, _, rfl, ?_⟩
      cases q : (st.x.blk i)[j]? with
      | none =>
        refine iteF (iteF ⟨some y, s3, ?_⟩)
        rw [take_over q]; rfl
      | some pg =>
        cases pg with
        | none =>
          refine iteF (iteF ⟨some y, s3, ?_⟩)
          rw [take_snoc q, gtRow_snoc]; rfl
        | some r =>
          rw [q] at hp3
          obtain ⟨t, e, ht⟩ := hp3
          subst e
          refine iteT ⟨_, rfl, _, _, _, _, rfl, rfl, SqT.of ht, at_of (j := 1) rfl rfl, _, rfl, _, _, rfl, rfl, _, rfl, ?_⟩
          by_cases c : (gtRow i ((st.x.blk i).take j) (gtGo (st.x.bs.take i) 0 (none, -1))).2 < r.t
          · rw [decide_eq_true c]
            refine iteT ⟨_, rfl, _, rfl, _, _, _, _, rfl, rfl, SqT.of ht, at_of (j := 1) rfl rfl, some (.ref t), s3, ?_⟩
            rw [take_snoc q, gtRow_snoc]
            show _ = [_, some (natV (if _ then (some i, r.t) else _).1), some (.int (if _ then (some i, r.t) else _).2), _, _]
            rw [if_pos c]
            show _ = [some (V.ref d.q), some (V.int (i : Nat)), _, _, _]
            rw [Int.zero_add]; rfl
          · rw [decide_eq_false c]
            refine iteF ⟨some (.ref t), s3, ?_⟩
            rw [take_snoc q, gtRow_snoc]
            show _ = [_, some (natV (if _ then (some i, r.t) else _).1), some (.int (if _ then (some i, r.t) else _).2), _, _]
            rw [if_neg c]; rfl
    · rintro σ H3 ⟨v4, s3, rfl⟩
      refine ⟨some (.int (0 + (i : Nat))), v4, (s.trans s2).trans s3, ?_⟩
      have e1 : (st.x.blk i).take xs.length = st.x.blk i := List.take_of_length_le (by rw [R.len]; exact R.le)
      have e2 : st.x.bs.take (i + 1) = st.x.bs.take i ++ [st.x.blk i] := take_snoc (blk_of hi)
      have e3 : (st.x.bs.take i).length = i := by rw [List.length_take]; have : i < st.x.bs.length := hi; omega
      rw [e1, e2, gtGo_snoc, e3, Nat.zero_add]
  · rintro σ H1 ⟨v3, v4, s, rfl⟩
    refine ⟨_, rfl, ?_⟩
    have e : st.x.bs.take ((st.x.bs.length : Nat) : Int).toNat = st.x.bs := List.take_of_length_le (by omega)
    rw [e]
    exact k H1 s
end

theorem blk_set {x : DC} {b c : Nat} {k : Blk} {l : Option Int} {w : List Int} {m : Int} {u : Bool} (h : b < x.bs.length) : DC.blk ⟨x.bs.set b k, x.m, w, m, l, u⟩ c = if c = b then k else x.blk c := by
  unfold DC.blk
  show (x.bs.set b k).getD c [] = _
  rw [List.getD_eq_getElem?_getD]
  by_cases q : c = b
  · subst q
    rw [if_pos rfl, List.getElem?_set_self h]; rfl
  · rw [if_neg q, List.getElem?_set_ne (fun z => q z.symm), List.getD_eq_getElem?_getD]
theorem put_blk {x : DC} {b c : Nat} {r : Rec} (h : b < x.bs.length) (ok : (x.put b r).2 = true) : (x.put b r).1.blk c = if c = b then x.blk b ++ [some r] else x.blk c := by
  unfold DC.put at ok ⊢
  by_cases hc : x.cut = true
  · rw [if_pos hc] at ok; cases ok
  · rw [if_neg hc] at ok ⊢
    have ok : x.gw.2 = true := ok
    unfold DC.blk
    show (x.bs.set b (x.blk b ++ [if x.gw.2 = true then some r else none])).getD c [] = _
    rw [if_pos ok, List.getD_eq_getElem?_getD]
    by_cases q : c = b
    · subst q
      rw [if_pos rfl, List.getElem?_set_self h]; rfl
    · rw [if_neg q, List.getElem?_set_ne (fun z => q z.symm), List.getD_eq_getElem?_getD]
theorem put_ok_fields {st : DS} {s c : Int} (ok : (st.put s c).2 = true) : (st.x.put st.head ⟨s, st.stamp, c⟩).2 = true ∧ (st.put s c).1 = { st with x := (st.x.put st.head ⟨s, st.stamp, c⟩).1, pl := updP st.pl s ⟨st.head, st.at_, st.stamp, c⟩, stamp := st.stamp + 1, at_ := st.at_ + 1 } := by
  unfold DS.put at ok ⊢
  by_cases h : (st.x.put st.head ⟨s, st.stamp, c⟩).2 = true
  · rw [if_pos h]; exact ⟨h, rfl⟩
  · rw [if_neg h] at ok; cases ok
structure CleanAt (st0 : DS) (b i : Nat) (st : DS) : Prop where
  k : st.x.blk b = st0.x.blk b
  n : st.x.bs.length = st0.x.bs.length
  m : st.x.m = st0.x.m
  S : st.S = st0.S
  h : st.head = st0.head
  l : (st.x.blk st.head).length = st.at_
  a : st.at_ ≤ i
  all : ∀ r, some r ∈ st0.x.blk b → st.pl r.s ≠ none
theorem CleanAt.put {st0 st : DS} {b i : Nat} {r : Rec} (c : CleanAt st0 b i st) (ok0 : CleanOk st0 b) (ok : (st.put r.s r.c).2 = true) : CleanAt st0 b (i + 1) (st.put r.s r.c).1 := by
  obtain ⟨p, e⟩ := put_ok_fields ok
  have hh : st.head < st.x.bs.length := by rw [c.h, c.n]; exact ok0.hh
  rw [e]
  refine ⟨?_, ?_, ?_, c.S, c.h, ?_, ?_, fun q hq => ?_⟩
  · show (st.x.put st.head ⟨r.s, st.stamp, r.c⟩).1.blk b = _
    rw [put_blk hh p, if_neg (by rw [c.h]; exact ok0.ne.symm)]; exact c.k
  · show (st.x.put st.head ⟨r.s, st.stamp, r.c⟩).1.bs.length = _
    rw [put_len]; exact c.n
  · show (st.x.put st.head ⟨r.s, st.stamp, r.c⟩).1.m = _
    rw [put_m]; exact c.m
  · show ((st.x.put st.head ⟨r.s, st.stamp, r.c⟩).1.blk st.head).length = st.at_ + 1
    rw [put_blk hh p, if_pos rfl, List.length_append, c.l]; rfl
  · show st.at_ + 1 ≤ i + 1
    have := c.a
    omega
  · show updP st.pl r.s _ q.s ≠ none
    unfold updP
    split
    · exact fun z => nomatch z
    · exact c.all q hq
theorem drop_at {α : Type} {l : List α} {i : Nat} {x : α} (h : l[i]? = some x) : l.drop i = x :: l.drop (i + 1) := by
  obtain ⟨hi, e⟩ := List.getElem?_eq_some_iff.mp h
  rw [← e]
  exact List.drop_eq_getElem_cons hi
theorem drop_over {α : Type} {l : List α} {i : Nat} (h : l[i]? = none) : l.drop i = [] ∧ l.drop (i + 1) = [] := by
  have := List.getElem?_eq_none_iff.mp h
  exact ⟨List.drop_eq_nil_of_le this, List.drop_eq_nil_of_le (by omega)⟩
theorem pl_eq {pl : Int → Option Pl} {b p : Nat} {r : Rec} {e : Pl} (h : pl r.s = some e) : liveAt pl b p r = decide (e.b = b ∧ e.p = p) := by
  unfold liveAt
  rw [h]
theorem cleanGo_some {b p : Nat} {x : Rec} {r : Blk} {st : DS} : cleanGo b (some x :: r) p st = if liveAt st.pl b p x = true then (if (st.put x.s x.c).2 = true then cleanGo b r (p + 1) (st.put x.s x.c).1 else ((st.put x.s x.c).1, false)) else cleanGo b r (p + 1) st := rfl
section
variable {K : PySem.W.Frag} {A : Ad} {vs : List V} {H : Hp} {Q : VK} {E : XK}
theorem pure_Disk_clean (F : FacD K A) (h : sp_Disk_clean K A vs H Q E) : t_Disk_clean K A E { nx := fun _ H' => Q .non H', rt := Q } (start N_Disk_clean vs) H := by
  obtain ⟨d, st, b, rfl, h, ok, k⟩ := h
  have hm : st.x.m ≤ 16 := h.chip.len.2.2.2.1
  refine ⟨_, rfl, d.q, d.qx, _, rfl, h.ob, no8, _, rfl, d, st, b, rfl, h, ok.hb, fun H1 l xs s hl hl1 R => ?_⟩
  have g1 := ChgD.same h s
  have nl : ¬ dfp d l := h.fresh hl
  refine ⟨l, xs, rfl, SqL.of hl1, for_enum (K := K) (a := l) (xs := xs) (fun i σ H' => ∃ v2 v3 d' st', σ = [some (.ref d.q), some (.int (b : Nat)), v2, v3] ∧ ChgD A H1 d H' d' st' ∧ H' l = some (.lst xs) ∧ ¬ dfp d' l ∧ CleanAt st b i st' ∧ cleanGo b ((st.x.blk b).drop i) i st' = cleanGo b (st.x.blk b) 0 st)
    ⟨none, none, d, st, rfl, ChgD.same g1.at_ (Same.refl H1), hl1, nl, ⟨rfl, rfl, rfl, rfl, rfl, by rw [ok.em, ok.at0]; rfl, by rw [ok.at0]; exact Nat.le_refl _, fun r hr => (ok.all r hr).2.2⟩, rfl⟩ (fun i σ H' _ ⟨_, _, _, _, _, _, q, _⟩ => SqL.of q) ?_ ?_⟩
  · rintro i v T σ H2 hi ⟨v2, v3, d', st', rfl, g, hl2, nl2, C, co⟩ hT
    have him : i < st.x.m := by rw [← R.len]; exact (List.getElem?_eq_some_iff.mp hi).1
    obtain ⟨w, hw, hp⟩ := R.get him
    have ew : v = w := Option.some.inj (hi.symm.trans hw)
    subst ew
    have s3 : Same H2 (upd H2 T (.tup [.int (i : Nat), v])) := Same.new hT
    have g3 : ChgD A H1 d (upd H2 T (.tup [.int (i : Nat), v])) d' st' := g.trans (ChgD.same g.at_ s3)
    have hl3 := s3 _ _ hl2
    refine ⟨T, _, rfl, SqT.of upd_same, rfl, _, _, rfl, _, _, rfl, rfl, ?_⟩
    have hp3 : PgE (upd H2 T (.tup [.int (i : Nat), v])) (st.x.blk b)[i]? v := by
      cases q : (st.x.blk b)[i]? with
      | none => rw [q] at hp; exact hp
      | some pg => rw [q] at hp; exact PgR.mono g3.fr.tup hp
    refine ⟨_, rfl, _, v, rfl, hp3, _, rfl, ?_⟩
    cases q : (st.x.blk b)[i]? with
    | none =>
      obtain ⟨e1, e2⟩ := drop_over q
      rw [e1] at co
      refine iteF (iteF ⟨_, _, d', st', rfl, g3, hl3, nl2, { C with a := Nat.le_succ_of_le C.a }, ?_⟩)
      rw [e2]; exact co
    | some pg =>
      rw [drop_at q] at co
      cases pg with
      | none => exact iteF (iteF ⟨_, _, d', st', rfl, g3, hl3, nl2, { C with a := Nat.le_succ_of_le C.a }, co⟩)
      | some r =>
        rw [q] at hp3
        obtain ⟨t, e, ht⟩ := hp3
        subst e
        have hr : some r ∈ st.x.blk b := List.mem_of_getElem? q
        have h3 := g3.at_
        obtain ⟨kvs, hP, RP⟩ := h3.pls
        obtain ⟨e, he⟩ : ∃ e, st'.pl r.s = some e := by
          cases z : st'.pl r.s with
          | none => exact absurd z (C.all r hr)
          | some e => exact ⟨e, rfl⟩
        obtain ⟨u, hv, hu⟩ := RP.yes r.s e he
        have f3 : (upd H2 T (.tup [.int (i : Nat), .ref t])) d.q = some (.ins A.disk d'.qx (diskF d'.chip.p st'.S st'.x.bs.length st'.x.m d'.P st'.stamp st'.head st'.at_)) := by rw [← g3.q]; exact h3.ob
        refine iteT ⟨_, rfl, d.q, _, d'.qx, _, _, rfl, f3, F.cl_Disk, F.n_places, diskF_places, _, rfl, _, _, _, _, rfl, rfl, SqT.of ht, at_of (j := 0) rfl rfl, d'.P, .ref u, rfl, by rw [← hv]; exact DGet.k (k := Sum.inl r.s) hP, 2, rfl, u, _, rfl, SqT.of hu, (by show ¬ ((0 : Nat) = 0 ∧ (2 : Nat) = 4); omega), fun u2 hu2 => ?_⟩
        refine ⟨_, rfl, _, rfl, (by show 2 ≤ sizeLine; decide), fun u3 hu3 => ?_⟩
        have e2 : (upd (upd (upd H2 T (.tup [.int (i : Nat), .ref t])) u2 (.tup (cutV (plV e) none (some 2)))) u3 (.tup [.int (b : Nat), .int (i : Nat)])) u2 = some (.tup [.int e.b, .int e.p]) := by
          rw [upd_ne (ne_of_none upd_same hu3), upd_same]; rfl
        refine ⟨.tuple ([(e.b : Int), (e.p : Int)].map PyData.int), .tuple ([(b : Int), (i : Int)].map PyData.int), .tup (SqT.of e2) (dpAll_ints [(e.b : Int), (e.p : Int)]), .tup (SqT.of upd_same) (dpAll_ints [(b : Int), (i : Int)]), OkD.tupI.sh, OkD.tupI.sh, _, rfl, ?_⟩
        rw [eqv_tups]
        have el : decide ([(e.b : Int), (e.p : Int)] = [(b : Int), (i : Int)]) = liveAt st'.pl b i r := by
          rw [pl_eq he, Bool.eq_iff_iff, decide_eq_true_iff, decide_eq_true_iff]
          constructor
          · intro z
            injection z with z1 z2
            injection z2 with z3 z4
            exact ⟨by omega, by omega⟩
          · rintro ⟨z1, z2⟩
            rw [z1, z2]
        rw [el]
        have s4 : Same (upd H2 T (.tup [.int (i : Nat), .ref t])) (upd (upd (upd H2 T (.tup [.int (i : Nat), .ref t])) u2 (.tup (cutV (plV e) none (some 2)))) u3 (.tup [.int (b : Nat), .int (i : Nat)])) := (Same.new hu2).trans (Same.new hu3)
        have g4 := g3.trans (ChgD.same h3 s4)
        have h4 := g4.at_
        rw [cleanGo_some] at co
        cases lv : liveAt st'.pl b i r with
        | false =>
          rw [if_neg (by rw [lv]; exact Bool.false_ne_true)] at co
          exact iteF ⟨_, _, d', st', rfl, g4, s4 _ _ hl3, nl2, { C with a := Nat.le_succ_of_le C.a }, co⟩
        | true =>
          rw [if_pos lv] at co
          have f4 : (upd (upd (upd H2 T (.tup [.int (i : Nat), .ref t])) u2 (.tup (cutV (plV e) none (some 2)))) u3 (.tup [.int (b : Nat), .int (i : Nat)])) d.q = some (.ins A.disk d'.qx (diskF d'.chip.p st'.S st'.x.bs.length st'.x.m d'.P st'.stamp st'.head st'.at_)) := by rw [← g3.q]; exact h4.ob
          refine iteT ⟨_, rfl, d.q, d'.qx, _, rfl, f4, no8, _, rfl, _, _, _, _, rfl, rfl, SqT.of (s4 _ _ ht), at_of (j := 0) rfl rfl, _, rfl, _, _, _, _, rfl, rfl, SqT.of (s4 _ _ ht), at_of (j := 2) rfl rfl, d', st', r.s, r.c, (by rw [g3.q]; rfl), h4, ?_, fun d5 H5 g5 => ?_⟩
          · obtain ⟨r0, r1, _⟩ := ok.all r hr
            refine ⟨?_, C.l, ?_, r0, by rw [C.S]; exact r1⟩
            · rw [C.h]
              show st.head < st'.x.bs.length
              rw [C.n]; exact ok.hh
            · rw [C.m]
              have := C.a
              omega
          · have g6 := g4.trans g5
            obtain ⟨q1, q2⟩ := g5.stay (s4 _ _ hl3) nl2
            unfold okE
            cases pk : (st'.put r.s r.c).2 with
            | true =>
              rw [if_pos rfl]
              rw [if_pos pk] at co
              exact ⟨_, _, d5, _, rfl, g6, q1, q2, C.put ok pk, co⟩
            | false =>
              rw [if_neg Bool.false_ne_true]
              rw [if_neg (by rw [pk]; exact Bool.false_ne_true)] at co
              have kk := k d5 H5
              unfold DS.clean at kk
              rw [← co, if_neg Bool.false_ne_true] at kk
              exact kk (g1.trans g6)
  · rintro σ H2 ⟨v2, v3, d', st', rfl, g, hl2, nl2, C, co⟩
    rw [List.drop_eq_nil_of_le (by rw [R.len]; exact R.le)] at co
    have co : (st', true) = cleanGo b (st.x.blk b) 0 st := co
    have h2 := g.at_
    obtain ⟨rows, hc, _⟩ := h2.chip.ex
    have f2 : H2 d.q = some (.ins A.disk d'.qx (diskF d'.chip.p st'.S st'.x.bs.length st'.x.m d'.P st'.stamp st'.head st'.at_)) := by rw [← g.q]; exact h2.ob
    refine ⟨_, rfl, d.q, _, d'.qx, _, _, rfl, f2, F.cl_Disk, F.n_chip, diskF_chip, d'.chip.p, d'.chip.dx, _, rfl, hc.ob, no5, _, rfl, ?_⟩
    refine use_erase (K := K) (b := b) h2.chip (by show b < st'.x.bs.length; rw [C.n]; exact ok.hb) fun c' H3 g3 => ?_
    have g4 := (g1.trans g).trans (ChgD.chip h2 g3 (erase_len _ _) (erase_m _ _))
    have kk := k { d' with chip := c' } H3
    unfold DS.clean okE at kk
    rw [← co, if_pos rfl] at kk
    exact kk g4
end

section
variable {K : PySem.W.Frag} {A : Ad} {vs : List V} {H : Hp} {Q : VK} {E : XK}
theorem pure_Disk_advance (F : FacD K A) (h : sp_Disk_advance K A vs H Q E) : t_Disk_advance K A E { nx := fun _ H' => Q .non H', rt := Q } (start N_Disk_advance vs) H := by
  obtain ⟨d, st, rfl, h, ok, k⟩ := h
  have hn := h.chip.len
  have n0 : (0 : Int) < st.x.bs.length := by omega
  have e1 : ((st.head : Int) + 1) % (st.x.bs.length : Int) = (st.nextH : Nat) := by
    show _ = (((st.head + 1) % st.x.bs.length : Nat) : Int)
    rw [Int.natCast_emod]; rfl
  refine ⟨_, rfl, d.q, _, d.qx, _, _, rfl, h.ob, F.cl_Disk, F.n_head, diskF_head, _, _, rfl, rfl, _, rfl, d.q, _, d.qx, _, _, rfl, h.ob, F.cl_Disk, F.n_blocks, diskF_blocks, _, _, rfl, rfl, n0, _, rfl, d.q, _, d.qx, _, rfl, h.ob, F.cl_Disk, F.n_head, diskF_len, ?_⟩
  dsimp only
  rw [e1, diskF_phead]
  have g1 := ChgD.setQ h st.stamp st.nextH st.at_
  refine ⟨_, rfl, d.q, _, d.qx, _, rfl, g1.at_.ob, F.cl_Disk, F.n_at, diskF_len, ?_⟩
  rw [upd_upd, diskF_pat]
  have g2 : ChgD A H d (upd H d.q (.ins A.disk d.qx (diskF d.chip.p st.S st.x.bs.length st.x.m d.P st.stamp st.nextH (0 : Nat)))) d st.moved := ChgD.setQ h st.stamp st.nextH 0
  have h2 := g2.at_
  have e2 : (((st.nextH : Nat) : Int) + 1) % (st.x.bs.length : Int) = (st.moved.nextH : Nat) := by
    show _ = (((st.nextH + 1) % st.x.bs.length : Nat) : Int)
    rw [Int.natCast_emod]; rfl
  have hb : st.moved.nextH < st.moved.x.n := Nat.mod_lt _ (by show 0 < st.x.bs.length; omega)
  refine ⟨_, rfl, d.q, _, d.qx, _, _, rfl, h2.ob, F.cl_Disk, F.n_head, diskF_head, _, _, rfl, rfl, _, rfl, d.q, _, d.qx, _, _, rfl, h2.ob, F.cl_Disk, F.n_blocks, diskF_blocks, _, _, rfl, rfl, n0, _, rfl, d.q, d.qx, _, rfl, h2.ob, no8, _, rfl, d, st.moved, st.moved.nextH, (congrArg (fun z => [V.ref d.q, V.int z]) e2), h2, hb, fun H3 s => ⟨_, rfl, ?_⟩⟩
  have g3 := g2.trans (ChgD.same h2 s)
  show if (!isEmpty (st.x.blk st.moved.nextH)) = true then _ else _
  cases hq : isEmpty (st.x.blk st.moved.nextH) with
  | true =>
    have kk := k d H3
    unfold DS.advance okE at kk
    rw [if_pos hq, if_pos rfl] at kk
    exact iteF (kk g3)
  | false =>
    have h3 := g3.at_
    refine iteT ⟨_, rfl, d.q, d.qx, _, rfl, h3.ob, no8, _, rfl, d, st.moved, st.moved.nextH, (congrArg (fun z => [V.ref d.q, V.int z]) e2), h3, ⟨hb, ?_, ?_, ok.em, rfl, ok.all⟩, fun d' H4 g4 => ?_⟩
    · exact Nat.mod_lt _ (by show 0 < st.x.bs.length; omega)
    · show st.nextH ≠ (st.nextH + 1) % st.x.bs.length
      intro z
      have hl : st.nextH < st.x.bs.length := Nat.mod_lt _ (by show 0 < st.x.bs.length; omega)
      by_cases q : st.nextH + 1 = st.x.bs.length
      · rw [q, Nat.mod_self] at z; omega
      · rw [Nat.mod_eq_of_lt (by omega)] at z; omega
    · have kk := k d' H4
      unfold DS.advance at kk
      rw [if_neg (by rw [hq]; exact Bool.false_ne_true)] at kk
      exact kk (g3.trans g4)
theorem pure_Disk_write (F : FacD K A) (h : sp_Disk_write K A vs H Q E) : t_Disk_write K A E { nx := fun _ H' => Q .non H', rt := Q } (start N_Disk_write vs) H := by
  obtain ⟨d, st, s, c, rfl, h, k1, k2, k3⟩ := h
  refine ⟨_, rfl, d.q, d.qx, _, rfl, h.ob, no8, _, rfl, d, st, s, rfl, h, fun hs => ?_, k1⟩
  refine tst_lele (x := c) rfl ?_
  show if (!decide ((0 : Int) ≤ c ∧ c ≤ 999999999999)) = true then _ else _
  by_cases hc : (0 : Int) ≤ c ∧ c ≤ 999999999999
  rotate_left
  · rw [decide_eq_false hc]
    exact iteT (k2 hs hc)
  rw [decide_eq_true hc]
  refine iteF ?_
  obtain ⟨⟨lo, po⟩, k⟩ := k3 hs hc
  refine ⟨fun m σ H' => ∃ d' st', σ = [some (.ref d.q), some (.int s), some (.int c)] ∧ ChgD A H d H' d' st' ∧ LoopOk m st' ∧ wloop m st' = wloop st.x.n st, ⟨st.x.n, d, st, rfl, ChgD.same h (Same.refl H), lo, rfl⟩, ?_⟩
  rintro m σ H1 ⟨d', st', rfl, g, lo', ew⟩
  have h1 := g.at_
  have f1 : H1 d.q = some (.ins A.disk d'.qx (diskF d'.chip.p st'.S st'.x.bs.length st'.x.m d'.P st'.stamp st'.head st'.at_)) := by rw [← g.q]; exact h1.ob
  refine ⟨_, rfl, d.q, _, d'.qx, _, _, rfl, f1, F.cl_Disk, F.n_at, diskF_at, _, rfl, d.q, _, d'.qx, _, _, rfl, f1, F.cl_Disk, F.n_pages, diskF_pages, rfl, _, rfl, ?_⟩
  by_cases q : st'.at_ = st'.x.m
  · have qd : decide (V.int (st'.at_ : Nat) = V.int (st'.x.m : Nat)) = true := decide_eq_true (by rw [q])
    rw [qd]
    refine iteT ?_
    cases m with
    | zero => exact absurd q lo'
    | succ m =>
      obtain ⟨ao, lo2⟩ := lo' q
      have ew2 : (if st'.advance.2 = true then wloop m st'.advance.1 else (st'.advance.1, false)) = wloop st.x.n st := by
        rw [← ew]
        show _ = if st'.at_ = st'.x.m then _ else _
        rw [if_pos q]
      refine ⟨fun σ' H' => ∃ d' st', σ' = [some (.ref d.q), some (.int s), some (.int c)] ∧ ChgD A H d H' d' st' ∧ LoopOk m st' ∧ wloop m st' = wloop st.x.n st, fun σ' H' z => ⟨m, Nat.lt_succ_self m, z⟩, ?_⟩
      refine ⟨_, rfl, d.q, d'.qx, _, rfl, f1, no8, d', st', (by rw [g.q]; rfl), h1, ao, fun d2 H2 g2 => ?_⟩
      unfold okE
      cases aq : st'.advance.2 with
      | true =>
        rw [if_pos rfl]
        rw [if_pos aq] at ew2
        exact ⟨d2, _, rfl, g.trans g2, lo2 aq, ew2⟩
      | false =>
        rw [if_neg Bool.false_ne_true]
        rw [if_neg (by rw [aq]; exact Bool.false_ne_true)] at ew2
        have kk := k d2 H2
        unfold DS.write okE at kk
        rw [← ew2, if_neg Bool.false_ne_true] at kk
        exact kk (g.trans g2)
  · have qd : decide (V.int (st'.at_ : Nat) = V.int (st'.x.m : Nat)) = false := decide_eq_false (fun e => q (by injection e with e; omega))
    rw [qd]
    refine iteF ?_
    have ew2 : (st', true) = wloop st.x.n st := by
      rw [← ew]
      cases m with
      | zero => rfl
      | succ m =>
        show _ = if st'.at_ = st'.x.m then _ else _
        rw [if_neg q]
    refine ⟨_, rfl, d.q, d'.qx, _, rfl, f1, no8, _, rfl, _, rfl, d', st', s, c, (by rw [g.q]; rfl), h1, by rw [← ew2] at po; exact po rfl, fun d2 H2 g2 => ?_⟩
    have kk := k d2 H2
    unfold DS.write at kk
    rw [← ew2, if_pos rfl] at kk
    exact kk (g.trans g2)
theorem pure_Disk_init (F : FacD K A) (h : sp_Disk_init K A vs H Q E) : t_Disk_init K A E { nx := fun _ H' => Q .non H', rt := Q } (start N_Disk_init vs) H := by
  obtain ⟨q, dx, c, x, S, rfl, hq, hc, k1, k2⟩ := h
  obtain ⟨rows, hr, R⟩ := hc.ex
  have hl := hc.len
  refine ⟨_, rfl, c.p, c.dx, _, rfl, hr.ob, no5, c, _, rfl, hr, fun t ht => ?_⟩
  refine ⟨t, _, rfl, SqT.of upd_same, rfl, _, _, rfl, _, _, rfl, rfl, ?_⟩
  have s1 : Same H (upd H t (.tup [.int rows.length, .int x.m])) := Same.new ht
  have hq1 := s1 _ _ hq
  have hc1 := hc.ofSame s1
  refine ⟨_, rfl, _, _, rfl, rfl, _, rfl, ?_⟩
  have em : manyOk x S ↔ (1 ≤ S ∧ S ≤ ((rows.length : Int) - 2) * x.m) := by
    unfold manyOk
    rw [R.len]
  by_cases h0 : (1 : Int) ≤ S
  rotate_left
  · rw [if_neg (by rw [decide_eq_false h0]; exact Bool.false_ne_true)]
    exact ⟨_, rfl, iteT (k1 (fun z => h0 z.1) _ s1)⟩
  rw [if_pos (decide_eq_true h0)]
  refine ⟨_, rfl, _, _, rfl, rfl, _, rfl, _, _, rfl, rfl, .inl ⟨(by have := R.len; show (-(2 ^ 64) : Int) < (rows.length : Int) - 2; omega), (by have := R.len; show (rows.length : Int) - 2 < 2 ^ 64; omega)⟩, _, _, rfl, rfl, _, rfl, ?_⟩
  by_cases h1 : S ≤ ((rows.length : Int) - 2) * x.m
  rotate_left
  · rw [decide_eq_false h1]
    exact iteT (k1 (fun z => h1 (em.mp z).2) _ s1)
  rw [decide_eq_true h1]
  refine iteF ?_
  have ok := em.mpr ⟨h0, h1⟩
  refine ⟨_, rfl, _, rfl, q, A.disk, dx, [], rfl, hq1, F.cl_Disk, F.n_chip, (by show 0 < 1000; decide), ?_⟩
  refine ⟨_, rfl, _, rfl, q, A.disk, dx, [("chip", .ref c.p)], rfl, upd_same, F.cl_Disk, F.n_dmany, (by show 1 < 1000; decide), ?_⟩
  rw [upd_upd]
  refine ⟨_, rfl, _, rfl, q, A.disk, dx, [("chip", .ref c.p), ("many", .int S)], rfl, (by rw [upd_same]; simp [putF, Ne.symm nd01]), F.cl_Disk, F.n_blocks, (by show 2 < 1000; decide), ?_⟩
  rw [upd_upd]
  refine ⟨_, rfl, _, rfl, q, A.disk, dx, [("chip", .ref c.p), ("many", .int S), ("blocks", .int rows.length)], rfl, (by rw [upd_same]; simp [putF, Ne.symm nd02, Ne.symm nd12]), F.cl_Disk, F.n_pages, (by show 3 < 1000; decide), ?_⟩
  rw [upd_upd]
  intro P hP
  have nPq : P ≠ q := fun z => by rw [z, upd_same] at hP; cases hP
  have hP1 : (upd H t (.tup [.int rows.length, .int x.m])) P = none := by rw [upd_ne nPq] at hP; exact hP
  refine ⟨_, rfl, q, A.disk, dx, [("chip", .ref c.p), ("many", .int S), ("blocks", .int rows.length), ("pages", .int x.m)], rfl, (by rw [upd_ne nPq.symm, upd_same]; simp [putF, Ne.symm nd03, Ne.symm nd13, Ne.symm nd23]), F.cl_Disk, F.n_places, (by show 4 < 1000; decide), ?_⟩
  refine ⟨_, rfl, q, A.disk, dx, [("chip", .ref c.p), ("many", .int S), ("blocks", .int rows.length), ("pages", .int x.m), ("places", .ref P)], rfl, (by rw [upd_same]; simp [putF, Ne.symm nd04, Ne.symm nd14, Ne.symm nd24, Ne.symm nd34]), F.cl_Disk, F.n_stamp, (by show 5 < 1000; decide), ?_⟩
  rw [upd_upd]
  refine ⟨_, rfl, q, A.disk, dx, [("chip", .ref c.p), ("many", .int S), ("blocks", .int rows.length), ("pages", .int x.m), ("places", .ref P), ("stamp", .int 0)], rfl, (by rw [upd_same]; simp [putF, Ne.symm nd05, Ne.symm nd15, Ne.symm nd25, Ne.symm nd35, Ne.symm nd45]), F.cl_Disk, F.n_head, (by show 6 < 1000; decide), ?_⟩
  rw [upd_upd]
  refine ⟨_, rfl, q, A.disk, dx, [("chip", .ref c.p), ("many", .int S), ("blocks", .int rows.length), ("pages", .int x.m), ("places", .ref P), ("stamp", .int 0), ("head", .int 0)], rfl, (by rw [upd_same]; simp [putF, Ne.symm nd06, Ne.symm nd16, Ne.symm nd26, Ne.symm nd36, Ne.symm nd46, Ne.symm nd56]), F.cl_Disk, F.n_at, (by show 7 < 1000; decide), ?_⟩
  rw [upd_upd]
  have ef : putF "at" (.int 0) [("chip", V.ref c.p), ("many", .int S), ("blocks", .int rows.length), ("pages", .int x.m), ("places", .ref P), ("stamp", .int 0), ("head", .int 0)] = diskF c.p S x.bs.length x.m P 0 (0 : Nat) (0 : Nat) := by
    rw [R.len]
    simp [putF, diskF, Ne.symm nd07, Ne.symm nd17, Ne.symm nd27, Ne.symm nd37, Ne.symm nd47, Ne.symm nd57, Ne.symm nd67]
  rw [ef]
  have ncq : ¬ cfp c q := fun z => by
    rcases z with z | z | z | z
    · have e := hr.ob
      rw [← z, hq] at e
      exact absurd (Option.some.inj e) (ins_ne (by show 0 ≠ 5; decide))
    · have e := hr.rows
      rw [← z, hq] at e; cases e
    · have e := hr.wears
      rw [← z, hq] at e; cases e
    · obtain ⟨i, hi⟩ := List.getElem?_of_mem z
      obtain ⟨xs, _, hx⟩ := hr.row i _ hi
      rw [hq] at hx; cases hx
  refine k2 ok ⟨q, dx, P, c⟩ _ ?_ rfl rfl (s1.free hP1) ?_
  · refine ⟨upd_same, ⟨[], ?_, ⟨List.nodup_nil, (fun k hk => nomatch hk), (fun i _ => rfl), (fun i e z => nomatch z)⟩⟩, ?_, ?_⟩
    · show upd _ q _ P = _
      rw [upd_ne nPq, upd_same]
    · have hq2 : upd (upd (upd H t (.tup [.int rows.length, .int x.m])) q (.ins A.disk dx (putF "pages" (.int x.m) [("chip", V.ref c.p), ("many", .int S), ("blocks", .int rows.length)]))) P (.dK []) q = some (.ins A.disk dx (putF "pages" (.int x.m) [("chip", V.ref c.p), ("many", .int S), ("blocks", .int rows.length)])) := by rw [upd_ne nPq.symm, upd_same]
      exact ((hc1.keepQ hq1 ncq (by intro xs z; cases z)).ofSame (Same.new (by rw [upd_ne nPq]; exact hP1))).keepQ hq2 ncq (by intro xs z; cases z)
    · have b1 : ((x.bs.length : Int) - 2) * x.m ≤ 30 * 16 := Int.mul_le_mul (by omega) (by omega) (by omega) (by omega)
      have := ok.2
      show S ≤ 512
      omega
  · have f1 : Fr (fun y => y = q) H (upd H t (.tup [.int rows.length, .int x.m])) := .of_same s1
    have f2 := f1.trans (Fr.put (F := fun y => y = q) (o := .ins A.disk dx (putF "pages" (.int x.m) [("chip", V.ref c.p), ("many", .int S), ("blocks", .int rows.length)])) hq1 rfl (by intro xs z; cases z)) fun x h => .inl h
    have f3 := f2.trans (Fr.new (F := fun y => y = q) (o := .dK []) (by rw [upd_ne nPq]; exact hP1)) fun x h => .inl h
    have f4 := f3.trans (Fr.put (F := fun y => y = q) (p := q) (o := .ins A.disk dx (diskF c.p S x.bs.length x.m P 0 (0 : Nat) (0 : Nat))) (by rw [upd_ne nPq.symm, upd_same]) rfl (by intro xs z; cases z)) fun x h => .inl h
    exact f4
end

def pgD : Option (Option Rec) → PyData
  | none => .none
  | some none => .str "torn"
  | some (some r) => .tuple ([r.s, r.t, r.c].map PyData.int)
theorem pgD_ok (o : Option (Option Rec)) : OkD 1 (pgD o) := by
  match o with
  | none => exact OkD.non.mono (by decide)
  | some none => exact (OkD.str strOk_torn).mono (by decide)
  | some (some r) => exact OkD.tupI
theorem pgE_dp {K : PySem.W.Frag} {H : Hp} {o : Option (Option Rec)} {v : V} (h : PgE H o v) : Dp K H v (pgD o) := by
  match o, h with
  | none, h =>
    have h : v = .non := h
    subst h; exact .non
  | some none, h =>
    have h : v = .str "torn" := h
    subst h; exact .str _
  | some (some r), h =>
    obtain ⟨t, e, ht⟩ := h
    subst e
    exact .tup (SqT.of ht) (dpAll_ints [r.s, r.t, r.c])
theorem dpAll_of {K : PySem.W.Frag} {H : Hp} : ∀ {xs : List V} {ds : List PyData}, xs.length = ds.length → (∀ (i : Nat) v d, xs[i]? = some v → ds[i]? = some d → Dp K H v d) → DpAll K H xs ds
  | [], [], _, _ => .nil
  | [], d :: ds, h, _ => by cases h
  | v :: xs, [], h, _ => by cases h
  | v :: xs, d :: ds, h, f => .cons (f 0 v d rfl rfl) (dpAll_of (by simpa using h) fun i w e h1 h2 => f (i + 1) w e (by simpa using h1) (by simpa using h2))
def rowD (m : Nat) (k : Blk) : List PyData := (List.range m).map fun i => pgD k[i]?
theorem rowD_dp {K : PySem.W.Frag} {H : Hp} {m : Nat} {k : Blk} {xs : List V} (h : RowR H m k xs) : DpAll K H xs (rowD m k) := by
  refine dpAll_of (by rw [rowD, List.length_map, List.length_range, h.len]) fun i v d h1 h2 => ?_
  have hi : i < m := by rw [← h.len]; exact (List.getElem?_eq_some_iff.mp h1).1
  rw [rowD, List.getElem?_map, List.getElem?_range hi] at h2
  have e : pgD k[i]? = d := Option.some.inj h2
  subst e
  obtain ⟨w, hw, hp⟩ := h.get hi
  rw [h1] at hw
  have ew : v = w := Option.some.inj hw
  subst ew
  exact pgE_dp hp
theorem rowD_ok (m : Nat) (k : Blk) : ∀ d ∈ rowD m k, OkD 1 d := fun d hd => by
  obtain ⟨i, _, rfl⟩ := List.mem_map.mp hd
  exact pgD_ok _
theorem torn_eqv (o : Option (Option Rec)) : PyData.eqv (pgD o) (.str "torn") = decide (o = some none) := by
  match o with
  | none => rfl
  | some none =>
    have e : PyData.eqv (.str "torn") (.str "torn") = true := by decide +kernel
    exact e
  | some (some r) => rfl
theorem torn_in {m : Nat} {k : Blk} (h : k.length ≤ m) : ((rowD m k).any fun z => PyData.eqv z (.str "torn")) = decide (none ∈ k) := by
  rw [rowD, List.any_map, Bool.eq_iff_iff, List.any_eq_true, decide_eq_true_iff]
  constructor
  · rintro ⟨i, _, hi⟩
    have hi : PyData.eqv (pgD k[i]?) (.str "torn") = true := hi
    rw [torn_eqv, decide_eq_true_iff] at hi
    exact List.mem_of_getElem? hi
  · intro hm
    obtain ⟨i, hi⟩ := List.getElem?_of_mem hm
    refine ⟨i, List.mem_range.mpr ?_, ?_⟩
    · have := (List.getElem?_eq_some_iff.mp hi).1
      omega
    · show PyData.eqv (pgD k[i]?) (.str "torn") = true
      rw [torn_eqv, hi]; rfl
theorem tidyGo_cons {b : Nat} {r : List Nat} {x : DC} : tidyGo (b :: r) x = if none ∈ x.blk b then (if (x.erase b).2 = true then tidyGo r (x.erase b).1 else ((x.erase b).1, false)) else tidyGo r x := rfl
section
variable {K : PySem.W.Frag} {A : Ad} {vs : List V} {H : Hp} {Q : VK} {E : XK}
theorem pure_Disk_tidy (F : FacD K A) (h : sp_Disk_tidy K A vs H Q E) : t_Disk_tidy K A E { nx := fun _ H' => Q .non H', rt := Q } (start N_Disk_tidy vs) H := by
  obtain ⟨d, st, rfl, h, ok, k⟩ := h
  have hn : st.x.bs.length ≤ 32 := h.chip.len.2.1
  have hm : st.x.m ≤ 16 := h.chip.len.2.2.2.1
  refine ⟨_, rfl, d.q, _, d.qx, _, _, rfl, h.ob, F.cl_Disk, F.n_blocks, diskF_blocks, _, rfl, by omega, by omega, fun D hD => ?_⟩
  refine lc_filterR (lo := 0) (n := ((st.x.bs.length : Nat) : Int).toNat) (fun i => isEmpty (st.x.blk i)) (fun i => .int (0 + (i : Nat))) (sz32 (by omega)) hD (fun i H1 hi s R r => ?_) (fun i H1 hi _ s R r => ⟨_, rfl, r H1 (Same.refl H1)⟩) (fun _ => rfl) fun H1 s hD1 => ?_
  · have h1 := (ChgD.same h s).at_
    exact ⟨_, rfl, d.q, d.qx, _, rfl, h1.ob, no8, _, rfl, d, st, i, (by rw [Int.zero_add]; rfl), h1, (by show i < st.x.bs.length; omega), fun H2 s2 => ⟨_, rfl, r H2 s2⟩⟩
  have en : (List.range ((st.x.bs.length : Nat) : Int).toNat).filter (fun i => isEmpty (st.x.blk i)) = empties st.x := by
    rw [Int.toNat_natCast]; rfl
  rw [en] at hD1
  have el : (empties st.x).map (fun i => V.int (0 + (i : Nat))) = ((empties st.x).map fun i => (0 + (i : Nat) : Int)).map V.int := by rw [List.map_map]; rfl
  have g1 := ChgD.same h s
  have h1 := g1.at_
  have nD : ¬ dfp d D := h.fresh hD
  refine ⟨_, rfl, Nat.zero_le _, fun l hl => ?_⟩
  have s2 : Same H1 (upd H1 l (.lst [])) := Same.new hl
  have hD2 := s2 _ _ hD1
  refine ⟨.list (((empties st.x).map fun i => (0 + (i : Nat) : Int)).map PyData.int), .list (([] : List Int).map PyData.int), .lst (SqL.of hD2) (by rw [el]; exact dpAll_ints _), .lst (SqL.of upd_same) .nil, OkD.listI.sh, (OkD.listI (ns := [])).sh, _, rfl, ?_⟩
  rw [eqv_lists]
  have g2 := g1.trans (ChgD.same h1 s2)
  have h2 := g2.at_
  by_cases he : empties st.x = []
  · have e1 : decide ((empties st.x).map (fun i => (0 + (i : Nat) : Int)) = []) = true := by rw [he]; rfl
    rw [e1]
    obtain ⟨b, gb, hb⟩ := ok he
    obtain ⟨rows, hc, _⟩ := h2.chip.ex
    refine iteT ⟨_, rfl, d.q, _, d.qx, _, _, rfl, h2.ob, F.cl_Disk, F.n_chip, diskF_chip, d.chip.p, d.chip.dx, _, rfl, hc.ob, no5, _, rfl, d.q, d.qx, _, rfl, h2.ob, no8, d, st, rfl, h2, fun H3 s3 => ?_⟩
    have g3 := g2.trans (ChgD.same h2 s3)
    have h3 := g3.at_
    rw [gb]
    refine use_erase (K := K) (b := b) h3.chip hb fun c' H4 g4 => ?_
    have g5 := g3.trans (ChgD.chip h3 g4 (erase_len _ _) (erase_m _ _))
    obtain ⟨q1, q2⟩ := (ChgD.chip h3 g4 (erase_len _ _) (erase_m _ _)).stay (s3 _ _ hD2) nD
    have kk := k { d with chip := c' } H4
    have et : tidy st.x = st.x.erase b := by unfold tidy; rw [if_pos he, gb]; rfl
    unfold okE at kk
    rw [et] at kk
    cases q : (st.x.erase b).2 with
    | false =>
      rw [if_neg Bool.false_ne_true]
      rw [q, if_neg Bool.false_ne_true] at kk
      exact kk g5
    | true =>
      rw [if_pos rfl]
      rw [q, if_pos rfl] at kk
      rw [he] at q1
      refine ⟨_, rfl, D, rfl, ⟨_, SqL.of q1⟩, for_list (K := K) (a := D) (xs := []) (fun i σ H' => H' = H4) rfl (fun i σ H' _ z => by rw [z]; exact SqL.of q1) (fun i x σ H' hi _ => nomatch hi) fun σ H' z => by rw [z]; exact kk g5⟩
  · have e1 : decide ((empties st.x).map (fun i => (0 + (i : Nat) : Int)) = []) = false := decide_eq_false fun z => he (List.map_eq_nil_iff.mp z)
    rw [e1]
    refine iteF ?_
    have et : tidy st.x = tidyGo (empties st.x) st.x := by unfold tidy; rw [if_neg he]
    rw [et] at k
    refine ⟨_, rfl, D, rfl, ⟨_, SqL.of hD2⟩, for_list (K := K) (a := D) (xs := (empties st.x).map fun i => .int (0 + (i : Nat))) (fun i σ H' => ∃ v2 d' x', σ = [some (.ref d.q), some (.ref D), v2] ∧ ChgD A H d H' d' { st with x := x' } ∧ x'.bs.length = st.x.bs.length ∧ x'.m = st.x.m ∧ H' D = some (.lst ((empties st.x).map fun i => .int (0 + (i : Nat)))) ∧ ¬ dfp d' D ∧ tidyGo ((empties st.x).drop i) x' = tidyGo (empties st.x) st.x)
      ⟨none, d, st.x, rfl, g2, rfl, rfl, hD2, nD, rfl⟩ (fun i σ H' _ ⟨_, _, _, _, _, _, _, q, _⟩ => SqL.of q) ?_ ?_⟩
    · rintro i y σ H3 hi ⟨v2, d', x', rfl, g, en, em, hD3, nD3, co⟩
      rw [List.getElem?_map] at hi
      cases q : (empties st.x)[i]? with
      | none => rw [q] at hi; cases hi
      | some b =>
        rw [q] at hi
        have ey : V.int (0 + (b : Nat)) = y := Option.some.inj hi
        subst ey
        rw [drop_at q, tidyGo_cons] at co
        have hb : b < x'.bs.length := by
          rw [en]
          have := List.mem_of_getElem? q
          exact List.mem_range.mp (List.mem_filter.mp this).1
        have h3 := g.at_
        have f3 : H3 d.q = some (.ins A.disk d'.qx (diskF d'.chip.p st.S x'.bs.length x'.m d'.P st.stamp st.head st.at_)) := by rw [← g.q]; exact h3.ob
        refine ⟨_, rfl, d.q, d'.qx, _, rfl, f3, no8, _, rfl, d', { st with x := x' }, b, (by rw [Int.zero_add, ← g.q]; rfl), h3, hb, fun H4 l2 xs s4 hl2 hl4 R => ?_⟩
        have R : RowR H4 x'.m (x'.blk b) xs := R
        refine ⟨.str "torn", rowD x'.m (x'.blk b), .str _, .lst (SqL.of hl4) (rowD_dp R), (OkD.str strOk_torn).sh, (OkD.list (rowD_ok _ _)).sh, _, rfl, ?_⟩
        rw [torn_in R.le]
        have g4 := g.trans (ChgD.same h3 s4)
        have h4 := g4.at_
        by_cases ht : none ∈ x'.blk b
        · rw [decide_eq_true ht]
          rw [if_pos ht] at co
          obtain ⟨rows, hc, _⟩ := h4.chip.ex
          have f4 : H4 d.q = some (.ins A.disk d'.qx (diskF d'.chip.p st.S x'.bs.length x'.m d'.P st.stamp st.head st.at_)) := by rw [← g.q]; exact h4.ob
          refine iteT ⟨_, rfl, d.q, _, d'.qx, _, _, rfl, f4, F.cl_Disk, F.n_chip, diskF_chip, d'.chip.p, d'.chip.dx, _, rfl, hc.ob, no5, _, rfl, ?_⟩
          show sp_Chip_erase K A [.ref d'.chip.p, .int (0 + (b : Nat))] H4 _ E
          rw [Int.zero_add]
          refine use_erase (K := K) (b := b) h4.chip hb fun c' H5 g5 => ?_
          have g6 := g4.trans (ChgD.chip h4 g5 (erase_len _ _) (erase_m _ _))
          obtain ⟨q1, q2⟩ := (ChgD.chip h4 g5 (erase_len _ _) (erase_m _ _)).stay (s4 _ _ hD3) nD3
          cases eo : (x'.erase b).2 with
          | true =>
            rw [if_pos eo] at co
            rw [if_pos rfl]
            exact ⟨_, { d' with chip := c' }, _, rfl, g6, (erase_len _ _).trans en, (erase_m _ _).trans em, q1, q2, co⟩
          | false =>
            rw [if_neg (by rw [eo]; exact Bool.false_ne_true)] at co
            rw [if_neg Bool.false_ne_true]
            have kk := k { d' with chip := c' } H5
            unfold okE at kk
            rw [← co, if_neg Bool.false_ne_true] at kk
            exact kk g6
        · rw [decide_eq_false ht]
          rw [if_neg ht] at co
          exact iteF ⟨_, d', x', rfl, g4, en, em, s4 _ _ hD3, nD3, co⟩
    · rintro σ H3 ⟨v2, d', x', rfl, g, en, em, hD3, nD3, co⟩
      rw [List.length_map, List.drop_length] at co
      have co : (x', true) = tidyGo (empties st.x) st.x := co
      have kk := k d' H3
      unfold okE at kk
      rw [← co, if_pos rfl] at kk
      exact kk g
end

theorem seeRow_snoc (b : Nat) (pg : Option Rec) : ∀ (k : Blk) (p : Nat) (a : (Int → Option Pl) × Int), seeRow b (k ++ [pg]) p a = match pg with
    | none => seeRow b k p a
    | some x => seePage b (p + k.length) x (seeRow b k p a)
  | [], p, a => by cases pg <;> rfl
  | none :: r, p, a => by
    show seeRow b (r ++ [pg]) (p + 1) a = _
    rw [seeRow_snoc b pg r (p + 1) a]
    cases pg with
    | none => rfl
    | some x =>
      show seePage b (p + 1 + r.length) x _ = seePage b (p + (r.length + 1)) x _
      rw [Nat.add_assoc, Nat.add_comm 1]; rfl
  | some y :: r, p, a => by
    show seeRow b (r ++ [pg]) (p + 1) _ = _
    rw [seeRow_snoc b pg r (p + 1) _]
    cases pg with
    | none => rfl
    | some x =>
      show seePage b (p + 1 + r.length) x _ = seePage b (p + (r.length + 1)) x _
      rw [Nat.add_assoc, Nat.add_comm 1]; rfl
theorem seeAll_snoc (k : Blk) : ∀ (l : List Blk) (b : Nat) (a : (Int → Option Pl) × Int), seeAll (l ++ [k]) b a = seeRow (b + l.length) k 0 (seeAll l b a)
  | [], b, a => rfl
  | y :: r, b, a => by
    show seeAll (r ++ [k]) (b + 1) _ = seeRow (b + (r.length + 1)) k 0 (seeAll r (b + 1) _)
    rw [seeAll_snoc k r (b + 1) _, Nat.add_assoc, Nat.add_comm 1]
abbrev DS.part (x : DC) (S : Int) (a : (Int → Option Pl) × Int) : DS := ⟨x, S, a.1, a.2, 0, 0⟩
section
variable {K : PySem.W.Frag} {A : Ad} {vs : List V} {H : Hp} {Q : VK} {E : XK}
theorem load_rows (F : FacD K A) {d d' : DD} {x : DC} {S : Int} {D : Ends} {σ : L2.St} (h : DiskAt A H d (DS.init x S)) (hq : d.q = d'.q) (fit : Fit S x.bs) {v1 v2 v3 v4 v5 v6 v7 : Option V} (hσ : σ = [some (.ref d'.q), v1, v2, v3, v4, v5, v6, v7])
    (k : ∀ d2 H' v1 v2 v3 v4 v5 v6 v7, ChgD A H d H' d2 (DS.part x S (seeAll x.bs 0 (fun _ => none, 0))) → D.nx [some (.ref d'.q), v1, v2, v3, v4, v5, v6, v7] H') :
    (tFor (iRng1 (tCons (tFld K (tVar 0) "blocks") tNil)) (gName 1)
  (tFor (iEnum K (tCons (tMeth A.disk "row" (sp_Disk_row K A) [] E0 (tVar 0) (tCons (tVar 1) tNil)) tNil)) (gTup K 2 (gCons (gName 2) (gCons (gName 3) gNil)))
  (tIfS (tB (tCall (sp_is_whole K A) [] E0 (tCons (tVar 3) tNil)))
  (tSeq (tAsg (tVar 3) (gTup K 3 (gCons (gName 4) (gCons (gName 5) (gCons (gName 6) gNil)))))
  (tSeq (sFld K (tVar 0) (tCB zMax2 (tCons (tFld K (tVar 0) "stamp") (tCons (tOp zAdd (tVar 5) (tC (.int 1))) tNil))) "stamp")
  (tIfS (tOr (tB (tDNotIn (tVar 4) (tFld K (tVar 0) "places"))) (tTest (tOp zLt (tOp (rIxT K) (tDGet (tFld K (tVar 0) "places") (tVar 4)) (tC (.int 2))) (tVar 5))))
  (sDPut (tFld K (tVar 0) "places") (tVar 4) (tTup (tCons (tVar 1) (tCons (tVar 2) (tCons (tVar 5) (tCons (tVar 6) tNil))))))
  tNext)))
  tNext))) D σ H := by
  subst hσ
  have hn : x.bs.length ≤ 32 := h.chip.len.2.1
  have hm : x.m ≤ 16 := h.chip.len.2.2.2.1
  have f0 : H d'.q = some (.ins A.disk d.qx (diskF d.chip.p S x.bs.length x.m d.P 0 (0 : Nat) (0 : Nat))) := by rw [← hq]; exact h.ob
  refine ⟨_, rfl, d'.q, _, d.qx, _, _, rfl, f0, F.cl_Disk, F.n_blocks, diskF_blocks, _, rfl, by omega, by omega, ?_⟩
  refine for_range (lo := 0) (n := ((x.bs.length : Nat) : Int).toNat) (fun i σ H' => ∃ d2 v1 v2 v3 v4 v5 v6 v7, σ = [some (.ref d'.q), v1, v2, v3, v4, v5, v6, v7] ∧ ChgD A H d H' d2 (DS.part x S (seeAll (x.bs.take i) 0 (fun _ => none, 0))))
    ⟨d, v1, v2, v3, v4, v5, v6, v7, rfl, ChgD.same h (Same.refl H)⟩ ?_ ?_
  · rintro i σ H1 hi ⟨d2, v1, v2, v3, v4, v5, v6, v7, rfl, g⟩
    have hi : i < x.bs.length := by omega
    rw [Int.zero_add]
    have h1 := g.at_
    have q1 : d2.q = d'.q := g.q.trans hq
    have f1 : H1 d'.q = some (.ins A.disk d2.qx (diskF d2.chip.p S x.bs.length x.m d2.P (seeAll (x.bs.take i) 0 (fun _ => none, 0)).2 (0 : Nat) (0 : Nat))) := by rw [← q1]; exact h1.ob
    refine ⟨_, rfl, d'.q, d2.qx, _, rfl, f1, no8, _, rfl, d2, _, i, (by rw [← q1]; rfl), h1, hi, fun H2 l xs s2 hl hl2 R => ?_⟩
    have R : RowR H2 x.m (x.blk i) xs := R
    have g2 := g.trans (ChgD.same h1 s2)
    have nl : ¬ dfp d2 l := h1.fresh hl
    refine ⟨l, xs, rfl, SqL.of hl2, for_enum (K := K) (a := l) (xs := xs) (fun j σ H' => ∃ d3 v2 v3 v4 v5 v6, σ = [some (.ref d'.q), some (.int (i : Nat)), v2, v3, v4, v5, v6, v7] ∧ ChgD A H2 d2 H' d3 (DS.part x S (seeRow i ((x.blk i).take j) 0 (seeAll (x.bs.take i) 0 (fun _ => none, 0)))) ∧ H' l = some (.lst xs) ∧ ¬ dfp d3 l)
      ⟨d2, v2, v3, v4, v5, v6, rfl, ChgD.same g2.at_ (Same.refl H2), hl2, nl⟩ (fun j σ H' _ ⟨_, _, _, _, _, _, _, _, z, _⟩ => SqL.of z) ?_ ?_⟩
    · rintro j v T σ H3 hj ⟨d3, v2, v3, v4, v5, v6, rfl, g3, hl3, nl3⟩ hT
      have hjm : j < x.m := by rw [← R.len]; exact (List.getElem?_eq_some_iff.mp hj).1
      obtain ⟨w, hw, hp⟩ := R.get hjm
      have ew : v = w := Option.some.inj (hj.symm.trans hw)
      subst ew
      have s4 : Same H3 (upd H3 T (.tup [.int (j : Nat), v])) := Same.new hT
      have g4 := g3.trans (ChgD.same g3.at_ s4)
      have hl4 := s4 _ _ hl3
      have h4 := g4.at_
      have q4 : d3.q = d'.q := g3.q.trans q1
      refine ⟨T, _, rfl, SqT.of upd_same, rfl, _, _, rfl, _, _, rfl, rfl, ?_⟩
      have hp4 : PgE (upd H3 T (.tup [.int (j : Nat), v])) (x.blk i)[j]? v := by
        cases q : (x.blk i)[j]? with
        | none => rw [q] at hp; exact hp
        | some pg => rw [q] at hp; exact PgR.mono g4.fr.tup hp
      refine ⟨_, rfl, _, v, rfl, hp4, _, rfl, ?_⟩
      cases q : (x.blk i)[j]? with
      | none =>
        refine iteF ⟨d3, _, _, _, _, _, rfl, ?_, hl4, nl3⟩
        rw [take_over q]; exact g4
      | some pg =>
        have ht := take_snoc q
        have hjl : ((x.blk i).take j).length = j := by
          have := (List.getElem?_eq_some_iff.mp q).1
          rw [List.length_take]; omega
        cases pg with
        | none =>
          refine iteF ⟨d3, _, _, _, _, _, rfl, ?_, hl4, nl3⟩
          rw [ht, seeRow_snoc]; exact g4
        | some r =>
          rw [q] at hp4
          obtain ⟨t, e, ht4⟩ := hp4
          subst e
          obtain ⟨r0, r1, r2⟩ := fit _ (List.mem_of_getElem? (blk_of hi)) r (List.mem_of_getElem? q)
          refine iteT ⟨_, rfl, t, _, rfl, SqT.of ht4, rfl, _, _, rfl, _, _, rfl, _, _, rfl, rfl, ?_⟩
          have f4 : (upd H3 T (.tup [.int (j : Nat), .ref t])) d'.q = some (.ins A.disk d3.qx (diskF d3.chip.p S x.bs.length x.m d3.P (seeRow i ((x.blk i).take j) 0 (seeAll (x.bs.take i) 0 (fun _ => none, 0))).2 (0 : Nat) (0 : Nat))) := by rw [← q4]; exact h4.ob
          refine ⟨_, rfl, d'.q, _, d3.qx, _, _, rfl, f4, F.cl_Disk, F.n_stamp, diskF_stamp, _, rfl, _, _, rfl, rfl, _, _, rfl, _, rfl, d'.q, _, d3.qx, _, rfl, f4, F.cl_Disk, F.n_stamp, diskF_len, ?_⟩
          rw [diskF_pstamp]
          generalize ha : seeRow i ((x.blk i).take j) 0 (seeAll (x.bs.take i) 0 (fun _ => none, 0)) = a at *
          have g5 := g4.trans (ChgD.setQ h4 (if r.t + 1 > a.2 then r.t + 1 else a.2) 0 0)
          rw [q4] at g5
          have g5 : ChgD A H2 d2 (upd (upd H3 T (.tup [.int (j : Nat), .ref t])) d'.q (.ins A.disk d3.qx (diskF d3.chip.p S x.bs.length x.m d3.P (if r.t + 1 > a.2 then r.t + 1 else a.2) (0 : Nat) (0 : Nat)))) d3 (DS.part x S (a.1, if r.t + 1 > a.2 then r.t + 1 else a.2)) := g5
          have h5 := g5.at_
          have f5 : (upd (upd H3 T (.tup [.int (j : Nat), .ref t])) d'.q (.ins A.disk d3.qx (diskF d3.chip.p S x.bs.length x.m d3.P (if r.t + 1 > a.2 then r.t + 1 else a.2) (0 : Nat) (0 : Nat)))) d'.q = some (.ins A.disk d3.qx (diskF d3.chip.p S x.bs.length x.m d3.P (if r.t + 1 > a.2 then r.t + 1 else a.2) (0 : Nat) (0 : Nat))) := upd_same
          have nlq : l ≠ d'.q := fun z => nl3 (by rw [z, ← q4]; exact .inl rfl)
          have hl5 : (upd (upd H3 T (.tup [.int (j : Nat), .ref t])) d'.q (.ins A.disk d3.qx (diskF d3.chip.p S x.bs.length x.m d3.P (if r.t + 1 > a.2 then r.t + 1 else a.2) (0 : Nat) (0 : Nat)))) l = some (.lst xs) := by rw [upd_ne nlq]; exact hl4
          obtain ⟨kvs, hP, RP⟩ := h5.pls
          have fin : ∀ H6, ChgD A H2 d2 H6 d3 (DS.part x S (seePage i j r a)) → H6 l = some (.lst xs) → ∃ d3 v2 v3 v4 v5 v6, [some (V.ref d'.q), some (.int (i : Nat)), some (.int (j : Nat)), some (.ref t), some (.int r.s), some (.int r.t), some (.int r.c), v7] = [some (.ref d'.q), some (.int (i : Nat)), v2, v3, v4, v5, v6, v7] ∧ ChgD A H2 d2 H6 d3 (DS.part x S (seeRow i ((x.blk i).take (j + 1)) 0 (seeAll (x.bs.take i) 0 (fun _ => none, 0)))) ∧ H6 l = some (.lst xs) ∧ ¬ dfp d3 l := fun H6 g6 hl6 => by
            refine ⟨d3, _, _, _, _, _, rfl, ?_, hl6, nl3⟩
            rw [ht, seeRow_snoc]
            show ChgD A H2 d2 H6 d3 (DS.part x S (seePage i (0 + ((x.blk i).take j).length) r (seeRow i ((x.blk i).take j) 0 (seeAll (x.bs.take i) 0 (fun _ => none, 0)))))
            rw [hjl, Nat.zero_add, ha]
            exact g6
          have store : ∀ (e : seePage i j r a = (updP a.1 r.s ⟨i, j, r.t, r.c⟩, if r.t + 1 > a.2 then r.t + 1 else a.2)) (u : Addr) (hu : (upd (upd H3 T (.tup [.int (j : Nat), .ref t])) d'.q (.ins A.disk d3.qx (diskF d3.chip.p S x.bs.length x.m d3.P (if r.t + 1 > a.2 then r.t + 1 else a.2) (0 : Nat) (0 : Nat)))) u = none),
              ChgD A H2 d2 (upd (upd (upd (upd H3 T (.tup [.int (j : Nat), .ref t])) d'.q (.ins A.disk d3.qx (diskF d3.chip.p S x.bs.length x.m d3.P (if r.t + 1 > a.2 then r.t + 1 else a.2) (0 : Nat) (0 : Nat)))) u (.tup (plV ⟨i, j, r.t, r.c⟩))) d3.P (.dK (putK kvs (Sum.inl r.s) (.ref u)))) d3 (DS.part x S (seePage i j r a)) ∧
              (upd (upd (upd (upd H3 T (.tup [.int (j : Nat), .ref t])) d'.q (.ins A.disk d3.qx (diskF d3.chip.p S x.bs.length x.m d3.P (if r.t + 1 > a.2 then r.t + 1 else a.2) (0 : Nat) (0 : Nat)))) u (.tup (plV ⟨i, j, r.t, r.c⟩))) d3.P (.dK (putK kvs (Sum.inl r.s) (.ref u)))) l = some (.lst xs) := fun e u hu => by
            have s6 := Same.new (o := .tup (plV ⟨i, j, r.t, r.c⟩)) hu
            have g6 := g5.trans (ChgD.same h5 s6)
            have h6 := g6.at_
            have RP6 := (RP.mono (fun b ys e => s6 _ _ e)).put (s := r.s) (e := ⟨i, j, r.t, r.c⟩) (t := u) r0 r1 upd_same
            have g7 := g6.trans (ChgD.setP h6 (s6 _ _ hP) RP6)
            rw [e]
            refine ⟨g7, ?_⟩
            rw [upd_ne (fun z => nl3 (by rw [z]; exact .inr (.inl rfl)))]
            exact s6 _ _ hl5
          refine ⟨_, rfl, _, rfl, d'.q, _, d3.qx, _, _, rfl, f5, F.cl_Disk, F.n_places, diskF_places, d3.P, _, rfl, DGet.k (k := Sum.inl r.s) hP, _, rfl, ?_⟩
          cases he : a.1 r.s with
          | none =>
            rw [RP.no r.s he]
            have ep : seePage i j r a = (updP a.1 r.s ⟨i, j, r.t, r.c⟩, if r.t + 1 > a.2 then r.t + 1 else a.2) := by unfold seePage; rw [he]
            refine iteT (iteT ⟨_, rfl, _, rfl, _, rfl, _, rfl, (by show 4 ≤ sizeLine; decide), fun u hu => ?_⟩)
            have f6 := (Same.new (o := .tup (plV ⟨i, j, r.t, r.c⟩)) hu) _ _ f5
            have hP6 := (Same.new (o := .tup (plV ⟨i, j, r.t, r.c⟩)) hu) _ _ hP
            refine ⟨_, rfl, d'.q, _, d3.qx, _, _, rfl, f6, F.cl_Disk, F.n_places, diskF_places, _, rfl, d3.P, _, rfl, DPut.k (k := Sum.inl r.s) hP6 (RP.small h5.hS), ?_⟩
            obtain ⟨z1, z2⟩ := store ep u hu
            exact fin _ z1 z2
          | some e =>
            obtain ⟨u0, hv, hu0⟩ := RP.yes r.s e he
            rw [hv]
            refine iteF ⟨_, rfl, d'.q, _, d3.qx, _, _, rfl, f5, F.cl_Disk, F.n_places, diskF_places, _, rfl, d3.P, .ref u0, rfl, by rw [← hv]; exact DGet.k (k := Sum.inl r.s) hP, _, _, _, _, rfl, rfl, SqT.of hu0, at_of (j := 2) rfl rfl, _, rfl, _, _, rfl, rfl, _, rfl, ?_⟩
            by_cases c : e.t < r.t
            · rw [decide_eq_true c]
              have ep : seePage i j r a = (updP a.1 r.s ⟨i, j, r.t, r.c⟩, if r.t + 1 > a.2 then r.t + 1 else a.2) := by
                unfold seePage
                rw [he]
                show (if e.t < r.t then _ else _, _) = _
                rw [if_pos c]
              refine iteT ⟨_, rfl, _, rfl, _, rfl, _, rfl, (by show 4 ≤ sizeLine; decide), fun u hu => ?_⟩
              have f6 := (Same.new (o := .tup (plV ⟨i, j, r.t, r.c⟩)) hu) _ _ f5
              have hP6 := (Same.new (o := .tup (plV ⟨i, j, r.t, r.c⟩)) hu) _ _ hP
              refine ⟨_, rfl, d'.q, _, d3.qx, _, _, rfl, f6, F.cl_Disk, F.n_places, diskF_places, _, rfl, d3.P, _, rfl, DPut.k (k := Sum.inl r.s) hP6 (RP.small h5.hS), ?_⟩
              obtain ⟨z1, z2⟩ := store ep u hu
              exact fin _ z1 z2
            · rw [decide_eq_false c]
              have ep : seePage i j r a = (a.1, if r.t + 1 > a.2 then r.t + 1 else a.2) := by
                unfold seePage
                rw [he]
                show (if e.t < r.t then _ else _, _) = _
                rw [if_neg c]
              refine iteF (fin _ ?_ hl5)
              rw [ep]; exact g5
    · rintro σ H3 ⟨d3, v2, v3, v4, v5, v6, rfl, g3, hl3, nl3⟩
      refine ⟨d3, _, _, _, _, _, _, _, rfl, ?_⟩
      have e1 : (x.blk i).take xs.length = x.blk i := List.take_of_length_le (by rw [R.len]; exact R.le)
      have e2 : x.bs.take (i + 1) = x.bs.take i ++ [x.blk i] := take_snoc (blk_of hi)
      have e3 : (x.bs.take i).length = i := by rw [List.length_take]; omega
      rw [e1] at g3
      rw [e2, seeAll_snoc, e3, Nat.zero_add]
      exact g2.trans g3
  · rintro σ H1 ⟨d2, v1, v2, v3, v4, v5, v6, v7, rfl, g⟩
    rw [Int.toNat_natCast, List.take_length] at g
    exact k d2 H1 _ _ _ _ _ _ _ g
end

theorem tidyGo_len : ∀ (l : List Nat) (x : DC), (tidyGo l x).1.bs.length = x.bs.length ∧ (tidyGo l x).1.m = x.m
  | [], x => ⟨rfl, rfl⟩
  | b :: r, x => by
    rw [tidyGo_cons]
    split
    · split
      · have := tidyGo_len r (x.erase b).1
        rw [erase_len, erase_m] at this
        exact this
      · exact ⟨erase_len _ _, erase_m _ _⟩
    · exact tidyGo_len r x
theorem tidy_len (x : DC) : (tidy x).1.bs.length = x.bs.length ∧ (tidy x).1.m = x.m := by
  unfold tidy
  split
  · exact ⟨erase_len _ _, erase_m _ _⟩
  · exact tidyGo_len _ _
section
variable {K : PySem.W.Frag} {A : Ad} {vs : List V} {H : Hp} {Q : VK} {E : XK}
theorem pure_Disk_load (F : FacD K A) (h : sp_Disk_load K A vs H Q E) : t_Disk_load K A E { nx := fun _ H' => Q .non H', rt := Q } (start N_Disk_load vs) H := by
  obtain ⟨d, x, S, rfl, h, ok, ft, k⟩ := h
  refine ⟨_, rfl, d.q, d.qx, _, rfl, h.ob, no8, d, DS.init x S, rfl, h, ok, fun d1 H1 g1 => ?_⟩
  unfold okE
  show if (tidy x).2 = true then _ else _
  cases ht : (tidy x).2 with
  | false =>
    rw [if_neg Bool.false_ne_true]
    have kk := k d1 H1
    unfold mount okE at kk
    rw [if_neg (by rw [ht]; exact Bool.false_ne_true), if_neg Bool.false_ne_true] at kk
    exact kk g1
  | true =>
    rw [if_pos rfl]
    obtain ⟨fit, hg⟩ := ft ht
    unfold mount okE at k
    rw [if_pos ht] at k
    have k : ∀ d' H', ChgD A H d H' d' (DS.found (tidy x).1 S) → Q .non H' := fun d' H' z => by
      have := k d' H' z
      rw [if_pos rfl] at this; exact this
    have g1 : ChgD A H d H1 d1 (DS.init (tidy x).1 S) := g1
    refine load_rows (S := S) (x := (tidy x).1) (d := d1) (d' := d) F g1.at_ g1.q fit (v1 := none) (v2 := none) (v3 := none) (v4 := none) (v5 := none) (v6 := none) (v7 := none) rfl fun d2 H2 v1 v2 v3 v4 v5 v6 v7 g2 => ?_
    have g3 := g1.trans g2
    have h3 := g3.at_
    have q3 : d2.q = d.q := g3.q
    have hm : (tidy x).1.m ≤ 16 := h3.chip.len.2.2.2.1
    generalize hx : (tidy x).1 = x1 at *
    have f3 : H2 d.q = some (.ins A.disk d2.qx (diskF d2.chip.p S x1.bs.length x1.m d2.P (seeAll x1.bs 0 (fun _ => none, 0)).2 (0 : Nat) (0 : Nat))) := by rw [← q3]; exact h3.ob
    refine ⟨_, rfl, d.q, d2.qx, _, rfl, f3, no8, d2, _, (by rw [q3]; rfl), h3, fun H4 s4 => ?_⟩
    have g4 := g3.trans (ChgD.same h3 s4)
    have h4 := g4.at_
    have f4 := s4 _ _ f3
    cases hb : greatest x1.bs with
    | none =>
      refine ⟨_, rfl, rfl, _, rfl, ?_⟩
      rw [show (!decide (natV none = V.non)) = false from rfl]
      refine iteF (k d2 H4 ?_)
      have e : DS.found x1 S = DS.part x1 S (seeAll x1.bs 0 (fun _ => none, 0)) := by unfold DS.found; rw [hb]; rfl
      rw [e]; exact g4
    | some b =>
      have hbn : b < x1.bs.length := by
        have := hg b hb
        have e := (tidy_len x).1
        rw [hx] at e
        rw [e]; exact this
      refine ⟨_, rfl, rfl, _, rfl, ?_⟩
      rw [show (!decide (natV (some b) = V.non)) = true from rfl, show natV (some b) = V.int (b : Nat) from rfl]
      refine iteT ⟨_, rfl, _, rfl, d.q, _, d2.qx, _, rfl, f4, F.cl_Disk, F.n_head, diskF_len, ?_⟩
      rw [diskF_phead]
      have g5 : ChgD A H d (upd H4 d.q (.ins A.disk d2.qx (diskF d2.chip.p S x1.bs.length x1.m d2.P (seeAll x1.bs 0 (fun _ => none, 0)).2 (b : Nat) (0 : Nat)))) d2 ⟨x1, S, (seeAll x1.bs 0 (fun _ => none, 0)).1, (seeAll x1.bs 0 (fun _ => none, 0)).2, b, 0⟩ := by
        have := g4.trans (ChgD.setQ h4 (seeAll x1.bs 0 (fun _ => none, 0)).2 b 0)
        rw [q3] at this
        exact this
      have h5 := g5.at_
      have f5 : (upd H4 d.q (.ins A.disk d2.qx (diskF d2.chip.p S x1.bs.length x1.m d2.P (seeAll x1.bs 0 (fun _ => none, 0)).2 (b : Nat) (0 : Nat)))) d.q = some (.ins A.disk d2.qx (diskF d2.chip.p S x1.bs.length x1.m d2.P (seeAll x1.bs 0 (fun _ => none, 0)).2 (b : Nat) (0 : Nat))) := upd_same
      refine ⟨_, rfl, d.q, d2.qx, _, rfl, f5, no8, _, rfl, d2, _, b, (by rw [q3]; rfl), h5, hbn, fun H6 l xs s6 hl hl6 R => ?_⟩
      have R : RowR H6 x1.m (x1.blk b) xs := R
      refine ⟨l, rfl, ⟨_, SqL.of hl6⟩, fun D hD => ?_⟩
      refine lc_list (K := K) (a := l) (xs := xs) (fun i H' => Same H6 H' ∧ H' D = some (.lst (List.replicate (min i (x1.blk b).length) (.int 1)))) ⟨Same.new hD, by rw [Nat.zero_min]; exact upd_same⟩ (fun i H' _ p => p.1.seq (SqL.of hl6)) (fun i y H' hi p => ?_) fun H7 p => ?_
      · obtain ⟨s7, hD7⟩ := p
        have him : i < x1.m := by rw [← R.len]; exact (List.getElem?_eq_some_iff.mp hi).1
        obtain ⟨w, hw, hp⟩ := R.get him
        have ew : y = w := Option.some.inj (hi.symm.trans hw)
        subst ew
        refine ⟨rfl, _, rfl, rfl, _, rfl, ?_⟩
        cases q : (x1.blk b)[i]? with
        | none =>
          rw [q] at hp
          have hp : y = .non := hp
          subst hp
          have := List.getElem?_eq_none_iff.mp q
          refine iteF ⟨s7, ?_⟩
          rw [Nat.min_eq_right (by omega)]
          rw [Nat.min_eq_right (by omega)] at hD7
          exact hD7
        | some pg =>
          rw [q] at hp
          have ey : (!decide (y = V.non)) = true := by
            cases pg with
            | none => rw [show y = V.str "torn" from hp]; rfl
            | some r =>
              obtain ⟨t, e, _⟩ := hp
              rw [e]; rfl
          rw [ey]
          have := (List.getElem?_eq_some_iff.mp q).1
          rw [Nat.min_eq_left (by omega)] at hD7
          refine iteT ⟨_, hD7, ?_, fun c o e => ?_, ?_⟩
          · rw [List.length_replicate]
            exact Nat.lt_of_lt_of_le him (sz16 hm)
          · rw [upd_ne (ne_of_none e hD)]
            exact s7 _ _ e
          · rw [Nat.min_eq_left (by omega), upd_same, List.replicate_succ']
      · obtain ⟨s7, hD7⟩ := p
        rw [R.len, Nat.min_eq_right R.le] at hD7
        have s67 := s6.trans s7
        have g7 := g5.trans (ChgD.same h5 s67)
        have h7 := g7.at_
        have f7 := s67 _ _ f5
        refine ⟨_, _, rfl, .inl (SqL.of hD7), _, rfl, d.q, _, d2.qx, _, rfl, f7, F.cl_Disk, F.n_at, diskF_len, ?_⟩
        rw [diskF_pat, List.length_replicate]
        refine k d2 _ ?_
        have g8 := g7.trans (ChgD.setQ h7 (seeAll x1.bs 0 (fun _ => none, 0)).2 b (x1.blk b).length)
        rw [q3] at g8
        have e : DS.found x1 S = ⟨x1, S, (seeAll x1.bs 0 (fun _ => none, 0)).1, (seeAll x1.bs 0 (fun _ => none, 0)).2, b, (x1.blk b).length⟩ := by unfold DS.found; rw [hb]; rfl
        rw [e]; exact g8
theorem pure_mounted (F : FacD K A) (h : sp_mounted K A vs H Q E) : t_mounted K A E { nx := fun _ H' => Q .non H', rt := Q } (start N_mounted vs) H := by
  obtain ⟨c, x, S, rfl, h, k1, k2⟩ := h
  refine ⟨_, rfl, _, rfl, ?_⟩
  intro q dx nq ndx ndq
  have s0 : Same H (upd (upd H dx (.own q)) q (.ins A.disk dx [])) := (Same.new ndx).trans (Same.new (by rw [upd_ne ndq.symm]; exact nq))
  refine ⟨q, dx, c, x, S, rfl, upd_same, h.ofSame s0, fun hm H1 s1 => k1 hm H1 (s0.trans s1), fun hm d H1 hd hq hc nP f1 => ⟨rfl, ?_⟩⟩
  obtain ⟨ok, ft, k⟩ := k2 hm
  subst hq
  refine ⟨_, rfl, d.q, d.qx, _, rfl, hd.ob, no8, d, x, S, rfl, hd, ok, ft, fun d' H2 g => ?_⟩
  have s1 : Same H H1 := fun y o e => f1.keep y o (s0 _ _ e) fun z => by rw [z, nq] at e; cases e
  have M : Mounted A H c H2 d' (mount x S).1 := by
    refine ⟨g.at_, ?_, fun y hy => ?_, ⟨?_, ?_⟩, ?_⟩
    · rw [g.p, hc]
    · rcases g.csub y hy with z | z
      · left; rw [← hc]; exact z
      · right; exact s1.free z
    · rw [g.q]; exact nq
    · rw [g.pp]; exact s0.free nP
    · refine (Fr.of_same s1).trans g.fr fun y hy => ?_
      rcases hy with z | z | z
      · rw [z]; exact .inr nq
      · rw [z]; exact .inr (s0.free nP)
      · left; rw [← hc]; exact z
  have kk := k d' H2 M
  unfold okE at kk ⊢
  cases e : (mount x S).2 with
  | true =>
    rw [e, if_pos rfl] at kk
    rw [if_pos rfl]
    rw [g.q] at kk
    exact ⟨_, rfl, kk⟩
  | false =>
    rw [e, if_neg Bool.false_ne_true] at kk
    rw [if_neg Bool.false_ne_true]
    exact kk
end

def rot {α : Type} (l : List α) (i : Nat) : List α := l.drop i ++ l.take i
def mid {α : Type} (l : List α) (i : Nat) : List α := l.drop (i + 1) ++ l.take i
section
variable {α : Type} {l : List α} {i j : Nat} {x : α}
theorem mem_rot : x ∈ rot l i ↔ x ∈ l := by
  unfold rot
  rw [List.mem_append]
  constructor
  · rintro (h | h)
    · exact List.mem_of_mem_drop h
    · exact List.mem_of_mem_take h
  · intro h
    rw [← List.take_append_drop i l] at h
    rcases List.mem_append.mp h with h | h
    · exact .inr h
    · exact .inl h
theorem rot_first (h : i < l.length) : rot l i = l[i] :: mid l i := by
  unfold rot mid
  rw [List.drop_eq_getElem_cons h]; rfl
theorem rot_last (h : i < l.length) : rot l (i + 1) = mid l i ++ [l[i]] := by
  unfold rot mid
  rw [List.take_succ_eq_append_getElem h, List.append_assoc]
theorem rot_all : rot l l.length = rot l 0 := by
  unfold rot
  rw [List.drop_length, List.take_length, List.drop_zero, List.take_zero, List.append_nil]; rfl
theorem rot_len : (rot l i).length = l.length := by
  unfold rot
  rw [List.length_append, List.length_drop, List.length_take]
  omega
theorem mid_len (h : i < l.length) : (mid l i).length + 1 = l.length := by
  have := rot_len (l := l) (i := i)
  rw [rot_first h] at this
  simpa using this
theorem mid_set {y : α} : mid (l.set i y) i = mid l i := by
  unfold mid
  rw [List.drop_set_of_lt (by omega), List.take_set_of_le (Nat.le_refl i)]
theorem rot_mod (h : i < l.length) : rot l ((i + 1) % l.length) = rot l (i + 1) := by
  by_cases q : i + 1 = l.length
  · rw [q, Nat.mod_self, rot_all]
  · rw [Nat.mod_eq_of_lt (by omega)]
theorem rot_back (h : i < l.length) : ∃ j, j < l.length ∧ (j + 1) % l.length = i ∧ rot l i = rot l (j + 1) := by
  cases i with
  | zero =>
    refine ⟨l.length - 1, by omega, ?_, ?_⟩
    · rw [Nat.sub_add_cancel (by omega), Nat.mod_self]
    · rw [Nat.sub_add_cancel (by omega), rot_all]
  | succ i => exact ⟨i, by omega, Nat.mod_eq_of_lt h, rfl⟩
end
def recs (l : List Blk) : List Rec := l.flatten.filterMap id
def Mem (l : List Blk) (r : Rec) : Prop := ∃ k ∈ l, some r ∈ k
def At (bs : List Blk) (b p : Nat) (r : Rec) : Prop := ∃ k, bs[b]? = some k ∧ k[p]? = some (some r)
def Srt (l : List Blk) : Prop := (recs l).Pairwise fun r r' => r.t < r'.t
theorem mem_recs {l : List Blk} {r : Rec} : r ∈ recs l ↔ Mem l r := by
  unfold recs Mem
  rw [List.mem_filterMap]
  constructor
  · rintro ⟨a, h, e⟩
    obtain ⟨k, hk, ha⟩ := List.mem_flatten.mp h
    have e : a = some r := e
    subst e
    exact ⟨k, hk, ha⟩
  · rintro ⟨k, hk, ha⟩
    exact ⟨some r, List.mem_flatten.mpr ⟨k, hk, ha⟩, rfl⟩
theorem recs_append (a b : List Blk) : recs (a ++ b) = recs a ++ recs b := by
  unfold recs
  rw [List.flatten_append, List.filterMap_append]
theorem recs_nil : recs [] = [] := rfl
theorem recs_one (k : Blk) : recs [k] = k.filterMap id := by
  unfold recs
  rw [List.flatten_cons, List.flatten_nil, List.append_nil]
theorem recs_empty {E : List Blk} (h : ∀ k ∈ E, isEmpty k = true) : recs E = [] := by
  unfold recs
  rw [List.filterMap_eq_nil_iff]
  intro a ha
  obtain ⟨k, hk, hak⟩ := List.mem_flatten.mp ha
  have := List.all_eq_true.mp (h k hk) a hak
  cases a with
  | none => rfl
  | some r => cases this
theorem isEmpty_nil : isEmpty [] = true := rfl
theorem isEmpty_iff {k : Blk} : isEmpty k = true ↔ ∀ r, ¬ some r ∈ k := by
  unfold isEmpty
  rw [List.all_eq_true]
  constructor
  · intro h r hr
    have := h _ hr
    cases this
  · intro h a ha
    cases a with
    | none => rfl
    | some r => exact absurd ha (h r)
theorem not_empty {k : Blk} (h : isEmpty k = false) : ∃ r, some r ∈ k := by
  refine Classical.byContradiction fun q => ?_
  have : isEmpty k = true := isEmpty_iff.mpr fun r hr => q ⟨r, hr⟩
  rw [h] at this; cases this
theorem Mem.mono {a b : List Blk} {r : Rec} (h : Mem a r) (s : ∀ k, k ∈ a → k ∈ b) : Mem b r := let ⟨k, h1, h2⟩ := h; ⟨k, s k h1, h2⟩
theorem mem_append {a b : List Blk} {r : Rec} : Mem (a ++ b) r ↔ Mem a r ∨ Mem b r := by
  rw [← mem_recs, recs_append, List.mem_append, mem_recs, mem_recs]
theorem mem_one {k : Blk} {r : Rec} : Mem [k] r ↔ some r ∈ k := ⟨fun ⟨k', h, e⟩ => by rw [← List.mem_singleton.mp h]; exact e, fun h => ⟨k, List.mem_singleton.mpr rfl, h⟩⟩
theorem mem_cons {k : Blk} {l : List Blk} {r : Rec} : Mem (k :: l) r ↔ some r ∈ k ∨ Mem l r := by
  rw [← mem_one (k := k), ← mem_append]; rfl
theorem Mem.rot {bs : List Blk} {i : Nat} {r : Rec} : Mem (rot bs i) r ↔ Mem bs r := ⟨fun h => h.mono fun k => mem_rot.mp, fun h => h.mono fun k => mem_rot.mpr⟩
theorem mem_at {bs : List Blk} {r : Rec} : Mem bs r ↔ ∃ b p, At bs b p r := by
  constructor
  · rintro ⟨k, hk, hr⟩
    obtain ⟨b, hb⟩ := List.getElem?_of_mem hk
    obtain ⟨p, hp⟩ := List.getElem?_of_mem hr
    exact ⟨b, p, k, hb, hp⟩
  · rintro ⟨b, p, k, hb, hp⟩
    exact ⟨k, List.mem_of_getElem? hb, List.mem_of_getElem? hp⟩
theorem At.mem {bs : List Blk} {b p : Nat} {r : Rec} (h : At bs b p r) : Mem bs r := mem_at.mpr ⟨b, p, h⟩
theorem mem_mid {bs : List Blk} {i : Nat} {r : Rec} (h : i < bs.length) : Mem bs r ↔ Mem (mid bs i) r ∨ some r ∈ bs[i] := by
  rw [← Mem.rot (i := i + 1), rot_last h, mem_append, mem_one]
def Dist (bs : List Blk) : Prop := ∀ b p b' p' r r', At bs b p r → At bs b' p' r' → r.t = r'.t → b = b' ∧ p = p'
theorem Dist.rec_eq {bs : List Blk} (d : Dist bs) {r r' : Rec} (h : Mem bs r) (h' : Mem bs r') (e : r.t = r'.t) : r = r' := by
  obtain ⟨b, p, k, h1, h2⟩ := mem_at.mp h
  obtain ⟨b', p', k', h1', h2'⟩ := mem_at.mp h'
  obtain ⟨rfl, rfl⟩ := d b p b' p' r r' ⟨k, h1, h2⟩ ⟨k', h1', h2'⟩ e
  rw [h1] at h1'
  cases h1'
  rw [h2] at h2'
  cases h2'
  rfl
def Top (l : List Blk) (r : Rec) : Prop := ∀ r', Mem l r' → r'.s = r.s → r'.t ≤ r.t
def Val (l : List Blk) (s c : Int) : Prop := ((∀ r, Mem l r → r.s ≠ s) ∧ c = 0) ∨ ∃ r, Mem l r ∧ r.s = s ∧ r.c = c ∧ Top l r
theorem Val.congr {a b : List Blk} (h : ∀ r, Mem a r ↔ Mem b r) {s c : Int} (v : Val a s c) : Val b s c := by
  rcases v with ⟨h1, h2⟩ | ⟨r, h1, h2, h3, h4⟩
  · exact .inl ⟨fun r hr => h1 r ((h r).mpr hr), h2⟩
  · exact .inr ⟨r, (h r).mp h1, h2, h3, fun r' hr' e => h4 r' ((h r').mpr hr') e⟩
structure PlOk (bs : List Blk) (pl : Int → Option Pl) : Prop where
  no : ∀ s, pl s = none → ∀ r, Mem bs r → r.s ≠ s
  yes : ∀ s e, pl s = some e → ∃ r, At bs e.b e.p r ∧ r.s = s ∧ r.t = e.t ∧ r.c = e.c ∧ Top bs r
theorem PlOk.val {st : DS} (h : PlOk st.x.bs st.pl) (d : Dist st.x.bs) {s c : Int} (v : Val st.x.bs s c) : st.val s = c := by
  unfold DS.val
  cases e : st.pl s with
  | none =>
    rcases v with ⟨_, h2⟩ | ⟨r, h1, h2, _⟩
    · exact h2.symm
    · exact absurd h2 (h.no s e r h1)
  | some q =>
    obtain ⟨r, h1, h2, h3, h4, h5⟩ := h.yes s q e
    rcases v with ⟨g1, _⟩ | ⟨r', g1, g2, g3, g4⟩
    · exact absurd h2 (g1 r h1.mem)
    · have a1 := h5 r' g1 (by rw [g2, h2])
      have a2 := g4 r h1.mem (by rw [g2, h2])
      have e2 := d.rec_eq h1.mem g1 (by omega)
      show q.c = c
      rw [← h4, e2, g3]
theorem PlOk.live {bs : List Blk} {pl : Int → Option Pl} (h : PlOk bs pl) (d : Dist bs) {b p : Nat} {r : Rec} (ha : At bs b p r) : liveAt pl b p r = true ↔ Top bs r := by
  unfold liveAt
  cases e : pl r.s with
  | none => exact absurd rfl (h.no r.s e r ha.mem)
  | some q =>
    obtain ⟨r', h1, h2, h3, h4, h5⟩ := h.yes r.s q e
    show decide (q.b = b ∧ q.p = p) = true ↔ _
    rw [decide_eq_true_iff]
    constructor
    · rintro ⟨rfl, rfl⟩
      obtain ⟨k, k1, k2⟩ := h1
      obtain ⟨k', k1', k2'⟩ := ha
      rw [k1] at k1'; cases k1'
      rw [k2] at k2'; cases k2'
      exact h5
    · intro t
      have a1 := t r' h1.mem h2
      have a2 := h5 r ha.mem h2.symm
      exact d _ _ _ _ _ _ h1 ha (by omega)
theorem gtRow_ok (b : Nat) : ∀ (k : Blk) (a : Option Nat × Int) (P : Rec → Prop) (B : Nat → Rec → Prop),
    (∀ r, P r → r.t ≤ a.2) → (a.1 = none → a.2 = -1) → (∀ b, a.1 = some b → ∃ r, B b r ∧ r.t = a.2) → (∀ r, some r ∈ k → B b r) →
    (∀ r, (P r ∨ some r ∈ k) → r.t ≤ (gtRow b k a).2) ∧ ((gtRow b k a).1 = none → (gtRow b k a).2 = -1) ∧ (∀ c, (gtRow b k a).1 = some c → ∃ r, B c r ∧ r.t = (gtRow b k a).2) ∧ a.2 ≤ (gtRow b k a).2
  | [], a, P, B, h1, h2, h3, _ => ⟨fun r h => h.elim (h1 r) fun z => (nomatch z), h2, h3, Int.le_refl _⟩
  | none :: k, a, P, B, h1, h2, h3, h4 => by
    obtain ⟨g1, g2, g3, g4⟩ := gtRow_ok b k a P B h1 h2 h3 fun r hr => h4 r (List.mem_cons_of_mem _ hr)
    refine ⟨fun r h => g1 r (h.imp id fun z => ?_), g2, g3, g4⟩
    rcases List.mem_cons.mp z with z | z
    · cases z
    · exact z
  | some x :: k, a, P, B, h1, h2, h3, h4 => by
    have key : ∀ a', a' = (if a.2 < x.t then (some b, x.t) else a) → _ := fun a' ea =>
      gtRow_ok b k a' (fun r => P r ∨ r = x) B (fun r h => by
          rw [ea]
          split
          · rcases h with h | h
            · have := h1 r h
              show r.t ≤ x.t
              omega
            · rw [h]; exact Int.le_refl _
          · rcases h with h | h
            · exact h1 r h
            · rw [h]; omega) (fun z => by
          rw [ea] at z ⊢
          split at z
          · cases z
          · rename_i q
            rw [if_neg q]; exact h2 z) (fun c z => by
          rw [ea] at z ⊢
          split at z
          · rename_i q
            rw [if_pos q]
            cases z
            exact ⟨x, h4 x List.mem_cons_self, rfl⟩
          · rename_i q
            rw [if_neg q]; exact h3 c z) fun r hr => h4 r (List.mem_cons_of_mem _ hr)
    obtain ⟨g1, g2, g3, g4⟩ := key _ rfl
    refine ⟨fun r h => g1 r ?_, g2, g3, Int.le_trans ?_ g4⟩
    · rcases h with h | h
      · exact .inl (.inl h)
      · rcases List.mem_cons.mp h with z | z
        · cases z
          exact .inl (.inr rfl)
        · exact .inr z
    · split
      · show a.2 ≤ x.t
        omega
      · exact Int.le_refl _
theorem gtGo_ok : ∀ (l : List Blk) (b : Nat) (a : Option Nat × Int) (P : Rec → Prop) (B : Nat → Rec → Prop),
    (∀ r, P r → r.t ≤ a.2) → (a.1 = none → a.2 = -1) → (∀ b, a.1 = some b → ∃ r, B b r ∧ r.t = a.2) → (∀ i k, l[i]? = some k → ∀ r, some r ∈ k → B (b + i) r) →
    (∀ r, (P r ∨ Mem l r) → r.t ≤ (gtGo l b a).2) ∧ ((gtGo l b a).1 = none → (gtGo l b a).2 = -1) ∧ (∀ c, (gtGo l b a).1 = some c → ∃ r, B c r ∧ r.t = (gtGo l b a).2)
  | [], b, a, P, B, h1, h2, h3, _ => ⟨fun r h => h.elim (h1 r) fun ⟨k, z, _⟩ => (nomatch z), h2, h3⟩
  | k :: l, b, a, P, B, h1, h2, h3, h4 => by
    obtain ⟨g1, g2, g3, _⟩ := gtRow_ok b k a P B h1 h2 h3 fun r hr => by have := h4 0 k rfl r hr; simpa using this
    obtain ⟨f1, f2, f3⟩ := gtGo_ok l (b + 1) (gtRow b k a) (fun r => P r ∨ some r ∈ k) B g1 g2 g3 fun i k' e r hr => by
      have := h4 (i + 1) k' (by simpa using e) r hr
      rw [show b + 1 + i = b + (i + 1) by omega]; exact this
    refine ⟨fun r h => f1 r ?_, f2, f3⟩
    rcases h with h | h
    · exact .inl (.inl h)
    · rcases mem_cons.mp h with z | z
      · exact .inl (.inr z)
      · exact .inr z
theorem greatest_some {bs : List Blk} {b : Nat} (h : greatest bs = some b) : ∃ k r, bs[b]? = some k ∧ some r ∈ k ∧ ∀ r', Mem bs r' → r'.t ≤ r.t := by
  obtain ⟨g1, _, g3⟩ := gtGo_ok bs 0 (none, -1) (fun _ => False) (fun b r => ∃ k, bs[b]? = some k ∧ some r ∈ k) (fun r h => h.elim) (fun _ => rfl) (fun b h => (nomatch h)) (fun i k e r hr => ⟨k, by rw [Nat.zero_add]; exact e, hr⟩)
  obtain ⟨r, ⟨k, h1, h2⟩, e⟩ := g3 b h
  exact ⟨k, r, h1, h2, fun r' hr' => by rw [e]; exact g1 r' (.inr hr')⟩
theorem greatest_none {bs : List Blk} (h : greatest bs = none) (ht : ∀ r, Mem bs r → 0 ≤ r.t) : ∀ r, ¬ Mem bs r := fun r hr => by
  obtain ⟨g1, g2, _⟩ := gtGo_ok bs 0 (none, -1) (fun _ => False) (fun b r => True) (fun r h => h.elim) (fun _ => rfl) (fun b h => (nomatch h)) (fun _ _ _ _ _ => trivial)
  have a1 := g1 r (.inr hr)
  rw [g2 h] at a1
  have := ht r hr
  omega
structure SeenOk (P : Nat → Nat → Rec → Prop) (a : (Int → Option Pl) × Int) : Prop where
  no : ∀ s, a.1 s = none → ∀ b p r, P b p r → r.s ≠ s
  yes : ∀ s e, a.1 s = some e → ∃ r, P e.b e.p r ∧ r.s = s ∧ r.t = e.t ∧ r.c = e.c ∧ ∀ b p r', P b p r' → r'.s = s → r'.t ≤ e.t
  st : ∀ b p r, P b p r → r.t < a.2
  st0 : 0 ≤ a.2
theorem SeenOk.page {P : Nat → Nat → Rec → Prop} {a : (Int → Option Pl) × Int} (h : SeenOk P a) (b p : Nat) (r : Rec) : SeenOk (fun b' p' r' => P b' p' r' ∨ (b' = b ∧ p' = p ∧ r' = r)) (seePage b p r a) := by
  have stamp : ∀ b' p' r', (P b' p' r' ∨ (b' = b ∧ p' = p ∧ r' = r)) → r'.t < (if r.t + 1 > a.2 then r.t + 1 else a.2) := by
    rintro b' p' r' (z | ⟨_, _, z⟩)
    · have := h.st b' p' r' z
      split <;> omega
    · subst z
      split <;> omega
  have st0 : 0 ≤ (if r.t + 1 > a.2 then r.t + 1 else a.2) := by
    have := h.st0
    split <;> omega
  have put : (∀ e, a.1 r.s = some e → e.t < r.t) → SeenOk (fun b' p' r' => P b' p' r' ∨ (b' = b ∧ p' = p ∧ r' = r)) (updP a.1 r.s ⟨b, p, r.t, r.c⟩, if r.t + 1 > a.2 then r.t + 1 else a.2) := fun hlt => by
    refine ⟨fun s e b' p' r' z => ?_, fun s e q => ?_, stamp, st0⟩
    · have e : (if s = r.s then some _ else a.1 s) = none := e
      by_cases q : s = r.s
      · rw [if_pos q] at e; cases e
      · rw [if_neg q] at e
        rcases z with z | ⟨_, _, z⟩
        · exact h.no s e b' p' r' z
        · rw [z]; exact fun y => q y.symm
    · have q : (if s = r.s then some (⟨b, p, r.t, r.c⟩ : Pl) else a.1 s) = some e := q
      by_cases z : s = r.s
      · rw [if_pos z] at q
        cases q
        refine ⟨r, .inr ⟨rfl, rfl, rfl⟩, z.symm, rfl, rfl, ?_⟩
        rintro b' p' r' (y | ⟨_, _, y⟩) es
        · cases w : a.1 r.s with
          | none => exact absurd (es.trans z) (h.no r.s w b' p' r' y)
          | some e' =>
            obtain ⟨_, _, _, _, _, mx⟩ := h.yes r.s e' w
            have a1 := mx b' p' r' y (es.trans z)
            have a2 := hlt e' w
            show r'.t ≤ r.t
            omega
        · rw [y]; exact Int.le_refl _
      · rw [if_neg z] at q
        obtain ⟨r0, y1, y2, y3, y4, y5⟩ := h.yes s e q
        refine ⟨r0, .inl y1, y2, y3, y4, ?_⟩
        rintro b' p' r' (y | ⟨_, _, y⟩) es
        · exact y5 b' p' r' y es
        · rw [y] at es; exact absurd es.symm z
  unfold seePage
  cases w : a.1 r.s with
  | none => exact put fun e z => by rw [w] at z; cases z
  | some e =>
    show SeenOk _ (if e.t < r.t then _ else a.1, _)
    by_cases c : e.t < r.t
    · rw [if_pos c]
      exact put fun e' z => by rw [w] at z; cases z; exact c
    · rw [if_neg c]
      refine ⟨fun s q b' p' r' z => ?_, fun s e' q => ?_, stamp, st0⟩
      · rcases z with z | ⟨_, _, z⟩
        · exact h.no s q b' p' r' z
        · rw [z]
          intro y
          rw [y] at w
          rw [w] at q; cases q
      · obtain ⟨r0, y1, y2, y3, y4, y5⟩ := h.yes s e' q
        refine ⟨r0, .inl y1, y2, y3, y4, ?_⟩
        rintro b' p' r' (y | ⟨_, _, y⟩) es
        · exact y5 b' p' r' y es
        · rw [y] at es ⊢
          rw [es, q] at w
          cases w
          omega
theorem SeenOk.congr {P P' : Nat → Nat → Rec → Prop} {a : (Int → Option Pl) × Int} (h : SeenOk P a) (e : ∀ b p r, P b p r ↔ P' b p r) : SeenOk P' a := by
  have : P = P' := by funext b p r; exact propext (e b p r)
  rw [← this]; exact h
theorem SeenOk.row (b : Nat) : ∀ (k : Blk) (p0 : Nat) (a : (Int → Option Pl) × Int) (P : Nat → Nat → Rec → Prop), SeenOk P a → SeenOk (fun b' p r => P b' p r ∨ (b' = b ∧ ∃ i, p = p0 + i ∧ k[i]? = some (some r))) (seeRow b k p0 a)
  | [], p0, a, P, h => h.congr fun b' p r => ⟨.inl, fun z => z.elim id fun ⟨_, i, _, e⟩ => by simp at e⟩
  | none :: k, p0, a, P, h => by
    refine (SeenOk.row b k (p0 + 1) a P h).congr fun b' p r => ⟨fun z => z.imp id fun ⟨e, i, h1, h2⟩ => ⟨e, i + 1, by omega, h2⟩, fun z => z.imp id fun ⟨e, i, h1, h2⟩ => ⟨e, ?_⟩⟩
    cases i with
    | zero => simp at h2
    | succ i => exact ⟨i, by omega, h2⟩
  | some x :: k, p0, a, P, h => by
    refine (SeenOk.row b k (p0 + 1) _ _ (h.page b p0 x)).congr fun b' p r => ⟨fun z => ?_, fun z => ?_⟩
    · rcases z with (z | ⟨e1, e2, e3⟩) | ⟨e, i, h1, h2⟩
      · exact .inl z
      · exact .inr ⟨e1, 0, e2, by rw [e3]; rfl⟩
      · exact .inr ⟨e, i + 1, by omega, h2⟩
    · rcases z with z | ⟨e, i, h1, h2⟩
      · exact .inl (.inl z)
      · cases i with
        | zero =>
          have e3 : x = r := by simpa using h2
          exact .inl (.inr ⟨e, h1, e3.symm⟩)
        | succ i => exact .inr ⟨e, i, by omega, h2⟩
theorem SeenOk.all : ∀ (l : List Blk) (b0 : Nat) (a : (Int → Option Pl) × Int) (P : Nat → Nat → Rec → Prop), SeenOk P a → SeenOk (fun b p r => P b p r ∨ ∃ i k, b = b0 + i ∧ l[i]? = some k ∧ k[p]? = some (some r)) (seeAll l b0 a)
  | [], b0, a, P, h => h.congr fun b p r => ⟨.inl, fun z => z.elim id fun ⟨i, k, _, e, _⟩ => by simp at e⟩
  | k0 :: l, b0, a, P, h => by
    refine (SeenOk.all l (b0 + 1) _ _ (SeenOk.row b0 k0 0 a P h)).congr fun b p r => ⟨fun z => ?_, fun z => ?_⟩
    · rcases z with (z | ⟨e, i, h1, h2⟩) | ⟨i, k, h1, h2, h3⟩
      · exact .inl z
      · exact .inr ⟨0, k0, e, rfl, by rw [h1, Nat.zero_add]; exact h2⟩
      · exact .inr ⟨i + 1, k, by omega, h2, h3⟩
    · rcases z with z | ⟨i, k, h1, h2, h3⟩
      · exact .inl (.inl z)
      · cases i with
        | zero =>
          have e : k0 = k := by simpa using h2
          subst e
          exact .inl (.inr ⟨h1, p, by omega, h3⟩)
        | succ i => exact .inr ⟨i, k, by omega, h2, h3⟩
theorem seen_ok (bs : List Blk) : PlOk bs (seeAll bs 0 (fun _ => none, 0)).1 ∧ (∀ r, Mem bs r → r.t < (seeAll bs 0 (fun _ => none, 0)).2) ∧ 0 ≤ (seeAll bs 0 (fun _ => none, 0)).2 := by
  have h0 : SeenOk (fun _ _ _ => False) ((fun _ => none, 0) : (Int → Option Pl) × Int) := ⟨fun _ _ _ _ _ z => z.elim, fun _ _ z => (nomatch z), fun _ _ _ z => z.elim, Int.le_refl _⟩
  have h := (SeenOk.all bs 0 _ _ h0).congr (P' := At bs) fun b p r => by
    constructor
    · rintro (z | ⟨i, k, h1, h2, h3⟩)
      · exact z.elim
      · exact ⟨k, by rw [h1, Nat.zero_add]; exact h2, h3⟩
    · rintro ⟨k, h1, h2⟩
      exact .inr ⟨b, k, by omega, h1, h2⟩
  refine ⟨⟨fun s e r hr => ?_, fun s e q => ?_⟩, fun r hr => ?_, h.st0⟩
  · obtain ⟨b, p, ha⟩ := mem_at.mp hr
    exact h.no s e b p r ha
  · obtain ⟨r, h1, h2, h3, h4, h5⟩ := h.yes s e q
    refine ⟨r, h1, h2, h3, h4, fun r' hr' es => ?_⟩
    obtain ⟨b, p, ha⟩ := mem_at.mp hr'
    rw [h3]
    exact h5 b p r' ha (es.trans h2)
  · obtain ⟨b, p, ha⟩ := mem_at.mp hr
    exact h.st b p r ha

theorem gwm_bs (x : DC) : x.gw.1.bs = x.bs := by unfold DC.gw; split <;> rfl
theorem gwm_m (x : DC) : x.gw.1.m = x.m := by unfold DC.gw; split <;> rfl
theorem gwm_wears (x : DC) : x.gw.1.wears = x.wears := by unfold DC.gw; split <;> rfl
theorem put_cases (x : DC) (b : Nat) (r : Rec) :
    ((x.put b r).2 = true ∧ (x.put b r).1.bs = x.bs.set b (x.blk b ++ [some r]) ∧ (x.put b r).1.m = x.m ∧ (x.put b r).1.wears = x.wears ∧ (x.put b r).1.many = x.many + 1) ∨
    ((x.put b r).2 = false ∧ (x.put b r).1.bs = x.bs.set b (x.blk b ++ [none]) ∧ (x.put b r).1.m = x.m ∧ (x.put b r).1.wears = x.wears ∧ (x.put b r).1.many = x.many + 1) ∨
    ((x.put b r).2 = false ∧ (x.put b r).1 = x) := by
  unfold DC.put
  by_cases hc : x.cut = true
  · rw [if_pos hc]
    exact .inr (.inr ⟨rfl, rfl⟩)
  · rw [if_neg hc]
    cases hg : x.gw.2 with
    | true =>
      refine .inl ⟨rfl, ?_, gwm_m x, gwm_wears x, rfl⟩
      show x.bs.set b _ = _
      rw [if_pos rfl]
    | false =>
      refine .inr (.inl ⟨rfl, ?_, gwm_m x, gwm_wears x, rfl⟩)
      show x.bs.set b _ = _
      rw [if_neg Bool.false_ne_true]
theorem gwm_many (x : DC) : x.gw.1.many = x.many := by unfold DC.gw; split <;> rfl
theorem erase_cases (x : DC) (b : Nat) :
    ((x.erase b).2 = true ∧ (x.erase b).1.bs = x.bs.set b [] ∧ (x.erase b).1.m = x.m ∧ (x.erase b).1.wears = x.wears.set b (x.wears.getD b 0 + 1) ∧ (x.erase b).1.many = x.many) ∨
    ((x.erase b).2 = false ∧ (x.erase b).1.bs = x.bs.set b (List.replicate x.m none) ∧ (x.erase b).1.m = x.m ∧ (x.erase b).1.wears = x.wears.set b (x.wears.getD b 0 + 1) ∧ (x.erase b).1.many = x.many) ∨
    ((x.erase b).2 = false ∧ (x.erase b).1 = x) := by
  unfold DC.erase
  by_cases hc : x.cut = true
  · rw [if_pos hc]
    exact .inr (.inr ⟨rfl, rfl⟩)
  · rw [if_neg hc]
    cases hg : x.gw.2 with
    | true =>
      refine .inl ⟨rfl, ?_, gwm_m x, rfl, gwm_many x⟩
      show x.bs.set b _ = _
      rw [if_pos rfl]
    | false =>
      refine .inr (.inl ⟨rfl, ?_, gwm_m x, rfl, gwm_many x⟩)
      show x.bs.set b _ = _
      rw [if_neg Bool.false_ne_true]
def Pow (x : DC) : Prop := x.left = none ∧ x.cut = false
theorem Pow.put {x : DC} (h : Pow x) (b : Nat) (r : Rec) : (x.put b r).2 = true ∧ Pow (x.put b r).1 := by
  obtain ⟨bs, m, w, n, l, c⟩ := x
  obtain ⟨h1, h2⟩ := h
  cases h1
  cases h2
  exact ⟨rfl, rfl, rfl⟩
theorem Pow.erase {x : DC} (h : Pow x) (b : Nat) : (x.erase b).2 = true ∧ Pow (x.erase b).1 := by
  obtain ⟨bs, m, w, n, l, c⟩ := x
  obtain ⟨h1, h2⟩ := h
  cases h1
  cases h2
  exact ⟨rfl, rfl, rfl⟩
theorem at_put {bs : List Blk} {h b p : Nat} {k : Blk} {r r' : Rec} (hk : bs[h]? = some k) : At (bs.set h (k ++ [some r])) b p r' ↔ At bs b p r' ∨ (b = h ∧ p = k.length ∧ r' = r) := by
  have hl := (List.getElem?_eq_some_iff.mp hk).1
  unfold At
  constructor
  · rintro ⟨k', h1, h2⟩
    by_cases q : b = h
    · subst q
      rw [List.getElem?_set_self hl] at h1
      cases h1
      by_cases z : p < k.length
      · rw [List.getElem?_append_left z] at h2
        exact .inl ⟨k, hk, h2⟩
      · rw [List.getElem?_append_right (by omega)] at h2
        cases w : p - k.length with
        | zero =>
          rw [w] at h2
          have e : r = r' := by simpa using h2
          exact .inr ⟨rfl, by omega, e.symm⟩
        | succ j => rw [w] at h2; simp at h2
    · rw [List.getElem?_set_ne (fun z => q z.symm)] at h1
      exact .inl ⟨k', h1, h2⟩
  · rintro (⟨k', h1, h2⟩ | ⟨rfl, rfl, rfl⟩)
    · by_cases q : b = h
      · subst q
        rw [hk] at h1
        cases h1
        refine ⟨_, List.getElem?_set_self hl, ?_⟩
        rw [List.getElem?_append_left (List.getElem?_eq_some_iff.mp h2).1]; exact h2
      · exact ⟨k', by rw [List.getElem?_set_ne (fun z => q z.symm)]; exact h1, h2⟩
    · refine ⟨_, List.getElem?_set_self hl, ?_⟩
      rw [List.getElem?_append_right (Nat.le_refl _), Nat.sub_self]; rfl
theorem at_torn {bs : List Blk} {h b p : Nat} {k : Blk} {r' : Rec} (hk : bs[h]? = some k) : At (bs.set h (k ++ [none])) b p r' ↔ At bs b p r' := by
  have hl := (List.getElem?_eq_some_iff.mp hk).1
  unfold At
  constructor
  · rintro ⟨k', h1, h2⟩
    by_cases q : b = h
    · subst q
      rw [List.getElem?_set_self hl] at h1
      cases h1
      by_cases z : p < k.length
      · rw [List.getElem?_append_left z] at h2
        exact ⟨k, hk, h2⟩
      · rw [List.getElem?_append_right (by omega)] at h2
        cases w : p - k.length with
        | zero => rw [w] at h2; simp at h2
        | succ j => rw [w] at h2; simp at h2
    · rw [List.getElem?_set_ne (fun z => q z.symm)] at h1
      exact ⟨k', h1, h2⟩
  · rintro ⟨k', h1, h2⟩
    by_cases q : b = h
    · subst q
      rw [hk] at h1
      cases h1
      refine ⟨_, List.getElem?_set_self hl, ?_⟩
      rw [List.getElem?_append_left (List.getElem?_eq_some_iff.mp h2).1]; exact h2
    · exact ⟨k', by rw [List.getElem?_set_ne (fun z => q z.symm)]; exact h1, h2⟩
theorem at_set_empty {bs : List Blk} {h b p : Nat} {k : Blk} {r' : Rec} (hk : isEmpty k = true) (hl : h < bs.length) : At (bs.set h k) b p r' ↔ b ≠ h ∧ At bs b p r' := by
  unfold At
  constructor
  · rintro ⟨k', h1, h2⟩
    by_cases q : b = h
    · subst q
      rw [List.getElem?_set_self hl] at h1
      cases h1
      exact absurd (List.mem_of_getElem? h2) (isEmpty_iff.mp hk r')
    · rw [List.getElem?_set_ne (fun z => q z.symm)] at h1
      exact ⟨q, k', h1, h2⟩
  · rintro ⟨q, k', h1, h2⟩
    exact ⟨k', by rw [List.getElem?_set_ne (fun z => q z.symm)]; exact h1, h2⟩
theorem mem_put {bs : List Blk} {h : Nat} {k : Blk} {r r' : Rec} (hk : bs[h]? = some k) : Mem (bs.set h (k ++ [some r])) r' ↔ Mem bs r' ∨ r' = r := by
  rw [mem_at, mem_at]
  constructor
  · rintro ⟨b, p, z⟩
    rcases (at_put hk).mp z with y | ⟨_, _, y⟩
    · exact .inl ⟨b, p, y⟩
    · exact .inr y
  · rintro (⟨b, p, y⟩ | y)
    · exact ⟨b, p, (at_put hk).mpr (.inl y)⟩
    · exact ⟨h, k.length, (at_put hk).mpr (.inr ⟨rfl, rfl, y⟩)⟩
theorem mem_torn {bs : List Blk} {h : Nat} {k : Blk} {r' : Rec} (hk : bs[h]? = some k) : Mem (bs.set h (k ++ [none])) r' ↔ Mem bs r' := by
  rw [mem_at, mem_at]
  exact ⟨fun ⟨b, p, z⟩ => ⟨b, p, (at_torn hk).mp z⟩, fun ⟨b, p, z⟩ => ⟨b, p, (at_torn hk).mpr z⟩⟩
theorem mem_set_empty {bs : List Blk} {h : Nat} {k : Blk} {r' : Rec} (hk : isEmpty k = true) (hl : h < bs.length) : Mem (bs.set h k) r' ↔ Mem (mid bs h) r' := by
  have hl' : h < (bs.set h k).length := by rw [List.length_set]; exact hl
  rw [mem_mid hl', mid_set]
  constructor
  · rintro (z | z)
    · exact z
    · rw [List.getElem_set_self] at z
      exact absurd z (isEmpty_iff.mp hk r')
  · exact .inl
theorem Dist.sub {bs bs' : List Blk} (d : Dist bs) (h : ∀ b p r, At bs' b p r → At bs b p r) : Dist bs' := fun b p b' p' r r' h1 h2 e => d b p b' p' r r' (h _ _ _ h1) (h _ _ _ h2) e
theorem Dist.put {bs : List Blk} {h : Nat} {k : Blk} {r : Rec} (d : Dist bs) (hk : bs[h]? = some k) (hs : ∀ r', Mem bs r' → r'.t < r.t) : Dist (bs.set h (k ++ [some r])) := fun b p b' p' r1 r2 h1 h2 e => by
  rcases (at_put hk).mp h1 with y | ⟨y1, y2, y3⟩
  · rcases (at_put hk).mp h2 with z | ⟨z1, z2, z3⟩
    · exact d b p b' p' r1 r2 y z e
    · have := hs r1 y.mem
      rw [z3] at e; omega
  · rcases (at_put hk).mp h2 with z | ⟨z1, z2, z3⟩
    · have := hs r2 z.mem
      rw [y3] at e; omega
    · exact ⟨by rw [y1, z1], by rw [y2, z2]⟩
theorem PlOk.put {bs : List Blk} {pl : Int → Option Pl} {h : Nat} {k : Blk} {r : Rec} (o : PlOk bs pl) (hk : bs[h]? = some k) (hs : ∀ r', Mem bs r' → r'.t < r.t) : PlOk (bs.set h (k ++ [some r])) (updP pl r.s ⟨h, k.length, r.t, r.c⟩) where
  no := fun s e r' hr' => by
    have e : (if s = r.s then some _ else pl s) = none := e
    by_cases q : s = r.s
    · rw [if_pos q] at e; cases e
    · rw [if_neg q] at e
      rcases (mem_put hk).mp hr' with z | z
      · exact o.no s e r' z
      · rw [z]; exact fun y => q y.symm
  yes := fun s e q => by
    have q : (if s = r.s then some (⟨h, k.length, r.t, r.c⟩ : Pl) else pl s) = some e := q
    by_cases z : s = r.s
    · rw [if_pos z] at q
      cases q
      refine ⟨r, (at_put hk).mpr (.inr ⟨rfl, rfl, rfl⟩), z.symm, rfl, rfl, fun r' hr' es => ?_⟩
      rcases (mem_put hk).mp hr' with y | y
      · have := hs r' y
        omega
      · rw [y]; exact Int.le_refl _
    · rw [if_neg z] at q
      obtain ⟨r0, h1, h2, h3, h4, h5⟩ := o.yes s e q
      refine ⟨r0, (at_put hk).mpr (.inl h1), h2, h3, h4, fun r' hr' es => ?_⟩
      rcases (mem_put hk).mp hr' with y | y
      · exact h5 r' y es
      · rw [y] at es
        exact absurd (h2.symm.trans es.symm) z
theorem PlOk.congr {bs bs' : List Blk} {pl : Int → Option Pl} (o : PlOk bs pl) (h : ∀ b p r, At bs' b p r ↔ At bs b p r) : PlOk bs' pl := by
  have hm : ∀ r, Mem bs' r ↔ Mem bs r := fun r => by
    rw [mem_at, mem_at]
    exact ⟨fun ⟨b, p, z⟩ => ⟨b, p, (h b p r).mp z⟩, fun ⟨b, p, z⟩ => ⟨b, p, (h b p r).mpr z⟩⟩
  refine ⟨fun s e r hr => o.no s e r ((hm r).mp hr), fun s e q => ?_⟩
  obtain ⟨r0, h1, h2, h3, h4, h5⟩ := o.yes s e q
  exact ⟨r0, (h _ _ _).mpr h1, h2, h3, h4, fun r' hr' es => h5 r' ((hm r').mp hr') es⟩
theorem Val.put {l l' : List Blk} {r : Rec} (hm : ∀ r', Mem l' r' ↔ Mem l r' ∨ r' = r) (hs : ∀ r', Mem l r' → r'.t < r.t) {f : Int → Int} {s : Int} (v : Val l s (f s)) : Val l' s (if s = r.s then r.c else f s) := by
  by_cases q : s = r.s
  · rw [if_pos q]
    refine .inr ⟨r, (hm r).mpr (.inr rfl), q.symm, rfl, fun r' hr' es => ?_⟩
    rcases (hm r').mp hr' with y | y
    · have := hs r' y
      omega
    · rw [y]; exact Int.le_refl _
  · rw [if_neg q]
    rcases v with ⟨h1, h2⟩ | ⟨r0, h1, h2, h3, h4⟩
    · refine .inl ⟨fun r' hr' => ?_, h2⟩
      rcases (hm r').mp hr' with y | y
      · exact h1 r' y
      · rw [y]; exact fun z => q z.symm
    · refine .inr ⟨r0, (hm r0).mpr (.inl h1), h2, h3, fun r' hr' es => ?_⟩
      rcases (hm r').mp hr' with y | y
      · exact h4 r' y es
      · rw [y] at es
        exact absurd (h2.symm.trans es.symm) q
theorem Srt.put {a : List Blk} {k : Blk} {r : Rec} (h : Srt (a ++ [k])) (hs : ∀ r', Mem (a ++ [k]) r' → r'.t < r.t) : Srt (a ++ [k ++ [some r]]) := by
  have e : recs (a ++ [k ++ [some r]]) = recs (a ++ [k]) ++ [r] := by
    rw [recs_append, recs_append, recs_one, recs_one, List.filterMap_append, List.append_assoc]; rfl
  unfold Srt
  rw [e, List.pairwise_append]
  refine ⟨h, List.pairwise_singleton _ _, fun x hx y hy => ?_⟩
  rw [List.mem_singleton.mp hy]
  exact hs x (mem_recs.mp hx)
theorem Srt.torn {a : List Blk} {k : Blk} (h : Srt (a ++ [k])) : Srt (a ++ [k ++ [none]]) := by
  have e : recs (a ++ [k ++ [none]]) = recs (a ++ [k]) := by
    rw [recs_append, recs_append, recs_one, recs_one, List.filterMap_append]
    show _ ++ (_ ++ []) = _
    rw [List.append_nil]
  unfold Srt
  rw [e]; exact h
theorem Srt.of_recs {a b : List Blk} (h : Srt a) (e : recs b = recs a) : Srt b := by unfold Srt; rw [e]; exact h
theorem Srt.right {a b : List Blk} (h : Srt (a ++ b)) : Srt b := by
  unfold Srt at h ⊢
  rw [recs_append] at h
  exact (List.pairwise_append.mp h).2.1
theorem Srt.left {a b : List Blk} (h : Srt (a ++ b)) : Srt a := by
  unfold Srt at h ⊢
  rw [recs_append] at h
  exact (List.pairwise_append.mp h).1
theorem Srt.lt {a b : List Blk} (h : Srt (a ++ b)) {r r' : Rec} (h1 : Mem a r) (h2 : Mem b r') : r.t < r'.t := by
  unfold Srt at h
  rw [recs_append] at h
  exact (List.pairwise_append.mp h).2.2 r (mem_recs.mpr h1) r' (mem_recs.mpr h2)
def ring (n N b : Nat) : Nat := N / n + if b < N % n then 1 else 0
theorem ring_step {n N b : Nat} (hn : 0 < n) (hb : b < n) : ring n (N + 1) b = ring n N b + if b = N % n then 1 else 0 := by
  unfold ring
  have h1 := Nat.div_add_mod N n
  have h2 := Nat.mod_lt N hn
  by_cases q : N % n + 1 = n
  · have e1 : N + 1 = n * (N / n + 1) := by rw [Nat.mul_add, Nat.mul_one]; omega
    have e2 : (N + 1) / n = N / n + 1 := by rw [e1]; exact Nat.mul_div_cancel_left _ hn
    have e3 : (N + 1) % n = 0 := by rw [e1]; exact Nat.mul_mod_right _ _
    rw [e2, e3]
    split <;> split <;> (try split) <;> omega
  · have e1 : N + 1 = (N % n + 1) + n * (N / n) := by omega
    have e2 : (N + 1) / n = N / n := by
      rw [e1, Nat.add_mul_div_left _ _ hn, Nat.div_eq_of_lt (by omega)]; omega
    have e3 : (N + 1) % n = N % n + 1 := by
      rw [e1, Nat.add_mul_mod_self_left, Nat.mod_eq_of_lt (by omega)]
    rw [e2, e3]
    split <;> split <;> (try split) <;> omega
def sumTo (n : Nat) (e : Nat → Nat) : Nat := match n with
  | 0 => 0
  | n + 1 => sumTo n e + e n
theorem sumTo_le {e : Nat → Nat} : ∀ {n b : Nat}, b < n → e b ≤ sumTo n e
  | 0, b, h => by omega
  | n + 1, b, h => by
    unfold sumTo
    by_cases q : b = n
    · subst q; omega
    · have := sumTo_le (e := e) (n := n) (b := b) (by omega)
      omega
theorem sumTo_upd {e : Nat → Nat} {b : Nat} : ∀ {n : Nat}, sumTo n (fun i => if i = b then e i + 1 else e i) = sumTo n e + if b < n then 1 else 0
  | 0 => by simp [sumTo]
  | n + 1 => by
    unfold sumTo
    rw [sumTo_upd (n := n)]
    by_cases q : n = b
    · subst q
      rw [if_pos rfl, if_neg (Nat.lt_irrefl _), if_pos (Nat.lt_succ_self _)]; omega
    · rw [if_neg q]
      by_cases z : b < n
      · rw [if_pos z, if_pos (by omega)]; omega
      · rw [if_neg z, if_neg (by omega)]; omega
def WearOk (n : Nat) (ws : List Int) (N C : Nat) : Prop := ws.length = n ∧ ∃ ext : Nat → Nat, sumTo n ext ≤ C ∧ ∀ b, b < n → ws.getD b 0 = (ring n N b : Nat) + (ext b : Nat)
theorem WearOk.mono {n N C C' : Nat} {ws : List Int} (h : WearOk n ws N C) (hc : C ≤ C') : WearOk n ws N C' := let ⟨h1, e, h2, h3⟩ := h; ⟨h1, e, Nat.le_trans h2 hc, h3⟩
theorem getD_set {ws : List Int} {b i : Nat} {z : Int} (h : b < ws.length) : (ws.set b z).getD i 0 = if i = b then z else ws.getD i 0 := by
  rw [List.getD_eq_getElem?_getD]
  by_cases q : i = b
  · subst q
    rw [if_pos rfl, List.getElem?_set_self h]; rfl
  · rw [if_neg q, List.getElem?_set_ne (fun y => q y.symm), List.getD_eq_getElem?_getD]
theorem WearOk.next {n N C b : Nat} {ws : List Int} (h : WearOk n ws N C) (hb : b < n) (e : N % n = b) : WearOk n (ws.set b (ws.getD b 0 + 1)) (N + 1) C := by
  obtain ⟨h1, ext, h2, h3⟩ := h
  refine ⟨by rw [List.length_set]; exact h1, ext, h2, fun i hi => ?_⟩
  rw [getD_set (by rw [h1]; exact hb), ring_step (by omega) hi, e]
  by_cases q : i = b
  · subst q
    rw [if_pos rfl, if_pos rfl, h3 i hi]; omega
  · rw [if_neg q, if_neg q, h3 i hi]; omega
theorem WearOk.more {n N C b : Nat} {ws : List Int} (h : WearOk n ws N C) (hb : b < n) : WearOk n (ws.set b (ws.getD b 0 + 1)) N (C + 1) := by
  obtain ⟨h1, ext, h2, h3⟩ := h
  refine ⟨by rw [List.length_set]; exact h1, fun i => if i = b then ext i + 1 else ext i, ?_, fun i hi => ?_⟩
  · rw [sumTo_upd, if_pos hb]; omega
  · rw [getD_set (by rw [h1]; exact hb)]
    by_cases q : i = b
    · subst q
      rw [if_pos rfl, h3 i hi]
      show _ = (ring n N i : Int) + ((if i = i then ext i + 1 else ext i : Nat) : Int)
      rw [if_pos rfl]; omega
    · rw [if_neg q, h3 i hi]
      show _ = (ring n N i : Int) + ((if i = b then ext i + 1 else ext i : Nat) : Int)
      rw [if_neg q]
theorem WearOk.even {n N C : Nat} {ws : List Int} (h : WearOk n ws N C) {i j : Nat} (hi : i < n) (hj : j < n) : ws.getD i 0 ≤ ws.getD j 0 + 1 + C := by
  obtain ⟨h1, ext, h2, h3⟩ := h
  rw [h3 i hi, h3 j hj]
  have := sumTo_le (e := ext) hi
  have : ring n N i ≤ ring n N j + 1 := by
    unfold ring
    split <;> split <;> omega
  omega

theorem blkm {x : DC} {b : Nat} (h : b < x.bs.length) : x.bs[b]? = some (x.blk b) := by
  unfold DC.blk
  rw [List.getD_eq_getElem?_getD, List.getElem?_eq_getElem h]; rfl
theorem blkm' {x : DC} {b : Nat} (h : b < x.bs.length) : x.bs[b] = x.blk b := by
  have := blkm h
  rw [List.getElem?_eq_getElem h] at this
  exact Option.some.inj this
theorem rot_lastD {x : DC} {h : Nat} (hl : h < x.bs.length) : rot x.bs (h + 1) = mid x.bs h ++ [x.blk h] := by rw [rot_last hl, blkm' hl]
theorem rot_setD {bs : List Blk} {h : Nat} {k : Blk} (hl : h < bs.length) : rot (bs.set h k) (h + 1) = mid bs h ++ [k] := by
  have hl' : h < (bs.set h k).length := by rw [List.length_set]; exact hl
  rw [rot_last hl', mid_set, List.getElem_set_self]
theorem rot_set1 {bs : List Blk} {h : Nat} {k : Blk} (hl : h < bs.length) : rot (bs.set h k) h = k :: mid bs h := by
  have hl' : h < (bs.set h k).length := by rw [List.length_set]; exact hl
  rw [rot_first hl', mid_set, List.getElem_set_self]
structure Base (S : Int) (f : Int → Int) (st : DS) : Prop where
  hS : st.S = S
  n4 : 4 ≤ st.x.bs.length
  m2 : 2 ≤ st.x.m
  room : S ≤ ((st.x.bs.length : Int) - 2) * st.x.m
  hd : st.head < st.x.bs.length
  fit : ∀ r, Mem st.x.bs r → 0 ≤ r.s ∧ r.s < S ∧ 0 ≤ r.t
  dist : Dist st.x.bs
  len : ∀ k ∈ st.x.bs, k.length ≤ st.x.m
  srt : Srt (rot st.x.bs (st.head + 1))
  at_ : st.at_ = (st.x.blk st.head).length
  stamp : ∀ r, Mem st.x.bs r → r.t < st.stamp
  st0 : 0 ≤ st.stamp
  pl : PlOk st.x.bs st.pl
  val : ∀ s, 0 ≤ s → s < S → Val st.x.bs s (f s)
def upf (f : Int → Int) (s c : Int) : Int → Int := fun i => if i = s then c else f i
theorem put_true {st : DS} {s c : Int} (ok : (st.put s c).2 = true) : (st.x.put st.head ⟨s, st.stamp, c⟩).2 = true ∧ (st.put s c).1 = { st with x := (st.x.put st.head ⟨s, st.stamp, c⟩).1, pl := updP st.pl s ⟨st.head, st.at_, st.stamp, c⟩, stamp := st.stamp + 1, at_ := st.at_ + 1 } := by
  unfold DS.put at ok ⊢
  by_cases h : (st.x.put st.head ⟨s, st.stamp, c⟩).2 = true
  · rw [if_pos h]; exact ⟨h, rfl⟩
  · rw [if_neg h] at ok; cases ok
theorem put_false {st : DS} {s c : Int} (ok : (st.put s c).2 = false) : (st.x.put st.head ⟨s, st.stamp, c⟩).2 = false ∧ (st.put s c).1 = { st with x := (st.x.put st.head ⟨s, st.stamp, c⟩).1 } := by
  unfold DS.put at ok ⊢
  by_cases h : (st.x.put st.head ⟨s, st.stamp, c⟩).2 = true
  · rw [if_pos h] at ok; cases ok
  · rw [if_neg h]
    refine ⟨?_, rfl⟩
    cases q : (st.x.put st.head ⟨s, st.stamp, c⟩).2 with
    | true => exact absurd q h
    | false => rfl
structure Went (st st' : DS) (r : Rec) : Prop where
  bs : st'.x.bs = st.x.bs.set st.head (st.x.blk st.head ++ [some r])
  m : st'.x.m = st.x.m
  wears : st'.x.wears = st.x.wears
  many : st'.x.many = st.x.many + 1
  head : st'.head = st.head
  S : st'.S = st.S
  at_ : st'.at_ = st.at_ + 1
theorem put_went {st : DS} {s c : Int} (ok : (st.put s c).2 = true) : Went st (st.put s c).1 ⟨s, st.stamp, c⟩ := by
  obtain ⟨p, e⟩ := put_true ok
  rw [e]
  rcases put_cases st.x st.head ⟨s, st.stamp, c⟩ with ⟨_, h1, h2, h3, h4⟩ | ⟨h0, _⟩ | ⟨h0, _⟩
  · exact ⟨h1, h2, h3, h4, rfl, rfl, rfl⟩
  · rw [p] at h0; cases h0
  · rw [p] at h0; cases h0
theorem Base.put {S : Int} {f : Int → Int} {st : DS} {s c : Int} (b : Base S f st) (h0 : 0 ≤ s) (h1 : s < S) (hat : st.at_ < st.x.m) (ok : (st.put s c).2 = true) : Base S (upf f s c) (st.put s c).1 := by
  have w := put_went ok
  obtain ⟨p, e⟩ := put_true ok
  have hk := blkm b.hd
  have hlt : ∀ r', Mem st.x.bs r' → r'.t < (⟨s, st.stamp, c⟩ : Rec).t := b.stamp
  have hn : (st.put s c).1.x.bs.length = st.x.bs.length := by rw [w.bs, List.length_set]
  have hst : (st.put s c).1.stamp = st.stamp + 1 := by rw [e]
  have hpl : (st.put s c).1.pl = updP st.pl s ⟨st.head, (st.x.blk st.head).length, st.stamp, c⟩ := by rw [e, ← b.at_]
  refine ⟨w.S.trans b.hS, by rw [hn]; exact b.n4, by rw [w.m]; exact b.m2, by rw [hn, w.m]; exact b.room, by rw [hn, w.head]; exact b.hd, fun r hr => ?_, ?_, fun k hk' => ?_, ?_, ?_, fun r hr => ?_, ?_, ?_, fun s' i0 i1 => ?_⟩
  · rw [w.bs] at hr
    rcases (mem_put hk).mp hr with y | y
    · exact b.fit r y
    · rw [y]; exact ⟨h0, h1, b.st0⟩
  · rw [w.bs]
    exact b.dist.put hk hlt
  · rw [w.bs] at hk'
    rw [w.m]
    rcases List.mem_or_eq_of_mem_set hk' with y | y
    · exact b.len k y
    · rw [y, List.length_append, ← b.at_]; exact hat
  · rw [w.bs, w.head, rot_setD b.hd]
    have hs := b.srt
    rw [rot_lastD b.hd] at hs
    refine hs.put fun r' hr' => ?_
    rw [← rot_lastD b.hd, Mem.rot] at hr'
    exact b.stamp r' hr'
  · rw [w.at_, w.head]
    have hx : (st.put s c).1.x.blk st.head = st.x.blk st.head ++ [some ⟨s, st.stamp, c⟩] := by
      have hl : st.head < (st.put s c).1.x.bs.length := by rw [hn]; exact b.hd
      have := blkm hl
      rw [w.bs, List.getElem?_set_self b.hd] at this
      exact (Option.some.inj this).symm
    rw [hx, List.length_append, ← b.at_]; rfl
  · rw [w.bs] at hr
    rw [hst]
    rcases (mem_put hk).mp hr with y | y
    · have := b.stamp r y
      omega
    · rw [y]
      show st.stamp < st.stamp + 1
      omega
  · rw [hst]
    have := b.st0
    omega
  · rw [w.bs, hpl]
    exact b.pl.put (r := ⟨s, st.stamp, c⟩) hk hlt
  · rw [w.bs]
    exact Val.put (r := ⟨s, st.stamp, c⟩) (fun r' => mem_put hk) hlt (b.val s' i0 i1)
theorem Base.congr {S : Int} {f g : Int → Int} {st : DS} (b : Base S f st) (h : ∀ s, 0 ≤ s → s < S → f s = g s) : Base S g st := { b with val := fun s h0 h1 => by rw [← h s h0 h1]; exact b.val s h0 h1 }
structure Basic (S : Int) (bs : List Blk) (m : Nat) : Prop where
  n4 : 4 ≤ bs.length
  m2 : 2 ≤ m
  room : S ≤ ((bs.length : Int) - 2) * m
  fit : ∀ r, Mem bs r → 0 ≤ r.s ∧ r.s < S ∧ 0 ≤ r.t
  dist : Dist bs
  len : ∀ k ∈ bs, k.length ≤ m
def Clean (bs : List Blk) : Prop := ∀ (b : Nat) (k : Blk), bs[b]? = some k → isEmpty k = true → k = []
def Torn1 (bs : List Blk) : Prop := ∃ (b : Nat) (k : Blk), bs[b]? = some k ∧ isEmpty k = true ∧ k ≠ [] ∧ ∀ (b' : Nat) (k' : Blk), b' ≠ b → bs[b']? = some k' → isEmpty k' = true → k' = []
structure GoodA (S : Int) (f : Int → Int) (C : Nat) (bs : List Blk) (m : Nat) (ws : List Int) : Prop extends Basic S bs m where
  a : ∃ i N E data, i < bs.length ∧ rot bs i = E ++ data ∧ E ≠ [] ∧ (∀ k ∈ E, isEmpty k = true) ∧ (∀ k ∈ data, isEmpty k = false) ∧ (data = [] → i = 0) ∧ (i + E.length) % bs.length = N % bs.length ∧ Srt (rot bs i) ∧
    ((Clean bs ∧ WearOk bs.length ws N C) ∨ (Torn1 bs ∧ ∃ C', C' + 1 ≤ C ∧ WearOk bs.length ws N C'))
  val : ∀ s, 0 ≤ s → s < S → Val bs s (f s)
structure GoodB (S : Int) (f : Int → Int) (C : Nat) (bs : List Blk) (m : Nat) (ws : List Int) : Prop extends Basic S bs m where
  b : ∃ i N C', ∃ h : i < bs.length, (∀ k ∈ bs, isEmpty k = false) ∧ (i + 1) % bs.length = N % bs.length ∧ Srt (rot bs (i + 1)) ∧ C' + 1 ≤ C ∧ WearOk bs.length ws N C' ∧ (∀ s, 0 ≤ s → s < S → Val (mid bs i) s (f s))
def Good (S : Int) (f : Int → Int) (C : Nat) (x : DC) : Prop := GoodA S f C x.bs x.m x.wears ∨ GoodB S f C x.bs x.m x.wears
structure Ready (S : Int) (f : Int → Int) (C : Nat) (st : DS) : Prop extends Base S f st where
  q : ∃ e N data, mid st.x.bs st.head = List.replicate e [] ++ data ∧ 1 ≤ e ∧ (∀ k ∈ data, isEmpty k = false) ∧ (st.head + 1 + e) % st.x.bs.length = N % st.x.bs.length ∧ WearOk st.x.bs.length st.x.wears N C ∧
    (st.x.blk st.head = [] → data = [] → st.head = 0)
  cur : st.x.blk st.head = [] ∨ isEmpty (st.x.blk st.head) = false
theorem Base.basic {S : Int} {f : Int → Int} {st : DS} (b : Base S f st) : Basic S st.x.bs st.x.m := ⟨b.n4, b.m2, b.room, b.fit, b.dist, b.len⟩
theorem rep_snoc {α : Type} {e : Nat} {x : α} : x :: List.replicate e x = List.replicate (e + 1) x := rfl
theorem Clean.of_rot {bs : List Blk} {i : Nat} (h : ∀ k ∈ rot bs i, isEmpty k = true → k = []) : Clean bs := fun b k hb he => h k (mem_rot.mpr (List.mem_of_getElem? hb)) he
theorem rot_headD {x : DC} {h : Nat} (hl : h < x.bs.length) : rot x.bs h = x.blk h :: mid x.bs h := by rw [rot_first hl, blkm' hl]
theorem Ready.clean {S : Int} {f : Int → Int} {C : Nat} {st : DS} (r : Ready S f C st) : Clean st.x.bs := by
  obtain ⟨e, N, data, h1, h2, h3, h4, h5, h6⟩ := r.q
  refine Clean.of_rot (i := st.head + 1) fun k hk he => ?_
  rw [rot_lastD r.hd, h1] at hk
  rcases List.mem_append.mp hk with z | z
  · rcases List.mem_append.mp z with y | y
    · exact List.eq_of_mem_replicate y
    · rw [h3 k y] at he; cases he
  · rw [List.mem_singleton.mp z] at he ⊢
    rcases r.cur with c | c
    · exact c
    · rw [c] at he; cases he
theorem Ready.good {S : Int} {f : Int → Int} {C : Nat} {st : DS} (r : Ready S f C st) : GoodA S f C st.x.bs st.x.m st.x.wears where
  toBasic := r.toBase.basic
  val := r.val
  a := by
    have cl := r.clean
    obtain ⟨e, N, data, h1, h2, h3, h4, h5, h6⟩ := r.q
    have hs := r.srt
    rcases r.cur with c | c
    · -- the head is fresh: it is the first of the erased ones
      refine ⟨st.head, N, [] :: List.replicate e [], data, r.hd, ?_, by simp, fun k hk => ?_, h3, h6 c, ?_, ?_, .inl ⟨cl, h5⟩⟩
      · rw [rot_headD r.hd, c, h1]; rfl
      · rw [rep_snoc] at hk
        rw [List.eq_of_mem_replicate hk]; rfl
      · rw [List.length_cons, List.length_replicate, ← h4]
        congr 1
        omega
      · refine hs.of_recs ?_
        rw [rot_headD r.hd, rot_lastD r.hd, c, recs_append, recs_one]
        show recs ([[]] ++ mid st.x.bs st.head) = _
        rw [recs_append, recs_one]
        show [] ++ _ = _ ++ []
        rw [List.nil_append, List.append_nil]
    · have hm : (st.head + 1) % st.x.bs.length < st.x.bs.length := Nat.mod_lt _ (by have := r.n4; omega)
      have hr : rot st.x.bs ((st.head + 1) % st.x.bs.length) = rot st.x.bs (st.head + 1) := rot_mod r.hd
      refine ⟨(st.head + 1) % st.x.bs.length, N, List.replicate e [], data ++ [st.x.blk st.head], hm, ?_, ?_, fun k hk => ?_, fun k hk => ?_, ?_, ?_, ?_, .inl ⟨cl, h5⟩⟩
      · rw [hr, rot_lastD r.hd, h1, List.append_assoc]
      · intro z
        have := congrArg List.length z
        rw [List.length_replicate] at this
        simp at this
        omega
      · rw [List.eq_of_mem_replicate hk]; rfl
      · rcases List.mem_append.mp hk with z | z
        · exact h3 k z
        · rw [List.mem_singleton.mp z]; exact c
      · intro z; simp at z
      · rw [List.length_replicate, ← h4, Nat.add_mod, Nat.mod_mod, ← Nat.add_mod]
      · rw [hr]; exact hs
theorem GoodA.mono {S : Int} {f : Int → Int} {C C' : Nat} {bs : List Blk} {m : Nat} {ws : List Int} (g : GoodA S f C bs m ws) (h : C ≤ C') : GoodA S f C' bs m ws where
  toBasic := g.toBasic
  val := g.val
  a := by
    obtain ⟨i, N, E, data, h1, h2, h3, h4, h5, h6, h7, h8, h9⟩ := g.a
    refine ⟨i, N, E, data, h1, h2, h3, h4, h5, h6, h7, h8, ?_⟩
    rcases h9 with ⟨z1, z2⟩ | ⟨z1, c, z2, z3⟩
    · exact .inl ⟨z1, z2.mono h⟩
    · exact .inr ⟨z1, c, by omega, z3⟩
theorem Good.mono {S : Int} {f : Int → Int} {C C' : Nat} {x : DC} (g : Good S f C x) (h : C ≤ C') : Good S f C' x := by
  rcases g with g | g
  · exact .inl (g.mono h)
  · refine .inr { toBasic := g.toBasic, b := ?_ }
    obtain ⟨i, N, c, h1, h2, h3, h4, h5, h6, h7⟩ := g.b
    exact ⟨i, N, c, h1, h2, h3, h4, by omega, h6, h7⟩
theorem Ready.mono {S : Int} {f : Int → Int} {C C' : Nat} {st : DS} (r : Ready S f C st) (h : C ≤ C') : Ready S f C' st where
  toBase := r.toBase
  cur := r.cur
  q := by
    obtain ⟨e, N, data, h1, h2, h3, h4, h5, h6⟩ := r.q
    exact ⟨e, N, data, h1, h2, h3, h4, h5.mono h, h6⟩
theorem Ready.put {S : Int} {f : Int → Int} {C : Nat} {st : DS} {s c : Int} (r : Ready S f C st) (h0 : 0 ≤ s) (h1 : s < S) (hat : st.at_ < st.x.m) (ok : (st.put s c).2 = true) : Ready S (upf f s c) C (st.put s c).1 where
  toBase := r.toBase.put h0 h1 hat ok
  q := by
    have w := put_went ok
    obtain ⟨e, N, data, g1, g2, g3, g4, g5, g6⟩ := r.q
    refine ⟨e, N, data, ?_, g2, g3, ?_, ?_, fun z => ?_⟩
    · rw [w.bs, w.head, mid_set]; exact g1
    · rw [w.bs, w.head, List.length_set]; exact g4
    · rw [w.bs, List.length_set, w.wears]; exact g5
    · exfalso
      have hl : st.head < (st.put s c).1.x.bs.length := by rw [w.bs, List.length_set]; exact r.hd
      have := blkm hl
      rw [w.head] at z
      rw [z, w.bs, List.getElem?_set_self r.hd] at this
      have := Option.some.inj this
      simp at this
  cur := by
    have w := put_went ok
    have hl : st.head < (st.put s c).1.x.bs.length := by rw [w.bs, List.length_set]; exact r.hd
    have := blkm hl
    rw [w.bs, List.getElem?_set_self r.hd] at this
    right
    rw [w.head, ← Option.some.inj this]
    cases q : isEmpty (st.x.blk st.head ++ [some ⟨s, st.stamp, c⟩]) with
    | false => rfl
    | true => exact absurd (List.mem_append.mpr (.inr (List.mem_singleton.mpr rfl))) (isEmpty_iff.mp q ⟨s, st.stamp, c⟩)
theorem basic_torn {S : Int} {bs : List Blk} {m h : Nat} {k : Blk} (b : Basic S bs m) (hk : bs[h]? = some k) (hl : k.length < m) : Basic S (bs.set h (k ++ [none])) m where
  n4 := by rw [List.length_set]; exact b.n4
  m2 := b.m2
  room := by rw [List.length_set]; exact b.room
  fit := fun r hr => b.fit r ((mem_torn hk).mp hr)
  dist := b.dist.sub fun _ _ _ z => (at_torn hk).mp z
  len := fun k' hk' => by
    rcases List.mem_or_eq_of_mem_set hk' with y | y
    · exact b.len k' y
    · rw [y, List.length_append]; exact hl
theorem isEmpty_torn {k : Blk} : isEmpty (k ++ [none]) = isEmpty k := by
  unfold isEmpty
  rw [List.all_append]
  show (_ && true) = _
  rw [Bool.and_true]
theorem Ready.torn {S : Int} {f : Int → Int} {C : Nat} {st : DS} (r : Ready S f C st) (hat : st.at_ < st.x.m) : GoodA S f (C + 1) (st.x.bs.set st.head (st.x.blk st.head ++ [none])) st.x.m st.x.wears where
  toBasic := basic_torn r.toBase.basic (blkm r.hd) (by rw [← r.at_]; exact hat)
  val := fun s h0 h1 => (r.val s h0 h1).congr fun r' => (mem_torn (blkm r.hd)).symm
  a := by
    have cl := r.clean
    obtain ⟨e, N, data, h1, h2, h3, h4, h5, h6⟩ := r.q
    have hs := r.srt
    rw [rot_lastD r.hd] at hs
    have hs2 := hs.torn
    rcases r.cur with c | c
    · refine ⟨st.head, N, [none] :: List.replicate e [], data, by rw [List.length_set]; exact r.hd, ?_, by simp, fun k hk => ?_, h3, h6 c, ?_, ?_, .inr ⟨?_, C, Nat.le_refl _, by rw [List.length_set]; exact h5⟩⟩
      · rw [rot_set1 r.hd, c, h1]; rfl
      · rcases List.mem_cons.mp hk with z | z
        · rw [z]; rfl
        · rw [List.eq_of_mem_replicate z]; rfl
      · rw [List.length_cons, List.length_replicate, List.length_set, ← h4]
        congr 1
        omega
      · refine hs2.of_recs ?_
        rw [rot_set1 r.hd, c, recs_append]
        show recs ([[none]] ++ mid st.x.bs st.head) = _
        rw [recs_append, recs_one]
        show [] ++ _ = _ ++ []
        rw [List.nil_append, List.append_nil]
      · refine ⟨st.head, [none], by rw [c]; exact List.getElem?_set_self r.hd, rfl, by simp, fun b' k' ne hb he => ?_⟩
        rw [List.getElem?_set_ne (fun z => ne z.symm)] at hb
        exact cl b' k' hb he
    · have hl : st.head < (st.x.bs.set st.head (st.x.blk st.head ++ [none])).length := by rw [List.length_set]; exact r.hd
      have hm : (st.head + 1) % st.x.bs.length < st.x.bs.length := Nat.mod_lt _ (by have := r.n4; omega)
      have hr := rot_mod hl
      rw [List.length_set] at hr
      refine ⟨(st.head + 1) % st.x.bs.length, N, List.replicate e [], data ++ [st.x.blk st.head ++ [none]], by rw [List.length_set]; exact hm, ?_, ?_, fun k hk => ?_, fun k hk => ?_, ?_, ?_, ?_, .inl ⟨?_, by rw [List.length_set]; exact h5.mono (Nat.le_succ C)⟩⟩
      · rw [hr, rot_setD r.hd, h1, List.append_assoc]
      · intro z
        have := congrArg List.length z
        rw [List.length_replicate] at this
        simp at this
        omega
      · rw [List.eq_of_mem_replicate hk]; rfl
      · rcases List.mem_append.mp hk with z | z
        · exact h3 k z
        · rw [List.mem_singleton.mp z, isEmpty_torn]; exact c
      · intro z; simp at z
      · rw [List.length_replicate, List.length_set, ← h4, Nat.add_mod, Nat.mod_mod, ← Nat.add_mod]
      · rw [hr, rot_setD r.hd]; exact hs2
      · intro b k hb he
        by_cases q : b = st.head
        · subst q
          rw [List.getElem?_set_self r.hd] at hb
          cases hb
          rw [isEmpty_torn, c] at he; cases he
        · rw [List.getElem?_set_ne (fun z => q z.symm)] at hb
          exact cl b k hb he

structure CG (S : Int) (f : Int → Int) (st1 : DS) (b p : Nat) (st : DS) : Prop where
  base : Base S f st
  hd : st.head = st1.head
  m : st.x.m = st1.x.m
  ws : st.x.wears = st1.x.wears
  bs : st.x.bs = st1.x.bs.set st1.head (st.x.blk st.head)
  all : ∀ pg ∈ st.x.blk st.head, ∃ r, pg = some r
  full : ∀ r, some r ∈ st.x.blk st.head → Top st.x.bs r
  src : ∀ r', some r' ∈ st.x.blk st.head → ∃ r, some r ∈ st1.x.blk b ∧ r.s = r'.s ∧ Top st1.x.bs r
  old : ∀ (p' : Nat) (r : Rec), p' < p → (st1.x.blk b)[p']? = some (some r) → ∃ r', Mem st.x.bs r' ∧ r'.s = r.s ∧ r.t < r'.t
  at_ : st.at_ ≤ p
  many : st.x.many = st1.x.many + st.at_
structure Begin (S : Int) (f : Int → Int) (st1 : DS) (b : Nat) : Prop where
  base : Base S f st1
  hb : b = st1.nextH
  em : st1.x.blk st1.head = []
section
variable {S : Int} {f : Int → Int} {st1 st : DS} {b p : Nat}
theorem Begin.lt (B : Begin S f st1 b) : b < st1.x.bs.length := by
  rw [B.hb]
  exact Nat.mod_lt _ (by have := B.base.n4; show 0 < st1.x.bs.length; omega)
theorem Begin.ne (B : Begin S f st1 b) : b ≠ st1.head := by
  rw [B.hb]
  have hl := B.base.hd
  have h4 := B.base.n4
  show (st1.head + 1) % st1.x.bs.length ≠ _
  intro z
  by_cases q : st1.head + 1 = st1.x.bs.length
  · rw [q, Nat.mod_self] at z; omega
  · rw [Nat.mod_eq_of_lt (by omega)] at z; omega
theorem Begin.at0 (B : Begin S f st1 b) : st1.at_ = 0 := by rw [B.base.at_, B.em]; rfl
theorem Begin.start (B : Begin S f st1 b) : CG S f st1 b 0 st1 := by
  have e : st1.x.bs = st1.x.bs.set st1.head (st1.x.blk st1.head) := by
    rw [← blkm' B.base.hd, List.set_getElem_self]
  refine ⟨B.base, rfl, rfl, rfl, e, fun pg h => ?_, fun r h => ?_, fun r h => ?_, fun p' r h => by omega, by rw [B.at0]; exact Nat.le_refl _, by rw [B.at0]; simp⟩
  all_goals
    rw [B.em] at h
    exact nomatch h
theorem CG.blkb (B : Begin S f st1 b) (c : CG S f st1 b p st) : st.x.bs[b]? = some (st1.x.blk b) := by
  rw [c.bs, List.getElem?_set_ne (fun z => B.ne z.symm)]
  exact blkm B.lt
theorem CG.mem1 (B : Begin S f st1 b) (c : CG S f st1 b p st) {r : Rec} (h : Mem st1.x.bs r) : Mem st.x.bs r := by
  obtain ⟨i, p', k, h1, h2⟩ := mem_at.mp h
  refine mem_at.mpr ⟨i, p', k, ?_, h2⟩
  rw [c.bs, List.getElem?_set_ne (fun z => ?_)]
  · exact h1
  · subst z
    have := blkm B.base.hd
    rw [this, B.em] at h1
    cases h1
    simp at h2
theorem CG.put (B : Begin S f st1 b) (c : CG S f st1 b p st) {r : Rec} (hr : (st1.x.blk b)[p]? = some (some r)) (lv : liveAt st.pl b p r = true) (hp : p < st1.x.m) (ok : (st.put r.s r.c).2 = true) : CG S f st1 b (p + 1) (st.put r.s r.c).1 := by
  have w := put_went ok
  have ha : At st.x.bs b p r := ⟨_, c.blkb B, hr⟩
  have top : Top st.x.bs r := (c.base.pl.live c.base.dist ha).mp lv
  obtain ⟨r0, r1, _⟩ := c.base.fit r ha.mem
  have hat : st.at_ < st.x.m := by
    have := c.at_
    rw [c.m]; omega
  have hfr : f r.s = r.c := by
    rcases c.base.val r.s r0 r1 with ⟨h1, _⟩ | ⟨r', h1, h2, h3, h4⟩
    · exact absurd rfl (h1 r ha.mem)
    · have a1 := top r' h1 h2
      have a2 := h4 r ha.mem h2.symm
      have := c.base.dist.rec_eq h1 ha.mem (by omega)
      rw [← h3, this]
  have bs2 := (c.base.put (c := r.c) r0 r1 hat ok).congr (g := f) fun s _ _ => by
    unfold upf
    by_cases q : s = r.s
    · rw [if_pos q, q, hfr]
    · rw [if_neg q]
  have hk := blkm c.base.hd
  have hhl : (st.put r.s r.c).1.x.blk (st.put r.s r.c).1.head = st.x.blk st.head ++ [some ⟨r.s, st.stamp, r.c⟩] := by
    have hl : st.head < (st.put r.s r.c).1.x.bs.length := by rw [w.bs, List.length_set]; exact c.base.hd
    have := blkm hl
    rw [w.bs, List.getElem?_set_self c.base.hd] at this
    rw [w.head]
    exact (Option.some.inj this).symm
  have hm : ∀ r', Mem (st.put r.s r.c).1.x.bs r' ↔ Mem st.x.bs r' ∨ r' = ⟨r.s, st.stamp, r.c⟩ := fun r' => by rw [w.bs]; exact mem_put hk
  have inb : some r ∈ st1.x.blk b := List.mem_of_getElem? hr
  have diff : ∀ r', some r' ∈ st.x.blk st.head → r'.s ≠ r.s := fun r' hr' e => by
    have mem' : Mem st.x.bs r' := ⟨_, List.mem_of_getElem? hk, hr'⟩
    have a1 := top r' mem' e
    have hs := c.base.srt
    rw [rot_lastD c.base.hd] at hs
    have hmid : Mem (mid st.x.bs st.head) r := by
      rcases (mem_mid c.base.hd).mp ha.mem with z | z
      · exact z
      · exfalso
        have hh : st.x.bs[st.head]? = some (st.x.bs[st.head]'c.base.hd) := List.getElem?_eq_getElem c.base.hd
        obtain ⟨q, hq⟩ := List.getElem?_of_mem z
        have e2 := c.base.dist _ _ _ _ _ _ ha ⟨_, hh, hq⟩ rfl
        exact B.ne (by rw [e2.1]; exact c.hd)
    have := hs.lt hmid (mem_one.mpr hr')
    omega
  refine ⟨bs2, w.head.trans c.hd, w.m.trans c.m, w.wears.trans c.ws, ?_, ?_, ?_, ?_, ?_, ?_, ?_⟩
  · rw [hhl, w.bs, c.hd]
    conv => lhs; rw [c.bs]
    rw [List.set_set]
  · intro pg h
    rw [hhl] at h
    rcases List.mem_append.mp h with z | z
    · exact c.all pg z
    · exact ⟨_, List.mem_singleton.mp z⟩
  · intro r' h r'' hm'' es
    rw [hhl] at h
    rcases List.mem_append.mp h with z | z
    · rcases (hm r'').mp hm'' with y | y
      · exact c.full r' z r'' y es
      · rw [y] at es
        exact absurd es.symm (diff r' z)
    · have e := Option.some.inj (List.mem_singleton.mp z)
      rw [e]
      rcases (hm r'').mp hm'' with y | y
      · exact Int.le_of_lt (c.base.stamp r'' y)
      · rw [y]; exact Int.le_refl _
  · intro r' h
    rw [hhl] at h
    rcases List.mem_append.mp h with z | z
    · exact c.src r' z
    · have e := Option.some.inj (List.mem_singleton.mp z)
      rw [e]
      exact ⟨r, inb, rfl, fun r'' hr'' es => top r'' (c.mem1 B hr'') es⟩
  · intro p' r' hp' hr'
    by_cases q : p' < p
    · obtain ⟨r'', y1, y2, y3⟩ := c.old p' r' q hr'
      exact ⟨r'', (hm r'').mpr (.inl y1), y2, y3⟩
    · have e : p' = p := by omega
      subst e
      rw [hr] at hr'
      cases hr'
      exact ⟨⟨r.s, st.stamp, r.c⟩, (hm _).mpr (.inr rfl), rfl, c.base.stamp r ha.mem⟩
  · rw [w.at_]
    have := c.at_
    omega
  · rw [w.many, w.at_, c.many]
    omega
theorem CG.skip (B : Begin S f st1 b) (c : CG S f st1 b p st) (h : ∀ r, (st1.x.blk b)[p]? = some (some r) → liveAt st.pl b p r ≠ true) : CG S f st1 b (p + 1) st := by
  refine { c with at_ := Nat.le_succ_of_le c.at_, old := fun p' r hp' hr => ?_ }
  by_cases q : p' < p
  · exact c.old p' r q hr
  · have e : p' = p := by omega
    subst e
    have ha : At st.x.bs b p' r := ⟨_, c.blkb B, hr⟩
    have nt := fun t => h r hr ((c.base.pl.live c.base.dist ha).mpr t)
    refine Classical.byContradiction fun z => nt fun r' hr' es => ?_
    refine Classical.byContradiction fun y => z ⟨r', hr', es, by omega⟩
structure CutGo (S : Int) (f : Int → Int) (st1 : DS) (b : Nat) (x : DC) : Prop where
  ex : ∃ st p, CG S f st1 b p st ∧ st.at_ < st1.x.m ∧ x.m = st1.x.m ∧ x.wears = st1.x.wears ∧ (x.bs = st.x.bs ∨ x.bs = st.x.bs.set st.head (st.x.blk st.head ++ [none])) ∧ x.many ≤ st1.x.many + st1.x.m
theorem cleanGo_ok (B : Begin S f st1 b) : ∀ (l : Blk) (p : Nat) (st : DS), CG S f st1 b p st → (st1.x.blk b).drop p = l → p + l.length ≤ st1.x.m →
    ((cleanGo b l p st).2 = true → CG S f st1 b (p + l.length) (cleanGo b l p st).1) ∧ ((cleanGo b l p st).2 = false → CutGo S f st1 b (cleanGo b l p st).1.x)
  | [], p, st, c, _, _ => ⟨fun _ => c, fun h => nomatch h⟩
  | none :: l, p, st, c, e, hm => by
    have hp : (st1.x.blk b)[p]? = some none := by
      have := congrArg (fun z => z[0]?) e
      simpa using this
    have e2 : (st1.x.blk b).drop (p + 1) = l := by
      have := congrArg List.tail e
      rw [List.tail_drop] at this
      exact this
    have c2 := c.skip B fun r hr => by rw [hp] at hr; cases hr
    have hm2 : p + 1 + l.length ≤ st1.x.m := by have : p + (l.length + 1) ≤ st1.x.m := hm; omega
    have := cleanGo_ok B l (p + 1) st c2 e2 hm2
    rw [show p + (none :: l).length = p + 1 + l.length by rw [List.length_cons]; omega]
    exact this
  | some r :: l, p, st, c, e, hm => by
    have hp : (st1.x.blk b)[p]? = some (some r) := by
      have := congrArg (fun z => z[0]?) e
      simpa using this
    have e2 : (st1.x.blk b).drop (p + 1) = l := by
      have := congrArg List.tail e
      rw [List.tail_drop] at this
      exact this
    have hm' : p + (l.length + 1) ≤ st1.x.m := hm
    have hm2 : p + 1 + l.length ≤ st1.x.m := by omega
    rw [show p + (some r :: l).length = p + 1 + l.length by rw [List.length_cons]; omega]
    show (((if liveAt st.pl b p r = true then (if (st.put r.s r.c).2 = true then cleanGo b l (p + 1) (st.put r.s r.c).1 else ((st.put r.s r.c).1, false)) else cleanGo b l (p + 1) st).2 = true) → CG S f st1 b (p + 1 + l.length) (if liveAt st.pl b p r = true then (if (st.put r.s r.c).2 = true then cleanGo b l (p + 1) (st.put r.s r.c).1 else ((st.put r.s r.c).1, false)) else cleanGo b l (p + 1) st).1) ∧
      (((if liveAt st.pl b p r = true then (if (st.put r.s r.c).2 = true then cleanGo b l (p + 1) (st.put r.s r.c).1 else ((st.put r.s r.c).1, false)) else cleanGo b l (p + 1) st).2 = false) → CutGo S f st1 b (if liveAt st.pl b p r = true then (if (st.put r.s r.c).2 = true then cleanGo b l (p + 1) (st.put r.s r.c).1 else ((st.put r.s r.c).1, false)) else cleanGo b l (p + 1) st).1.x)
    by_cases lv : liveAt st.pl b p r = true
    · rw [if_pos lv]
      by_cases ok : (st.put r.s r.c).2 = true
      · rw [if_pos ok]
        exact cleanGo_ok B l (p + 1) _ (c.put B hp lv (by omega) ok) e2 hm2
      · rw [if_neg ok]
        refine ⟨fun h => (nomatch h), fun _ => ⟨st, p, c, ?_, ?_⟩⟩
        · have := c.at_
          omega
        · have okf : (st.put r.s r.c).2 = false := by
            cases q : (st.put r.s r.c).2 with
            | true => exact absurd q ok
            | false => rfl
          obtain ⟨pf, ef⟩ := put_false okf
          rw [ef]
          have hat := c.at_
          have hmy := c.many
          rcases put_cases st.x st.head ⟨r.s, st.stamp, r.c⟩ with ⟨h0, _⟩ | ⟨_, h1, h2, h3, h4⟩ | ⟨_, h1⟩
          · rw [pf] at h0; cases h0
          · refine ⟨h2.trans c.m, h3.trans c.ws, .inr h1, ?_⟩
            show (st.x.put st.head ⟨r.s, st.stamp, r.c⟩).1.many ≤ _
            rw [h4]; omega
          · show (st.x.put st.head ⟨r.s, st.stamp, r.c⟩).1.m = _ ∧ (st.x.put st.head ⟨r.s, st.stamp, r.c⟩).1.wears = _ ∧ ((st.x.put st.head ⟨r.s, st.stamp, r.c⟩).1.bs = _ ∨ (st.x.put st.head ⟨r.s, st.stamp, r.c⟩).1.bs = _) ∧ (st.x.put st.head ⟨r.s, st.stamp, r.c⟩).1.many ≤ _
            rw [h1]
            exact ⟨c.m, c.ws, .inl rfl, by omega⟩
    · rw [if_neg lv]
      exact cleanGo_ok B l (p + 1) st (c.skip B fun r' hr' => by rw [hp] at hr'; cases hr'; exact lv) e2 hm2
end
def Stale (bs : List Blk) (b : Nat) : Prop := ∀ k, bs[b]? = some k → ∀ r, some r ∈ k → ∃ r', Mem bs r' ∧ r'.s = r.s ∧ r.t < r'.t
section
variable {bs : List Blk} {b : Nat} {k : Blk}
theorem Stale.val (h : Stale bs b) (hb : b < bs.length) (hk : isEmpty k = true) {s c : Int} (v : Val bs s c) : Val (bs.set b k) s c := by
  have sub : ∀ r, Mem (bs.set b k) r → Mem bs r := fun r hr => (mem_mid hb).mpr (.inl ((mem_set_empty hk hb).mp hr))
  rcases v with ⟨h1, h2⟩ | ⟨r, h1, h2, h3, h4⟩
  · exact .inl ⟨fun r hr => h1 r (sub r hr), h2⟩
  · refine .inr ⟨r, (mem_set_empty hk hb).mpr ?_, h2, h3, fun r' hr' => h4 r' (sub r' hr')⟩
    rcases (mem_mid hb).mp h1 with z | z
    · exact z
    · obtain ⟨r', y1, y2, y3⟩ := h _ (List.getElem?_eq_getElem hb) r z
      have := h4 r' y1 y2
      omega
theorem Stale.pl (h : Stale bs b) (hb : b < bs.length) (hk : isEmpty k = true) {pl : Int → Option Pl} (o : PlOk bs pl) : PlOk (bs.set b k) pl where
  no := fun s e r hr => o.no s e r ((mem_mid hb).mpr (.inl ((mem_set_empty hk hb).mp hr)))
  yes := fun s e q => by
    obtain ⟨r, h1, h2, h3, h4, h5⟩ := o.yes s e q
    refine ⟨r, (at_set_empty hk hb).mpr ⟨fun z => ?_, h1⟩, h2, h3, h4, fun r' hr' => h5 r' ((mem_mid hb).mpr (.inl ((mem_set_empty hk hb).mp hr')))⟩
    obtain ⟨k', g1, g2⟩ := h1
    rw [z] at g1
    obtain ⟨r', y1, y2, y3⟩ := h k' g1 r (List.mem_of_getElem? g2)
    have := h5 r' y1 y2
    omega
theorem basic_empty {S : Int} {m : Nat} (B : Basic S bs m) (hb : b < bs.length) (hk : isEmpty k = true) (hl : k.length ≤ m) : Basic S (bs.set b k) m where
  n4 := by rw [List.length_set]; exact B.n4
  m2 := B.m2
  room := by rw [List.length_set]; exact B.room
  fit := fun r hr => B.fit r ((mem_mid hb).mpr (.inl ((mem_set_empty hk hb).mp hr)))
  dist := B.dist.sub fun _ _ _ z => ((at_set_empty hk hb).mp z).2
  len := fun k' hk' => by
    rcases List.mem_or_eq_of_mem_set hk' with y | y
    · exact B.len k' y
    · rw [y]; exact hl
end
theorem isEmpty_rep (m : Nat) : isEmpty (List.replicate m none) = true := isEmpty_iff.mpr fun r h => by
  have := List.eq_of_mem_replicate h
  cases this

def FullB (bs : List Blk) (m : Nat) (k : Blk) : Prop := k.length = m ∧ ∀ pg ∈ k, ∃ r, pg = some r ∧ Top bs r
theorem mid_ne {α : Type} {bs : List α} {h i : Nat} {k : α} (e : bs[i]? = some k) (ne : i ≠ h) : k ∈ mid bs h := by
  unfold mid
  rw [List.mem_append]
  by_cases q : i < h
  · right
    refine List.mem_of_getElem? (i := i) ?_
    rw [List.getElem?_take, if_pos q]; exact e
  · left
    refine List.mem_of_getElem? (i := i - (h + 1)) ?_
    rw [List.getElem?_drop, show h + 1 + (i - (h + 1)) = i by omega]; exact e
section
variable {S : Int} {f : Int → Int} {st1 : DS} {b N C : Nat}
theorem mid_two {bs : List Blk} {h : Nat} (hl : h < bs.length) (h4 : 4 ≤ bs.length) : ∃ k0 rest, mid bs h = k0 :: rest ∧ rest ≠ [] := by
  have := mid_len hl
  match e : mid bs h with
  | [] => rw [e] at this; simp at this; omega
  | [k] => rw [e] at this; simp at this; omega
  | k :: k2 :: r => exact ⟨k, k2 :: r, rfl, by simp⟩
theorem val_mid (B : Begin S f st1 b) {s c : Int} : Val st1.x.bs s c → Val (mid st1.x.bs st1.head) s c := fun v => v.congr fun r => by
  rw [mem_mid B.base.hd, blkm' B.base.hd, B.em]
  exact ⟨fun z => z.elim id fun y => (nomatch y), .inl⟩
theorem good_amid (B : Begin S f st1 b) (hD : ∀ k ∈ mid st1.x.bs st1.head, isEmpty k = false) (hN : b = N % st1.x.bs.length) (W : WearOk st1.x.bs.length st1.x.wears N C) {x : DC} {cur : Blk}
    (hbs : x.bs = st1.x.bs.set st1.head cur) (hm : x.m = st1.x.m) (hw : x.wears = st1.x.wears) (bas : Basic S x.bs x.m) (hs : Srt (mid st1.x.bs st1.head ++ [cur])) (hv : ∀ s, 0 ≤ s → s < S → Val x.bs s (f s)) : Good S f (C + 1) x := by
  have hn : x.bs.length = st1.x.bs.length := by rw [hbs, List.length_set]
  have hl : st1.head < x.bs.length := by rw [hn]; exact B.base.hd
  obtain ⟨k0, rest, em, er⟩ := mid_two B.base.hd B.base.n4
  have hN2 : (st1.head + 1) % x.bs.length = N % x.bs.length := by
    rw [hn, ← hN, B.hb]; rfl
  cases hc : isEmpty cur with
  | true =>
    refine .inl { toBasic := bas, val := hv, a := ⟨st1.head, N, [cur], mid st1.x.bs st1.head, hl, ?_, by simp, fun k hk => ?_, hD, fun z => by rw [em] at z; simp at z, hN2, ?_, ?_⟩ }
    · rw [hbs, rot_set1 B.base.hd]; rfl
    · rw [List.mem_singleton.mp hk]; exact hc
    · refine hs.of_recs ?_
      rw [hbs, rot_set1 B.base.hd, recs_append]
      show recs ([cur] ++ _) = _
      rw [recs_append, recs_empty (E := [cur]) fun k hk => by rw [List.mem_singleton.mp hk]; exact hc, List.nil_append, List.append_nil]
      rfl
    · have others : ∀ (b' : Nat) (k' : Blk), b' ≠ st1.head → x.bs[b']? = some k' → isEmpty k' = true → k' = [] := fun b' k' ne hb he => by
        exfalso
        rw [hbs, List.getElem?_set_ne (fun z => ne z.symm)] at hb
        have : k' ∈ mid st1.x.bs st1.head := mid_ne hb ne
        rw [hD k' this] at he; cases he
      by_cases q : cur = []
      · refine .inl ⟨fun b' k' hb he => ?_, by rw [hn, hw]; exact W.mono (Nat.le_succ C)⟩
        by_cases z : b' = st1.head
        · subst z
          rw [hbs, List.getElem?_set_self B.base.hd] at hb
          cases hb; exact q
        · exact others b' k' z hb he
      · refine .inr ⟨⟨st1.head, cur, by rw [hbs]; exact List.getElem?_set_self B.base.hd, hc, q, others⟩, C, Nat.le_refl _, by rw [hn, hw]; exact W⟩
  | false =>
    refine .inr { toBasic := bas, b := ⟨st1.head, N, C, hl, fun k hk => ?_, hN2, ?_, Nat.le_refl _, by rw [hn, hw]; exact W, fun s h0 h1 => ?_⟩ }
    · have h1 : k ∈ rot x.bs (st1.head + 1) := mem_rot.mpr hk
      rw [hbs, rot_setD B.base.hd] at h1
      rcases List.mem_append.mp h1 with z | z
      · exact hD k z
      · rw [List.mem_singleton.mp z]; exact hc
    · rw [hbs, rot_setD B.base.hd]; exact hs
    · rw [hbs, mid_set]
      exact val_mid B (B.base.val s h0 h1)
end

theorem sum_put : ∀ {ws : List Int} {b : Nat}, (ws.set b (ws.getD b 0 + 1)).sum ≤ ws.sum + 1
  | [], b => by simp
  | w :: ws, 0 => by
    show ((w + 1) :: ws).sum ≤ (w :: ws).sum + 1
    rw [List.sum_cons, List.sum_cons]
    omega
  | w :: ws, b + 1 => by
    have h := sum_put (ws := ws) (b := b)
    have e : (w :: ws).getD (b + 1) 0 = ws.getD b 0 := by rw [List.getD_cons_succ]
    show (w :: ws.set b ((w :: ws).getD (b + 1) 0 + 1)).sum ≤ _
    rw [e, List.sum_cons, List.sum_cons]
    omega
structure Adds (x x' : DC) (a e : Int) : Prop where
  many : x'.many ≤ x.many + a
  ws : x'.wears.sum ≤ x.wears.sum + e
theorem Adds.trans {x x1 x2 : DC} {a e a' e' : Int} (h : Adds x x1 a e) (h' : Adds x1 x2 a' e') : Adds x x2 (a + a') (e + e') := ⟨by have := h.many; have := h'.many; omega, by have := h.ws; have := h'.ws; omega⟩
theorem Adds.mono {x x' : DC} {a e a' e' : Int} (h : Adds x x' a e) (ha : a ≤ a') (he : e ≤ e') : Adds x x' a' e' := ⟨by have := h.many; omega, by have := h.ws; omega⟩
section
variable {S : Int} {f : Int → Int} {st1 : DS} {b N C : Nat}
structure Cleaned (S : Int) (f : Int → Int) (C : Nat) (st1 : DS) (b : Nat) (st2 : DS) : Prop where
  ready : Ready S f C st2
  hd : st2.head = st1.head
  m : st2.x.m = st1.x.m
  n : st2.x.bs.length = st1.x.bs.length
  mid : ∃ k0 rest, mid st1.x.bs st1.head = k0 :: rest ∧ mid st2.x.bs st2.head = [] :: rest
  keep : ∀ k0 rest, Ew.mid st1.x.bs st1.head = k0 :: rest → ∀ k ∈ rest, FullB st1.x.bs st1.x.m k → FullB st2.x.bs st2.x.m k
  cur : ∀ pg ∈ st2.x.blk st2.head, ∃ r, pg = some r ∧ Top st2.x.bs r
theorem mid_first {bs : List Blk} {j : Nat} {k0 : Blk} {rest : List Blk} (hj : j < bs.length) (hb : (j + 1) % bs.length < bs.length) (e : mid bs j = k0 :: rest) :
    bs[(j + 1) % bs.length]? = some k0 ∧ mid bs ((j + 1) % bs.length) = rest ++ [bs[j]] := by
  have h1 := rot_mod hj
  rw [rot_first hb, rot_last hj, e] at h1
  have h2 := List.cons.inj h1
  refine ⟨?_, h2.2⟩
  rw [List.getElem?_eq_getElem hb, h2.1]
theorem clean_ok (B : Begin S f st1 b) (hD : ∀ k ∈ mid st1.x.bs st1.head, isEmpty k = false) (hN : b = N % st1.x.bs.length) (W : WearOk st1.x.bs.length st1.x.wears N C) :
    ((st1.clean b).2 = true → Cleaned S f C st1 b (st1.clean b).1) ∧ ((st1.clean b).2 = false → Good S f (C + 1) (st1.clean b).1.x) ∧ Adds st1.x (st1.clean b).1.x st1.x.m 1 := by
  have hbl := B.lt
  have hlen : (st1.x.blk b).length ≤ st1.x.m := B.base.len _ (List.mem_of_getElem? (blkm hbl))
  obtain ⟨g1, g2⟩ := cleanGo_ok B (st1.x.blk b) 0 st1 B.start (List.drop_zero) (by omega)
  unfold DS.clean
  cases hA : (cleanGo b (st1.x.blk b) 0 st1).2 with
  | false =>
    rw [if_neg Bool.false_ne_true]
    obtain ⟨st, p, c, hat, hm, hw, hbs, hmy⟩ := (g2 hA).ex
    refine ⟨fun h => (nomatch h), fun _ => ?_, ⟨hmy, by rw [hw]; omega⟩⟩
    have hs := c.base.srt
    rw [rot_lastD c.base.hd] at hs
    have emid : mid st.x.bs st.head = mid st1.x.bs st1.head := by rw [c.bs, c.hd, mid_set]
    rw [emid] at hs
    rcases hbs with e | e
    · refine good_amid B hD hN W (cur := st.x.blk st.head) (by rw [e]; exact c.bs) hm hw ?_ hs fun s h0 h1 => by rw [e]; exact c.base.val s h0 h1
      rw [e, hm, ← c.m]; exact c.base.basic
    · refine good_amid B hD hN W (cur := st.x.blk st.head ++ [none]) ?_ hm hw ?_ hs.torn fun s h0 h1 => ?_
      · rw [e]
        conv => lhs; rw [c.bs]
        rw [c.hd, List.set_set]
      · rw [e, hm, ← c.m]
        exact basic_torn c.base.basic (blkm c.base.hd) (by rw [← c.base.at_, c.m]; exact hat)
      · rw [e]
        exact (c.base.val s h0 h1).congr fun r => (mem_torn (blkm c.base.hd)).symm
  | true =>
    rw [if_pos rfl]
    have c := g1 hA
    rw [Nat.zero_add] at c
    generalize hst : (cleanGo b (st1.x.blk b) 0 st1).1 = st at *
    have hbn : b < st.x.bs.length := by rw [c.bs, List.length_set]; exact hbl
    have hn : st.x.bs.length = st1.x.bs.length := by rw [c.bs, List.length_set]
    have stale : Stale st.x.bs b := fun k hk r hr => by
      rw [c.blkb B] at hk
      cases hk
      obtain ⟨p', hp'⟩ := List.getElem?_of_mem hr
      exact c.old p' r (List.getElem?_eq_some_iff.mp hp').1 hp'
    obtain ⟨k0, rest, em, er⟩ := mid_two B.base.hd B.base.n4
    have emid : mid st.x.bs st.head = k0 :: rest := by rw [c.bs, c.hd, mid_set]; exact em
    have ebn : (st.head + 1) % st.x.bs.length = b := by rw [c.hd, hn, B.hb]; rfl
    have hmf := mid_first c.base.hd (by rw [ebn]; exact hbn) emid
    rw [ebn, blkm' c.base.hd] at hmf
    obtain ⟨hk0, hmb⟩ := hmf
    have hcur : st.x.blk st.head = [] ∨ isEmpty (st.x.blk st.head) = false := by
      cases q : isEmpty (st.x.blk st.head) with
      | false => exact .inr rfl
      | true =>
        left
        match e : st.x.blk st.head with
        | [] => rfl
        | pg :: l =>
          obtain ⟨r, hr⟩ := c.all pg (by rw [e]; exact List.mem_cons_self)
          exact absurd (by rw [e, hr]; exact List.mem_cons_self) (isEmpty_iff.mp q r)
    have hs := c.base.srt
    rw [rot_lastD c.base.hd, emid] at hs
    have hs2 : Srt (rest ++ [st.x.blk st.head]) := Srt.right (a := [k0]) hs
    have hne : b ≠ st.head := by rw [c.hd]; exact B.ne
    have hD' : ∀ k ∈ rest, isEmpty k = false := fun k hk => hD k (by rw [em]; exact List.mem_cons_of_mem _ hk)
    have ring2 : ∀ (k : Blk), rot (st.x.bs.set b k) (st.head + 1) = k :: rest ++ [st.x.blk st.head] ∧ rot (st.x.bs.set b k) b = k :: rest ++ [st.x.blk st.head] := fun k => by
      have h1 : rot (st.x.bs.set b k) b = k :: (rest ++ [st.x.blk st.head]) := by rw [rot_set1 hbn, hmb]
      have h2 := rot_mod (l := st.x.bs.set b k) (i := st.head) (by rw [List.length_set]; exact c.base.hd)
      rw [List.length_set, ebn] at h2
      exact ⟨by rw [← h2, h1]; rfl, h1⟩
    have hblk : ∀ (k : Blk), (st.x.bs.set b k)[st.head]? = some (st.x.blk st.head) := fun k => by
      rw [List.getElem?_set_ne hne]; exact blkm c.base.hd
    have mid2 : ∀ (k : Blk), mid (st.x.bs.set b k) st.head = k :: rest := fun k => by
      have hl : st.head < (st.x.bs.set b k).length := by rw [List.length_set]; exact c.base.hd
      have h1 := (ring2 k).1
      rw [rot_last hl] at h1
      have h2 := hblk k
      rw [List.getElem?_eq_getElem hl] at h2
      rw [Option.some.inj h2] at h1
      exact List.append_cancel_right h1
    have wN : (st.head + 1 + 1) % st.x.bs.length = (N + 1) % st.x.bs.length := by
      have e : (st.head + 1) % st.x.bs.length = N % st.x.bs.length := by rw [ebn, hn]; exact hN
      rw [Nat.add_mod (st.head + 1), e, ← Nat.add_mod]
    have wW : WearOk st1.x.bs.length (st1.x.wears.set b (st1.x.wears.getD b 0 + 1)) (N + 1) C := W.next hbl hN.symm
    have hat := c.at_
    have hmy := c.many
    have subE : ∀ (k : Blk), isEmpty k = true → ∀ r, Mem (st.x.bs.set b k) r → Mem st.x.bs r := fun k hk r hr => (mem_mid hbn).mpr (.inl ((mem_set_empty hk hbn).mp hr))
    rcases erase_cases st.x b with ⟨e0, e1, e2, e3, e4⟩ | ⟨e0, e1, e2, e3, e4⟩ | ⟨e0, e1⟩
    · -- it goes
      refine ⟨fun _ => ?_, fun h => ?_, ⟨?_, ?_⟩⟩
      rotate_left
      · rw [show ({ st with x := (st.x.erase b).1 } : DS).x = (st.x.erase b).1 from rfl] at *
        have h : (st.x.erase b).2 = false := h
        rw [e0] at h; cases h
      · show (st.x.erase b).1.many ≤ _
        rw [e4, hmy]; omega
      · show (st.x.erase b).1.wears.sum ≤ _
        rw [e3, c.ws]; exact sum_put
      have hxb : ({ st with x := (st.x.erase b).1 } : DS).x.bs = st.x.bs.set b [] := e1
      have hxm : ({ st with x := (st.x.erase b).1 } : DS).x.m = st.x.m := e2
      have hblk2 : ({ st with x := (st.x.erase b).1 } : DS).x.blk st.head = st.x.blk st.head := by
        have hl : st.head < ({ st with x := (st.x.erase b).1 } : DS).x.bs.length := by rw [hxb, List.length_set]; exact c.base.hd
        have := blkm hl
        rw [hxb, hblk []] at this
        exact (Option.some.inj this).symm
      have bas := basic_empty c.base.basic hbn isEmpty_nil (Nat.zero_le _)
      have top2 : ∀ r, Top st.x.bs r → Top (st.x.bs.set b []) r := fun r h r' hr' => h r' (subE [] rfl r' hr')
      refine ⟨{ toBase := ⟨c.base.hS, by rw [hxb]; exact bas.n4, by rw [hxm]; exact bas.m2, by rw [hxb, hxm]; exact bas.room, by rw [hxb, List.length_set]; exact c.base.hd, by rw [hxb]; exact bas.fit, by rw [hxb]; exact bas.dist, by rw [hxb, hxm]; exact bas.len, ?_, ?_, fun r hr => ?_, c.base.st0, ?_, fun s h0 h1 => ?_⟩, q := ?_, cur := ?_ }, c.hd, e2.trans c.m, ?_, ⟨k0, rest, em, ?_⟩, fun k0' rest' em' k hk fb => ?_, fun pg hpg => ?_⟩
      · rw [hxb]
        show Srt (rot (st.x.bs.set b []) (st.head + 1))
        rw [(ring2 []).1]
        exact hs2.of_recs (by show recs ([[]] ++ (rest ++ [st.x.blk st.head])) = _; rw [recs_append, recs_one]; rfl)
      · show st.at_ = _
        rw [hblk2]; exact c.base.at_
      · rw [hxb] at hr
        exact c.base.stamp r (subE [] rfl r hr)
      · rw [hxb]; exact stale.pl hbn isEmpty_nil c.base.pl
      · rw [hxb]; exact stale.val hbn isEmpty_nil (c.base.val s h0 h1)
      · refine ⟨1, N + 1, rest, ?_, Nat.le_refl _, hD', ?_, ?_, fun _ z => absurd z er⟩
        · rw [hxb]
          show mid (st.x.bs.set b []) st.head = _
          rw [mid2]; rfl
        · rw [hxb, List.length_set]; exact wN
        · rw [hxb, List.length_set]
          show WearOk _ (st.x.erase b).1.wears _ _
          rw [e3, c.ws, hn]; exact wW
      · show ({ st with x := (st.x.erase b).1 } : DS).x.blk st.head = [] ∨ isEmpty (({ st with x := (st.x.erase b).1 } : DS).x.blk st.head) = false
        rw [hblk2]; exact hcur
      · rw [hxb, List.length_set]; exact hn
      · rw [hxb]
        show mid (st.x.bs.set b []) st.head = _
        rw [mid2]
      · rw [em] at em'
        obtain ⟨rfl, rfl⟩ := List.cons.inj em'
        refine ⟨by rw [hxm, c.m]; exact fb.1, fun pg hpg => ?_⟩
        obtain ⟨r, er1, tr⟩ := fb.2 pg hpg
        refine ⟨r, er1, ?_⟩
        rw [hxb]
        refine top2 r fun r' hr' es => ?_
        have hkr : Mem rest r := ⟨k, hk, by rw [← er1]; exact hpg⟩
        have hr1 : Mem st1.x.bs r := (mem_mid B.base.hd).mpr (.inl (by rw [em]; exact mem_cons.mpr (.inr hkr)))
        rcases (mem_mid c.base.hd).mp hr' with z | z
        · refine tr r' ((mem_mid B.base.hd).mpr (.inl ?_)) es
          rw [em, ← emid]; exact z
        · rw [blkm' c.base.hd] at z
          exfalso
          obtain ⟨rb, q1, q2, q3⟩ := c.src r' z
          have hbk : st1.x.blk b = k0 := by
            have := c.blkb B
            rw [hk0] at this
            exact (Option.some.inj this).symm
          have hrb : Mem st1.x.bs rb := ⟨_, List.mem_of_getElem? (blkm hbl), q1⟩
          have a1 := tr rb hrb (q2.trans es)
          have a2 := q3 r hr1 (es.symm.trans q2.symm)
          have hs1 := B.base.srt
          rw [rot_lastD B.base.hd, em] at hs1
          have hs1 : Srt ([k0] ++ (rest ++ [st1.x.blk st1.head])) := hs1
          have := hs1.lt (mem_one.mpr (by rw [← hbk]; exact q1)) (mem_append.mpr (.inl hkr))
          omega
      · have hpg : pg ∈ ({ st with x := (st.x.erase b).1 } : DS).x.blk st.head := hpg
        rw [hblk2] at hpg
        obtain ⟨r, hr⟩ := c.all pg hpg
        refine ⟨r, hr, ?_⟩
        rw [hxb]
        exact top2 r (c.full r (by rw [← hr]; exact hpg))
    · -- it is cut: the block is torn
      refine ⟨fun h => ?_, fun _ => ?_, ⟨?_, ?_⟩⟩
      · have h : (st.x.erase b).2 = true := h
        rw [e0] at h; cases h
      rotate_left
      · show (st.x.erase b).1.many ≤ _
        rw [e4, hmy]; omega
      · show (st.x.erase b).1.wears.sum ≤ _
        rw [e3, c.ws]; exact sum_put
      show Good S f (C + 1) (st.x.erase b).1
      have iT := isEmpty_rep st.x.m
      have bas := basic_empty c.base.basic hbn iT (by rw [List.length_replicate]; exact Nat.le_refl _)
      have T1 : ∀ (E : List Blk), True := fun _ => trivial
      have torn1 : Torn1 (st.x.bs.set b (List.replicate st.x.m none)) := by
        refine ⟨b, _, List.getElem?_set_self hbn, iT, fun z => ?_, fun b' k' ne hb he => ?_⟩
        · have := congrArg List.length z
          rw [List.length_replicate] at this
          have := c.base.m2
          simp at *
          omega
        · have hk' : k' ∈ rest ++ [st.x.blk st.head] := by
            rw [List.getElem?_set_ne (fun z => ne z.symm)] at hb
            rw [← hmb]; exact mid_ne hb ne
          rcases List.mem_append.mp hk' with z | z
          · rw [hD' k' z] at he; cases he
          · rw [List.mem_singleton.mp z] at he ⊢
            rcases hcur with q | q
            · exact q
            · rw [q] at he; cases he
      have vals : ∀ s, 0 ≤ s → s < S → Val (st.x.bs.set b (List.replicate st.x.m none)) s (f s) := fun s h0 h1 => stale.val hbn iT (c.base.val s h0 h1)
      have rT : recs ([List.replicate st.x.m none] : List Blk) = [] := recs_empty fun k hk => by rw [List.mem_singleton.mp hk]; exact iT
      refine .inl ?_
      rw [e1, e2, e3, c.ws]
      have wW2 : ∃ C', C' + 1 ≤ C + 1 ∧ WearOk (st.x.bs.set b (List.replicate st.x.m none)).length (st1.x.wears.set b (st1.x.wears.getD b 0 + 1)) (N + 1) C' := ⟨C, Nat.le_refl _, by rw [List.length_set, hn]; exact wW⟩
      rcases hcur with q | q
      · refine { toBasic := bas, val := vals, a := ⟨st.head, N + 1, [[], List.replicate st.x.m none], rest, by rw [List.length_set]; exact c.base.hd, ?_, by simp, fun k hk => ?_, hD', fun z => absurd z er, ?_, ?_, .inr ⟨torn1, wW2⟩⟩ }
        · have hl : st.head < (st.x.bs.set b (List.replicate st.x.m none)).length := by rw [List.length_set]; exact c.base.hd
          have h2 := hblk (List.replicate st.x.m none)
          rw [List.getElem?_eq_getElem hl, q] at h2
          rw [rot_first hl, Option.some.inj h2, mid2]; rfl
        · rcases List.mem_cons.mp hk with z | z
          · rw [z]; rfl
          · rw [List.mem_singleton.mp z]; exact iT
        · rw [List.length_set]; exact wN
        · have hl : st.head < (st.x.bs.set b (List.replicate st.x.m none)).length := by rw [List.length_set]; exact c.base.hd
          have h2 := hblk (List.replicate st.x.m none)
          rw [List.getElem?_eq_getElem hl, q] at h2
          rw [rot_first hl, Option.some.inj h2, mid2]
          refine hs2.of_recs ?_
          show recs ([[]] ++ ([List.replicate st.x.m none] ++ rest)) = recs (rest ++ [st.x.blk st.head])
          rw [recs_append, recs_append, recs_append, rT, q, recs_one]
          show [] ++ ([] ++ _) = _ ++ []
          rw [List.nil_append, List.nil_append, List.append_nil]
      · refine { toBasic := bas, val := vals, a := ⟨b, N + 1, [List.replicate st.x.m none], rest ++ [st.x.blk st.head], by rw [List.length_set]; exact hbn, ?_, by simp, fun k hk => ?_, fun k hk => ?_, fun z => by simp at z, ?_, ?_, .inr ⟨torn1, wW2⟩⟩ }
        · rw [(ring2 _).2]; rfl
        · rw [List.mem_singleton.mp hk]; exact iT
        · rcases List.mem_append.mp hk with z | z
          · exact hD' k z
          · rw [List.mem_singleton.mp z]; exact q
        · rw [List.length_set]
          show (b + 1) % _ = _
          rw [← wN, Nat.add_mod (st.head + 1), ebn, Nat.add_mod b]
          congr 2
          rw [Nat.mod_eq_of_lt hbn]
        · rw [(ring2 _).2]
          refine hs2.of_recs ?_
          show recs ([List.replicate st.x.m none] ++ (rest ++ [st.x.blk st.head])) = _
          rw [recs_append, rT, List.nil_append]
    · -- nothing happens
      refine ⟨fun h => ?_, fun _ => ?_, ⟨?_, ?_⟩⟩
      · have h : (st.x.erase b).2 = true := h
        rw [e0] at h; cases h
      rotate_left
      · show (st.x.erase b).1.many ≤ _
        rw [e1, hmy]; omega
      · show (st.x.erase b).1.wears.sum ≤ _
        rw [e1, c.ws]; omega
      show Good S f (C + 1) (st.x.erase b).1
      rw [e1]
      refine good_amid B hD hN W (cur := st.x.blk st.head) c.bs c.m c.ws c.base.basic ?_ c.base.val
      rw [em]; exact hs
end

theorem nodup_bound {n : Nat} : ∀ {l : List Int}, l.Nodup → (∀ i ∈ l, 0 ≤ i ∧ i < n) → l.length ≤ n := fun {l} h hb => by
  have h2 : (l.map Int.toNat).Nodup := by
    refine List.pairwise_map.mpr (h.imp_of_mem fun {i j} hi hj ne e => ?_)
    have := hb i hi
    have := hb j hj
    exact ne (by omega)
  have h3 : l.map Int.toNat ⊆ List.range n := fun x hx => by
    obtain ⟨i, hi, e⟩ := List.mem_map.mp hx
    have := hb i hi
    rw [List.mem_range]; omega
  have := List.Nodup.length_le_of_subset h2 h3
  rw [List.length_map, List.length_range] at this
  exact this
theorem some_len : ∀ {k : Blk}, (∀ pg ∈ k, ∃ r, pg = some r) → (k.filterMap id).length = k.length
  | [], _ => rfl
  | none :: k, h => by
    obtain ⟨r, e⟩ := h none List.mem_cons_self
    cases e
  | some r :: k, h => by
    show ((some r :: k).filterMap id).length = k.length + 1
    have e : (some r :: k).filterMap id = r :: k.filterMap id := by rw [List.filterMap_cons]; rfl
    rw [e, List.length_cons, some_len fun pg hp => h pg (List.mem_cons_of_mem _ hp)]
theorem full_len {bs : List Blk} {m : Nat} : ∀ {l : List Blk}, (∀ k ∈ l, FullB bs m k) → (recs l).length = l.length * m
  | [], _ => by rw [recs_nil]; simp
  | k :: l, h => by
    have hk := h k List.mem_cons_self
    have e : recs (k :: l) = recs [k] ++ recs l := recs_append [k] l
    rw [e, List.length_append, recs_one, some_len fun pg hp => (hk.2 pg hp).imp fun r z => z.1, hk.1, full_len fun k' hk' => h k' (List.mem_cons_of_mem _ hk'), List.length_cons, Nat.add_mul]
    omega
section
variable {S : Int} {f : Int → Int} {st : DS} {C : Nat}
def Sfx (st : DS) (j : Nat) : Prop := ∃ a l, rot st.x.bs (st.head + 1) = a ++ l ∧ l.length = j ∧ ∀ k ∈ l, FullB st.x.bs st.x.m k
theorem Sfx.zero : Sfx st 0 := ⟨_, [], (List.append_nil _).symm, rfl, fun k h => (nomatch h)⟩
theorem Sfx.count (B : Base S f st) {j : Nat} (s : Sfx st j) : j + 2 ≤ st.x.bs.length := by
  obtain ⟨a, l, e, hl, hf⟩ := s
  have hs := B.srt
  rw [e] at hs
  have hs := Srt.right hs
  have nd : ((recs l).map (·.s)).Nodup := by
    refine List.pairwise_map.mpr ?_
    unfold Srt at hs
    refine hs.imp_of_mem fun {r r'} hr hr' lt es => ?_
    obtain ⟨k, hk, hrk⟩ := mem_recs.mp hr
    obtain ⟨r0, e0, top⟩ := (hf k hk).2 _ hrk
    cases e0
    have hm : Mem st.x.bs r' := by
      have h1 : Mem (a ++ l) r' := mem_append.mpr (.inr (mem_recs.mp hr'))
      rw [← e, Mem.rot] at h1
      exact h1
    have := top r' hm es.symm
    omega
  have hb : ∀ i ∈ (recs l).map (·.s), 0 ≤ i ∧ i < (S.toNat : Int) := fun i hi => by
    obtain ⟨r, hr, ei⟩ := List.mem_map.mp hi
    have h1 : Mem (a ++ l) r := mem_append.mpr (.inr (mem_recs.mp hr))
    rw [← e, Mem.rot] at h1
    obtain ⟨f1, f2, _⟩ := B.fit r h1
    have ei : r.s = i := ei
    omega
  have := nodup_bound nd hb
  rw [List.length_map, full_len hf, hl] at this
  have h4 := B.n4
  have h2 := B.m2
  have hr := B.room
  refine Classical.byContradiction fun q => ?_
  have h5 : st.x.bs.length - 1 ≤ j := by omega
  have h6 : (st.x.bs.length - 1) * st.x.m ≤ j * st.x.m := Nat.mul_le_mul_right _ h5
  have h7 : (st.x.bs.length - 1) * st.x.m = (st.x.bs.length - 2) * st.x.m + st.x.m := by
    rw [show st.x.bs.length - 1 = (st.x.bs.length - 2) + 1 by omega, Nat.add_mul]; omega
  have h8 : ((st.x.bs.length : Int) - 2) * st.x.m = (((st.x.bs.length - 2) * st.x.m : Nat) : Int) := by
    rw [Int.natCast_mul, show ((st.x.bs.length - 2 : Nat) : Int) = (st.x.bs.length : Int) - 2 by omega]
  omega
theorem Ready.next_head (R : Ready S f C st) : ∃ h : st.nextH < st.x.bs.length, st.x.bs[st.nextH] = [] := by
  have h4 := R.n4
  have hl : st.nextH < st.x.bs.length := Nat.mod_lt _ (by show 0 < st.x.bs.length; omega)
  refine ⟨hl, ?_⟩
  obtain ⟨e, N, data, g1, g2, g3, g4, g5, g6⟩ := R.q
  have hr : rot st.x.bs st.nextH = rot st.x.bs (st.head + 1) := rot_mod R.hd
  rw [rot_first hl, rot_lastD R.hd, g1] at hr
  cases e with
  | zero => omega
  | succ e =>
    rw [List.replicate_succ] at hr
    exact (List.cons.inj hr).1
theorem moved_base (R : Ready S f C st) : Base S f st.moved := by
  obtain ⟨hl, e0⟩ := R.next_head
  have hblk : st.moved.x.blk st.moved.head = [] := (blkm' (x := st.x) hl).symm.trans e0
  refine ⟨R.hS, R.n4, R.m2, R.room, hl, R.fit, R.dist, R.len, ?_, by rw [hblk]; rfl, R.stamp, R.st0, R.pl, R.val⟩
  show Srt (rot st.x.bs (st.nextH + 1))
  have hs := R.srt
  have hr : rot st.x.bs st.nextH = rot st.x.bs (st.head + 1) := rot_mod R.hd
  refine hs.of_recs ?_
  rw [rot_last hl, ← hr, rot_first hl, e0, recs_append, recs_one]
  show _ ++ [] = recs ([[]] ++ mid st.x.bs st.nextH)
  rw [recs_append, recs_one, List.append_nil]; rfl
structure Advanced (S : Int) (f : Int → Int) (C : Nat) (st st' : DS) : Prop where
  ready : Ready S f C st'
  m : st'.x.m = st.x.m
  n : st'.x.bs.length = st.x.bs.length
  sfx : ∀ j, Sfx st j → st'.at_ = st'.x.m → Sfx st' (j + 1)
theorem advance_ok (R : Ready S f C st) (hat : st.at_ = st.x.m) :
    AdvOk st ∧ (st.advance.2 = true → Advanced S f C st st.advance.1) ∧ (st.advance.2 = false → Good S f (C + 1) st.advance.1.x) ∧ Adds st.x st.advance.1.x st.x.m 1 := by
  obtain ⟨hl, e0⟩ := R.next_head
  have h4 := R.n4
  have h2 := R.m2
  have mb := moved_base R
  obtain ⟨e, N, data, g1, g2, g3, g4, g5, g6⟩ := R.q
  have hcur : isEmpty (st.x.blk st.head) = false := by
    rcases R.cur with c | c
    · have := R.at_
      rw [c] at this
      simp at this
      omega
    · exact c
  have hr : rot st.x.bs st.nextH = rot st.x.bs (st.head + 1) := rot_mod R.hd
  have hblk0 : st.x.blk st.nextH = [] := by rw [← blkm' hl]; exact e0
  have hmid : mid st.x.bs st.nextH = List.replicate (e - 1) [] ++ data ++ [st.x.blk st.head] := by
    rw [rot_first hl, rot_lastD R.hd, g1] at hr
    cases e with
    | zero => omega
    | succ e =>
      rw [List.replicate_succ] at hr
      exact (List.cons.inj hr).2
  have hb : st.moved.nextH < st.x.bs.length := Nat.mod_lt _ (by show 0 < st.x.bs.length; omega)
  have all : ∀ r, some r ∈ st.x.blk st.moved.nextH → 0 ≤ r.s ∧ r.s < st.S ∧ st.pl r.s ≠ none := fun r hr => by
    have hm : Mem st.x.bs r := ⟨_, List.mem_of_getElem? (blkm hb), hr⟩
    obtain ⟨f1, f2, _⟩ := R.fit r hm
    exact ⟨f1, by rw [R.hS]; exact f2, fun z => R.pl.no r.s z r hm rfl⟩
  refine ⟨⟨by show 2 ≤ st.x.bs.length; omega, hblk0, all⟩, ?_⟩
  have begin_ : Begin S f st.moved st.moved.nextH := ⟨mb, rfl, hblk0⟩
  obtain ⟨k0, rest, em, er⟩ := mid_two (bs := st.x.bs) hl h4
  have hk0 : st.x.bs[st.moved.nextH]? = some k0 := by
    have := mid_first (bs := st.x.bs) (j := st.nextH) hl hb em
    exact this.1
  have hk0b : st.x.blk st.moved.nextH = k0 := by
    have := blkm hb
    rw [hk0] at this
    exact (Option.some.inj this).symm
  unfold DS.advance
  by_cases q : isEmpty (st.x.blk st.moved.nextH) = true
  · -- a further block is erased
    rw [if_pos q]
    refine ⟨fun _ => ?_, fun h => (nomatch h), ⟨by show st.x.many ≤ _; omega, by show st.x.wears.sum ≤ _; omega⟩⟩
    have he : 2 ≤ e := by
      refine Classical.byContradiction fun z => ?_
      have e1 : e = 1 := by omega
      subst e1
      rw [em] at hmid
      have hk : k0 ∈ data ++ [st.x.blk st.head] := by
        have h1 : k0 :: rest = data ++ [st.x.blk st.head] := hmid
        rw [← h1]; exact List.mem_cons_self
      rw [hk0b] at q
      rcases List.mem_append.mp hk with y | y
      · rw [g3 k0 y] at q; cases q
      · rw [List.mem_singleton.mp y, hcur] at q; cases q
    refine ⟨{ toBase := mb, q := ⟨e - 1, N, data ++ [st.x.blk st.head], ?_, by omega, fun k hk => ?_, ?_, g5, fun _ z => by simp at z⟩, cur := .inl hblk0 }, rfl, rfl, fun j _ z => ?_⟩
    · show mid st.x.bs st.nextH = _
      rw [hmid, List.append_assoc]
    · rcases List.mem_append.mp hk with z | z
      · exact g3 k z
      · rw [List.mem_singleton.mp z]; exact hcur
    · show (st.nextH + 1 + (e - 1)) % st.x.bs.length = N % st.x.bs.length
      rw [← g4, show st.nextH + 1 + (e - 1) = st.nextH + e by omega]
      show ((st.head + 1) % st.x.bs.length + e) % st.x.bs.length = _
      rw [Nat.add_mod, Nat.mod_mod, ← Nat.add_mod]
    · have : (0 : Nat) = st.x.m := z
      omega
  · rw [if_neg q]
    have e1 : e = 1 := by
      refine Classical.byContradiction fun z => ?_
      rw [em] at hmid
      have h1 : k0 = [] := by
        cases e with
        | zero => omega
        | succ e =>
          cases e with
          | zero => omega
          | succ e =>
            rw [show e + 1 + 1 - 1 = e + 1 by omega, List.replicate_succ] at hmid
            exact (List.cons.inj hmid).1
      rw [hk0b, h1] at q
      exact q rfl
    subst e1
    have hmid : mid st.x.bs st.nextH = data ++ [st.x.blk st.head] := hmid
    have hD : ∀ k ∈ mid st.moved.x.bs st.moved.head, isEmpty k = false := fun k hk => by
      have hk : k ∈ data ++ [st.x.blk st.head] := by rw [← hmid]; exact hk
      rcases List.mem_append.mp hk with z | z
      · exact g3 k z
      · rw [List.mem_singleton.mp z]; exact hcur
    have hN : st.moved.nextH = N % st.moved.x.bs.length := by
      show ((st.head + 1) % st.x.bs.length + 1) % st.x.bs.length = N % st.x.bs.length
      rw [← g4, Nat.add_mod, Nat.mod_mod, ← Nat.add_mod]
    obtain ⟨c1, c2, c3⟩ := clean_ok begin_ hD hN g5
    refine ⟨fun h => ?_, c2, c3⟩
    have cl := c1 h
    refine ⟨cl.ready, cl.m, cl.n, fun j sf hat' => ?_⟩
    have cnt := sf.count R.toBase
    obtain ⟨a, l, ea, hlen, hf⟩ := sf
    obtain ⟨k0', rest', em', em2⟩ := cl.mid
    have em' : mid st.x.bs st.nextH = k0' :: rest' := em'
    rw [em] at em'
    obtain ⟨rfl, rfl⟩ := List.cons.inj em'
    have hrl : rest.length + 2 = st.x.bs.length := by
      have := mid_len (l := st.x.bs) hl
      rw [em] at this
      simp at this; omega
    have erot : rot st.x.bs (st.head + 1) = [] :: (k0 :: rest) := by
      rw [← hr, rot_first hl, e0, em]
    rw [erot] at ea
    have hl2 : l = rest.drop (rest.length - j) := by
      have h1 := congrArg (List.drop (([] : Blk) :: k0 :: rest).length.pred) ea
      have h2 : (([] : Blk) :: k0 :: rest).drop (rest.length - j + 2) = l := by
        rw [ea]
        have ha : a.length = rest.length - j + 2 := by
          have := congrArg List.length ea
          rw [List.length_append, hlen] at this
          simp at this
          omega
        rw [← ha, List.drop_left]
      rw [← h2]; rfl
    refine ⟨[] :: rest.take (rest.length - j), l ++ [(st.moved.clean st.moved.nextH).1.x.blk (st.moved.clean st.moved.nextH).1.head], ?_, by rw [List.length_append, hlen]; rfl, fun k hk => ?_⟩
    · rw [rot_lastD cl.ready.hd, em2, hl2]
      rw [List.cons_append, List.cons_append, ← List.append_assoc, List.take_append_drop]
    · rcases List.mem_append.mp hk with z | z
      · refine cl.keep k0 rest em k ?_ (hf k z)
        rw [hl2] at z
        exact List.mem_of_mem_drop z
      · rw [List.mem_singleton.mp z]
        refine ⟨?_, cl.cur⟩
        rw [← cl.ready.at_]; exact hat'
theorem wloop_ok : ∀ (k : Nat) (st : DS) (j : Nat), Ready S f C st → Sfx st j → st.x.bs.length ≤ k + j + 1 → j + 1 ≤ st.x.bs.length →
    LoopOk k st ∧ ((wloop k st).2 = true → Ready S f C (wloop k st).1 ∧ (wloop k st).1.at_ < (wloop k st).1.x.m ∧ (wloop k st).1.x.m = st.x.m ∧ (wloop k st).1.x.bs.length = st.x.bs.length) ∧
      ((wloop k st).2 = false → Good S f (C + 1) (wloop k st).1.x) ∧ Adds st.x (wloop k st).1.x (((st.x.bs.length - 1 - j) * st.x.m : Nat)) ((st.x.bs.length - 1 - j : Nat))
  | 0, st, j, R, sf, hn, hj => by
    have le : st.at_ ≤ st.x.m := by rw [R.at_]; exact R.len _ (List.mem_of_getElem? (blkm R.hd))
    have ne : st.at_ ≠ st.x.m := fun z => by
      have := sf.count R.toBase
      omega
    exact ⟨ne, fun _ => ⟨R, by show st.at_ < st.x.m; omega, rfl, rfl⟩, fun h => (nomatch h), ⟨by show st.x.many ≤ _; omega, by show st.x.wears.sum ≤ _; omega⟩⟩
  | k + 1, st, j, R, sf, hn, hj => by
    have le : st.at_ ≤ st.x.m := by rw [R.at_]; exact R.len _ (List.mem_of_getElem? (blkm R.hd))
    have cnt := sf.count R.toBase
    by_cases hat : st.at_ = st.x.m
    · obtain ⟨a1, a2, a3, a4⟩ := advance_ok R hat
      have ew : wloop (k + 1) st = if st.advance.2 = true then wloop k st.advance.1 else (st.advance.1, false) := by
        show (if st.at_ = st.x.m then _ else _) = _
        rw [if_pos hat]
      rw [ew]
      have bm : (st.x.bs.length - 1 - j) * st.x.m = (st.x.bs.length - 1 - (j + 1)) * st.x.m + st.x.m := by
        rw [show st.x.bs.length - 1 - j = (st.x.bs.length - 1 - (j + 1)) + 1 by omega, Nat.add_mul]; omega
      by_cases ok : st.advance.2 = true
      · rw [if_pos ok]
        have ad := a2 ok
        by_cases hat' : st.advance.1.at_ = st.advance.1.x.m
        · obtain ⟨w1, w2, w3, w4⟩ := wloop_ok k st.advance.1 (j + 1) ad.ready (ad.sfx j sf hat') (by rw [ad.n]; omega) (by rw [ad.n]; omega)
          rw [ad.n, ad.m] at w4
          refine ⟨fun _ => ⟨a1, fun _ => w1⟩, fun h => ?_, w3, (a4.trans w4).mono (by omega) (by omega)⟩
          obtain ⟨y1, y2, y3, y4⟩ := w2 h
          exact ⟨y1, y2, y3.trans ad.m, y4.trans ad.n⟩
        · have le' : st.advance.1.at_ ≤ st.advance.1.x.m := by rw [ad.ready.at_]; exact ad.ready.len _ (List.mem_of_getElem? (blkm ad.ready.hd))
          have ew2 : wloop k st.advance.1 = (st.advance.1, true) := by
            cases k with
            | zero => rfl
            | succ k =>
              show (if st.advance.1.at_ = st.advance.1.x.m then _ else _) = _
              rw [if_neg hat']
          have lo : LoopOk k st.advance.1 := by
            cases k with
            | zero => exact hat'
            | succ k => exact fun z => absurd z hat'
          rw [ew2]
          exact ⟨fun _ => ⟨a1, fun _ => lo⟩, fun _ => ⟨ad.ready, by show st.advance.1.at_ < st.advance.1.x.m; omega, ad.m, ad.n⟩, fun h => (nomatch h), a4.mono (by omega) (by omega)⟩
      · rw [if_neg ok]
        refine ⟨fun _ => ⟨a1, fun z => absurd z ok⟩, fun h => (nomatch h), fun _ => a3 ?_, a4.mono (by omega) (by omega)⟩
        cases q : st.advance.2 with
        | true => exact absurd q ok
        | false => rfl
    · have ew : wloop (k + 1) st = (st, true) := by
        show (if st.at_ = st.x.m then _ else _) = _
        rw [if_neg hat]
      rw [ew]
      exact ⟨fun z => absurd z hat, fun _ => ⟨R, by show st.at_ < st.x.m; omega, rfl, rfl⟩, fun h => (nomatch h), ⟨by show st.x.many ≤ _; omega, by show st.x.wears.sum ≤ _; omega⟩⟩
theorem write_ok {s c : Int} (R : Ready S f C st) (h0 : 0 ≤ s) (h1 : s < S) :
    WriteOk st s ∧ ((st.write s c).2 = true → Ready S (upf f s c) C (st.write s c).1) ∧ ((st.write s c).2 = false → Good S f (C + 1) (st.write s c).1.x) ∧
      Adds st.x (st.write s c).1.x (((st.x.bs.length - 1) * st.x.m + 1 : Nat)) ((st.x.bs.length - 1 : Nat)) := by
  have h4 := R.n4
  obtain ⟨w1, w2, w3, w4⟩ := wloop_ok st.x.n st 0 R Sfx.zero (by show st.x.bs.length ≤ st.x.bs.length + 0 + 1; omega) (by omega)
  have po : (wloop st.x.n st).2 = true → PutOk (wloop st.x.n st).1 s := fun h => by
    obtain ⟨r, a, _⟩ := w2 h
    exact ⟨r.hd, r.at_.symm, a, h0, by rw [r.hS]; exact h1⟩
  refine ⟨⟨w1, po⟩, ?_⟩
  unfold DS.write
  rw [Nat.sub_zero] at w4
  by_cases ok : (wloop st.x.n st).2 = true
  · rw [if_pos ok]
    obtain ⟨r, a, em, en⟩ := w2 ok
    refine ⟨fun h => r.put h0 h1 a h, fun h => ?_, ?_⟩
    · obtain ⟨pf, ef⟩ := put_false h
      rw [ef]
      show Good S f (C + 1) ((wloop st.x.n st).1.x.put (wloop st.x.n st).1.head ⟨s, (wloop st.x.n st).1.stamp, c⟩).1
      rcases put_cases (wloop st.x.n st).1.x (wloop st.x.n st).1.head ⟨s, (wloop st.x.n st).1.stamp, c⟩ with ⟨z, _⟩ | ⟨_, z1, z2, z3, _⟩ | ⟨_, z1⟩
      · rw [pf] at z; cases z
      · have := r.torn a
        unfold Good
        rw [z1, z2, z3]
        exact .inl this
      · rw [z1]
        exact .inl (r.good.mono (Nat.le_succ C))
    · refine (w4.trans (a' := 1) (e' := 0) ?_).mono (by omega) (by omega)
      have key : ∀ y : DS, Adds y.x (y.put s c).1.x 1 0 := fun y => by
        have hx : (y.put s c).1.x = (y.x.put y.head ⟨s, y.stamp, c⟩).1 := by
          unfold DS.put
          split <;> rfl
        rw [hx]
        rcases put_cases y.x y.head ⟨s, y.stamp, c⟩ with ⟨_, _, _, z3, z4⟩ | ⟨_, _, _, z3, z4⟩ | ⟨_, z1⟩
        · exact ⟨by rw [z4]; omega, by rw [z3]; omega⟩
        · exact ⟨by rw [z4]; omega, by rw [z3]; omega⟩
        · rw [z1]; exact ⟨by omega, by omega⟩
      exact key _
  · rw [if_neg ok]
    refine ⟨fun h => (nomatch h), fun _ => w3 ?_, w4.mono (by omega) (by omega)⟩
    cases q : (wloop st.x.n st).2 with
    | true => exact absurd q ok
    | false => rfl
end

theorem mem_empties {x : DC} {b : Nat} : b ∈ empties x ↔ b < x.bs.length ∧ isEmpty (x.blk b) = true := by
  unfold empties
  rw [List.mem_filter, List.mem_range]; exact Iff.rfl
theorem none_mem {k : Blk} (h : isEmpty k = true) (n : k ≠ []) : none ∈ k := by
  cases k with
  | nil => exact absurd rfl n
  | cons a k =>
    have := List.all_eq_true.mp h a List.mem_cons_self
    cases a with
    | none => exact List.mem_cons_self
    | some r => cases this
theorem Good.basic {S : Int} {f : Int → Int} {C : Nat} {x : DC} (g : Good S f C x) : Basic S x.bs x.m := g.elim (fun z => z.toBasic) fun z => z.toBasic
structure GoodC (S : Int) (f : Int → Int) (C : Nat) (x : DC) : Prop extends GoodA S f C x.bs x.m x.wears where
  cl : Clean x.bs
  fine : ∃ i N E data, i < x.bs.length ∧ rot x.bs i = E ++ data ∧ E ≠ [] ∧ (∀ k ∈ E, isEmpty k = true) ∧ (∀ k ∈ data, isEmpty k = false) ∧ (data = [] → i = 0) ∧ (i + E.length) % x.bs.length = N % x.bs.length ∧ Srt (rot x.bs i) ∧ WearOk x.bs.length x.wears N C
theorem tidyGo_none : ∀ (l : List Nat) (x : DC), (∀ b ∈ l, none ∉ x.blk b) → tidyGo l x = (x, true)
  | [], x, _ => rfl
  | b :: l, x, h => by
    show (if none ∈ x.blk b then _ else _) = _
    rw [if_neg (h b List.mem_cons_self)]
    exact tidyGo_none l x fun b hb => h b (List.mem_cons_of_mem _ hb)
theorem sum_more {ws : List Int} {b : Nat} : (ws.set b (ws.getD b 0 + 1)).sum ≤ ws.sum + 1 := sum_put
theorem erase_adds (x : DC) (b : Nat) : Adds x (x.erase b).1 0 1 := by
  rcases erase_cases x b with ⟨_, _, _, z3, z4⟩ | ⟨_, _, _, z3, z4⟩ | ⟨_, z1⟩
  · exact ⟨by rw [z4]; omega, by rw [z3]; exact sum_more⟩
  · exact ⟨by rw [z4]; omega, by rw [z3]; exact sum_more⟩
  · rw [z1]; exact ⟨by omega, by omega⟩
section
variable {S : Int} {f : Int → Int} {C : Nat} {x : DC}
theorem rep_ne {m : Nat} (h : 2 ≤ m) : List.replicate m (none : Option Rec) ≠ [] := fun z => by
  have := congrArg List.length z
  rw [List.length_replicate] at this
  simp at this
  omega
theorem torn_go (B : Basic S x.bs x.m) (g : GoodA S f C x.bs x.m x.wears) {b : Nat} (hb : b < x.bs.length) (he : isEmpty (x.blk b) = true) {k : Blk} (hk : isEmpty k = true) (hl : k.length ≤ x.m)
    {N C' : Nat} {i : Nat} {El data : List Blk} (h1 : i < x.bs.length) (h2 : rot x.bs i = El ++ data) (h3 : El ≠ []) (h4 : ∀ k ∈ El, isEmpty k = true) (h5 : ∀ k ∈ data, isEmpty k = false) (h6 : data = [] → i = 0) (h7 : (i + El.length) % x.bs.length = N % x.bs.length) (h8 : Srt (rot x.bs i)) :
    Basic S (x.bs.set b k) x.m ∧ (∀ s, 0 ≤ s → s < S → Val (x.bs.set b k) s (f s)) ∧ ∃ El', i < (x.bs.set b k).length ∧ rot (x.bs.set b k) i = El' ++ data ∧ El' ≠ [] ∧ (∀ k ∈ El', isEmpty k = true) ∧ (∀ k ∈ data, isEmpty k = false) ∧ (data = [] → i = 0) ∧ (i + El'.length) % (x.bs.set b k).length = N % (x.bs.set b k).length ∧ Srt (rot (x.bs.set b k) i) := by
  have hx : x.bs[b]? = some (x.blk b) := blkm hb
  have hm : ∀ r, Mem (x.bs.set b k) r ↔ Mem x.bs r := fun r => by
    rw [mem_set_empty hk hb, mem_mid hb, blkm' hb]
    exact ⟨.inl, fun z => z.elim id fun y => absurd y (isEmpty_iff.mp he r)⟩
  refine ⟨basic_empty B hb hk hl, fun s h0 h1 => (g.val s h0 h1).congr fun r => (hm r).symm, ?_⟩
  have hlen : (rot (x.bs.set b k) i).length = (rot x.bs i).length := by rw [rot_len, rot_len, List.length_set]
  have hrot : rot (x.bs.set b k) i = if i ≤ b then (rot x.bs i).set (b - i) k else (rot x.bs i).set (x.bs.length - i + b) k := by
    unfold rot
    by_cases q : i ≤ b
    · rw [if_pos q, List.take_set_of_le q, List.drop_set, if_neg (by omega), List.set_append_left _ _ (by rw [List.length_drop]; omega)]
    · rw [if_neg q, List.drop_set_of_lt (by omega), List.set_append_right _ _ (by rw [List.length_drop]; omega), List.length_drop, List.take_set]
      congr 2
      omega
  obtain ⟨j, hj, hr⟩ : ∃ j, (rot x.bs i)[j]? = some (x.blk b) ∧ rot (x.bs.set b k) i = (rot x.bs i).set j k := by
    by_cases q : i ≤ b
    · refine ⟨b - i, ?_, by rw [hrot, if_pos q]⟩
      unfold rot
      rw [List.getElem?_append_left (by rw [List.length_drop]; omega), List.getElem?_drop, show i + (b - i) = b by omega]; exact hx
    · refine ⟨x.bs.length - i + b, ?_, by rw [hrot, if_neg q]⟩
      unfold rot
      rw [List.getElem?_append_right (by rw [List.length_drop]; omega), List.length_drop, List.getElem?_take, if_pos (by omega), show x.bs.length - i + b - (x.bs.length - i) = b by omega]; exact hx
  have hjE : j < El.length := by
    refine Classical.byContradiction fun q => ?_
    rw [h2, List.getElem?_append_right (by omega)] at hj
    have := h5 _ (List.mem_of_getElem? hj)
    rw [he] at this; cases this
  have hr2 : rot (x.bs.set b k) i = El.set j k ++ data := by rw [hr, h2, List.set_append_left _ _ hjE]
  have hE' : ∀ k' ∈ El.set j k, isEmpty k' = true := fun k' hk' => by
    rcases List.mem_or_eq_of_mem_set hk' with z | z
    · exact h4 k' z
    · rw [z]; exact hk
  refine ⟨El.set j k, by rw [List.length_set]; exact h1, hr2, fun z => h3 ?_, hE', h5, h6, by rw [List.length_set, List.length_set]; exact h7, ?_⟩
  · have := congrArg List.length z
    rw [List.length_set] at this
    exact List.length_eq_zero_iff.mp this
  · refine h8.of_recs ?_
    rw [hr2, h2, recs_append, recs_append, recs_empty hE', recs_empty h4]
theorem tidy_ok (g : Good S f C x) (hS : 1 ≤ S) : TidyOk x ∧ ((tidy x).2 = true → GoodC S f C (tidy x).1) ∧ ((tidy x).2 = false → Good S f (C + 1) (tidy x).1) ∧ Adds x (tidy x).1 0 1 := by
  have Bs := g.basic
  have h4 := Bs.n4
  have m2 := Bs.m2
  rcases g with g | g
  · -- there are erased blocks
    obtain ⟨i, N, El, data, h1, h2, h3, h4', h5, h6, h7, h8, h9⟩ := g.a
    have hne : empties x ≠ [] := fun z => by
      obtain ⟨k0, El', rfl⟩ : ∃ k0 El', El = k0 :: El' := by
        cases El with
        | nil => exact absurd rfl h3
        | cons k0 El' => exact ⟨k0, El', rfl⟩
      have hk0 : k0 = x.blk i := by
        rw [rot_first h1, blkm' h1] at h2
        exact (List.cons.inj h2).1.symm
      have : i ∈ empties x := mem_empties.mpr ⟨h1, by rw [← hk0]; exact h4' k0 List.mem_cons_self⟩
      rw [z] at this; cases this
    refine ⟨fun z => absurd z hne, ?_⟩
    have et : tidy x = tidyGo (empties x) x := by unfold tidy; rw [if_neg hne]
    rw [et]
    rcases h9 with ⟨cl, w⟩ | ⟨⟨b, k, t1, t2, t3, t4⟩, C', hC, w⟩
    · rw [tidyGo_none _ _ fun b hb => by
        obtain ⟨y1, y2⟩ := mem_empties.mp hb
        rw [cl b _ (blkm y1) y2]
        exact fun z => (nomatch z)]
      exact ⟨fun _ => { toGoodA := g, cl := cl, fine := ⟨i, N, El, data, h1, h2, h3, h4', h5, h6, h7, h8, w⟩ }, fun h => (nomatch h), ⟨by show x.many ≤ x.many + 0; omega, by show x.wears.sum ≤ x.wears.sum + 1; omega⟩⟩
    · -- the torn one
      have hb : b < x.bs.length := (List.getElem?_eq_some_iff.mp t1).1
      have ek : k = x.blk b := Option.some.inj (t1.symm.trans (blkm hb))
      subst ek
      have hin : b ∈ empties x := mem_empties.mpr ⟨hb, t2⟩
      obtain ⟨l1, l2, el⟩ := List.append_of_mem hin
      have nd : (empties x).Nodup := List.Pairwise.filter _ List.nodup_range
      rw [el] at nd
      have nb1 : b ∉ l1 := fun z => (List.nodup_append.mp nd).2.2 b z b List.mem_cons_self rfl
      have nb2 : b ∉ l2 := (List.nodup_cons.mp (List.nodup_append.mp nd).2.1).1
      have skip : ∀ (l : List Nat) (l' : List Nat) , (∀ b' ∈ l, none ∉ x.blk b') → tidyGo (l ++ l') x = tidyGo l' x := fun l => by
        induction l with
        | nil => intro l' _; rfl
        | cons c l ih =>
          intro l' h
          show (if none ∈ x.blk c then _ else _) = _
          rw [if_neg (h c List.mem_cons_self)]
          exact ih l' fun b hb => h b (List.mem_cons_of_mem _ hb)
      have others : ∀ b', b' ∈ empties x → b' ≠ b → x.blk b' = [] := fun b' hb' ne => by
        obtain ⟨y1, y2⟩ := mem_empties.mp hb'
        exact t4 b' _ ne (blkm y1) y2
      rw [el, skip l1 (b :: l2) fun b' hb' => by
        rw [others b' (by rw [el]; exact List.mem_append_left _ hb') fun z => nb1 (z ▸ hb')]
        exact fun z => (nomatch z)]
      have es : tidyGo (b :: l2) x = if (x.erase b).2 = true then tidyGo l2 (x.erase b).1 else ((x.erase b).1, false) := by
        show (if none ∈ x.blk b then _ else _) = _
        rw [if_pos (none_mem t2 t3)]
      rw [es]
      have ad := erase_adds x b
      rcases erase_cases x b with ⟨z0, z1, z2, z3, z4⟩ | ⟨z0, z1, z2, z3, z4⟩ | ⟨z0, z1⟩
      · rw [if_pos z0, tidyGo_none _ _ fun b' hb' => by
          have ne : b' ≠ b := fun z => nb2 (z ▸ hb')
          have hb'' : b' ∈ empties x := by rw [el]; exact List.mem_append_right _ (List.mem_cons_of_mem _ hb')
          have e : (x.erase b).1.blk b' = x.blk b' := by
            unfold DC.blk
            rw [z1, List.getD_eq_getElem?_getD, List.getD_eq_getElem?_getD, List.getElem?_set_ne (fun z => ne z.symm)]
          rw [e, others b' hb'' ne]
          exact fun z => (nomatch z)]
        obtain ⟨y1, y2, El', y3, y4, y5, y6, y7, y8, y9, y10⟩ := torn_go (k := []) (C' := C') Bs g hb t2 rfl (Nat.zero_le _) h1 h2 h3 h4' h5 h6 h7 h8
        have cl : Clean (x.bs.set b []) := fun b' k' hb' he' => by
          by_cases q : b' = b
          · subst q
            rw [List.getElem?_set_self hb] at hb'
            exact (Option.some.inj hb').symm
          · rw [List.getElem?_set_ne (fun z => q z.symm)] at hb'
            exact t4 b' k' q hb' he'
        have w2 : WearOk (x.bs.set b []).length (x.erase b).1.wears N C := by
          rw [List.length_set, z3]
          exact (w.more hb).mono hC
        refine ⟨fun _ => ?_, fun h => (nomatch h), ad⟩
        refine { toGoodA := ?_, cl := by rw [z1]; exact cl, fine := ?_ }
        · rw [z1, z2]
          exact { toBasic := y1, val := y2, a := ⟨i, N, El', data, y3, y4, y5, y6, y7, y8, y9, y10, .inl ⟨cl, w2⟩⟩ }
        · rw [z1]
          exact ⟨i, N, El', data, y3, y4, y5, y6, y7, y8, y9, y10, w2⟩
      · rw [if_neg (by rw [z0]; exact Bool.false_ne_true)]
        obtain ⟨y1, y2, El', y3, y4, y5, y6, y7, y8, y9, y10⟩ := torn_go (k := List.replicate x.m none) (C' := C') Bs g hb t2 (isEmpty_rep _) (by rw [List.length_replicate]; exact Nat.le_refl _) h1 h2 h3 h4' h5 h6 h7 h8
        refine ⟨fun h => (nomatch h), fun _ => .inl ?_, ad⟩
        rw [z1, z2]
        refine { toBasic := y1, val := y2, a := ⟨i, N, El', data, y3, y4, y5, y6, y7, y8, y9, y10, .inr ⟨⟨b, _, List.getElem?_set_self hb, isEmpty_rep _, rep_ne m2, fun b' k' ne hb' he' => ?_⟩, C' + 1, by omega, ?_⟩⟩ }
        · rw [List.getElem?_set_ne (fun z => ne z.symm)] at hb'
          exact t4 b' k' ne hb' he'
        · rw [List.length_set, z3]
          exact w.more hb
      · rw [if_neg (by rw [z0]; exact Bool.false_ne_true)]
        refine ⟨fun h => (nomatch h), fun _ => ?_, ad⟩
        rw [z1]
        exact .inl (g.mono (Nat.le_succ C))
  · -- a cleaning was cut: its block is the one with the greatest number
    obtain ⟨i, N, C', hi, h1, h2, h3, h5, w, vl⟩ := g.b
    have he : empties x = [] := by
      refine List.eq_nil_iff_forall_not_mem.mpr fun b hb => ?_
      obtain ⟨y1, y2⟩ := mem_empties.mp hb
      rw [h1 _ (List.mem_of_getElem? (blkm y1))] at y2; cases y2
    have hg : greatest x.bs = some i := by
      obtain ⟨r0, hr0⟩ := not_empty (h1 _ (List.mem_of_getElem? (blkm hi)))
      cases q : greatest x.bs with
      | none => exact absurd ⟨_, List.mem_of_getElem? (blkm hi), hr0⟩ (greatest_none q (fun r hr => (Bs.fit r hr).2.2) r0)
      | some b =>
        obtain ⟨k, r, y1, y2, y3⟩ := greatest_some q
        refine congrArg some (Classical.byContradiction fun ne => ?_)
        have hm : Mem (mid x.bs i) r := ⟨k, mid_ne y1 ne, y2⟩
        rw [rot_last hi] at h3
        have := h3.lt hm (mem_one.mpr (by rw [blkm' hi]; exact hr0))
        have := y3 r0 ⟨_, List.mem_of_getElem? (blkm hi), hr0⟩
        omega
    refine ⟨fun _ => ⟨i, hg, hi⟩, ?_⟩
    have et : tidy x = x.erase i := by unfold tidy; rw [if_pos he, hg]; rfl
    rw [et]
    have ad := erase_adds x i
    have key : ∀ k : Blk, isEmpty k = true → k.length ≤ x.m → Basic S (x.bs.set i k) x.m ∧ (∀ s, 0 ≤ s → s < S → Val (x.bs.set i k) s (f s)) ∧ (i < (x.bs.set i k).length ∧ rot (x.bs.set i k) i = [k] ++ mid x.bs i ∧ [k] ≠ [] ∧ (∀ k' ∈ [k], isEmpty k' = true) ∧ (∀ k ∈ mid x.bs i, isEmpty k = false) ∧ (mid x.bs i = [] → i = 0) ∧ (i + [k].length) % (x.bs.set i k).length = N % (x.bs.set i k).length ∧ Srt (rot (x.bs.set i k) i)) := fun k hk hl => by
      refine ⟨basic_empty Bs hi hk hl, fun s y0 y1 => (vl s y0 y1).congr fun r => (mem_set_empty hk hi).symm, by rw [List.length_set]; exact hi, by rw [rot_set1 hi]; rfl, by simp, fun k' z => by rw [List.mem_singleton.mp z]; exact hk, fun k' hk' => h1 k' ?_, fun z => ?_, by rw [List.length_set]; exact h2, ?_⟩
      · have : k' ∈ rot x.bs (i + 1) := by rw [rot_last hi]; exact List.mem_append_left _ hk'
        exact mem_rot.mp this
      · have := mid_len hi
        rw [z] at this
        simp at this
        omega
      · rw [rot_last hi] at h3
        refine h3.left.of_recs ?_
        rw [rot_set1 hi]
        show recs ([k] ++ mid x.bs i) = _
        rw [recs_append, recs_empty fun k' z => by rw [List.mem_singleton.mp z]; exact hk, List.nil_append]
    have oth : ∀ k : Blk, ∀ (b' : Nat) (k' : Blk), b' ≠ i → (x.bs.set i k)[b']? = some k' → isEmpty k' = true → k' = [] := fun k b' k' ne hb' he' => by
      rw [List.getElem?_set_ne (fun z => ne z.symm)] at hb'
      rw [h1 _ (List.mem_of_getElem? hb')] at he'; cases he'
    rcases erase_cases x i with ⟨z0, z1, z2, z3, z4⟩ | ⟨z0, z1, z2, z3, z4⟩ | ⟨z0, z1⟩
    · refine ⟨fun _ => ?_, fun h => Bool.noConfusion (z0.symm.trans h), ad⟩
      obtain ⟨y1, y2, y3, y4, y5, y6, y7, y8, y9, y10⟩ := key [] rfl (Nat.zero_le _)
      have cl : Clean (x.bs.set i []) := fun b' k' hb' he' => by
        by_cases q : b' = i
        · subst q
          rw [List.getElem?_set_self hi] at hb'
          exact (Option.some.inj hb').symm
        · exact oth [] b' k' q hb' he'
      have w2 : WearOk (x.bs.set i []).length (x.erase i).1.wears N C := by
        rw [List.length_set, z3]
        exact (w.more hi).mono h5
      refine { toGoodA := ?_, cl := by rw [z1]; exact cl, fine := ?_ }
      · rw [z1, z2]
        exact { toBasic := y1, val := y2, a := ⟨i, N, _, _, y3, y4, y5, y6, y7, y8, y9, y10, .inl ⟨cl, w2⟩⟩ }
      · rw [z1]
        exact ⟨i, N, _, _, y3, y4, y5, y6, y7, y8, y9, y10, w2⟩
    · refine ⟨fun h => Bool.noConfusion (z0.symm.trans h), fun _ => .inl ?_, ad⟩
      obtain ⟨y1, y2, y3, y4, y5, y6, y7, y8, y9, y10⟩ := key (List.replicate x.m none) (isEmpty_rep _) (by rw [List.length_replicate]; exact Nat.le_refl _)
      rw [z1, z2]
      refine { toBasic := y1, val := y2, a := ⟨i, N, _, _, y3, y4, y5, y6, y7, y8, y9, y10, .inr ⟨⟨i, _, List.getElem?_set_self hi, isEmpty_rep _, rep_ne m2, oth _⟩, C' + 1, by omega, ?_⟩⟩ }
      rw [List.length_set, z3]
      exact w.more hi
    · refine ⟨fun h => Bool.noConfusion (z0.symm.trans h), fun _ => ?_, ad⟩
      rw [z1]
      exact .inr ((show Good S f C x from .inr g).mono (Nat.le_succ C) |>.elim (fun z => absurd z fun z => by
        obtain ⟨i', _, El', _, hi', hr', hne', hE', _⟩ := z.a
        cases El' with
        | nil => exact hne' rfl
        | cons k0 El' =>
          have hk0 : k0 ∈ rot x.bs i' := by rw [hr']; exact List.mem_append_left _ List.mem_cons_self
          have := hE' k0 List.mem_cons_self
          rw [h1 k0 (mem_rot.mp hk0)] at this; cases this) id)
theorem found_ok (g : GoodC S f C x) : Fit S x.bs ∧ (∀ b, greatest x.bs = some b → b < x.bs.length) ∧ Ready S f C (DS.found x S) := by
  have Bs := g.toBasic
  have h4 := Bs.n4
  obtain ⟨i, N, El, data, h1, h2, h3, h4', h5, h6, h7, h8, w⟩ := g.fine
  obtain ⟨s1, s2, s3⟩ := seen_ok x.bs
  have hfit : Fit S x.bs := fun k hk r hr => Bs.fit r ⟨k, hk, hr⟩
  refine ⟨hfit, fun b hb => ?_, ?_⟩
  · obtain ⟨k, r, y1, _⟩ := greatest_some hb
    exact (List.getElem?_eq_some_iff.mp y1).1
  have hE : El = List.replicate El.length [] := List.eq_replicate_iff.mpr ⟨rfl, fun k hk => by
    have hk2 : k ∈ rot x.bs i := by rw [h2]; exact List.mem_append_left _ hk
    obtain ⟨b, hb⟩ := List.getElem?_of_mem (mem_rot.mp hk2)
    exact g.cl b k hb (h4' k hk)⟩
  have hE1 : 1 ≤ El.length := by
    cases El with
    | nil => exact absurd rfl h3
    | cons a b => simp
  cases hg : greatest x.bs with
  | none =>
    have no := greatest_none hg fun r hr => (Bs.fit r hr).2.2
    have hd : data = [] := by
      cases data with
      | nil => rfl
      | cons k data =>
        obtain ⟨r, hr⟩ := not_empty (h5 k List.mem_cons_self)
        have : k ∈ rot x.bs i := by rw [h2]; exact List.mem_append_right _ List.mem_cons_self
        exact absurd ⟨k, mem_rot.mp this, hr⟩ (no r)
    subst hd
    have hi := h6 rfl
    subst hi
    have hall : ∀ (b : Nat) (k : Blk), x.bs[b]? = some k → k = [] := fun b k hb => g.cl b k hb (isEmpty_iff.mpr fun r hr => no r ⟨k, List.mem_of_getElem? hb, hr⟩)
    have h0 : x.blk 0 = [] := hall 0 _ (blkm (by omega))
    have hln : El.length = x.bs.length := by
      have := rot_len (l := x.bs) (i := 0)
      rw [h2, List.append_nil] at this; exact this
    refine { toBase := ⟨rfl, h4, Bs.m2, Bs.room, ?_, Bs.fit, Bs.dist, Bs.len, ?_, ?_, s2, s3, s1, g.val⟩, q := ⟨x.bs.length - 1, N, [], ?_, by omega, fun k z => (nomatch z), ?_, w, fun _ _ => ?_⟩, cur := .inl ?_ }
    · show (greatest x.bs).getD 0 < _
      rw [hg]; show 0 < x.bs.length; omega
    · show Srt (rot x.bs ((greatest x.bs).getD 0 + 1))
      have e : recs (rot x.bs ((greatest x.bs).getD 0 + 1)) = [] := List.eq_nil_iff_forall_not_mem.mpr fun r hr => no r (Mem.rot.mp (mem_recs.mp hr))
      unfold Srt
      rw [e]; exact List.Pairwise.nil
    · show (match greatest x.bs with | none => 0 | some b => (x.blk b).length) = (x.blk ((greatest x.bs).getD 0)).length
      rw [hg]
      show 0 = (x.blk 0).length
      rw [h0]; rfl
    · show mid x.bs ((greatest x.bs).getD 0) = _
      rw [hg, List.append_nil]
      refine List.eq_replicate_iff.mpr ⟨?_, fun k hk => ?_⟩
      · have := mid_len (l := x.bs) (i := 0) (by omega)
        show (mid x.bs 0).length = _
        omega
      · have hk : k ∈ mid x.bs 0 := hk
        have hk2 : k ∈ rot x.bs (0 + 1) := by rw [rot_last (by omega)]; exact List.mem_append_left _ hk
        obtain ⟨b, hb⟩ := List.getElem?_of_mem (mem_rot.mp hk2)
        exact hall b k hb
    · show ((greatest x.bs).getD 0 + 1 + (x.bs.length - 1)) % x.bs.length = N % x.bs.length
      rw [hg, ← h7, hln]
      show (0 + 1 + (x.bs.length - 1)) % x.bs.length = _
      congr 1
      omega
    · show (greatest x.bs).getD 0 = 0
      rw [hg]; rfl
    · show x.blk ((greatest x.bs).getD 0) = []
      rw [hg]; exact h0
  | some b =>
    obtain ⟨k, r, y1, y2, y3⟩ := greatest_some hg
    obtain ⟨j, hj, hji, hrj⟩ := rot_back h1
    have hdne : data ≠ [] := fun z => by
      subst z
      have hk : k ∈ rot x.bs i := mem_rot.mpr (List.mem_of_getElem? y1)
      rw [h2, List.append_nil] at hk
      exact isEmpty_iff.mp (h4' k hk) r y2
    rw [h2, rot_lastD hj] at hrj
    obtain ⟨data', hd⟩ : ∃ data', data = data' ++ [x.blk j] := by
      refine ⟨data.dropLast, ?_⟩
      have e1 := List.dropLast_concat_getLast hdne
      have e2 : data.getLast hdne = x.blk j := by
        have := congrArg List.getLast? hrj
        rw [List.getLast?_append, List.getLast?_append, List.getLast?_eq_some_getLast hdne] at this
        simpa using this
      rw [← e2]; exact e1.symm
    have hmid : mid x.bs j = El ++ data' := by
      rw [hd, ← List.append_assoc] at hrj
      exact (List.append_inj' hrj rfl).1.symm
    have hne : isEmpty (x.blk j) = false := h5 _ (by rw [hd]; exact List.mem_append_right _ (List.mem_singleton.mpr rfl))
    obtain ⟨rj, hrj2⟩ := not_empty hne
    have hs : Srt (mid x.bs j ++ [x.blk j]) := by
      rw [← hrj, ← h2]; exact h8
    have hbj : b = j := Classical.byContradiction fun ne => by
      have := hs.lt ⟨k, mid_ne y1 ne, y2⟩ (mem_one.mpr hrj2)
      have := y3 rj ⟨_, List.mem_of_getElem? (blkm hj), hrj2⟩
      omega
    subst hbj
    have hh : (DS.found x S).head = b := by
      show (greatest x.bs).getD 0 = b
      rw [hg]; rfl
    refine { toBase := ⟨rfl, h4, Bs.m2, Bs.room, by rw [hh]; exact hj, Bs.fit, Bs.dist, Bs.len, ?_, ?_, s2, s3, s1, g.val⟩, q := ⟨El.length, N, data', ?_, hE1, fun k z => h5 k (by rw [hd]; exact List.mem_append_left _ z), ?_, w, fun z _ => ?_⟩, cur := .inr ?_ }
    · rw [hh]
      show Srt (rot x.bs (b + 1))
      rw [rot_lastD hj]; exact hs
    · rw [hh]
      show (match greatest x.bs with | none => 0 | some b => (x.blk b).length) = (x.blk b).length
      rw [hg]
    · rw [hh, ← hE]; exact hmid
    · rw [hh]
      show (b + 1 + El.length) % x.bs.length = N % x.bs.length
      rw [← h7, ← hji]
      rw [Nat.mod_add_mod]
    · rw [hh] at z
      have z : x.blk b = [] := z
      rw [z] at hne; cases hne
    · rw [hh]; exact hne
theorem mount_ok (g : Good S f C x) (hS : 1 ≤ S) :
    TidyOk x ∧ ((tidy x).2 = true → Fit S (tidy x).1.bs ∧ ∀ b, greatest (tidy x).1.bs = some b → b < x.bs.length) ∧
      ((mount x S).2 = true → Ready S f C (mount x S).1) ∧ ((mount x S).2 = false → Good S f (C + 1) (mount x S).1.x) ∧ Adds x (mount x S).1.x 0 1 := by
  obtain ⟨t1, t2, t3, t4⟩ := tidy_ok g hS
  have hl : (tidy x).1.bs.length = x.bs.length := by
    unfold tidy
    split
    · rcases erase_cases x ((greatest x.bs).getD 0) with ⟨_, z, _⟩ | ⟨_, z, _⟩ | ⟨_, z⟩
      · rw [z, List.length_set]
      · rw [z, List.length_set]
      · rw [z]
    · have : ∀ (l : List Nat) (x : DC), (tidyGo l x).1.bs.length = x.bs.length := fun l => by
        induction l with
        | nil => intro x; rfl
        | cons b l ih =>
          intro x
          show (if none ∈ x.blk b then (if (x.erase b).2 = true then tidyGo l (x.erase b).1 else ((x.erase b).1, false)) else tidyGo l x).1.bs.length = _
          have he : (x.erase b).1.bs.length = x.bs.length := by
            rcases erase_cases x b with ⟨_, z, _⟩ | ⟨_, z, _⟩ | ⟨_, z⟩
            · rw [z, List.length_set]
            · rw [z, List.length_set]
            · rw [z]
          split
          · split
            · rw [ih]; exact he
            · exact he
          · exact ih x
      exact this _ _
  refine ⟨t1, fun h => ?_, ?_⟩
  · obtain ⟨f1, f2, _⟩ := found_ok (t2 h)
    exact ⟨f1, fun b hb => by rw [← hl]; exact f2 b hb⟩
  unfold mount
  by_cases h : (tidy x).2 = true
  · rw [if_pos h]
    exact ⟨fun _ => (found_ok (t2 h)).2.2, fun z => (nomatch z), t4⟩
  · rw [if_neg h]
    refine ⟨fun z => (nomatch z), fun _ => t3 ?_, t4⟩
    cases q : (tidy x).2 with
    | true => exact absurd q h
    | false => rfl
end

inductive Steps : DC → DC → Prop
  | refl (x : DC) : Steps x x
  | put {x y : DC} (h : Steps x y) (b : Nat) (r : Rec) : Steps x (y.put b r).1
  | erase {x y : DC} (h : Steps x y) (b : Nat) : Steps x (y.erase b).1
theorem Steps.trans {x y z : DC} (h : Steps x y) (h' : Steps y z) : Steps x z := by
  induction h' with
  | refl => exact h
  | put _ b r ih => exact ih.put b r
  | erase _ b ih => exact ih.erase b
theorem Steps.pow {x y : DC} (h : Steps x y) (p : Pow x) : Pow y := by
  induction h with
  | refl => exact p
  | put _ b r ih => exact (ih.put b r).2
  | erase _ b ih => exact (ih.erase b).2
theorem putm_len (x : DC) (b : Nat) (r : Rec) : (x.put b r).1.bs.length = x.bs.length ∧ (x.put b r).1.m = x.m := by
  rcases put_cases x b r with ⟨_, z1, z2, _⟩ | ⟨_, z1, z2, _⟩ | ⟨_, z1⟩
  · rw [z1, z2, List.length_set]; exact ⟨rfl, rfl⟩
  · rw [z1, z2, List.length_set]; exact ⟨rfl, rfl⟩
  · rw [z1]; exact ⟨rfl, rfl⟩
theorem erasem_len (x : DC) (b : Nat) : (x.erase b).1.bs.length = x.bs.length ∧ (x.erase b).1.m = x.m := by
  rcases erase_cases x b with ⟨_, z1, z2, _⟩ | ⟨_, z1, z2, _⟩ | ⟨_, z1⟩
  · rw [z1, z2, List.length_set]; exact ⟨rfl, rfl⟩
  · rw [z1, z2, List.length_set]; exact ⟨rfl, rfl⟩
  · rw [z1]; exact ⟨rfl, rfl⟩
theorem Steps.len {x y : DC} (h : Steps x y) : y.bs.length = x.bs.length ∧ y.m = x.m := by
  induction h with
  | refl => exact ⟨rfl, rfl⟩
  | put _ b r ih => exact ⟨(putm_len _ b r).1.trans ih.1, (putm_len _ b r).2.trans ih.2⟩
  | erase _ b ih => exact ⟨(erasem_len _ b).1.trans ih.1, (erasem_len _ b).2.trans ih.2⟩
theorem st_put (st : DS) (s c : Int) : Steps st.x (st.put s c).1.x := by
  unfold DS.put; split <;> exact (Steps.refl _).put _ _
theorem st_cleanGo (b : Nat) : ∀ (l : Blk) (p : Nat) (st : DS), Steps st.x (cleanGo b l p st).1.x
  | [], _, st => .refl _
  | none :: r, p, st => st_cleanGo b r (p + 1) st
  | some x :: r, p, st => by
    unfold cleanGo
    split
    · split
      · exact (st_put st x.s x.c).trans (st_cleanGo b r (p + 1) _)
      · exact st_put st x.s x.c
    · exact st_cleanGo b r (p + 1) st
theorem st_clean (st : DS) (b : Nat) : Steps st.x (st.clean b).1.x := by
  unfold DS.clean
  split
  · exact (st_cleanGo b _ 0 st).erase b
  · exact st_cleanGo b _ 0 st
theorem st_advance (st : DS) : Steps st.x st.advance.1.x := by
  unfold DS.advance
  split
  · exact .refl _
  · exact st_clean st.moved _
theorem st_wloop : ∀ (k : Nat) (st : DS), Steps st.x (wloop k st).1.x
  | 0, st => .refl _
  | k + 1, st => by
    unfold wloop
    split
    · split
      · exact (st_advance st).trans (st_wloop k _)
      · exact st_advance st
    · exact .refl _
theorem st_write (st : DS) (s c : Int) : Steps st.x (st.write s c).1.x := by
  unfold DS.write
  split
  · exact (st_wloop _ st).trans (st_put _ s c)
  · exact st_wloop _ st
theorem st_tidyGo : ∀ (l : List Nat) (x : DC), Steps x (tidyGo l x).1
  | [], x => .refl _
  | b :: r, x => by
    unfold tidyGo
    split
    · split
      · exact ((Steps.refl _).erase b).trans (st_tidyGo r _)
      · exact (Steps.refl _).erase b
    · exact st_tidyGo r x
theorem st_tidy (x : DC) : Steps x (tidy x).1 := by
  unfold tidy
  split
  · exact (Steps.refl _).erase _
  · exact st_tidyGo _ x
theorem st_mount (x : DC) (S : Int) : Steps x (mount x S).1.x := by
  unfold mount; split <;> exact st_tidy x
theorem pw_put {st : DS} (h : Pow st.x) (s c : Int) : (st.put s c).2 = true := by
  unfold DS.put; rw [if_pos (h.put _ _).1]
theorem pw_cleanGo (b : Nat) : ∀ (l : Blk) (p : Nat) (st : DS), Pow st.x → (cleanGo b l p st).2 = true
  | [], _, st, _ => rfl
  | none :: r, p, st, h => pw_cleanGo b r (p + 1) st h
  | some x :: r, p, st, h => by
    unfold cleanGo
    split
    · rw [if_pos (pw_put h x.s x.c)]
      exact pw_cleanGo b r (p + 1) _ ((st_put st x.s x.c).pow h)
    · exact pw_cleanGo b r (p + 1) st h
theorem pw_clean {st : DS} (h : Pow st.x) (b : Nat) : (st.clean b).2 = true := by
  unfold DS.clean
  rw [if_pos (pw_cleanGo b _ 0 st h)]
  exact (((st_cleanGo b _ 0 st).pow h).erase b).1
theorem pw_advance {st : DS} (h : Pow st.x) : st.advance.2 = true := by
  unfold DS.advance
  split
  · rfl
  · exact pw_clean (st := st.moved) h _
theorem pw_wloop : ∀ (k : Nat) {st : DS}, Pow st.x → (wloop k st).2 = true
  | 0, st, _ => rfl
  | k + 1, st, h => by
    unfold wloop
    split
    · rw [if_pos (pw_advance h)]
      exact pw_wloop k ((st_advance st).pow h)
    · rfl
theorem pw_write {st : DS} (h : Pow st.x) (s c : Int) : (st.write s c).2 = true := by
  unfold DS.write
  rw [if_pos (pw_wloop _ h)]
  exact pw_put ((st_wloop _ st).pow h) s c
theorem pw_tidyGo : ∀ (l : List Nat) {x : DC}, Pow x → (tidyGo l x).2 = true
  | [], x, _ => rfl
  | b :: r, x, h => by
    unfold tidyGo
    split
    · rw [if_pos (h.erase b).1]
      exact pw_tidyGo r (h.erase b).2
    · exact pw_tidyGo r h
theorem pw_tidy {x : DC} (h : Pow x) : (tidy x).2 = true := by
  unfold tidy
  split
  · exact (h.erase _).1
  · exact pw_tidyGo _ h
theorem pw_mount {x : DC} (h : Pow x) (S : Int) : (mount x S).2 = true := by
  unfold mount; rw [if_pos (pw_tidy h)]
theorem empty_mem {x : DC} (h : empties x ≠ []) : ∃ b, b < x.bs.length ∧ isEmpty (x.blk b) = true := by
  cases e : empties x with
  | nil => exact absurd e h
  | cons b l => exact ⟨b, mem_empties.mp (by rw [e]; exact List.mem_cons_self)⟩
theorem clean_tidy {x : DC} (c : Clean x.bs) (h : empties x ≠ []) : tidy x = (x, true) := by
  unfold tidy
  rw [if_neg h]
  refine tidyGo_none _ x fun b hb => ?_
  obtain ⟨h1, h2⟩ := mem_empties.mp hb
  rw [c b _ (blkm h1) h2]
  exact List.not_mem_nil
theorem Ready.empties {S : Int} {f : Int → Int} {C : Nat} {st : DS} (R : Ready S f C st) : empties st.x ≠ [] := fun z => by
  obtain ⟨h, e⟩ := R.next_head
  have : st.nextH ∈ Ew.empties st.x := mem_empties.mpr ⟨h, by rw [← blkm' h, e]; rfl⟩
  rw [z] at this
  cases this
theorem Ready.tidy {S : Int} {f : Int → Int} {C : Nat} {st : DS} (R : Ready S f C st) : Ew.tidy st.x = (st.x, true) := clean_tidy R.clean R.empties
theorem clean_mount {x : DC} (h : Ew.tidy x = (x, true)) (S : Int) : mount x S = (DS.found x S, true) := by
  unfold mount; rw [h]; rfl
theorem Ready.mount {S : Int} {f : Int → Int} {C : Nat} {st : DS} (R : Ready S f C st) (S' : Int) : mount st.x S' = (DS.found st.x S', true) := clean_mount R.tidy S'
def DC.new (n m : Nat) : DC := ⟨List.replicate n [], m, List.replicate n 0, 0, none, false⟩
theorem recs_reps (n : Nat) : recs (List.replicate n []) = [] := recs_empty fun k hk => by rw [List.eq_of_mem_replicate hk]; rfl
theorem mem_reps {n : Nat} {r : Rec} : ¬ Mem (List.replicate n []) r := fun ⟨k, hk, hr⟩ => by
  rw [List.eq_of_mem_replicate hk] at hr; cases hr
theorem rot_rep {α : Type} {n i : Nat} {a : α} (h : i ≤ n) : rot (List.replicate n a) i = List.replicate n a := by
  unfold rot
  rw [List.drop_replicate, List.take_replicate, List.replicate_append_replicate, show n - i + min i n = n by omega]
theorem wear_new (n : Nat) : WearOk n (List.replicate n 0) 0 0 := by
  refine ⟨List.length_replicate, fun _ => 0, ?_, fun b hb => ?_⟩
  · have : ∀ k, sumTo k (fun _ => 0) = 0 := fun k => by
      induction k with
      | zero => rfl
      | succ k ih => show sumTo k _ + 0 = 0; rw [ih]
    rw [this]; omega
  · have : ring n 0 b = 0 := by
      unfold ring
      rw [Nat.zero_div, Nat.zero_mod, if_neg (by omega)]
    rw [this, List.getD_eq_getElem?_getD, List.getElem?_replicate, if_pos hb]
    rfl
theorem new_good {n m : Nat} {S : Int} (h4 : 4 ≤ n) (h2 : 2 ≤ m) (hS : S ≤ ((n : Int) - 2) * m) (left : Option Int) (cut : Bool) : Good S (fun _ => 0) 0 { DC.new n m with left := left, cut := cut } := by
  have hl : (List.replicate n ([] : Blk)).length = n := List.length_replicate
  refine .inl { n4 := by show 4 ≤ (List.replicate n ([] : Blk)).length; omega, m2 := h2, room := by show S ≤ (((List.replicate n ([] : Blk)).length : Int) - 2) * m; rw [hl]; exact hS, fit := fun r hr => absurd hr mem_reps, dist := fun b p _ _ r _ h => absurd h.mem mem_reps, len := fun k hk => by rw [List.eq_of_mem_replicate hk]; exact Nat.zero_le _, a := ?_, val := fun s _ _ => .inl ⟨fun r hr => absurd hr mem_reps, rfl⟩ }
  refine ⟨0, 0, List.replicate n [], [], by show 0 < (List.replicate n ([] : Blk)).length; omega, ?_, ?_, ?_, ?_, fun _ => rfl, ?_, ?_, .inl ⟨?_, ?_⟩⟩
  · show rot (List.replicate n []) 0 = _
    rw [rot_rep (Nat.zero_le n), List.append_nil]
  · intro z
    have := congrArg List.length z
    rw [hl] at this
    have : n = 0 := this
    omega
  · intro k hk; rw [List.eq_of_mem_replicate hk]; rfl
  · intro k hk; cases hk
  · show (0 + (List.replicate n ([] : Blk)).length) % (List.replicate n ([] : Blk)).length = 0 % (List.replicate n ([] : Blk)).length
    rw [Nat.zero_add, Nat.mod_self, Nat.zero_mod]
  · show Srt (rot (List.replicate n []) 0)
    rw [rot_rep (Nat.zero_le n)]
    unfold Srt
    rw [recs_reps]
    exact List.Pairwise.nil
  · intro b k hb _
    exact List.eq_of_mem_replicate (List.mem_of_getElem? hb)
  · show WearOk (List.replicate n ([] : Blk)).length (List.replicate n 0) 0 0
    rw [hl]; exact wear_new n
theorem new_pow (n m : Nat) : Pow (DC.new n m) := ⟨rfl, rfl⟩
theorem Good.power {S : Int} {f : Int → Int} {C : Nat} {x y : DC} (g : Good S f C x) (h1 : y.bs = x.bs) (h2 : y.m = x.m) (h3 : y.wears = x.wears) : Good S f C y := by
  unfold Good; rw [h1, h2, h3]; exact g
theorem Good.congr {S : Int} {f f' : Int → Int} {C : Nat} {x : DC} (g : Good S f C x) (h : ∀ s, 0 ≤ s → s < S → f s = f' s) : Good S f' C x := by
  rcases g with g | g
  · exact .inl { g with val := fun s h0 h1 => by rw [← h s h0 h1]; exact g.val s h0 h1 }
  · obtain ⟨i, N, C', hi, h1, h2, h3, h4, h5, h6⟩ := g.b
    exact .inr { g with b := ⟨i, N, C', hi, h1, h2, h3, h4, h5, fun s h0 h7 => by rw [← h s h0 h7]; exact h6 s h0 h7⟩ }
theorem Ready.reads {S : Int} {f : Int → Int} {C : Nat} {st : DS} (R : Ready S f C st) {s : Int} (h0 : 0 ≤ s) (h1 : s < S) : st.val s = f s := R.pl.val R.dist (R.toBase.val s h0 h1)

def tTryOnly (K : PySem.W.Frag) (c : Value) (tb : WX → TS) (ts : Addr → Value → Option Addr → TS) (Wout : WX) : TS := fun D σ H => tb (wOnly K c ts Wout D) D σ H
theorem exm_of {K : PySem.W.Frag} {S T : Addr} {b : Bool} (h1 : PySem.W.subIn K (.ref T) (.type "BaseException") = some true) (h2 : PySem.W.isClsIn K T = true) (h3 : PySem.W.typeIn K (.ref T) = some (.type "type")) (h4 : PySem.W.subIn K (.ref S) (.ref T) = some b) : PySem.W.exmOne K (.ref S) (.ref T) = some b := by
  have h2 : (PySem.W.clsIn K T).isSome = true := h2
  unfold PySem.W.exmOne
  have e1 : (some true == some true) = true := by decide
  rw [h1, if_pos e1]
  show (if ((PySem.W.clsIn K T).isSome && PySem.W.typeIn K (.ref T) == some (.type "type")) = true then PySem.W.subIn K (.ref S) (.ref T) else none) = some b
  rw [h2, h3]
  exact h4
structure FacL (K : PySem.W.Frag) (A : Ad) : Prop extends FacD K A where
  ex_cut : PySem.W.exmOne K (.ref A.cut) (.ref A.cut) = some true
def sp_l_cell (K : PySem.W.Frag) (A : Ad) : Sp := fun vs H Q E => ∃ (l : Addr) (ns : List Int) (k : Int), vs = [.ref l, .int k] ∧ SqL K H l (ns.map V.int) ∧ ns.length ≤ 63 ∧ 0 ≤ k ∧ ∀ c H', Same H H' → Q (.int c) H'
def sp_l_drawn (K : PySem.W.Frag) (A : Ad) : Sp := fun vs H Q E => ∃ c k, vs = [.int c, .int k] ∧ ∀ m : Int, 0 ≤ m → m < 2 ^ 128 → Q (.int m) H
def sp_l_content (K : PySem.W.Frag) (A : Ad) : Sp := fun vs H Q E => ∃ m, vs = [.int m] ∧ ∀ c H', Same H H' → conOk c → Q (.int c) H'
def sp_l_tried (K : PySem.W.Frag) (A : Ad) : Sp := fun vs H Q E => ∃ d st s c, vs = [.ref d.q, .int s, .int c] ∧ DiskAt A H d st ∧ secOk st s ∧ conOk c ∧ WriteOk st s ∧ ∀ d' H', ChgD A H d H' d' (st.write s c).1 → Q (.bl (st.write s c).2) H'
def sp_l_mounted (K : PySem.W.Frag) (A : Ad) : Sp := fun vs H Q E => ∃ c x S, vs = [.ref c.p, .int S] ∧ ChipD A H c x ∧ manyOk x S ∧ TidyOk x ∧ ((tidy x).2 = true → Fit S (tidy x).1.bs ∧ ∀ b, greatest (tidy x).1.bs = some b → b < x.n) ∧
  ∀ d H', Mounted A H c H' d (mount x S).1 → Q (if (mount x S).2 = true then .ref d.q else .non) H'
def sp_l_wears (K : PySem.W.Frag) (A : Ad) : Sp := fun vs H Q E => ∃ c x, vs = [.ref c.p] ∧ ChipD A H c x ∧ ∀ l H', Same H H' → H l = none → H' l = some (.lst (x.wears.map V.int)) → Q (.ref l) H'
def N_l_cell : List Str := ["_law_script", "_law_k"]
def t_l_cell (K : PySem.W.Frag) (A : Ad) (E : XK) : TS :=
  (tSeq (tIfS (tTest (tOp (rEqD K) (tVar 0) (tLst tNil)))
  (tRet (tOp zMul (tVar 1) (tC (.int 7919))))
  tNext)
  (tRet (tOp zAdd (tOp (rIxL K) (tVar 0) (tOp zMod (tVar 1) (tCB (zLen K) (tCons (tVar 0) tNil)))) (tOp zMul (tOp zDivW (tVar 1) (tCB (zLen K) (tCons (tVar 0) tNil))) (tC (.int 104729))))))

def N_l_drawn : List Str := ["_law_cell_here", "_law_k", "_law_more"]
def t_l_drawn (K : PySem.W.Frag) (A : Ad) (E : XK) : TS :=
  (tSeq (tAsg (tOp zMod (tOp zAdd (tOp zMul (tVar 0) (tC (.int 6364136223846793005))) (tOp zMul (tOp zAdd (tVar 1) (tC (.int 1))) (tC (.int 1442695040888963407)))) (tC (.int 340282366920938463463374607431768211507))) (gName 2))
  (tRet (tOp zMod (tOp zMulW (tVar 2) (tVar 2)) (tC (.int 340282366920938463463374607431768211297)))))

def N_l_content : List Str := ["_law_more"]
def t_l_content (K : PySem.W.Frag) (A : Ad) (E : XK) : TS :=
  (tRet (tOp (rIxL K) (tLst (tCons (tOp zMod (tVar 0) (tC (.int 5))) (tCons (tOp zMod (tVar 0) (tC (.int 1000))) (tCons (tOp zSub (tC (.int 999999999999)) (tOp zMod (tVar 0) (tC (.int 2)))) tNil)))) (tOp zMod (tOp zDivW (tVar 0) (tC (.int 1000))) (tC (.int 3)))))

def N_l_tried : List Str := ["_law_disk", "_law_sector", "_law_content_here"]
def t_l_tried (K : PySem.W.Frag) (A : Ad) (E : XK) : TS :=
  (tSeq (tTryOnly K (.ref A.cut) (fun W => (tDrop (tMethS A.disk "write" (sp_Disk_write K A) (WE W) (tVar 0) (tCons (tVar 1) (tCons (tVar 2) tNil))))) (fun _ _ _ => (tRet (tC (.bl false)))) (fun cls d _ H => E cls d H))
  (tRet (tC (.bl true))))

def N_l_mounted : List Str := ["_law_chip", "_law_sectors"]
def t_l_mounted (K : PySem.W.Frag) (A : Ad) (E : XK) : TS :=
  (tTryOnly K (.ref A.cut) (fun W => (tRet (tCallS (sp_mounted K A) (WE W) (tCons (tVar 0) (tCons (tVar 1) tNil))))) (fun _ _ _ => (tRet (tC .non))) (fun cls d _ H => E cls d H))

def N_l_wears : List Str := ["_law_chip", "_law_block"]
def t_l_wears (K : PySem.W.Frag) (A : Ad) (E : XK) : TS :=
  (tRet (tLc (iRng1 (tCons (tOp (rIxT K) (tMeth A.chip "size" (sp_Chip_size K A) [] E0 (tVar 0) tNil) (tC (.int 0))) tNil)) (gName 1) tYes (tMeth A.chip "worn" (sp_Chip_worn K A) [] E0 (tVar 0) (tCons (tVar 1) tNil)) [1]))

section
variable {K : PySem.W.Frag} {A : Ad} {vs : List V} {H H' : Hp} {Q : VK} {E : XK}
theorem log2_small {n k : Nat} (h : n < 2 ^ k) (hk : 0 < k) : n.log2 < k := by
  by_cases z : n = 0
  · subst z; rw [Nat.log2_zero]; exact hk
  · exact (Nat.log2_lt z).mpr h
theorem divW {i j : Int} (h0 : 0 < j) (h1 : j < 2 ^ 200) : CDivW i j := ⟨h0, by
  have := log2_small (n := j.natAbs) (k := 200) (by omega) (by omega)
  omega⟩
theorem md {j : Int} (h : 0 < j) : 0 < j := h
theorem mulW {i j : Int} (h0 : 0 ≤ i) (h1 : i < 2 ^ 130) (h2 : 0 ≤ j) (h3 : j < 2 ^ 130) : CMulW i j := by
  have := log2_small (n := i.natAbs) (k := 130) (by omega) (by omega)
  have := log2_small (n := j.natAbs) (k := 130) (by omega) (by omega)
  show _ + _ < _
  omega
theorem len_l_cell (h : sp_l_cell K A vs H Q E) : vs.length = 2 := by
  obtain ⟨_, _, _, rfl, _⟩ := h; rfl
theorem len_l_drawn (h : sp_l_drawn K A vs H Q E) : vs.length = 2 := by
  obtain ⟨_, _, rfl, _⟩ := h; rfl
theorem len_l_content (h : sp_l_content K A vs H Q E) : vs.length = 1 := by
  obtain ⟨_, rfl, _⟩ := h; rfl
theorem len_l_tried (h : sp_l_tried K A vs H Q E) : vs.length = 3 := by
  obtain ⟨_, _, _, _, rfl, _⟩ := h; rfl
theorem len_l_mounted (h : sp_l_mounted K A vs H Q E) : vs.length = 2 := by
  obtain ⟨_, _, _, rfl, _⟩ := h; rfl
theorem len_l_wears (h : sp_l_wears K A vs H Q E) : vs.length = 1 := by
  obtain ⟨_, _, rfl, _⟩ := h; rfl
theorem ifYes {x y : V} {P1 P2 : Prop} (e : x = y) (h : P1) : if decide (x = y) = true then P1 else P2 := by
  rw [decide_eq_true e]; exact iteT h
theorem ifNo {x y : V} {P1 P2 : Prop} (e : x ≠ y) (h : P2) : if decide (x = y) = true then P1 else P2 := by
  rw [decide_eq_false e]; exact iteF h
theorem ifYesN {x y : V} {P1 P2 : Prop} (e : x = y) (h : P2) : if (!decide (x = y)) = true then P1 else P2 := by
  rw [decide_eq_true e]; exact iteF h
theorem ifNoN {x y : V} {P1 P2 : Prop} (e : x ≠ y) (h : P1) : if (!decide (x = y)) = true then P1 else P2 := by
  rw [decide_eq_false e]; exact iteT h
theorem pure_l_cell {Z : Prop} (F : Z) (h : sp_l_cell K A vs H Q E) : t_l_cell K A E { nx := fun _ H' => Q .non H', rt := Q } (start N_l_cell vs) H := by
  obtain ⟨l, ns, k, rfl, hl, hn, k0, q⟩ := h
  refine ⟨_, rfl, Nat.zero_le _, fun e he => ?_⟩
  have s := Same.new (o := .lst []) he
  have hl2 := s.seq hl
  refine ⟨.list (ns.map PyData.int), .list (([] : List Int).map PyData.int), .lst hl2 (dpAll_ints _), .lst (SqL.of upd_same) .nil, OkD.listI.sh, (OkD.listI (ns := [])).sh, _, rfl, ?_⟩
  rw [eqv_lists]
  by_cases hz : ns = []
  · rw [decide_eq_true hz]
    exact iteT ⟨_, rfl, k, 7919, rfl, rfl, .inr ⟨by decide, by decide⟩, q _ _ s⟩
  · rw [decide_eq_false hz]
    refine iteF ?_
    have hp : 0 < ns.length := List.length_pos_iff.mpr hz
    have hi : (k % (ns.length : Int)).toNat < ns.length := by
      have := Int.emod_nonneg k (b := (ns.length : Int)) (by omega)
      have := Int.emod_lt_of_pos k (b := (ns.length : Int)) (by omega)
      omega
    have hv : (ns.map V.int)[(k % (ns.length : Int)).toNat]? = some (.int (ns[(k % (ns.length : Int)).toNat])) := by
      rw [List.getElem?_map, List.getElem?_eq_getElem hi]; rfl
    have hL : ((ns.map V.int).length : Int) = (ns.length : Int) := by rw [List.length_map]
    refine ⟨_, rfl, _, rfl, _, rfl, l, _, rfl, .inl hl2, _, _, rfl, rfl, by rw [hL]; omega, l, _, _, .int (ns[(k % (ns.length : Int)).toNat]), rfl, rfl, hl2, ?_, _, rfl, _, rfl, l, _, rfl, .inl hl2, _, _, rfl, rfl, divW (by rw [hL]; omega) (by rw [hL]; omega), _, _, rfl, rfl, .inr ⟨by decide, by decide⟩, _, _, rfl, rfl, q _ _ s⟩
    · rw [hL]
      exact at_of (j := (k % (ns.length : Int)).toNat) (by have := Int.emod_nonneg k (b := (ns.length : Int)) (by omega); omega) hv
theorem pure_l_drawn {Z : Prop} (F : Z) (h : sp_l_drawn K A vs H Q E) : t_l_drawn K A E { nx := fun _ H' => Q .non H', rt := Q } (start N_l_drawn vs) H := by
  obtain ⟨c, k, rfl, q⟩ := h
  have h0 : 0 ≤ (c * 6364136223846793005 + (k + 1) * 1442695040888963407) % 340282366920938463463374607431768211507 := Int.emod_nonneg _ (by decide)
  have h1 : (c * 6364136223846793005 + (k + 1) * 1442695040888963407) % 340282366920938463463374607431768211507 < 2 ^ 130 := by
    have := Int.emod_lt_of_pos (c * 6364136223846793005 + (k + 1) * 1442695040888963407) (b := 340282366920938463463374607431768211507) (by decide)
    omega
  refine ⟨_, rfl, _, _, rfl, rfl, .inr ⟨by decide, by decide⟩, _, rfl, _, _, rfl, rfl, _, _, rfl, rfl, .inr ⟨by decide, by decide⟩, _, _, rfl, rfl, _, _, rfl, rfl, md (by decide), ?_⟩
  refine ⟨_, rfl, _, rfl, _, _, rfl, rfl, mulW h0 h1 h0 h1, _, _, rfl, rfl, md (by decide), q _ (Int.emod_nonneg _ (by decide)) ?_⟩
  have := Int.emod_lt_of_pos ((c * 6364136223846793005 + (k + 1) * 1442695040888963407) % 340282366920938463463374607431768211507 * ((c * 6364136223846793005 + (k + 1) * 1442695040888963407) % 340282366920938463463374607431768211507)) (b := 340282366920938463463374607431768211297) (by decide)
  exact Int.lt_trans this (by decide)
theorem pure_l_content {Z : Prop} (F : Z) (h : sp_l_content K A vs H Q E) : t_l_content K A E { nx := fun _ H' => Q .non H', rt := Q } (start N_l_content vs) H := by
  obtain ⟨m, rfl, q⟩ := h
  refine ⟨_, rfl, _, _, rfl, rfl, md (by decide), _, rfl, _, _, rfl, rfl, md (by decide), _, rfl, _, _, rfl, rfl, md (by decide), _, _, rfl, rfl, (by show 3 ≤ sizeLine; decide), fun p hp => ?_⟩
  have s := Same.new (o := .lst [.int (m % 5), .int (m % 1000), .int (999999999999 - m % 2)]) hp
  have a1 : conOk (m % 5) := ⟨by omega, by omega⟩
  have a2 : conOk (m % 1000) := ⟨by omega, by omega⟩
  have a3 : conOk (999999999999 - m % 2) := ⟨by omega, by omega⟩
  refine ⟨_, rfl, _, _, rfl, rfl, divW (by decide) (by decide), _, _, rfl, rfl, md (by decide), ?_⟩
  rcases (by omega : m / 1000 % 3 = 0 ∨ m / 1000 % 3 = 1 ∨ m / 1000 % 3 = 2) with e | e | e
  · exact ⟨p, _, _, _, rfl, rfl, SqL.of upd_same, at_of (j := 0) e rfl, q _ _ s a1⟩
  · exact ⟨p, _, _, _, rfl, rfl, SqL.of upd_same, at_of (j := 1) e rfl, q _ _ s a2⟩
  · exact ⟨p, _, _, _, rfl, rfl, SqL.of upd_same, at_of (j := 2) e rfl, q _ _ s a3⟩
theorem pure_l_tried (F : FacL K A) (h : sp_l_tried K A vs H Q E) : t_l_tried K A E { nx := fun _ H' => Q .non H', rt := Q } (start N_l_tried vs) H := by
  obtain ⟨d, st, s, c, rfl, h, hs, hc, ok, k⟩ := h
  refine ⟨_, rfl, d.q, d.qx, _, rfl, h.ob, no8, _, rfl, _, rfl, d, st, s, c, rfl, h, fun z => absurd hs z, fun _ z => absurd hc z, fun _ _ => ⟨ok, fun d' H' g => ?_⟩⟩
  have kk := k d' H' g
  unfold okE
  cases e : (st.write s c).2 with
  | true =>
    rw [if_pos rfl]
    rw [e] at kk
    exact kk
  | false =>
    rw [if_neg Bool.false_ne_true]
    rw [e] at kk
    exact ⟨true, F.ex_cut, fun _ a ha => kk, fun z => (nomatch z)⟩
theorem pure_l_mounted (F : FacL K A) (h : sp_l_mounted K A vs H Q E) : t_l_mounted K A E { nx := fun _ H' => Q .non H', rt := Q } (start N_l_mounted vs) H := by
  obtain ⟨c, x, S, rfl, h, hm, ok, ft, k⟩ := h
  refine ⟨_, rfl, _, rfl, c, x, S, rfl, h, fun z => absurd hm z, fun _ => ⟨ok, ft, fun d H' g => ?_⟩⟩
  have kk := k d H' g
  unfold okE
  cases e : (mount x S).2 with
  | true =>
    rw [if_pos rfl]
    rw [e, if_pos rfl] at kk
    exact kk
  | false =>
    rw [if_neg Bool.false_ne_true]
    rw [e, if_neg Bool.false_ne_true] at kk
    exact ⟨true, F.ex_cut, fun _ a ha => kk, fun z => (nomatch z)⟩
theorem pure_l_wears {Z : Prop} (F : Z) (h : sp_l_wears K A vs H Q E) : t_l_wears K A E { nx := fun _ H' => Q .non H', rt := Q } (start N_l_wears vs) H := by
  obtain ⟨c, x, rfl, h, k⟩ := h
  obtain ⟨rows, hc, R⟩ := id h.ex
  refine ⟨_, rfl, c.p, c.dx, _, rfl, hc.ob, no5, c, _, rfl, hc, fun t ht => ?_⟩
  have s0 : Same H (upd H t (.tup [.int (rows.length : Nat), .int (x.m : Nat)])) := Same.new ht
  have hn : rows.length = x.wears.length := hc.wlen.symm
  have h32 : rows.length ≤ 32 := hc.hi
  refine ⟨t, _, _, .int (rows.length : Nat), rfl, rfl, SqT.of upd_same, at_of (j := 0) rfl rfl, (rows.length : Nat), rfl, by omega, by omega, fun D hD => ?_⟩
  refine lc_mapR (lo := 0) (n := ((rows.length : Nat) : Int).toNat) (x.wears.map V.int) (by rw [List.length_map, Int.toNat_natCast, hn]) (sz32 (by omega)) hD (fun i y H1 hi hy s R r => ?_) (fun _ => rfl) fun H1 s hD1 => ?_
  · have h1 := (h.ofSame (s0.trans s))
    obtain ⟨rows1, hc1, R1⟩ := h1.ex
    have hn1 : x.wears.length = rows1.length := hc1.wlen
    have hin : (i : Int) < (rows1.length : Int) := by rw [← hn1, ← hn]; omega
    have hy' : (V.int (x.wears.getD i 0)) = y := by
      rw [List.getElem?_map, List.getElem?_eq_getElem (by omega)] at hy
      rw [List.getD_eq_getElem?_getD, List.getElem?_eq_getElem (by omega)]
      exact Option.some.inj hy
    refine ⟨_, rfl, c.p, c.dx, _, rfl, hc1.ob, no5, _, rfl, c, _, _, rfl, hc1, fun _ => ?_, fun z => absurd ⟨by omega, by show (0 + (i : Int)) < (rows1.length : Int); omega⟩ z⟩
    have e : ((0 : Int) + (i : Int)).toNat = i := by omega
    rw [e]
    show R (V.int (x.wears.getD i 0)) H1
    rw [hy']
    exact r H1 (Same.refl H1)
  · exact k D H1 (s0.trans s) (s0.free hD) hD1
structure Fr0 (G : Addr → Prop) (H H' : Hp) : Prop where
  keep : ∀ b o, H b = some o → ¬ G b → H' b = some o
  tup : ∀ b xs, H b = some (.tup xs) → H' b = some (.tup xs)
theorem Fr.f0 {G : Addr → Prop} (f : Fr G H H') : Fr0 G H H' := ⟨f.keep, f.tup⟩
def Solid (o : HO) : Prop := (∀ ps, o ≠ .tbl ps) ∧ ∀ f, o ≠ .ext f
theorem Solid.lst {xs : List V} : Solid (.lst xs) := ⟨fun ps z => (by cases z), fun f z => (by cases z)⟩
theorem Solid.dK {xs : List (Key × V)} : Solid (.dK xs) := ⟨fun ps z => (by cases z), fun f z => (by cases z)⟩
theorem Solid.ins {a d : Addr} {xs : List (Str × V)} : Solid (.ins a d xs) := ⟨fun ps z => (by cases z), fun f z => (by cases z)⟩
theorem Solid.frz {o : Obj} {u : HO} : Solid (.frz o u) := ⟨fun ps z => (by cases z), fun f z => (by cases z)⟩
theorem ChipAt.keep {d : CD} {c : CS} {G : Addr → Prop} (h : ChipAt A H d c) (f : Fr0 G H H') (dj : ∀ b, cfp d b → ¬ G b) : ChipAt A H' d c where
  ob := f.keep _ _ h.ob (dj _ (.inl rfl))
  rows := f.keep _ _ h.rows (dj _ (.inr (.inl rfl)))
  wears := f.keep _ _ h.wears (dj _ (.inr (.inr (.inl rfl))))
  len := h.len
  row := fun i a e => by
    obtain ⟨xs, h1, h2⟩ := h.row i a e
    exact ⟨xs, h1, f.keep _ _ h2 (dj _ (.inr (.inr (.inr (List.mem_of_getElem? e)))))⟩
  wlen := h.wlen
  pgs := h.pgs
  nd := h.nd
  lo := h.lo
  hi := h.hi
  mlo := h.mlo
  mhi := h.mhi
theorem ChipD.keep {d : CD} {x : DC} {G : Addr → Prop} (h : ChipD A H d x) (f : Fr0 G H H') (dj : ∀ b, cfp d b → ¬ G b) : ChipD A H' d x :=
  let ⟨rows, h1, h2⟩ := h.ex
  ⟨rows, h1.keep f dj, h2.mono f.tup⟩
theorem DiskAt.keep {d : DD} {st : DS} {G : Addr → Prop} (h : DiskAt A H d st) (f : Fr0 G H H') (dj : ∀ b, dfp d b → ¬ G b) : DiskAt A H' d st where
  ob := f.keep _ _ h.ob (dj _ (.inl rfl))
  pls := let ⟨kvs, h1, h2⟩ := h.pls
    ⟨kvs, f.keep _ _ h1 (dj _ (.inr (.inl rfl))), h2.mono f.tup⟩
  chip := h.chip.keep f fun b hb => dj b (.inr (.inr hb))
  hS := h.hS
theorem DiskAt.ofSame {d : DD} {st : DS} (h : DiskAt A H d st) (s : Same H H') : DiskAt A H' d st := h.keep (G := fun _ => False) (Fr.of_same s).f0 (fun _ _ z => z)
theorem ChipD.live {d : CD} {x : DC} (h : ChipD A H d x) {b : Addr} (hb : cfp d b) : ∃ o, H b = some o := by
  obtain ⟨rows, hc, _⟩ := h.ex
  rcases hb with z | z | z | z
  · exact ⟨_, by rw [z]; exact hc.ob⟩
  · exact ⟨_, by rw [z]; exact hc.rows⟩
  · exact ⟨_, by rw [z]; exact hc.wears⟩
  · obtain ⟨i, hi⟩ := List.getElem?_of_mem z
    obtain ⟨xs, _, h2⟩ := hc.row i b hi
    exact ⟨_, h2⟩
theorem ChipD.solid {d : CD} {x : DC} (h : ChipD A H d x) {b : Addr} (hb : cfp d b) : ∃ o, H b = some o ∧ Solid o := by
  obtain ⟨rows, hc, _⟩ := h.ex
  rcases hb with z | z | z | z
  · exact ⟨_, (by rw [z]; exact hc.ob), Solid.ins⟩
  · exact ⟨_, (by rw [z]; exact hc.rows), Solid.lst⟩
  · exact ⟨_, (by rw [z]; exact hc.wears), Solid.lst⟩
  · obtain ⟨i, hi⟩ := List.getElem?_of_mem z
    obtain ⟨xs, _, h2⟩ := hc.row i b hi
    exact ⟨_, h2, Solid.lst⟩
theorem DiskAt.solid {d : DD} {st : DS} (h : DiskAt A H d st) {b : Addr} (hb : dfp d b) : ∃ o, H b = some o ∧ Solid o := by
  rcases hb with z | z | z
  · exact ⟨_, (by rw [z]; exact h.ob), Solid.ins⟩
  · obtain ⟨kvs, hp, _⟩ := h.pls
    exact ⟨_, (by rw [z]; exact hp), Solid.dK⟩
  · exact h.chip.solid z
theorem ChipD.fresh {d : CD} {x : DC} (h : ChipD A H d x) {b : Addr} (hb : H b = none) : ¬ cfp d b := fun z => by
  obtain ⟨o, ho⟩ := h.live z
  rw [hb] at ho; cases ho
theorem new_chip {d : CD} {n m : Nat} (h : ChipAt A H d (CS.new n m)) : ChipD A H d (DC.new n m) := by
  refine ⟨List.replicate n (List.replicate m .non), ?_, ?_⟩
  · have h2 := h
    unfold CS.new at h2
    rw [Int.toNat_natCast, Int.toNat_natCast] at h2
    exact h2
  · refine ⟨by show (List.replicate n _).length = (List.replicate n _).length; rw [List.length_replicate, List.length_replicate], fun i k e => ?_⟩
    have e : (List.replicate n ([] : Blk))[i]? = some k := e
    rw [List.getElem?_replicate] at e
    split at e
    · rename_i hi
      cases e
      refine ⟨List.replicate m .non, by rw [List.getElem?_replicate, if_pos hi], ?_⟩
      refine ⟨List.length_replicate, Nat.zero_le _, fun i pg e => by simp at e, fun i _ hi => ?_⟩
      rw [List.getElem?_replicate]
      exact if_pos hi
    · cases e
end


structure Res where
  fp : Addr → Prop
  P : Hp → Prop
  live : ∀ H, P H → ∀ b, fp b → ∃ o, H b = some o ∧ Solid o
  keep : ∀ H H' (G : Addr → Prop), P H → Fr0 G H H' → (∀ b, fp b → ¬ G b) → P H'
structure Own (H : Hp) (rs : List Res) : Prop where
  get : ∀ (i : Nat) r, rs[i]? = some r → r.P H
  dj : ∀ (i j : Nat) r r', i ≠ j → rs[i]? = some r → rs[j]? = some r' → ∀ b, r.fp b → ¬ r'.fp b
section
variable {H H' : Hp} {rs : List Res}
theorem Own.pick {rs' : List Res} (O : Own H rs) (f : Nat → Nat) (hf : ∀ i j, i < rs'.length → j < rs'.length → f i = f j → i = j) (h : ∀ i r, rs'[i]? = some r → rs[f i]? = some r) : Own H rs' :=
  ⟨fun i r e => O.get (f i) r (h i r e), fun i j r r' ne e e' => O.dj (f i) (f j) r r' (fun z => ne (hf i j (List.getElem?_eq_some_iff.mp e).1 (List.getElem?_eq_some_iff.mp e').1 z)) (h i r e) (h j r' e')⟩
theorem Own.same (O : Own H rs) (s : Same H H') : Own H' rs :=
  ⟨fun i r e => r.keep H H' (fun _ => False) (O.get i r e) (Fr.of_same s).f0 (fun _ _ z => z), O.dj⟩
theorem Own.set (O : Own H rs) {r r' : Res} (i : Nat) (e : rs[i]? = some r) (p : r'.P H') (sub : ∀ b, r'.fp b → r.fp b ∨ H b = none) (fr : Fr r.fp H H') : Own H' (rs.set i r') := by
  have hi := (List.getElem?_eq_some_iff.mp e).1
  have away : ∀ (j : Nat) t, j ≠ i → rs[j]? = some t → ∀ b, t.fp b → ¬ r'.fp b := fun j t ne ht b hb hb' => by
    rcases sub b hb' with z | z
    · exact O.dj j i t r ne ht e b hb z
    · obtain ⟨o, e, _⟩ := t.live H (O.get j t ht) b hb
      rw [z] at e; cases e
  refine ⟨fun j t ht => ?_, fun j k t u ne ht hu b hb hb' => ?_⟩
  · by_cases q : i = j
    · subst q
      rw [List.getElem?_set_self hi] at ht
      cases ht; exact p
    · rw [List.getElem?_set_ne q] at ht
      exact t.keep H H' r.fp (O.get j t ht) fr.f0 (O.dj j i t r (Ne.symm q) ht e)
  · by_cases q : i = j
    · subst q
      rw [List.getElem?_set_self hi] at ht
      cases ht
      rw [List.getElem?_set_ne ne] at hu
      exact away k u (Ne.symm ne) hu b hb' hb
    · rw [List.getElem?_set_ne q] at ht
      by_cases q2 : i = k
      · subst q2
        rw [List.getElem?_set_self hi] at hu
        cases hu
        exact away j t ne ht b hb hb'
      · rw [List.getElem?_set_ne q2] at hu
        exact O.dj j k t u ne ht hu b hb hb'
theorem Own.new (O : Own H rs) {r' : Res} (p : r'.P H') (sub : ∀ b, r'.fp b → H b = none) (s : Same H H') : Own H' (r' :: rs) := by
  have away : ∀ (j : Nat) t, rs[j]? = some t → ∀ b, t.fp b → ¬ r'.fp b := fun j t ht b hb hb' => by
    obtain ⟨o, e, _⟩ := t.live H (O.get j t ht) b hb
    rw [sub b hb'] at e; cases e
  have O' := O.same s
  refine ⟨fun j t ht => ?_, fun j k t u ne ht hu b hb hb' => ?_⟩
  · cases j with
    | zero => cases ht; exact p
    | succ j => exact O'.get j t ht
  · cases j with
    | zero =>
      cases ht
      cases k with
      | zero => exact ne rfl
      | succ k => exact away k u hu b hb' hb
    | succ j =>
      cases k with
      | zero => cases hu; exact away j t ht b hb hb'
      | succ k => exact O.dj j k t u (fun z => ne (by rw [z])) ht hu b hb hb'
theorem Own.nil : Own H [] := ⟨fun i r e => by simp at e, fun i j r r' _ e => by simp at e⟩
theorem Own.one {r : Res} (p : r.P H) : Own H [r] := by
  refine ⟨fun i t e => ?_, fun i j t u ne e e' => ?_⟩
  · cases i with
    | zero => cases e; exact p
    | succ i => cases e
  · cases i with
    | zero =>
      cases j with
      | zero => exact absurd rfl ne
      | succ j => cases e'
    | succ i => cases e
theorem Own.tail {r : Res} (O : Own H (r :: rs)) : Own H rs := O.pick (fun i => i + 1) (fun i j _ _ z => by omega) (fun i r e => e)
def rOb (a : Addr) (o : HO) (hs : Solid o := by first | exact Solid.lst | exact Solid.dK | exact Solid.frz) : Res := ⟨fun b => b = a, fun H => H a = some o, fun H h b e => ⟨o, by rw [e]; exact h, hs⟩, fun H H' G h f dj => f.keep _ _ h (dj a rfl)⟩
def rTup (a : Addr) (xs : List V) : Res := ⟨fun _ => False, fun H => H a = some (.tup xs), fun H h b e => e.elim, fun H H' G h f dj => f.tup _ _ h⟩
def rDisk (A : Ad) (d : DD) (st : DS) : Res := ⟨dfp d, fun H => DiskAt A H d st, fun H h b e => h.solid e, fun H H' G h f dj => h.keep f dj⟩
def rChip (A : Ad) (c : CD) (x : DC) : Res := ⟨cfp c, fun H => ChipD A H c x, fun H h b e => h.solid e, fun H H' G h f dj => h.keep f dj⟩
theorem Own.put (O : Own H rs) {a : Addr} {o o' : HO} {hs : Solid o} {hs' : Solid o'} (i : Nat) (e : rs[i]? = some (rOb a o hs)) (nt : ∀ xs, o ≠ .tup xs) : Own (upd H a o') (rs.set i (rOb a o' hs')) :=
  O.set i e (r' := rOb a o' hs') upd_same (fun b hb => .inl hb) (Fr.put (O.get i _ e) rfl nt)
theorem Own.disk (O : Own H rs) {A : Ad} {d d' : DD} {st st' : DS} (i : Nat) (e : rs[i]? = some (rDisk A d st)) (g : ChgD A H d H' d' st') : Own H' (rs.set i (rDisk A d' st')) :=
  O.set i e (r' := rDisk A d' st') g.at_ g.sub g.fr
theorem Own.mount (O : Own H rs) {A : Ad} {d d' : DD} {st st' : DS} (i : Nat) (e : rs[i]? = some (rDisk A d st)) (g : Mounted A H d.chip H' d' st') : Own H' (rs.set i (rDisk A d' st')) :=
  O.set i e (r' := rDisk A d' st') g.at_ (fun b hb => by
    rcases hb with z | z | z
    · rw [z]; exact .inr g.new.1
    · rw [z]; exact .inr g.new.2
    · rcases g.csub b z with y | y
      · exact .inl (.inr (.inr y))
      · exact .inr y) (g.fr.mono fun b hb => .inl (.inr (.inr hb)))
theorem Own.mountC (O : Own H rs) {A : Ad} {c : CD} {x : DC} {d' : DD} {st' : DS} (i : Nat) (e : rs[i]? = some (rChip A c x)) (g : Mounted A H c H' d' st') : Own H' (rs.set i (rDisk A d' st')) :=
  O.set i e (r' := rDisk A d' st') g.at_ (fun b hb => by
    rcases hb with z | z | z
    · rw [z]; exact .inr g.new.1
    · rw [z]; exact .inr g.new.2
    · exact g.csub b z) g.fr
theorem Own.newOb (O : Own H rs) {a : Addr} {o : HO} {hs : Solid o} (h : H a = none) : Own (upd H a o) (rOb a o hs :: rs) :=
  O.new (r' := rOb a o hs) upd_same (fun b e => by rw [e]; exact h) (Same.new h)
theorem Own.newTup (O : Own H rs) {a : Addr} {xs : List V} (h : H a = none) : Own (upd H a (.tup xs)) (rTup a xs :: rs) :=
  O.new (r' := rTup a xs) upd_same (fun b e => e.elim) (Same.new h)
theorem Own.addTup (O : Own H rs) {a : Addr} {xs : List V} (h : H a = some (.tup xs)) : Own H (rTup a xs :: rs) :=
  O.new (r' := rTup a xs) h (fun b e => e.elim) (Same.refl H)
end
theorem scr_res {K : PySem.W.Frag} {H : Hp} {l : Addr} {xs : List V} (h : SqL K H l xs) : ∃ r : Res, Own H [r] ∧ ∀ H', r.P H' → SqL K H' l xs := by
  rcases h with (h | ⟨o, h⟩) | h
  · exact ⟨rOb l _, .one h, fun H' p => .inl (.inl p)⟩
  · exact ⟨rOb l _, .one h, fun H' p => .inl (.inr ⟨o, p⟩)⟩
  · exact ⟨⟨fun _ => False, fun _ => True, (fun _ _ _ z => z.elim), (fun _ _ _ _ _ _ => trivial)⟩, .one trivial, fun H' _ => .inr h⟩
theorem at_last {xs : List V} {v : V} {i : Int} (h : i = (xs.length : Int)) : atI (xs ++ [v]) i = some v := at_of (j := xs.length) h (by simp)
theorem ifY {p : Prop} [Decidable p] {P1 P2 : Prop} (e : p) (h : P1) : if decide p = true then P1 else P2 := by
  rw [decide_eq_true e]; exact iteT h
theorem ifN {p : Prop} [Decidable p] {P1 P2 : Prop} (e : ¬ p) (h : P2) : if decide p = true then P1 else P2 := by
  rw [decide_eq_false e]; exact iteF h
theorem cutV_mem {xs : List V} {lo hi : Option Int} {v : V} (h : v ∈ cutV xs lo hi) : v ∈ xs := by
  unfold cutV at h
  exact List.mem_of_mem_drop (List.mem_of_mem_take h)
structure HeldR (S : Int) (f : Int → Int) (kvs : List (Key × V)) : Prop where
  nd : (kvs.map (·.1)).Nodup
  ks : ∀ k ∈ kvs.map (·.1), ∃ i : Int, k = Sum.inl i ∧ 0 ≤ i ∧ i < S
  val : ∀ i, 0 ≤ i → i < S → (valV kvs (Sum.inl i)).getD (.int 0) = .int (f i)
theorem HeldR.nil {S : Int} {f : Int → Int} (h : ∀ i, 0 ≤ i → i < S → f i = 0) : HeldR S f [] := ⟨List.nodup_nil, (fun k hk => by cases hk), (fun i h0 h1 => by rw [h i h0 h1]; rfl)⟩
theorem HeldR.put {S : Int} {f : Int → Int} {kvs : List (Key × V)} (h : HeldR S f kvs) {s c : Int} (h0 : 0 ≤ s) (h1 : s < S) : HeldR S (upf f s c) (putK kvs (Sum.inl s) (.int c)) where
  nd := nd_put h.nd
  ks := fun k hk => by
    rw [keys_put] at hk
    split at hk
    · exact h.ks k hk
    · rcases List.mem_append.mp hk with q | q
      · exact h.ks k q
      · exact ⟨s, List.mem_singleton.mp q, h0, h1⟩
  val := fun i i0 i1 => by
    rw [valV_put]
    unfold upf
    by_cases z : i = s
    · rw [if_pos (by rw [z]), if_pos z]; rfl
    · rw [if_neg (fun w => z (Sum.inl.inj w)), if_neg z]
      exact h.val i i0 i1
theorem HeldR.small {S : Int} {f : Int → Int} {kvs : List (Key × V)} (h : HeldR S f kvs) (hS : S ≤ 512) : kvs.length < sizeLine := keys_small h.nd h.ks hS

structure ReD (A : Ad) (H : Hp) (d : DD) (H' : Hp) (d' : DD) (st' : DS) : Prop where
  at_ : DiskAt A H' d' st'
  p : d'.chip.p = d.chip.p
  sub : ∀ b, dfp d' b → dfp d b ∨ H b = none
  fr : Fr (dfp d) H H'
theorem nil1 {σ : L2.St} {H : Hp} {R : List V → Hp → Prop} (h : R [] H) : tNil σ H R := h
theorem consC {σ : L2.St} {H : Hp} {v : V} {R : List V → Hp → Prop} (h : R [v] H) : tCons (tC v) tNil σ H R := h
section
variable {A : Ad} {H H1 H' : Hp}
theorem ChgD.re {d d' : DD} {st' : DS} (g : ChgD A H d H' d' st') : ReD A H d H' d' st' := ⟨g.at_, g.p, g.sub, g.fr⟩
theorem Mounted.re {d d' : DD} {st' : DS} (g : Mounted A H d.chip H' d' st') : ReD A H d H' d' st' :=
  ⟨g.at_, g.p, fun b hb => by
    rcases hb with z | z | z
    · rw [z]; exact .inr g.new.1
    · rw [z]; exact .inr g.new.2
    · rcases g.csub b z with y | y
      · exact .inl (.inr (.inr y))
      · exact .inr y, g.fr.mono fun b hb => .inl (.inr (.inr hb))⟩
theorem ReD.same {d : DD} {st : DS} (h : DiskAt A H d st) (s : Same H H') : ReD A H d H' d st := (ChgD.same h s).re
theorem ReD.trans {d d1 d2 : DD} {x1 x2 : DS} (a : ReD A H d H1 d1 x1) (b : ReD A H1 d1 H' d2 x2) : ReD A H d H' d2 x2 where
  at_ := b.at_
  p := b.p.trans a.p
  sub := fun x hx => by
    rcases b.sub x hx with q | q
    · exact a.sub x q
    · exact .inr (a.fr.live x q)
  fr := a.fr.trans b.fr a.sub
theorem Own.re {rs : List Res} (O : Own H rs) {d d' : DD} {st st' : DS} (i : Nat) (e : rs[i]? = some (rDisk A d st)) (g : ReD A H d H' d' st') : Own H' (rs.set i (rDisk A d' st')) :=
  O.set i e (r' := rDisk A d' st') g.at_ g.sub g.fr
def DC.pow (x : DC) (l : Option Int) : DC := { x with left := l, cut := false }
def DS.pow (st : DS) (l : Option Int) : DS := { st with x := st.x.pow l }
theorem use_power {K : PySem.W.Frag} {d : DD} {st : DS} {p : Addr} {l : Option Int} {v : V} {Q : VK} {E : XK} (hp : d.chip.p = p) (hv : v = leftV l) (h : DiskAt A H d st) (k : ∀ H', ChgD A H d H' d (st.pow l) → Q .non H') : sp_Chip_power K A [.ref p, v] H Q E := by
  subst hp
  obtain ⟨rows, hc, R⟩ := h.chip.ex
  refine ⟨d.chip, _, l, by rw [hv], hc, fun H' g => k H' ?_⟩
  have gc : ChgC A H d.chip H' d.chip (st.x.pow l) := ⟨⟨rows, g.at_, R.mono g.fr.tup⟩, g.p, g.sub, g.fr⟩
  exact ChgD.chip h gc rfl rfl
theorem DiskAt.chipOb {d : DD} {st : DS} {p : Addr} (h : DiskAt A H d st) (hp : d.chip.p = p) : ∃ dx fs, H p = some (.ins A.chip dx fs) ∧ fs.lookup ("power" : Str) = none ∧ fs.lookup ("written" : Str) = none ∧ fs.lookup ("page" : Str) = none ∧ fs.lookup ("size" : Str) = none ∧ fs.lookup ("worn" : Str) = none := by
  subst hp
  obtain ⟨rows, hc, R⟩ := h.chip.ex
  exact ⟨_, _, hc.ob, no5, no5, no5, no5, no5⟩
theorem new_disk {b p : Nat} {S : Int} (b1 : 4 ≤ b) (p1 : 2 ≤ p) (S1 : 1 ≤ S) (S2 : S ≤ ((b : Int) - 2) * p) :
    manyOk (DC.new b p) S ∧ TidyOk (DC.new b p) ∧ ((tidy (DC.new b p)).2 = true → Fit S (tidy (DC.new b p)).1.bs ∧ ∀ i, greatest (tidy (DC.new b p)).1.bs = some i → i < (DC.new b p).n) ∧ (mount (DC.new b p) S).2 = true ∧
      Ready S (fun _ => 0) 0 (mount (DC.new b p) S).1 ∧ Pow (mount (DC.new b p) S).1.x ∧ (mount (DC.new b p) S).1.x.bs.length = b ∧ (mount (DC.new b p) S).1.x.m = p := by
  obtain ⟨t1, t2, t3, _, _⟩ := mount_ok (new_good (S := S) b1 p1 S2 none false) S1
  have ok := pw_mount (new_pow b p) S
  have hst := (st_mount (DC.new b p) S).len
  refine ⟨⟨S1, ?_⟩, t1, t2, ok, t3 ok, (st_mount _ S).pow (new_pow b p), hst.1.trans List.length_replicate, hst.2⟩
  show S ≤ (((List.replicate b ([] : Blk)).length : Int) - 2) * (p : Int)
  rw [List.length_replicate]; exact S2
structure Sound (S : Int) (f : Int → Int) (C : Nat) (x : DC) : Prop where
  g : Good S f C x
  S1 : 1 ≤ S
theorem Sound.many {S : Int} {f : Int → Int} {C : Nat} {x : DC} (s : Sound S f C x) : manyOk x S := ⟨s.S1, s.g.basic.room⟩
theorem Sound.pow {S : Int} {f : Int → Int} {C : Nat} {x : DC} (s : Sound S f C x) (l : Option Int) : Sound S f C (x.pow l) := ⟨s.g.power rfl rfl rfl, s.S1⟩
theorem Ready.pow {S : Int} {f : Int → Int} {C : Nat} {st : DS} (R : Ready S f C st) (l : Option Int) : Ready S f C (st.pow l) :=
  { hS := R.hS, n4 := R.n4, m2 := R.m2, room := R.room, hd := R.hd, fit := R.fit, dist := R.dist, len := R.len, srt := R.srt, at_ := R.at_, stamp := R.stamp, st0 := R.st0, pl := R.pl, val := R.toBase.val, q := R.q, cur := R.cur }
theorem Ready.sound {S : Int} {f : Int → Int} {C : Nat} {st : DS} (R : Ready S f C st) (h : 1 ≤ S) : Sound S f C st.x := ⟨.inl R.good, h⟩
theorem pow_pow (x : DC) : Pow (x.pow none) := ⟨rfl, rfl⟩
theorem use_mounted {K : PySem.W.Frag} {d : DD} {st : DS} {p : Addr} {S : Int} {f : Int → Int} {C : Nat} {Q : VK} {E : XK} (hp' : d.chip.p = p) (h : DiskAt A H d st) (s : Sound S f C st.x) (hp : Pow st.x)
    (k : ∀ d' H', ReD A H d H' d' (mount st.x S).1 → Ready S f C (mount st.x S).1 → Pow (mount st.x S).1.x → Adds st.x (mount st.x S).1.x 0 1 → Q (.ref d'.q) H') : sp_mounted K A [.ref p, .int S] H Q E := by
  subst hp'
  obtain ⟨t1, t2, t3, _, t5⟩ := mount_ok s.g s.S1
  refine ⟨d.chip, st.x, S, rfl, h.chip, fun z => absurd s.many z, fun _ => ⟨t1, t2, fun d' H' M => ?_⟩⟩
  unfold okE
  rw [if_pos (pw_mount hp S)]
  exact k d' H' M.re (t3 (pw_mount hp S)) ((st_mount st.x S).pow hp) t5
theorem use_l_mounted {K : PySem.W.Frag} {d : DD} {st : DS} {p : Addr} {S : Int} {f : Int → Int} {C : Nat} {Q : VK} {E : XK} (hp' : d.chip.p = p) (h : DiskAt A H d st) (s : Sound S f C st.x)
    (k1 : ∀ d' H', (mount st.x S).2 = true → ReD A H d H' d' (mount st.x S).1 → Sound S f C (mount st.x S).1.x → Adds st.x (mount st.x S).1.x 0 1 → Steps st.x (mount st.x S).1.x → Q (.ref d'.q) H')
    (k2 : ∀ d' H', (mount st.x S).2 = false → ReD A H d H' d' (mount st.x S).1 → Sound S f (C + 1) (mount st.x S).1.x → Adds st.x (mount st.x S).1.x 0 1 → Steps st.x (mount st.x S).1.x → Q .non H') : sp_l_mounted K A [.ref p, .int S] H Q E := by
  subst hp'
  obtain ⟨t1, t2, t3, t4, t5⟩ := mount_ok s.g s.S1
  refine ⟨d.chip, st.x, S, rfl, h.chip, s.many, t1, t2, fun d' H' M => ?_⟩
  cases e : (mount st.x S).2 with
  | true =>
    rw [if_pos rfl]
    exact k1 d' H' e M.re ((t3 e).sound s.S1) t5 (st_mount _ _)
  | false =>
    rw [if_neg Bool.false_ne_true]
    exact k2 d' H' e M.re ⟨t4 e, s.S1⟩ t5 (st_mount _ _)
theorem use_l_tried {K : PySem.W.Frag} {d : DD} {st : DS} {S : Int} {f : Int → Int} {C : Nat} {s c : Int} {Q : VK} {E : XK} (h : DiskAt A H d st) (R : Ready S f C st) (S1 : 1 ≤ S) (h0 : 0 ≤ s) (h1 : s < S) (hc : conOk c)
    (k1 : ∀ d' H', ChgD A H d H' d' (st.write s c).1 → (st.write s c).2 = true → Ready S (upf f s c) C (st.write s c).1 → Adds st.x (st.write s c).1.x (((st.x.bs.length - 1) * st.x.m + 1 : Nat)) ((st.x.bs.length - 1 : Nat)) → Q (.bl true) H')
    (k2 : ∀ d' H', ChgD A H d H' d' (st.write s c).1 → (st.write s c).2 = false → Sound S f (C + 1) (st.write s c).1.x → Adds st.x (st.write s c).1.x (((st.x.bs.length - 1) * st.x.m + 1 : Nat)) ((st.x.bs.length - 1 : Nat)) → Q (.bl false) H') :
    sp_l_tried K A [.ref d.q, .int s, .int c] H Q E := by
  obtain ⟨w1, w2, w3, w4⟩ := write_ok (c := c) R h0 h1
  refine ⟨d, st, s, c, rfl, h, ⟨h0, by rw [R.hS]; exact h1⟩, hc, w1, fun d' H' g => ?_⟩
  cases e : (st.write s c).2 with
  | true => exact k1 d' H' g e (w2 e) w4
  | false => exact k2 d' H' g e ⟨w3 e, S1⟩ w4
def Rise (ws ws' : List Int) : Prop := ws'.length = ws.length ∧ ∀ i, ws.getD i 0 ≤ ws'.getD i 0
theorem Rise.refl (ws : List Int) : Rise ws ws := ⟨rfl, fun i => Int.le_refl _⟩
theorem Rise.trans {a b c : List Int} (h : Rise a b) (g : Rise b c) : Rise a c := ⟨g.1.trans h.1, fun i => Int.le_trans (h.2 i) (g.2 i)⟩
theorem Rise.more (ws : List Int) (b : Nat) : Rise ws (ws.set b (ws.getD b 0 + 1)) := by
  refine ⟨List.length_set, fun i => ?_⟩
  by_cases h : b < ws.length
  · rw [getD_set h]
    split
    · rename_i e; rw [e]; omega
    · exact Int.le_refl _
  · rw [List.set_eq_of_length_le (by omega)]
    exact Int.le_refl _
theorem Steps.rise {x y : DC} (h : Steps x y) : Rise x.wears y.wears := by
  induction h with
  | refl => exact .refl _
  | @put y h b r ih =>
    rcases put_cases y b r with ⟨_, _, _, z, _⟩ | ⟨_, _, _, z, _⟩ | ⟨_, z⟩
    · rw [z]; exact ih
    · rw [z]; exact ih
    · rw [z]; exact ih
  | @erase y h b ih =>
    rcases erase_cases y b with ⟨_, _, _, z, _⟩ | ⟨_, _, _, z, _⟩ | ⟨_, z⟩
    · rw [z]; exact ih.trans (.more _ _)
    · rw [z]; exact ih.trans (.more _ _)
    · rw [z]; exact ih
theorem Good.even {S : Int} {f : Int → Int} {C : Nat} {x : DC} (g : Good S f C x) {i j : Nat} (hi : i < x.bs.length) (hj : j < x.bs.length) : x.wears.getD i 0 ≤ x.wears.getD j 0 + 1 + C := by
  rcases g with g | g
  · obtain ⟨_, _, _, _, _, _, _, _, _, _, _, _, w | ⟨_, C', hC, w⟩⟩ := g.a
    · exact w.2.even hi hj
    · have := w.even hi hj
      omega
  · obtain ⟨_, _, C', _, _, _, _, hC, w, _⟩ := g.b
    have := w.even hi hj
    omega
theorem seqI {a b : TS} {D : Ends} {σ : L2.St} (h : a { D with nx := b D } σ H) : tSeq a b D σ H := h
theorem asgI {te : TE} {g : TG} {D : Ends} {σ : L2.St} (h : te σ H fun x H1 => g x σ H1 D.nx) : tAsg te g D σ H := h
theorem opI {r : R2} {ta tb : TE} {σ : L2.St} {Q : VK} (h : ta σ H fun x H1 => tb σ H1 fun y H2 => r x y H2 Q) : tOp r ta tb σ H Q := h
theorem testI {te : TE} {t u : TS} {D : Ends} {σ : L2.St} (h : te σ H fun x H1 => ∃ k, x = V.bl k ∧ if k = true then t D σ H1 else u D σ H1) : tIfS (tTest te) t u D σ H := h
theorem retI {te : TE} {D : Ends} {σ : L2.St} (h : te σ H D.rt) : tRet te D σ H := h
def vals (f : Int → Int) (S : Int) : List Int := (List.range S.toNat).map fun (i : Nat) => f (i : Int)
theorem vals_get {f : Int → Int} {S : Int} {i : Nat} {y : V} (hi : i < S.toNat) (h : ((vals f S).map V.int)[i]? = some y) : y = .int (f (i : Int)) := by
  unfold vals at h
  rw [List.getElem?_map, List.getElem?_map, List.getElem?_range hi] at h
  exact (Option.some.inj h).symm
theorem vals_len {f : Int → Int} {S : Int} : ((vals f S).map V.int).length = S.toNat := by unfold vals; rw [List.length_map, List.length_map, List.length_range]
theorem sz512 {n : Nat} (h : n ≤ 512) : n ≤ sizeLine := Nat.le_trans h (by decide)
theorem do_reads {K : PySem.W.Frag} {d : DD} {st : DS} {S : Int} {f : Int → Int} {C : Nat} {σ : L2.St} {i j k : Nat} {Q : VK} {E : XK} (D : DiskAt A H d st) (R : Ready S f C st) (S0 : 0 ≤ S) (hk : σ[k]? = some (some (.int S)))
    (hi : ∀ x, ((wipe σ [j]).set j (some x))[i]? = some (some (.ref d.q))) (hj : ∀ x, ((wipe σ [j]).set j (some x))[j]? = some (some x)) (hw : ∀ x, wipe ((wipe σ [j]).set j (some x)) [j] = wipe σ [j])
    (kk : ∀ L H', Same H H' → H L = none → H' L = some (.lst ((vals f S).map V.int)) → Q (.ref L) H') :
    tLc (iRng1 (tCons (tVar k) tNil)) (gName j) tYes (tMeth A.disk "read" (sp_Disk_read K A) [] E (tVar i) (tCons (tVar j) tNil)) [j] σ H Q := by
  have hS : S ≤ 512 := by rw [← R.hS]; exact D.hS
  refine ⟨_, hk, S, rfl, by omega, by omega, fun L hL => ?_⟩
  refine lc_mapR (lo := 0) (n := S.toNat) ((vals f S).map V.int) vals_len (sz512 (by omega)) hL (fun a y H1 ha hy s R' r => ?_) hw fun H1 s hD => kk L H1 s hL hD
  have e := vals_get ha hy
  subst e
  have D1 := D.ofSame s
  have e0 : (0 : Int) + (a : Int) = (a : Int) := Int.zero_add _
  refine ⟨_, hi _, d.q, d.qx, _, rfl, D1.ob, no8, _, hj _, d, st, (0 : Int) + (a : Int), rfl, D1, fun _ => ?_, fun z => absurd ⟨by omega, by rw [R.hS]; omega⟩ z⟩
  rw [R.reads (by omega) (by omega), e0]
  exact r H1 (Same.refl H1)
theorem do_gets {S : Int} {f : Int → Int} {kvs : List (Key × V)} {hd : Addr} {σ : L2.St} {i j k : Nat} {Q : VK} (h : H hd = some (.dK kvs)) (hh : HeldR S f kvs) (S0 : 0 ≤ S) (hS : S ≤ 512) (hk : σ[k]? = some (some (.int S)))
    (hi : ∀ x, ((wipe σ [j]).set j (some x))[i]? = some (some (.ref hd))) (hj : ∀ x, ((wipe σ [j]).set j (some x))[j]? = some (some x)) (hw : ∀ x, wipe ((wipe σ [j]).set j (some x)) [j] = wipe σ [j])
    (kk : ∀ L H', Same H H' → H L = none → H' L = some (.lst ((vals f S).map V.int)) → Q (.ref L) H') :
    tLc (iRng1 (tCons (tVar k) tNil)) (gName j) tYes (tDGet2 (tVar i) (tVar j) (tC (.int 0))) [j] σ H Q := by
  refine ⟨_, hk, S, rfl, by omega, by omega, fun L hL => ?_⟩
  refine lc_mapR (lo := 0) (n := S.toNat) ((vals f S).map V.int) vals_len (sz512 (by omega)) hL (fun a y H1 ha hy s R' r => ?_) hw fun H1 s hD => kk L H1 s hL hD
  have e := vals_get ha hy
  subst e
  have e0 : (0 : Int) + (a : Int) = (a : Int) := Int.zero_add _
  refine ⟨_, hi _, hd, rfl, .inl ⟨_, .inl (s _ _ h)⟩, _, hj _, _, DGet.k (k := Sum.inl ((0 : Int) + (a : Int))) (s _ _ h), ?_⟩
  rw [hh.val _ (by omega) (by omega), e0]
  exact r H1 (Same.refl H1)
theorem ne_same {K : PySem.W.Frag} {a b : Addr} {xs : List Int} {Q : VK} (ha : H a = some (.lst (xs.map V.int))) (hb : H b = some (.lst (xs.map V.int))) (k : Q (.bl false) H) : rNeD K (.ref a) (.ref b) H Q := by
  refine ⟨.list (xs.map PyData.int), .list (xs.map PyData.int), .lst (SqL.of ha) (dpAll_ints _), .lst (SqL.of hb) (dpAll_ints _), OkD.listI.sh, OkD.listI.sh, ?_⟩
  rw [eqv_lists, decide_eq_true rfl]
  exact k
theorem eq_same {K : PySem.W.Frag} {a b : Addr} {xs : List Int} {Q : VK} (ha : H a = some (.lst (xs.map V.int))) (hb : H b = some (.lst (xs.map V.int))) (k : Q (.bl true) H) : rEqD K (.ref a) (.ref b) H Q := by
  refine ⟨.list (xs.map PyData.int), .list (xs.map PyData.int), .lst (SqL.of ha) (dpAll_ints _), .lst (SqL.of hb) (dpAll_ints _), OkD.listI.sh, OkD.listI.sh, ?_⟩
  rw [eqv_lists, decide_eq_true rfl]
  exact k
theorem upf_id {f : Int → Int} {s : Int} : upf f s (f s) = f := by
  funext i
  unfold upf
  split
  · rename_i e; rw [e]
  · rfl
theorem Own.swap {a b : Res} {rs : List Res} (O : Own H (a :: b :: rs)) : Own H (b :: a :: rs) := by
  refine O.pick (fun i => if i = 0 then 1 else if i = 1 then 0 else i) (fun i j _ _ e => by (repeat' split at e); all_goals omega) fun i r e => ?_
  rcases i with _ | _ | i
  · exact e
  · exact e
  · rw [if_neg (by omega), if_neg (by omega)]; exact e
theorem chip_new {rs : List Res} {x dx : Addr} {d : CD} {n m : Nat} (O : Own H1 rs) (nx : H1 x = none) (ndx : H1 dx = none) (ne : dx ≠ x) (hd : ChipAt A H' d (CS.new n m)) (hp : d.p = x)
    (sub : ∀ y, cfp d y → y = x ∨ upd (upd H1 dx (.own x)) x (.ins A.chip dx []) y = none) (fr : Fr (fun y => y = x) (upd (upd H1 dx (.own x)) x (.ins A.chip dx [])) H') : Own H' (rChip A d (DC.new n m) :: rs) ∧ Same H1 H' := by
  have s0 : Same H1 (upd (upd H1 dx (.own x)) x (.ins A.chip dx [])) := (Same.new ndx).trans (Same.new (by rw [upd_ne ne.symm]; exact nx))
  have s1 : Same H1 H' := fun y o e => fr.keep y o (s0 _ _ e) fun z => by rw [z, nx] at e; cases e
  refine ⟨O.new (r' := rChip A d (DC.new n m)) (new_chip hd) (fun y hy => ?_) s1, s1⟩
  rcases sub y hy with z | z
  · rw [z]; exact nx
  · exact s0.free z
theorem in_first {K : PySem.W.Frag} {x : Int} {p : Addr} {y z : V} {Q : VK} (h : H p = some (.lst [y, z])) (hy : y = .int x) (hz : flatV z = true) (k : Q (.bl false) H) : rIn K true (.int x) (.ref p) H Q := by
  subst hy
  refine ⟨p, _, rfl, .inl (SqL.of h), rfl, (by show (true && (flatV z && true)) = true; rw [hz]; rfl), ?_⟩
  have e : inV (.int x) [.int x, z] = true := by simp [inV, eqV]
  show Q (.bl (if true = true then !inV (.int x) [.int x, z] else inV (.int x) [.int x, z])) H
  rw [e]
  exact k
theorem mul_pos_of {b p : Nat} (h4 : 4 ≤ b) (h2 : 2 ≤ p) : (1 : Int) ≤ ((b : Int) - 2) * (p : Int) := by
  have h1 : (1 : Int) * 1 ≤ ((b : Int) - 2) * (p : Int) := Int.mul_le_mul (by omega) (by omega) (by omega) (by omega)
  omega
theorem rounds_ok {L : Nat} {lo hi : Int} (h : L ≤ 63) (h0 : 0 ≤ lo) (h1 : lo ≤ 100) (h2 : 0 ≤ hi) (h3 : hi ≤ 100) : -(2 ^ 62) ≤ (if (if (L : Int) < hi then (L : Int) else hi) > lo then (if (L : Int) < hi then (L : Int) else hi) else lo) ∧
    (if (if (L : Int) < hi then (L : Int) else hi) > lo then (if (L : Int) < hi then (L : Int) else hi) else lo) < 2 ^ 62 := by
  constructor
  · split <;> (try split) <;> omega
  · split <;> (try split) <;> omega
structure Steps0 (x x' : DC) : Prop where
  n : x'.bs.length = x.bs.length
  m : x'.m = x.m
  rise : Rise x.wears x'.wears
theorem Steps0.refl (x : DC) : Steps0 x x := ⟨rfl, rfl, .refl _⟩
theorem Steps0.trans {x y z : DC} (a : Steps0 x y) (b : Steps0 y z) : Steps0 x z := ⟨b.n.trans a.n, b.m.trans a.m, a.rise.trans b.rise⟩
theorem Steps.s0 {x y : DC} (h : Steps x y) : Steps0 x y := ⟨h.len.1, h.len.2, h.rise⟩
theorem Steps0.pow {x y : DC} (h : Steps0 x y) (l : Option Int) : Steps0 x (y.pow l) := ⟨h.n, h.m, h.rise⟩
theorem Adds.pow {x y : DC} {a e : Int} (h : Adds x y a e) (l : Option Int) : Adds x (y.pow l) a e := ⟨h.many, h.ws⟩
theorem Adds.zero (x : DC) : Adds x x 0 0 := ⟨by omega, by omega⟩
theorem mem_getD {ws : List Int} {z : Int} (h : z ∈ ws) : ∃ i, i < ws.length ∧ ws.getD i 0 = z := by
  obtain ⟨i, hi, e⟩ := List.getElem_of_mem h
  exact ⟨i, hi, by rw [List.getD_eq_getElem?_getD, List.getElem?_eq_getElem hi]; exact e⟩
theorem map_getD {ws : List Int} {i : Nat} (h : i < ws.length) : (ws.map V.int)[i]? = some (.int (ws.getD i 0)) := by
  rw [List.getElem?_map, List.getD_eq_getElem?_getD, List.getElem?_eq_getElem h]; rfl
theorem cutV_len {xs : List V} {k : Int} (h : 0 ≤ k) : (cutV xs none (some k)).length ≤ k.toNat := by
  have e : k = (k.toNat : Int) := by omega
  unfold cutV
  rw [HT.sIx_none, e, HT.sIx_nat, List.length_take]
  omega
end

section
open HotX
variable {prog : Program} {w : World} {A : Around} {E : Value → Shared → Prop} {s : Shared}
theorem next_end_hot {it l ex : Addr} {i : Nat} {items : Array Value} {Q : Option Value → Shared → Prop} (hot : HotAt A ex s.heap) (hi : s.heap.IsListIter it l i) (hl : s.heap.IsList l items) (hx : items[i]? = none) (hne : ex ≠ it)
    (k : ∀ h', Heap.ExtBut it s.heap h' → Q none { s with heap := h' }) : wpAny (model prog w) A (pyNext (.ref it)) Q E s := by
  obtain ⟨oi, gi, ci, di⟩ := id hi
  obtain ⟨oL, gL, _, nL, dL⟩ := hl
  obtain ⟨hh, oX, vX, gX, dX, cX⟩ := hot
  unfold pyNext
  refine wpAny_bind (wpAny_attempt (wpAny_callSpecial?_slot (name := Str.ofString "__next__") hi.typeIs slot_listiter_next (wpAny_call_entry slot_listiter_next hi.typeIs entry_listiter_next ?_ (args_listiter_next _))))
  show wpAny _ _ (field (.ref it) 0 >>= _) _ _ s
  refine wpAny_bind (wpAny_field gi di (x := .ref l) rfl ?_)
  show wpAny _ _ (if (Value.ref l == Value.none) = true then _ else _) _ _ s
  rw [if_neg (show ¬ ((Value.ref l == Value.none) = true) from Bool.false_ne_true)]
  show wpAny _ _ (field (.ref it) 1 >>= _) _ _ s
  refine wpAny_bind (wpAny_field gi di (x := .int i 0) rfl ?_)
  show wpAny _ _ (seqItems? (.ref l) >>= _) _ _ s
  refine wpAny_bind (wpAny_seqItems gL dL ?_)
  simp only [Int.toNat_natCast, hx]
  refine wpAny_bind (wpAny_rule (wpAny_bind (wpAny_setField gi di (by simp) ?_)))
  show wpAny _ _ (newExc (.type "StopIteration") [] >>= _) _ _ _
  refine wpAny_bind ?_
  simp only [newExc, newTuple]
  refine wpAny_bind (wpAny_newObj_type ?_ (by size_fits))
  refine wpAny_bind (m := firstArgMember _ _) (wpAny_of_eq (a := Value.none) (by first | rfl | (simp only [firstArgMember]; rfl)) ?_)
  refine wpAny_newObj_type ?_ (by size_fits)
  have gX1 : (s.heap.update it (Obj.mapFields (·.setIfInBounds 0 .none))).get? ex = some oX := (Heap.get?_update_other _ _ hne.symm).trans gX
  have eb : Heap.ExtBut it s.heap (s.heap.update it (Obj.mapFields (·.setIfInBounds 0 .none))) := (Heap.SameBut.update ..).extBut
  refine raiseNew_hot ⟨hh, oX, vX, Heap.get?_push_of_some _ (Heap.get?_push_of_some _ gX1), dX, cX⟩ (Nat.ne_of_lt (Heap.lt_size (Heap.get?_push_of_some _ gX1))) (Heap.get?_push_size _ rfl) rfl
    (by first | (simp; done) | (simp; omega) | (simp only [Array.size_append]; simp; omega)) ?_
  refine wpAny_bind (wpAny_isInstance (b := true) (T := "StopIteration") ⟨_, Heap.get?_update_self _ (Heap.get?_push_size _ rfl) rfl, rfl⟩ isSubtype_stop ?_)
  refine wpAny_pure (k _ fun b o hb e => ?_)
  rw [Heap.get?_update_other _ _ (Nat.ne_of_gt (Heap.lt_size (Heap.get?_push_of_some _ (eb b o hb e))))]
  exact Heap.get?_push_of_some _ (Heap.get?_push_of_some _ (eb b o hb e))
end
theorem wipe_one {σ : L2.St} {k : Nat} (x : Option V) : wipe ((wipe σ [k]).set k x) [k] = wipe σ [k] := by
  show ((σ.set k none).set k x).set k none = σ.set k none
  rw [List.set_set, List.set_set]
def tLcH (K : PySem.W.Frag) (tl : TE) (k : Nat) (te : TE) : TE := fun σ H Q => tl σ H fun v H1 => ∃ (a : Addr) (xs : List V) (g : V → V), v = .ref a ∧ SqL K H1 a xs ∧ xs.length < sizeLine ∧
  (∀ x ∈ xs, ∀ H2 (R : VK), R (g x) H2 → te ((wipe σ [k]).set k (some x)) H2 R) ∧ ∀ D, H1 D = none → Q (.ref D) (upd H1 D (.lst (xs.map g)))
theorem pe_lcH {X : Cx} {p : Addr × Obj} {tl te : TE} {iter elt tg : Expr} {scope : Scope} {y : Str} {k : Nat} {pos : Pos} (h1 : L2H.Hot1 X.A p) (h2 : p ∈ X.pn) (hN : X.N.Nodup) (hl : PE X iter tl) (ok : BlkOk X.N X.env.scope scope [(y, k)])
    (hg : ∀ s H C cl fp, PG (X.blk s H scope (compEnvC scope cl C X.env) fp) tg (gName k)) (he : ∀ s H C cl fp, PE (X.blk s H scope (compEnvC scope cl C X.env) fp) elt te)
    (hs : ∀ x, foldedSetIterable iter X.env x = pure x := by intro _; rfl) : PE X (.ListComp elt [⟨tg, iter, [], 0⟩] scope pos) (tLcH X.K tl k te) := by
  refine ⟨fun pins s σ H Q I h => ?_⟩
  rw [eval_ListComp]
  have cap : ∀ z ∈ scope.names, z.2 = .free → ∃ c, X.env.cells.lookup z.1 = some c := fun z hz e => I.ok.has _ ((ok.free z hz e).imp (fun q => q) fun q => q)
  refine wpAny_comprehension_free (use := none) rfl hs (closure_ok cap) ok.kind (fun z hz e => (ok.uniq z hz).trans (by rw [e])) (thn (hl.run pins s σ H _ I h) fun v s1 ⟨xv, H1, I1, r1, a, xs, g, ev, hq, hz, ht, hQ⟩ => ?_)
  subst ev
  cases r1
  obtain ⟨its, rv, pl, _⟩ := I1.list hq
  refine wpAny_pyIter_list pl.isList ?_
  obtain ⟨it, eit⟩ : ∃ it, it = s1.heap.objs.size := ⟨_, rfl⟩
  have fIt : FpOk X pins H1 it := I1.fpOk (by rw [eit]; exact Nat.le_refl _) (by rw [eit]; exact I1.hok.fresh (Nat.le_refl _))
  rw [← eit]
  obtain ⟨s2, e2⟩ : ∃ s2 : Shared, s2 = { s1 with heap := s1.heap.push { cls := .type "list_iterator", data := .fields #[.ref a, .int 0 0] } } := ⟨_, rfl⟩
  rw [← e2]
  have I2 : Inv X pins σ H1 s2 := by rw [e2]; exact I1.kept (t' := s1.toks) fun b o e => Heap.get?_push_of_some _ e
  have st2 : s2.heap.IsListIter it a 0 := by rw [e2, eit]; exact ⟨_, Heap.get?_push_size _ rfl, rfl, rfl⟩
  refine wpAny_newObj_type (newEnv_comp ?_) (by show 0 ≤ sizeLine; decide)
  obtain ⟨D, eD⟩ : ∃ D, D = s2.heap.objs.size := ⟨_, rfl⟩
  have nD : H1 D = none := by rw [eD]; exact I2.hok.fresh (Nat.le_refl _)
  rw [← eD]
  obtain ⟨s3, e3⟩ : ∃ s3 : Shared, s3 = { s2 with heap := s2.heap.push { cls := .type "list", data := .seq ([] : List Value).toArray } } := ⟨_, rfl⟩
  rw [← e3]
  have I3 : Inv X pins σ (upd H1 D (.lst [])) s3 := by
    rw [e3, eD]
    exact I2.laid (t' := s2.toks) (fun b o e => Heap.get?_push_of_some _ e) (Nat.le_refl _) ⟨Nat.zero_le _, [], 0, .nil, Heap.get?_push_size _ rfl⟩
  have k23 : ∀ b o, s2.heap.get? b = some o → s3.heap.get? b = some o := fun b o e => by rw [e3]; exact Heap.get?_push_of_some _ e
  obtain ⟨oi, gi, _, _⟩ := id st2
  have ltIt : it < s2.heap.objs.size := Heap.lt_size gi
  have nIt : it ≠ D := by rw [eD]; exact Nat.ne_of_lt ltIt
  have fIt3 : FpOk X pins (upd H1 D (.lst [])) it := ⟨by rw [upd_ne nIt]; exact fIt.1, fIt.2⟩
  have I4 := block_start (fp := [it]) I3 ok hN fun b hb => by
    rw [List.mem_singleton.mp hb]
    exact ⟨fIt3, by rw [e3, Heap.size_push]; exact Nat.lt_succ_of_lt ltIt⟩
  obtain ⟨H3, eH3⟩ : ∃ H3, H3 = upd H1 D (.lst []) := ⟨_, rfl⟩
  obtain ⟨C, eC⟩ : ∃ C, C = s3.heap.objs.size := ⟨_, rfl⟩
  obtain ⟨ce, ece⟩ : ∃ ce, ce = compEnvC scope (cellsFrom (s3.heap.objs.size + 1) scope.names (cloFrom X.env.cells scope.names [])) s3.heap.objs.size X.env := ⟨_, rfl⟩
  have pg := hg s3 H3 s3.heap.objs.size (cellsFrom (s3.heap.objs.size + 1) scope.names (cloFrom X.env.cells scope.names [])) [it]
  have pe := he s3 H3 s3.heap.objs.size (cellsFrom (s3.heap.objs.size + 1) scope.names (cloFrom X.env.cells scope.names [])) [it]
  rw [← ece] at pg pe
  rw [← eH3, ← ece] at I4
  have ceL : ce.locals = C := by rw [ece, eC]; rfl
  obtain ⟨s4, e4⟩ : ∃ s4 : Shared, s4 = { s3 with heap := pushCells (s3.heap.push { cls := .type "dict", data := .dict #[] }) scope.names } := ⟨_, rfl⟩
  rw [← e4] at I4
  have k34 : ∀ b o, s3.heap.get? b = some o → s4.heap.get? b = some o := fun b o e => by rw [e4]; exact pushCells_keeps _ _ _ _ (Heap.get?_push_of_some _ e)
  have P3 := I3.pin p (List.mem_append_left _ h2)
  have I4p : Inv (X.blk s3 H3 scope ce [it]) [p] (wipe σ [k]) H3 s4 := I4.pins_of fun q hq => by
    rw [List.mem_singleton.mp hq]
    refine ⟨k34 _ _ P3.1, by rw [eH3]; exact P3.2.1, ?_, fun hm => (List.mem_cons.mp (I3.stkSub p.1 hm)).elim P3.2.2.1 P3.2.2.2.1, P3.2.2.2.2⟩
    show p.1 ≠ ce.locals
    rw [ceL, eC]
    exact Nat.ne_of_lt (Heap.lt_size P3.1)
  have st4 : s4.heap.IsListIter it a 0 := by
    obtain ⟨o, g1, g2⟩ := st2
    exact ⟨o, k34 _ _ (k23 _ _ g1), g2⟩
  have npi : p.1 ≠ it := fIt.2.2.2.2.2 p (List.mem_append_left _ h2)
  show codeAny (model X.prog X.w) X.A (.compStart (.ListComp elt [⟨tg, iter, [], 0⟩] scope pos) 0 (.ref it) (.ref D) (compEnvC scope (cellsFrom (s3.heap.objs.size + 1) scope.names (cloFrom X.env.cells scope.names [])) s3.heap.objs.size X.env)) (compPost (model X.prog X.w) X.A X.xe none (EP X pins σ Q) (.ref D) s3.heap.objs.size) { s3 with heap := pushCells (s3.heap.push { cls := .type "dict", data := .dict #[] }) scope.names }
  rw [← ece, ← e4, ← eC]
  rw [← eH3] at I3 fIt3
  have mIt : it ∈ ([it] : List Addr) := List.mem_singleton.mpr rfl
  have stat : ∀ {σ' : L2.St} {H' : Hp} {s' : Shared}, Inv (X.blk s3 H3 scope ce [it]) [p] σ' H' s' → H' it = none → FpOk (X.blk s3 H3 scope ce [it]) [p] H' it := fun {σ' H' s'} J hn =>
    ⟨hn, (J.ok.exf it mIt).1, J.ok.exfs it mIt, .inl mIt, fun x c e => (J.ok.exf it mIt).2 x c e, fun q hq => by
      have hq : q ∈ [p] := hq
      rw [List.mem_singleton.mp hq]; exact npi⟩
  have none_it : ∀ ys, upd H1 D (.lst ys) it = none := fun ys => by rw [upd_ne nIt]; exact fIt.1
  have twice : ∀ ys zs, upd (upd H1 D (.lst ys)) D (.lst zs) = upd H1 D (.lst zs) := fun ys zs => by
    funext b
    by_cases q : b = D
    · rw [q, upd_same, upd_same]
    · rw [upd_ne q, upd_ne q, upd_ne q]
  have loop : codeAny (model X.prog X.w) X.A (.compLoop (.ListComp elt [⟨tg, iter, [], 0⟩] scope pos) 0 (.ref it) (.ref D) ce) (compPost (model X.prog X.w) X.A X.xe none (EP X pins σ Q) (.ref D) C) s4 := by
    refine compLoop_any (fun n s' => ∃ i, n + i = xs.length ∧ Inv (X.blk s3 H3 scope ce [it]) [p] (wipe σ [k]) (upd H1 D (.lst ((xs.take i).map g))) s' ∧ s'.heap.IsListIter it a i) ?_ xs.length ⟨0, rfl, ?_, st4⟩
    rotate_left
    · rw [eH3] at I4p ⊢
      exact I4p
    rintro n s5 ⟨i, hn, I5, st5⟩
    have q5 : SqL X.K (upd H1 D (.lst ((xs.take i).map g))) a xs := (show Same H1 _ from fun b o e => by rw [upd_ne (ne_of_none e nD)]; exact e).seq hq
    obtain ⟨its5, rv5, pl5, _⟩ := I5.list q5
    have P5 := I5.pin p (List.mem_append_right _ (List.mem_singleton.mpr rfl))
    obtain ⟨hh, vX, dX, cX⟩ := id h1
    have F5 := stat I5 (none_it _)
    have hl5 := rv5.length
    cases hx : xs[i]? with
    | none =>
      have hi : xs.length ≤ i := List.getElem?_eq_none_iff.mp hx
      refine next_end_hot ⟨hh, p.2, vX, P5.1, dX, cX⟩ st5 pl5.isList (by simp; omega) npi fun h' eb => ?_
      have I6 : Inv (X.blk s3 H3 scope ce [it]) [p] (wipe σ [k]) (upd H1 D (.lst ((xs.take i).map g))) { s5 with heap := h' } := I5.turned (t' := s5.toks) (fun b o hb e => eb b o hb e) F5.1 F5.2.1 F5.2.2.2.1 F5.2.2.2.2.1 F5.2.2.2.2.2
      have I7 : Inv X pins σ (upd H1 D (.lst ((xs.take i).map g))) { s5 with heap := h' } := I3.call' (ch := [it]) I6.os I6.base I6.hok I6.bare fun b hb => by
        rw [List.mem_singleton.mp hb]
        exact ⟨fIt3.2.2.2.1, fIt3.2.1, fIt3.2.2.2.2.1, fIt3.2.2.2.2.2⟩
      have nC : upd H1 D (.lst ((xs.take i).map g)) C = none := by rw [← ceL]; exact I6.free
      obtain ⟨m, hns, _⟩ := I6.loc
      have hns : h'.Ns ce.locals m := hns
      rw [ceL] at hns
      have fC := I3.fpOk (b := C) (by rw [eC]; exact Nat.le_refl _) nC
      have eX : xs.take i = xs := List.take_of_length_le hi
      rw [eX] at I7 fC
      exact ⟨m, hns, fun h'' sb => ⟨.ref D, _, I7.turned (t' := s5.toks) (fun b o hb e => (sb.2 b hb).trans e) fC.1 fC.2.1 fC.2.2.2.1 fC.2.2.2.2.1 fC.2.2.2.2.2, rfl, hQ D nD⟩⟩
    | some x =>
      obtain ⟨u, hu, ru⟩ := rv5.get hx
      have hi : i < xs.length := (List.getElem?_eq_some_iff.mp hx).1
      refine wpAny_pyNext_list_item st5 pl5.isList (x := u) (by simpa using hu) fun h' st' sb => ?_
      have I6 : Inv (X.blk s3 H3 scope ce [it]) [p] (wipe σ [k]) (upd H1 D (.lst ((xs.take i).map g))) { s5 with heap := h' } := I5.turned (t' := s5.toks) (fun b o hb e => (sb.2 b hb).trans e) F5.1 F5.2.1 F5.2.2.2.1 F5.2.2.2.2.1 F5.2.2.2.2.2
      obtain ⟨o, g1, g2, g3⟩ := id st'
      refine go_of (s := { s5 with heap := h' }) g1 g2 g3 (by decide) ?_
      have I6p := I6.pinned (fp := [it]) (fun b hb => by rw [List.mem_singleton.mp hb]; exact stat I6 (none_it _)) (fun b hb => by
        rw [List.mem_singleton.mp hb]
        exact ⟨o, g1, fun v z => by rw [g3] at z; cases z⟩)
      refine thnF (pg.run _ _ _ _ x u (fun σ' H' => σ' = (wipe σ [k]).set k (some x) ∧ H' = upd H1 D (.lst ((xs.take i).map g))) I6p ru ⟨rfl, rfl⟩) fun _ s8 ⟨σ8, H8, I8, c1, c2⟩ => ?_
      rw [c1, c2] at I8
      show wpAny _ _ (forIn ([] : List Expr) true _) _ _ s8
      rw [List.forIn_nil]
      refine wpAny_pure ?_
      rw [if_pos rfl]
      refine thnF (pe.run _ s8 _ _ (fun z H' => z = g x ∧ H' = upd H1 D (.lst ((xs.take i).map g))) I8 (ht x (List.mem_of_getElem? hx) _ _ ⟨rfl, rfl⟩)) fun zv s10 ⟨z, H10, I10, r10, c3, c4⟩ => ?_
      rw [c3] at r10
      rw [c4] at I10
      have hzz : ((xs.take i).map g).length < sizeLine := by
        rw [List.length_map, List.length_take]; omega
      refine app_ok (X := X.blk s3 H3 scope ce [it]) I10 upd_same hzz r10 fun s11 I11 => ?_
      rw [L2.upd_upd] at I11
      have eT : (xs.take i).map g ++ [g x] = (xs.take (i + 1)).map g := by
        rw [List.take_add_one, hx]
        simp
      rw [eT] at I11
      have Pi := I11.pin (it, o) (List.mem_append_right _ (List.mem_append_right _ (mem_pinsAt mIt g1)))
      refine ⟨n - 1, by omega, i + 1, by omega, (I11.unpinned (pins := [p])).weak (by simp) (fun j v e => ?_), ⟨o, Pi.1, g2, g3⟩⟩
      have ne : j ≠ k := fun q => by
        rw [q] at e
        show False
        have e : (σ.set k none)[k]? = some (some v) := e
        rw [List.getElem?_set] at e
        simp at e
      rw [List.getElem?_set_ne (Ne.symm ne)]
      exact e
  exact codeAny_compStart_list loop (wpAny_pyIter_listiter st4 loop)
theorem walks_hot {prog : Program} {w : World} {A : Around} {ex I ax : Addr} {oX : Obj} {vX : Array Value} (hh : A.handled = some (.ref ex)) (dX : oX.data = .fields vX) (cX : vX[2]? = some .none) (n1 : ax ≠ I) (n2 : ex ≠ I) (items : Array Value) :
    Walks prog w A I [I, ax, ex] [I] items.size (fun i v => items[i]? = some v) (fun i h => h.IsListIter I ax i ∧ h.IsList ax items ∧ h.get? ex = some oX) where
  sub := fun b hb => by rw [List.mem_singleton.mp hb]; exact List.mem_cons_self
  frame := fun i h h' st k => ⟨st.1.at fun o e => k I (by simp) o e, st.2.1.at fun o e => k ax (by simp) o e, k ex (by simp) _ st.2.2⟩
  item := fun i s Q E hi st k => wpAny_pyNext_list_item st.1 st.2.1 (x := items[i]) (by simp [hi]) fun h' st' sb =>
    k _ h' s.toks (by simp [hi]) ⟨st', st.2.1.extBut sb.extBut n1, sb.extBut _ _ n2 st.2.2⟩ fun b o hb e => sb.extBut b o (fun z => hb (by rw [z]; exact List.mem_cons_self)) e
  done := fun s Q E st k => next_end_hot ⟨hh, oX, vX, st.2.2, dX, cX⟩ st.1 st.2.1 (by simp) n2 fun h' eb => k h' s.toks fun b o hb e => eb b o (fun z => hb (by rw [z]; exact List.mem_cons_self)) e
  self := fun _ _ _ _ st k => wpAny_pyIter_listiter st.1 k
theorem cr_sumH {X : Cx} {p : Addr × Obj} (h1 : L2H.Hot1 X.A p) (h2 : p ∈ X.pn) : CallR X (.builtin "sum") (rSum X.K) := by
  intro pins s σ H vs us Q I r h
  obtain ⟨a, ns, rfl, hs, q⟩ := h
  obtain ⟨its, rv, pl, _⟩ := I.list hs
  rw [Vals.ref1 r]
  have P0 := I.pin p (List.mem_append_left _ h2)
  obtain ⟨hh, vX, dX, cX⟩ := h1
  obtain ⟨xs, e⟩ := rv.ints.allInts.items
  have hn : numsOf (intItems xs).toList = ns := by rw [← e]; exact rv.ints.numsOf
  rw [nums_intItems] at hn
  have pl := pl.isList
  rw [e] at pl
  have lt : p.1 < s.heap.objs.size := Heap.lt_size P0.1
  refine call_sum_walkG (iter_intList pl fun s₂ e₂ st hfp hlI => ?_)
  subst e₂
  refine ⟨_, _, _, _, _, _, numAt xs, rfl, walks_hot (A := X.A.in1) hh dX cX hlI (Nat.ne_of_lt lt) (intItems xs), ⟨st.1, st.2, Heap.get?_push_of_some _ P0.1⟩, fun b hb => ?_, (fun _ _ => intItems_at), fun h' tk t' hk => ?_⟩
  · rcases List.mem_cons.mp hb with z | hb
    · exact hfp b (by rw [z]; exact List.mem_cons_self)
    · rcases List.mem_cons.mp hb with z | hb
      · exact hfp b (by rw [z]; simp)
      · rw [List.mem_singleton.mp hb]
        show p.1 < (s.heap.push _).objs.size
        rw [Heap.size_push]
        exact Nat.lt_succ_of_lt lt
  · have eS : preSum (numAt xs) (intItems xs).size = ns.sum := by
      have : (intItems xs).size = xs.size := by simp [intItems]
      rw [this, preSum_eq, List.take_of_length_le (by simp), hn]
    rw [eS]
    exact ⟨.int _, H, I.kept (t' := tk) (old_kept hk), ⟨_, rfl⟩, q⟩

theorem call_isX {X : Cx} {a D : Addr} {oe : Obj} (C : ExcC X.K D) (hz : Zc (.ref D) none oe) (hf : ∃ vs, oe.data = .fields vs) (hm : (a, oe) ∈ X.pn) : CallR X (.builtin "isinstance") (rIsE X.K D a) := by
  intro pins s σ H xs us Q I r h
  obtain ⟨c, cv, b, rfl, hcv, e, q⟩ := h
  cases r with
  | cons rx rr =>
    cases rr with
    | cons rt rr =>
      cases rr
      cases rx
      have ec := hcv _ rt
      subst ec
      have hg := (I.pin (a, oe) (List.mem_append_left _ hm)).1
      obtain ⟨vs, hv⟩ := hf
      have J : PySem.W.InstAt s.heap a oe D none := by
        obtain ⟨c1, c2, c3, c4⟩ := oe
        obtain ⟨g1, g2⟩ := hz
        dsimp only at g1 g2 hv
        subst g1 g2 hv
        exact ⟨hg, rfl, rfl, trivial⟩
      refine PySem.W.kia_one (PySem.W.handS_kitx_exc C.hg C.hk C.hs C.hd C.ha C.hn C.ht C.hm) I.kIn J e (fun z => nomatch z) fun tk => ?_
      exact ⟨.bl b, H, I.kept (t' := tk) fun _ _ z => z, rfl, q⟩
theorem pe_bltTy {X : Cx} {x : Str} {n : String} {pos : Pos} (hg : Gl X x) (hm : X.mg x = none) (hv : bootBuiltins x = some (.type n)) (hn : x ≠ "__name__" := by decide) (hd : (x == ("__debug__" : Str)) = false := by decide) : PE X (.Name x pos) (tC (.ty n)) :=
  ⟨fun pins s σ H Q I h => ld_blt I hg hm hv (show EP X pins σ Q (.type n) s from ⟨.ty n, H, I, rfl, h⟩) hn hd⟩
abbrev WordW := Addr → Hp → VK → Prop
structure FnE (P : Program) (w : World) (K : PySem.W.Frag) (mg : Str → Option Value) (base : Heap) (k : Nat) (f : Addr) (fd : FuncData) (y : Str) (sp : WordW) : Prop where
  run : ∀ (A : Around) (outer : List Env) (s : Shared) (H : Hp) (args : Args) (Q : VK) (p : Addr × Obj) (D : Addr), L2H.RoomH k A → L2H.Hot1 A p → Zc (.ref D) none p.2 → L2H.PinOk outer H s p → Env0 P w K mg base A outer s H → BindsTo s fd args [(y, .ref p.1)] → sp D H Q →
    codeAny (model P w) A (.call (.ref f) args) (CR (L2N.CX P w) outer P w H s Q E0) s
theorem fn_ofE {P : Program} {w : World} {K : PySem.W.Frag} {mg : Str → Option Value} {base : Heap} {k : Nat} {f : Addr} {name qual y : Str} {params : Arguments} {body : List Stmt} {scope : Scope} {dV kV doc pm cdv ct oc : Value} {an od : Option Addr}
    {osl : Array (Option Value)} {N : List Str} {sp : WordW} (lk : K.lookup f = some ⟨oc, od, .func (PySem.W.fnOf name qual params body scope dV kV doc pm an cdv ct), osl⟩) (hcd : PySem.W.codeIn K cdv qual = true) (S : FnScope N [y] scope)
    (hbody : ∀ (A : Around) (outer : List Env) (s : Shared) (H : Hp) (Q : VK) (p : Addr × Obj) (D : Addr), L2H.Hot1 A p → Zc (.ref D) none p.2 → L2H.RoomH k (A.deeper (envOfC qual scope s.heap.objs.size f cdv)) → sp D H Q →
      ∃ t, PSs (L2H.cxH (L2N.CX P w) P w K mg base N qual scope f cdv A outer s H E0 p) body t ∧ t { nx := fun _ H' => Q .non H', rt := Q } (L2.start N [.ref p.1]) H) :
    FnE P w K mg base (k + 1) f (PySem.W.fnOf name qual params body scope dV kV doc pm an cdv ct) y sp := by
  refine ⟨fun A outer s H args Q p D room hot hz pin e0 bd wish => ?_⟩
  have kin : K.In s.heap := e0.mod.kin.keeps fun b o e => (e0.bs b o e).1
  have nol : s.heap.NoLimit := e0.mod.nolimit.keeps fun b o e => (e0.bs b o e).1
  have hk : ∀ z ∈ [(y, Value.ref p.1)], scope.names.lookup z.1 = some .local ∨ (scope.names.lookup z.1 = some .cell ∧ ((cellsFrom (s.heap.objs.size + 1) scope.names []).lookup z.1).isSome = true) := fun z hz => by
    rw [List.mem_singleton.mp hz]
    rcases S.par y (List.mem_singleton.mpr rfl) with q | q
    · exact .inl q
    · exact .inr ⟨q, PySem.W.cellsFrom_some _ _ _ (.inl q)⟩
  refine codeAny_call_function room.depth (kin _ _ lk) rfl S.co S.gen rfl (PySem.W.codeRec_of kin hcd) (bd _ _ _ _ ?_)
  refine wpAny_newFunctionEnv_cells S.kind hk fun env he s1 x => ?_
  subst he
  refine ⟨nol.keeps x.toInCall.keep, codeAny_func ?_⟩
  obtain ⟨t, ht, hq⟩ := hbody A outer s H Q p D hot hz (room.deeper _) wish
  have J : Inv (L2H.cxH (L2N.CX P w) P w K mg base N qual scope f cdv A outer s H E0 p) [] (L2.start N [.ref p.1]) H s1 := L2H.inv_startH (ps := [y]) (us := [.ref p.1]) S pin e0 rfl (.cons rfl .nil) x
  refine wpAny_mono (ht.run [] s1 _ H _ J hq) (fun fl s' z => ?_) fun e s' z => z
  cases fl with
  | ret u =>
    obtain ⟨v, σ', H', J', rv, q⟩ := z
    exact ⟨v, H', J'.os, J'.bare, J'.base, J'.hok, rv, q⟩
  | next =>
    obtain ⟨σ', H', J', q⟩ := z
    exact ⟨V.non, H', J'.os, J'.bare, J'.base, J'.hok, (rfl : RelV V.non Value.none), q⟩
  | brk =>
    obtain ⟨_, _, _, q⟩ := z
    exact False.elim q
  | cont =>
    obtain ⟨_, _, _, q⟩ := z
    exact False.elim q
def tWord (i : Nat) (a : Addr) (cls : Value) (d : Option Addr) (sp : WordW) : TE := fun σ H Q => σ[i]? = some (some (.ref a)) ∧ d = none ∧ ∃ D, cls = .ref D ∧ sp D H Q
theorem pe_word {X : Cx} {a : Addr} {oe : Obj} {pn : List (Addr × Obj)} {cls : Value} {d : Option Addr} {k i : Nat} {f : Addr} {fd : FuncData} {x n y : Str} {sp : WordW} {p1 p2 pos : Pos} (F : FnE X.prog X.w X.K X.mg X.base k f fd y sp) (hr : L2H.RoomH k (X.suite a ((a, oe) :: pn)).A)
    (hz : L2N.Zn cls d oe) (hf : ∃ vs, oe.data = .fields vs) (hg : Gl X x) (hm : X.mg x = some (.ref f)) (hk : PySem.W.keepIn X.K (.ref f) = true) (hb : Binds X.K fd [y] []) (hN : X.N[i]? = some n) (hv : Vis X.env.scope n)
    (hdb : (x == ("__debug__" : Str)) = false := by decide) (hd : (n == ("__debug__" : Str)) = false := by decide) (hcd : (n == ("__classdict__" : Str)) = false := by decide) :
    PE (X.suite a ((a, oe) :: pn)) (.Call (.Name x p1) [.Name n p2] [] pos) (tWord i a cls d sp) := by
  refine ⟨fun pins s σ H Q I h => ?_⟩
  obtain ⟨hs, hd0, D, hD, wish⟩ := h
  subst hd0
  subst hD
  refine wpAny_Call_Name_kw (ld_glob I hg hm ?_ hdb)
  have hv1 : PE (X.suite a ((a, oe) :: pn)) (.Name n p2) (tVar i) := pe_var hN hv hd hcd
  have ha : PA (X.suite a ((a, oe) :: pn)) [.Name n p2] (tCons (tVar i) tNil) := pa_cons hv1 pa_nil
  refine PySem.W.callWith_K (h₀ := X.base) I.ok.mod.kin hk (thn (ha.run pos pins s σ H (fun vs H1 => vs = [V.ref a] ∧ H1 = H) I ⟨_, hs, rfl, rfl⟩) fun us s1 ⟨vs, H1, I1, r, ev, eH⟩ => ⟨I1.kIn, ?_⟩) rfl rfl
  subst ev
  rw [eH] at I1
  have eu : us = [.ref a] := by
    cases r with
    | cons r1 r2 => cases r2; cases r1; rfl
  subst eu
  obtain ⟨vX, dX⟩ := hf
  have P1 := I1.pin (a, oe) (List.mem_append_left _ List.mem_cons_self)
  have pin : L2H.PinOk X.stack H s1 (a, oe) := ⟨P1.1, P1.2.1, fun hm => (List.mem_cons.mp (I1.stkSub a hm)).elim P1.2.2.1 P1.2.2.2.1, P1.2.2.2.2⟩
  have b := hb s1 [.ref a] I1.kIn rfl
  refine wpAny_call (codeAny_mono (F.run (X.suite a ((a, oe) :: pn)).A X.stack s1 H ⟨[.ref a], []⟩ Q (a, oe) D hr ⟨rfl, vX, dX, hz.2.2 vX dX⟩ hz.zc pin I1.env0 b wish) fun r s' hq => ?_)
  cases r with
  | error e =>
    obtain ⟨_, _, _, _, _, _, _, _, _, _, _, _, z⟩ := hq
    exact z.elim
  | ok fl =>
    cases fl with
    | ret u => exact I1.after hq
    | next => exact False.elim hq
    | brk => exact False.elim hq
    | cont => exact False.elim hq

def tTryAs (K : PySem.W.Frag) (c : Value) (i : Nat) (tb : WX → TS) (ts : Addr → Value → Option Addr → TS) (Wout : WX) : TS := fun D σ H => tb (wAs K c i ts Wout D) D σ H
structure DefE (P : Program) (w : World) (K : PySem.W.Frag) (mg : Str → Option Value) (base : Heap) (k : Nat) (x y : Str) (sp : WordW) : Prop where
  ex : ∃ (f : Addr) (fd : FuncData), mg x = some (.ref f) ∧ PySem.W.keepIn K (.ref f) = true ∧ FnE P w K mg base k f fd y sp ∧ Binds K fd [y] []
theorem pe_wordD {X : Cx} {a : Addr} {oe : Obj} {pn : List (Addr × Obj)} {cls : Value} {d : Option Addr} {k j i : Nat} {x n y : Str} {sp : WordW} {p1 p2 pos : Pos} (D : DefE X.prog X.w X.K X.mg X.base k x y sp) (hr : Room j X.A) (hk : k ≤ j)
    (hz : L2N.Zn cls d oe) (hf : ∃ vs, oe.data = .fields vs) (hg : Gl X x) (hN : X.N[i]? = some n) (hv : Vis X.env.scope n)
    (hdb : (x == ("__debug__" : Str)) = false := by decide) (hd : (n == ("__debug__" : Str)) = false := by decide) (hcd : (n == ("__classdict__" : Str)) = false := by decide) :
    PE (X.suite a ((a, oe) :: pn)) (.Call (.Name x p1) [.Name n p2] [] pos) (tWord i a cls d sp) := by
  obtain ⟨f, fd, hm, kp, F, hb⟩ := D.ex
  exact pe_word F ⟨(hr.mono hk).dp, (hr.mono hk).un⟩ hz hf hg hm kp hb hN hv hdb hd hcd
def tMakeS (C : Addr) (sp : Sp) (E : L2.St → XK) (t : TA) : TE := fun σ H Q => t σ H fun vs H1 => ∀ x dx, H1 x = none → H1 dx = none → dx ≠ x → sp (.ref x :: vs) (upd (upd H1 dx (.own x)) x (.ins C dx [])) (fun v H2 => v = .non ∧ Q (.ref x) H2) (E σ)
structure WordF (K : PySem.W.Frag) (A : Ad) (D : Addr) (i : Nat) : Prop where
  lt : i < 6
  k0 : PySem.W.kitOne K (.ref D) (.ref A.badsize) = some (decide (i = 0))
  k1 : PySem.W.kitOne K (.ref D) (.ref A.nopage) = some (decide (i = 1))
  k2 : PySem.W.kitOne K (.ref D) (.ref A.noterased) = some (decide (i = 2))
  k3 : PySem.W.kitOne K (.ref D) (.ref A.nosector) = some (decide (i = 3))
  k4 : PySem.W.kitOne K (.ref D) (.ref A.badcontent) = some (decide (i = 4))
  k5 : PySem.W.kitOne K (.ref D) (.ref A.cut) = some (decide (i = 5))
  kV : PySem.W.kitOne K (.ref D) (.type "ValueError") = some true
  ex : ExcC K D
  em : PySem.W.exmOne K (.ref D) (.ref A.wear) = some true
def wordAt (i : Nat) : Str := (["BadSize", "NoPage", "NotErased", "NoSector", "BadContent", "Cut"] : List Str).getD i ""
def spw_l_word (K : PySem.W.Frag) (A : Ad) : WordW := fun D H Q => ∃ i, WordF K A D i ∧ ∀ H', Same H H' → Q (.str (wordAt i)) H'
abbrev isE (K : PySem.W.Frag) (D a : Addr) (c : V) : TE := tCB (rIsE K D a) (tCons (tVar 0) (tCons (tC c) tNil))
def N_l_word : List Str := ["_law_e", "_law_flags", "_law_words", "_law_flag"]
def t_l_word (K : PySem.W.Frag) (A : Ad) (D a : Addr) : TS :=
  tSeq (tAsg (tLst (tCons (isE K D a (.ref A.badsize)) (tCons (isE K D a (.ref A.nopage)) (tCons (isE K D a (.ref A.noterased)) (tCons (isE K D a (.ref A.nosector)) tNil))))) (gName 1))
  (tSeq (tAsg (tOp rCat (tVar 1) (tLst (tCons (isE K D a (.ref A.badcontent)) (tCons (isE K D a (.ref A.cut)) tNil)))) (gName 1))
  (tSeq (tAsg (tLst (tCons (tC (.str "BadSize")) (tCons (tC (.str "NoPage")) (tCons (tC (.str "NotErased")) (tCons (tC (.str "NoSector")) (tCons (tC (.str "BadContent")) (tCons (tC (.str "Cut")) tNil))))))) (gName 2))
  (tSeq (tIfS (tOr (tTest (tOp rNe (tCB (rSum K) (tCons (tLcH K (tVar 1) 3 (tCB zInt1 (tCons (tVar 3) tNil))) tNil)) (tC (.int 1)))) (tNot (tB (isE K D a (.ty "ValueError")))))
    (tRet (tC (.str "other")))
    tNext)
  (tRet (tOp (rIxL K) (tVar 2) (tBM K "list" (rIndex K) (tVar 1) (tCons (tC (.bl true)) tNil)))))))
theorem pure_l_word {K : PySem.W.Frag} {A : Ad} {D a : Addr} {H : Hp} {Q : VK} (h : spw_l_word K A D H Q) : t_l_word K A D a { nx := fun _ H' => Q .non H', rt := Q } (start N_l_word [.ref a]) H := by
  obtain ⟨i, F, k⟩ := h
  have rr : ∀ {z : Addr} (u : Value), RelV (.ref z) u → u = .ref z := fun u h => h
  refine ⟨_, rfl, _, _, _, rfl, rr, F.k0, _, rfl, _, _, _, rfl, rr, F.k1, _, rfl, _, _, _, rfl, rr, F.k2, _, rfl, _, _, _, rfl, rr, F.k3, (by show 4 ≤ sizeLine; decide), fun l1 n1 => ?_⟩
  refine ⟨_, rfl, _, rfl, _, _, _, rfl, rr, F.k4, _, rfl, _, _, _, rfl, rr, F.k5, (by show 2 ≤ sizeLine; decide), fun l2 n2 => ?_⟩
  have s1 : Same H (upd H l1 (.lst [.bl (decide (i = 0)), .bl (decide (i = 1)), .bl (decide (i = 2)), .bl (decide (i = 3))])) := Same.new n1
  have s2 := Same.new (o := .lst [.bl (decide (i = 4)), .bl (decide (i = 5))]) n2
  refine ⟨l1, l2, _, _, rfl, rfl, s2 _ _ upd_same, upd_same, (by show 6 ≤ sizeLine; decide), fun l3 n3 => ?_⟩
  have s3 := Same.new (o := .lst ([.bl (decide (i = 0)), .bl (decide (i = 1)), .bl (decide (i = 2)), .bl (decide (i = 3))] ++ [.bl (decide (i = 4)), .bl (decide (i = 5))])) n3
  refine ⟨(by show 6 ≤ sizeLine; decide), fun l4 n4 => ?_⟩
  have s4 := Same.new (o := .lst [.str "BadSize", .str "NoPage", .str "NotErased", .str "NoSector", .str "BadContent", .str "Cut"]) n4
  have e3 := s4 _ _ (upd_same (a := l3) (o := .lst ([.bl (decide (i = 0)), .bl (decide (i = 1)), .bl (decide (i = 2)), .bl (decide (i = 3))] ++ [.bl (decide (i = 4)), .bl (decide (i = 5))])))
  refine ⟨_, rfl, l3, _, fun v => match v with | .bl b => .int (if b then 1 else 0) | _ => .non, rfl, SqL.of e3, (by show 6 < sizeLine; decide), fun x hx H2 R hR => ?_, fun l5 n5 => ?_⟩
  · refine ⟨_, rfl, .inr ?_⟩
    simp only [List.cons_append, List.nil_append, List.mem_cons, List.not_mem_nil, or_false] at hx
    rcases hx with e | e | e | e | e | e <;> (subst e; exact ⟨_, rfl, hR⟩)
  have s5 := Same.new (o := .lst (([.bl (decide (i = 0)), .bl (decide (i = 1)), .bl (decide (i = 2)), .bl (decide (i = 3))] ++ [.bl (decide (i = 4)), .bl (decide (i = 5))] : List V).map fun v => match v with | .bl b => .int (if b then 1 else 0) | _ => .non)) n5
  have sA := ((((s1.trans s2).trans s3).trans s4).trans s5)
  have e3' := s5 _ _ e3
  have e4' := s5 _ _ (upd_same (a := l4) (o := .lst [.str "BadSize", .str "NoPage", .str "NotErased", .str "NoSector", .str "BadContent", .str "Cut"]))
  refine ⟨l5, [if i = 0 then 1 else 0, if i = 1 then 1 else 0, if i = 2 then 1 else 0, if i = 3 then 1 else 0, if i = 4 then 1 else 0, if i = 5 then 1 else 0], rfl, SqL.of ?_, rfl, _, rfl, ?_⟩
  · refine (upd_same).trans ?_
    simp
  have lt := F.lt
  have sum1 : ([if i = 0 then 1 else 0, if i = 1 then 1 else 0, if i = 2 then 1 else 0, if i = 3 then 1 else 0, if i = 4 then 1 else 0, if i = 5 then 1 else 0] : List Int).sum = 1 := by
    rcases (by omega : i = 0 ∨ i = 1 ∨ i = 2 ∨ i = 3 ∨ i = 4 ∨ i = 5) with e | e | e | e | e | e <;> (subst e; rfl)
  rw [sum1]
  refine (show if (!decide (V.int 1 = V.int 1)) = true then _ else _ from iteF ⟨_, rfl, .ty "ValueError", .type "ValueError", _, rfl, (fun u h => h), F.kV, _, rfl, iteF ?_⟩)
  refine ⟨_, rfl, _, rfl, .inl ⟨rfl, _, SqL.of e3'⟩, l3, _, .bl true, i, .bl true, rfl, rfl, SqL.of e3', rfl, rfl, ?_, rfl, ?_, l4, _, (i : Nat), .str (wordAt i), rfl, rfl, SqL.of e4', ?_, k _ sA⟩
  · rcases (by omega : i = 0 ∨ i = 1 ∨ i = 2 ∨ i = 3 ∨ i = 4 ∨ i = 5) with e | e | e | e | e | e <;> (subst e; rfl)
  · intro m z hm hz
    rcases (by omega : i = 0 ∨ i = 1 ∨ i = 2 ∨ i = 3 ∨ i = 4 ∨ i = 5) with e | e | e | e | e | e <;> subst e <;> (rcases (by omega : m = 0 ∨ m = 1 ∨ m = 2 ∨ m = 3 ∨ m = 4) with e | e | e | e | e <;> subst e <;> first | omega | (cases hz; rfl))
  · refine at_of (j := i) rfl ?_
    rcases (by omega : i = 0 ∨ i = 1 ∨ i = 2 ∨ i = 3 ∨ i = 4 ∨ i = 5) with e | e | e | e | e | e <;> (subst e; rfl)

structure Hid (X : Cx) (pins : List (Addr × Obj)) (H : Hp) (b : Addr) : Prop where
  h : H b = none
  z : X.s_0.heap.get? b = none
  l : b ≠ X.env.locals
  c : ∀ x c, X.env.cells.lookup x = some c → c ≠ b
  p : ∀ q ∈ X.pn ++ pins, q.1 ≠ b
  f : b ∉ frs X.stack
section
variable {X : Cx} {pins : List (Addr × Obj)} {σ : L2.St} {H : Hp} {s : Shared}
theorem hid_out (J : Inv X pins σ H s) (hex : X.ex = []) {b : Addr} (n : s.heap.get? b = none) : Hid X pins H b where
  h := by
    cases q : H b with
    | none => rfl
    | some u =>
      have := J.hok.gone n
      rw [q] at this; cases this
  z := by
    cases q : X.s_0.heap.get? b with
    | none => rfl
    | some o =>
      obtain ⟨o', e⟩ := J.base.there b o q (by rw [hex]; exact fun z => nomatch z)
      rw [n] at e; cases e
  l := fun e => by
    obtain ⟨m, ⟨o, es, ep, ho, _⟩, _⟩ := J.loc
    rw [← e, n] at ho; cases ho
  c := fun x c e z => by
    obtain ⟨v, o, ho, _⟩ := J.cell x c e
    rw [z, n] at ho; cases ho
  p := fun q hq z => by
    have := (J.pin q hq).1
    rw [z, n] at this; cases this
  f := fun hb => by
    obtain ⟨_, o, ho, _⟩ := J.stack.mem hb
    rw [n] at ho; cases ho
theorem inv_hide {P : Addr → Prop} (I : Inv X pins σ H s) {G : Heap} (g : ∀ b o, ¬ P b → s.heap.get? b = some o → G.get? b = some o) (hid : ∀ b, P b → Hid X pins H b) : Inv X pins σ H { s with heap := G } where
  ok := I.ok
  os := I.os
  bare := I.bare
  base := ⟨fun b o e n h1 h2 => g b o (fun z => by rw [(hid b z).z] at e; cases e) (I.base.keep b o e n h1 h2), fun b o e n h1 h2 => let ⟨sl, q⟩ := I.base.slot b o e n h1 h2; ⟨sl, g b _ (fun z => by rw [(hid b z).z] at e; cases e) q⟩,
    I.base.free, fun b o e h => let ⟨o', q⟩ := I.base.there b o e h; ⟨o', g b _ (fun z => by rw [(hid b z).z] at e; cases e) q⟩, I.base.tups, I.base.frzs, I.base.tbls⟩
  loc := by
    obtain ⟨m, ⟨o, es, ep, ho, r⟩, hl⟩ := I.loc
    refine ⟨m, ⟨o, es, ep, g _ _ (fun z => (hid _ z).l rfl) ho, r⟩, fun i x v e1 e2 e3 => ?_⟩
    obtain ⟨u, ru, q⟩ := hl i x v e1 e2 e3
    refine ⟨u, ru, q.imp (fun k => k) fun ⟨k, c, e, oc, h1, h2⟩ => ⟨k, c, e, oc, g _ _ (fun z => (hid _ z).c x c e rfl) h1, h2⟩⟩
  cell := fun x c e => by
    obtain ⟨v, o, ho, hd⟩ := I.cell x c e
    exact ⟨v, o, g _ _ (fun z => (hid _ z).c x c e rfl) ho, hd⟩
  free := I.free
  freeC := I.freeC
  pin := fun q hq => by
    obtain ⟨h1, h2⟩ := I.pin q hq
    exact ⟨g _ _ (fun z => (hid _ z).p q hq rfl) h1, h2⟩
  hok := fun b u e => (I.hok b u e).stay (fun c v hc q => g c v (fun z => by
    have n := (hid c z).h
    rcases hc with y | y
    · rw [y, e] at n; cases n
    · rw [y] at n; cases n) q) (fun _ q => q) fun _ _ q => q
  len := I.len
theorem again {W : WX} {p : Addr → Bool} {cls : Value} {d : Option Addr} {a T : Addr} {oe oT : Obj} {vs ts : Array Value} {fl : Value} {A' : Around} {E : Value → Shared → Prop} (tk : L2N.Takes X W) (I : Inv X pins σ H s) (hid : ∀ b, p b = true → Hid X pins H b) (pa : p a = true) (pT : p T = true)
    (he : s.heap.get? a = some oe) (hz : L2N.Zn cls d oe) (hd : oe.data = .fields vs) (h1 : vs[1]? = some (.ref T)) (hTe : T ≠ a) (hT : s.heap.get? T = some oT) (hdT : oT.data = .fields ts) (h3 : ts[3]? = some fl) (w : W cls d σ H) :
    wpAny (model X.prog X.w) A' (setFlight (.ref a) (some X.env.locals)) (fun _ s4 => X.xe (.ref a) s4) E s := by
  obtain ⟨G, g1, g2⟩ := restrict s.heap fun b => !p b
  obtain ⟨B, b1, b2⟩ := restrict s.heap fun b => !p b && !decide (b ∈ frs X.stack)
  have inG : ∀ b o, G.get? b = some o → p b = false ∧ s.heap.get? b = some o := fun b o e => by
    cases q : p b with
    | true => rw [g2 b (by rw [q]; rfl)] at e; cases e
    | false => rw [g1 b (by rw [q]; rfl)] at e; exact ⟨rfl, e⟩
  have inB : ∀ b o, B.get? b = some o → p b = false ∧ b ∉ frs X.stack ∧ s.heap.get? b = some o := fun b o e => by
    cases q : (!p b && !decide (b ∈ frs X.stack)) with
    | false => rw [b2 b q] at e; cases e
    | true =>
      rw [b1 b q] at e
      simp only [Bool.and_eq_true, Bool.not_eq_true', decide_eq_false_iff_not] at q
      exact ⟨q.1, q.2, e⟩
  have st : B.StaysIn s.heap := fun b o e => (inB b o e).2.2
  have nB : ∀ b, p b = true → B.get? b = none := fun b hb => b2 b (by rw [hb]; rfl)
  have ff : s.heap.FunFrames B X.stack := funFrames_none I.stack fun L hL => b2 L (by rw [decide_eq_true hL, Bool.not_true, Bool.and_false])
  have JI : Inv X pins σ H { s with heap := G } := inv_hide (P := fun b => p b = true) I (fun b o n e => by
    have q : p b = false := by cases q : p b with | true => exact absurd q n | false => rfl
    rw [g1 b (by rw [q]; rfl)]; exact e) hid
  refine HandSPX.setFlight_anyZ (base := B) (l := X.stack) (Z := L2N.Zn cls d) (fl := fl) st ff ⟨oe, vs, T, oT, ts, he, hz, hd, h1, nB T pT, hTe, hT, hdT, h3⟩ fun h' k1 k2 k3 k4 => ?_
  refine tk _ _ ⟨a, B, { s with heap := G }, pins, σ, H, cls, d, rfl, JI, fun b o e hb => ?_, fun b o e nf => k4 b o (inG b o e).2 nf, .inr (.inr ⟨k1, nB a pa, k2, k3⟩), (hid a pa).h, rfl, I.bare, w⟩
  obtain ⟨q1, q2⟩ := inG b o e
  rw [b1 b (by rw [q1, decide_eq_false hb]; rfl)]
  exact q2
end

def wAgain (K : PySem.W.Frag) (c : Value) (ts : TS) (Wout : WX) (_ : Ends) : WX := fun cls d σ H =>
  ∃ b, PySem.W.exmOne K cls c = some b ∧ (b = true → ts { nx := fun σ' H' => Wout cls d σ' H', rt := fun _ _ => False } σ H) ∧ (b = false → Wout cls d σ H)
def tTryAgain (K : PySem.W.Frag) (c : Value) (tb : WX → TS) (ts : TS) (Wout : WX) : TS := fun D σ H => tb (wAgain K c ts Wout D) D σ H
section
variable {X : Cx} {x : Str} {c : Value} {body : List Stmt} {b₀ : Stmt} {np pos pos' rp : Pos} {tb : WX → TS} {ts : TS} {Wout : WX}
theorem fl_there {B h : Heap} {l : List Env} {a : Addr} {Z : Obj → Prop} (x : HandSPX.FlyingZ B l a Z h) : ∃ oe vs T oT tv, h.get? a = some oe ∧ Z oe ∧ oe.data = .fields vs ∧ vs[1]? = some (.ref T) ∧ B.get? T = none ∧ T ≠ a ∧ h.get? T = some oT ∧ oT.data = .fields tv ∧ tv[3]? = some .none := x.2.2.2
theorem ps_try_again (hs : X.stack = X.env :: X.outer) (hf : X.env.frame = some X.env.locals) (hex : X.ex = []) (hc : Names X x c) (tk : L2N.Takes X Wout)
    (hb : ∀ (W : WX) (pn : List (Addr × Obj)) (xe : Value → Shared → Prop), L2N.Takes (X.tr pn xe) W → PassesOwn (model X.prog X.w) X.A X.env xe → PSs (X.tr pn xe) body (tb W))
    (hpa : ∀ hd : Option Value, PassesOwnAt (model X.prog X.w) (X.A.mark hd) X.A X.env X.xe)
    (hsu : ∀ (a : Addr) (pn : List (Addr × Obj)), PS (X.suite a pn) b₀ ts) :
    PS X (.Try body [.ExceptHandler (some (.Name x np)) none [b₀, .Raise none none rp] pos'] [] [] pos) (tTryAgain X.K c tb ts Wout) := by
  refine ⟨fun pins s σ H D I h => ?_⟩
  have ok := I.ok
  have hfr : X.A.frames = some (X.env :: X.outer) := by rw [ok.frames, hs]
  refine wpAny_Try_except ?_
  refine wpAny_mono ((hb (wAgain X.K c ts Wout D) (X.pn ++ pins) (fun e y => wpAny (model X.prog X.w) X.A (noteFrame e X.env) (fun _ y2 => wpAny (model X.prog X.w) X.A (setFlight e none) (fun _ y3 =>
    wpAny (model X.prog X.w) X.A (handleBy e X.env [.ExceptHandler (some (.Name x np)) none [b₀, .Raise none none rp] pos']) (SP X pins D) X.xe y3) X.xe y2) X.xe y) (fun u y xx => ?_) PassesOwn.looking).run [] s σ H D (I.toTry _) h) (fun f y q => ?_) (fun e y he => he)
  · obtain ⟨a, B, sI, pins1, σ1, H1, cls, d, rfl, J0, nb, up, sky, na, os, ag, b, hb1, hyes, hno⟩ := xx
    have J : Inv X pins σ1 H1 sI := J0.ofTry ok
    have sky2 : Sky B (X.env :: X.outer) a (L2N.Zn cls d) X.env.locals y.heap := by rw [← hs]; exact sky
    show wpAny (model X.prog X.w) X.A (noteFrame (.ref a) X.env) _ _ _
    refine L2N.Sky.land L2N.Zn.steady hfr hf sky2 fun h3 fl3 up3 => ?_
    have J3 : Inv X pins σ1 H1 { y with heap := h3 } := J.landed nb fl3.1 (up.trans up3) os ag
    obtain ⟨oe3, vs3, T3, oT3, tv3, he3, hz3, hd3, _, nT3, _, eT3, dT3, _⟩ := fl_there fl3
    have notFr : ∀ {b : Addr} {o : Obj} {ws : Array Value}, h3.get? b = some o → o.data = .fields ws → b ∉ frs X.stack := fun {b o ws} e dd hm => by
      rw [hs] at hm
      obtain ⟨_, o2, e2, hnf⟩ := fl3.2.2.1.mem hm
      rw [e] at e2; cases e2
      exact hnf _ dd
    have outI : ∀ {b : Addr} {o : Obj} {ws : Array Value}, B.get? b = none → h3.get? b = some o → o.data = .fields ws → sI.heap.get? b = none := fun {b o ws} n e dd => by
      cases q : sI.heap.get? b with
      | none => rfl
      | some o2 =>
        have := nb b o2 q (notFr e dd)
        rw [n] at this; cases this
    have ha := hid_out J hex (outI fl3.2.1 he3 hd3)
    have hT := hid_out J hex (outI nT3 eT3 dT3)
    have nF : ∀ {b : Addr}, b ∉ frs X.stack → b ∉ X.fs := fun {b} n hm => n (by rw [hs]; obtain ⟨e, he, q⟩ := List.mem_filterMap.mp hm; exact List.mem_filterMap.mpr ⟨e, List.mem_cons_of_mem _ he, q⟩)
    have S3 := J3.suite he3 hd3 na ha.l (nF ha.f)
    refine wpAny_handleBy_cons (codeAny_handlers_test ?_) (by intro q; cases q)
    have LT : PySem.W.Looks (model X.prog X.w) h3 (typeOf (.ref a)) cls := fun A Q E z k q => wpAny_typeOf_ref (k _ _ he3) (by rw [hz3.1]; exact q)
    have LM := PySem.W.exm_one (M := model X.prog X.w) (J3.kIn) LT hb1
    have test : ∀ {Q : Value → Shared → Prop} {E : Value → Shared → Prop}, Q c { y with heap := h3 } → wpAny (model X.prog X.w) (X.A.mark (some (.ref a))) (eval (.Name x np) X.env) Q E { y with heap := h3 } := fun {Q E} q => by
      obtain ⟨hg, hdbg, hm | ⟨hm, hv, hnn⟩⟩ := hc
      · exact ld_glob (X := X.suite a ((a, oe3) :: (X.pn ++ pins))) S3 hg hm q hdbg
      · exact ld_blt (X := X.suite a ((a, oe3) :: (X.pn ++ pins))) S3 hg hm hv q hnn hdbg
    refine test (LM.here ?_)
    cases b with
    | true =>
      refine codeAny_handlers_suite ?_
      refine HandSPX.lands_againZ fl3 fun h4 fl4 up4 => ?_
      have J4 : Inv X pins σ1 H1 { y with heap := h4 } := J.landed nb fl4.1 ((up.trans up3).trans up4) os ag
      obtain ⟨oe, vs, T, oT, tv, he, hz, hd, h1, nT, hTe, eT, dT, h3'⟩ := fl_there fl4
      have notFr4 : ∀ {b : Addr} {o : Obj} {ws : Array Value}, h4.get? b = some o → o.data = .fields ws → b ∉ frs X.stack := fun {b o ws} e dd hm => by
        rw [hs] at hm
        obtain ⟨_, o2, e2, hnf⟩ := fl4.2.2.1.mem hm
        rw [e] at e2; cases e2
        exact hnf _ dd
      have hT4 : Hid X pins H1 T := hid_out J hex (by
        cases q : sI.heap.get? T with
        | none => rfl
        | some o2 =>
          have := nb T o2 q (notFr4 eT dT)
          rw [nT] at this; cases this)
      have S4 : Inv (X.suite a ((a, oe) :: (T, oT) :: (X.pn ++ pins))) [] σ1 H1 { y with heap := h4 } :=
        ⟨J4.ok.suite _ _, J4.os, J4.bare, J4.base, J4.loc, J4.cell, J4.free, J4.freeC, fun q hq => by
          have hq : q ∈ (a, oe) :: (T, oT) :: (X.pn ++ pins) := by rw [List.append_nil] at hq; exact hq
          rcases List.mem_cons.mp hq with e | hq
          · rw [e]; exact ⟨he, na, ha.l, nF ha.f, fun v z => by rw [hd] at z; cases z⟩
          · rcases List.mem_cons.mp hq with e | hq
            · rw [e]; exact ⟨eT, hT4.h, hT4.l, nF hT4.f, fun v z => by rw [dT] at z; cases z⟩
            · exact J4.pin q hq, J4.hok, J4.len⟩
      refine wpAny_execs_cons (thnF ((hsu a ((a, oe) :: (T, oT) :: (X.pn ++ pins))).run [] _ σ1 H1 _ S4 (hyes rfl)) fun f y5 q5 => ?_)
      cases f with
      | next =>
        obtain ⟨σ5, H5, S5, w5⟩ := q5
        have P1 := S5.pin (a, oe) (List.mem_append_left _ List.mem_cons_self)
        have P2 := S5.pin (T, oT) (List.mem_append_left _ (List.mem_cons_of_mem _ List.mem_cons_self))
        have I5 : Inv X pins σ5 H5 y5 := ⟨ok, S5.os, S5.bare, S5.base, S5.loc, S5.cell, S5.free, S5.freeC, fun q hq => S5.pin q (List.mem_append_left _ (List.mem_cons_of_mem _ (List.mem_cons_of_mem _ hq))), S5.hok, S5.len⟩
        refine wpAny_execs_cons (wpAny_Raise_bare ?_)
        have go : wpAny (model X.prog X.w) (X.A.mark (some (.ref a))) (setFlight (.ref a) (some X.env.locals)) (fun _ y6 => X.xe (.ref a) y6) (fun _ _ => False) y5 :=
          again (p := fun b => decide (b = a) || decide (b = T)) tk I5 (fun b hb => by
            simp only [Bool.or_eq_true, decide_eq_true_eq] at hb
            rcases hb with e | e
            · rw [e]; exact ⟨P1.2.1, ha.z, ha.l, ha.c, ha.p, ha.f⟩
            · rw [e]; exact ⟨P2.2.1, hT4.z, hT4.l, hT4.c, hT4.p, hT4.f⟩) (by simp) (by simp) P1.1 hz hd h1 hTe P2.1 dT h3' w5
        refine wpAny_mono (E := X.xe) (Q := fun _ _ => False) ?_ (fun _ _ z => z.elim) (fun e6 y6 z => hpa (some (.ref a)) e6 y6 z)
        have go2 : wpAny (model X.prog X.w) (X.A.mark (some (.ref a))) (setFlight (.ref a) X.env.frame) (fun _ y6 => wpAny (model X.prog X.w) (X.A.mark (some (.ref a))) (throw (.ref a) : Sem Flow) (fun _ _ => False) X.xe y6) X.xe y5 := by
          rw [hf]; exact wpAny_mono go (fun _ y6 q => wpAny_throw q) fun _ _ q => q.elim
        unfold raiseBare raiseStmt
        dsimp only
        refine wpAny_bind (wpAny_handled ?_)
        rw [show (X.A.mark (some (.ref a))).handled = some (.ref a) from rfl]
        dsimp only
        refine wpAny_bind (wpAny_rule ?_)
        refine wpAny_bind (wpAny_field P1.1 hd h1 ?_)
        rw [if_neg (show ¬ ((Value.ref T == Value.none) = true) from by simp)]
        first
          | exact wpAny_bind go2
          | exact wpAny_bind (wpAny_pure (wpAny_bind go2))
      | ret v =>
        obtain ⟨_, _, _, _, _, q⟩ := q5
        exact q.elim
      | brk =>
        obtain ⟨_, _, _, q⟩ := q5
        exact q.elim
      | cont =>
        obtain ⟨_, _, _, q⟩ := q5
        exact q.elim
    | false =>
      show wpAny _ X.A (handleBy (.ref a) X.env []) _ _ _
      refine wpAny_handleBy_nil ?_
      obtain ⟨k1, k2, k3, oe, vs, T, oT, tv, he, hz, hd, h1, hr⟩ := id fl3
      unfold PySem.passOn
      refine wpAny_bind (wpAny_field he hd h1 ?_)
      rw [if_neg (show ¬ ((Value.ref T == Value.none) = true) from by simp)]
      have fin : wpAny (model X.prog X.w) X.A (setFlight (.ref a) X.env.frame) (fun _ z => wpAny (model X.prog X.w) X.A (throw (.ref a) : Sem Flow) (SP X pins D) X.xe z) X.xe { y with heap := h3 } := by
        rw [hf]
        refine HandSPX.setFlight_upZ fl3 fun h4 hh4 up4 => wpAny_throw (tk _ _ ?_)
        exact ⟨a, B, sI, pins, σ1, H1, cls, d, rfl, J, nb, (up.trans up3).trans up4, .inr (.inr (by rw [hs]; exact hh4)), na, os, ag, hno rfl⟩
      first
        | exact wpAny_bind (wpAny_pure (wpAny_bind fin))
        | exact wpAny_bind fin
  · cases f with
    | next =>
      obtain ⟨σ1, H1, J1, q⟩ := q
      exact wpAny_execs_nil ⟨σ1, H1, J1.ofTry ok, q⟩
    | brk =>
      obtain ⟨σ1, H1, J1, q⟩ := q
      exact ⟨σ1, H1, J1.ofTry ok, q⟩
    | cont =>
      obtain ⟨σ1, H1, J1, q⟩ := q
      exact ⟨σ1, H1, J1.ofTry ok, q⟩
    | ret u =>
      obtain ⟨v, σ1, H1, J1, r, q⟩ := q
      exact ⟨v, σ1, H1, J1.ofTry ok, r, q⟩
end

def postX (M : Model) (A : Around) (E : Value → Shared → Prop) (fr : Option Addr) (Q : Value → Shared → Prop) (acc : Value) (C : Addr) (r : Result) (y : Shared) : Prop :=
  match r with
  | .ok _ => ∃ m, y.heap.Ns C m ∧ ∀ h', Heap.SameBut C y.heap h' → Q acc { y with heap := h' }
  | .error x => ∃ m, y.heap.Ns C m ∧ ∀ h', Heap.SameBut C y.heap h' → ∀ ce : Env, ce.frame = fr → wpAny M A (passOn "comprehension.variables-let-go" x ce : Sem Value) (fun _ _ => False) E { y with heap := h' }
section
variable {M : Model} {A : Around} {E : Value → Shared → Prop} {s : Shared} {env : Env}
theorem wpAny_compX {e : Expr} {scope : Scope} {pos : Pos} {newAcc first : Sem Value} {g : Comprehension} {gs : List Comprehension} {cl : List (Str × Addr)} {Q : Value → Shared → Prop}
    (hcl : clausesOf e = g :: gs) (hs : ∀ x, foldedSetIterable g.iter env x = pure x) (hclos : closureFor scope env = pure cl) (hkind : scope.kind = .function) (hnames : ∀ x ∈ scope.names, x.2 = .local → scope.names.lookup x.1 = some .local)
    (h : wpAny M A first (fun x y1 => wpAny M A (pyIter x) (fun it y2 => wpAny M A newAcc (fun acc y3 => wpAny M A (newFunctionEnv scope env.globals cl [] env.qual none .none (some env)) (fun ce y4 =>
        ce.frame = env.frame ∧ codeAny M A (.compStart e 0 it acc { ce with scope := relabel scope env }) (postX M A E env.frame Q acc ce.locals) y4) E y3) E y2) E y1) E s) :
    wpAny M A (comprehension e scope env pos newAcc false first none) Q E s := by
  unfold comprehension
  rw [hclos, hcl]
  refine wpAny_bind (wpAny_mono h (fun x y1 k1 => wpAny_bind (wpAny_standAt (wpAny_bind (wpAny_of_eq (hs x) (wpAny_bind (wpAny_holding (wpAny_mono k1 (fun it y2 k2 => wpAny_standIf (wpAny_bind (wpAny_mono k2 (fun acc y3 k3 => wpAny_bind (wpAny_pure (wpAny_bind (wpAny_mono k3 (fun ce y4 k4 => ?_) fun _ _ z => z)))) fun _ _ z => z))) fun _ _ z => z))))))) fun _ _ z => z)
  obtain ⟨hfr, k4⟩ := k4
  dsimp only
  have hv : ∀ x ∈ (scope.names.filter fun x => (x.2 == .local || x.2 == .cell) && x.1 != (".0" : Str)).reverse, x.2 = .local → Env.kindOf { ce with scope := relabel scope env } x.1 = some .local := fun x hx hl =>
    lookup_relabel_local (hnames x (List.mem_filter.mp (List.mem_reverse.mp hx)).1 hl)
  refine wpAny_holding (wpAny_bind (wpAny_attempt (wpAny_holding (wpAny_run (codeAny_mono k4 fun r y hr => ?_)))))
  cases r with
  | ok f =>
    obtain ⟨m, hn, hq⟩ := hr
    exact wpAny_bind (wpAny_holding (wpAny_comp_letGo (cenv := { ce with scope := relabel scope env }) hkind _ y m hv hn fun h' m' _ sb => wpAny_pure (hq h' sb)))
  | error x =>
    obtain ⟨m, hn, hq⟩ := hr
    exact wpAny_bind (wpAny_holding (wpAny_comp_letGo (cenv := { ce with scope := relabel scope env }) hkind _ y m hv hn fun h' m' _ sb => wpAny_mono (hq h' sb _ hfr) (fun _ _ f => f.elim) fun _ _ z => z))
end
section
variable {X : Cx} {pins : List (Addr × Obj)} {σ : L2.St} {H : Hp} {s s' : Shared} {E : XK}
theorem call_air (I : Inv X pins σ H s) {u : Value} (c : L2N.CX X.prog X.w X.stack H s E u s') : ∃ (a : Addr) (B : Heap) (H' : Hp) (cls : Value) (d : Option Addr) (G : Heap), u = .ref a ∧ Inv X pins σ H' { s with heap := G, gens := s'.gens, drawn := s'.drawn, toks := s'.toks } ∧
    (∀ b o, G.get? b = some o → b ∉ frs X.stack → B.get? b = some o) ∧ G.UpToSlots s'.heap ∧ HandSPX.FlyingZ B X.stack a (L2N.Zn cls d) s'.heap ∧ H' a = none ∧ s'.os = s.os ∧ AllBare s'.gens ∧ E cls d H' ∧ (∀ b o, s.heap.get? b = some o → H b = none → H' b = none) ∧
    (∀ b o, s.heap.get? b = some o → H b = none → b ∉ frs X.stack → B.get? b = some o) := by
  obtain ⟨a, B, H', cls, d, rfl, fl, hok, ub, na, os, ag, hE⟩ := c
  obtain ⟨G, g1, g2⟩ := restrict s'.heap fun b => (B.get? b).isSome || decide (b ∈ frs X.stack)
  have st : B.StaysIn s'.heap := fl.1
  have gB : ∀ b o, B.get? b = some o → G.get? b = some o := fun b o e => (g1 b (by rw [e]; rfl)).trans (st b o e)
  have og : ∀ b o, G.get? b = some o → s'.heap.get? b = some o ∧ ((B.get? b).isSome = true ∨ b ∈ frs X.stack) := fun b o e => by
    cases q : ((B.get? b).isSome || decide (b ∈ frs X.stack)) with
    | false => rw [g2 b q] at e; cases e
    | true => rw [g1 b q] at e; exact ⟨e, by simpa [Bool.or_eq_true] using q⟩
  have gF : ∀ b, b ∈ frs X.stack → G.get? b = s'.heap.get? b := fun b hb => g1 b (by rw [decide_eq_true hb, Bool.or_true])
  refine ⟨a, B, H', cls, d, G, rfl, ?_, fun b o e hb => ?_, Heap.UpToSlots.of_keeps fun b o e => (og b o e).1, fl, na, os, ag, hE, fun b o e n => ub.free b o e n, fun b o e n hb => ub.keep b o e n hb⟩
  · refine I.call (ch := []) ⟨fun b o e n hb _ => gB b o (ub.keep b o e n hb), fun b o e n hb _ => let ⟨sl, q⟩ := ub.slot b o e hb; ⟨sl, (gF b hb).trans q⟩, fun b o e n _ => ub.free b o e n, fun b o e _ => ?_, ub.tups, ub.frzs, ub.tbls⟩ (hok.kept gB) ag (fun _ z => nomatch z)
    by_cases hb : b ∈ frs X.stack
    · obtain ⟨sl, q⟩ := ub.slot b o e hb
      exact ⟨_, (gF b hb).trans q⟩
    · obtain ⟨o2, q⟩ := ub.there b o e hb
      exact ⟨o2, gB b o2 q⟩
  · obtain ⟨e1, hh⟩ := og b o e
    rcases hh with hh | hh
    · obtain ⟨o2, q⟩ := Option.isSome_iff_exists.mp hh
      have z := st b o2 q
      rw [e1] at z; cases z
      exact q
    · exact absurd hh hb
theorem blk_err (hs : X.stack = X.env :: X.outer) (hf : X.env.frame = some X.env.locals) (hex : X.ex = []) (tk : L2N.Takes X (fun cls d _ H => E cls d H)) (J : Inv X pins σ H s) {C : Addr} (hC : Hid X pins H C) {m : Str → Option Value} (mC : s.heap.Ns C m)
    {u : Value} {ce : Env} (hce : ce.frame = X.env.frame) {Q : Value → Shared → Prop} {acc : Value} {EE : Value → Shared → Prop} (c : L2N.CX X.prog X.w X.stack H s E u s') :
    wpAny (model X.prog X.w) X.A (noteFrame u ce) (fun _ y => postX (model X.prog X.w) X.A X.xe X.env.frame Q acc C (.error u) y) EE s' := by
  obtain ⟨a, B, H', cls, d, G, rfl, J1, nb, up, fl, na, os, ag, hE, free, keep⟩ := call_air J c
  have hfr : X.A.frames = some (X.env :: X.outer) := by rw [J.ok.frames, hs]
  have en : noteFrame (.ref a) ce = noteFrame (.ref a) X.env := by
    unfold noteFrame PySem.frameOf
    rw [hce]
  rw [en]
  rw [hs] at fl
  refine PXN.looks_onZ L2N.Zn.steady hfr hf fl fun h' hh up' => ?_
  obtain ⟨oC, es, ep, hoC, dC, r1, r2⟩ := mC
  have eB : B.get? C = some oC := keep C oC hoC hC.h hC.f
  have eC : h'.get? C = some oC := hh.1 C oC eB
  refine ⟨m, ⟨oC, es, ep, eC, dC, r1, r2⟩, fun h2 sb ce2 hf2 => ?_⟩
  obtain ⟨k1, k2, k3, oe, vs, T, oT, tv, he, hz, hd, h1, nT, hTe, eT, dT, h3⟩ := hh
  have notFr : ∀ {b : Addr} {o : Obj} {ws : Array Value}, h'.get? b = some o → o.data = .fields ws → b ∉ frs X.stack := fun {b o ws} e dd hm => by
    rw [hs] at hm
    obtain ⟨_, o2, e2, hnf⟩ := k3.mem hm
    rw [e] at e2; cases e2
    exact hnf _ dd
  have outG : ∀ {b : Addr} {o : Obj} {ws : Array Value}, B.get? b = none → h'.get? b = some o → o.data = .fields ws → G.get? b = none := fun {b o ws} n e dd => by
    cases q : G.get? b with
    | none => rfl
    | some o2 =>
      have := nb b o2 q (notFr e dd)
      rw [n] at this; cases this
  have ha := hid_out J1 hex (outG k2 he hd)
  have hT := hid_out J1 hex (outG nT eT dT)
  have neC : ∀ {b : Addr} {o : Obj} {ws : Array Value}, h'.get? b = some o → o.data = .fields ws → b ≠ C := fun {b o ws} e dd z => by
    rw [z, eC] at e; cases e
    rw [dC] at dd; cases dd
  have J2 : Inv X pins σ H' { s' with heap := h' } := J1.landed nb k1 (up.trans up') os ag
  have J3 : Inv X pins σ H' { s' with heap := h2 } := inv_hide (P := fun b => b = C) J2 (fun b o n e => (sb.2 b n).trans e) fun b e => by
    rw [e]; exact ⟨free C oC hoC hC.h, hC.z, hC.l, hC.c, hC.p, hC.f⟩
  have go : wpAny (model X.prog X.w) X.A (setFlight (.ref a) ce2.frame) (fun _ y => wpAny (model X.prog X.w) X.A (throw (.ref a) : Sem Value) (fun _ _ => False) X.xe y) X.xe { s' with heap := h2 } := by
    rw [hf2, hf]
    exact wpAny_mono (again (p := fun b => decide (b = a) || decide (b = T)) (W := fun cls d _ H => E cls d H) tk J3 (fun b hb => by
      simp only [Bool.or_eq_true, decide_eq_true_eq] at hb
      rcases hb with e | e
      · rw [e]; exact ha
      · rw [e]; exact hT) (by simp) (by simp) ((sb.2 a (neC he hd)).trans he) hz hd h1 hTe ((sb.2 T (neC eT dT)).trans eT) dT h3 hE) (fun _ y q => wpAny_throw q) fun _ _ q => q
  unfold PySem.passOn
  refine wpAny_bind (wpAny_field ((sb.2 a (neC he hd)).trans he) hd h1 ?_)
  rw [if_neg (show ¬ ((Value.ref T == Value.none) = true) from by simp)]
  first
    | exact wpAny_bind (wpAny_pure (wpAny_bind go))
    | exact wpAny_bind go
end

def tLcE (K : PySem.W.Frag) (tl : TE) (k : Nat) (te : TE) : TE := fun σ H Q => tl σ H fun v H1 => ∃ (a : Addr) (xs : List V) (g : V → V) (ok : V → Prop), v = .ref a ∧ SqL K H1 a xs ∧ xs.length < sizeLine ∧
  (∀ x ∈ xs, ∀ H2 (R : VK), Same H1 H2 → (ok x → ∀ H3, Same H2 H3 → R (g x) H3) → te ((wipe σ [k]).set k (some x)) H2 R) ∧ ∀ D H3, (∀ x ∈ xs, ok x) → H1 D = none → Same H1 H3 → H3 D = some (.lst (xs.map g)) → Q (.ref D) H3
theorem pe_lcE {X : Cx} {E : XK} {tl te : TE} {iter elt tg : Expr} {scope : Scope} {y : Str} {k : Nat} {pos : Pos} (hs0 : X.stack = X.env :: X.outer) (hf0 : X.env.frame = some X.env.locals) (hex : X.ex = []) (hcalm : X.calm = true) (tk : L2N.Takes X (fun cls d _ H => E cls d H)) (hN : X.N.Nodup) (hl : PE X iter tl) (ok : BlkOk X.N X.env.scope scope [(y, k)])
    (hg : ∀ s H C cl fp, PG (X.blk s H scope (compEnvC scope cl C X.env) fp) tg (gName k))
    (he : ∀ s H C cl fp xe, Passes (L2N.CX X.prog X.w) ((X.blk s H scope (compEnvC scope cl C X.env) fp).wish xe) E → PE ((X.blk s H scope (compEnvC scope cl C X.env) fp).wish xe) elt te)
    (hs : ∀ x, foldedSetIterable iter X.env x = pure x := by intro _; rfl) : PE X (.ListComp elt [⟨tg, iter, [], 0⟩] scope pos) (tLcE X.K tl k te) := by
  refine ⟨fun pins s σ H Q I h => ?_⟩
  rw [eval_ListComp]
  have cap : ∀ z ∈ scope.names, z.2 = .free → ∃ c, X.env.cells.lookup z.1 = some c := fun z hz e => I.ok.has _ ((ok.free z hz e).imp (fun q => q) fun q => q)
  refine wpAny_compX rfl hs (closure_ok cap) ok.kind (fun z hz e => (ok.uniq z hz).trans (by rw [e])) (thn (hl.run pins s σ H _ I h) fun v s1 ⟨xv, H1, I1, r1, a, xs, g, okP, ev, hq, hz, ht, hQ⟩ => ?_)
  subst ev
  cases r1
  obtain ⟨its, rv, pl, _⟩ := I1.list hq
  refine wpAny_pyIter_list pl.isList ?_
  obtain ⟨it, eit⟩ : ∃ it, it = s1.heap.objs.size := ⟨_, rfl⟩
  have fIt : FpOk X pins H1 it := I1.fpOk (by rw [eit]; exact Nat.le_refl _) (by rw [eit]; exact I1.hok.fresh (Nat.le_refl _))
  rw [← eit]
  obtain ⟨s2, e2⟩ : ∃ s2 : Shared, s2 = { s1 with heap := s1.heap.push { cls := .type "list_iterator", data := .fields #[.ref a, .int 0 0] } } := ⟨_, rfl⟩
  rw [← e2]
  have I2 : Inv X pins σ H1 s2 := by rw [e2]; exact I1.kept (t' := s1.toks) fun b o e => Heap.get?_push_of_some _ e
  have st2 : s2.heap.IsListIter it a 0 := by rw [e2, eit]; exact ⟨_, Heap.get?_push_size _ rfl, rfl, rfl⟩
  refine wpAny_newObj_type (newEnv_comp ?_) (by show 0 ≤ sizeLine; decide)
  obtain ⟨D, eD⟩ : ∃ D, D = s2.heap.objs.size := ⟨_, rfl⟩
  have nD : H1 D = none := by rw [eD]; exact I2.hok.fresh (Nat.le_refl _)
  rw [← eD]
  obtain ⟨s3, e3⟩ : ∃ s3 : Shared, s3 = { s2 with heap := s2.heap.push { cls := .type "list", data := .seq ([] : List Value).toArray } } := ⟨_, rfl⟩
  rw [← e3]
  have I3 : Inv X pins σ (upd H1 D (.lst [])) s3 := by
    rw [e3, eD]
    exact I2.laid (t' := s2.toks) (fun b o e => Heap.get?_push_of_some _ e) (Nat.le_refl _) ⟨Nat.zero_le _, [], 0, .nil, Heap.get?_push_size _ rfl⟩
  have k23 : ∀ b o, s2.heap.get? b = some o → s3.heap.get? b = some o := fun b o e => by rw [e3]; exact Heap.get?_push_of_some _ e
  obtain ⟨oi, gi, _, _⟩ := id st2
  have ltIt : it < s2.heap.objs.size := Heap.lt_size gi
  have nIt : it ≠ D := by rw [eD]; exact Nat.ne_of_lt ltIt
  have fIt3 : FpOk X pins (upd H1 D (.lst [])) it := ⟨by rw [upd_ne nIt]; exact fIt.1, fIt.2⟩
  have I4 := block_start (fp := [it]) I3 ok hN fun b hb => by
    rw [List.mem_singleton.mp hb]
    exact ⟨fIt3, by rw [e3, Heap.size_push]; exact Nat.lt_succ_of_lt ltIt⟩
  obtain ⟨H3, eH3⟩ : ∃ H3, H3 = upd H1 D (.lst []) := ⟨_, rfl⟩
  have hD3 : H3 D = some (.lst []) := by rw [eH3]; exact upd_same
  have s13 : Same H1 H3 := by rw [eH3]; exact Same.new nD
  obtain ⟨C, eC⟩ : ∃ C, C = s3.heap.objs.size := ⟨_, rfl⟩
  have hC0 : Hid X pins (upd H1 D (.lst [])) C := hid_out I3 hex (by
    cases q : s3.heap.get? C with
    | none => rfl
    | some o => exact absurd (Heap.lt_size q) (by rw [eC]; exact Nat.lt_irrefl _))
  obtain ⟨ce, ece⟩ : ∃ ce, ce = compEnvC scope (cellsFrom (s3.heap.objs.size + 1) scope.names (cloFrom X.env.cells scope.names [])) s3.heap.objs.size X.env := ⟨_, rfl⟩
  have pg := hg s3 H3 s3.heap.objs.size (cellsFrom (s3.heap.objs.size + 1) scope.names (cloFrom X.env.cells scope.names [])) [it]
  have pe := he s3 H3 s3.heap.objs.size (cellsFrom (s3.heap.objs.size + 1) scope.names (cloFrom X.env.cells scope.names [])) [it]
  rw [← ece] at pg pe
  rw [← eH3, ← ece] at I4
  have ceL : ce.locals = C := by rw [ece, eC]; rfl
  have ceF : ce.frame = X.env.frame := by rw [ece]; rfl
  obtain ⟨s4, e4⟩ : ∃ s4 : Shared, s4 = { s3 with heap := pushCells (s3.heap.push { cls := .type "dict", data := .dict #[] }) scope.names } := ⟨_, rfl⟩
  rw [← e4] at I4
  have k34 : ∀ b o, s3.heap.get? b = some o → s4.heap.get? b = some o := fun b o e => by rw [e4]; exact pushCells_keeps _ _ _ _ (Heap.get?_push_of_some _ e)
  have st4 : s4.heap.IsListIter it a 0 := by
    obtain ⟨o, g1, g2⟩ := st2
    exact ⟨o, k34 _ _ (k23 _ _ g1), g2⟩
  refine ⟨rfl, ?_⟩
  show codeAny (model X.prog X.w) X.A (.compStart (.ListComp elt [⟨tg, iter, [], 0⟩] scope pos) 0 (.ref it) (.ref D) (compEnvC scope (cellsFrom (s3.heap.objs.size + 1) scope.names (cloFrom X.env.cells scope.names [])) s3.heap.objs.size X.env)) (postX (model X.prog X.w) X.A X.xe X.env.frame (EP X pins σ Q) (.ref D) s3.heap.objs.size) { s3 with heap := pushCells (s3.heap.push { cls := .type "dict", data := .dict #[] }) scope.names }
  rw [← ece, ← e4, ← eC]
  rw [← eH3] at I3 fIt3
  have mIt : it ∈ ([it] : List Addr) := List.mem_singleton.mpr rfl
  have stat : ∀ {σ' : L2.St} {H' : Hp} {s' : Shared}, Inv (X.blk s3 H3 scope ce [it]) [] σ' H' s' → H' it = none → FpOk (X.blk s3 H3 scope ce [it]) [] H' it := fun {σ' H' s'} J hn =>
    ⟨hn, (J.ok.exf it mIt).1, J.ok.exfs it mIt, .inl mIt, fun x c e => (J.ok.exf it mIt).2 x c e, fun q hq => nomatch (show q ∈ ([] : List (Addr × Obj)) from hq)⟩
  have toX : ∀ {pp : List (Addr × Obj)} {σ' : L2.St} {H' : Hp} {s' : Shared}, Inv (X.blk s3 H3 scope ce [it]) pp σ' H' s' → Inv X pins σ H' s' := fun {pp σ' H' s'} J => I3.call' (ch := [it]) J.os J.base J.hok J.bare fun b hb => by
    rw [List.mem_singleton.mp hb]
    exact ⟨fIt3.2.2.2.1, fIt3.2.1, fIt3.2.2.2.2.1, fIt3.2.2.2.2.2⟩
  have hidC : ∀ {pp : List (Addr × Obj)} {σ' : L2.St} {H' : Hp} {s' : Shared}, Inv (X.blk s3 H3 scope ce [it]) pp σ' H' s' → Hid X pins H' C ∧ ∃ m, s'.heap.Ns C m := fun {pp σ' H' s'} J => by
    have nC : H' C = none := by rw [← ceL]; exact J.free
    obtain ⟨m, hns, _⟩ := J.loc
    have hns : s'.heap.Ns ce.locals m := hns
    rw [ceL] at hns
    exact ⟨⟨nC, hC0.z, hC0.l, hC0.c, hC0.p, hC0.f⟩, m, hns⟩
  have pe := pe (notedBy (model X.prog X.w) X.A ce fun e z => postX (model X.prog X.w) X.A X.xe X.env.frame (EP X pins σ Q) (.ref D) C (.error e) z) (fun pp σ' H' y e y' J c => by
    have J : Inv (X.blk s3 H3 scope ce [it]) pp σ' H' y := J.unwish
    obtain ⟨hC, m, mC⟩ := hidC J
    exact blk_err hs0 hf0 hex tk (toX J) hC mC ceF c)
  have loop : codeAny (model X.prog X.w) X.A (.compLoop (.ListComp elt [⟨tg, iter, [], 0⟩] scope pos) 0 (.ref it) (.ref D) ce) (postX (model X.prog X.w) X.A X.xe X.env.frame (EP X pins σ Q) (.ref D) C) s4 := by
    refine compLoop_any (fun n s' => ∃ i Hc, n + i = xs.length ∧ Inv (X.blk s3 H3 scope ce [it]) [] (wipe σ [k]) Hc s' ∧ s'.heap.IsListIter it a i ∧ Same H1 Hc ∧ Hc D = some (.lst ((xs.take i).map g)) ∧ Hc it = none ∧ ∀ y ∈ xs.take i, okP y) ?_ xs.length ⟨0, H3, rfl, I4, st4, s13, hD3, fIt3.1, fun y hy => by simp at hy⟩
    rintro n s5 ⟨i, Hc, hn, I5, st5, sc, hDc, nitc, hok⟩
    have q5 : SqL X.K Hc a xs := sc.seq hq
    obtain ⟨its5, rv5, pl5, _⟩ := I5.list q5
    have F5 := stat I5 nitc
    have hl5 := rv5.length
    cases hx : xs[i]? with
    | none =>
      have hi : xs.length ≤ i := List.getElem?_eq_none_iff.mp hx
      refine wpAny_pyNext_list_end (I.ok.hd hcalm) st5 pl5.isList (by simp; omega) fun h' eb => ?_
      have I6 : Inv (X.blk s3 H3 scope ce [it]) [] (wipe σ [k]) Hc { s5 with heap := h' } := I5.turned (t' := s5.toks) (fun b o hb e => eb b o hb e) F5.1 F5.2.1 F5.2.2.2.1 F5.2.2.2.2.1 F5.2.2.2.2.2
      have I7 := toX I6
      obtain ⟨hC, m, mC⟩ := hidC I6
      rw [List.take_of_length_le hi] at hDc hok
      exact ⟨m, mC, fun h'' sb => ⟨.ref D, Hc, inv_hide (P := fun b => b = C) I7 (fun b o hb e => (sb.2 b hb).trans e) (fun b e => by rw [e]; exact hC), rfl, hQ D Hc hok nD sc hDc⟩⟩
    | some x =>
      obtain ⟨u, hu, ru⟩ := rv5.get hx
      have hi : i < xs.length := (List.getElem?_eq_some_iff.mp hx).1
      refine wpAny_pyNext_list_item st5 pl5.isList (x := u) (by simpa using hu) fun h' st' sb => ?_
      have I6 : Inv (X.blk s3 H3 scope ce [it]) [] (wipe σ [k]) Hc { s5 with heap := h' } := I5.turned (t' := s5.toks) (fun b o hb e => (sb.2 b hb).trans e) F5.1 F5.2.1 F5.2.2.2.1 F5.2.2.2.2.1 F5.2.2.2.2.2
      obtain ⟨o, g1, g2, g3⟩ := id st'
      refine go_of (s := { s5 with heap := h' }) g1 g2 g3 (by decide) ?_
      have I6p := I6.pinned (fp := [it]) (fun b hb => by rw [List.mem_singleton.mp hb]; exact stat I6 nitc) (fun b hb => by
        rw [List.mem_singleton.mp hb]
        exact ⟨o, g1, fun v z => by rw [g3] at z; cases z⟩)
      refine thnF (pg.run _ _ _ _ x u (fun σ' H' => σ' = (wipe σ [k]).set k (some x) ∧ H' = Hc) I6p ru ⟨rfl, rfl⟩) fun _ s8 ⟨σ8, H8, I8, c1, c2⟩ => ?_
      rw [c1, c2] at I8
      show wpAny _ _ (forIn ([] : List Expr) true _) _ _ s8
      rw [List.forIn_nil]
      refine wpAny_pure ?_
      rw [if_pos rfl]
      refine wpAny_mono (pe.run _ s8 _ _ (fun z H' => z = g x ∧ Same Hc H' ∧ okP x) (I8.wish _) (ht x (List.mem_of_getElem? hx) _ _ sc fun ho H' sH => ⟨rfl, sH, ho⟩)) (fun zv s10 q => ?_) fun _ _ z => z
      obtain ⟨z, H10, I10, r10, c3, c4, c5⟩ := q
      have I10 := I10.unwish
      rw [c3] at r10
      have hzz : ((xs.take i).map g).length < sizeLine := by
        rw [List.length_map, List.length_take]; omega
      refine app_ok (X := X.blk s3 H3 scope ce [it]) I10 (c4 _ _ hDc) hzz r10 fun s11 I11 => ?_
      have eT : (xs.take i).map g ++ [g x] = (xs.take (i + 1)).map g := by
        rw [List.take_add_one, hx]
        simp
      rw [eT] at I11
      have hok2 : ∀ y ∈ xs.take (i + 1), okP y := fun y hy => by
        rw [List.take_add_one, hx] at hy
        rcases List.mem_append.mp hy with q | q
        · exact hok y q
        · rw [List.mem_singleton.mp q]; exact c5
      have Pi := I11.pin (it, o) (List.mem_append_right _ (List.mem_append_right _ (mem_pinsAt mIt g1)))
      refine ⟨n - 1, by omega, i + 1, _, by omega, (I11.unpinned (pins := [])).weak (by simp) (fun j v e => ?_), ⟨o, Pi.1, g2, g3⟩, fun b o e => ?_, upd_same, Pi.2.1, hok2⟩
      · have ne : j ≠ k := fun q => by
          rw [q] at e
          show False
          have e : (σ.set k none)[k]? = some (some v) := e
          rw [List.getElem?_set] at e
          simp at e
        rw [List.getElem?_set_ne (Ne.symm ne)]
        exact e
      · rw [upd_ne (ne_of_none e nD)]
        exact c4 _ _ (sc _ _ e)
  exact codeAny_compStart_list loop (wpAny_pyIter_listiter st4 loop)

abbrev zSplit : V → List V → Hp → VK → Prop := fun x xs H Q => ∃ a b, x = .str a ∧ xs = [.str b] ∧ (b.length == 0) = false ∧ a.length + 2 ≤ sizeLine ∧ rNewStrs (Txt.split a b) H Q
abbrev zStripC : V → List V → Hp → VK → Prop := fun x xs H Q => ∃ a b, x = .str a ∧ xs = [.str b] ∧ a.length ≤ sizeLine ∧ Q (.str (Txt.stripChars a b)) H
abbrev zJoin (K : PySem.W.Frag) : V → List V → Hp → VK → Prop := fun x xs H Q => ∃ a p, ∃ ys : List Str, x = .str a ∧ xs = [.ref p] ∧ (SqL K H p (ys.map V.str) ∨ SqT K H p (ys.map V.str)) ∧ (ys.map (·.length)).sum + ys.length * a.length ≤ 16777216 ∧ Q (.str (Txt.join a ys)) H
abbrev zIntS : List V → Hp → VK → Prop := fun xs H Q => ∃ a n, xs = [.str a] ∧ PySem.intText? a = some n ∧ a.length ≤ 640 ∧ Q (.int n) H
abbrev rKdN (K : PySem.W.Frag) (d : Addr) : R2 := fun x y H Q => ∃ (z : Str) (r : Option Value), x = .str z ∧ y = .ref d ∧ PySem.W.nsIn K d z = some r ∧ Q (.bl (!r.isSome)) H
abbrev rKdI (K : PySem.W.Frag) (d : Addr) : R2 := fun x y H Q => ∃ (z : Str) (u0 : Value) (v0 : V), x = .ref d ∧ y = .str z ∧ PySem.W.nsIn K d z = some (some u0) ∧ RelV v0 u0 ∧ Q v0 H
theorem ix_kd {X : Cx} {d : Addr} {es : Array DictEntry} {n : Nat} (D : KDict X.K X.w d es n) : IxR X (rKdI X.K d) := by
  intro value slice pins s σ H x y v u Q I rx ry ⟨z, u0, v0, ex, ey, e, r, q⟩ hs
  exact ix_kdict value slice pins s σ H x y v u Q I rx ry ⟨d, z, v0, ex, ey, ⟨es, n, u0, D.at_, D.lit, e, r⟩, q⟩ hs
def figs : Str := "0123456789"
def figures (t : Str) : Bool := t.cps.toList.all fun c => decide (c ∈ figs.cps.toList)
def goodNum (t : Str) : Bool := decide (1 ≤ t.length ∧ t.length ≤ 12) && figures t && !(decide (t.cps.toList.head? = ("0" : Str).cps.toList.head?) && !decide (t = "0"))
def numAt (t : Str) : Int := (PySem.intText? t).getD 0
def shape (z : Str) : Option Nat :=
  if z = "chip" then some 3 else if z = "write" then some 2 else if z = "read" then some 1 else if z = "power" then some 1 else if z = "mount" then some 0 else if z = "worn" then some 1 else if z = "written" then some 0 else if z = "page" then some 2 else none
def firsts : List Str := ["chip", "write", "read", "power", "mount", "worn", "written", "page", "Read", "mounts", "erase", ""]
def rowWords (l : Str) : List Str := Txt.split l " "
def parse (l : Str) : Option (Str × List (Option Int)) :=
  match shape ((rowWords l).headD "") with
  | none => none
  | some k => if (rowWords l).length ≠ 1 + k then none else if rowWords l = (["power", "all"] : List Str) then some ("power", [none]) else
      if ((rowWords l).drop 1).all goodNum = true then some ((rowWords l).headD "", ((rowWords l).drop 1).map fun w => some (numAt w)) else none
structure LineOk (l : Str) : Prop where
  len : l.length ≤ 1000
  ne : rowWords l ≠ []
  few : (rowWords l).length ≤ 1000
  first : (rowWords l).headD "" ∈ firsts
  num : ∀ w ∈ (rowWords l).drop 1, goodNum w = true → PySem.intText? w = some (numAt w)
  wl : ∀ w ∈ rowWords l, PyData.strOk w = true ∧ w.length ≤ sizeLine
inductive Er where
  | badrow | badsize | nopage | nosector | badcontent | cut | nodisk
deriving DecidableEq
def Er.name : Er → Str
  | .badrow => "BadRow"
  | .badsize => "BadSize"
  | .nopage => "NoPage"
  | .nosector => "NoSector"
  | .badcontent => "BadContent"
  | .cut => "Cut"
  | .nodisk => "NoDisk"
def Er.addr (A : Ad) : Er → Addr
  | .badrow => A.badrow
  | .badsize => A.badsize
  | .nopage => A.nopage
  | .nosector => A.nosector
  | .badcontent => A.badcontent
  | .cut => A.cut
  | .nodisk => A.nodisk
inductive KS where
  | no
  | chip (x : DC) (many : Int)
  | disk (st : DS) (many : Int)
inductive RR where
  | ok (z : Str)
  | er (e : Er)
def RR.text : RR → Str
  | .ok z => z
  | .er e => "refused: " ++ e.name
def KS.pow : KS → Option Int → KS
  | .no, _ => .no
  | .chip x m, l => .chip (x.pow l) m
  | .disk st m, l => .disk (st.pow l) m
def KS.inB : KS → Int → Prop
  | .no, _ => False
  | .chip x _, b => 0 ≤ b ∧ b < x.bs.length
  | .disk st _, b => 0 ≤ b ∧ b < st.x.bs.length
def KS.wear : KS → Int → Int
  | .no, _ => 0
  | .chip x _, b => x.wears.getD b.toNat 0
  | .disk st _, b => st.x.wears.getD b.toNat 0
def KS.many : KS → Int
  | .no => 0
  | .chip x _ => x.many
  | .disk st _ => st.x.many
def KS.m : KS → Nat
  | .no => 0
  | .chip x _ => x.m
  | .disk st _ => st.x.m
inductive Step : KS → Option (Str × List (Option Int)) → KS → RR → Prop where
  | bad {ks} : Step ks none ks (.er .badrow)
  | size {ks b p S} : ¬ (sizeOk b p ∧ manyOk (DC.new b.toNat p.toNat) S) → Step ks (some ("chip", [some b, some p, some S])) ks (.er .badsize)
  | chip {ks b p S} : sizeOk b p → manyOk (DC.new b.toNat p.toNat) S → Step ks (some ("chip", [some b, some p, some S])) (.disk (mount (DC.new b.toNat p.toNat) S).1 S) (.ok "ok")
  | none {w : Str} {ns} : w ≠ "chip" → Step .no (some (w, ns)) .no (.er .nodisk)
  | nodisk {x m} {w : Str} {ns} : w = "write" ∨ w = "read" → Step (.chip x m) (some (w, ns)) (.chip x m) (.er .nodisk)
  | read {st m s} : secOk st s → (st.val s).natAbs.log2 < 1920 → Step (.disk st m) (some ("read", [some s])) (.disk st m) (.ok (toString (st.val s) : String))
  | readNo {st m s} : ¬ secOk st s → Step (.disk st m) (some ("read", [some s])) (.disk st m) (.er .nosector)
  | writeNo {st m s c} : ¬ secOk st s → Step (.disk st m) (some ("write", [some s, some c])) (.disk st m) (.er .nosector)
  | write {st m s c} : secOk st s → conOk c → WriteOk st s → (st.write s c).2 = true → Step (.disk st m) (some ("write", [some s, some c])) (.disk (st.write s c).1 m) (.ok "ok")
  | cut {st m s c} : secOk st s → conOk c → WriteOk st s → (st.write s c).2 = false → Step (.disk st m) (some ("write", [some s, some c])) (.chip (st.write s c).1.x m) (.er .cut)
  | power {ks l} : ks ≠ .no → Step ks (some ("power", [l])) (ks.pow l) (.ok "ok")
  | mount {st m} : manyOk st.x m → TidyOk st.x → ((tidy st.x).2 = true → Fit m (tidy st.x).1.bs ∧ ∀ b, greatest (tidy st.x).1.bs = some b → b < st.x.n) → (mount st.x m).2 = true → Step (.disk st m) (some ("mount", [])) (.disk (mount st.x m).1 m) (.ok "ok")
  | worn {ks b} : ks ≠ .no → ¬ ks.inB b → Step ks (some ("worn", [some b])) ks (.er .nopage)
  | page {ks b p} : ks ≠ .no → ¬ (ks.inB b ∧ 0 ≤ p ∧ p < ks.m) → Step ks (some ("page", [some b, some p])) ks (.er .nopage)
  | wornOk {ks b} : ks.inB b → (ks.wear b).natAbs.log2 < 1920 → Step ks (some ("worn", [some b])) ks (.ok (toString (ks.wear b) : String))
  | written {ks} : ks ≠ .no → ks.many.natAbs.log2 < 1920 → Step ks (some ("written", [])) ks (.ok (toString ks.many : String))
  | mountC {x m} : manyOk x m → TidyOk x → ((tidy x).2 = true → Fit m (tidy x).1.bs ∧ ∀ b, greatest (tidy x).1.bs = some b → b < x.n) → (mount x m).2 = true → Step (.chip x m) (some ("mount", [])) (.disk (mount x m).1 m) (.ok "ok")
def blank (l : Str) : Bool := decide (Txt.stripChars l " " = "")
inductive Run : KS → List Str → KS → List Str → Prop where
  | nil {ks} : Run ks [] ks []
  | blank {ks ks' l ls as} : l.length ≤ 1000 → blank l = true → Run ks ls ks' as → Run ks (l :: ls) ks' as
  | row {ks ks1 ks' l ls r as} : blank l = false → LineOk l → Step ks (parse l) ks1 r → Run ks1 ls ks' as → Run ks (l :: ls) ks' (r.text :: as)
theorem Run.append {ks ks1 ks2 : KS} {ls ls' : List Str} {as as' : List Str} (h : Run ks ls ks1 as) (h' : Run ks1 ls' ks2 as') : Run ks (ls ++ ls') ks2 (as ++ as') := by
  induction h with
  | nil => exact h'
  | blank a b _ ih => exact .blank a b (ih h')
  | row a b c _ ih => exact .row a b c (ih h')

structure KA where
  q : Addr
  dx : Addr
  cd : CD
  d : DD
def deskF (c d : V) (m : Int) : List (Str × V) := [("chip", c), ("disk", d), ("many", .int m)]
theorem ks1 : ("disk" : Str) ≠ "chip" := by decide +kernel
theorem ks2 : ("many" : Str) ≠ "chip" := by decide +kernel
theorem ks3 : ("many" : Str) ≠ "disk" := by decide +kernel
section
variable {c d c' d' : V} {m : Int}
theorem deskF_chip : (deskF c d m).lookup ("chip" : Str) = some c := by simp [deskF, List.lookup]
theorem deskF_disk : (deskF c d m).lookup ("disk" : Str) = some d := by simp [deskF, List.lookup, beq_no ks1]
theorem deskF_many : (deskF c d m).lookup ("many" : Str) = some (.int m) := by simp [deskF, List.lookup, beq_no ks2, beq_no ks3]
theorem deskF_pchip : putF "chip" c' (deskF c d m) = deskF c' d m := by simp [putF, deskF]
theorem deskF_pdisk : putF "disk" d' (deskF c d m) = deskF c d' m := by simp [putF, deskF, Ne.symm ks1]
theorem deskF_pmany {n : Int} : putF "many" (.int n) (deskF c d m) = deskF c d n := by simp [putF, deskF, Ne.symm ks2, Ne.symm ks3]
theorem deskF_len : (deskF c d m).length < 1000 := by show 3 < 1000; decide
theorem deskF_no {f : Str} (h1 : ¬ f = "chip") (h2 : ¬ f = "disk") (h3 : ¬ f = "many") : (deskF c d m).lookup f = none := by simp [deskF, List.lookup, beq_no h1, beq_no h2, beq_no h3]
end
def DeskAt (A : Ad) (H : Hp) (a : KA) : KS → Prop
  | .no => H a.q = some (.ins A.desk a.dx (deskF .non .non 0))
  | .chip x m => H a.q = some (.ins A.desk a.dx (deskF (.ref a.cd.p) .non m)) ∧ ChipD A H a.cd x
  | .disk st m => H a.q = some (.ins A.desk a.dx (deskF (.ref a.d.chip.p) (.ref a.d.q) m)) ∧ DiskAt A H a.d st
def kfp (a : KA) : KS → Addr → Prop
  | .no, b => b = a.q
  | .chip _ _, b => b = a.q ∨ cfp a.cd b
  | .disk _ _, b => b = a.q ∨ dfp a.d b
structure ChgK (A : Ad) (H : Hp) (a : KA) (ks : KS) (H' : Hp) (a' : KA) (ks' : KS) : Prop where
  at_ : DeskAt A H' a' ks'
  q : a'.q = a.q
  sub : ∀ b, kfp a' ks' b → kfp a ks b ∨ H b = none
  fr : Fr (kfp a ks) H H'
section
variable {A : Ad} {H H' : Hp} {a : KA} {ks : KS}
theorem desk_apartC {cd : CD} {x : DC} {q dx : Addr} {c d : V} {m : Int} (h : H q = some (.ins A.desk dx (deskF c d m))) (hc : ChipD A H cd x) : ¬ cfp cd q := fun z => by
  obtain ⟨rows, hch, _⟩ := hc.ex
  rcases z with z | z | z | z
  · rw [z, hch.ob] at h
    have := Option.some.inj h
    injection this with _ _ e
    have e2 := congrArg List.length e
    exact absurd e2 (show ¬ (5 = 3) by decide)
  · rw [z, hch.rows] at h; cases h
  · rw [z, hch.wears] at h; cases h
  · obtain ⟨i, hi⟩ := List.getElem?_of_mem z
    obtain ⟨xs, _, e⟩ := hch.row i q hi
    rw [e] at h; cases h
theorem desk_apartD {dd : DD} {st : DS} {q dx : Addr} {c d : V} {m : Int} (h : H q = some (.ins A.desk dx (deskF c d m))) (hc : DiskAt A H dd st) : ¬ dfp dd q := fun z => by
  rcases z with z | z | z
  · rw [z, hc.ob] at h
    have := Option.some.inj h
    injection this with _ _ e
    have e2 := congrArg List.length e
    exact absurd e2 (show ¬ (8 = 3) by decide)
  · obtain ⟨kvs, e, _⟩ := hc.pls
    rw [z, e] at h; cases h
  · exact desk_apartC h hc.chip z
theorem DeskAt.ob (h : DeskAt A H a ks) : ∃ c d m, H a.q = some (.ins A.desk a.dx (deskF c d m)) := by
  cases ks with
  | no => exact ⟨_, _, _, h⟩
  | chip x m => exact ⟨_, _, _, h.1⟩
  | disk st m => exact ⟨_, _, _, h.1⟩
theorem DeskAt.solid (h : DeskAt A H a ks) {b : Addr} (hb : kfp a ks b) : ∃ o, H b = some o ∧ Solid o := by
  cases ks with
  | no => exact ⟨_, by rw [show b = a.q from hb]; exact h, Solid.ins⟩
  | chip x m =>
    rcases hb with z | z
    · exact ⟨_, by rw [z]; exact h.1, Solid.ins⟩
    · exact h.2.solid z
  | disk st m =>
    rcases hb with z | z
    · exact ⟨_, by rw [z]; exact h.1, Solid.ins⟩
    · exact h.2.solid z
theorem DeskAt.keep {G : Addr → Prop} (h : DeskAt A H a ks) (f : Fr0 G H H') (dj : ∀ b, kfp a ks b → ¬ G b) : DeskAt A H' a ks := by
  cases ks with
  | no => exact f.keep _ _ h (dj _ rfl)
  | chip x m => exact ⟨f.keep _ _ h.1 (dj _ (.inl rfl)), h.2.keep f fun b hb => dj b (.inr hb)⟩
  | disk st m => exact ⟨f.keep _ _ h.1 (dj _ (.inl rfl)), h.2.keep f fun b hb => dj b (.inr hb)⟩
theorem DeskAt.same (h : DeskAt A H a ks) (s : Same H H') : DeskAt A H' a ks := h.keep (G := fun _ => False) (Fr.of_same s).f0 fun _ _ z => z
def rDesk (A : Ad) (a : KA) (ks : KS) : Res := ⟨kfp a ks, fun H => DeskAt A H a ks, fun H h b e => h.solid e, fun H H' G h f dj => h.keep f dj⟩
theorem ChgK.same (h : DeskAt A H a ks) (s : Same H H') : ChgK A H a ks H' a ks := ⟨h.same s, rfl, fun b hb => .inl hb, Fr.of_same s⟩
theorem ChgK.trans {a1 a2 : KA} {ks1 ks2 : KS} {H1 H2 : Hp} (g : ChgK A H a ks H1 a1 ks1) (g2 : ChgK A H1 a1 ks1 H2 a2 ks2) : ChgK A H a ks H2 a2 ks2 where
  at_ := g2.at_
  q := g2.q.trans g.q
  sub := fun b hb => by
    rcases g2.sub b hb with z | z
    · exact g.sub b z
    · exact .inr (g.fr.live b z)
  fr := g.fr.trans g2.fr g.sub
theorem put_chip {cd : CD} {x : DC} {q dx : Addr} {c d c' d' : V} {m m' : Int} (h : H q = some (.ins A.desk dx (deskF c d m))) (hc : ChipD A H cd x) : ChipD A (upd H q (.ins A.desk dx (deskF c' d' m'))) cd x :=
  hc.keep (Fr.put (F := fun b => b = q) h rfl (by intro xs z; cases z)).f0 fun b hb z => desk_apartC h hc (by rw [← z]; exact hb)
theorem put_disk {dd : DD} {st : DS} {q dx : Addr} {c d c' d' : V} {m m' : Int} (h : H q = some (.ins A.desk dx (deskF c d m))) (hc : DiskAt A H dd st) : DiskAt A (upd H q (.ins A.desk dx (deskF c' d' m'))) dd st :=
  hc.keep (Fr.put (F := fun b => b = q) h rfl (by intro xs z; cases z)).f0 fun b hb z => desk_apartD h hc (by rw [← z]; exact hb)
theorem use_powerC {K : PySem.W.Frag} {cd : CD} {x : DC} {l : Option Int} {v : V} {Q : VK} {E : XK} (hv : v = leftV l) (h : ChipD A H cd x) (k : ∀ H', ChgC A H cd H' cd (x.pow l) → Q .non H') : sp_Chip_power K A [.ref cd.p, v] H Q E := by
  obtain ⟨rows, hc, R⟩ := h.ex
  exact ⟨cd, _, l, by rw [hv], hc, fun H' g => k H' ⟨⟨rows, g.at_, R.mono g.fr.tup⟩, g.p, g.sub, g.fr⟩⟩
end

structure ClsF (K : PySem.W.Frag) (A : Ad) (e : Er) : Prop where
  kr : PySem.W.kitOne K (.ref (e.addr A)) (.ref A.badrow) = some (decide (e = .badrow))
  ks : PySem.W.kitOne K (.ref (e.addr A)) (.ref A.badsize) = some (decide (e = .badsize))
  kp : PySem.W.kitOne K (.ref (e.addr A)) (.ref A.nopage) = some (decide (e = .nopage))
  kn : PySem.W.kitOne K (.ref (e.addr A)) (.ref A.nosector) = some (decide (e = .nosector))
  kb : PySem.W.kitOne K (.ref (e.addr A)) (.ref A.badcontent) = some (decide (e = .badcontent))
  kc : PySem.W.kitOne K (.ref (e.addr A)) (.ref A.cut) = some (decide (e = .cut))
  ex : ExcC K (e.addr A)
  em : PySem.W.exmOne K (.ref (e.addr A)) (.ref A.wear) = some true
structure FacQ (K : PySem.W.Frag) (A : Ad) : Prop extends FacL K A where
  cl_Desk : Cls K A.desk
  q_chip : NoAttr K A.desk "chip"
  q_disk : NoAttr K A.desk "disk"
  q_many : NoAttr K A.desk "many"
  cls : ∀ e, ClsF K A e
  ex_ns : PySem.W.exmOne K (.ref A.nosector) (.ref A.cut) = some false
  sh : ∀ z ∈ firsts, ∃ r, PySem.W.nsIn K A.shapes z = some r ∧ r.isSome = (shape z).isSome ∧ ∀ n, shape z = some n → ∃ u, r = some u ∧ RelV (.int n) u
def RR.go (A : Ad) (Q : VK) (E : XK) (H : Hp) : RR → Prop
  | .ok z => Q (.str z) H
  | .er e => E (.ref (e.addr A)) none H
def sp_number_of (K : PySem.W.Frag) (A : Ad) : Sp := fun vs H Q E => ∃ t : Str, vs = [.str t] ∧ t.length ≤ sizeLine ∧ (goodNum t = true → PySem.intText? t = some (numAt t) ∧ ∀ H', Same H H' → Q (.int (numAt t)) H') ∧ (goodNum t = false → ∀ H', Same H H' → E (.ref A.badrow) none H')
def sp_words_of (K : PySem.W.Frag) (A : Ad) : Sp := fun vs H Q E => ∃ l : Str, vs = [.str l] ∧ LineOk l ∧ (parse l = none → ∀ H', Same H H' → E (.ref A.badrow) none H') ∧
  (∀ w ns, parse l = some (w, ns) → ∀ tp lp H', Same H H' → H lp = none → H' tp = some (.tup [.str w, .ref lp]) → H' lp = some (.lst (ns.map leftV)) → Q (.ref tp) H')
def sp_Desk_init (K : PySem.W.Frag) (A : Ad) : Sp := fun vs H Q E => ∃ q dx, vs = [.ref q] ∧ H q = some (.ins A.desk dx []) ∧ ∀ H', H' q = some (.ins A.desk dx (deskF .non .non 0)) → Fr (fun y => y = q) H H' → Q .non H'
def at_row (A : Ad) (H : Hp) (a : KA) (ks ks' : KS) (r : RR) (Q : VK) (E : XK) : Prop := ∀ a' H', ChgK A H a ks H' a' ks' → r.go A Q E H'
def sp_Desk_at_disk (K : PySem.W.Frag) (A : Ad) : Sp := fun vs H Q E => ∃ a ks w ns lp ks' r, vs = [.ref a.q, .str w, .ref lp] ∧ ks ≠ KS.no ∧ (w = "write" ∨ w = "read") ∧ DeskAt A H a ks ∧ H lp = some (.lst (ns.map leftV)) ∧ Step ks (some (w, ns)) ks' r ∧ at_row A H a ks ks' r Q E
def sp_Desk_at_chip (K : PySem.W.Frag) (A : Ad) : Sp := fun vs H Q E => ∃ a ks w ns lp ks' r, vs = [.ref a.q, .str w, .ref lp] ∧ ks ≠ KS.no ∧ w ≠ "chip" ∧ w ≠ "write" ∧ w ≠ "read" ∧ DeskAt A H a ks ∧ H lp = some (.lst (ns.map leftV)) ∧ Step ks (some (w, ns)) ks' r ∧ at_row A H a ks ks' r Q E
def sp_Desk_answer (K : PySem.W.Frag) (A : Ad) : Sp := fun vs H Q E => ∃ a ks l ks' r, vs = [.ref a.q, .str l] ∧ DeskAt A H a ks ∧ LineOk l ∧ Step ks (parse l) ks' r ∧ at_row A H a ks ks' r Q E
def spw_class_of (K : PySem.W.Frag) (A : Ad) : WordW := fun D H Q => ∃ e : Er, D = e.addr A ∧ ClsF K A e ∧ Q (.str e.name) H
def sp_play (K : PySem.W.Frag) (A : Ad) : Sp := fun vs H Q E => ∃ (t : Str) (ls ans : List Str) (ks' : KS), vs = [.str t] ∧ t.length ≤ 100000 ∧ Txt.split t "\n" = ls ∧ ls.length ≤ 1000 ∧ Run .no ls ks' ans ∧ ∀ l H', Same H H' → H l = none → H' l = some (.lst (ans.map V.str)) → Q (.ref l) H'
section
variable {K : PySem.W.Frag} {A : Ad} {vs : List V} {H H' : Hp} {Q : VK} {E : XK}
theorem len_number_of (h : sp_number_of K A vs H Q E) : vs.length = 1 := by
  obtain ⟨_, rfl, _⟩ := h; rfl
theorem len_words_of (h : sp_words_of K A vs H Q E) : vs.length = 1 := by
  obtain ⟨_, rfl, _⟩ := h; rfl
theorem len_Desk_init (h : sp_Desk_init K A vs H Q E) : vs.length = 1 := by
  obtain ⟨_, _, rfl, _⟩ := h; rfl
theorem len_Desk_at_disk (h : sp_Desk_at_disk K A vs H Q E) : vs.length = 3 := by
  obtain ⟨_, _, _, _, _, _, _, rfl, _⟩ := h; rfl
theorem len_Desk_at_chip (h : sp_Desk_at_chip K A vs H Q E) : vs.length = 3 := by
  obtain ⟨_, _, _, _, _, _, _, rfl, _⟩ := h; rfl
theorem len_Desk_answer (h : sp_Desk_answer K A vs H Q E) : vs.length = 2 := by
  obtain ⟨_, _, _, _, _, rfl, _⟩ := h; rfl
theorem len_play (h : sp_play K A vs H Q E) : vs.length = 1 := by
  obtain ⟨_, _, _, _, rfl, _⟩ := h; rfl
def N_class_of : List Str := ["error"]
def t_class_of (K : PySem.W.Frag) (A : Ad) (D a : Addr) : TS :=
  (tSeq (tIfS (tB (isE K D a (.ref A.badrow))) (tRet (tC (.str "BadRow"))) tNext)
  (tSeq (tIfS (tB (isE K D a (.ref A.badsize))) (tRet (tC (.str "BadSize"))) tNext)
  (tSeq (tIfS (tB (isE K D a (.ref A.nopage))) (tRet (tC (.str "NoPage"))) tNext)
  (tSeq (tIfS (tB (isE K D a (.ref A.nosector))) (tRet (tC (.str "NoSector"))) tNext)
  (tSeq (tIfS (tB (isE K D a (.ref A.badcontent))) (tRet (tC (.str "BadContent"))) tNext)
  (tSeq (tIfS (tB (isE K D a (.ref A.cut))) (tRet (tC (.str "Cut"))) tNext)
  (tRet (tC (.str "NoDisk")))))))))
theorem isE_if {D a : Addr} {c : Addr} {e : Bool} {t u : TS} {Dn : Ends} {σ : L2.St} (h0 : σ[0]? = some (some (.ref a))) (k : PySem.W.kitOne K (.ref D) (.ref c) = some e) (h : if e = true then t Dn σ H else u Dn σ H) :
    tIfS (tB (isE K D a (.ref c))) t u Dn σ H := by
  refine ⟨_, h0, _, _, _, rfl, (fun u h => h), k, e, rfl, h⟩
theorem pure_class_of {D a : Addr} (h : spw_class_of K A D H Q) : t_class_of K A D a { nx := fun _ H' => Q .non H', rt := Q } (start N_class_of [.ref a]) H := by
  obtain ⟨e, rfl, F, q⟩ := h
  refine seqI (isE_if rfl F.kr ?_)
  by_cases h1 : e = .badrow
  · subst h1; exact q
  rw [decide_eq_false h1]
  refine iteF (seqI (isE_if rfl F.ks ?_))
  by_cases h2 : e = .badsize
  · subst h2; exact q
  rw [decide_eq_false h2]
  refine iteF (seqI (isE_if rfl F.kp ?_))
  by_cases h3 : e = .nopage
  · subst h3; exact q
  rw [decide_eq_false h3]
  refine iteF (seqI (isE_if rfl F.kn ?_))
  by_cases h4 : e = .nosector
  · subst h4; exact q
  rw [decide_eq_false h4]
  refine iteF (seqI (isE_if rfl F.kb ?_))
  by_cases h5 : e = .badcontent
  · subst h5; exact q
  rw [decide_eq_false h5]
  refine iteF (seqI (isE_if rfl F.kc ?_))
  by_cases h6 : e = .cut
  · subst h6; exact q
  rw [decide_eq_false h6]
  refine iteF ?_
  cases e <;> first | exact absurd rfl h1 | exact absurd rfl h2 | exact absurd rfl h3 | exact absurd rfl h4 | exact absurd rfl h5 | exact absurd rfl h6 | exact q
end
def N_number_of : List Str := ["text", "sign"]
def t_number_of (K : PySem.W.Frag) (A : Ad) (E : XK) : TS :=
  (tSeq (tIfS (tOr (tNot (tTest (tChain zLe zLe (tC (.int 1)) (tCB zLenS (tCons (tVar 0) tNil)) (tC (.int 12))))) (tNot (tB (tCB (rAll K) (tCons (tLc (iStr (tVar 0)) (gName 1) tYes (tOp rInS (tVar 1) (tC (.str "0123456789"))) [1]) tNil)))))
  (tRaise A.badrow E)
  tNext)
  (tSeq (tIfS (tAnd (tTest (tOp rEq (tOp rIxS (tVar 0) (tC (.int 0))) (tC (.str "0")))) (tTest (tOp rNe (tVar 0) (tC (.str "0")))))
  (tRaise A.badrow E)
  tNext)
  (tRet (tCB zIntS (tCons (tVar 0) tNil)))))

def N_words_of : List Str := ["line", "words", "word"]
def t_words_of (K : PySem.W.Frag) (A : Ad) (E : XK) : TS :=
  (tSeq (tAsg (tBM K "str" zSplit (tVar 0) (tCons (tC (.str " ")) tNil)) (gName 1))
  (tSeq (tIfS (tOr (tTest (tOp (rKdN K A.shapes) (tOp (rIxL K) (tVar 1) (tC (.int 0))) (tC (.ref A.shapes)))) (tTest (tOp rNe (tCB (zLen K) (tCons (tVar 1) tNil)) (tOp zAdd (tC (.int 1)) (tOp (rKdI K A.shapes) (tC (.ref A.shapes)) (tOp (rIxL K) (tVar 1) (tC (.int 0))))))))
  (tRaise A.badrow E)
  tNext)
  (tSeq (tIfS (tTest (tOp (rEqD K) (tVar 1) (tLst (tCons (tC (.str "power")) (tCons (tC (.str "all")) tNil)))))
  (tRet (tTup (tCons (tC (.str "power")) (tCons (tLst (tCons (tC .non) tNil)) tNil))))
  tNext)
  (tRet (tTup (tCons (tOp (rIxL K) (tVar 1) (tC (.int 0))) (tCons (tLcE K (tSl (rSlL K) (tVar 1) (tPart (tC (.int 1))) tNoPart) 2 (tCall (sp_number_of K A) [] E (tCons (tVar 2) tNil))) tNil)))))))

def N_Desk_init : List Str := ["self"]
def t_Desk_init (K : PySem.W.Frag) (A : Ad) (E : XK) : TS :=
  (tSeq (sFld K (tVar 0) (tC .non) "chip")
  (tSeq (sFld K (tVar 0) (tC .non) "disk")
  (sFld K (tVar 0) (tC (.int 0)) "many")))

def N_Desk_at_disk : List Str := ["self", "word", "numbers"]
def t_Desk_at_disk (K : PySem.W.Frag) (A : Ad) (E : XK) : TS :=
  (tSeq (tIfS (tTest (tOp zIsN (tFld K (tVar 0) "disk") (tC .non)))
  (tRaise A.nodisk E)
  tNext)
  (tSeq (tIfS (tTest (tOp rEq (tVar 1) (tC (.str "read"))))
  (tRet (tCB zStrI (tCons (tMeth A.disk "read" (sp_Disk_read K A) [] E (tFld K (tVar 0) "disk") (tCons (tOp (rIxL K) (tVar 2) (tC (.int 0))) tNil)) tNil)))
  tNext)
  (tSeq (tTryAgain K (.ref A.cut) (fun W => (tDrop (tMethS A.disk "write" (sp_Disk_write K A) (WE W) (tFld K (tVar 0) "disk") (tCons (tOp (rIxL K) (tVar 2) (tC (.int 0))) (tCons (tOp (rIxL K) (tVar 2) (tC (.int 1))) tNil))))) (sFld K (tVar 0) (tC .non) "disk") (fun cls d _ H => E cls d H))
  (tRet (tC (.str "ok"))))))

def N_Desk_at_chip : List Str := ["self", "word", "numbers", "thing"]
def t_Desk_at_chip (K : PySem.W.Frag) (A : Ad) (E : XK) : TS :=
  (tSeq (tIfS (tTest (tOp rEq (tVar 1) (tC (.str "power"))))
  (tDrop (tMeth A.chip "power" (sp_Chip_power K A) [] E0 (tFld K (tVar 0) "chip") (tCons (tOp (rIxL K) (tVar 2) (tC (.int 0))) tNil)))
  (tIfS (tTest (tOp rEq (tVar 1) (tC (.str "mount"))))
  (tSeq (sFld K (tVar 0) (tC .non) "disk")
  (sFld K (tVar 0) (tCall (sp_mounted K A) [] E (tCons (tFld K (tVar 0) "chip") (tCons (tFld K (tVar 0) "many") tNil))) "disk"))
  (tIfS (tTest (tOp rEq (tVar 1) (tC (.str "worn"))))
  (tRet (tCB zStrI (tCons (tMeth A.chip "worn" (sp_Chip_worn K A) [] E (tFld K (tVar 0) "chip") (tCons (tOp (rIxL K) (tVar 2) (tC (.int 0))) tNil)) tNil)))
  (tIfS (tTest (tOp rEq (tVar 1) (tC (.str "written"))))
  (tRet (tCB zStrI (tCons (tMeth A.chip "written" (sp_Chip_written K A) [] E0 (tFld K (tVar 0) "chip") tNil) tNil)))
  (tSeq (tAsg (tMeth A.chip "page" (sp_Chip_page K A) [] E (tFld K (tVar 0) "chip") (tCons (tOp (rIxL K) (tVar 2) (tC (.int 0))) (tCons (tOp (rIxL K) (tVar 2) (tC (.int 1))) tNil))) (gName 3))
  (tSeq (tIfS (tTest (tOp zIsN (tVar 3) (tC .non)))
  (tRet (tC (.str "erased")))
  tNext)
  (tRet (tIf (tB (tCB (rIsi K) (tCons (tVar 3) (tCons (tC (.ty "str")) tNil)))) (tVar 3) (tC (.str "whole"))))))))))
  (tRet (tC (.str "ok"))))

def N_Desk_answer : List Str := ["self", "line", "word", "numbers", "chip"]
def t_Desk_answer (K : PySem.W.Frag) (A : Ad) (E : XK) : TS :=
  (tSeq (tAsg (tCall (sp_words_of K A) [] E (tCons (tVar 1) tNil)) (gTup K 2 (gCons (gName 2) (gCons (gName 3) gNil))))
  (tSeq (tIfS (tTest (tOp rEq (tVar 2) (tC (.str "chip"))))
  (tSeq (tAsg (tMake A.chip (sp_Chip_init K A) [] E (tCons (tOp (rIxL K) (tVar 3) (tC (.int 0))) (tCons (tOp (rIxL K) (tVar 3) (tC (.int 1))) tNil))) (gName 4))
  (tSeq (sFld K (tVar 0) (tCall (sp_mounted K A) [] E (tCons (tVar 4) (tCons (tOp (rIxL K) (tVar 3) (tC (.int 2))) tNil))) "disk")
  (tSeq (sFld K (tVar 0) (tVar 4) "chip")
  (tSeq (sFld K (tVar 0) (tOp (rIxL K) (tVar 3) (tC (.int 2))) "many")
  (tRet (tC (.str "ok")))))))
  tNext)
  (tSeq (tIfS (tTest (tOp zIsN (tFld K (tVar 0) "chip") (tC .non)))
  (tRaise A.nodisk E)
  tNext)
  (tSeq (tIfS (tTest (tOp (rIn K false) (tVar 2) (tTup (tCons (tC (.str "write")) (tCons (tC (.str "read")) tNil)))))
  (tRet (tMeth A.desk "at_disk" (sp_Desk_at_disk K A) [] E (tVar 0) (tCons (tVar 2) (tCons (tVar 3) tNil))))
  tNext)
  (tRet (tMeth A.desk "at_chip" (sp_Desk_at_chip K A) [] E (tVar 0) (tCons (tVar 2) (tCons (tVar 3) tNil))))))))

def N_play : List Str := ["text", "desk", "answers", "line", "e"]
def t_play (K : PySem.W.Frag) (A : Ad) (E : XK) : TS :=
  (tSeq (tAsg (tMake A.desk (sp_Desk_init K A) [] E0 tNil) (gName 1))
  (tSeq (tAsg (tLst tNil) (gName 2))
  (tSeq (tFor (iList K (tBM K "str" zSplit (tVar 0) (tCons (tC (.str "\n")) tNil))) (gName 3)
  (tSeq (tIfS (tTest (tOp rEq (tBM K "str" zStripC (tVar 3) (tCons (tC (.str " ")) tNil)) (tC (.str ""))))
  tCont
  tNext)
  (tTryAs K (.ref A.wear) 4 (fun W => (tDrop (tBM K "list" rAppend (tVar 2) (tCons (tMethS A.desk "answer" (sp_Desk_answer K A) (WE W) (tVar 1) (tCons (tVar 3) tNil)) tNil)))) (fun a cls d => (tDrop (tBM K "list" rAppend (tVar 2) (tCons (tOp zAddS (tC (.str "refused: ")) (tWord 4 a cls d (spw_class_of K A))) tNil)))) (fun cls d _ H => E cls d H))))
  (tRet (tVar 2)))))

section
variable {K : PySem.W.Frag} {A : Ad} {vs : List V} {H H' H1 : Hp} {Q : VK} {E : XK}
theorem ifD {p : Prop} [Decidable p] {P1 P2 : Prop} (h : p) (k : P1) : if decide p = true then P1 else P2 := by rw [decide_eq_true h]; exact iteT k
theorem ifDn {p : Prop} [Decidable p] {P1 P2 : Prop} (h : ¬ p) (k : P2) : if decide p = true then P1 else P2 := by rw [decide_eq_false h]; exact iteF k
theorem ifNd {p : Prop} [Decidable p] {P1 P2 : Prop} (h : p) (k : P2) : if (!decide p) = true then P1 else P2 := by rw [decide_eq_true h]; exact iteF k
theorem ifNdn {p : Prop} [Decidable p] {P1 P2 : Prop} (h : ¬ p) (k : P1) : if (!decide p) = true then P1 else P2 := by rw [decide_eq_false h]; exact iteT k
theorem lc_str {x : Str} {k : Nat} {te : TE} {vs : List Nat} {σ : L2.St} {D : Addr} {Qd : Hp → Prop} (f : Nat → V) (hz : x.length ≤ sizeLine) (hD : H1 D = none)
    (st : ∀ (c : Nat) H, Same H1 H → ∀ R : V → Hp → Prop, R (f c) H → te ((wipe σ vs).set k (some (.str ⟨#[c]⟩))) H R)
    (hw : ∀ x, wipe ((wipe σ vs).set k (some x)) vs = wipe σ vs) (hd : ∀ H, Same H1 H → H D = some (.lst (x.cps.toList.map f)) → Qd H) :
    ∃ W : Nat → Nat → Hp → Prop, (∃ m, W 0 m (upd H1 D (.lst []))) ∧ ∀ i m H, W i m H →
      ((Its x).stop i H ∧ Qd H) ∨ ((Its x).go i H ∧ ∃ Nx : Hp → Prop, (∀ H', Nx H' → ∃ m', m' < m ∧ W (i + 1) m' H') ∧ ∀ y H', (Its x).yld i H y H' → gName k y (wipe σ vs) H' fun σ2 H2 => wipe σ2 vs = wipe σ vs ∧ tYes σ2 H2 fun b H3 =>
        if b = true then te σ2 H3 fun y H4 => ∃ acc, H4 D = some (.lst acc) ∧ acc.length < sizeLine ∧ Nx (upd H4 D (.lst (acc ++ [y]))) else Nx H3) := by
  refine ⟨fun i m H => m = x.cps.size - i ∧ i ≤ x.cps.size ∧ Same H1 H ∧ H D = some (.lst ((x.cps.toList.take i).map f)), ⟨x.cps.size, by simp, Nat.zero_le _, Same.new hD, upd_same⟩, ?_⟩
  rintro i m H ⟨rfl, hi, s, hDi⟩
  by_cases hlt : i < x.cps.size
  · refine .inr ⟨hlt, fun H => i + 1 ≤ x.cps.size ∧ Same H1 H ∧ H D = some (.lst ((x.cps.toList.take (i + 1)).map f)), fun H' p' => ⟨x.cps.size - (i + 1), by omega, rfl, p'⟩, fun y H' hy => ?_⟩
    obtain ⟨e, c, hc, ey⟩ := hy
    subst e ey
    refine ⟨hw _, yes_of (P1 := fun H3 => te _ H3 _) ?_⟩
    refine st c _ s _ ?_
    have hl : ((x.cps.toList.take i).map f).length < sizeLine := by
      rw [List.length_map, List.length_take]
      have h2 : x.cps.size ≤ sizeLine := hz
      have h3 : x.cps.toList.length = x.cps.size := rfl
      omega
    refine ⟨_, hDi, hl, hlt, fun b o e => ?_, ?_⟩
    · rw [upd_ne (ne_of_none e hD)]
      exact s _ _ e
    · have hc' : x.cps.toList[i]? = some c := by rw [Array.getElem?_toList]; exact hc
      rw [take_snoc hc', List.map_append]; exact upd_same
  · have e : i = x.cps.size := by omega
    subst e
    have e2 : x.cps.toList.take x.cps.size = x.cps.toList := List.take_length
    rw [e2] at hDi
    exact .inl ⟨Nat.le_refl _, hd H s hDi⟩
theorem all_figs (t : Str) : ((t.cps.toList.map fun c => decide (c ∈ figs.cps.toList)).all id) = figures t := by
  rw [List.all_map]; rfl
theorem str_eq_iff {a b : Str} : a = b ↔ a.cps.toList = b.cps.toList := by
  constructor
  · intro e; rw [e]
  · intro e
    cases a with | mk x => cases b with | mk y =>
    have : x = y := Array.toList_inj.mp e
    rw [this]
theorem dec_str {a b : Str} : decide (V.str a = V.str b) = decide (a = b) := by
  rw [Bool.eq_iff_iff]; simp
theorem good_iff {t : Str} {c : Nat} {r : List Nat} (e : t.cps.toList = c :: r) : decide (V.str ⟨#[c]⟩ = V.str "0") = decide (t.cps.toList.head? = ("0" : Str).cps.toList.head?) := by
  rw [dec_str, e, Bool.eq_iff_iff, decide_eq_true_iff, decide_eq_true_iff, str_eq_iff]
  have z : ("0" : Str).cps.toList = [48] := by decide +kernel
  rw [z]
  simp
theorem pure_number_of {Z : Prop} (F : Z) (h : sp_number_of K A vs H Q E) : t_number_of K A E { nx := fun _ H' => Q .non H', rt := Q } (start N_number_of vs) H := by
  obtain ⟨t, rfl, ht, hy, hn⟩ := h
  have sz : t.length ≤ sizeLine := ht
  have bad : ∀ H', goodNum t = false → Same H H' → E (.ref A.badrow) none H' := fun H' e s => hn e H' s
  refine ⟨_, rfl, t, rfl, sz, 1, (t.length : Int), rfl, rfl, _, rfl, ?_⟩
  by_cases h1 : (1 : Int) ≤ (t.length : Int)
  rotate_left
  · refine ifDn h1 ⟨_, rfl, iteT (bad H ?_ (Same.refl H))⟩
    unfold goodNum
    rw [decide_eq_false (fun z => h1 (by omega))]; rfl
  refine ifD h1 ⟨(t.length : Int), 12, rfl, rfl, ⟨_, rfl, ?_⟩⟩
  by_cases h2 : (t.length : Int) ≤ 12
  rotate_left
  · refine ifNdn h2 (iteT (bad H ?_ (Same.refl H)))
    unfold goodNum
    rw [decide_eq_false (fun z => h2 (by omega))]; rfl
  refine ifNd h2 ⟨_, rfl, t, rfl, fun D hD => ?_⟩
  refine lc_str (f := fun c => .bl (decide (c ∈ figs.cps.toList))) sz hD (fun c H2 s R r => ⟨_, rfl, c, figs, rfl, rfl, r⟩) (fun _ => rfl) fun H2 s hD2 => ?_
  refine ⟨D, t.cps.toList.map (fun c => decide (c ∈ figs.cps.toList)), rfl, SqL.of (by rw [hD2, List.map_map]; rfl), _, rfl, ?_⟩
  have hg1 : decide (1 ≤ t.length ∧ t.length ≤ 12) = true := decide_eq_true ⟨by omega, by omega⟩
  rw [all_figs]
  cases hf : figures t with
  | false =>
    refine iteT (bad H2 ?_ s)
    unfold goodNum
    rw [hf, Bool.and_false]; rfl
  | true =>
    refine iteF ?_
    obtain ⟨c, r, er⟩ : ∃ c r, t.cps.toList = c :: r := by
      cases e : t.cps.toList with
      | nil =>
        have : t.cps.toList.length = t.length := rfl
        rw [e] at this
        have : (0 : Nat) = t.length := this
        omega
      | cons c r => exact ⟨c, r, rfl⟩
    have gd : goodNum t = !(decide (t.cps.toList.head? = ("0" : Str).cps.toList.head?) && !decide (t = "0")) := by
      unfold goodNum; rw [hg1, hf]; rfl
    rw [← good_iff er] at gd
    have fin : goodNum t = true → tRet (tCB zIntS (tCons (tVar 0) tNil)) { nx := fun _ H' => Q .non H', rt := Q } (start N_number_of [.str t]) H2 := fun g => ⟨_, rfl, t, _, rfl, (hy g).1, by omega, (hy g).2 H2 s⟩
    have hat : atI t.cps.toList 0 = some c := by rw [er]; exact atI_nat (xs := c :: r) (j := 0) (v := c) rfl
    refine ⟨_, rfl, t, 0, c, rfl, rfl, sz, hat, rfl, _, rfl, ?_⟩
    by_cases hc : V.str ⟨#[c]⟩ = V.str "0"
    · rw [decide_eq_true hc] at gd
      refine ifD hc ⟨_, rfl, rfl, _, rfl, ?_⟩
      by_cases ht0 : V.str t = V.str "0"
      · refine ifNd ht0 ?_
        refine fin ?_
        rw [gd, ← dec_str, decide_eq_true ht0]; rfl
      · refine ifNdn ht0 (bad H2 ?_ s)
        rw [gd, ← dec_str, decide_eq_false ht0]; rfl
    · rw [decide_eq_false hc] at gd
      exact ifDn hc (iteF (fin gd))
end
section
variable {K : PySem.W.Frag} {A : Ad} {vs : List V} {H H' H1 : Hp} {Q : VK} {E : XK}
theorem cut1 {v : V} {xs : List V} : cutV (v :: xs) (some 1) none = xs := by
  unfold cutV
  have e1 : HT.sIx (v :: xs).length 0 (some 1) = 1 := by
    rw [show (some (1 : Int)) = some ((1 : Nat) : Int) from rfl, HT.sIx_nat]
    have : (v :: xs).length = xs.length + 1 := rfl
    omega
  rw [e1, HT.sIx_none]
  show (xs.take ((xs.length + 1) - 1)) = xs
  rw [Nat.add_sub_cancel, List.take_length]
theorem dpAll_strs : ∀ ns : List Str, DpAll K H (ns.map V.str) (ns.map PyData.str)
  | [] => .nil
  | n :: ns => .cons (.str n) (dpAll_strs ns)
theorem plainDs_strs : ∀ ns : List Str, plainDs (ns.map PyData.str) = true
  | [] => rfl
  | n :: ns => by
    show (plainD (.str n) && plainDs (ns.map PyData.str)) = true
    rw [plainDs_strs ns]; rfl
theorem map_strD_inj : ∀ {ns ms : List Str}, ns.map PyData.str = ms.map PyData.str → ns = ms
  | [], [], _ => rfl
  | [], m :: ms, h => by cases h
  | n :: ns, [], h => by cases h
  | n :: ns, m :: ms, h => by
    have h1 : PyData.str n = PyData.str m := (List.cons.inj h).1
    have h2 := map_strD_inj (List.cons.inj h).2
    injection h1 with h1
    rw [h1, h2]
theorem eqv_strs (ns ms : List Str) : PyData.eqv (.list (ns.map PyData.str)) (.list (ms.map PyData.str)) = decide (ns = ms) := by
  rw [Bool.eq_iff_iff, eqv_iff (by simp only [plainD]; exact plainDs_strs ns) (by simp only [plainD]; exact plainDs_strs ms), decide_eq_true_iff]
  refine ⟨fun h => ?_, fun h => by rw [h]⟩
  injection h with h
  exact map_strD_inj h
theorem okD_strs {ns : List Str} (h : ∀ w ∈ ns, PyData.strOk w = true) : OkD 1 (.list (ns.map PyData.str)) := OkD.list fun d hd => by
  obtain ⟨w, hw, rfl⟩ := List.mem_map.mp hd
  exact OkD.str (h w hw)
def numG : V → V
  | .str t => .int (numAt t)
  | _ => .non
theorem numG_map {ws : List Str} : (ws.map V.str).map numG = ((ws.map fun w => some (numAt w)).map leftV) := by
  rw [List.map_map, List.map_map]; rfl
theorem pure_words_of (F : FacQ K A) (h : sp_words_of K A vs H Q E) : t_words_of K A E { nx := fun _ H' => Q .non H', rt := Q } (start N_words_of vs) H := by
  obtain ⟨l, rfl, L, hbad, hgood⟩ := h
  have sz : l.length + 2 ≤ sizeLine := Nat.le_trans (Nat.add_le_add_right L.len 2) (by decide)
  refine ⟨_, rfl, rfl, l, " ", rfl, rfl, rfl, sz, fun wp hwp => ?_⟩
  obtain ⟨w0, ws, ew⟩ : ∃ w0 ws, rowWords l = w0 :: ws := by
    cases e : rowWords l with
    | nil => exact absurd e L.ne
    | cons a b => exact ⟨a, b, rfl⟩
  have ew' : Txt.split l " " = w0 :: ws := ew
  rw [ew']
  have s1 : Same H (upd H wp (.lst ((w0 :: ws).map V.str))) := Same.new hwp
  have hw : upd H wp (.lst ((w0 :: ws).map V.str)) wp = some (.lst ((w0 :: ws).map V.str)) := upd_same
  generalize upd H wp (.lst ((w0 :: ws).map V.str)) = H1 at s1 hw
  have hf := L.first
  have hnum := L.num
  have hwl := L.wl
  have hfew := L.few
  rw [ew] at hf hnum hwl hfew
  have hf : w0 ∈ firsts := hf
  have hnum : ∀ w ∈ ws, goodNum w = true → PySem.intText? w = some (numAt w) := hnum
  obtain ⟨r, er, er1, er2⟩ := F.sh w0 hf
  have ep : parse l = match shape w0 with
      | none => none
      | some k => if (w0 :: ws).length ≠ 1 + k then none else if w0 :: ws = (["power", "all"] : List Str) then some ("power", [none]) else
        if ws.all goodNum = true then some (w0, ws.map fun w => some (numAt w)) else none := by
    unfold parse
    rw [ew]; rfl
  refine ⟨_, rfl, wp, _, 0, .str w0, rfl, rfl, SqL.of hw, at_of (j := 0) rfl rfl, w0, r, rfl, rfl, er, _, rfl, ?_⟩
  cases hs : shape w0 with
  | none =>
    rw [hs] at er1 ep
    rw [er1]
    refine iteT ?_
    refine iteT ?_
    exact hbad ep H1 s1
  | some k =>
    obtain ⟨u, eu, ru⟩ := er2 k hs
    subst eu
    rw [hs] at ep
    refine iteF ⟨_, rfl, wp, _, rfl, .inl (SqL.of hw), _, rfl, wp, _, 0, .str w0, rfl, rfl, SqL.of hw, at_of (j := 0) rfl rfl, w0, u, .int k, rfl, rfl, er, ru, 1, k, rfl, rfl, rfl, _, rfl, ?_⟩
    have hL : (((w0 :: ws).map V.str).length : Int) = ((w0 :: ws).length : Int) := by rw [List.length_map]
    rw [hL]
    by_cases hk : (w0 :: ws).length = 1 + k
    rotate_left
    · refine ifNdn (fun z => ?_) ?_
      · injection z with z
        omega
      · refine hbad ?_ H1 s1
        rw [ep]
        exact if_pos hk
    refine ifNd (congrArg V.int (by omega)) ?_
    have ep := ep.trans (if_neg (fun z => z hk))
    refine ⟨_, rfl, (by show 2 ≤ sizeLine; decide), fun p2 hp2 => ?_⟩
    have s2 : Same H1 (upd H1 p2 (.lst [.str "power", .str "all"])) := Same.new hp2
    have hw2 := s2 _ _ hw
    have hp2' : upd H1 p2 (.lst [.str "power", .str "all"]) p2 = some (.lst ((["power", "all"] : List Str).map V.str)) := upd_same
    generalize upd H1 p2 (.lst [.str "power", .str "all"]) = H2 at s2 hw2 hp2'
    refine ⟨.list ((w0 :: ws).map PyData.str), .list ((["power", "all"] : List Str).map PyData.str), .lst (SqL.of hw2) (dpAll_strs _), .lst (SqL.of hp2') (dpAll_strs _), (okD_strs fun w hw => (hwl w hw).1).sh, (okD_strs (by decide +kernel)).sh, _, rfl, ?_⟩
    rw [eqv_strs]
    have s12 : Same H H2 := s1.trans s2
    by_cases hpa : w0 :: ws = (["power", "all"] : List Str)
    · refine ifD hpa ⟨(by show 1 ≤ sizeLine; decide), fun lp hlp => ⟨(by show 2 ≤ sizeLine; decide), fun tp htp => ?_⟩⟩
      have s3 : Same H2 (upd H2 lp (.lst [.non])) := Same.new hlp
      have s4 := Same.new (o := .tup [.str "power", .ref lp]) htp
      exact hgood _ _ (ep.trans (if_pos hpa)) tp lp _ ((s12.trans s3).trans s4) (s12.free hlp) upd_same (s4 _ _ upd_same)
    · have ep := ep.trans (if_neg hpa)
      refine ifDn hpa ⟨_, rfl, wp, _, 0, .str w0, rfl, rfl, SqL.of hw2, at_of (j := 0) rfl rfl, ?_⟩
      refine ⟨_, rfl, 1, rfl, wp, _, rfl, SqL.of hw2, fun q hq => ?_⟩
      rw [show ((w0 :: ws).map V.str) = V.str w0 :: ws.map V.str from rfl, cut1]
      have s3 : Same H2 (upd H2 q (.lst (ws.map V.str))) := Same.new hq
      have hq' : upd H2 q (.lst (ws.map V.str)) q = some (.lst (ws.map V.str)) := upd_same
      generalize upd H2 q (.lst (ws.map V.str)) = H3 at s3 hq'
      have s13 := s12.trans s3
      have hlen : ws.length ≤ 1000 := by
        have : (w0 :: ws).length = ws.length + 1 := rfl
        omega
      refine ⟨q, ws.map V.str, numG, fun v => ∀ t, v = V.str t → goodNum t = true, rfl, SqL.of hq', ?_, fun x hx H4 R s4 r => ?_, fun D H4 hok nD s4 hD => ?_⟩
      · rw [List.length_map]; exact Nat.lt_of_le_of_lt hlen (by decide)
      · obtain ⟨t, ht, rfl⟩ := List.mem_map.mp hx
        refine ⟨_, rfl, t, rfl, ?_, fun g => ⟨hnum t ht g, fun H5 s5 => r (fun t' e => by injection e with e; rw [← e]; exact g) H5 s5⟩, fun g H5 s5 => ?_⟩
        · exact (hwl t (List.mem_cons_of_mem _ ht)).2
        · refine hbad ?_ H5 ((s13.trans s4).trans s5)
          rw [ep]
          refine if_neg fun z => ?_
          rw [List.all_eq_true.mp z t ht] at g
          cases g
      · refine ⟨(by show 2 ≤ sizeLine; decide), fun tp htp => ?_⟩
        have s5 := Same.new (o := .tup [.str w0, .ref D]) htp
        have all : ws.all goodNum = true := List.all_eq_true.mpr fun w hw => hok _ (List.mem_map_of_mem hw) w rfl
        refine hgood _ _ (ep.trans (if_pos all)) tp D _ ((s13.trans s4).trans s5) (s13.free nD) upd_same (s5 _ _ ?_)
        rw [← numG_map]; exact hD
end


section
variable {K : PySem.W.Frag} {A : Ad} {vs : List V} {H H' H1 : Hp} {Q : VK} {E : XK}
abbrev d1F : List (Str × V) := [("chip", V.non)]
abbrev d2F : List (Str × V) := [("chip", V.non), ("disk", V.non)]
theorem putN0 : putF "chip" V.non [] = d1F := rfl
theorem putN1 : putF "disk" V.non d1F = d2F := by simp [putF, d1F, d2F, Ne.symm ks1]
theorem putN2 : putF "many" (V.int 0) d2F = deskF .non .non 0 := by simp [putF, d2F, deskF, Ne.symm ks2, Ne.symm ks3]
theorem pure_Desk_init (F : FacQ K A) (h : sp_Desk_init K A vs H Q E) : t_Desk_init K A E { nx := fun _ H' => Q .non H', rt := Q } (start N_Desk_init vs) H := by
  obtain ⟨q, dx, rfl, hq, k⟩ := h
  refine ⟨_, rfl, q, A.desk, dx, _, rfl, hq, F.cl_Desk, F.q_chip, (by decide), ?_⟩
  refine ⟨_, rfl, q, A.desk, dx, _, rfl, upd_same, F.cl_Desk, F.q_disk, (by decide), ?_⟩
  rw [putN0, putN1]
  refine ⟨_, rfl, q, A.desk, dx, _, rfl, upd_same, F.cl_Desk, F.q_many, (by decide), ?_⟩
  rw [putN2]
  refine k _ upd_same ?_
  have f1 : Fr (fun y => y = q) H (upd H q (.ins A.desk dx d1F)) := Fr.put hq rfl (by intro xs z; cases z)
  have f2 := Fr.put (F := fun y => y = q) (o := .ins A.desk dx d2F) (upd_same (H := H) (a := q) (o := .ins A.desk dx d1F)) rfl (by intro xs z; cases z)
  have f3 := Fr.put (F := fun y => y = q) (o := .ins A.desk dx (deskF .non .non 0)) (upd_same (H := (upd H q (.ins A.desk dx d1F))) (a := q) (o := .ins A.desk dx d2F)) rfl (by intro xs z; cases z)
  exact (f1.trans f2 fun _ z => .inl z).trans f3 fun _ z => .inl z
theorem ChgD.k {a : KA} {st st' : DS} {d' : DD} {m : Int} (h : DeskAt A H a (.disk st m)) (g : ChgD A H a.d H' d' st') : ChgK A H a (.disk st m) H' ⟨a.q, a.dx, a.cd, d'⟩ (.disk st' m) where
  at_ := ⟨by
    show H' a.q = some (.ins A.desk a.dx (deskF (.ref d'.chip.p) (.ref d'.q) m))
    rw [g.p, g.q]; exact g.fr.keep _ _ h.1 (desk_apartD h.1 h.2), g.at_⟩
  q := rfl
  sub := fun b hb => by
    rcases hb with z | z
    · exact .inl (.inl z)
    · exact (g.sub b z).imp .inr fun q => q
  fr := g.fr.mono fun b hb => .inl (.inr hb)
theorem ChgD.kc {a : KA} {st st' : DS} {d' : DD} {m : Int} (h : DeskAt A H a (.disk st m)) (g : ChgD A H a.d H' d' st') : ChgK A H a (.disk st m) (upd H' a.q (.ins A.desk a.dx (deskF (.ref a.d.chip.p) .non m))) ⟨a.q, a.dx, d'.chip, a.d⟩ (.chip st'.x m) where
  at_ := ⟨by
    show upd H' a.q _ a.q = some (.ins A.desk a.dx (deskF (.ref d'.chip.p) .non m))
    rw [g.p]; exact upd_same, put_chip (g.fr.keep _ _ h.1 (desk_apartD h.1 h.2)) g.at_.chip⟩
  q := rfl
  sub := fun b hb => by
    rcases hb with z | z
    · exact .inl (.inl z)
    · exact (g.sub b (.inr (.inr z))).imp .inr fun q => q
  fr := (g.fr.mono fun b hb => .inl (.inr hb)).trans (Fr.put (F := fun b => b = a.q) (g.fr.keep _ _ h.1 (desk_apartD h.1 h.2)) rfl (by intro xs z; cases z)) fun b z => .inl (.inl z)
theorem str_no {a b : Str} (h : a ≠ b) : V.str a ≠ V.str b := fun z => by injection z with z; exact h z
theorem ref_no {a : Addr} : V.ref a ≠ V.non := fun z => (nomatch z)
theorem pure_Desk_at_disk (F : FacQ K A) (h : sp_Desk_at_disk K A vs H Q E) : t_Desk_at_disk K A E { nx := fun _ H' => Q .non H', rt := Q } (start N_Desk_at_disk vs) H := by
  obtain ⟨a, ks, w, ns, lp, ks', r, rfl, hno, hw, hd, hlp, hst, k⟩ := h
  have e1 : ("chip" : Str) ≠ "write" := by decide +kernel
  have e2 : ("chip" : Str) ≠ "read" := by decide +kernel
  have e3 : ("write" : Str) ≠ "read" := by decide +kernel
  cases hst with
  | size _ => exact absurd hw (by decide +kernel)
  | chip _ _ => exact absurd hw (by decide +kernel)
  | power _ => exact absurd hw (by decide +kernel)
  | mount _ _ _ _ => exact absurd hw (by decide +kernel)
  | worn _ _ => exact absurd hw (by decide +kernel)
  | page _ _ => exact absurd hw (by decide +kernel)
  | wornOk _ _ => exact absurd hw (by decide +kernel)
  | written _ _ => exact absurd hw (by decide +kernel)
  | mountC _ _ _ _ => exact absurd hw (by decide +kernel)
  | none _ => exact absurd rfl hno
  | nodisk _ =>
    refine ⟨_, rfl, a.q, A.desk, a.dx, _, .non, rfl, hd.1, F.cl_Desk, F.q_disk, deskF_disk, rfl, _, rfl, ifYes rfl ?_⟩
    exact k a H (ChgK.same hd (Same.refl H))
  | read hs hz =>
    refine ⟨_, rfl, a.q, A.desk, a.dx, _, .ref a.d.q, rfl, hd.1, F.cl_Desk, F.q_disk, deskF_disk, rfl, _, rfl, ifNo ref_no ?_⟩
    refine ⟨_, rfl, rfl, _, rfl, ifYes rfl ?_⟩
    refine ⟨_, rfl, a.q, A.desk, a.dx, _, .ref a.d.q, rfl, hd.1, F.cl_Desk, F.q_disk, deskF_disk, a.d.q, a.d.qx, _, rfl, hd.2.ob, no8, _, rfl, lp, _, 0, _, rfl, rfl, SqL.of hlp, at_of (j := 0) rfl rfl, a.d, _, _, rfl, hd.2, fun _ => ?_, fun z => absurd hs z⟩
    exact ⟨_, rfl, hz, k a H (ChgK.same hd (Same.refl H))⟩
  | readNo hs =>
    refine ⟨_, rfl, a.q, A.desk, a.dx, _, .ref a.d.q, rfl, hd.1, F.cl_Desk, F.q_disk, deskF_disk, rfl, _, rfl, ifNo ref_no ?_⟩
    refine ⟨_, rfl, rfl, _, rfl, ifYes rfl ?_⟩
    refine ⟨_, rfl, a.q, A.desk, a.dx, _, .ref a.d.q, rfl, hd.1, F.cl_Desk, F.q_disk, deskF_disk, a.d.q, a.d.qx, _, rfl, hd.2.ob, no8, _, rfl, lp, _, 0, _, rfl, rfl, SqL.of hlp, at_of (j := 0) rfl rfl, a.d, _, _, rfl, hd.2, fun z => absurd z hs, fun _ => ?_⟩
    exact k a H (ChgK.same hd (Same.refl H))
  | writeNo hs =>
    refine ⟨_, rfl, a.q, A.desk, a.dx, _, .ref a.d.q, rfl, hd.1, F.cl_Desk, F.q_disk, deskF_disk, rfl, _, rfl, ifNo ref_no ?_⟩
    refine ⟨_, rfl, rfl, _, rfl, ifNo (str_no e3) ?_⟩
    refine ⟨_, rfl, a.q, A.desk, a.dx, _, .ref a.d.q, rfl, hd.1, F.cl_Desk, F.q_disk, deskF_disk, a.d.q, a.d.qx, _, rfl, hd.2.ob, no8, _, rfl, lp, _, 0, _, rfl, rfl, SqL.of hlp, at_of (j := 0) rfl rfl, _, rfl, lp, _, 1, _, rfl, rfl, SqL.of hlp, at_of (j := 1) rfl rfl, a.d, _, _, _, rfl, hd.2, fun _ => ?_, fun z => absurd z hs, fun z => absurd z hs⟩
    exact ⟨false, F.ex_ns, fun z => (nomatch z), fun _ => k a H (ChgK.same hd (Same.refl H))⟩
  | write hs hc wok e =>
    refine ⟨_, rfl, a.q, A.desk, a.dx, _, .ref a.d.q, rfl, hd.1, F.cl_Desk, F.q_disk, deskF_disk, rfl, _, rfl, ifNo ref_no ?_⟩
    refine ⟨_, rfl, rfl, _, rfl, ifNo (str_no e3) ?_⟩
    refine ⟨_, rfl, a.q, A.desk, a.dx, _, .ref a.d.q, rfl, hd.1, F.cl_Desk, F.q_disk, deskF_disk, a.d.q, a.d.qx, _, rfl, hd.2.ob, no8, _, rfl, lp, _, 0, _, rfl, rfl, SqL.of hlp, at_of (j := 0) rfl rfl, _, rfl, lp, _, 1, _, rfl, rfl, SqL.of hlp, at_of (j := 1) rfl rfl, a.d, _, _, _, rfl, hd.2, fun z => absurd hs z, fun _ z => absurd hc z, fun _ _ => ⟨wok, fun d' H' g => ?_⟩⟩
    unfold okE
    rw [if_pos e]
    exact k _ H' (g.k hd)
  | cut hs hc wok e =>
    refine ⟨_, rfl, a.q, A.desk, a.dx, _, .ref a.d.q, rfl, hd.1, F.cl_Desk, F.q_disk, deskF_disk, rfl, _, rfl, ifNo ref_no ?_⟩
    refine ⟨_, rfl, rfl, _, rfl, ifNo (str_no e3) ?_⟩
    refine ⟨_, rfl, a.q, A.desk, a.dx, _, .ref a.d.q, rfl, hd.1, F.cl_Desk, F.q_disk, deskF_disk, a.d.q, a.d.qx, _, rfl, hd.2.ob, no8, _, rfl, lp, _, 0, _, rfl, rfl, SqL.of hlp, at_of (j := 0) rfl rfl, _, rfl, lp, _, 1, _, rfl, rfl, SqL.of hlp, at_of (j := 1) rfl rfl, a.d, _, _, _, rfl, hd.2, fun z => absurd hs z, fun _ z => absurd hc z, fun _ _ => ⟨wok, fun d' H' g => ?_⟩⟩
    unfold okE
    rw [if_neg (by rw [e]; exact Bool.false_ne_true)]
    refine ⟨true, F.ex_cut, fun _ => ?_, fun z => (nomatch z)⟩
    refine ⟨_, rfl, a.q, A.desk, a.dx, _, rfl, g.fr.keep _ _ hd.1 (desk_apartD hd.1 hd.2), F.cl_Desk, F.q_disk, deskF_len, ?_⟩
    rw [deskF_pdisk]
    exact k _ _ (g.kc hd)
end

section
variable {K : PySem.W.Frag} {A : Ad} {vs : List V} {H H' H1 : Hp} {Q : VK} {E : XK}
theorem ChgC.k {a : KA} {x x' : DC} {d' : CD} {m : Int} (h : DeskAt A H a (.chip x m)) (g : ChgC A H a.cd H' d' x') : ChgK A H a (.chip x m) H' ⟨a.q, a.dx, d', a.d⟩ (.chip x' m) where
  at_ := ⟨by
    show H' a.q = some (.ins A.desk a.dx (deskF (.ref d'.p) .non m))
    rw [g.p]; exact g.fr.keep _ _ h.1 (desk_apartC h.1 h.2), g.at_⟩
  q := rfl
  sub := fun b hb => by
    rcases hb with z | z
    · exact .inl (.inl z)
    · exact (g.sub b z).imp .inr fun q => q
  fr := g.fr.mono fun b hb => .inl (.inr hb)
theorem mount_k {a : KA} {st st' : DS} {d' : DD} {m : Int} (h : DeskAt A H a (.disk st m)) (e : H1 = upd H a.q (.ins A.desk a.dx (deskF (.ref a.d.chip.p) .non m))) (M : Mounted A H1 a.d.chip H' d' st') :
    ChipD A H1 a.d.chip st.x ∧ H1 a.q = some (.ins A.desk a.dx (deskF (.ref a.d.chip.p) .non m)) ∧ H' a.q = some (.ins A.desk a.dx (deskF (.ref a.d.chip.p) .non m)) ∧
      ChgK A H a (.disk st m) (upd H' a.q (.ins A.desk a.dx (deskF (.ref a.d.chip.p) (.ref d'.q) m))) ⟨a.q, a.dx, a.cd, d'⟩ (.disk st' m) := by
  have hc1 : ChipD A H1 a.d.chip st.x := by rw [e]; exact put_chip h.1 h.2.chip
  have hq1 : H1 a.q = some (.ins A.desk a.dx (deskF (.ref a.d.chip.p) .non m)) := by rw [e]; exact upd_same
  have hq' := M.fr.keep _ _ hq1 (desk_apartC hq1 hc1)
  have f1 : Fr (fun b => b = a.q) H H1 := by rw [e]; exact Fr.put h.1 rfl (by intro xs z; cases z)
  have f3 : Fr (fun b => b = a.q) H' (upd H' a.q (.ins A.desk a.dx (deskF (.ref a.d.chip.p) (.ref d'.q) m))) := Fr.put hq' rfl (by intro xs z; cases z)
  refine ⟨hc1, hq1, hq', ⟨⟨?_, put_disk hq' M.at_⟩, rfl, fun b hb => ?_, ?_⟩⟩
  · show upd H' a.q _ a.q = some (.ins A.desk a.dx (deskF (.ref d'.chip.p) (.ref d'.q) m))
    rw [M.p]; exact upd_same
  · rcases hb with z | z | z | z
    · exact .inl (.inl z)
    · exact .inr (f1.live _ (by rw [z]; exact M.new.1))
    · exact .inr (f1.live _ (by rw [z]; exact M.new.2))
    · rcases M.csub b z with y | y
      · exact .inl (.inr (.inr (.inr y)))
      · exact .inr (f1.live _ y)
  · refine Fr.trans (Fr.trans (f1.mono fun b z => .inl (.inl z)) (M.fr.mono fun b z => .inl (show (fun b => kfp a (.disk st m) b) b from .inr (.inr (.inr z)))) fun b z => .inl z) (f3.mono fun b z => .inl (show (fun b => kfp a (.disk st m) b) b from .inl z)) fun b z => .inl z
theorem not_worn {Q : VK} {E : XK} {cd : CD} {x : DC} {b : Int} (h : ChipD A H cd x) (hb : ¬ (0 ≤ b ∧ b < x.bs.length)) (k : E (.ref A.nopage) none H) : sp_Chip_worn K A [.ref cd.p, .int b] H Q E := by
  obtain ⟨rows, hc, R⟩ := h.ex
  have n : ¬ inB (csOf rows x) b := fun z => hb ⟨z.1, by rw [R.len]; exact z.2⟩
  exact ⟨cd, _, b, rfl, hc, fun z => absurd z n, fun _ => k⟩
theorem not_page {Q : VK} {E : XK} {cd : CD} {x : DC} {b p : Int} (h : ChipD A H cd x) (hb : ¬ ((0 ≤ b ∧ b < x.bs.length) ∧ 0 ≤ p ∧ p < x.m)) (k : E (.ref A.nopage) none H) : sp_Chip_page K A [.ref cd.p, .int b, .int p] H Q E := by
  obtain ⟨rows, hc, R⟩ := h.ex
  have n : ¬ inP (csOf rows x) b p := fun z => hb ⟨⟨z.1.1, by rw [R.len]; exact z.1.2⟩, z.2⟩
  exact ⟨cd, _, b, p, rfl, hc, fun z => absurd z n, fun _ => k⟩
theorem the_worn {Q : VK} {E : XK} {cd : CD} {x : DC} {b : Int} (h : ChipD A H cd x) (hb : 0 ≤ b ∧ b < x.bs.length) (k : Q (.int (x.wears.getD b.toNat 0)) H) : sp_Chip_worn K A [.ref cd.p, .int b] H Q E := by
  obtain ⟨rows, hc, R⟩ := h.ex
  have n : inB (csOf rows x) b := ⟨hb.1, by rw [R.len] at hb; exact hb.2⟩
  exact ⟨cd, _, b, rfl, hc, fun _ => k, fun z => absurd n z⟩
theorem the_written {Q : VK} {E : XK} {cd : CD} {x : DC} (h : ChipD A H cd x) (k : Q (.int x.many) H) : sp_Chip_written K A [.ref cd.p] H Q E := by
  obtain ⟨rows, hc, R⟩ := h.ex
  exact ⟨cd, _, rfl, hc, k⟩
theorem mount_c {a : KA} {x : DC} {st' : DS} {d' : DD} {m : Int} (h : DeskAt A H a (.chip x m)) (e : H1 = upd H a.q (.ins A.desk a.dx (deskF (.ref a.cd.p) .non m))) (M : Mounted A H1 a.cd H' d' st') :
    H' a.q = some (.ins A.desk a.dx (deskF (.ref a.cd.p) .non m)) ∧
      ChgK A H a (.chip x m) (upd H' a.q (.ins A.desk a.dx (deskF (.ref a.cd.p) (.ref d'.q) m))) ⟨a.q, a.dx, a.cd, d'⟩ (.disk st' m) := by
  have hc1 : ChipD A H1 a.cd x := by rw [e]; exact put_chip h.1 h.2
  have hq1 : H1 a.q = some (.ins A.desk a.dx (deskF (.ref a.cd.p) .non m)) := by rw [e]; exact upd_same
  have hq' := M.fr.keep _ _ hq1 (desk_apartC hq1 hc1)
  have f1 : Fr (fun b => b = a.q) H H1 := by rw [e]; exact Fr.put h.1 rfl (by intro xs z; cases z)
  have f3 : Fr (fun b => b = a.q) H' (upd H' a.q (.ins A.desk a.dx (deskF (.ref a.cd.p) (.ref d'.q) m))) := Fr.put hq' rfl (by intro xs z; cases z)
  refine ⟨hq', ⟨⟨?_, put_disk hq' M.at_⟩, rfl, fun b hb => ?_, ?_⟩⟩
  · show upd H' a.q _ a.q = some (.ins A.desk a.dx (deskF (.ref d'.chip.p) (.ref d'.q) m))
    rw [M.p]; exact upd_same
  · rcases hb with z | z | z | z
    · exact .inl (.inl z)
    · exact .inr (f1.live _ (by rw [z]; exact M.new.1))
    · exact .inr (f1.live _ (by rw [z]; exact M.new.2))
    · rcases M.csub b z with y | y
      · exact .inl (.inr y)
      · exact .inr (f1.live _ y)
  · refine Fr.trans (Fr.trans (f1.mono fun b z => .inl (.inl z)) (M.fr.mono fun b z => .inl (show (fun b => kfp a (.chip x m) b) b from .inr z)) fun b z => .inl z) (f3.mono fun b z => .inl (show (fun b => kfp a (.chip x m) b) b from .inl z)) fun b z => .inl z
theorem chipOb {cd : CD} {x : DC} (h : ChipD A H cd x) : ∃ fs, H cd.p = some (.ins A.chip cd.dx fs) ∧ fs.lookup ("power" : Str) = none ∧ fs.lookup ("worn" : Str) = none ∧ fs.lookup ("page" : Str) = none ∧ fs.lookup ("written" : Str) = none := by
  obtain ⟨rows, hc, R⟩ := h.ex
  exact ⟨_, hc.ob, no5, no5, no5, no5⟩
theorem pure_Desk_at_chip (F : FacQ K A) (h : sp_Desk_at_chip K A vs H Q E) : t_Desk_at_chip K A E { nx := fun _ H' => Q .non H', rt := Q } (start N_Desk_at_chip vs) H := by
  obtain ⟨a, ks, w, ns, lp, ks', r, rfl, hno, w1, w2, w3, hd, hlp, hst, k⟩ := h
  have m1 : ("mount" : Str) ≠ "power" := by decide +kernel
  have o1 : ("worn" : Str) ≠ "power" := by decide +kernel
  have o2 : ("worn" : Str) ≠ "mount" := by decide +kernel
  have p1 : ("page" : Str) ≠ "power" := by decide +kernel
  have p2 : ("page" : Str) ≠ "mount" := by decide +kernel
  have p3 : ("page" : Str) ≠ "worn" := by decide +kernel
  have p4 : ("page" : Str) ≠ "written" := by decide +kernel
  have i1 : ("written" : Str) ≠ "power" := by decide +kernel
  have i2 : ("written" : Str) ≠ "mount" := by decide +kernel
  have i3 : ("written" : Str) ≠ "worn" := by decide +kernel
  cases hst with
  | size _ => exact absurd rfl w1
  | chip _ _ => exact absurd rfl w1
  | none _ => exact absurd rfl hno
  | nodisk z =>
    rcases z with z | z
    · exact absurd z w2
    · exact absurd z w3
  | read _ _ => exact absurd rfl w3
  | readNo _ => exact absurd rfl w3
  | writeNo _ => exact absurd rfl w2
  | write _ _ _ _ => exact absurd rfl w2
  | cut _ _ _ _ => exact absurd rfl w2
  | @power _ l _ =>
    refine ⟨_, rfl, rfl, _, rfl, ifYes rfl ?_⟩
    cases ks with
    | no => exact absurd rfl hno
    | chip x m =>
      obtain ⟨fs, hob, n1, _⟩ := chipOb hd.2
      refine ⟨_, rfl, a.q, A.desk, a.dx, _, .ref a.cd.p, rfl, hd.1, F.cl_Desk, F.q_chip, deskF_chip, a.cd.p, a.cd.dx, _, rfl, hob, n1, _, rfl, lp, _, 0, leftV l, rfl, rfl, SqL.of hlp, at_of (j := 0) rfl rfl, ?_⟩
      refine nil1 ?_
      refine use_powerC rfl hd.2 fun H' g => ?_
      exact k _ H' (g.k hd)
    | disk st m =>
      obtain ⟨fs, hob, n1, _⟩ := chipOb hd.2.chip
      refine ⟨_, rfl, a.q, A.desk, a.dx, _, .ref a.d.chip.p, rfl, hd.1, F.cl_Desk, F.q_chip, deskF_chip, a.d.chip.p, a.d.chip.dx, _, rfl, hob, n1, _, rfl, lp, _, 0, leftV l, rfl, rfl, SqL.of hlp, at_of (j := 0) rfl rfl, ?_⟩
      refine nil1 ?_
      refine use_power rfl rfl hd.2 fun H' g => ?_
      exact k _ H' (g.k hd)
  | @mount st m hm ht hft e =>
    refine ⟨_, rfl, rfl, _, rfl, ifNo (str_no m1) ⟨_, rfl, rfl, _, rfl, ifYes rfl ?_⟩⟩
    refine ⟨_, rfl, a.q, A.desk, a.dx, _, rfl, hd.1, F.cl_Desk, F.q_disk, deskF_len, ?_⟩
    rw [deskF_pdisk]
    have hc1 : ChipD A (upd H a.q (.ins A.desk a.dx (deskF (.ref a.d.chip.p) .non m))) a.d.chip st.x := put_chip hd.1 hd.2.chip
    refine ⟨_, rfl, a.q, A.desk, a.dx, _, .ref a.d.chip.p, rfl, upd_same, F.cl_Desk, F.q_chip, deskF_chip, _, rfl, a.q, A.desk, a.dx, _, .int m, rfl, upd_same, F.cl_Desk, F.q_many, deskF_many, a.d.chip, st.x, m, rfl, hc1, fun z => absurd hm z, fun _ => ⟨ht, hft, fun d' H' M => ?_⟩⟩
    obtain ⟨_, _, hq', g⟩ := mount_k hd rfl M
    unfold okE
    rw [if_pos e]
    refine ⟨_, rfl, a.q, A.desk, a.dx, _, rfl, hq', F.cl_Desk, F.q_disk, deskF_len, ?_⟩
    rw [deskF_pdisk]
    exact k _ _ g
  | @mountC x m hm ht hft e =>
    refine ⟨_, rfl, rfl, _, rfl, ifNo (str_no m1) ⟨_, rfl, rfl, _, rfl, ifYes rfl ?_⟩⟩
    refine ⟨_, rfl, a.q, A.desk, a.dx, _, rfl, hd.1, F.cl_Desk, F.q_disk, deskF_len, ?_⟩
    rw [deskF_pdisk]
    have hc1 : ChipD A (upd H a.q (.ins A.desk a.dx (deskF (.ref a.cd.p) .non m))) a.cd x := put_chip hd.1 hd.2
    refine ⟨_, rfl, a.q, A.desk, a.dx, _, .ref a.cd.p, rfl, upd_same, F.cl_Desk, F.q_chip, deskF_chip, _, rfl, a.q, A.desk, a.dx, _, .int m, rfl, upd_same, F.cl_Desk, F.q_many, deskF_many, a.cd, x, m, rfl, hc1, fun z => absurd hm z, fun _ => ⟨ht, hft, fun d' H' M => ?_⟩⟩
    obtain ⟨hq', g⟩ := mount_c hd rfl M
    unfold okE
    rw [if_pos e]
    refine ⟨_, rfl, a.q, A.desk, a.dx, _, rfl, hq', F.cl_Desk, F.q_disk, deskF_len, ?_⟩
    rw [deskF_pdisk]
    exact k _ _ g
  | @wornOk _ b hb hz =>
    refine ⟨_, rfl, rfl, _, rfl, ifNo (str_no o1) ⟨_, rfl, rfl, _, rfl, ifNo (str_no o2) ⟨_, rfl, rfl, _, rfl, ifYes rfl ?_⟩⟩⟩
    have kk := k a H (ChgK.same hd (Same.refl H))
    cases ks with
    | no => exact absurd rfl hno
    | chip x m =>
      obtain ⟨fs, hob, _, n1, _⟩ := chipOb hd.2
      refine ⟨_, rfl, a.q, A.desk, a.dx, _, .ref a.cd.p, rfl, hd.1, F.cl_Desk, F.q_chip, deskF_chip, a.cd.p, a.cd.dx, _, rfl, hob, n1, _, rfl, lp, _, 0, .int b, rfl, rfl, SqL.of hlp, at_of (j := 0) rfl rfl, ?_⟩
      refine nil1 ?_
      refine the_worn hd.2 hb ?_
      exact ⟨_, rfl, hz, kk⟩
    | disk st m =>
      obtain ⟨fs, hob, _, n1, _⟩ := chipOb hd.2.chip
      refine ⟨_, rfl, a.q, A.desk, a.dx, _, .ref a.d.chip.p, rfl, hd.1, F.cl_Desk, F.q_chip, deskF_chip, a.d.chip.p, a.d.chip.dx, _, rfl, hob, n1, _, rfl, lp, _, 0, .int b, rfl, rfl, SqL.of hlp, at_of (j := 0) rfl rfl, ?_⟩
      refine nil1 ?_
      refine the_worn hd.2.chip hb ?_
      exact ⟨_, rfl, hz, kk⟩
  | written _ hz =>
    refine ⟨_, rfl, rfl, _, rfl, ifNo (str_no i1) ⟨_, rfl, rfl, _, rfl, ifNo (str_no i2) ⟨_, rfl, rfl, _, rfl, ifNo (str_no i3) ⟨_, rfl, rfl, _, rfl, ifYes rfl ?_⟩⟩⟩⟩
    have kk := k a H (ChgK.same hd (Same.refl H))
    cases ks with
    | no => exact absurd rfl hno
    | chip x m =>
      obtain ⟨fs, hob, _, _, _, n1⟩ := chipOb hd.2
      refine ⟨_, rfl, a.q, A.desk, a.dx, _, .ref a.cd.p, rfl, hd.1, F.cl_Desk, F.q_chip, deskF_chip, a.cd.p, a.cd.dx, _, rfl, hob, n1, ?_⟩
      refine nil1 ?_
      refine the_written hd.2 ?_
      exact ⟨_, rfl, hz, kk⟩
    | disk st m =>
      obtain ⟨fs, hob, _, _, _, n1⟩ := chipOb hd.2.chip
      refine ⟨_, rfl, a.q, A.desk, a.dx, _, .ref a.d.chip.p, rfl, hd.1, F.cl_Desk, F.q_chip, deskF_chip, a.d.chip.p, a.d.chip.dx, _, rfl, hob, n1, ?_⟩
      refine nil1 ?_
      refine the_written hd.2.chip ?_
      exact ⟨_, rfl, hz, kk⟩
  | @worn _ b _ hb =>
    refine ⟨_, rfl, rfl, _, rfl, ifNo (str_no o1) ⟨_, rfl, rfl, _, rfl, ifNo (str_no o2) ⟨_, rfl, rfl, _, rfl, ifYes rfl ?_⟩⟩⟩
    have kk := k a H (ChgK.same hd (Same.refl H))
    cases ks with
    | no => exact absurd rfl hno
    | chip x m =>
      obtain ⟨fs, hob, _, n1, _⟩ := chipOb hd.2
      refine ⟨_, rfl, a.q, A.desk, a.dx, _, .ref a.cd.p, rfl, hd.1, F.cl_Desk, F.q_chip, deskF_chip, a.cd.p, a.cd.dx, _, rfl, hob, n1, _, rfl, lp, _, 0, .int b, rfl, rfl, SqL.of hlp, at_of (j := 0) rfl rfl, ?_⟩
      refine nil1 ?_
      exact not_worn hd.2 hb kk
    | disk st m =>
      obtain ⟨fs, hob, _, n1, _⟩ := chipOb hd.2.chip
      refine ⟨_, rfl, a.q, A.desk, a.dx, _, .ref a.d.chip.p, rfl, hd.1, F.cl_Desk, F.q_chip, deskF_chip, a.d.chip.p, a.d.chip.dx, _, rfl, hob, n1, _, rfl, lp, _, 0, .int b, rfl, rfl, SqL.of hlp, at_of (j := 0) rfl rfl, ?_⟩
      refine nil1 ?_
      exact not_worn hd.2.chip hb kk
  | @page _ b p _ hb =>
    refine ⟨_, rfl, rfl, _, rfl, ifNo (str_no p1) ⟨_, rfl, rfl, _, rfl, ifNo (str_no p2) ⟨_, rfl, rfl, _, rfl, ifNo (str_no p3) ⟨_, rfl, rfl, _, rfl, ifNo (str_no p4) ?_⟩⟩⟩⟩
    have kk := k a H (ChgK.same hd (Same.refl H))
    cases ks with
    | no => exact absurd rfl hno
    | chip x m =>
      obtain ⟨fs, hob, _, _, n1, _⟩ := chipOb hd.2
      refine ⟨_, rfl, a.q, A.desk, a.dx, _, .ref a.cd.p, rfl, hd.1, F.cl_Desk, F.q_chip, deskF_chip, a.cd.p, a.cd.dx, _, rfl, hob, n1, _, rfl, lp, _, 0, .int b, rfl, rfl, SqL.of hlp, at_of (j := 0) rfl rfl, _, rfl, lp, _, 1, .int p, rfl, rfl, SqL.of hlp, at_of (j := 1) rfl rfl, ?_⟩
      refine nil1 ?_
      exact not_page hd.2 hb kk
    | disk st m =>
      obtain ⟨fs, hob, _, _, n1, _⟩ := chipOb hd.2.chip
      refine ⟨_, rfl, a.q, A.desk, a.dx, _, .ref a.d.chip.p, rfl, hd.1, F.cl_Desk, F.q_chip, deskF_chip, a.d.chip.p, a.d.chip.dx, _, rfl, hob, n1, _, rfl, lp, _, 0, .int b, rfl, rfl, SqL.of hlp, at_of (j := 0) rfl rfl, _, rfl, lp, _, 1, .int p, rfl, rfl, SqL.of hlp, at_of (j := 1) rfl rfl, ?_⟩
      refine nil1 ?_
      exact not_page hd.2.chip hb kk
end

section
variable {K : PySem.W.Frag} {A : Ad} {vs : List V} {H H' H1 : Hp} {Q : VK} {E : XK}
theorem kfp_q {a : KA} : ∀ {ks : KS}, kfp a ks a.q
  | .no => rfl
  | .chip _ _ => .inl rfl
  | .disk _ _ => .inl rfl
theorem DeskAt.fresh {a : KA} {ks : KS} (h : DeskAt A H a ks) {b : Addr} (hb : H b = none) : ¬ kfp a ks b := fun z => by
  obtain ⟨o, e, _⟩ := h.solid z
  rw [hb] at e; cases e
theorem answer_size (F : FacQ K A) {a : KA} {ks : KS} {l : Str} {b p S : Int} {lp : Addr} (hd : DeskAt A H a ks) (hlp : H lp = some (.lst [.int b, .int p, .int S]))
    (bad : ¬ (sizeOk b p ∧ manyOk (DC.new b.toNat p.toNat) S)) (k : ∀ H', Same H H' → E (.ref A.badsize) none H') {T : TS} {D : Ends} :
    tSeq (tAsg (tMake A.chip (sp_Chip_init K A) [] E (tCons (tOp (rIxL K) (tVar 3) (tC (.int 0))) (tCons (tOp (rIxL K) (tVar 3) (tC (.int 1))) tNil))) (gName 4))
      (tSeq (sFld K (tVar 0) (tCall (sp_mounted K A) [] E (tCons (tVar 4) (tCons (tOp (rIxL K) (tVar 3) (tC (.int 2))) tNil))) "disk") T) D [some (.ref a.q), some (.str l), some (.str "chip"), some (.ref lp), none] H := by
  refine ⟨_, rfl, lp, _, 0, _, rfl, rfl, SqL.of hlp, at_of (j := 0) rfl rfl, _, rfl, lp, _, 1, _, rfl, rfl, SqL.of hlp, at_of (j := 1) rfl rfl, fun x dx nx ndx ne => ?_⟩
  have s0 : Same H (upd (upd H dx (.own x)) x (.ins A.chip dx [])) := (Same.new ndx).trans (Same.new (by rw [upd_ne ne.symm]; exact nx))
  refine ⟨x, dx, b, p, rfl, upd_same, fun _ => k _ s0, fun so cd H4 hcd hp sub fr => ⟨rfl, ?_⟩⟩
  have s1 : Same H H4 := fun y o e => fr.keep y o (s0 _ _ e) fun z => by rw [z, nx] at e; cases e
  obtain ⟨n, rfl⟩ := Int.eq_ofNat_of_zero_le (show 0 ≤ b from by have := so.1; omega)
  obtain ⟨m, rfl⟩ := Int.eq_ofNat_of_zero_le (show 0 ≤ p from by have := so.2.2.1; omega)
  subst hp
  refine ⟨_, rfl, _, rfl, lp, _, 2, _, rfl, rfl, SqL.of (s1 _ _ hlp), at_of (j := 2) rfl rfl, cd, DC.new n m, S, rfl, new_chip hcd, fun _ H5 s5 => k _ (s1.trans s5), fun z => absurd ⟨so, z⟩ bad⟩
theorem answer_chip (F : FacQ K A) {a : KA} {ks : KS} {l : Str} {b p S : Int} {lp : Addr} (hd : DeskAt A H a ks) (hlp : H lp = some (.lst [.int b, .int p, .int S])) (lpq : lp ≠ a.q)
    (so : sizeOk b p) (mo : manyOk (DC.new b.toNat p.toNat) S) {D : Ends} (k : ∀ a' H', ChgK A H a ks H' a' (.disk (mount (DC.new b.toNat p.toNat) S).1 S) → D.rt (.str "ok") H') :
    tSeq (tAsg (tMake A.chip (sp_Chip_init K A) [] E (tCons (tOp (rIxL K) (tVar 3) (tC (.int 0))) (tCons (tOp (rIxL K) (tVar 3) (tC (.int 1))) tNil))) (gName 4))
      (tSeq (sFld K (tVar 0) (tCall (sp_mounted K A) [] E (tCons (tVar 4) (tCons (tOp (rIxL K) (tVar 3) (tC (.int 2))) tNil))) "disk")
      (tSeq (sFld K (tVar 0) (tVar 4) "chip")
      (tSeq (sFld K (tVar 0) (tOp (rIxL K) (tVar 3) (tC (.int 2))) "many")
      (tRet (tC (.str "ok")))))) D [some (.ref a.q), some (.str l), some (.str "chip"), some (.ref lp), none] H := by
  refine ⟨_, rfl, lp, _, 0, _, rfl, rfl, SqL.of hlp, at_of (j := 0) rfl rfl, _, rfl, lp, _, 1, _, rfl, rfl, SqL.of hlp, at_of (j := 1) rfl rfl, fun x dx nx ndx ne => ?_⟩
  have s0 : Same H (upd (upd H dx (.own x)) x (.ins A.chip dx [])) := (Same.new ndx).trans (Same.new (by rw [upd_ne ne.symm]; exact nx))
  refine ⟨x, dx, b, p, rfl, upd_same, fun z => absurd so z, fun _ cd H4 hcd hp sub fr => ⟨rfl, ?_⟩⟩
  have s1 : Same H H4 := fun y o e => fr.keep y o (s0 _ _ e) fun z => by rw [z, nx] at e; cases e
  obtain ⟨n, rfl⟩ := Int.eq_ofNat_of_zero_le (show 0 ≤ b from by have := so.1; omega)
  obtain ⟨m, rfl⟩ := Int.eq_ofNat_of_zero_le (show 0 ≤ p from by have := so.2.2.1; omega)
  subst hp
  rw [Int.toNat_natCast, Int.toNat_natCast] at mo k
  have S2 : S ≤ ((n : Int) - 2) * m := by
    have z := mo.2
    have z : S ≤ (((List.replicate n ([] : Blk)).length : Int) - 2) * (m : Int) := z
    rw [List.length_replicate] at z; exact z
  obtain ⟨_, t1, t2, tok, _, _, _, _⟩ := new_disk (b := n) (p := m) (S := S) (by have := so.1; omega) (by have := so.2.2.1; omega) mo.1 S2
  have cnew : ∀ y, cfp cd y → H y = none := fun y hy => by
    rcases sub y hy with z | z
    · rw [z]; exact nx
    · exact s0.free z
  have hd4 := hd.same s1
  refine ⟨_, rfl, _, rfl, lp, _, 2, _, rfl, rfl, SqL.of (s1 _ _ hlp), at_of (j := 2) rfl rfl, cd, DC.new n m, S, rfl, new_chip hcd, fun z => absurd mo z, fun _ => ⟨t1, t2, fun d H5 M => ?_⟩⟩
  unfold okE
  rw [if_pos tok]
  obtain ⟨c0, d0, m0, ho⟩ := hd4.ob
  have nq : ¬ cfp cd a.q := fun z => by
    obtain ⟨_, _, _, e⟩ := hd.ob
    rw [cnew _ z] at e; cases e
  have ho5 := M.fr.keep _ _ ho nq
  have hl5 := M.fr.keep _ _ (s1 _ _ hlp) fun z => by rw [cnew _ z] at hlp; cases hlp
  refine ⟨_, rfl, a.q, A.desk, a.dx, _, rfl, ho5, F.cl_Desk, F.q_disk, deskF_len, ?_⟩
  rw [deskF_pdisk]
  refine ⟨_, rfl, _, rfl, a.q, A.desk, a.dx, _, rfl, upd_same, F.cl_Desk, F.q_chip, deskF_len, ?_⟩
  rw [deskF_pchip]
  refine ⟨_, rfl, lp, _, 2, .int S, rfl, rfl, SqL.of (by rw [upd_ne lpq, upd_ne lpq]; exact hl5), at_of (j := 2) rfl rfl, _, rfl, a.q, A.desk, a.dx, _, rfl, upd_same, F.cl_Desk, F.q_many, deskF_len, ?_⟩
  rw [deskF_pmany]
  have D1 := put_disk (c' := c0) (d' := .ref d.q) (m' := m0) ho5 M.at_
  have D2 := put_disk (c' := .ref cd.p) (d' := .ref d.q) (m' := m0) upd_same D1
  have D3 := put_disk (c' := .ref cd.p) (d' := .ref d.q) (m' := S) upd_same D2
  have f1 : Fr (kfp a ks) H H4 := Fr.of_same s1
  have f2 : Fr (kfp a ks) H H5 := f1.trans M.fr fun y z => .inr (cnew y z)
  have g1 : Fr (fun y => y = a.q) H5 (upd H5 a.q (.ins A.desk a.dx (deskF c0 (.ref d.q) m0))) := Fr.put ho5 rfl (by intro xs z; cases z)
  have g2 : Fr (fun y => y = a.q) _ (upd (upd H5 a.q (.ins A.desk a.dx (deskF c0 (.ref d.q) m0))) a.q (.ins A.desk a.dx (deskF (.ref cd.p) (.ref d.q) m0))) := Fr.put upd_same rfl (by intro xs z; cases z)
  have g3 : Fr (fun y => y = a.q) _ (upd (upd (upd H5 a.q (.ins A.desk a.dx (deskF c0 (.ref d.q) m0))) a.q (.ins A.desk a.dx (deskF (.ref cd.p) (.ref d.q) m0))) a.q (.ins A.desk a.dx (deskF (.ref cd.p) (.ref d.q) S))) := Fr.put upd_same rfl (by intro xs z; cases z)
  have g : Fr (fun y => y = a.q) H5 _ := (g1.trans g2 fun y z => .inl z).trans g3 fun y z => .inl z
  refine k ⟨a.q, a.dx, a.cd, d⟩ _ ⟨⟨?_, D3⟩, rfl, fun y hy => ?_, f2.trans g fun y z => .inl (by rw [z]; exact kfp_q)⟩
  · show upd _ a.q _ a.q = some (.ins A.desk a.dx (deskF (.ref d.chip.p) (.ref d.q) S))
    rw [M.p]; exact upd_same
  · rcases hy with z | z | z | z
    · exact .inl (by rw [z]; exact kfp_q)
    · exact .inr (s1.free (by rw [z]; exact M.new.1))
    · exact .inr (s1.free (by rw [z]; exact M.new.2))
    · rcases M.csub y z with w | w
      · exact .inr (cnew y w)
      · exact .inr (s1.free w)
theorem pure_Desk_answer (F : FacQ K A) (h : sp_Desk_answer K A vs H Q E) : t_Desk_answer K A E { nx := fun _ H' => Q .non H', rt := Q } (start N_Desk_answer vs) H := by
  obtain ⟨a, ks, l, ks', r, rfl, hd0, L, hst0, k0⟩ := h
  refine ⟨_, rfl, l, rfl, L, fun e H1 s => ?_, fun w ns e tp lp H1 s nlp htp hlp => ⟨tp, _, rfl, SqT.of htp, rfl, _, _, rfl, _, _, rfl, rfl, ?_⟩⟩
  · rw [e] at hst0
    cases hst0
    exact k0 a H1 (ChgK.same hd0 s)
  rw [e] at hst0
  have lpq : lp ≠ a.q := fun z => by
    obtain ⟨_, _, _, e⟩ := hd0.ob
    rw [← z, nlp] at e; cases e
  have hd := hd0.same s
  have k : at_row A H1 a ks ks' r Q E := fun a' H' g => k0 a' H' ((ChgK.same hd0 s).trans g)
  clear k0 hd0
  by_cases hc : w = "chip"
  · subst hc
    refine ⟨_, rfl, rfl, _, rfl, ifYes rfl ?_⟩
    cases hst0 with
    | size bad => exact answer_size F hd hlp bad fun H' s' => k a H' (ChgK.same hd s')
    | chip so mo => exact answer_chip F hd hlp lpq so mo fun a' H' g => k a' H' g
    | none z => exact absurd rfl z
    | nodisk z => exact absurd z (by decide +kernel)
  refine ⟨_, rfl, rfl, _, rfl, ifNo (str_no hc) ?_⟩
  by_cases hno : ks = .no
  · subst hno
    refine ⟨_, rfl, a.q, A.desk, a.dx, _, .non, rfl, hd, F.cl_Desk, F.q_chip, deskF_chip, rfl, _, rfl, ifYes rfl ?_⟩
    cases hst0 with
    | size _ => exact absurd rfl hc
    | chip _ _ => exact absurd rfl hc
    | none _ => exact k a H1 (ChgK.same hd (Same.refl H1))
    | power z => exact absurd rfl z
    | worn z _ => exact absurd rfl z
    | page z _ => exact absurd rfl z
    | wornOk z _ => exact absurd z id
    | written z _ => exact absurd rfl z
  obtain ⟨c, d, m, ho, hcn⟩ : ∃ c d m, H1 a.q = some (.ins A.desk a.dx (deskF (.ref c) d m)) ∧ True := by
    cases ks with
    | no => exact absurd rfl hno
    | chip x m => exact ⟨_, _, _, hd.1, trivial⟩
    | disk st m => exact ⟨_, _, _, hd.1, trivial⟩
  refine ⟨_, rfl, a.q, A.desk, a.dx, _, .ref c, rfl, ho, F.cl_Desk, F.q_chip, deskF_chip, rfl, _, rfl, ifNo ref_no ?_⟩
  refine ⟨_, rfl, (by show 2 ≤ sizeLine; decide), fun t2 ht2 => ⟨t2, _, rfl, .inr (SqT.of upd_same), rfl, rfl, _, rfl, ?_⟩⟩
  have s2 := Same.new (o := .tup [.str "write", .str "read"]) ht2
  have hd2 := hd.same s2
  have hl2 := s2 _ _ hlp
  have ho2 := s2 _ _ ho
  have k2 : at_row A _ a ks ks' r Q E := fun a' H' g => k a' H' ((ChgK.same hd s2).trans g)
  have ein : inV (V.str w) [.str "write", .str "read"] = decide (w = "write" ∨ w = "read") := by
    unfold inV
    simp only [List.any_cons, List.any_nil, eqV, Bool.or_false]
    rw [Bool.eq_iff_iff, decide_eq_true_iff, Bool.or_eq_true, beq_iff_eq, beq_iff_eq]
    exact ⟨fun z => z.imp Eq.symm Eq.symm, fun z => z.imp Eq.symm Eq.symm⟩
  rw [if_neg Bool.false_ne_true, ein]
  have na : (deskF (.ref c) d m).lookup ("at_disk" : Str) = none := deskF_no (by decide +kernel) (by decide +kernel) (by decide +kernel)
  have nb : (deskF (.ref c) d m).lookup ("at_chip" : Str) = none := deskF_no (by decide +kernel) (by decide +kernel) (by decide +kernel)
  by_cases hw : w = "write" ∨ w = "read"
  · refine ifD hw ⟨_, rfl, a.q, a.dx, _, rfl, ho2, na, _, rfl, _, rfl, a, ks, w, ns, lp, ks', r, rfl, hno, hw, hd2, hl2, hst0, k2⟩
  · refine ifDn hw ⟨_, rfl, a.q, a.dx, _, rfl, ho2, nb, _, rfl, _, rfl, a, ks, w, ns, lp, ks', r, rfl, hno, hc, fun z => hw (.inl z), fun z => hw (.inr z), hd2, hl2, hst0, k2⟩
end

section
variable {K : PySem.W.Frag} {A : Ad} {vs : List V} {H H' H1 : Hp} {Q : VK} {E : XK}
theorem Er.name_len (e : Er) : (e.name).length ≤ 100 := by cases e <;> decide +kernel
theorem pure_play (F : FacQ K A) (h : sp_play K A vs H Q E) : t_play K A E { nx := fun _ H' => Q .non H', rt := Q } (start N_play vs) H := by
  obtain ⟨t, ls, as, ksE, rfl, ht, els, hls, hrun, k⟩ := h
  intro x dx nx ndx ne
  have s0 : Same H (upd (upd H dx (.own x)) x (.ins A.desk dx [])) := (Same.new ndx).trans (Same.new (by rw [upd_ne ne.symm]; exact nx))
  refine ⟨x, dx, rfl, upd_same, fun H1 hx fr => ⟨rfl, ?_⟩⟩
  have s1 : Same H H1 := fun y o e => fr.keep y o (s0 _ _ e) fun z => by rw [z, nx] at e; cases e
  refine ⟨(Nat.zero_le _), fun la hla => ?_⟩
  have O1 : Own H1 [rDesk A ⟨x, dx, ⟨0, 0, 0, 0, []⟩, ⟨0, 0, 0, ⟨0, 0, 0, 0, []⟩⟩⟩ .no] := Own.one (r := rDesk A _ .no) hx
  have O2 := O1.newOb (o := .lst []) (hs := Solid.lst) hla
  refine ⟨_, rfl, rfl, t, "\n", rfl, rfl, rfl, Nat.le_trans (Nat.add_le_add_right ht 2) (by decide), fun ll hll => ⟨ll, rfl, ⟨_, SqL.of upd_same⟩, ?_⟩⟩
  rw [els]
  have O3 := O2.newOb (o := .lst (ls.map V.str)) (hs := Solid.lst) hll
  have Hla : H la = none := s1.free hla
  have sF : Same H _ := (s1.trans (Same.new (o := .lst []) hla)).trans (Same.new (o := .lst (ls.map V.str)) hll)
  refine for_list (K := K) (a := ll) (xs := ls.map V.str) (fun i σ H' => ∃ v3 v4 a ks done rest, σ = [some (.str t), some (.ref x), some (.ref la), v3, v4] ∧ a.q = x ∧ Run ks (ls.drop i) ksE rest ∧ as = done ++ rest ∧ done.length ≤ i ∧ Same H H' ∧ (∀ b, kfp a ks b → H b = none) ∧
      Own H' [rOb ll (.lst (ls.map V.str)), rOb la (.lst (done.map V.str)), rDesk A a ks])
    ⟨_, _, _, .no, [], as, rfl, rfl, hrun, rfl, Nat.le_refl _, sF, (fun b z => by rw [show b = x from z]; exact nx), O3⟩ (fun i σ H' _ ⟨_, _, _, _, _, _, _, _, _, _, _, _, _, o⟩ => SqL.of (o.get 0 _ rfl)) ?_ ?_
  · rintro i y σ H2 hy ⟨v3, v4, a, ks, done, rest, rfl, hq, hr, has, hdl, sH, nk, O⟩
    obtain ⟨l, hl, rfl⟩ : ∃ l, ls[i]? = some l ∧ y = .str l := by
      rw [List.getElem?_map] at hy
      cases e : ls[i]? with
      | none => rw [e] at hy; cases hy
      | some l => rw [e] at hy; exact ⟨l, rfl, (Option.some.inj hy).symm⟩
    have hi : i < ls.length := (List.getElem?_eq_some_iff.mp hl).1
    have ed : ls.drop i = l :: ls.drop (i + 1) := by
      rw [List.drop_eq_getElem_cons hi]
      rw [List.getElem?_eq_getElem hi] at hl
      rw [Option.some.inj hl]
    rw [ed] at hr
    cases hr with
    | blank hz hb hr =>
      refine ⟨_, rfl, rfl, l, " ", rfl, rfl, Nat.le_trans hz (by decide), rfl, _, rfl, ifYes (congrArg V.str (of_decide_eq_true hb)) ?_⟩
      exact ⟨_, _, a, ks, done, rest, rfl, hq, hr, has, by omega, sH, nk, O⟩
    | @row _ ks1 _ _ _ r as' hb lk hst hr =>
      refine ⟨_, rfl, rfl, l, " ", rfl, rfl, Nat.le_trans lk.len (by decide), rfl, _, rfl, ifNo (str_no (of_decide_eq_false hb)) ?_⟩
      have hdk : DeskAt A H2 a ks := O.get 2 _ rfl
      have hla2 : H2 la = some (.lst (done.map V.str)) := O.get 1 _ rfl
      obtain ⟨c0, d0, m0, ho⟩ := hdk.ob
      rw [hq] at ho
      have nA : (deskF c0 d0 m0).lookup ("answer" : Str) = none := deskF_no (by decide +kernel) (by decide +kernel) (by decide +kernel)
      have dl : (done.map V.str).length < sizeLine := by
        rw [List.length_map]
        exact Nat.lt_of_le_of_lt (show done.length ≤ 1000 by omega) (by decide)
      refine ⟨_, rfl, .inl ⟨rfl, _, SqL.of hla2⟩, _, rfl, x, a.dx, _, rfl, ho, nA, _, rfl, a, ks, l, ks1, r, by rw [hq], hdk, lk, hst, fun a' H3 g => ?_⟩
      have O' : Own H3 [rOb ll (.lst (ls.map V.str)), rOb la (.lst (done.map V.str)), rDesk A a' ks1] := O.set 2 rfl (r' := rDesk A a' ks1) g.at_ g.sub g.fr
      have hla3 : H3 la = some (.lst (done.map V.str)) := O'.get 1 _ rfl
      have sH3 : Same H H3 := fun y o e => g.fr.keep y o (sH _ _ e) fun z => by rw [nk _ z] at e; cases e
      have nk3 : ∀ b, kfp a' ks1 b → H b = none := fun b z => by
        rcases g.sub b z with q | q
        · exact nk b q
        · exact sH.free q
      have sput : ∀ o, Same H (upd H3 la o) := fun o y u e => by rw [upd_ne (fun z => by rw [z, Hla] at e; cases e)]; exact sH3 _ _ e
      have ea : ∀ z : Str, as = done ++ z :: as' → as = (done ++ [z]) ++ as' := fun z e => by rw [e, List.append_assoc]; rfl
      have em : ∀ z : Str, done.map V.str ++ [V.str z] = (done ++ [z]).map V.str := fun z => by rw [List.map_append]; rfl
      cases r with
      | ok z =>
        refine ⟨la, _, .str z, rfl, rfl, hla3, dl, ?_⟩
        rw [em]
        refine ⟨_, _, a', ks1, done ++ [z], as', rfl, g.q.trans hq, hr, ea z has, by rw [List.length_append]; show done.length + 1 ≤ i + 1; omega, sput _, nk3, O'.put 1 rfl (by intro xs q; cases q)⟩
      | er e =>
        refine ⟨true, (F.cls e).em, fun _ ex nex => ?_, fun z => (nomatch z)⟩
        refine ⟨_, rfl, .inl ⟨rfl, _, SqL.of hla3⟩, rfl, rfl, _, rfl, e, rfl, F.cls e, _, _, rfl, rfl, ?_, la, _, _, rfl, rfl, hla3, dl, ?_⟩
        · have := Er.name_len e
          have h9 : ("refused: " : Str).length = 9 := by decide +kernel
          have : ("refused: " : Str).length + e.name.length ≤ 1000 := by omega
          exact Nat.le_trans this (by decide)
        · rw [em]
          refine ⟨_, _, a', ks1, done ++ [_], as', rfl, g.q.trans hq, hr, ea _ has, by rw [List.length_append]; show done.length + 1 ≤ i + 1; omega, sput _, nk3, O'.put 1 rfl (by intro xs q; cases q)⟩
  · rintro σ H2 ⟨v3, v4, a, ks, done, rest, rfl, hq, hr, has, hdl, sH, nk, O⟩
    rw [List.length_map, List.drop_length] at hr
    cases hr
    rw [List.append_nil] at has
    subst has
    exact ⟨_, rfl, k la H2 sH Hla (O.get 1 _ rfl)⟩
end

theorem strX {a b : Str} : a = b ↔ a.cps.toList = b.cps.toList := by
  constructor
  · intro e; rw [e]
  · intro e
    cases a with | mk x => cases b with | mk y =>
    have : x = y := Array.toList_inj.mp e
    rw [this]
def num (n : Nat) : Str := Str.ofString (toString ((n : Nat) : Int))
theorem num_tl (n : Nat) : (num n).cps.toList = TL.numL n := TL.tl_num n
theorem num_inj {a b : Nat} : num a = num b ↔ a = b := by
  constructor
  · intro e
    have e := congrArg (fun x : Str => x.cps.toList) e
    rw [num_tl, num_tl] at e
    exact TL.numL_inj e
  · intro e; rw [e]
theorem num_len {n k : Nat} (hk : 0 < k) (h : n < 10 ^ k) : (num n).length ≤ k := by
  have := TL.numL_len hk h
  rw [← num_tl] at this
  exact this
theorem num_int {n : Nat} (h : n < 10 ^ 600) : PySem.intText? (num n) = some (n : Int) := TL.int_num (Nat.le_trans (TL.numL_len (k := 600) (by decide) h) (by decide))
theorem num_free {n s : Nat} (h : s < 48 ∨ 57 < s) : s ∉ (num n).cps.toList := by rw [num_tl]; exact TL.numL_free h
theorem num_dig {n c : Nat} (h : c ∈ (num n).cps.toList) : 48 ≤ c ∧ c ≤ 57 := by rw [num_tl] at h; exact TL.numL_digits n c h
theorem num_ne (n : Nat) : (num n).cps.toList ≠ [] := by rw [num_tl]; exact TL.numL_ne n
theorem num_isdigit (n : Nat) : Txt.isdigit (num n) = true := by
  have h1 : (num n).length > 0 := by
    have e : (num n).length = (num n).cps.toList.length := rfl
    have := num_ne n
    rw [e]
    exact List.length_pos_iff.mpr this
  have dg : ∀ c, 48 ≤ c → c ≤ 57 → Unicode.isDigit c = true := fun c h1 h2 => by
    rcases (by omega : c = 48 ∨ c = 49 ∨ c = 50 ∨ c = 51 ∨ c = 52 ∨ c = 53 ∨ c = 54 ∨ c = 55 ∨ c = 56 ∨ c = 57) with e | e | e | e | e | e | e | e | e | e <;> (subst e; decide +kernel)
  have h2 : (num n).cps.all Unicode.isDigit = true := by
    rw [← Array.all_toList, List.all_eq_true]
    intro c hc
    have := num_dig hc
    exact dg c this.1 this.2
  unfold Txt.isdigit
  rw [h2, decide_eq_true h1]; rfl
theorem num_strOk (n : Nat) : PyData.strOk (num n) = true := by
  unfold PyData.strOk
  rw [← Array.all_toList, List.all_eq_true]
  intro c hc
  have := num_dig hc
  exact decide_eq_true (by omega)
theorem numL_zero (n : Nat) : (TL.numL n).head? = some 48 → n = 0 := by
  induction n using Nat.strongRecOn with
  | _ n ih =>
    intro h
    by_cases h1 : n < 10
    · rw [TL.numL_lt h1] at h
      have h : some (48 + n) = some 48 := h
      injection h with h
      omega
    · rw [TL.numL_step (by omega)] at h
      have e : (TL.numL (n / 10) ++ [48 + n % 10]).head? = (TL.numL (n / 10)).head? := by
        cases q : TL.numL (n / 10) with
        | nil => exact absurd q (TL.numL_ne _)
        | cons a b => rfl
      rw [e] at h
      have := ih (n / 10) (by omega) h
      omega
theorem num_good {n : Nat} (h : n < 10 ^ 12) : goodNum (num n) = true := by
  have h1 : 1 ≤ (num n).length := by
    have e : (num n).length = (num n).cps.toList.length := rfl
    rw [e]
    exact List.length_pos_iff.mpr (num_ne n)
  have h2 := num_len (k := 12) (by decide) h
  have h3 : figures (num n) = true := by
    unfold figures
    rw [List.all_eq_true]
    intro c hc
    have := num_dig hc
    have f : ∀ c, 48 ≤ c → c ≤ 57 → c ∈ figs.cps.toList := fun c h1 h2 => by
      rcases (by omega : c = 48 ∨ c = 49 ∨ c = 50 ∨ c = 51 ∨ c = 52 ∨ c = 53 ∨ c = 54 ∨ c = 55 ∨ c = 56 ∨ c = 57) with e | e | e | e | e | e | e | e | e | e <;> (subst e; decide +kernel)
    exact decide_eq_true (f c this.1 this.2)
  unfold goodNum
  rw [decide_eq_true ⟨h1, h2⟩, h3]
  by_cases hz : (num n).cps.toList.head? = ("0" : Str).cps.toList.head?
  · have z : ("0" : Str).cps.toList.head? = some 48 := by decide +kernel
    rw [z, num_tl] at hz
    have e := numL_zero n hz
    subst e
    have e2 : num 0 = "0" := by decide +kernel
    rw [e2]; decide +kernel
  · rw [decide_eq_false hz]; rfl
theorem numAt_num {n : Nat} (h : n < 10 ^ 12) : numAt (num n) = n := by
  unfold numAt
  rw [num_int (Nat.lt_of_lt_of_le h (Nat.pow_le_pow_right (by decide) (by decide)))]; rfl
inductive Op where
  | chip (b p S : Nat)
  | write (s c : Nat)
  | read (s : Nat)
  | power (n : Nat)
  | all
  | mount
  | worn (b : Nat)
  | written
def Op.row : Op → Str
  | .chip b p S => "chip " ++ num b ++ " " ++ num p ++ " " ++ num S
  | .write s c => "write " ++ num s ++ " " ++ num c
  | .read s => "read " ++ num s
  | .power n => "power " ++ num n
  | .all => "power all"
  | .mount => "mount"
  | .worn b => "worn " ++ num b
  | .written => "written"
def Op.parts : Op → List Str
  | .chip b p S => ["chip", num b, num p, num S]
  | .write s c => ["write", num s, num c]
  | .read s => ["read", num s]
  | .power n => ["power", num n]
  | .all => ["power", "all"]
  | .mount => ["mount"]
  | .worn b => ["worn", num b]
  | .written => ["written"]
def Op.got : Op → Str × List (Option Int)
  | .chip b p S => ("chip", [some (b : Int), some (p : Int), some (S : Int)])
  | .write s c => ("write", [some (s : Int), some (c : Int)])
  | .read s => ("read", [some (s : Int)])
  | .power n => ("power", [some (n : Int)])
  | .all => ("power", [none])
  | .mount => ("mount", [])
  | .worn b => ("worn", [some (b : Int)])
  | .written => ("written", [])
def Op.Ok : Op → Prop
  | .chip b p S => b < 10 ^ 12 ∧ p < 10 ^ 12 ∧ S < 10 ^ 12
  | .write s c => s < 10 ^ 12 ∧ c < 10 ^ 12
  | .read s => s < 10 ^ 12
  | .power n => n < 10 ^ 12
  | .all => True
  | .mount => True
  | .worn b => b < 10 ^ 12
  | .written => True
theorem tl_app (a b : Str) : (a ++ b).cps.toList = a.cps.toList ++ b.cps.toList := TL.tl_append a b
theorem tl_joinS (y : Str) (xs : List Str) : (Str.join y xs).cps.toList = TL.joinL y.cps.toList (xs.map fun x => x.cps.toList) := TL.tl_join y xs
theorem row_join (o : Op) : o.row = Txt.join " " o.parts := by
  rw [strX, TL.join_eq, tl_joinS]
  have sp : (" " : Str).cps.toList = [32] := by decide +kernel
  cases o with
  | chip b p S =>
    have e : ("chip " : Str).cps.toList = ("chip" : Str).cps.toList ++ [32] := by decide +kernel
    show ("chip " ++ num b ++ " " ++ num p ++ " " ++ num S : Str).cps.toList = _
    rw [tl_app, tl_app, tl_app, tl_app, tl_app, e, sp]
    simp [Op.parts, TL.joinL, sp]
  | write s c =>
    have e : ("write " : Str).cps.toList = ("write" : Str).cps.toList ++ [32] := by decide +kernel
    show ("write " ++ num s ++ " " ++ num c : Str).cps.toList = _
    rw [tl_app, tl_app, tl_app, e, sp]
    simp [Op.parts, TL.joinL, sp]
  | read s =>
    have e : ("read " : Str).cps.toList = ("read" : Str).cps.toList ++ [32] := by decide +kernel
    show ("read " ++ num s : Str).cps.toList = _
    rw [tl_app, e]
    simp [Op.parts, TL.joinL, sp]
  | power n =>
    have e : ("power " : Str).cps.toList = ("power" : Str).cps.toList ++ [32] := by decide +kernel
    show ("power " ++ num n : Str).cps.toList = _
    rw [tl_app, e]
    simp [Op.parts, TL.joinL, sp]
  | worn b =>
    have e : ("worn " : Str).cps.toList = ("worn" : Str).cps.toList ++ [32] := by decide +kernel
    show ("worn " ++ num b : Str).cps.toList = _
    rw [tl_app, e]
    simp [Op.parts, TL.joinL, sp]
  | all => decide +kernel
  | mount => decide +kernel
  | written => decide +kernel
theorem parts_free (o : Op) : ∀ p ∈ o.parts, 32 ∉ p.cps.toList := by
  have nf : ∀ n, 32 ∉ (num n).cps.toList := fun n => num_free (.inl (by decide))
  have w1 : 32 ∉ ("chip" : Str).cps.toList := by decide +kernel
  have w2 : 32 ∉ ("write" : Str).cps.toList := by decide +kernel
  have w3 : 32 ∉ ("read" : Str).cps.toList := by decide +kernel
  have w4 : 32 ∉ ("power" : Str).cps.toList := by decide +kernel
  have w5 : 32 ∉ ("all" : Str).cps.toList := by decide +kernel
  have w6 : 32 ∉ ("mount" : Str).cps.toList := by decide +kernel
  have w7 : 32 ∉ ("worn" : Str).cps.toList := by decide +kernel
  have w8 : 32 ∉ ("written" : Str).cps.toList := by decide +kernel
  have c0 : ∀ p ∈ ([] : List Str), 32 ∉ p.cps.toList := fun p h => by cases h
  have cc : ∀ {w : Str} {ws : List Str}, 32 ∉ w.cps.toList → (∀ p ∈ ws, 32 ∉ p.cps.toList) → ∀ p ∈ w :: ws, 32 ∉ p.cps.toList := fun {w ws} h g p hp => by
    rcases List.mem_cons.mp hp with e | e
    · rw [e]; exact h
    · exact g p e
  cases o with
  | chip b p S => exact cc w1 (cc (nf b) (cc (nf p) (cc (nf S) c0)))
  | write s c => exact cc w2 (cc (nf s) (cc (nf c) c0))
  | read s => exact cc w3 (cc (nf s) c0)
  | power s => exact cc w4 (cc (nf s) c0)
  | all => exact cc w4 (cc w5 c0)
  | mount => exact cc w6 c0
  | worn s => exact cc w7 (cc (nf s) c0)
  | written => exact cc w8 c0
theorem split_row (o : Op) : Txt.split o.row " " = o.parts := by
  rw [row_join]
  exact TL.split_join (s := 32) (S := []) (by decide +kernel) (by decide +kernel) (by cases o <;> exact fun z => by cases z) (parts_free o)
theorem num_all (n : Nat) : num n ≠ "all" := fun e => by
  have : 97 ∈ (num n).cps.toList := by rw [e]; decide +kernel
  exact num_free (.inr (by decide)) this
theorem shp : shape "chip" = some 3 ∧ shape "write" = some 2 ∧ shape "read" = some 1 ∧ shape "power" = some 1 ∧ shape "mount" = some 0 ∧ shape "worn" = some 1 ∧ shape "written" = some 0 := by decide +kernel
theorem parse_row {o : Op} (h : o.Ok) : parse o.row = some o.got := by
  obtain ⟨h1, h2, h3, h4, h5, h6, h7⟩ := shp
  have ew : rowWords o.row = o.parts := split_row o
  have nw : ("write" : Str) ≠ "power" := by decide +kernel
  have nr : ("read" : Str) ≠ "power" := by decide +kernel
  have nc : ("chip" : Str) ≠ "power" := by decide +kernel
  have nn : ("worn" : Str) ≠ "power" := by decide +kernel
  unfold parse
  rw [ew]
  cases o with
  | chip b p S =>
    show (match shape "chip" with | none => none | some k => _) = _
    rw [h1]
    refine (if_neg (fun z => z rfl)).trans ((if_neg (fun z => nc (List.cons.inj z).1)).trans ((if_pos ?_).trans ?_))
    · show (goodNum (num b) && (goodNum (num p) && (goodNum (num S) && true))) = true
      rw [num_good h.1, num_good h.2.1, num_good h.2.2]; rfl
    · show some (("chip" : Str), [some (numAt (num b)), some (numAt (num p)), some (numAt (num S))]) = _
      rw [numAt_num h.1, numAt_num h.2.1, numAt_num h.2.2]; rfl
  | write s c =>
    show (match shape "write" with | none => none | some k => _) = _
    rw [h2]
    refine (if_neg (fun z => z rfl)).trans ((if_neg (fun z => nw (List.cons.inj z).1)).trans ((if_pos ?_).trans ?_))
    · show (goodNum (num s) && (goodNum (num c) && true)) = true
      rw [num_good h.1, num_good h.2]; rfl
    · show some (("write" : Str), [some (numAt (num s)), some (numAt (num c))]) = _
      rw [numAt_num h.1, numAt_num h.2]; rfl
  | read s =>
    show (match shape "read" with | none => none | some k => _) = _
    rw [h3]
    refine (if_neg (fun z => z rfl)).trans ((if_neg (fun z => nr (List.cons.inj z).1)).trans ((if_pos ?_).trans ?_))
    · show (goodNum (num s) && true) = true
      rw [num_good h]; rfl
    · show some (("read" : Str), [some (numAt (num s))]) = _
      rw [numAt_num h]; rfl
  | power n =>
    show (match shape "power" with | none => none | some k => _) = _
    rw [h4]
    refine (if_neg (fun z => z rfl)).trans ((if_neg (fun z => num_all n (List.cons.inj (List.cons.inj z).2).1)).trans ((if_pos ?_).trans ?_))
    · show (goodNum (num n) && true) = true
      rw [num_good h]; rfl
    · show some (("power" : Str), [some (numAt (num n))]) = _
      rw [numAt_num h]; rfl
  | worn b =>
    show (match shape "worn" with | none => none | some k => _) = _
    rw [h6]
    refine (if_neg (fun z => z rfl)).trans ((if_neg (fun z => nn (List.cons.inj z).1)).trans ((if_pos ?_).trans ?_))
    · show (goodNum (num b) && true) = true
      rw [num_good h]; rfl
    · show some (("worn" : Str), [some (numAt (num b))]) = _
      rw [numAt_num h]; rfl
  | all => decide +kernel
  | mount => decide +kernel
  | written => decide +kernel
theorem num12 {n : Nat} (h : n < 10 ^ 12) : (num n).length ≤ 12 := num_len (by decide) h
theorem len_app (a b : Str) : (a ++ b).length = a.length + b.length := by
  show (a ++ b).cps.toList.length = a.cps.toList.length + b.cps.toList.length
  rw [tl_app, List.length_append]
theorem row_len {o : Op} (h : o.Ok) : o.row.length ≤ 60 := by
  have s1 : (" " : Str).length = 1 := by decide +kernel
  have c5 : ("chip " : Str).length = 5 := by decide +kernel
  have w6 : ("write " : Str).length = 6 := by decide +kernel
  have r5 : ("read " : Str).length = 5 := by decide +kernel
  have p6 : ("power " : Str).length = 6 := by decide +kernel
  have n5 : ("worn " : Str).length = 5 := by decide +kernel
  cases o with
  | chip b p S =>
    have a1 := num12 h.1
    have a2 := num12 h.2.1
    have a3 := num12 h.2.2
    show ("chip " ++ num b ++ " " ++ num p ++ " " ++ num S : Str).length ≤ 60
    simp only [len_app, s1, c5]; omega
  | write s c =>
    have a1 := num12 h.1
    have a2 := num12 h.2
    show ("write " ++ num s ++ " " ++ num c : Str).length ≤ 60
    simp only [len_app, s1, w6]; omega
  | read s =>
    have a1 := num12 (n := s) h
    show ("read " ++ num s : Str).length ≤ 60
    simp only [len_app, r5]; omega
  | power n =>
    have a1 := num12 (n := n) h
    show ("power " ++ num n : Str).length ≤ 60
    simp only [len_app, p6]; omega
  | worn b =>
    have a1 := num12 (n := b) h
    show ("worn " ++ num b : Str).length ≤ 60
    simp only [len_app, n5]; omega
  | all => decide +kernel
  | mount => decide +kernel
  | written => decide +kernel
theorem wordsOk : (["chip", "write", "read", "power", "all", "mount", "worn", "written"] : List Str).all (fun w => PyData.strOk w && decide (w.length ≤ 1000) && decide (10 ∉ w.cps.toList) && !goodNum w) = true := by decide +kernel
theorem parts_ok {o : Op} (h : o.Ok) : ∀ w ∈ o.parts, PyData.strOk w = true ∧ w.length ≤ 1000 ∧ (goodNum w = true → PySem.intText? w = some (numAt w)) := by
  have wd : ∀ w ∈ (["chip", "write", "read", "power", "all", "mount", "worn", "written"] : List Str), PyData.strOk w = true ∧ w.length ≤ 1000 ∧ (goodNum w = true → PySem.intText? w = some (numAt w)) := fun w hw => by
    have := List.all_eq_true.mp wordsOk w hw
    simp only [Bool.and_eq_true, decide_eq_true_eq, Bool.not_eq_true'] at this
    exact ⟨this.1.1.1, this.1.1.2, fun g => by rw [this.2] at g; cases g⟩
  have nm : ∀ {n}, n < 10 ^ 12 → PyData.strOk (num n) = true ∧ (num n).length ≤ 1000 ∧ (goodNum (num n) = true → PySem.intText? (num n) = some (numAt (num n))) := fun {n} hn =>
    ⟨num_strOk n, Nat.le_trans (num12 hn) (by decide), fun _ => by rw [numAt_num hn]; exact num_int (Nat.lt_of_lt_of_le hn (Nat.pow_le_pow_right (by decide) (by decide)))⟩
  intro w hw
  cases o with
  | chip b p S =>
    simp only [Op.parts, List.mem_cons, List.not_mem_nil, or_false] at hw
    rcases hw with rfl | rfl | rfl | rfl
    · exact wd _ (by simp)
    · exact nm h.1
    · exact nm h.2.1
    · exact nm h.2.2
  | write s c =>
    simp only [Op.parts, List.mem_cons, List.not_mem_nil, or_false] at hw
    rcases hw with rfl | rfl | rfl
    · exact wd _ (by simp)
    · exact nm h.1
    · exact nm h.2
  | read s =>
    simp only [Op.parts, List.mem_cons, List.not_mem_nil, or_false] at hw
    rcases hw with rfl | rfl
    · exact wd _ (by simp)
    · exact nm h
  | power n =>
    simp only [Op.parts, List.mem_cons, List.not_mem_nil, or_false] at hw
    rcases hw with rfl | rfl
    · exact wd _ (by simp)
    · exact nm h
  | worn b =>
    simp only [Op.parts, List.mem_cons, List.not_mem_nil, or_false] at hw
    rcases hw with rfl | rfl
    · exact wd _ (by simp)
    · exact nm h
  | all =>
    simp only [Op.parts, List.mem_cons, List.not_mem_nil, or_false] at hw
    rcases hw with rfl | rfl <;> exact wd _ (by simp)
  | mount =>
    simp only [Op.parts, List.mem_cons, List.not_mem_nil, or_false] at hw
    subst hw; exact wd _ (by simp)
  | written =>
    simp only [Op.parts, List.mem_cons, List.not_mem_nil, or_false] at hw
    subst hw; exact wd _ (by simp)
theorem row_ok {o : Op} (h : o.Ok) : LineOk o.row := by
  have ew : rowWords o.row = o.parts := split_row o
  refine ⟨Nat.le_trans (row_len h) (by decide), ?_, ?_, ?_, fun w hw g => ?_, fun w hw => ?_⟩
  · rw [ew]; cases o <;> exact fun z => by cases z
  · rw [ew]; cases o <;> (show _ ≤ 1000; simp [Op.parts])
  · rw [ew]; cases o <;> (simp [Op.parts, firsts])
  · rw [ew] at hw
    exact (parts_ok h w (List.mem_of_mem_drop hw)).2.2 g
  · rw [ew] at hw
    exact ⟨(parts_ok h w hw).1, Nat.le_trans (parts_ok h w hw).2.1 (by decide)⟩
theorem strip_same {x : Str} {c : Nat} {r a b : List Nat} (h1 : x.cps.toList = c :: r) (h2 : c ≠ 32) (h3 : x.cps.toList = a ++ b) (h4 : b ≠ []) (h5 : 32 ∉ b) : Txt.stripChars x " " = x := by
  have g : ∀ c : Nat, c ≠ 32 → (" " : Str).cps.contains c = false := fun c hc => by
    have e : (" " : Str).cps = #[32] := by decide +kernel
    rw [e]
    simp [hc]
  unfold Txt.stripChars Txt.stripBy
  refine if_pos ?_
  have lo : stripLo (" " : Str).cps.contains true x = 0 := by
    unfold stripLo
    rw [if_pos rfl, h1, List.takeWhile_cons, g c h2]; rfl
  unfold stripSame
  rw [lo]
  have hi : stripHi (" " : Str).cps.contains true x 0 = x.length := by
    unfold stripHi
    rw [if_pos rfl, List.drop_zero, h3, List.reverse_append]
    obtain ⟨d, s, ed⟩ : ∃ d s, b.reverse = d :: s := by
      cases q : b.reverse with
      | nil => exact absurd (List.reverse_eq_nil_iff.mp q) h4
      | cons d s => exact ⟨d, s, rfl⟩
    have hd : d ≠ 32 := fun z => h5 (by
      have : d ∈ b.reverse := by rw [ed]; exact List.mem_cons_self
      rw [z] at this
      exact List.mem_reverse.mp this)
    rw [ed, List.cons_append, List.takeWhile_cons, g d hd]; rfl
  rw [hi]
  simp
theorem not_blank {x : Str} {c : Nat} {a b : List Nat} (h1 : x.cps.toList.head? = some c) (h2 : c ≠ 32) (h3 : x.cps.toList = a ++ b) (h4 : b ≠ []) (h5 : 32 ∉ b) : blank x = false := by
  obtain ⟨r, h1⟩ : ∃ r, x.cps.toList = c :: r := by
    cases e : x.cps.toList with
    | nil => rw [e] at h1; cases h1
    | cons d r => rw [e] at h1; injection h1 with h1; rw [h1]; exact ⟨r, rfl⟩
  unfold blank
  rw [strip_same h1 h2 h3 h4 h5]
  refine decide_eq_false fun z => ?_
  rw [z] at h1
  have : ("" : Str).cps.toList = [] := by decide +kernel
  rw [this] at h1; cases h1
theorem row_blank (o : Op) : blank o.row = false := by
  have nb : ∀ n, 32 ∉ (num n).cps.toList := fun n => num_free (.inl (by decide))
  cases o with
  | chip b p S =>
    refine not_blank (c := 99) (a := ("chip " ++ num b ++ " " ++ num p ++ " " : Str).cps.toList) (b := (num S).cps.toList) ?_ (by decide) ?_ (num_ne S) (nb S)
    · show ("chip " ++ num b ++ " " ++ num p ++ " " ++ num S : Str).cps.toList.head? = _
      rw [tl_app, tl_app, tl_app, tl_app, tl_app, show ("chip " : Str).cps.toList = [99, 104, 105, 112, 32] by decide +kernel]; rfl
    · show ("chip " ++ num b ++ " " ++ num p ++ " " ++ num S : Str).cps.toList = _
      rw [tl_app]
  | write s c =>
    refine not_blank (c := 119) (a := ("write " ++ num s ++ " " : Str).cps.toList) (b := (num c).cps.toList) ?_ (by decide) ?_ (num_ne c) (nb c)
    · show ("write " ++ num s ++ " " ++ num c : Str).cps.toList.head? = _
      rw [tl_app, tl_app, tl_app, show ("write " : Str).cps.toList = [119, 114, 105, 116, 101, 32] by decide +kernel]; rfl
    · show ("write " ++ num s ++ " " ++ num c : Str).cps.toList = _
      rw [tl_app]
  | read s =>
    refine not_blank (c := 114) (a := ("read " : Str).cps.toList) (b := (num s).cps.toList) ?_ (by decide) (tl_app _ _) (num_ne s) (nb s)
    show ("read " ++ num s : Str).cps.toList.head? = _
    rw [tl_app, show ("read " : Str).cps.toList = [114, 101, 97, 100, 32] by decide +kernel]; rfl
  | power s =>
    refine not_blank (c := 112) (a := ("power " : Str).cps.toList) (b := (num s).cps.toList) ?_ (by decide) (tl_app _ _) (num_ne s) (nb s)
    show ("power " ++ num s : Str).cps.toList.head? = _
    rw [tl_app, show ("power " : Str).cps.toList = [112, 111, 119, 101, 114, 32] by decide +kernel]; rfl
  | worn s =>
    refine not_blank (c := 119) (a := ("worn " : Str).cps.toList) (b := (num s).cps.toList) ?_ (by decide) (tl_app _ _) (num_ne s) (nb s)
    show ("worn " ++ num s : Str).cps.toList.head? = _
    rw [tl_app, show ("worn " : Str).cps.toList = [119, 111, 114, 110, 32] by decide +kernel]; rfl
  | all => decide +kernel
  | mount => decide +kernel
  | written => decide +kernel
theorem row_nl (o : Op) : 10 ∉ o.row.cps.toList := by
  have nb : ∀ n, 10 ∉ (num n).cps.toList := fun n => num_free (.inl (by decide))
  have sp : 10 ∉ (" " : Str).cps.toList := by decide +kernel
  have ap : ∀ {a b : Str}, 10 ∉ a.cps.toList → 10 ∉ b.cps.toList → 10 ∉ (a ++ b).cps.toList := fun {a b} h g => by
    rw [tl_app]
    intro z
    rcases List.mem_append.mp z with z | z
    · exact h z
    · exact g z
  cases o with
  | chip b p S => exact ap (ap (ap (ap (ap (by decide +kernel) (nb _)) sp) (nb _)) sp) (nb _)
  | write s c => exact ap (ap (ap (by decide +kernel) (nb _)) sp) (nb _)
  | read s => exact ap (by decide +kernel) (nb _)
  | power s => exact ap (by decide +kernel) (nb _)
  | worn s => exact ap (by decide +kernel) (nb _)
  | all => decide +kernel
  | mount => decide +kernel
  | written => decide +kernel
theorem parts_inj {o o' : Op} (h : o.row = o'.row) : o.parts = o'.parts := by rw [← split_row, ← split_row, h]

def KS.x : KS → DC
  | .no => DC.new 0 0
  | .chip x _ => x
  | .disk st _ => st.x
def T (i : Int) : Str := Str.ofString (toString i)
theorem T_num (n : Nat) : T (n : Int) = num n := rfl
structure KG (B P : Nat) (S : Int) (n : Nat) (ks : KS) (f : Int → Int) (C : Nat) : Prop where
  kind : (∃ st, ks = .disk st S ∧ Ready S f C st) ∨ (∃ x, ks = .chip x S ∧ Sound S f C x)
  S1 : 1 ≤ S
  len : ks.x.bs.length = B
  m : ks.x.m = P
  B7 : B ≤ 7
  P5 : P ≤ 5
  w0 : ∀ i, 0 ≤ ks.x.wears.getD i 0
  many0 : 0 ≤ ks.x.many
  mb : ks.x.many ≤ 100 * n
  wb : ks.x.wears.sum ≤ 100 * n
  f0 : ∀ s, 0 ≤ f s
  fb : ∀ s, f s < 10 ^ 12
def OpOk (B : Nat) (S : Int) : Op → Prop
  | .chip _ _ _ => False
  | .write s c => (s : Int) < S ∧ s < 10 ^ 12 ∧ c < 10 ^ 12
  | .read s => (s : Int) < S ∧ s < 10 ^ 12
  | .power n => n < 10 ^ 12
  | .all => True
  | .mount => True
  | .worn b => b < B ∧ b < 10 ^ 12
  | .written => True
theorem OpOk.ok {B : Nat} {S : Int} {o : Op} (h : OpOk B S o) : o.Ok := by
  cases o with
  | chip _ _ _ => exact h.elim
  | write s c => exact h.2
  | read s => exact h.2
  | power n => exact h
  | all => trivial
  | mount => trivial
  | worn b => exact h.2
  | written => trivial
inductive Adv (S : Int) : KS → (Int → Int) → Op → KS → (Int → Int) → RR → Prop
  | goneW {x f s c} : Adv S (.chip x S) f (.write s c) (.chip x S) f (.er .nodisk)
  | goneR {x f s} : Adv S (.chip x S) f (.read s) (.chip x S) f (.er .nodisk)
  | read {st f} {s : Nat} : Adv S (.disk st S) f (.read s) (.disk st S) f (.ok (T (f s)))
  | write {st st' f} {s c : Nat} : Steps st.x st'.x → Adv S (.disk st S) f (.write s c) (.disk st' S) (upf f s c) (.ok "ok")
  | cut {st x' f s c} : Steps st.x x' → ¬ Pow st.x → Adv S (.disk st S) f (.write s c) (.chip x' S) f (.er .cut)
  | power {ks f} {n : Nat} : Adv S ks f (.power n) (ks.pow (some (n : Int))) f (.ok "ok")
  | all {ks f} : Adv S ks f .all (ks.pow none) f (.ok "ok")
  | mount {ks st' f} : Steps ks.x st'.x → Adv S ks f .mount (.disk st' S) f (.ok "ok")
  | worn {ks f} {b : Nat} : Adv S ks f (.worn b) ks f (.ok (T (ks.wear b)))
  | written {ks f} : Adv S ks f .written ks f (.ok (T ks.many))
theorem steps_many {x y : DC} (h : Steps x y) : x.many ≤ y.many := by
  induction h with
  | refl => exact Int.le_refl _
  | @put y h b r ih =>
    refine Int.le_trans ih ?_
    unfold DC.put
    split
    · exact Int.le_refl _
    · unfold DC.gw
      cases y.left <;> exact Int.le_add_one (Int.le_refl _)
  | @erase y h b ih =>
    refine Int.le_trans ih ?_
    unfold DC.erase
    split
    · exact Int.le_refl _
    · unfold DC.gw
      cases y.left <;> exact Int.le_refl _
theorem getD_le_sum : ∀ {ws : List Int} (i : Nat), (∀ j, 0 ≤ ws.getD j 0) → ws.getD i 0 ≤ ws.sum
  | [], i, _ => by simp
  | w :: ws, 0, h => by
    have h1 := h 0
    have : ∀ {ws : List Int}, (∀ j, 0 ≤ ws.getD j 0) → 0 ≤ ws.sum := by
      intro ws
      induction ws with
      | nil => intro _; simp
      | cons a as ih =>
        intro h
        have := h 0
        have := ih fun j => h (j + 1)
        rw [List.sum_cons]
        have e : (a :: as).getD 0 0 = a := rfl
        omega
    have := this fun j => h (j + 1)
    rw [List.sum_cons]
    show w ≤ w + ws.sum
    omega
  | w :: ws, i + 1, h => by
    have h1 : 0 ≤ w := h 0
    have := getD_le_sum (ws := ws) i fun j => h (j + 1)
    rw [List.sum_cons]
    show ws.getD i 0 ≤ w + ws.sum
    omega
section
variable {B P n C : Nat} {S : Int} {ks ks' : KS} {f : Int → Int}
theorem KG.wearB (h : KG B P S n ks f C) (b : Nat) : 0 ≤ ks.wear b ∧ ks.wear b ≤ 100 * n := by
  have h1 := h.w0 b
  have h2 := getD_le_sum b h.w0
  have h3 := h.wb
  have e : ks.wear (b : Int) = ks.x.wears.getD b 0 := by
    rcases h.kind with ⟨st, rfl, _⟩ | ⟨x, rfl, _⟩
    · show st.x.wears.getD ((b : Int).toNat) 0 = _; rw [Int.toNat_natCast]; rfl
    · show x.wears.getD ((b : Int).toNat) 0 = _; rw [Int.toNat_natCast]; rfl
  rw [e]
  omega
theorem KG.manyE (h : KG B P S n ks f C) : ks.many = ks.x.many := by
  rcases h.kind with ⟨st, rfl, _⟩ | ⟨x, rfl, _⟩ <;> rfl
theorem log_small {i : Int} (h0 : 0 ≤ i) (h1 : i < 10 ^ 15) : i.natAbs.log2 < 1920 := by
  have := log2_small (n := i.natAbs) (k := 60) (by have : i.natAbs < 10 ^ 15 := by omega
                                                   exact Nat.lt_of_lt_of_le this (by decide)) (by decide)
  omega
theorem KG.next (h : KG B P S n ks f C) (hn : n ≤ 1000) {f' : Int → Int} {C' : Nat} (kd : (∃ st, ks' = .disk st S ∧ Ready S f' C' st) ∨ (∃ x, ks' = .chip x S ∧ Sound S f' C' x)) (st : Steps ks.x ks'.x) (ad : Adds ks.x ks'.x 100 100) (f0 : ∀ s, 0 ≤ f' s) (fb : ∀ s, f' s < 10 ^ 12) :
    KG B P S (n + 1) ks' f' C' := by
  have := h.mb
  have := h.wb
  have := ad.many
  have := ad.ws
  exact ⟨kd, h.S1, st.len.1.trans h.len, st.len.2.trans h.m, h.B7, h.P5, fun i => Int.le_trans (h.w0 i) (st.rise.2 i), Int.le_trans h.many0 (steps_many st), by omega, by omega, f0, fb⟩
theorem KG.stay (h : KG B P S n ks f C) (hn : n ≤ 1000) : KG B P S (n + 1) ks f C := h.next hn h.kind (.refl _) ⟨by omega, by omega⟩ h.f0 h.fb
theorem KG.powd (h : KG B P S n ks f C) (hn : n ≤ 1000) (l : Option Int) : KG B P S (n + 1) (ks.pow l) f C := by
  have := h.mb
  have := h.wb
  rcases h.kind with ⟨st, rfl, R⟩ | ⟨x, rfl, R⟩
  · exact ⟨.inl ⟨st.pow l, rfl, R.pow l⟩, h.S1, h.len, h.m, h.B7, h.P5, h.w0, h.many0, by show st.x.many ≤ _; have : st.x.many ≤ 100 * n := h.mb; omega, by show st.x.wears.sum ≤ _; have : st.x.wears.sum ≤ 100 * n := h.wb; omega, h.f0, h.fb⟩
  · exact ⟨.inr ⟨x.pow l, rfl, R.pow l⟩, h.S1, h.len, h.m, h.B7, h.P5, h.w0, h.many0, by show x.many ≤ _; have : x.many ≤ 100 * n := h.mb; omega, by show x.wears.sum ≤ _; have : x.wears.sum ≤ 100 * n := h.wb; omega, h.f0, h.fb⟩
theorem KG.ne (h : KG B P S n ks f C) : ks ≠ .no := fun e => by
  rcases h.kind with ⟨st, q, _⟩ | ⟨x, q, _⟩ <;> (rw [e] at q; cases q)
theorem step_ex {o : Op} (h : KG B P S n ks f C) (hn : n ≤ 1000) (ok : OpOk B S o) (pw : o = .mount → Pow ks.x) :
    ∃ ks' r f' C', Step ks (some o.got) ks' r ∧ KG B P S (n + 1) ks' f' C' ∧ Adv S ks f o ks' f' r := by
  cases o with
  | chip _ _ _ => exact ok.elim
  | read s =>
    rcases h.kind with ⟨st, rfl, R⟩ | ⟨x, rfl, R⟩
    · have e : st.val (s : Int) = f s := R.reads (by omega) ok.1
      have hz := log_small (h.f0 s) (Int.lt_trans (h.fb s) (by decide))
      have := Step.read (st := st) (m := S) (s := (s : Int)) ⟨by omega, by rw [R.hS]; exact ok.1⟩ (by rw [e]; exact hz)
      rw [e] at this
      exact ⟨_, _, f, C, this, h.stay hn, .read⟩
    · exact ⟨_, _, f, C, .nodisk (.inr rfl), h.stay hn, .goneR⟩
  | write s c =>
    rcases h.kind with ⟨st, rfl, R⟩ | ⟨x, rfl, R⟩
    · obtain ⟨w1, w2, w3, w4⟩ := write_ok (c := (c : Int)) R (s := (s : Int)) (by omega) ok.1
      have so : secOk st (s : Int) := ⟨by omega, by rw [R.hS]; exact ok.1⟩
      have co : conOk (c : Int) := ⟨by omega, by have := ok.2.2; omega⟩
      have l1 : st.x.bs.length = B := h.len
      have l2 : st.x.m = P := h.m
      have b1 : (B - 1) * P ≤ 6 * 5 := Nat.mul_le_mul (by have := h.B7; omega) h.P5
      have ad : Adds st.x (st.write s c).1.x 100 100 := by
        rw [l1, l2] at w4
        exact w4.mono (by omega) (by have := h.B7; omega)
      cases e : (st.write s c).2 with
      | true =>
        refine ⟨_, _, upf f s c, C, .write so co w1 e, h.next hn (.inl ⟨_, rfl, w2 e⟩) (st_write st s c) ad (fun i => ?_) (fun i => ?_), .write (st_write st s c)⟩
        · unfold upf; split
          · omega
          · exact h.f0 i
        · unfold upf; split
          · have := ok.2.2; omega
          · exact h.fb i
      | false =>
        refine ⟨_, _, f, C + 1, .cut so co w1 e, h.next hn (.inr ⟨_, rfl, ⟨w3 e, h.S1⟩⟩) (st_write st s c) ad h.f0 h.fb, .cut (st_write st s c) fun p => ?_⟩
        rw [pw_write p] at e; cases e
    · exact ⟨_, _, f, C, .nodisk (.inl rfl), h.stay hn, .goneW⟩
  | power k => exact ⟨_, _, f, C, .power h.ne, h.powd hn _, .power⟩
  | all => exact ⟨_, _, f, C, .power h.ne, h.powd hn _, .all⟩
  | mount =>
    have pw := pw rfl
    rcases h.kind with ⟨st, rfl, R⟩ | ⟨x, rfl, R⟩
    · have sd := R.sound h.S1
      obtain ⟨t1, t2, t3, _, t5⟩ := mount_ok sd.g sd.S1
      exact ⟨_, _, f, C, .mount sd.many t1 t2 (pw_mount pw S), h.next hn (.inl ⟨_, rfl, t3 (pw_mount pw S)⟩) (st_mount st.x S) (t5.mono (by omega) (by omega)) h.f0 h.fb, .mount (st_mount st.x S)⟩
    · obtain ⟨t1, t2, t3, _, t5⟩ := mount_ok R.g R.S1
      exact ⟨_, _, f, C, .mountC R.many t1 t2 (pw_mount pw S), h.next hn (.inl ⟨_, rfl, t3 (pw_mount pw S)⟩) (st_mount x S) (t5.mono (by omega) (by omega)) h.f0 h.fb, .mount (st_mount x S)⟩
  | worn b =>
    have hw := h.wearB b
    have hi : ks.inB (b : Int) := by
      have l := h.len
      have b1 := ok.1
      rcases h.kind with ⟨st, rfl, R⟩ | ⟨x, rfl, R⟩
      · have l : st.x.bs.length = B := l
        show (0 : Int) ≤ b ∧ (b : Int) < st.x.bs.length
        omega
      · have l : x.bs.length = B := l
        show (0 : Int) ≤ b ∧ (b : Int) < x.bs.length
        omega
    exact ⟨_, _, f, C, .wornOk hi (log_small hw.1 (by omega)), h.stay hn, .worn⟩
  | written =>
    have e := h.manyE
    have h1 := h.many0
    have h2 := h.mb
    exact ⟨_, _, f, C, .written h.ne (log_small (by rw [e]; exact h1) (by rw [e]; omega)), h.stay hn, .written⟩
end
inductive Tr (B P : Nat) (S : Int) : Nat → KS → (Int → Int) → Nat → List Op → List RR → Prop
  | nil {n ks f C} : Tr B P S n ks f C [] []
  | cons {n ks f C o os ks' f' C' r rs} : KG B P S n ks f C → OpOk B S o → Step ks (some o.got) ks' r → Adv S ks f o ks' f' r → KG B P S (n + 1) ks' f' C' → Tr B P S (n + 1) ks' f' C' os rs → Tr B P S n ks f C (o :: os) (r :: rs)
theorem Tr.run {B P : Nat} {S : Int} {n : Nat} {ks : KS} {f : Int → Int} {C : Nat} {os : List Op} {rs : List RR} (h : Tr B P S n ks f C os rs) : ∃ ks', Run ks (os.map Op.row) ks' (rs.map RR.text) := by
  induction h with
  | nil => exact ⟨_, .nil⟩
  | cons k ok st _ _ _ ih =>
    obtain ⟨ks', r⟩ := ih
    exact ⟨ks', .row (row_blank _) (row_ok ok.ok) (by rw [parse_row ok.ok]; exact st) r⟩
theorem Tr.len {B P : Nat} {S : Int} {n : Nat} {ks : KS} {f : Int → Int} {C : Nat} {os : List Op} {rs : List RR} (h : Tr B P S n ks f C os rs) : rs.length = os.length := by
  induction h with
  | nil => rfl
  | cons _ _ _ _ _ _ ih => rw [List.length_cons, List.length_cons, ih]
def isAll : Op → Bool
  | .all => true
  | _ => false
def MO : Bool → List Op → Prop
  | _, [] => True
  | p, o :: os => (o = .mount → p = true) ∧ MO (isAll o) os
theorem tr_ex {B P : Nat} {S : Int} : ∀ (os : List Op) {p : Bool} {n : Nat} {ks : KS} {f : Int → Int} {C : Nat}, KG B P S n ks f C → (∀ o ∈ os, OpOk B S o) → MO p os → (p = true → Pow ks.x) → n + os.length ≤ 1000 → ∃ rs, Tr B P S n ks f C os rs
  | [], p, n, ks, f, C, h, _, _, _, _ => ⟨[], .nil⟩
  | o :: os, p, n, ks, f, C, h, ok, mo, pw, hn => by
    have hl : (o :: os).length = os.length + 1 := rfl
    obtain ⟨ks', r, f', C', st, g, ad⟩ := step_ex h (by omega) (ok o List.mem_cons_self) fun e => pw (mo.1 e)
    obtain ⟨rs, tr⟩ := tr_ex os (p := isAll o) g (fun o' h' => ok o' (List.mem_cons_of_mem _ h')) mo.2 (fun e => by
      cases o <;> first | (cases e; done) | skip
      cases ad with
      | all =>
        rcases h.kind with ⟨s, rfl, _⟩ | ⟨x, rfl, _⟩
        · exact pow_pow _
        · exact pow_pow _) (by omega)
    exact ⟨r :: rs, .cons h (ok o List.mem_cons_self) st ad g tr⟩
theorem start18 {b p S : Nat} (b1 : 4 ≤ b) (b2 : b ≤ 7) (p1 : 2 ≤ p) (p2 : p ≤ 5) (s1 : 1 ≤ S) (s2 : (S : Int) ≤ ((b : Int) - 2) * p) :
    ∃ ks, Step .no (some (Op.chip b p S).got) ks (.ok "ok") ∧ KG b p S 1 ks (fun _ => 0) 0 ∧ Pow ks.x ∧ ∃ st, ks = .disk st S := by
  obtain ⟨t1, t2, t3, ok, R, Pw, hn, hm⟩ := new_disk (b := b) (p := p) (S := (S : Int)) b1 p1 (by omega) s2
  have gd : Good (S : Int) (fun _ => 0) 0 (DC.new b p) := new_good (S := (S : Int)) b1 p1 s2 none false
  obtain ⟨_, _, _, _, t5⟩ := mount_ok gd (by omega : (1 : Int) ≤ S)
  have st := st_mount (DC.new b p) (S : Int)
  have wz : ∀ i, (DC.new b p).wears.getD i 0 = 0 := fun i => by
    show (List.replicate b (0 : Int)).getD i 0 = 0
    rw [List.getD_eq_getElem?_getD, List.getElem?_replicate]
    split <;> rfl
  have sz : (DC.new b p).wears.sum = 0 := by
    show (List.replicate b (0 : Int)).sum = 0
    simp
  have mz : (DC.new b p).many = 0 := rfl
  have a1 := t5.many
  have a2 := t5.ws
  have a3 := steps_many st
  refine ⟨.disk (mount (DC.new b p) S).1 S, ?_, ⟨.inl ⟨_, rfl, R⟩, by omega, hn, hm, b2, p2, fun i => ?_, ?_, ?_, ?_, fun _ => by omega, fun _ => by decide⟩, Pw, _, rfl⟩
  · have := Step.chip (ks := .no) (b := (b : Int)) (p := (p : Int)) (S := (S : Int)) ⟨by omega, by omega, by omega, by omega⟩ (by rw [Int.toNat_natCast, Int.toNat_natCast]; exact t1)
    rw [Int.toNat_natCast, Int.toNat_natCast] at this
    exact this
  · have := st.rise.2 i
    rw [wz i] at this; exact this
  · show 0 ≤ (mount (DC.new b p) S).1.x.many
    omega
  · show (mount (DC.new b p) S).1.x.many ≤ 100 * (1 : Nat)
    omega
  · show (mount (DC.new b p) S).1.x.wears.sum ≤ 100 * (1 : Nat)
    omega

abbrev zIsDig : V → List V → Hp → VK → Prop := fun x xs H Q => ∃ a, x = .str a ∧ xs = [] ∧ True ∧ Q (.bl (Txt.isdigit a)) H
def sp_law (K : PySem.W.Frag) (A : Ad) : Sp := fun vs H Q E => ∃ (l : Addr) (ns : List Int), vs = [.ref l] ∧ SqL K H l (ns.map V.int) ∧ ns.length ≤ 63 ∧ ∀ H', Q (.bl true) H'
theorem len_law {K : PySem.W.Frag} {A : Ad} {vs : List V} {H : Hp} {Q : VK} {E : XK} (h : sp_law K A vs H Q E) : vs.length = 1 := by
  obtain ⟨_, _, rfl, _⟩ := h; rfl
structure Rows (b S : Nat) (os : List Op) : Prop where
  ok : ∀ o ∈ os, OpOk b S o
  mo : MO false os
theorem MO.weak {os : List Op} {p : Bool} (h : MO false os) : MO p os := by
  cases os with
  | nil => trivial
  | cons o os => exact ⟨fun e => absurd (h.1 e) Bool.false_ne_true, h.2⟩
theorem MO.app : ∀ {xs : List Op} {p : Bool} {ys : List Op}, MO p xs → MO false ys → MO p (xs ++ ys)
  | [], p, ys, _, h => h.weak
  | x :: xs, p, ys, g, h => ⟨g.1, g.2.app h⟩
theorem Rows.app {b S : Nat} {xs ys : List Op} (h : Rows b S xs) (g : Rows b S ys) : Rows b S (xs ++ ys) :=
  ⟨fun o ho => (List.mem_append.mp ho).elim (h.ok o) (g.ok o), h.mo.app g.mo⟩
theorem Rows.one {b S : Nat} {o : Op} (h : OpOk b S o) (n : o ≠ .mount) : Rows b S [o] := ⟨fun q hq => by rw [List.mem_singleton.mp hq]; exact h, fun e => absurd e n, trivial⟩
theorem Rows.mount {b S : Nat} : Rows b S [.all, .mount] := ⟨fun q hq => by
  simp only [List.mem_cons, List.not_mem_nil, or_false] at hq
  rcases hq with rfl | rfl <;> trivial, (fun e => nomatch e), fun _ => rfl, trivial⟩
def rowsV (os : List Op) : List V := (os.map Op.row).map V.str
theorem rowsV_app (xs ys : List Op) : rowsV (xs ++ ys) = rowsV xs ++ rowsV ys := by unfold rowsV; rw [List.map_append, List.map_append]
theorem rowsV_len (os : List Op) : (rowsV os).length = os.length := by unfold rowsV; rw [List.length_map, List.length_map]
def sp_l_lines (K : PySem.W.Frag) (A : Ad) : Sp := fun vs H Q E => ∃ (l tp : Addr) (ns : List Int) (b p S : Nat), vs = [.ref l, .ref tp] ∧ SqL K H l (ns.map V.int) ∧ ns.length ≤ 63 ∧ H tp = some (.tup [.int b, .int p, .int S]) ∧ 4 ≤ b ∧ b ≤ 7 ∧ 2 ≤ p ∧ p ≤ 5 ∧ 1 ≤ S ∧ S ≤ 100 ∧
  ∀ os LL H', Same H H' → H LL = none → H' LL = some (.lst (rowsV (Op.chip b p S :: os))) → Rows b S os → os.length ≤ 200 → Q (.ref LL) H'
theorem len_l_lines {K : PySem.W.Frag} {A : Ad} {vs : List V} {H : Hp} {Q : VK} {E : XK} (h : sp_l_lines K A vs H Q E) : vs.length = 2 := by
  obtain ⟨_, _, _, _, _, _, rfl, _⟩ := h; rfl
def MayGet (H : Hp) (kvs : List (Key × V)) (s : Str) (zs : List Str) : Prop := match valV kvs (Sum.inr s) with
  | none => zs = (["0"] : List Str)
  | some v => ∃ l, v = .ref l ∧ H l = some (.lst (zs.map V.str))
def sp_l_read (K : PySem.W.Frag) (A : Ad) : Sp := fun vs H Q E => ∃ (d : Addr) (kvs : List (Key × V)) (s z : Str) (zs : List Str), vs = [.ref d, .str s, .str z] ∧ H d = some (.dK kvs) ∧ kvs.length ≤ 1000 ∧ MayGet H kvs s zs ∧ z ∈ zs ∧
  ∀ l H', H l = none → H' l = some (.lst [.str z]) → H' d = some (.dK (putK kvs (Sum.inr s) (.ref l))) → (∀ a o, H a = some o → a ≠ d → H' a = some o) → Q (.bl true) H'
theorem len_l_read {K : PySem.W.Frag} {A : Ad} {vs : List V} {H : Hp} {Q : VK} {E : XK} (h : sp_l_read K A vs H Q E) : vs.length = 3 := by
  obtain ⟨_, _, _, _, _, rfl, _⟩ := h; rfl
def sp_l_walked (K : PySem.W.Frag) (A : Ad) : Sp := fun vs H Q E => ∃ (LL AL : Addr) (b p S : Nat) (o0 : Op) (os : List Op) (rs : List RR) (ks : KS), vs = [.ref LL, .ref AL] ∧ H LL = some (.lst (rowsV (o0 :: os))) ∧ H AL = some (.lst ((("ok" : Str) :: rs.map RR.text).map V.str)) ∧
  Tr b p S 1 ks (fun _ => 0) 0 os rs ∧ Pow ks.x ∧ (∃ st, ks = .disk st S) ∧ os.length ≤ 200 ∧ ∀ H', Q (.bl true) H'
theorem len_l_walked {K : PySem.W.Frag} {A : Ad} {vs : List V} {H : Hp} {Q : VK} {E : XK} (h : sp_l_walked K A vs H Q E) : vs.length = 2 := by
  obtain ⟨_, _, _, _, _, _, _, _, _, rfl, _⟩ := h; rfl
abbrev t_lw (K : PySem.W.Frag) (A : Ad) : TS :=
  (tFor (iRng1 (tCons (tOp zAdd (tC (.int 1)) (tOp zMod (tOp zDivW (tVar 4) (tC (.int 4096))) (tC (.int 4)))) tNil)) (gName 7)
  (tDrop (tBM K "list" rAppend (tVar 2) (tCons (tOp zAddS (tOp zAddS (tOp zAddS (tC (.str "write ")) (tVar 5)) (tC (.str " "))) (tCB zStrI (tCons (tOp zMod (tOp zDivW (tVar 4) (tOp zAdd (tC (.int 64)) (tVar 7))) (tOp zPow (tC (.int 10)) (tC (.int 12)))) tNil))) tNil))))
abbrev t_lways (K : PySem.W.Frag) (A : Ad) : TS :=
  (tIfS (tTest (tOp zLt (tVar 6) (tC (.int 7))))
  (t_lw K A)
  (tIfS (tTest (tOp zLt (tVar 6) (tC (.int 10))))
  (tDrop (tBM K "list" rAppend (tVar 2) (tCons (tOp zAddS (tC (.str "read ")) (tVar 5)) tNil)))
  (tIfS (tTest (tOp zLt (tVar 6) (tC (.int 12))))
  (tDrop (tBM K "list" rAppend (tVar 2) (tCons (tOp zAddS (tC (.str "power ")) (tCB zStrI (tCons (tOp zMod (tOp zDivW (tVar 4) (tC (.int 4096))) (tC (.int 9))) tNil))) tNil)))
  (tIfS (tTest (tOp rEq (tVar 6) (tC (.int 12))))
  (tDrop (tBM K "list" rAppend (tVar 2) (tCons (tC (.str "power all")) tNil)))
  (tIfS (tTest (tOp zLt (tVar 6) (tC (.int 15))))
  (tAsg (tOp rCat (tVar 2) (tLst (tCons (tC (.str "power all")) (tCons (tC (.str "mount")) tNil)))) (gName 2))
  (tDrop (tBM K "list" rAppend (tVar 2) (tCons (tOp (rIxL K) (tLst (tCons (tOp zAddS (tC (.str "worn ")) (tCB zStrI (tCons (tOp zMod (tOp zDivW (tVar 4) (tC (.int 64))) (tOp (rIxT K) (tVar 1) (tC (.int 0)))) tNil))) (tCons (tC (.str "written")) tNil))) (tOp zMod (tOp zDivW (tVar 4) (tC (.int 16))) (tC (.int 2)))) tNil))))))))
abbrev t_lbody (K : PySem.W.Frag) (A : Ad) : TS :=
  (tSeq (tAsg (tCall (sp_l_drawn K A) [] E0 (tCons (tCall (sp_l_cell K A) [] E0 (tCons (tVar 0) (tCons (tVar 3) tNil))) (tCons (tOp zAdd (tVar 3) (tC (.int 20))) tNil))) (gName 4))
  (tSeq (tAsg (tCB zStrI (tCons (tOp zMod (tOp zDivW (tVar 4) (tC (.int 16))) (tOp (rIxT K) (tVar 1) (tC (.int 2)))) tNil)) (gName 5))
  (tSeq (tAsg (tOp zMod (tVar 4) (tC (.int 16))) (gName 6))
  (t_lways K A))))
def N_l_lines : List Str := ["_law_script", "_law_many", "_law_lines_here", "_law_k", "_law_more", "_law_sector", "_law_way", "_law_j"]
def t_l_lines (K : PySem.W.Frag) (A : Ad) (E : XK) : TS :=
  (tSeq (tAsg (tLst (tCons (tOp zAddS (tOp zAddS (tOp zAddS (tOp zAddS (tOp zAddS (tC (.str "chip ")) (tCB zStrI (tCons (tOp (rIxT K) (tVar 1) (tC (.int 0))) tNil))) (tC (.str " "))) (tCB zStrI (tCons (tOp (rIxT K) (tVar 1) (tC (.int 1))) tNil))) (tC (.str " "))) (tCB zStrI (tCons (tOp (rIxT K) (tVar 1) (tC (.int 2))) tNil))) tNil)) (gName 2))
  (tSeq (tFor (iRng1 (tCons (tCB zMax2 (tCons (tC (.int 1)) (tCons (tCB zMin2 (tCons (tC (.int 40)) (tCons (tCB (zLen K) (tCons (tVar 0) tNil)) tNil))) tNil))) tNil)) (gName 3)
  (t_lbody K A))
  (tRet (tVar 2))))

def N_l_read : List Str := ["_law_may", "_law_sector", "_law_answer"]
def t_l_read (K : PySem.W.Frag) (A : Ad) (E : XK) : TS :=
  (tSeq (tIfS (tTest (tOp (rIn K true) (tVar 2) (tDGet2 (tVar 0) (tVar 1) (tLst (tCons (tC (.str "0")) tNil)))))
  (tRet (tC (.bl false)))
  tNext)
  (tSeq (sDPut (tVar 0) (tVar 1) (tLst (tCons (tVar 2) tNil)))
  (tRet (tC (.bl true)))))

abbrev t_kw (K : PySem.W.Frag) (A : Ad) : TS :=
  (tIfS (tAnd (tTest (tOp rEq (tVar 8) (tC (.str "refused: Cut")))) (tTest (tOp zNotN (tVar 5) (tC .non))))
  (tSeq (sDPut (tVar 2) (tOp (rIxL K) (tVar 7) (tC (.int 1))) (tOp rCat (tDGet2 (tVar 2) (tOp (rIxL K) (tVar 7) (tC (.int 1))) (tLst (tCons (tC (.str "0")) tNil))) (tLst (tCons (tOp (rIxL K) (tVar 7) (tC (.int 2))) tNil))))
  (tAsg (tC (.bl false)) (gName 4)))
  (tIfS (tTest (tOp rEq (tVar 8) (tC (.str "ok"))))
  (sDPut (tVar 2) (tOp (rIxL K) (tVar 7) (tC (.int 1))) (tLst (tCons (tOp (rIxL K) (tVar 7) (tC (.int 2))) tNil)))
  (tRet (tC (.bl false)))))
abbrev t_k6 (K : PySem.W.Frag) (A : Ad) : TS :=
  (tIfS (tAnd (tTest (tOp (rIn K false) (tOp (rIxL K) (tVar 7) (tC (.int 0))) (tLst (tCons (tC (.str "worn")) (tCons (tC (.str "written")) tNil))))) (tB (tBM0 K "str" zIsDig (tVar 8))))
  (tSeq (tIfS (tTest (tOp zLt (tCB zIntS (tCons (tVar 8) tNil)) (tDGet2 (tVar 3) (tOp (rIxL K) (tVar 0) (tVar 6)) (tC (.int 0)))))
  (tRet (tC (.bl false)))
  tNext)
  (sDPut (tVar 3) (tOp (rIxL K) (tVar 0) (tVar 6)) (tCB zIntS (tCons (tVar 8) tNil))))
  (tRet (tC (.bl false))))
abbrev t_k5 (K : PySem.W.Frag) (A : Ad) : TS :=
  (tIfS (tAnd (tTest (tOp rEq (tOp (rIxL K) (tVar 7) (tC (.int 0))) (tC (.str "mount")))) (tTest (tOp rEq (tVar 8) (tC (.str "ok")))))
  (tAsg (tC (.bl true)) (gName 4))
  (t_k6 K A))
abbrev t_k4 (K : PySem.W.Frag) (A : Ad) : TS :=
  (tIfS (tAnd (tTest (tOp rEq (tOp (rIxL K) (tVar 7) (tC (.int 0))) (tC (.str "power")))) (tTest (tOp rEq (tVar 8) (tC (.str "ok")))))
  (tAsg (tOp (rIxL K) (tLst (tCons (tOp (rIxL K) (tVar 7) (tC (.int 1))) (tCons (tC .non) tNil))) (tCB zInt1 (tCons (tOp rEq (tOp (rIxL K) (tVar 7) (tC (.int 1))) (tC (.str "all"))) tNil))) (gName 5))
  (t_k5 K A))
abbrev t_k3 (K : PySem.W.Frag) (A : Ad) : TS :=
  (tIfS (tTest (tOp rEq (tOp (rIxL K) (tVar 7) (tC (.int 0))) (tC (.str "read"))))
  (tIfS (tNot (tB (tCall (sp_l_read K A) [] E0 (tCons (tVar 2) (tCons (tOp (rIxL K) (tVar 7) (tC (.int 1))) (tCons (tVar 8) tNil))))))
  (tRet (tC (.bl false)))
  tNext)
  (t_k4 K A))
abbrev t_k2 (K : PySem.W.Frag) (A : Ad) : TS :=
  (tIfS (tTest (tOp rEq (tOp (rIxL K) (tVar 7) (tC (.int 0))) (tC (.str "write"))))
  (t_kw K A)
  (t_k3 K A))
abbrev t_k1 (K : PySem.W.Frag) (A : Ad) : TS :=
  (tIfS (tAnd (tTest (tOp (rIn K false) (tOp (rIxL K) (tVar 7) (tC (.int 0))) (tLst (tCons (tC (.str "write")) (tCons (tC (.str "read")) tNil))))) (tNot (tB (tVar 4))))
  (tIfS (tTest (tOp rNe (tVar 8) (tC (.str "refused: NoDisk"))))
  (tRet (tC (.bl false)))
  tNext)
  (t_k2 K A))
abbrev t_kbody (K : PySem.W.Frag) (A : Ad) : TS :=
  (tSeq (tAsg (tBM K "str" zSplit (tOp (rIxL K) (tVar 0) (tVar 6)) (tCons (tC (.str " ")) tNil)) (gName 7))
  (tSeq (tAsg (tOp (rIxL K) (tVar 1) (tVar 6)) (gName 8))
  (t_k1 K A)))
def N_l_walked : List Str := ["_law_lines_here", "_law_answers", "_law_may", "_law_last", "_law_is_there", "_law_left", "_law_k", "_law_words", "_law_answer"]
def t_l_walked (K : PySem.W.Frag) (A : Ad) (E : XK) : TS :=
  (tSeq (tAsg tDNewK (gName 2))
  (tSeq (tAsg tDNewK (gName 3))
  (tSeq (tAsg (tC (.bl true)) (gName 4))
  (tSeq (tAsg (tC .non) (gName 5))
  (tSeq (tFor (iRng2 (tCons (tC (.int 1)) (tCons (tCB (zLen K) (tCons (tVar 0) tNil)) tNil))) (gName 6)
  (t_kbody K A))
  (tRet (tC (.bl true))))))))

abbrev t_l18 (K : PySem.W.Frag) (A : Ad) : TS :=
  (tSeq (tIfS (tOr (tTest (tOp rNe (tCB (zLen K) (tCons (tVar 5) tNil)) (tCB (zLen K) (tCons (tVar 4) tNil)))) (tOr (tTest (tOp rNe (tOp (rIxL K) (tVar 5) (tC (.int 0))) (tC (.str "ok")))) (tTest (tOp (rNeD K) (tCall (sp_play K A) [] E0 (tCons (tBM K "str" (zJoin K) (tC (.str "\n")) (tCons (tVar 4) tNil)) tNil)) (tVar 5)))))
  (tRet (tC (.bl false)))
  tNext)
  (tRet (tCall (sp_l_walked K A) [] E0 (tCons (tVar 4) (tCons (tVar 5) tNil)))))
def N_law : List Str := ["_law_script", "_law_more", "_law_blocks", "_law_pages", "_law_lines_here", "_law_answers"]
def t_law (K : PySem.W.Frag) (A : Ad) (E : XK) : TS :=
  (tSeq (tAsg (tCall (sp_l_drawn K A) [] E0 (tCons (tCall (sp_l_cell K A) [] E0 (tCons (tVar 0) (tCons (tC (.int 0)) tNil))) (tCons (tC (.int 3)) tNil))) (gName 1))
  (tSeq (tAsg (tOp zAdd (tC (.int 4)) (tOp zMod (tVar 1) (tC (.int 4)))) (gName 2))
  (tSeq (tAsg (tOp zAdd (tC (.int 2)) (tOp zMod (tOp zDivW (tVar 1) (tC (.int 8))) (tC (.int 4)))) (gName 3))
  (tSeq (tAsg (tCall (sp_l_lines K A) [] E0 (tCons (tVar 0) (tCons (tTup (tCons (tVar 2) (tCons (tVar 3) (tCons (tOp zAdd (tC (.int 1)) (tOp zMod (tOp zDivW (tVar 1) (tC (.int 64))) (tOp zMul (tOp zSub (tVar 2) (tC (.int 2))) (tVar 3)))) tNil)))) tNil))) (gName 4))
  (tSeq (tAsg (tCall (sp_play K A) [] E0 (tCons (tBM K "str" (zJoin K) (tC (.str "\n")) (tCons (tVar 4) tNil)) tNil)) (gName 5))
  (t_l18 K A))))))




section
variable {K : PySem.W.Frag} {A : Ad} {vs : List V} {H H' H1 : Hp} {Q : VK} {E : XK}
theorem strI {xs : List V} {i : Int} {n : Nat} (e : i = (n : Int)) (hx : xs = [.int i]) (hn : n < 10 ^ 15) (k : Q (.str (num n)) H) : zStrI xs H Q := by
  subst e hx
  exact ⟨(n : Int), rfl, log_small (by omega) (by omega), k⟩
theorem addS {a b : Str} (ha : a.length ≤ 200) (hb : b.length ≤ 60) (k : Q (.str (a ++ b)) H) : zAddS (.str a) (.str b) H Q := ⟨a, b, rfl, rfl, Nat.le_trans (Nat.add_le_add ha hb) (by decide), k⟩
theorem tcI {v : V} {σ : L2.St} (h : Q v H) : tC v σ H Q := h
theorem la {a b : Str} {m n k : Nat} (ha : a.length ≤ m) (hb : b.length ≤ n) (h : m + n ≤ k) : (a ++ b).length ≤ k := by
  rw [len_app]; omega
theorem n60 {n : Nat} (h : n < 10 ^ 12) : (num n).length ≤ 60 := Nat.le_trans (num12 h) (by decide)
theorem appI {σ : L2.St} {i : Nat} {LL : Addr} {xs : List V} {D : Ends} {te : TE} {z : Str} (h0 : σ[i]? = some (some (.ref LL))) (hL : H LL = some (.lst xs)) (hte : ∀ R : VK, R (.str z) H → te σ H R) (hz : xs.length ≤ 1000) (k : D.nx σ (upd H LL (.lst (xs ++ [.str z])))) :
    tDrop (tBM K "list" rAppend (tVar i) (tCons te tNil)) D σ H :=
  ⟨_, h0, .inl ⟨rfl, _, SqL.of hL⟩, hte _ ⟨LL, xs, _, rfl, rfl, hL, Nat.lt_of_le_of_lt hz (by decide), k⟩⟩
structure LSt (H0 H : Hp) (LL : Addr) (o0 : Op) (b S : Nat) (n : Nat) (os : List Op) : Prop where
  s : Same H0 H
  nL : H0 LL = none
  at_ : H LL = some (.lst (rowsV (o0 :: os)))
  rows : Rows b S os
  len : os.length ≤ n
theorem LSt.same {H0 H H1 : Hp} {LL : Addr} {o0 : Op} {b S n : Nat} {os : List Op} (h : LSt H0 H LL o0 b S n os) (s : Same H H1) : LSt H0 H1 LL o0 b S n os := ⟨h.s.trans s, h.nL, s _ _ h.at_, h.rows, h.len⟩
theorem LSt.add {H0 H : Hp} {LL : Addr} {o0 : Op} {b S n : Nat} {os : List Op} {o : Op} (h : LSt H0 H LL o0 b S n os) (ok : OpOk b S o) (ne : o ≠ .mount) : LSt H0 (upd H LL (.lst (rowsV (o0 :: os) ++ [.str o.row]))) LL o0 b S (n + 1) (os ++ [o]) :=
  ⟨fun y u e => by rw [upd_ne (fun z => by rw [z, h.nL] at e; cases e)]; exact h.s _ _ e, h.nL, by
    rw [upd_same]
    show some (HO.lst (rowsV (o0 :: os) ++ rowsV [o])) = _
    rw [← rowsV_app]; rfl, h.rows.app (.one ok ne), by rw [List.length_append]; exact Nat.add_le_add_right h.len 1⟩
theorem LSt.mono {H0 H : Hp} {LL : Addr} {o0 : Op} {b S n m : Nat} {os : List Op} (h : LSt H0 H LL o0 b S n os) (k : n ≤ m) : LSt H0 H LL o0 b S m os := ⟨h.s, h.nL, h.at_, h.rows, Nat.le_trans h.len k⟩
theorem LSt.z {H0 H : Hp} {LL : Addr} {o0 : Op} {b S n : Nat} {os : List Op} (h : LSt H0 H LL o0 b S n os) (k : n ≤ 900) : (rowsV (o0 :: os)).length ≤ 1000 := by
  rw [rowsV_len, List.length_cons]; have := h.len; omega
theorem nat_of {i : Int} (h : 0 ≤ i) : ∃ n : Nat, i = (n : Int) := ⟨i.toNat, by omega⟩
abbrev sgL (l tp LL : Addr) (v3 : Option V) (m : Int) (sn : Nat) (w : Int) (v7 : Option V) : L2.St := [some (.ref l), some (.ref tp), some (.ref LL), v3, some (.int m), some (.str (num sn)), some (.int w), v7]
theorem lines_w {D : Ends} {l tp LL : Addr} {v3 v7 : Option V} {m w : Int} {sn b S n : Nat} {H0 : Hp} {o0 : Op} {os : List Op} (L : LSt H0 H LL o0 b S n os) (m0 : 0 ≤ m) (m1 : m < 2 ^ 128) (hs : sn < S) (hS : S ≤ 100) (hn : n ≤ 800)
    (k : ∀ H' v7 os', LSt H0 H' LL o0 b S (n + 4) os' → D.nx (sgL l tp LL v3 m sn w v7) H') : t_lw K A D (sgL l tp LL v3 m sn w v7) H := by
  refine ⟨_, rfl, _, _, rfl, rfl, divW (by decide) (by decide), _, _, rfl, rfl, md (by decide), _, _, rfl, rfl, _, rfl, by omega, by omega, ?_⟩
  refine for_range (lo := 0) (fun i σ H' => ∃ v7 os', σ = sgL l tp LL v3 m sn w v7 ∧ LSt H0 H' LL o0 b S (n + i) os') ⟨v7, os, rfl, L⟩ ?_ (by
    rintro σ H' ⟨v7, os', rfl, L'⟩
    exact k H' v7 os' (L'.mono (by omega)))
  rintro i σ H2 hi ⟨v7, os', rfl, L2⟩
  have hi4 : i < 4 := by omega
  have e0 : 0 ≤ m / (64 + (0 + (i : Int))) % 10 ^ (12 : Int).toNat := Int.emod_nonneg _ (by decide)
  have e1 : m / (64 + (0 + (i : Int))) % 10 ^ (12 : Int).toNat < 10 ^ (12 : Int).toNat := Int.emod_lt_of_pos _ (by decide)
  obtain ⟨cn, ec⟩ := nat_of e0
  have hcn : cn < 10 ^ 12 := by
    rw [ec] at e1
    have : ((10 : Int) ^ (12 : Int).toNat) = 1000000000000 := by decide
    omega
  have hsn : sn < 10 ^ 12 := by omega
  have w6 : ("write " : Str).length ≤ 10 := by decide +kernel
  have s1 : (" " : Str).length ≤ 1 := by decide +kernel
  have L3 := L2.add (o := .write sn cn) ⟨by omega, hsn, hcn⟩ (fun z => by cases z)
  refine appI (z := (Op.write sn cn).row) rfl L2.at_ ?_ (L2.z (by omega)) ⟨_, _, rfl, L3.mono (by omega)⟩
  intro R r
  refine ⟨_, rfl, addS (Nat.le_trans w6 (by decide)) (n60 hsn) ?_⟩
  refine tcI ?_
  refine addS (la w6 (num12 hsn) (by decide : 10 + 12 ≤ 200)) (Nat.le_trans s1 (by decide)) ?_
  refine ⟨_, rfl, _, rfl, _, _, rfl, rfl, _, _, rfl, rfl, divW (by omega) (by omega), _, _, rfl, rfl, ⟨by decide, by decide, by decide⟩, _, _, rfl, rfl, md (by decide), ?_⟩
  refine nil1 ?_
  refine strI ec rfl (Nat.lt_of_lt_of_le hcn (by decide)) ?_
  exact addS (la (la w6 (num12 hsn) (Nat.le_refl _)) s1 (by decide : 10 + 12 + 1 ≤ 200)) (n60 hcn) r
theorem lines_ways {D : Ends} {l tp LL : Addr} {v3 v7 : Option V} {m : Int} {sn b p S n : Nat} {H0 : Hp} {o0 : Op} {os : List Op} (L : LSt H0 H LL o0 b S n os) (htp : H tp = some (.tup [.int b, .int p, .int S])) (m0 : 0 ≤ m) (m1 : m < 2 ^ 128) (hs : sn < S) (hS : S ≤ 100) (b4 : 4 ≤ b) (b7 : b ≤ 7) (hn : n ≤ 800)
    (k : ∀ H' LL' v7 os', LSt H0 H' LL' o0 b S (n + 4) os' → D.nx (sgL l tp LL' v3 m sn (m % 16) v7) H') : t_lways K A D (sgL l tp LL v3 m sn (m % 16) v7) H := by
  have hsn : sn < 10 ^ 12 := by omega
  have r5 : ("read " : Str).length ≤ 10 := by decide +kernel
  have p6 : ("power " : Str).length ≤ 10 := by decide +kernel
  have n5 : ("worn " : Str).length ≤ 10 := by decide +kernel
  refine ⟨_, rfl, _, _, rfl, rfl, _, rfl, ?_⟩
  by_cases h1 : m % 16 < 7
  · exact ifD h1 (lines_w L m0 m1 hs hS hn fun H' v7 os' L' => k H' LL v7 os' L')
  refine ifDn h1 ⟨_, rfl, _, _, rfl, rfl, _, rfl, ?_⟩
  by_cases h2 : m % 16 < 10
  · refine ifD h2 (appI (z := (Op.read sn).row) rfl L.at_ ?_ (L.z (by omega)) (k _ LL _ _ ((L.add (o := .read sn) ⟨by omega, hsn⟩ (fun z => by cases z)).mono (by omega))))
    exact fun R r => ⟨_, rfl, addS (Nat.le_trans r5 (by decide)) (n60 hsn) r⟩
  refine ifDn h2 ⟨_, rfl, _, _, rfl, rfl, _, rfl, ?_⟩
  by_cases h3 : m % 16 < 12
  · have e0 := Int.emod_nonneg (m / 4096) (b := 9) (by decide)
    have e1 := Int.emod_lt_of_pos (m / 4096) (b := 9) (by decide)
    obtain ⟨pn, ep⟩ := nat_of e0
    have hp : pn < 10 ^ 12 := by omega
    refine ifD h3 (appI (z := (Op.power pn).row) rfl L.at_ ?_ (L.z (by omega)) (k _ LL _ _ ((L.add (o := .power pn) hp (fun z => by cases z)).mono (by omega))))
    intro R r
    refine ⟨_, rfl, _, _, rfl, rfl, divW (by decide) (by decide), _, _, rfl, rfl, md (by decide), ?_⟩
    refine nil1 ?_
    refine strI ep rfl (Nat.lt_of_lt_of_le hp (by decide)) ?_
    exact addS (Nat.le_trans p6 (by decide)) (n60 hp) r
  refine ifDn h3 ⟨_, rfl, rfl, _, rfl, ?_⟩
  by_cases h4 : V.int (m % 16) = V.int 12
  · refine ifD h4 (appI (z := Op.all.row) rfl L.at_ ?_ (L.z (by omega)) (k _ LL _ _ ((L.add (o := .all) trivial (fun z => by cases z)).mono (by omega))))
    exact fun R r => r
  refine ifDn h4 ⟨_, rfl, _, _, rfl, rfl, _, rfl, ?_⟩
  by_cases h5 : m % 16 < 15
  · refine ifD h5 ?_
    refine ⟨_, rfl, (by show 2 ≤ sizeLine; decide), fun l2 n2 => ?_⟩
    have L2 := L.same (Same.new (o := .lst [.str "power all", .str "mount"]) n2)
    refine ⟨LL, l2, _, _, rfl, rfl, L2.at_, upd_same, ?_, fun l3 n3 => ?_⟩
    · have := L.z (by omega)
      exact Nat.le_trans (Nat.add_le_add_right this 2) (by decide)
    · have s3 := Same.new (o := .lst (rowsV (o0 :: os) ++ rowsV [.all, .mount])) n3
      refine k _ l3 _ (os ++ [.all, .mount]) ⟨L2.s.trans s3, L2.s.free n3, ?_, L.rows.app .mount, ?_⟩
      · rw [show o0 :: (os ++ [.all, .mount]) = (o0 :: os) ++ [.all, .mount] from rfl, rowsV_app]
        exact upd_same
      · rw [List.length_append]
        have := L.len
        show os.length + 2 ≤ n + 4
        omega
  refine ifDn h5 ?_
  have e0 := Int.emod_nonneg (m / 64) (b := (b : Int)) (by omega)
  have e1 := Int.emod_lt_of_pos (m / 64) (b := (b : Int)) (by omega)
  obtain ⟨wn, ew⟩ := nat_of e0
  have hw : wn < 10 ^ 12 := by omega
  refine ⟨_, rfl, .inl ⟨rfl, _, SqL.of L.at_⟩, _, rfl, _, _, rfl, rfl, divW (by decide) (by decide), _, rfl, tp, _, 0, .int b, rfl, rfl, SqT.of htp, at_of (j := 0) rfl rfl, _, _, rfl, rfl, md (by omega), ?_⟩
  refine nil1 ?_
  refine strI ew rfl (Nat.lt_of_lt_of_le hw (by decide)) ?_
  refine addS (Nat.le_trans n5 (by decide)) (n60 hw) ?_
  refine ⟨(by show 2 ≤ sizeLine; decide), fun q nq => ?_⟩
  have L2 := L.same (Same.new (o := .lst [.str (Op.worn wn).row, .str Op.written.row]) nq)
  obtain ⟨o, eo, ok, ne⟩ : ∃ o : Op, atI [V.str (Op.worn wn).row, V.str Op.written.row] (m / 16 % 2) = some (.str o.row) ∧ OpOk b S o ∧ o ≠ .mount := by
    rcases (by omega : m / 16 % 2 = 0 ∨ m / 16 % 2 = 1) with e | e
    · exact ⟨.worn wn, at_of (j := 0) e rfl, ⟨by omega, hw⟩, fun z => by cases z⟩
    · exact ⟨.written, at_of (j := 1) e rfl, trivial, fun z => by cases z⟩
  refine ⟨_, rfl, _, _, rfl, rfl, divW (by decide) (by decide), _, _, rfl, rfl, md (by decide), q, _, _, .str o.row, rfl, rfl, SqL.of upd_same, eo, LL, _, _, rfl, rfl, L2.at_, Nat.lt_of_le_of_lt (L.z (by omega)) (by decide), ?_⟩
  exact k _ LL _ _ ((L2.add (o := o) ok ne).mono (by omega))
theorem rounds40 {L : Nat} : 1 ≤ (if (if (L : Int) < 40 then (L : Int) else 40) > 1 then (if (L : Int) < 40 then (L : Int) else 40) else 1) ∧ (if (if (L : Int) < 40 then (L : Int) else 40) > 1 then (if (L : Int) < 40 then (L : Int) else 40) else 1) ≤ 40 := by
  constructor
  · split <;> (try split) <;> omega
  · split <;> (try split) <;> omega
theorem pure_l_lines {Z : Prop} (F : Z) (h : sp_l_lines K A vs H Q E) : t_l_lines K A E { nx := fun _ H' => Q .non H', rt := Q } (start N_l_lines vs) H := by
  obtain ⟨l, tp, ns, b, p, S, rfl, hl, hn, htp, b4, b7, p2, p5, S1, S2, k⟩ := h
  have c5 : ("chip " : Str).length ≤ 10 := by decide +kernel
  have s1 : (" " : Str).length ≤ 1 := by decide +kernel
  have hb : b < 10 ^ 12 := by omega
  have hp : p < 10 ^ 12 := by omega
  have hS : S < 10 ^ 12 := by omega
  have lb := la c5 (num12 hb) (Nat.le_refl _)
  have lb1 := la lb s1 (Nat.le_refl _)
  have lp := la lb1 (num12 hp) (Nat.le_refl _)
  have lp1 := la lp s1 (Nat.le_refl _)
  refine ⟨_, rfl, tp, _, 0, .int b, rfl, rfl, SqT.of htp, at_of (j := 0) rfl rfl, ?_⟩
  refine nil1 ?_
  refine strI rfl rfl (Nat.lt_of_lt_of_le hb (by decide)) ?_
  refine addS (Nat.le_trans c5 (by decide)) (n60 hb) ?_
  refine tcI ?_
  refine addS (Nat.le_trans lb (by decide)) (Nat.le_trans s1 (by decide)) ?_
  refine ⟨_, rfl, tp, _, 1, .int p, rfl, rfl, SqT.of htp, at_of (j := 1) rfl rfl, ?_⟩
  refine nil1 ?_
  refine strI rfl rfl (Nat.lt_of_lt_of_le hp (by decide)) ?_
  refine addS (Nat.le_trans lb1 (by decide)) (n60 hp) ?_
  refine tcI ?_
  refine addS (Nat.le_trans lp (by decide)) (Nat.le_trans s1 (by decide)) ?_
  refine ⟨_, rfl, tp, _, 2, .int S, rfl, rfl, SqT.of htp, at_of (j := 2) rfl rfl, ?_⟩
  refine nil1 ?_
  refine strI rfl rfl (Nat.lt_of_lt_of_le hS (by decide)) ?_
  refine addS (Nat.le_trans lp1 (by decide)) (n60 hS) ?_
  refine ⟨(by show 1 ≤ sizeLine; decide), fun LL nL => ?_⟩
  have hL : (ns.map V.int).length ≤ 63 := by rw [List.length_map]; exact hn
  have rb := rounds40 (L := (ns.map V.int).length)
  have s0 := Same.new (o := .lst (rowsV [Op.chip b p S])) nL
  refine ⟨_, rfl, l, _, rfl, .inl (s0.seq hl), _, _, rfl, _, _, rfl, _, rfl, by omega, by omega, ?_⟩
  refine for_range (lo := 0) (fun i σ H' => ∃ v3 v4 v5 v6 v7 LL os, σ = [some (.ref l), some (.ref tp), some (.ref LL), v3, v4, v5, v6, v7] ∧ LSt H H' LL (.chip b p S) b S (4 * i) os)
    ⟨_, _, _, _, _, LL, [], rfl, ⟨s0, nL, upd_same, ⟨(fun o ho => by cases ho), trivial⟩, Nat.le_refl _⟩⟩ ?_ ?_
  · rintro i σ H2 hi ⟨v3, v4, v5, v6, v7, LL, os, rfl, L⟩
    refine ⟨_, rfl, _, rfl, l, ns, _, rfl, L.s.seq hl, hn, by omega, fun c H3 s3 => ⟨_, rfl, _, _, rfl, rfl, c, _, rfl, fun m m0 m1 => ?_⟩⟩
    have L3 := L.same s3
    have e0 := Int.emod_nonneg (m / 16) (b := (S : Int)) (by omega)
    have e1 := Int.emod_lt_of_pos (m / 16) (b := (S : Int)) (by omega)
    obtain ⟨sn, es⟩ := nat_of e0
    refine ⟨_, rfl, _, _, rfl, rfl, divW (by decide) (by decide), _, rfl, tp, _, 2, .int S, rfl, rfl, SqT.of (L3.s _ _ htp), at_of (j := 2) rfl rfl, _, _, rfl, rfl, md (by omega), ?_⟩
    refine nil1 ?_
    refine strI es rfl (by omega) ?_
    refine ⟨_, rfl, _, _, rfl, rfl, md (by decide), ?_⟩
    exact lines_ways (K := K) (A := A) (p := p) L3 (L3.s _ _ htp) m0 m1 (by omega) S2 b4 b7 (by omega) fun H' LL' v7 os' L' => ⟨_, _, _, _, _, LL', os', rfl, L'.mono (by omega)⟩
  · rintro σ H2 ⟨v3, v4, v5, v6, v7, LL, os, rfl, L⟩
    exact ⟨_, rfl, k os LL H2 L.s L.nL L.at_ L.rows (by have := L.len; omega)⟩
end

section
variable {K : PySem.W.Frag} {A : Ad} {vs : List V} {H H' H1 : Hp} {Q : VK} {E : XK}
def LKeep (H H' : Hp) : Prop := ∀ a xs, H a = some (.lst xs) → H' a = some (.lst xs)
theorem lk_of (s : Same H H') : LKeep H H' := fun a xs e => s _ _ e
theorem dputI {td ty tv : TE} {D : Ends} {σ : L2.St} (h : tv σ H fun v H1 => td σ H1 fun x H2 => ty σ H2 fun y H3 => ∃ a H4, x = .ref a ∧ DPut H3 a y v H4 ∧ D.nx σ H4) : sDPut td ty tv D σ H := h
theorem MayGet.lk {kvs : List (Key × V)} {s : Str} {zs : List Str} (h : MayGet H kvs s zs) (k : LKeep H H') : MayGet H' kvs s zs := by
  unfold MayGet at h ⊢
  cases e : valV kvs (Sum.inr s) with
  | none => rw [e] at h; exact h
  | some v =>
    rw [e] at h
    obtain ⟨l, a, b⟩ := h
    exact ⟨l, a, k _ _ b⟩
theorem inV_strs {z : Str} : ∀ {zs : List Str}, z ∈ zs → inV (.str z) (zs.map V.str) = true
  | y :: ys, h => by
    rcases List.mem_cons.mp h with e | e
    · rw [e]
      show (eqV (.str y) (.str y) || inV (.str y) (ys.map V.str)) = true
      rw [show eqV (.str y) (.str y) = true from beq_self_eq_true y]; rfl
    · show (eqV (.str y) (.str z) || inV (.str z) (ys.map V.str)) = true
      rw [inV_strs e, Bool.or_true]
theorem flat_strs : ∀ (zs : List Str), (zs.map V.str).all flatV = true
  | [] => rfl
  | z :: zs => by
    show (true && (zs.map V.str).all flatV) = true
    rw [flat_strs zs]; rfl
theorem mayI {σ : L2.St} {i : Nat} {d : Addr} {kvs : List (Key × V)} {s : Str} {zs : List Str} {ty : TE} (h0 : σ[i]? = some (some (.ref d))) (hd : H d = some (.dK kvs)) (hty : ∀ R : VK, R (.str s) H → ty σ H R) (M : MayGet H kvs s zs)
    (k : ∀ l H', Same H H' → H' l = some (.lst (zs.map V.str)) → Q (.ref l) H') : tDGet2 (tVar i) ty (tLst (tCons (tC (.str "0")) tNil)) σ H Q := by
  refine ⟨_, h0, d, rfl, .inl ⟨kvs, .inl hd⟩, hty _ ⟨(by show 1 ≤ sizeLine; decide), fun q nq => ?_⟩⟩
  have s1 := Same.new (o := .lst [.str "0"]) nq
  refine ⟨_, DGet.k (k := Sum.inr s) (s1 _ _ hd), ?_⟩
  unfold MayGet at M
  cases e : valV kvs (Sum.inr s) with
  | none =>
    rw [e] at M
    have M : zs = (["0"] : List Str) := M
    subst M
    exact k q _ s1 upd_same
  | some v =>
    rw [e] at M
    obtain ⟨l, rfl, hl⟩ := M
    exact k l _ s1 (s1 _ _ hl)
theorem pure_l_read {Z : Prop} (F : Z) (h : sp_l_read K A vs H Q E) : t_l_read K A E { nx := fun _ H' => Q .non H', rt := Q } (start N_l_read vs) H := by
  obtain ⟨d, kvs, s, z, zs, rfl, hd, hz, M, hm, k⟩ := h
  refine ⟨_, rfl, mayI rfl hd (fun R r => ⟨_, rfl, r⟩) M fun l H1 s1 hl => ⟨l, _, rfl, .inl (SqL.of hl), rfl, flat_strs zs, _, rfl, ?_⟩⟩
  rw [if_pos rfl, inV_strs hm]
  refine iteF ?_
  refine ⟨_, rfl, (by show 1 ≤ sizeLine; decide), fun l2 n2 => ?_⟩
  have s2 := Same.new (o := .lst [.str z]) n2
  have sA := s1.trans s2
  have hd2 := sA _ _ hd
  have nl : l2 ≠ d := fun e => by rw [← e, s1.free n2] at hd; cases hd
  refine ⟨_, rfl, _, rfl, d, _, rfl, DPut.k (k := Sum.inr s) hd2 (Nat.lt_of_le_of_lt hz (by decide)), ?_⟩
  exact k l2 _ (s1.free n2) (by rw [upd_ne nl]; exact upd_same) upd_same fun a o e ne => by rw [upd_ne ne]; exact sA _ _ e
structure Wk (H : Hp) (md ld : Addr) (S i : Nat) (f : Int → Int) (ks : KS) : Prop where
  may : ∃ kvs, H md = some (.dK kvs) ∧ kvs.length ≤ i ∧ ∀ s : Nat, s < S → ∃ zs, MayGet H kvs (num s) zs ∧ T (f (s : Int)) ∈ zs ∧ zs.length ≤ i + 1
  last : ∃ kvs, H ld = some (.dK kvs) ∧ kvs.length ≤ i ∧ (∀ (b : Nat) v, valV kvs (Sum.inr (Op.worn b).row) = some v → ∃ j, v = .int j ∧ j ≤ ks.wear b) ∧ (∀ v, valV kvs (Sum.inr Op.written.row) = some v → ∃ j, v = .int j ∧ j ≤ ks.many)
  ne : ld ≠ md
variable {md ld : Addr} {S i : Nat} {f f' : Int → Int} {ks ks' : KS}
theorem Wk.same (h : Wk H md ld S i f ks) (s : Same H H') : Wk H' md ld S i f ks :=
  ⟨let ⟨kvs, a, b, c⟩ := h.may; ⟨kvs, s _ _ a, b, fun t ht => let ⟨zs, x, y, z⟩ := c t ht; ⟨zs, x.lk (lk_of s), y, z⟩⟩, let ⟨kvs, a, b, c⟩ := h.last; ⟨kvs, s _ _ a, b, c⟩, h.ne⟩
theorem Wk.rise (h : Wk H md ld S i f ks) (hw : ∀ b : Nat, ks.wear b ≤ ks'.wear b) (hm : ks.many ≤ ks'.many) : Wk H md ld S (i + 1) f ks' :=
  ⟨let ⟨kvs, a, b, c⟩ := h.may; ⟨kvs, a, by omega, fun t ht => let ⟨zs, x, y, z⟩ := c t ht; ⟨zs, x, y, by omega⟩⟩, let ⟨kvs, a, b, c, d⟩ := h.last; ⟨kvs, a, by omega, fun t v e => let ⟨j, x, y⟩ := c t v e; ⟨j, x, Int.le_trans y (hw t)⟩, fun v e => let ⟨j, x, y⟩ := d v e; ⟨j, x, Int.le_trans y hm⟩⟩, h.ne⟩
theorem Wk.put (h : Wk H md ld S i f ks) {kvs : List (Key × V)} {s : Nat} {l : Addr} {zs : List Str} (hd : H md = some (.dK kvs)) (lk : LKeep H H') (hd' : H' md = some (.dK (putK kvs (Sum.inr (num s)) (.ref l)))) (hld : ∀ o, H ld = some o → H' ld = some o)
    (hl : H' l = some (.lst (zs.map V.str))) (hz : zs.length ≤ i + 2) (hm : T (f' (s : Int)) ∈ zs) (ff : ∀ t : Nat, t ≠ s → f' (t : Int) = f (t : Int)) : Wk H' md ld S (i + 1) f' ks := by
  obtain ⟨kvs2, a, b, c⟩ := h.may
  rw [hd] at a
  injection a with a
  injection a with a
  subst a
  refine ⟨⟨_, hd', Nat.le_trans (length_putK _ _ _) (by omega), fun t ht => ?_⟩, ?_, h.ne⟩
  · by_cases e : t = s
    · subst e
      refine ⟨zs, ?_, hm, hz⟩
      unfold MayGet
      rw [valV_put, if_pos rfl]
      exact ⟨l, rfl, hl⟩
    · obtain ⟨ys, x, y, z⟩ := c t ht
      refine ⟨ys, ?_, by rw [ff t e]; exact y, by omega⟩
      have x := x.lk lk
      unfold MayGet at x ⊢
      rw [valV_put, if_neg (fun q => e (num_inj.mp (Sum.inr.inj q)))]
      exact x
  · obtain ⟨kvs2, a, b, c⟩ := h.last
    exact ⟨kvs2, hld _ a, by omega, c⟩
theorem Adv.rise {Sz : Int} {o : Op} {r : RR} (h : Adv Sz ks f o ks' f' r) (hn : ks ≠ .no) : (∀ b : Nat, ks.wear b ≤ ks'.wear b) ∧ ks.many ≤ ks'.many := by
  have pw : ∀ l, (∀ b : Nat, ks.wear b ≤ (ks.pow l).wear b) ∧ ks.many ≤ (ks.pow l).many := fun l => by
    cases ks with
    | no => exact absurd rfl hn
    | chip x m => exact ⟨fun b => Int.le_refl _, Int.le_refl _⟩
    | disk st m => exact ⟨fun b => Int.le_refl _, Int.le_refl _⟩
  cases h with
  | goneW => exact ⟨fun b => Int.le_refl _, Int.le_refl _⟩
  | goneR => exact ⟨fun b => Int.le_refl _, Int.le_refl _⟩
  | read => exact ⟨fun b => Int.le_refl _, Int.le_refl _⟩
  | write s => exact ⟨fun b => s.rise.2 _, steps_many s⟩
  | cut s _ => exact ⟨fun b => s.rise.2 _, steps_many s⟩
  | power => exact pw _
  | all => exact pw _
  | mount s =>
    cases ks with
    | no => exact absurd rfl hn
    | chip x m => exact ⟨fun b => s.rise.2 _, steps_many s⟩
    | disk st m => exact ⟨fun b => s.rise.2 _, steps_many s⟩
  | worn => exact ⟨fun b => Int.le_refl _, Int.le_refl _⟩
  | written => exact ⟨fun b => Int.le_refl _, Int.le_refl _⟩
theorem num_of {j : Int} (h : 0 ≤ j) : T j = num j.toNat := by
  show T j = T (j.toNat : Int)
  rw [Int.toNat_of_nonneg h]
abbrev sgW (LL AL md ld : Addr) (th : Bool) (left : V) (kk : Int) (wp : Addr) (z : Str) : L2.St := [some (.ref LL), some (.ref AL), some (.ref md), some (.ref ld), some (.bl th), some left, some (.int kk), some (.ref wp), some (.str z)]
variable {LL AL wp : Addr} {th : Bool} {left : V} {kk : Int} {z w0 : Str} {ws : List Str} {D : Ends}
theorem k1_no (hw : H wp = some (.lst ((w0 :: ws).map V.str))) (hin : inV (.str w0) [.str "write", .str "read"] = false) (k : ∀ H', Same H H' → t_k2 K A D (sgW LL AL md ld th left kk wp z) H') : t_k1 K A D (sgW LL AL md ld th left kk wp z) H := by
  refine ⟨_, rfl, wp, _, 0, .str w0, rfl, rfl, SqL.of hw, at_of (j := 0) rfl rfl, (by show 2 ≤ sizeLine; decide), fun q nq => ⟨q, _, rfl, .inl (SqL.of upd_same), rfl, rfl, _, rfl, ?_⟩⟩
  rw [if_neg Bool.false_ne_true, hin]
  exact iteF (iteF (k _ (Same.new nq)))
theorem k1_there (hw : H wp = some (.lst ((w0 :: ws).map V.str))) (hin : inV (.str w0) [.str "write", .str "read"] = true) (k : ∀ H', Same H H' → t_k2 K A D (sgW LL AL md ld true left kk wp z) H') : t_k1 K A D (sgW LL AL md ld true left kk wp z) H := by
  refine ⟨_, rfl, wp, _, 0, .str w0, rfl, rfl, SqL.of hw, at_of (j := 0) rfl rfl, (by show 2 ≤ sizeLine; decide), fun q nq => ⟨q, _, rfl, .inl (SqL.of upd_same), rfl, rfl, _, rfl, ?_⟩⟩
  rw [if_neg Bool.false_ne_true, hin]
  exact iteT ⟨_, rfl, true, rfl, iteF (k _ (Same.new nq))⟩
theorem k1_gone (hw : H wp = some (.lst ((w0 :: ws).map V.str))) (hin : inV (.str w0) [.str "write", .str "read"] = true) (hz : z = "refused: NoDisk") (k : ∀ H', Same H H' → D.nx (sgW LL AL md ld false left kk wp z) H') : t_k1 K A D (sgW LL AL md ld false left kk wp z) H := by
  refine ⟨_, rfl, wp, _, 0, .str w0, rfl, rfl, SqL.of hw, at_of (j := 0) rfl rfl, (by show 2 ≤ sizeLine; decide), fun q nq => ⟨q, _, rfl, .inl (SqL.of upd_same), rfl, rfl, _, rfl, ?_⟩⟩
  rw [if_neg Bool.false_ne_true, hin]
  exact iteT ⟨_, rfl, false, rfl, iteT ⟨_, rfl, rfl, _, rfl, ifYesN (congrArg V.str hz) (k _ (Same.new nq))⟩⟩
theorem k2_no (hw : H wp = some (.lst ((w0 :: ws).map V.str))) (n : w0 ≠ "write") (k : t_k3 K A D (sgW LL AL md ld th left kk wp z) H) : t_k2 K A D (sgW LL AL md ld th left kk wp z) H :=
  ⟨_, rfl, wp, _, 0, .str w0, rfl, rfl, SqL.of hw, at_of (j := 0) rfl rfl, rfl, _, rfl, ifNo (str_no n) k⟩
theorem k3_no (hw : H wp = some (.lst ((w0 :: ws).map V.str))) (n : w0 ≠ "read") (k : t_k4 K A D (sgW LL AL md ld th left kk wp z) H) : t_k3 K A D (sgW LL AL md ld th left kk wp z) H :=
  ⟨_, rfl, wp, _, 0, .str w0, rfl, rfl, SqL.of hw, at_of (j := 0) rfl rfl, rfl, _, rfl, ifNo (str_no n) k⟩
theorem k4_no (hw : H wp = some (.lst ((w0 :: ws).map V.str))) (n : w0 ≠ "power") (k : t_k5 K A D (sgW LL AL md ld th left kk wp z) H) : t_k4 K A D (sgW LL AL md ld th left kk wp z) H :=
  ⟨_, rfl, wp, _, 0, .str w0, rfl, rfl, SqL.of hw, at_of (j := 0) rfl rfl, rfl, _, rfl, ifNo (str_no n) (iteF k)⟩
theorem k5_no (hw : H wp = some (.lst ((w0 :: ws).map V.str))) (n : w0 ≠ "mount") (k : t_k6 K A D (sgW LL AL md ld th left kk wp z) H) : t_k5 K A D (sgW LL AL md ld th left kk wp z) H :=
  ⟨_, rfl, wp, _, 0, .str w0, rfl, rfl, SqL.of hw, at_of (j := 0) rfl rfl, rfl, _, rfl, ifNo (str_no n) (iteF k)⟩
theorem kw_ok {s c : Nat} (W : Wk H md ld S i f ks) (hi : i ≤ 900) (hw : H wp = some (.lst ((Op.write s c).parts.map V.str)))
    (k : ∀ H', LKeep H H' → Wk H' md ld S (i + 1) (upf f s c) ks → D.nx (sgW LL AL md ld th left kk wp "ok") H') : t_kw K A D (sgW LL AL md ld th left kk wp "ok") H := by
  obtain ⟨kvs, hd, hk, _⟩ := id W.may
  refine ⟨_, rfl, rfl, _, rfl, ifNo (str_no (by decide +kernel)) (iteF ?_)⟩
  refine ⟨_, rfl, rfl, _, rfl, ifYes rfl ?_⟩
  refine ⟨_, rfl, wp, _, 2, .str (num c), rfl, rfl, SqL.of hw, at_of (j := 2) rfl rfl, (by show 1 ≤ sizeLine; decide), fun l2 n2 => ?_⟩
  have s2 := Same.new (o := .lst [.str (num c)]) n2
  have hd2 := s2 _ _ hd
  have nl : l2 ≠ md := fun e => by rw [← e, n2] at hd; cases hd
  refine ⟨_, rfl, _, rfl, wp, _, 1, .str (num s), rfl, rfl, SqL.of (s2 _ _ hw), at_of (j := 1) rfl rfl, md, _, rfl, DPut.k (k := Sum.inr (num s)) hd2 (Nat.lt_of_le_of_lt (show kvs.length ≤ 1000 by omega) (by decide)), ?_⟩
  have lk : LKeep H (upd (upd H l2 (.lst [.str (num c)])) md (.dK (putK kvs (Sum.inr (num s)) (.ref l2)))) := fun a xs e => by
    rw [upd_ne (fun q => by rw [q, hd] at e; cases e)]; exact s2 _ _ e
  refine k _ lk (W.put (zs := [num c]) hd lk upd_same (fun o e => by rw [upd_ne W.ne]; exact s2 _ _ e) (by rw [upd_ne nl]; exact upd_same) (by show 1 ≤ i + 2; omega) ?_ fun t ht => ?_)
  · rw [show upf f s c (s : Int) = (c : Int) from if_pos rfl]
    exact List.mem_singleton.mpr rfl
  · exact if_neg (by omega)
theorem kw_cut {s c : Nat} (W : Wk H md ld S i f ks) (hi : i ≤ 900) (hs : s < S) (hl : left ≠ .non) (hw : H wp = some (.lst ((Op.write s c).parts.map V.str)))
    (k : ∀ H', LKeep H H' → Wk H' md ld S (i + 1) f ks → D.nx (sgW LL AL md ld false left kk wp "refused: Cut") H') : t_kw K A D (sgW LL AL md ld true left kk wp "refused: Cut") H := by
  obtain ⟨kvs, hd, hk, hM⟩ := id W.may
  obtain ⟨zs, M, mem, hz⟩ := hM s hs
  refine ⟨_, rfl, rfl, _, rfl, ifYes rfl ⟨_, rfl, rfl, _, rfl, ifNoN hl ?_⟩⟩
  refine seqI ?_
  refine dputI ?_
  refine opI ?_
  refine mayI (s := num s) rfl hd (fun R r => ⟨_, rfl, wp, _, 1, .str (num s), rfl, rfl, SqL.of hw, at_of (j := 1) rfl rfl, r⟩) M fun l H1 s1 hl1 => ?_
  refine ⟨_, rfl, wp, _, 2, .str (num c), rfl, rfl, SqL.of (s1 _ _ hw), at_of (j := 2) rfl rfl, (by show 1 ≤ sizeLine; decide), fun l2 n2 => ?_⟩
  have s2 := Same.new (o := .lst [.str (num c)]) n2
  refine ⟨l, l2, _, _, rfl, rfl, s2 _ _ hl1, upd_same, ?_, fun l3 n3 => ?_⟩
  · rw [List.length_map]
    exact Nat.le_trans (show zs.length + 1 ≤ 1000 by omega) (by decide)
  have s3 := Same.new (o := .lst (zs.map V.str ++ [.str (num c)])) n3
  have sA := (s1.trans s2).trans s3
  have hd3 := sA _ _ hd
  have nl : l3 ≠ md := fun e => by rw [← e, (s1.trans s2).free n3] at hd; cases hd
  refine ⟨_, rfl, _, rfl, wp, _, 1, .str (num s), rfl, rfl, SqL.of (sA _ _ hw), at_of (j := 1) rfl rfl, md, _, rfl, DPut.k (k := Sum.inr (num s)) hd3 (Nat.lt_of_le_of_lt (show kvs.length ≤ 1000 by omega) (by decide)), ?_⟩
  have lk : LKeep H (upd (upd (upd H1 l2 (.lst [.str (num c)])) l3 (.lst (zs.map V.str ++ [.str (num c)]))) md (.dK (putK kvs (Sum.inr (num s)) (.ref l3)))) := fun a xs e => by
    rw [upd_ne (fun q => by rw [q, hd] at e; cases e)]; exact sA _ _ e
  refine k _ lk (W.put (zs := zs ++ [num c]) hd lk upd_same (fun o e => by rw [upd_ne W.ne]; exact sA _ _ e) (by rw [upd_ne nl, List.map_append]; exact upd_same) (by rw [List.length_append]; show zs.length + 1 ≤ i + 2; omega) (List.mem_append_left _ mem) fun t ht => rfl)
theorem k3_read {s : Nat} (W : Wk H md ld S i f ks) (hi : i ≤ 900) (hs : s < S) (hw : H wp = some (.lst ((Op.read s).parts.map V.str)))
    (k : ∀ H', LKeep H H' → Wk H' md ld S (i + 1) f ks → D.nx (sgW LL AL md ld th left kk wp (T (f (s : Int)))) H') : t_k3 K A D (sgW LL AL md ld th left kk wp (T (f (s : Int)))) H := by
  obtain ⟨kvs, hd, hk, hM⟩ := id W.may
  obtain ⟨zs, M, mem, hz⟩ := hM s hs
  refine ⟨_, rfl, wp, _, 0, .str "read", rfl, rfl, SqL.of hw, at_of (j := 0) rfl rfl, rfl, _, rfl, ifYes rfl ?_⟩
  refine ⟨_, rfl, _, rfl, wp, _, 1, .str (num s), rfl, rfl, SqL.of hw, at_of (j := 1) rfl rfl, _, rfl, md, kvs, num s, T (f (s : Int)), zs, rfl, hd, by omega, M, mem, fun l H' nl hl hd' fr => ⟨true, rfl, iteF ?_⟩⟩
  have lk : LKeep H H' := fun a xs e => fr a _ e fun q => by rw [q, hd] at e; cases e
  exact k H' lk (W.put (zs := [T (f (s : Int))]) hd lk hd' (fun o e => fr _ _ e W.ne) hl (by show 1 ≤ i + 2; omega) (List.mem_singleton.mpr rfl) fun t ht => rfl)
theorem k4_power {w1 : Str} {lv : V} (hw : H wp = some (.lst (([("power" : Str), w1]).map V.str))) (hlv : (w1 = "all" ∧ lv = .non) ∨ (w1 ≠ "all" ∧ lv = .str w1)) (k : ∀ H', Same H H' → D.nx (sgW LL AL md ld th lv kk wp "ok") H') :
    t_k4 K A D (sgW LL AL md ld th left kk wp "ok") H := by
  refine ⟨_, rfl, wp, _, 0, .str "power", rfl, rfl, SqL.of hw, at_of (j := 0) rfl rfl, rfl, _, rfl, ifYes rfl ⟨_, rfl, rfl, _, rfl, ifYes rfl ?_⟩⟩
  refine ⟨_, rfl, wp, _, 1, .str w1, rfl, rfl, SqL.of hw, at_of (j := 1) rfl rfl, (by show 2 ≤ sizeLine; decide), fun q nq => ?_⟩
  have s2 := Same.new (o := .lst [.str w1, .non]) nq
  refine ⟨_, rfl, wp, _, 1, .str w1, rfl, rfl, SqL.of (s2 _ _ hw), at_of (j := 1) rfl rfl, rfl, .inr ⟨_, rfl, q, _, _, lv, rfl, rfl, SqL.of upd_same, ?_, k _ s2⟩⟩
  rcases hlv with ⟨e, e2⟩ | ⟨e, e2⟩
  · rw [e, e2, decide_eq_true rfl]
    exact at_of (j := 1) rfl rfl
  · rw [e2, decide_eq_false (str_no e)]
    exact at_of (j := 0) rfl rfl
theorem k5_mount (hw : H wp = some (.lst (([("mount" : Str)]).map V.str))) (k : D.nx (sgW LL AL md ld true left kk wp "ok") H) : t_k5 K A D (sgW LL AL md ld th left kk wp "ok") H :=
  ⟨_, rfl, wp, _, 0, .str "mount", rfl, rfl, SqL.of hw, at_of (j := 0) rfl rfl, rfl, _, rfl, ifYes rfl ⟨_, rfl, rfl, _, rfl, ifYes rfl k⟩⟩
theorem k6_ok {o : Op} {n : Nat} {xs : List V} (W : Wk H md ld S i f ks) (hi : i ≤ 900) (hw : H wp = some (.lst ((w0 :: ws).map V.str))) (hin : inV (.str w0) [.str "worn", .str "written"] = true) (hL : H LL = some (.lst xs)) (hk : atI xs kk = some (.str o.row)) (hn : n < 10 ^ 15)
    (hv : ∀ kvs v, H ld = some (.dK kvs) → valV kvs (Sum.inr o.row) = some v → ∃ j, v = .int j ∧ j ≤ (n : Int))
    (k : ∀ H', LKeep H H' → (∀ kvs, H ld = some (.dK kvs) → H' ld = some (.dK (putK kvs (Sum.inr o.row) (.int n)))) → (∀ a u, H a = some u → a ≠ ld → H' a = some u) → D.nx (sgW LL AL md ld th left kk wp (num n)) H') : t_k6 K A D (sgW LL AL md ld th left kk wp (num n)) H := by
  obtain ⟨kvs, hd, hl, _⟩ := id W.last
  have hint : PySem.intText? (num n) = some (n : Int) := num_int (Nat.lt_of_lt_of_le hn (Nat.pow_le_pow_right (by decide) (by decide)))
  have hlen : (num n).length ≤ 640 := Nat.le_trans (num_len (k := 15) (by decide) hn) (by decide)
  refine ⟨_, rfl, wp, _, 0, .str w0, rfl, rfl, SqL.of hw, at_of (j := 0) rfl rfl, (by show 2 ≤ sizeLine; decide), fun q nq => ⟨q, _, rfl, .inl (SqL.of upd_same), rfl, rfl, _, rfl, ?_⟩⟩
  rw [if_neg Bool.false_ne_true, hin]
  have s1 := Same.new (o := .lst [.str "worn", .str "written"]) nq
  refine iteT ⟨_, rfl, rfl, num n, rfl, rfl, trivial, _, rfl, ?_⟩
  rw [num_isdigit]
  have hd1 := s1 _ _ hd
  obtain ⟨j, ej, hj⟩ : ∃ j : Int, (valV kvs (Sum.inr o.row)).getD (.int 0) = .int j ∧ j ≤ (n : Int) := by
    cases e : valV kvs (Sum.inr o.row) with
    | none => exact ⟨0, rfl, by omega⟩
    | some v =>
      obtain ⟨j, a, b⟩ := hv kvs v hd e
      exact ⟨j, by rw [a]; rfl, b⟩
  refine iteT ⟨_, rfl, num n, n, rfl, hint, hlen, ?_⟩
  refine ⟨_, rfl, ld, rfl, .inl ⟨kvs, .inl hd1⟩, _, rfl, _, rfl, LL, xs, kk, .str o.row, rfl, rfl, SqL.of (s1 _ _ hL), hk, _, DGet.k (k := Sum.inr o.row) hd1, (n : Int), j, rfl, ej, _, rfl, ifDn (by omega) ?_⟩
  refine ⟨_, rfl, num n, n, rfl, hint, hlen, ?_⟩
  refine ⟨_, rfl, _, rfl, _, rfl, LL, xs, kk, .str o.row, rfl, rfl, SqL.of (s1 _ _ hL), hk, ld, _, rfl, DPut.k (k := Sum.inr o.row) hd1 (Nat.lt_of_le_of_lt (show kvs.length ≤ 1000 by omega) (by decide)), ?_⟩
  refine k _ (fun a ys e => by rw [upd_ne (fun q => by rw [q, hd] at e; cases e)]; exact s1 _ _ e) (fun kvs2 e => ?_) fun a u e ne => by rw [upd_ne ne]; exact s1 _ _ e
  rw [hd] at e
  injection e with e
  injection e with e
  rw [← e]; exact upd_same
end

section
variable {K : PySem.W.Frag} {A : Ad} {vs : List V} {H H' H1 : Hp} {Q : VK} {E : XK} {md ld LL AL wp : Addr} {S i b p n C C' : Nat} {f f' : Int → Int} {ks ks' : KS} {th : Bool} {left : V} {kk : Int} {D : Ends} {o : Op} {r : RR}
theorem Wk.rise0 (h : Wk H md ld S i f ks) (g : (∀ b : Nat, ks.wear b ≤ ks'.wear b) ∧ ks.many ≤ ks'.many) : Wk H md ld S i f ks' :=
  ⟨h.may, let ⟨kvs, a, b, c, d⟩ := h.last; ⟨kvs, a, b, fun t v e => let ⟨j, x, y⟩ := c t v e; ⟨j, x, Int.le_trans y (g.1 t)⟩, fun v e => let ⟨j, x, y⟩ := d v e; ⟨j, x, Int.le_trans y g.2⟩⟩, h.ne⟩
theorem Wk.up (h : Wk H md ld S i f ks) : Wk H md ld S (i + 1) f ks := h.rise (fun _ => Int.le_refl _) (Int.le_refl _)
theorem Wk.putL (h : Wk H md ld S i f ks) {v : Int} (lk : LKeep H H') (hp : ∀ kvs, H ld = some (.dK kvs) → H' ld = some (.dK (putK kvs (Sum.inr o.row) (.int v)))) (fr : ∀ a u, H a = some u → a ≠ ld → H' a = some u)
    (h1 : ∀ b : Nat, (Op.worn b).row = o.row → v ≤ ks.wear b) (h2 : Op.written.row = o.row → v ≤ ks.many) : Wk H' md ld S (i + 1) f ks := by
  refine ⟨?_, ?_, h.ne⟩
  · obtain ⟨kvs, a, b, c⟩ := h.may
    exact ⟨kvs, fr _ _ a (Ne.symm h.ne), by omega, fun t ht => let ⟨zs, x, y, z⟩ := c t ht; ⟨zs, x.lk lk, y, by omega⟩⟩
  · obtain ⟨kvs, a, b, c, d⟩ := h.last
    refine ⟨_, hp _ a, Nat.le_trans (length_putK _ _ _) (by omega), fun t u e => ?_, fun u e => ?_⟩
    · rw [valV_put] at e
      by_cases q : (Sum.inr (Op.worn t).row : Key) = Sum.inr o.row
      · rw [if_pos q] at e
        exact ⟨v, (Option.some.inj e).symm, h1 t (Sum.inr.inj q)⟩
      · rw [if_neg q] at e
        exact c t u e
    · rw [valV_put] at e
      by_cases q : (Sum.inr Op.written.row : Key) = Sum.inr o.row
      · rw [if_pos q] at e
        exact ⟨v, (Option.some.inj e).symm, h2 (Sum.inr.inj q)⟩
      · rw [if_neg q] at e
        exact d u e
theorem inWrite : inV (.str "write") [.str "write", .str "read"] = true := by decide +kernel
theorem inRead : inV (.str "read") [.str "write", .str "read"] = true := by decide +kernel
theorem noPower : inV (.str "power") [.str "write", .str "read"] = false := by decide +kernel
theorem noMount : inV (.str "mount") [.str "write", .str "read"] = false := by decide +kernel
theorem noWorn : inV (.str "worn") [.str "write", .str "read"] = false := by decide +kernel
theorem noWritten : inV (.str "written") [.str "write", .str "read"] = false := by decide +kernel
theorem inWorn : inV (.str "worn") [.str "worn", .str "written"] = true := by decide +kernel
theorem inWritten : inV (.str "written") [.str "worn", .str "written"] = true := by decide +kernel
theorem txNoDisk : (RR.er .nodisk).text = "refused: NoDisk" := by decide +kernel
theorem txCut : (RR.er .cut).text = "refused: Cut" := by decide +kernel
theorem chip_disk {x : DC} {st : DS} {a b : Int} : KS.chip x a ≠ KS.disk st b := fun e => by cases e
theorem pow_disk {l : Option Int} : (∃ st, ks.pow l = .disk st (S : Int)) ↔ ∃ st, ks = .disk st (S : Int) := by
  cases ks with
  | no => exact ⟨fun ⟨_, e⟩ => (by cases e), fun ⟨_, e⟩ => (by cases e)⟩
  | chip x m => exact ⟨fun ⟨_, e⟩ => (by cases e), fun ⟨_, e⟩ => (by cases e)⟩
  | disk st m => exact ⟨fun ⟨_, e⟩ => (by cases e; exact ⟨st, rfl⟩), fun ⟨_, e⟩ => (by cases e; exact ⟨_, rfl⟩)⟩
theorem walk_op {xs : List V} (g : KG b p S n ks f C) (hn : n ≤ 900) (ok : OpOk b S o) (ad : Adv S ks f o ks' f' r) (W : Wk H md ld S i f ks) (hi : i ≤ 900) (hw : H wp = some (.lst (o.parts.map V.str))) (hLL : H LL = some (.lst xs)) (hk : atI xs kk = some (.str o.row))
    (ht : th = true ↔ ∃ st, ks = .disk st S) (hl : left = .non → Pow ks.x)
    (k : ∀ H' th' left', LKeep H H' → Wk H' md ld S (i + 1) f' ks' → (th' = true ↔ ∃ st, ks' = .disk st S) → (left' = .non → Pow ks'.x) → D.nx (sgW LL AL md ld th' left' kk wp r.text) H') :
    t_k1 K A D (sgW LL AL md ld th left kk wp r.text) H := by
  have rise := ad.rise g.ne
  have w1 : ("power" : Str) ≠ "write" := by decide +kernel
  have w2 : ("power" : Str) ≠ "read" := by decide +kernel
  have m1 : ("mount" : Str) ≠ "write" := by decide +kernel
  have m2 : ("mount" : Str) ≠ "read" := by decide +kernel
  have m3 : ("mount" : Str) ≠ "power" := by decide +kernel
  have o1 : ("worn" : Str) ≠ "write" := by decide +kernel
  have o2 : ("worn" : Str) ≠ "read" := by decide +kernel
  have o3 : ("worn" : Str) ≠ "power" := by decide +kernel
  have o4 : ("worn" : Str) ≠ "mount" := by decide +kernel
  have i1 : ("written" : Str) ≠ "write" := by decide +kernel
  have i2 : ("written" : Str) ≠ "read" := by decide +kernel
  have i3 : ("written" : Str) ≠ "power" := by decide +kernel
  have i4 : ("written" : Str) ≠ "mount" := by decide +kernel
  have r1 : ("read" : Str) ≠ "write" := by decide +kernel
  cases ad with
  | goneW =>
    have e : th = false := by
      cases q : th with
      | false => rfl
      | true => obtain ⟨st, z⟩ := ht.mp q; exact absurd z chip_disk
    subst e
    exact k1_gone hw inWrite txNoDisk fun H' s => k H' false left (lk_of s) (W.same s).up ht hl
  | goneR =>
    have e : th = false := by
      cases q : th with
      | false => rfl
      | true => obtain ⟨st, z⟩ := ht.mp q; exact absurd z chip_disk
    subst e
    exact k1_gone hw inRead txNoDisk fun H' s => k H' false left (lk_of s) (W.same s).up ht hl
  | @read st _ s =>
    have e : th = true := ht.mpr ⟨st, rfl⟩
    subst e
    have ok : (s : Int) < (S : Int) ∧ s < 10 ^ 12 := ok
    refine k1_there hw inRead fun H1 s1 => k2_no (s1 _ _ hw) r1 ?_
    exact k3_read (W.same s1) hi (by omega) (s1 _ _ hw) fun H' lk W' => k H' true left (fun a xs e => lk _ _ (s1 _ _ e)) W' ht hl
  | @write st st' _ s c stp =>
    have e : th = true := ht.mpr ⟨st, rfl⟩
    subst e
    refine k1_there hw inWrite fun H1 s1 => ?_
    refine ⟨_, rfl, wp, _, 0, .str "write", rfl, rfl, SqL.of (s1 _ _ hw), at_of (j := 0) rfl rfl, rfl, _, rfl, ifYes rfl ?_⟩
    exact kw_ok (s := s) (c := c) (W.same s1) hi (s1 _ _ hw) fun H' lk W' => k H' true left (fun a xs e => lk _ _ (s1 _ _ e)) (W'.rise0 rise) ⟨fun _ => ⟨_, rfl⟩, fun _ => rfl⟩ fun q => stp.pow (hl q)
  | @cut st x' _ s c stp np =>
    have e : th = true := ht.mpr ⟨st, rfl⟩
    subst e
    have ok : (s : Int) < (S : Int) ∧ s < 10 ^ 12 ∧ c < 10 ^ 12 := ok
    refine k1_there hw inWrite fun H1 s1 => ?_
    refine ⟨_, rfl, wp, _, 0, .str "write", rfl, rfl, SqL.of (s1 _ _ hw), at_of (j := 0) rfl rfl, rfl, _, rfl, ifYes rfl ?_⟩
    rw [txCut] at k ⊢
    exact kw_cut (s := s) (c := c) (W.same s1) hi (by omega) (fun q => np (hl q)) (s1 _ _ hw) fun H' lk W' => k H' false left (fun a xs e => lk _ _ (s1 _ _ e)) (W'.rise0 rise) ⟨(fun q => nomatch q), fun ⟨_, q⟩ => absurd q chip_disk⟩ fun q => absurd (hl q) np
  | @power _ _ m =>
    refine k1_no hw noPower fun H1 s1 => k2_no (s1 _ _ hw) w1 (k3_no (s1 _ _ hw) w2 ?_)
    exact k4_power (w1 := num m) (lv := .str (num m)) (s1 _ _ hw) (.inr ⟨num_all m, rfl⟩) fun H' s2 => k H' th _ (lk_of (s1.trans s2)) ((W.same (s1.trans s2)).up.rise0 rise) (ht.trans pow_disk.symm) fun q => by cases q
  | all =>
    refine k1_no hw noPower fun H1 s1 => k2_no (s1 _ _ hw) w1 (k3_no (s1 _ _ hw) w2 ?_)
    refine k4_power (w1 := "all") (lv := .non) (s1 _ _ hw) (.inl ⟨rfl, rfl⟩) fun H' s2 => k H' th _ (lk_of (s1.trans s2)) ((W.same (s1.trans s2)).up.rise0 rise) (ht.trans pow_disk.symm) fun _ => ?_
    rcases g.kind with ⟨st, rfl, _⟩ | ⟨x, rfl, _⟩
    · exact pow_pow _
    · exact pow_pow _
  | @mount _ st' _ stp =>
    refine k1_no hw noMount fun H1 s1 => k2_no (s1 _ _ hw) m1 (k3_no (s1 _ _ hw) m2 (k4_no (s1 _ _ hw) m3 ?_))
    exact k5_mount (s1 _ _ hw) (k H1 true left (lk_of s1) ((W.same s1).up.rise0 rise) ⟨fun _ => ⟨_, rfl⟩, fun _ => rfl⟩ fun q => stp.pow (hl q))
  | @worn _ _ w =>
    have hb := g.wearB w
    have e : T (ks.wear w) = num (ks.wear w).toNat := num_of hb.1
    show t_k1 K A D (sgW LL AL md ld th left kk wp (T (ks.wear w))) H
    have k : ∀ H' th' left', LKeep H H' → Wk H' md ld S (i + 1) f ks → (th' = true ↔ ∃ st, ks = .disk st S) → (left' = .non → Pow ks.x) → D.nx (sgW LL AL md ld th' left' kk wp (T (ks.wear w))) H' := k
    rw [e] at k ⊢
    refine k1_no hw noWorn fun H1 s1 => k2_no (s1 _ _ hw) o1 (k3_no (s1 _ _ hw) o2 (k4_no (s1 _ _ hw) o3 (k5_no (s1 _ _ hw) o4 ?_)))
    have W1 := W.same s1
    refine k6_ok (o := .worn w) W1 hi (s1 _ _ hw) inWorn (s1 _ _ hLL) hk (by omega) (fun kvs v a e => ?_) fun H' lk hp fr => k H' th left (fun a xs e => lk _ _ (s1 _ _ e)) (W1.putL lk hp fr (fun b' q => ?_) fun q => ?_) ht hl
    · obtain ⟨kvs2, x, _, c, _⟩ := W1.last
      rw [a] at x
      injection x with x
      injection x with x
      subst x
      obtain ⟨j, y, z⟩ := c w v e
      exact ⟨j, y, by omega⟩
    · have q := parts_inj q
      have q2 : num b' = num w := (List.cons.inj (List.cons.inj q).2).1
      rw [num_inj.mp q2]
      omega
    · have q := parts_inj q
      exact absurd (List.cons.inj q).2 (fun z => by cases z)
  | written =>
    have hb : 0 ≤ ks.many ∧ ks.many ≤ 100 * n := by rw [g.manyE]; exact ⟨g.many0, g.mb⟩
    have e : T ks.many = num ks.many.toNat := num_of hb.1
    show t_k1 K A D (sgW LL AL md ld th left kk wp (T ks.many)) H
    have k : ∀ H' th' left', LKeep H H' → Wk H' md ld S (i + 1) f ks → (th' = true ↔ ∃ st, ks = .disk st S) → (left' = .non → Pow ks.x) → D.nx (sgW LL AL md ld th' left' kk wp (T ks.many)) H' := k
    rw [e] at k ⊢
    refine k1_no hw noWritten fun H1 s1 => k2_no (s1 _ _ hw) i1 (k3_no (s1 _ _ hw) i2 (k4_no (s1 _ _ hw) i3 (k5_no (s1 _ _ hw) i4 ?_)))
    have W1 := W.same s1
    refine k6_ok (o := .written) W1 hi (s1 _ _ hw) inWritten (s1 _ _ hLL) hk (by omega) (fun kvs v a e => ?_) fun H' lk hp fr => k H' th left (fun a xs e => lk _ _ (s1 _ _ e)) (W1.putL lk hp fr (fun b' q => ?_) fun q => ?_) ht hl
    · obtain ⟨kvs2, x, _, _, d⟩ := W1.last
      rw [a] at x
      injection x with x
      injection x with x
      subst x
      obtain ⟨j, y, z⟩ := d v e
      exact ⟨j, y, by omega⟩
    · have q := parts_inj q
      exact absurd (List.cons.inj q).2 (fun z => by cases z)
    · omega
theorem rows_at {os : List Op} {j : Nat} {o0 : Op} {z : Int} (hj : j < os.length) (e : z = 1 + (j : Int)) : atI (rowsV (o0 :: os)) z = some (.str os[j].row) := by
  refine at_of (j := j + 1) (by omega) ?_
  show (rowsV os)[j]? = _
  unfold rowsV
  rw [List.getElem?_map, List.getElem?_map, List.getElem?_eq_getElem hj]; rfl
theorem ans_at {rs : List RR} {j : Nat} {z : Int} (hj : j < rs.length) (e : z = 1 + (j : Int)) : atI ((("ok" : Str) :: rs.map RR.text).map V.str) z = some (.str rs[j].text) := by
  refine at_of (j := j + 1) (by omega) ?_
  show ((rs.map RR.text).map V.str)[j]? = _
  rw [List.getElem?_map, List.getElem?_map, List.getElem?_eq_getElem hj]; rfl
theorem pure_l_walked {Z : Prop} (F : Z) (h : sp_l_walked K A vs H Q E) : t_l_walked K A E { nx := fun _ H' => Q .non H', rt := Q } (start N_l_walked vs) H := by
  obtain ⟨LL, AL, b, p, S, o0, os, rs, ks, rfl, hLL, hAL, tr, pw, hdk, hlen, k⟩ := h
  intro md nmd ld nld
  have s1 := Same.new (o := .dK []) nmd
  have s2 := Same.new (o := .dK []) nld
  have hm : upd (upd H md (.dK [])) ld (.dK []) md = some (.dK []) := s2 _ _ upd_same
  have ne : ld ≠ md := fun e => by rw [e, upd_same] at nld; cases nld
  have hL2 := (s1.trans s2) _ _ hLL
  have hA2 := (s1.trans s2) _ _ hAL
  have lnR := rowsV_len (o0 :: os)
  rw [List.length_cons] at lnR
  have lrs := tr.len
  refine ⟨_, rfl, LL, _, rfl, .inl (SqL.of hL2), 1, _, rfl, ⟨by decide, by decide, by omega, by omega⟩, ?_⟩
  refine for_range (lo := 1) (fun i σ H' => ∃ th left v6 v7 v8 ks f n C, σ = [some (.ref LL), some (.ref AL), some (.ref md), some (.ref ld), some (.bl th), some left, v6, v7, v8] ∧ n ≤ 1 + i ∧ Tr b p S n ks f C (os.drop i) (rs.drop i) ∧ Wk H' md ld S i f ks ∧ (th = true ↔ ∃ st, ks = .disk st S) ∧ (left = .non → Pow ks.x) ∧
      H' LL = some (.lst (rowsV (o0 :: os))) ∧ H' AL = some (.lst ((("ok" : Str) :: rs.map RR.text).map V.str)))
    ⟨true, .non, _, _, _, ks, _, 1, 0, rfl, by omega, tr, ⟨⟨[], hm, Nat.le_refl _, fun s hs => ⟨["0"], rfl, by show T 0 ∈ (["0"] : List Str); decide +kernel, by show 1 ≤ 0 + 1; omega⟩⟩, ⟨[], upd_same, Nat.le_refl _, fun _ _ e => (by cases e), fun _ e => (by cases e)⟩, ne⟩, ⟨fun _ => hdk, fun _ => rfl⟩, fun _ => pw, hL2, hA2⟩ ?_ ?_
  · rintro i σ H2 hi ⟨th, left, v6, v7, v8, ks, f, n, C, rfl, hn, tr, W, ht, hl, hLL, hAL⟩
    have hi1 : i < os.length := by omega
    have hi2 : i < rs.length := by omega
    rw [List.drop_eq_getElem_cons hi1, List.drop_eq_getElem_cons hi2] at tr
    cases tr with
    | cons g ok st ad g' tr' =>
      have ok' := ok.ok
      refine ⟨_, rfl, _, rfl, LL, _, _, .str os[i].row, rfl, rfl, SqL.of hLL, rows_at hi1 rfl, rfl, os[i].row, " ", rfl, rfl, rfl, ?_, fun wp nwp => ?_⟩
      · exact Nat.le_trans (Nat.add_le_add_right (row_len ok') 2) (by decide)
      rw [split_row]
      have s3 := Same.new (o := .lst (os[i].parts.map V.str)) nwp
      refine ⟨_, rfl, _, rfl, AL, _, _, .str rs[i].text, rfl, rfl, SqL.of (s3 _ _ hAL), ans_at hi2 rfl, ?_⟩
      exact walk_op (K := K) (A := A) g (by omega) ok ad (W.same s3) (by omega) upd_same (s3 _ _ hLL) (rows_at hi1 rfl) ht hl fun H' th' left' lk W' ht' hl' => ⟨th', left', _, _, _, _, _, _, _, rfl, by omega, tr', W', ht', hl', lk _ _ (s3 _ _ hLL), lk _ _ (s3 _ _ hAL)⟩
  · rintro σ H2 ⟨th, left, v6, v7, v8, ks, f, n, C, rfl, _⟩
    exact k H2
end

section
variable {K : PySem.W.Frag} {A : Ad} {vs : List V} {H H' H1 : Hp} {Q : VK} {E : XK} {LL : Addr} {D : Ends}
theorem sum_le' {k : Nat} : ∀ {ls : List Str}, (∀ p ∈ ls, p.length ≤ k) → (ls.map (·.length)).sum ≤ ls.length * k
  | [], _ => Nat.zero_le _
  | l :: ls, h => by
    have h1 := h l List.mem_cons_self
    have h2 := sum_le' fun p hp => h p (List.mem_cons_of_mem _ hp)
    rw [List.map_cons, List.sum_cons, List.length_cons, Nat.succ_mul]
    omega
theorem play_of {o : Op} {os : List Op} {ans : List Str} {ksE : KS} {σ : L2.St} (run : Run .no ((o :: os).map Op.row) ksE ans) (ok : ∀ q ∈ o :: os, q.Ok) (hlen : os.length ≤ 200) (hL : H LL = some (.lst (rowsV (o :: os)))) (h0 : σ[4]? = some (some (.ref LL)))
    (k : ∀ AL H', Same H H' → H AL = none → H' AL = some (.lst (ans.map V.str)) → Q (.ref AL) H') : tCall (sp_play K A) [] E0 (tCons (tBM K "str" (zJoin K) (tC (.str "\n")) (tCons (tVar 4) tNil)) tNil) σ H Q := by
  have ln : ((o :: os).map Op.row).length = os.length + 1 := by rw [List.length_map]; rfl
  have sm := sum_le' (k := 60) (ls := (o :: os).map Op.row) fun p hp => by
    obtain ⟨q, hq, rfl⟩ := List.mem_map.mp hp
    exact row_len (ok q hq)
  have nl : ("\n" : Str).length = 1 := by decide +kernel
  have hj := StrLaws.join_length_le "\n" ((o :: os).map Op.row)
  rw [← TL.join_eq, nl] at hj
  refine ⟨rfl, _, h0, "\n", LL, (o :: os).map Op.row, rfl, rfl, .inl (SqL.of hL), by rw [nl]; omega, _, (o :: os).map Op.row, ans, ksE, rfl, by omega, ?_, by omega, run, k⟩
  refine TL.split_join (s := 10) (S := []) (by decide +kernel) (by decide +kernel) (fun e => by cases e) fun p hp => ?_
  obtain ⟨q, hq, rfl⟩ := List.mem_map.mp hp
  exact row_nl q
theorem k18_end {Z : Prop} (F : Z) {l AL : Addr} {v1 v2 v3 : Option V} {b p S : Nat} {os : List Op} {rs : List RR} {ks ksE : KS} (run : Run .no ((Op.chip b p S :: os).map Op.row) ksE (("ok" : Str) :: rs.map RR.text)) (okq : ∀ q ∈ Op.chip b p S :: os, q.Ok) (hlen : os.length ≤ 200)
    (hL : H LL = some (.lst (rowsV (Op.chip b p S :: os)))) (hA : H AL = some (.lst ((("ok" : Str) :: rs.map RR.text).map V.str))) (so : ∀ w ∈ (("ok" : Str) :: rs.map RR.text), PyData.strOk w = true) (tr : Tr b p S 1 ks (fun _ => 0) 0 os rs) (pw : Pow ks.x) (hdk : ∃ st, ks = .disk st S)
    (k : ∀ H', D.rt (.bl true) H') : t_l18 K A D [some (.ref l), v1, v2, v3, some (.ref LL), some (.ref AL)] H := by
  have e1 : ((rowsV (Op.chip b p S :: os)).length : Int) = os.length + 1 := by rw [rowsV_len]; rfl
  have e2 : ((((("ok" : Str) :: rs.map RR.text).map V.str).length : Nat) : Int) = os.length + 1 := by
    rw [List.length_map, List.length_cons, List.length_map, tr.len]; omega
  refine ⟨_, rfl, AL, _, rfl, .inl (SqL.of hA), _, rfl, LL, _, rfl, .inl (SqL.of hL), rfl, _, rfl, ?_⟩
  refine ifYesN (congrArg V.int (e2.trans e1.symm)) ?_
  refine ⟨_, rfl, AL, _, 0, .str "ok", rfl, rfl, SqL.of hA, at_of (j := 0) rfl rfl, rfl, _, rfl, ifYesN rfl ?_⟩
  refine play_of run okq hlen hL rfl fun AL2 H2 s2 n2 h2 => ?_
  refine ⟨_, rfl, .list ((("ok" : Str) :: rs.map RR.text).map PyData.str), .list ((("ok" : Str) :: rs.map RR.text).map PyData.str), .lst (SqL.of h2) (dpAll_strs _), .lst (SqL.of (s2 _ _ hA)) (dpAll_strs _), (okD_strs so).sh, (okD_strs so).sh, _, rfl, ?_⟩
  rw [eqv_strs, decide_eq_true rfl]
  refine iteF ?_
  exact ⟨_, rfl, _, rfl, LL, AL, b, p, S, _, os, rs, ks, rfl, s2 _ _ hL, s2 _ _ hA, tr, pw, hdk, hlen, k⟩
theorem rr_strOk {b p S n : Nat} {ks : KS} {f : Int → Int} {C : Nat} {os : List Op} {rs : List RR} (tr : Tr b p S n ks f C os rs) : ∀ w ∈ rs.map RR.text, PyData.strOk w = true := by
  induction tr with
  | nil => intro w hw; cases hw
  | @cons n ks f C o os ks' f' C' r rs g ok st ad g' tr ih =>
    intro w hw
    rcases List.mem_cons.mp hw with e | e
    · rw [e]
      cases ad with
      | goneW => decide +kernel
      | goneR => decide +kernel
      | @read _ _ s =>
        show PyData.strOk (T (f s)) = true
        rw [num_of (g.f0 s)]; exact num_strOk _
      | write => decide +kernel
      | cut => decide +kernel
      | power => decide +kernel
      | all => decide +kernel
      | mount => decide +kernel
      | @worn _ _ w =>
        show PyData.strOk (T (ks.wear w)) = true
        rw [num_of (g.wearB w).1]; exact num_strOk _
      | written =>
        show PyData.strOk (T ks.many) = true
        rw [num_of (by rw [g.manyE]; exact g.many0)]; exact num_strOk _
    · exact ih w e
theorem pure_law {Z : Prop} (F : Z) (h : sp_law K A vs H Q E) : t_law K A E { nx := fun _ H' => Q .non H', rt := Q } (start N_law vs) H := by
  obtain ⟨l, ns, rfl, hl, hn, k⟩ := h
  refine ⟨_, rfl, l, ns, 0, rfl, hl, hn, by decide, fun c H1 s1 => ⟨c, 3, rfl, fun m m0 m1 => ?_⟩⟩
  obtain ⟨b, eb⟩ := nat_of (show 0 ≤ 4 + m % 4 by omega)
  obtain ⟨p, ep⟩ := nat_of (show 0 ≤ 2 + m / 8 % 4 by omega)
  have hb : 4 ≤ b ∧ b ≤ 7 := by omega
  have hp : 2 ≤ p ∧ p ≤ 5 := by omega
  have bp : ((4 + m % 4) - 2) * (2 + m / 8 % 4) = ((b - 2) * p : Nat) := by
    rw [eb, ep, Int.natCast_mul, Int.natCast_sub (by omega)]; rfl
  have q1 : 2 * 2 ≤ (b - 2) * p := Nat.mul_le_mul (by omega) hp.1
  have q2 : (b - 2) * p ≤ 5 * 5 := Nat.mul_le_mul (by omega) hp.2
  have r0 := Int.emod_nonneg (m / 64) (b := (((b - 2) * p : Nat) : Int)) (by omega)
  have r1 := Int.emod_lt_of_pos (m / 64) (b := (((b - 2) * p : Nat) : Int)) (by omega)
  obtain ⟨S, eS⟩ := nat_of (show 0 ≤ 1 + m / 64 % (((4 + m % 4) - 2) * (2 + m / 8 % 4)) by rw [bp]; omega)
  have hS : 1 ≤ S ∧ S ≤ (b - 2) * p := by rw [bp] at eS; omega
  refine ⟨_, rfl, _, _, rfl, rfl, md (by decide), _, _, rfl, rfl, ?_⟩
  refine ⟨_, rfl, _, _, rfl, rfl, divW (by decide) (by decide), _, _, rfl, rfl, md (by decide), _, _, rfl, rfl, ?_⟩
  refine ⟨_, rfl, _, rfl, _, rfl, _, rfl, _, _, rfl, rfl, divW (by decide) (by decide), _, rfl, _, _, rfl, rfl, _, rfl, _, _, rfl, rfl, .inr ⟨by omega, by omega⟩, _, _, rfl, rfl, md (by rw [bp]; omega), _, _, rfl, rfl, (by show 3 ≤ sizeLine; decide), fun tp ntp => ?_⟩
  have st := Same.new (o := .tup [.int (4 + m % 4), .int (2 + m / 8 % 4), .int (1 + m / 64 % (((4 + m % 4) - 2) * (2 + m / 8 % 4)))]) ntp
  refine ⟨l, tp, ns, b, p, S, rfl, (s1.trans st).seq hl, hn, by rw [← eb, ← ep, ← eS]; exact upd_same, hb.1, hb.2, hp.1, hp.2, hS.1, by omega, fun os LL H2 s2 nL hL rows hlen => ?_⟩
  have s2' : (S : Int) ≤ ((b : Int) - 2) * p := by
    have : ((((b - 2) * p : Nat) : Int)) = ((b : Int) - 2) * p := by rw [Int.natCast_mul, Int.natCast_sub (by omega)]; rfl
    rw [← this]; omega
  obtain ⟨ks, stp, g, pw, hdk⟩ := start18 hb.1 hb.2 hp.1 hp.2 hS.1 s2'
  obtain ⟨rs, tr⟩ := tr_ex os (p := true) g rows.ok rows.mo.weak (fun _ => pw) (by omega)
  obtain ⟨ksE, run1⟩ := tr.run
  have okc : (Op.chip b p S).Ok := ⟨by omega, by omega, by omega⟩
  have run : Run .no ((Op.chip b p S :: os).map Op.row) ksE (("ok" : Str) :: rs.map RR.text) := .row (row_blank _) (row_ok okc) (by rw [parse_row okc]; exact stp) run1
  have okq : ∀ q ∈ Op.chip b p S :: os, q.Ok := fun q hq => by
    rcases List.mem_cons.mp hq with e | e
    · rw [e]; exact okc
    · exact (rows.ok q e).ok
  refine play_of run okq hlen hL rfl fun AL H3 s3 n3 h3 => ?_
  refine k18_end F run okq hlen (s3 _ _ hL) h3 (fun w hw => ?_) tr pw hdk k
  rcases List.mem_cons.mp hw with e | e
  · rw [e]; decide +kernel
  · exact rr_strOk tr w e
end

def top (i : Nat) : Stmt := PySem.Challenge.pw_evenwear_k18_whole_desk.main.body.getD i (.Pass ⟨0, 0, 0, 0⟩)
abbrev s_l_drawn : Stmt := top 33
abbrev s_l_cell : Stmt := top 32
abbrev s_l_lines : Stmt := top 34
abbrev s_Desk_init : Stmt := inClass (top 28) 0
abbrev s_number_of : Stmt := top 26
abbrev s_words_of : Stmt := top 27
abbrev s_Chip_init : Stmt := inClass (top 16) 0
abbrev s_Chip_size : Stmt := inClass (top 16) 1
abbrev s_Disk_init : Stmt := inClass (top 20) 0
abbrev s_Chip_need_block : Stmt := inClass (top 16) 2
abbrev s_Chip_need_page : Stmt := inClass (top 16) 3
abbrev s_Chip_page : Stmt := inClass (top 16) 4
abbrev s_Disk_row : Stmt := inClass (top 20) 2
abbrev s_is_whole : Stmt := top 19
abbrev s_Disk_is_empty : Stmt := inClass (top 20) 3
abbrev s_Chip_goes_well : Stmt := inClass (top 16) 6
abbrev s_Chip_erase : Stmt := inClass (top 16) 8
abbrev s_Disk_greatest : Stmt := inClass (top 20) 4
abbrev s_Disk_tidy : Stmt := inClass (top 20) 5
abbrev s_Disk_load : Stmt := inClass (top 20) 6
abbrev s_mounted : Stmt := top 21
abbrev s_Disk_need_sector : Stmt := inClass (top 20) 8
abbrev s_Disk_read : Stmt := inClass (top 20) 7
abbrev s_Chip_write : Stmt := inClass (top 16) 7
abbrev s_Disk_put : Stmt := inClass (top 20) 10
abbrev s_Disk_clean : Stmt := inClass (top 20) 12
abbrev s_Disk_advance : Stmt := inClass (top 20) 11
abbrev s_Disk_write : Stmt := inClass (top 20) 9
abbrev s_Desk_at_disk : Stmt := inClass (top 28) 2
abbrev s_Chip_power : Stmt := inClass (top 16) 5
abbrev s_Chip_worn : Stmt := inClass (top 16) 9
abbrev s_Chip_written : Stmt := inClass (top 16) 10
abbrev s_Desk_at_chip : Stmt := inClass (top 28) 3
abbrev s_Desk_answer : Stmt := inClass (top 28) 1
abbrev s_class_of : Stmt := top 29
abbrev s_play : Stmt := top 30
abbrev s_l_read : Stmt := top 35
abbrev s_l_walked : Stmt := top 36
abbrev s_law : Stmt := top 37
section
variable {P : Program} {w : World} {K : PySem.W.Frag} {mg : Str → Option Value} {base : Heap} {A : Ad}
theorem sc_l_drawn : FnScope N_l_drawn ["_law_cell_here", "_law_k"] (defScope s_l_drawn) := ⟨rfl, rfl, rfl, by decide +kernel, rfl, by decide +kernel, by decide +kernel⟩
theorem ok_l_drawn {f : Addr} {fd : FuncData} (FF : Fun K "_law_drawn" "_law_drawn" s_l_drawn f fd) (B : Blt mg) (G : Glo K mg A) (GD : GloD K mg A) (F : FacQ K A) : FnOk P w K mg base (L2N.CX P w) 1 f fd ["_law_cell_here", "_law_k"] (sp_l_drawn K A) := by
  refine Fun.okN FF sc_l_drawn (fun vs H Q E h => len_l_drawn h) (fun cdv A0 outer s H vs Q E hr h => ⟨t_l_drawn K A E, ?_, pure_l_drawn F h⟩)
  exact (pss_cons (ps_set (i := 2) sc_l_drawn.nd rfl (Or.inl rfl) (pe_op op_mod (pe_op op_add (pe_op op_mul (pv 0) pe_int) (pe_op op_mul (pe_op op_add (pv 1) pe_int) pe_int)) pe_int))
  (pss_one (ps_ret (pe_op op_mod (pe_op op_mulW (pv 2) (pv 2)) pe_int))))
theorem sc_l_cell : FnScope N_l_cell ["_law_script", "_law_k"] (defScope s_l_cell) := ⟨rfl, rfl, rfl, by decide +kernel, rfl, by decide +kernel, by decide +kernel⟩
theorem ok_l_cell {f : Addr} {fd : FuncData} (FF : Fun K "_law_cell" "_law_cell" s_l_cell f fd) (B : Blt mg) (G : Glo K mg A) (GD : GloD K mg A) (F : FacQ K A) : FnOk P w K mg base (L2N.CX P w) 1 f fd ["_law_script", "_law_k"] (sp_l_cell K A) := by
  refine Fun.okN FF sc_l_cell (fun vs H Q E h => len_l_cell h) (fun cdv A0 outer s H vs Q E hr h => ⟨t_l_cell K A E, ?_, pure_l_cell F h⟩)
  exact (pss_cons (ps_if (pt_cmpR (op_eqD hr.units) (pv 0) (pe_lst pa_nil) (nomark _))
  (pss_one (ps_ret (pe_op op_mul (pv 1) pe_int)))
  pss_nil)
  (pss_one (ps_ret (pe_op op_add (pe_ix ix_list (pv 0) (pe_op op_mod (pv 1) (pe_callB call_len_seq (by rfl) B.len (by decide +kernel) (pa_cons (pv 0) pa_nil))) (fun _ _ => rfl)) (pe_op op_mul (pe_op op_fdivW (pv 1) (pe_callB call_len_seq (by rfl) B.len (by decide +kernel) (pa_cons (pv 0) pa_nil))) pe_int)))))
theorem sc_l_lines : FnScope N_l_lines ["_law_script", "_law_many"] (defScope s_l_lines) := ⟨rfl, rfl, rfl, by decide +kernel, rfl, by decide +kernel, by decide +kernel⟩
theorem ok_l_lines {f : Addr} {fd : FuncData} (FF : Fun K "_law_lines" "_law_lines" s_l_lines f fd) (B : Blt mg) (G : Glo K mg A) (GD : GloD K mg A) (F : FacQ K A) (D_l_drawn : DefF P w K mg base 1 "_law_drawn" (sp_l_drawn K A)) (D_l_cell : DefF P w K mg base 1 "_law_cell" (sp_l_cell K A)) : FnOk P w K mg base (L2N.CX P w) 2 f fd ["_law_script", "_law_many"] (sp_l_lines K A) := by
  refine Fun.okN FF sc_l_lines (fun vs H Q E h => len_l_lines h) (fun cdv A0 outer s H vs Q E hr h => ⟨t_l_lines K A E, ?_, pure_l_lines F h⟩)
  exact (pss_cons (ps_set (i := 2) sc_l_lines.nd rfl (Or.inl rfl) (pe_lst (pa_cons (pe_op op_add_str (pe_op op_add_str (pe_op op_add_str (pe_op op_add_str (pe_op op_add_str pe_str (pe_callTy call_str_int (by rfl) B.str (by decide +kernel) (pa_cons (pe_ix ix_tup (pv 1) pe_int (fun _ _ => rfl)) pa_nil))) pe_str) (pe_callTy call_str_int (by rfl) B.str (by decide +kernel) (pa_cons (pe_ix ix_tup (pv 1) pe_int (fun _ _ => rfl)) pa_nil))) pe_str) (pe_callTy call_str_int (by rfl) B.str (by decide +kernel) (pa_cons (pe_ix ix_tup (pv 1) pe_int (fun _ _ => rfl)) pa_nil))) pa_nil)))
  (pss_cons (ps_for (passes_of rfl) rfl (pi_range1 rfl B.range (pa_cons (pe_callB (call_max2 rfl) (by rfl) B.max (by decide +kernel) (pa_cons pe_int (pa_cons (pe_callB (call_min2 rfl) (by rfl) B.min (by decide +kernel) (pa_cons pe_int (pa_cons (pe_callB call_len_seq (by rfl) B.len (by decide +kernel) (pa_cons (pv 0) pa_nil)) pa_nil))) pa_nil))) pa_nil)) (pg_name (i := 3) sc_l_lines.nd rfl (Or.inl rfl))
  (pss_cons (ps_set (i := 4) sc_l_lines.nd rfl (Or.inl rfl) (pf D_l_drawn hr (by decide) passLN rfl (pa_cons (pf D_l_cell hr (by decide) passLN rfl (pa_cons (pv 0) (pa_cons (pv 3) pa_nil))) (pa_cons (pe_op op_add (pv 3) pe_int) pa_nil))))
  (pss_cons (ps_set (i := 5) sc_l_lines.nd rfl (Or.inl rfl) (pe_callTy call_str_int (by rfl) B.str (by decide +kernel) (pa_cons (pe_op op_mod (pe_op op_fdivW (pv 4) pe_int) (pe_ix ix_tup (pv 1) pe_int (fun _ _ => rfl))) pa_nil)))
  (pss_cons (ps_set (i := 6) sc_l_lines.nd rfl (Or.inl rfl) (pe_op op_mod (pv 4) pe_int))
  (pss_one (ps_if (pt_cmpR op_lt (pv 6) pe_int (nomark _))
  (pss_one (ps_for (passes_of rfl) rfl (pi_range1 rfl B.range (pa_cons (pe_op op_add pe_int (pe_op op_mod (pe_op op_fdivW (pv 4) pe_int) pe_int)) pa_nil)) (pg_name (i := 7) sc_l_lines.nd rfl (Or.inl rfl))
  (pss_one (ps_expr (pe_bm PySem.F.plainAttrs_list PySem.F.slot_list_append PySem.F.type_list_append mt_append (pv 2) (pa_cons (pe_op op_add_str (pe_op op_add_str (pe_op op_add_str pe_str (pv 5)) pe_str) (pe_callTy call_str_int (by rfl) B.str (by decide +kernel) (pa_cons (pe_op op_mod (pe_op op_fdivW (pv 4) (pe_op op_add pe_int (pv 7))) (pe_op op_pow pe_int pe_int)) pa_nil))) pa_nil))))))
  (pss_one (ps_if (pt_cmpR op_lt (pv 6) pe_int (nomark _))
  (pss_one (ps_expr (pe_bm PySem.F.plainAttrs_list PySem.F.slot_list_append PySem.F.type_list_append mt_append (pv 2) (pa_cons (pe_op op_add_str pe_str (pv 5)) pa_nil))))
  (pss_one (ps_if (pt_cmpR op_lt (pv 6) pe_int (nomark _))
  (pss_one (ps_expr (pe_bm PySem.F.plainAttrs_list PySem.F.slot_list_append PySem.F.type_list_append mt_append (pv 2) (pa_cons (pe_op op_add_str pe_str (pe_callTy call_str_int (by rfl) B.str (by decide +kernel) (pa_cons (pe_op op_mod (pe_op op_fdivW (pv 4) pe_int) pe_int) pa_nil))) pa_nil))))
  (pss_one (ps_if (pt_cmpR op_eq (pv 6) pe_int (nomark _))
  (pss_one (ps_expr (pe_bm PySem.F.plainAttrs_list PySem.F.slot_list_append PySem.F.type_list_append mt_append (pv 2) (pa_cons pe_str pa_nil))))
  (pss_one (ps_if (pt_cmpR op_lt (pv 6) pe_int (nomark _))
  (pss_one (ps_set (i := 2) sc_l_lines.nd rfl (Or.inl rfl) (pe_op op_cat (pv 2) (pe_lst (pa_cons pe_str (pa_cons pe_str pa_nil))))))
  (pss_one (ps_expr (pe_bm PySem.F.plainAttrs_list PySem.F.slot_list_append PySem.F.type_list_append mt_append (pv 2) (pa_cons (pe_ix ix_list (pe_lst (pa_cons (pe_op op_add_str pe_str (pe_callTy call_str_int (by rfl) B.str (by decide +kernel) (pa_cons (pe_op op_mod (pe_op op_fdivW (pv 4) pe_int) (pe_ix ix_tup (pv 1) pe_int (fun _ _ => rfl))) pa_nil))) (pa_cons pe_str pa_nil))) (pe_op op_mod (pe_op op_fdivW (pv 4) pe_int) pe_int) (fun _ _ => rfl)) pa_nil))))))))))))))))))
  (pss_one (ps_ret (pv 2)))))
theorem sc_Desk_init : FnScope N_Desk_init ["self"] (defScope s_Desk_init) := ⟨rfl, rfl, rfl, by decide +kernel, rfl, by decide +kernel, by decide +kernel⟩
theorem ok_Desk_init {f : Addr} {fd : FuncData} (FF : Fun K "__init__" "Desk.__init__" s_Desk_init f fd) (B : Blt mg) (G : Glo K mg A) (GD : GloD K mg A) (F : FacQ K A) : FnOk P w K mg base (L2N.CX P w) 1 f fd ["self"] (sp_Desk_init K A) := by
  refine Fun.okN FF sc_Desk_init (fun vs H Q E h => len_Desk_init h) (fun cdv A0 outer s H vs Q E hr h => ⟨t_Desk_init K A E, ?_, pure_Desk_init F h⟩)
  exact (pss_cons (ps_fld (pv 0) pe_non rfl)
  (pss_cons (ps_fld (pv 0) pe_non rfl)
  (pss_one (ps_fld (pv 0) pe_int rfl))))
theorem sc_number_of : FnScope N_number_of ["text"] (defScope s_number_of) := ⟨rfl, rfl, rfl, by decide +kernel, rfl, by decide +kernel, by decide +kernel⟩
theorem ok_number_of {f : Addr} {fd : FuncData} (FF : Fun K "number_of" "number_of" s_number_of f fd) (B : Blt mg) (G : Glo K mg A) (GD : GloD K mg A) (F : FacQ K A) : FnOk P w K mg base (L2N.CX P w) 1 f fd ["text"] (sp_number_of K A) := by
  refine Fun.okN FF sc_number_of (fun vs H Q E h => len_number_of h) (fun cdv A0 outer s H vs Q E hr h => ⟨t_number_of K A E, ?_, pure_number_of F h⟩)
  exact (pss_cons (ps_if (PW.pt (pw_or (pt_not (pt_chain op_le op_le pe_int (pe_callB call_len_str (by rfl) B.len (by decide +kernel) (pa_cons (pv 0) pa_nil)) (pe_gint G.g_MOST_FIGURES rfl))) (pw_or1 (pt_not (pt_val (pe_callB (cr_all rfl) (by rfl) B.all (by decide +kernel) (pa_cons (pe_lc (own := [("sign", 1)]) (g := (gName 1)) (tt := tYes) (te := (tOp rInS (tVar 1) (tC (.str "0123456789")))) rfl sc_number_of.nd (pi_str (pv 0)) (blkOk_by (N := N_number_of) (sc := defScope s_number_of) (by decide +kernel)) (fun _ _ _ _ _ => (pg_name (i := 1) sc_number_of.nd rfl (Or.inl rfl))) (fun _ _ _ _ _ => pts_nil) (fun _ _ _ _ _ => (pe_cmpR op_inS (pv 1) (pe_gstr G.g_FIGURES rfl) (by rfl)))) pa_nil)))))))
  (pss_one (pr_raise G.x_BadRow rfl (L2N.takes_of rfl rfl rfl rfl) rfl))
  pss_nil)
  (pss_cons (ps_if (PW.pt (pw_and (pt_cmpR op_eq (pe_ix ix_str (pv 0) pe_int (fun _ _ => rfl)) pe_str (nomark _)) (pw_and1 (pt_cmpR op_ne (pv 0) pe_str (nomark _)))))
  (pss_one (pr_raise G.x_BadRow rfl (L2N.takes_of rfl rfl rfl rfl) rfl))
  pss_nil)
  (pss_one (ps_ret (pe_callTy call_int_str (by rfl) B.int (by decide +kernel) (pa_cons (pv 0) pa_nil))))))
theorem sc_words_of : FnScope N_words_of ["line"] (defScope s_words_of) := ⟨rfl, rfl, rfl, by decide +kernel, rfl, by decide +kernel, by decide +kernel⟩
theorem ok_words_of {f : Addr} {fd : FuncData} (FF : Fun K "words_of" "words_of" s_words_of f fd) (B : Blt mg) (G : Glo K mg A) {es : Array DictEntry} {n : Nat} (KD : KDict K w A.shapes es n) (GD : GloD K mg A) (F : FacQ K A) (D_number_of : DefF P w K mg base 1 "number_of" (sp_number_of K A)) : FnOk P w K mg base (L2N.CX P w) 2 f fd ["line"] (sp_words_of K A) := by
  refine Fun.okN FF sc_words_of (fun vs H Q E h => len_words_of h) (fun cdv A0 outer s H vs Q E hr h => ⟨t_words_of K A E, ?_, pure_words_of F h⟩)
  exact (pss_cons (ps_set (i := 1) sc_words_of.nd rfl (Or.inl rfl) (pe_bm PySem.F.plainAttrs_str PySem.F.slot_str_split PySem.F.type_str_split mt_split (pv 0) (pa_cons pe_str pa_nil)))
  (pss_cons (ps_if (PW.pt (pw_or (pt_cmpR (op_notIn_kd KD) (pe_ix ix_list (pv 1) pe_int (fun _ _ => rfl)) (pe_glob rfl G.g_SHAPES rfl) (by rfl)) (pw_or1 (pt_cmpR op_ne (pe_callB call_len_seq (by rfl) B.len (by decide +kernel) (pa_cons (pv 1) pa_nil)) (pe_op op_add pe_int (pe_ix (ix_kd KD) (pe_glob rfl G.g_SHAPES rfl) (pe_ix ix_list (pv 1) pe_int (fun _ _ => rfl)) (fun _ _ => rfl))) (nomark _)))))
  (pss_one (pr_raise G.x_BadRow rfl (L2N.takes_of rfl rfl rfl rfl) rfl))
  pss_nil)
  (pss_cons (ps_if (pt_cmpR (op_eqD hr.units) (pv 1) (pe_lst (pa_cons pe_str (pa_cons pe_str pa_nil))) (nomark _))
  (pss_one (ps_ret (pe_tup (pa_cons pe_str (pa_cons (pe_lst (pa_cons pe_non pa_nil)) pa_nil)))))
  pss_nil)
  (pss_one (ps_ret (pe_tup (pa_cons (pe_ix ix_list (pv 1) pe_int (fun _ _ => rfl)) (pa_cons (pe_lcE (y := "word") (k := 2) (E := E) rfl rfl rfl rfl (L2N.takes_of rfl rfl rfl rfl) sc_words_of.nd (pe_slice sl_list (pv 1) (po_some pe_int) po_none) (blkOk_by (N := N_words_of) (sc := defScope s_words_of) (by decide +kernel)) (fun _ _ _ _ _ => (pg_name (i := 2) sc_words_of.nd rfl (Or.inl rfl))) (fun _ _ _ _ _ _ hp9 => (pf D_number_of hr (by decide) hp9 rfl (pa_cons (pv 2) pa_nil)))) pa_nil))))))))
theorem sc_Chip_init : FnScope N_Chip_init ["self", "blocks", "pages"] (defScope s_Chip_init) := ⟨rfl, rfl, rfl, by decide +kernel, rfl, by decide +kernel, by decide +kernel⟩
theorem ok_Chip_init {f : Addr} {fd : FuncData} (FF : Fun K "__init__" "Chip.__init__" s_Chip_init f fd) (B : Blt mg) (G : Glo K mg A) (F : Fac K A) : FnOk P w K mg base (L2N.CX P w) 1 f fd ["self", "blocks", "pages"] (sp_Chip_init K A) := by
  refine Fun.okN FF sc_Chip_init (fun vs H Q E h => len_Chip_init h) (fun cdv A0 outer s H vs Q E hr h => ⟨t_Chip_init K A E, ?_, pure_Chip_init F h⟩)
  exact (pss_cons (ps_if (PW.pt (pw_or (pt_not (pt_chain op_le op_le (pe_gint G.g_LEAST_BLOCKS rfl) (pv 1) (pe_gint G.g_MOST_BLOCKS rfl))) (pw_or1 (pt_not (pt_chain op_le op_le (pe_gint G.g_LEAST_PAGES rfl) (pv 2) (pe_gint G.g_MOST_PAGES rfl))))))
  (pss_one (pr_raise G.x_BadSize rfl (L2N.takes_of rfl rfl rfl rfl) rfl))
  pss_nil)
  (pss_cons (ps_fld (pv 0) (pe_lc (own := [("block", 3)]) (g := (gName 3)) (tt := tYes) (te := (tOp rRep (tLst (tCons (tC .non) tNil)) (tVar 2))) rfl sc_Chip_init.nd (pi_range1 rfl B.range (pa_cons (pv 1) pa_nil)) (blkOk_by (N := N_Chip_init) (sc := defScope s_Chip_init) (by decide +kernel)) (fun _ _ _ _ _ => (pg_name (i := 3) sc_Chip_init.nd rfl (Or.inl rfl))) (fun _ _ _ _ _ => pts_nil) (fun _ _ _ _ _ => (pe_op op_rep (pe_lst (pa_cons pe_non pa_nil)) (pv 2)))) rfl)
  (pss_cons (ps_fld (pv 0) (pe_op op_rep (pe_lst (pa_cons pe_int pa_nil)) (pv 1)) rfl)
  (pss_cons (ps_fld (pv 0) pe_int rfl)
  (pss_cons (ps_fld (pv 0) pe_non rfl)
  (pss_one (ps_fld (pv 0) pe_bl rfl)))))))
theorem sc_Chip_size : FnScope N_Chip_size ["self"] (defScope s_Chip_size) := ⟨rfl, rfl, rfl, by decide +kernel, rfl, by decide +kernel, by decide +kernel⟩
theorem ok_Chip_size {f : Addr} {fd : FuncData} (FF : Fun K "size" "Chip.size" s_Chip_size f fd) (B : Blt mg) (G : Glo K mg A) (F : Fac K A) : FnOk P w K mg base (L2N.CX P w) 1 f fd ["self"] (sp_Chip_size K A) := by
  refine Fun.okN FF sc_Chip_size (fun vs H Q E h => len_Chip_size h) (fun cdv A0 outer s H vs Q E hr h => ⟨t_Chip_size K A E, ?_, pure_Chip_size F h⟩)
  exact (pss_one (ps_ret (pe_tup (pa_cons (pe_callB call_len_seq (by rfl) B.len (by decide +kernel) (pa_cons (pe_fld (pv 0) rfl) pa_nil)) (pa_cons (pe_callB call_len_seq (by rfl) B.len (by decide +kernel) (pa_cons (pe_ix ix_list (pe_fld (pv 0) rfl) pe_int (fun _ _ => rfl)) pa_nil)) pa_nil)))))
theorem sc_Disk_init : FnScope N_Disk_init ["self", "chip", "sectors"] (defScope s_Disk_init) := ⟨rfl, rfl, rfl, by decide +kernel, rfl, by decide +kernel, by decide +kernel⟩
theorem ok_Disk_init {f : Addr} {fd : FuncData} (FF : Fun K "__init__" "Disk.__init__" s_Disk_init f fd) (B : Blt mg) (G : Glo K mg A) (GD : GloD K mg A) (F : FacD K A) (D_Chip_size : DefM P w K mg base 1 A.chip "size" (sp_Chip_size K A)) : FnOk P w K mg base (L2N.CX P w) 2 f fd ["self", "chip", "sectors"] (sp_Disk_init K A) := by
  refine Fun.okN FF sc_Disk_init (fun vs H Q E h => len_Disk_init h) (fun cdv A0 outer s H vs Q E hr h => ⟨t_Disk_init K A E, ?_, pure_Disk_init F h⟩)
  exact (pss_cons (ps_asg (pm0 D_Chip_size F.cl_Chip hr (by decide) passLN (pv 1)) (pg_tup rfl (pgs_cons (pg_name (i := 3) sc_Disk_init.nd rfl (Or.inl rfl)) (pgs_cons (pg_name (i := 4) sc_Disk_init.nd rfl (Or.inl rfl)) pgs_nil))))
  (pss_cons (ps_if (pt_not (pt_chain op_le op_le pe_int (pv 2) (pe_op op_mul (pe_op op_sub (pv 3) pe_int) (pv 4))))
  (pss_one (pr_raise G.x_BadSize rfl (L2N.takes_of rfl rfl rfl rfl) rfl))
  pss_nil)
  (pss_cons (ps_fld (pv 0) (pv 1) rfl)
  (pss_cons (ps_fld (pv 0) (pv 2) rfl)
  (pss_cons (ps_fld (pv 0) (pv 3) rfl)
  (pss_cons (ps_fld (pv 0) (pv 4) rfl)
  (pss_cons (ps_fld (pv 0) pe_dnewK rfl)
  (pss_cons (ps_fld (pv 0) pe_int rfl)
  (pss_cons (ps_fld (pv 0) pe_int rfl)
  (pss_one (ps_fld (pv 0) pe_int rfl)))))))))))
theorem sc_Chip_need_block : FnScope N_Chip_need_block ["self", "block"] (defScope s_Chip_need_block) := ⟨rfl, rfl, rfl, by decide +kernel, rfl, by decide +kernel, by decide +kernel⟩
theorem ok_Chip_need_block {f : Addr} {fd : FuncData} (FF : Fun K "need_block" "Chip.need_block" s_Chip_need_block f fd) (B : Blt mg) (G : Glo K mg A) (F : Fac K A) : FnOk P w K mg base (L2N.CX P w) 1 f fd ["self", "block"] (sp_Chip_need_block K A) := by
  refine Fun.okN FF sc_Chip_need_block (fun vs H Q E h => len_Chip_need_block h) (fun cdv A0 outer s H vs Q E hr h => ⟨t_Chip_need_block K A E, ?_, pure_Chip_need_block F h⟩)
  exact (pss_one (ps_if (pt_not (pt_chain op_le op_lt pe_int (pv 1) (pe_callB call_len_seq (by rfl) B.len (by decide +kernel) (pa_cons (pe_fld (pv 0) rfl) pa_nil))))
  (pss_one (pr_raise G.x_NoPage rfl (L2N.takes_of rfl rfl rfl rfl) rfl))
  pss_nil))
theorem sc_Chip_need_page : FnScope N_Chip_need_page ["self", "block", "page"] (defScope s_Chip_need_page) := ⟨rfl, rfl, rfl, by decide +kernel, rfl, by decide +kernel, by decide +kernel⟩
theorem ok_Chip_need_page {f : Addr} {fd : FuncData} (FF : Fun K "need_page" "Chip.need_page" s_Chip_need_page f fd) (B : Blt mg) (G : Glo K mg A) (F : Fac K A) (D_Chip_need_block : DefM P w K mg base 1 A.chip "need_block" (sp_Chip_need_block K A)) : FnOk P w K mg base (L2N.CX P w) 2 f fd ["self", "block", "page"] (sp_Chip_need_page K A) := by
  refine Fun.okN FF sc_Chip_need_page (fun vs H Q E h => len_Chip_need_page h) (fun cdv A0 outer s H vs Q E hr h => ⟨t_Chip_need_page K A E, ?_, pure_Chip_need_page F h⟩)
  exact (pss_cons (ps_expr (pm D_Chip_need_block F.cl_Chip hr (by decide) (L2N.passes_call (L2N.takes_of rfl rfl rfl rfl) (fun _ _ _ _ h => h)) (pv 0) (pa_cons (pv 1) pa_nil)))
  (pss_one (ps_if (pt_not (pt_chain op_le op_lt pe_int (pv 2) (pe_callB call_len_seq (by rfl) B.len (by decide +kernel) (pa_cons (pe_ix ix_list (pe_fld (pv 0) rfl) (pv 1) (fun _ _ => rfl)) pa_nil))))
  (pss_one (pr_raise G.x_NoPage rfl (L2N.takes_of rfl rfl rfl rfl) rfl))
  pss_nil)))
theorem sc_Chip_page : FnScope N_Chip_page ["self", "block", "page"] (defScope s_Chip_page) := ⟨rfl, rfl, rfl, by decide +kernel, rfl, by decide +kernel, by decide +kernel⟩
theorem ok_Chip_page {f : Addr} {fd : FuncData} (FF : Fun K "page" "Chip.page" s_Chip_page f fd) (B : Blt mg) (G : Glo K mg A) (F : Fac K A) (D_Chip_need_page : DefM P w K mg base 2 A.chip "need_page" (sp_Chip_need_page K A)) : FnOk P w K mg base (L2N.CX P w) 3 f fd ["self", "block", "page"] (sp_Chip_page K A) := by
  refine Fun.okN FF sc_Chip_page (fun vs H Q E h => len_Chip_page h) (fun cdv A0 outer s H vs Q E hr h => ⟨t_Chip_page K A E, ?_, pure_Chip_page F h⟩)
  exact (pss_cons (ps_expr (pm D_Chip_need_page F.cl_Chip hr (by decide) (L2N.passes_call (L2N.takes_of rfl rfl rfl rfl) (fun _ _ _ _ h => h)) (pv 0) (pa_cons (pv 1) (pa_cons (pv 2) pa_nil))))
  (pss_one (ps_ret (pe_ix ix_list (pe_ix ix_list (pe_fld (pv 0) rfl) (pv 1) (fun _ _ => rfl)) (pv 2) (fun _ _ => rfl)))))
theorem sc_Disk_row : FnScope N_Disk_row ["self", "block"] (defScope s_Disk_row) := ⟨rfl, rfl, rfl, by decide +kernel, rfl, by decide +kernel, by decide +kernel⟩
theorem ok_Disk_row {f : Addr} {fd : FuncData} (FF : Fun K "row" "Disk.row" s_Disk_row f fd) (B : Blt mg) (G : Glo K mg A) (GD : GloD K mg A) (F : FacD K A) (D_Chip_page : DefM P w K mg base 3 A.chip "page" (sp_Chip_page K A)) : FnOk P w K mg base (L2N.CX P w) 4 f fd ["self", "block"] (sp_Disk_row K A) := by
  refine Fun.okN FF sc_Disk_row (fun vs H Q E h => len_Disk_row h) (fun cdv A0 outer s H vs Q E hr h => ⟨t_Disk_row K A E, ?_, pure_Disk_row F h⟩)
  exact (pss_one (ps_ret (pe_lc (own := [("page", 2)]) (g := (gName 2)) (tt := tYes) (te := (tMeth A.chip "page" (sp_Chip_page K A) [] E0 (tFld K (tVar 0) "chip") (tCons (tVar 1) (tCons (tVar 2) tNil)))) rfl sc_Disk_row.nd (pi_range1 rfl B.range (pa_cons (pe_fld (pv 0) rfl) pa_nil)) (blkOk_by (N := N_Disk_row) (sc := defScope s_Disk_row) (by decide +kernel)) (fun _ _ _ _ _ => (pg_name (i := 2) sc_Disk_row.nd rfl (Or.inl rfl))) (fun _ _ _ _ _ => pts_nil) (fun _ _ _ _ _ => (pm D_Chip_page F.cl_Chip hr (by decide) passLN (pe_fld (pv 0) rfl) (pa_cons (pv 1) (pa_cons (pv 2) pa_nil)))))))
theorem sc_is_whole : FnScope N_is_whole ["thing"] (defScope s_is_whole) := ⟨rfl, rfl, rfl, by decide +kernel, rfl, by decide +kernel, by decide +kernel⟩
theorem ok_is_whole {f : Addr} {fd : FuncData} (FF : Fun K "is_whole" "is_whole" s_is_whole f fd) (B : Blt mg) (G : Glo K mg A) (GD : GloD K mg A) (F : FacD K A) : FnOk P w K mg base (L2N.CX P w) 1 f fd ["thing"] (sp_is_whole K A) := by
  refine Fun.okN FF sc_is_whole (fun vs H Q E h => len_is_whole h) (fun cdv A0 outer s H vs Q E hr h => ⟨t_is_whole K A E, ?_, pure_is_whole F h⟩)
  exact (pss_one (ps_ret (pe_and (pe_cmpR op_notN (pv 0) pe_non (nomark _)) (pe_one (pe_cmpR (op_neD hr.units) (pv 0) (pe_gstr G.g_TORN rfl) (nomark _))))))
theorem sc_Disk_is_empty : FnScope N_Disk_is_empty ["self", "block"] (defScope s_Disk_is_empty) := ⟨rfl, rfl, rfl, by decide +kernel, rfl, by decide +kernel, by decide +kernel⟩
theorem ok_Disk_is_empty {f : Addr} {fd : FuncData} (FF : Fun K "is_empty" "Disk.is_empty" s_Disk_is_empty f fd) (B : Blt mg) (G : Glo K mg A) (GD : GloD K mg A) (F : FacD K A) (D_Disk_row : DefM P w K mg base 4 A.disk "row" (sp_Disk_row K A)) (D_is_whole : DefF P w K mg base 1 "is_whole" (sp_is_whole K A)) : FnOk P w K mg base (L2N.CX P w) 5 f fd ["self", "block"] (sp_Disk_is_empty K A) := by
  refine Fun.okN FF sc_Disk_is_empty (fun vs H Q E h => len_Disk_is_empty h) (fun cdv A0 outer s H vs Q E hr h => ⟨t_Disk_is_empty K A E, ?_, pure_Disk_is_empty F h⟩)
  exact (pss_one (ps_ret (pe_not (pe_callB (cr_any rfl) (by rfl) B.any (by decide +kernel) (pa_cons (pe_lc (own := [("thing", 2)]) (g := (gName 2)) (tt := tYes) (te := (tCall (sp_is_whole K A) [] E0 (tCons (tVar 2) tNil))) rfl sc_Disk_is_empty.nd (pi_list (pm D_Disk_row F.cl_Disk hr (by decide) passLN (pv 0) (pa_cons (pv 1) pa_nil))) (blkOk_by (N := N_Disk_is_empty) (sc := defScope s_Disk_is_empty) (by decide +kernel)) (fun _ _ _ _ _ => (pg_name (i := 2) sc_Disk_is_empty.nd rfl (Or.inl rfl))) (fun _ _ _ _ _ => pts_nil) (fun _ _ _ _ _ => (pf D_is_whole hr (by decide) passLN rfl (pa_cons (pv 2) pa_nil)))) pa_nil)))))
theorem sc_Chip_goes_well : FnScope N_Chip_goes_well ["self"] (defScope s_Chip_goes_well) := ⟨rfl, rfl, rfl, by decide +kernel, rfl, by decide +kernel, by decide +kernel⟩
theorem ok_Chip_goes_well {f : Addr} {fd : FuncData} (FF : Fun K "goes_well" "Chip.goes_well" s_Chip_goes_well f fd) (B : Blt mg) (G : Glo K mg A) (F : Fac K A) : FnOk P w K mg base (L2N.CX P w) 1 f fd ["self"] (sp_Chip_goes_well K A) := by
  refine Fun.okN FF sc_Chip_goes_well (fun vs H Q E h => len_Chip_goes_well h) (fun cdv A0 outer s H vs Q E hr h => ⟨t_Chip_goes_well K A E, ?_, pure_Chip_goes_well F h⟩)
  exact (pss_cons (ps_if (pt_val (pe_fld (pv 0) rfl))
  (pss_one (pr_raise G.x_Cut rfl (L2N.takes_of rfl rfl rfl rfl) rfl))
  pss_nil)
  (pss_cons (ps_if (pt_cmpR op_isN (pe_fld (pv 0) rfl) pe_non (nomark _))
  (pss_one (ps_ret pe_bl))
  pss_nil)
  (pss_cons (ps_fld (pv 0) (pe_cmpR op_le (pe_fld (pv 0) rfl) pe_int (nomark _)) rfl)
  (pss_cons (ps_fld (pv 0) (pe_op op_sub (pe_fld (pv 0) rfl) pe_int) rfl)
  (pss_one (ps_ret (pe_not (pe_fld (pv 0) rfl))))))))
theorem sc_Chip_erase : FnScope N_Chip_erase ["self", "block"] (defScope s_Chip_erase) := ⟨rfl, rfl, rfl, by decide +kernel, rfl, by decide +kernel, by decide +kernel⟩
theorem ok_Chip_erase {f : Addr} {fd : FuncData} (FF : Fun K "erase" "Chip.erase" s_Chip_erase f fd) (B : Blt mg) (G : Glo K mg A) (F : Fac K A) (D_Chip_need_block : DefM P w K mg base 1 A.chip "need_block" (sp_Chip_need_block K A)) (D_Chip_goes_well : DefM P w K mg base 1 A.chip "goes_well" (sp_Chip_goes_well K A)) : FnOk P w K mg base (L2N.CX P w) 2 f fd ["self", "block"] (sp_Chip_erase K A) := by
  refine Fun.okN FF sc_Chip_erase (fun vs H Q E h => len_Chip_erase h) (fun cdv A0 outer s H vs Q E hr h => ⟨t_Chip_erase K A E, ?_, pure_Chip_erase F h⟩)
  exact (pss_cons (ps_expr (pm D_Chip_need_block F.cl_Chip hr (by decide) (L2N.passes_call (L2N.takes_of rfl rfl rfl rfl) (fun _ _ _ _ h => h)) (pv 0) (pa_cons (pv 1) pa_nil)))
  (pss_cons (ps_set (i := 2) sc_Chip_erase.nd rfl (Or.inl rfl) (pm0 D_Chip_goes_well F.cl_Chip hr (by decide) (L2N.passes_call (L2N.takes_of rfl rfl rfl rfl) (fun _ _ _ _ h => h)) (pv 0)))
  (pss_cons (ps_asg (pe_op op_add (pe_ix ix_list (pe_fld (pv 0) rfl) (pv 1) (fun _ _ => rfl)) pe_int) (pg_sub (pe_fld (pv 0) rfl) (pv 1) set_list))
  (pss_cons (ps_asg (pe_op op_rep (pe_lst (pa_cons (pe_ifExp (pt_val (pv 2)) pe_non (pe_gstr G.g_TORN rfl)) pa_nil)) (pe_callB call_len_seq (by rfl) B.len (by decide +kernel) (pa_cons (pe_ix ix_list (pe_fld (pv 0) rfl) (pv 1) (fun _ _ => rfl)) pa_nil))) (pg_sub (pe_fld (pv 0) rfl) (pv 1) set_list))
  (pss_one (ps_if (pt_not (pt_val (pv 2)))
  (pss_one (pr_raise G.x_Cut rfl (L2N.takes_of rfl rfl rfl rfl) rfl))
  pss_nil))))))
theorem sc_Disk_greatest : FnScope N_Disk_greatest ["self"] (defScope s_Disk_greatest) := ⟨rfl, rfl, rfl, by decide +kernel, rfl, by decide +kernel, by decide +kernel⟩
theorem ok_Disk_greatest {f : Addr} {fd : FuncData} (FF : Fun K "greatest" "Disk.greatest" s_Disk_greatest f fd) (B : Blt mg) (G : Glo K mg A) (GD : GloD K mg A) (F : FacD K A) (D_Disk_row : DefM P w K mg base 4 A.disk "row" (sp_Disk_row K A)) (D_is_whole : DefF P w K mg base 1 "is_whole" (sp_is_whole K A)) : FnOk P w K mg base (L2N.CX P w) 5 f fd ["self"] (sp_Disk_greatest K A) := by
  refine Fun.okN FF sc_Disk_greatest (fun vs H Q E h => len_Disk_greatest h) (fun cdv A0 outer s H vs Q E hr h => ⟨t_Disk_greatest K A E, ?_, pure_Disk_greatest F h⟩)
  exact (pss_cons (ps_set (i := 1) sc_Disk_greatest.nd rfl (Or.inl rfl) pe_non)
  (pss_cons (ps_set (i := 2) sc_Disk_greatest.nd rfl (Or.inl rfl) (pe_un un_neg pe_int))
  (pss_cons (ps_for (passes_of rfl) rfl (pi_range1 rfl B.range (pa_cons (pe_fld (pv 0) rfl) pa_nil)) (pg_name (i := 3) sc_Disk_greatest.nd rfl (Or.inl rfl))
  (pss_one (ps_for (passes_of rfl) rfl (pi_list (pm D_Disk_row F.cl_Disk hr (by decide) passLN (pv 0) (pa_cons (pv 3) pa_nil))) (pg_name (i := 4) sc_Disk_greatest.nd rfl (Or.inl rfl))
  (pss_one (ps_if (PW.pt (pw_and (pt_val (pf D_is_whole hr (by decide) passLN rfl (pa_cons (pv 4) pa_nil))) (pw_and1 (pt_cmpR op_gt (pe_ix ix_tup (pv 4) pe_int (fun _ _ => rfl)) (pv 2) (nomark _)))))
  (pss_cons (ps_set (i := 1) sc_Disk_greatest.nd rfl (Or.inl rfl) (pv 3))
  (pss_one (ps_set (i := 2) sc_Disk_greatest.nd rfl (Or.inl rfl) (pe_ix ix_tup (pv 4) pe_int (fun _ _ => rfl)))))
  pss_nil)))))
  (pss_one (ps_ret (pv 1))))))
theorem sc_Disk_tidy : FnScope N_Disk_tidy ["self"] (defScope s_Disk_tidy) := ⟨rfl, rfl, rfl, by decide +kernel, rfl, by decide +kernel, by decide +kernel⟩
theorem ok_Disk_tidy {f : Addr} {fd : FuncData} (FF : Fun K "tidy" "Disk.tidy" s_Disk_tidy f fd) (B : Blt mg) (G : Glo K mg A) (GD : GloD K mg A) (F : FacD K A) (D_Disk_is_empty : DefM P w K mg base 5 A.disk "is_empty" (sp_Disk_is_empty K A)) (D_Chip_erase : DefM P w K mg base 2 A.chip "erase" (sp_Chip_erase K A)) (D_Disk_greatest : DefM P w K mg base 5 A.disk "greatest" (sp_Disk_greatest K A)) (D_Disk_row : DefM P w K mg base 4 A.disk "row" (sp_Disk_row K A)) : FnOk P w K mg base (L2N.CX P w) 6 f fd ["self"] (sp_Disk_tidy K A) := by
  refine Fun.okN FF sc_Disk_tidy (fun vs H Q E h => len_Disk_tidy h) (fun cdv A0 outer s H vs Q E hr h => ⟨t_Disk_tidy K A E, ?_, pure_Disk_tidy F h⟩)
  exact (pss_cons (ps_setLc (i := 1) (own := [("block", 2)]) (g := (gName 2)) (tt := (tB (tMeth A.disk "is_empty" (sp_Disk_is_empty K A) [] E0 (tVar 0) (tCons (tVar 2) tNil)))) (te := (tVar 2)) rfl sc_Disk_tidy.nd rfl rfl (sw_true rfl rfl rfl (by decide +kernel)) (pi_range1 rfl B.range (pa_cons (pe_fld (pv 0) rfl) pa_nil)) (blkOk_by (N := N_Disk_tidy) (sc := defScope s_Disk_tidy) (by decide +kernel)) (fun _ _ _ _ _ => (pg_name (i := 2) sc_Disk_tidy.nd rfl (Or.inl rfl))) (fun _ _ _ _ _ => (pts_one (pt_val (pm D_Disk_is_empty F.cl_Disk hr (by decide) passLN (pv 0) (pa_cons (pv 2) pa_nil))))) (fun _ _ _ _ _ => (pv 2)))
  (pss_cons (ps_if (pt_cmpR (op_eqD hr.units) (pv 1) (pe_lst pa_nil) (nomark _))
  (pss_one (ps_expr (pm D_Chip_erase F.cl_Chip hr (by decide) (L2N.passes_call (L2N.takes_of rfl rfl rfl rfl) (fun _ _ _ _ h => h)) (pe_fld (pv 0) rfl) (pa_cons (pm0 D_Disk_greatest F.cl_Disk hr (by decide) passLN (pv 0)) pa_nil))))
  pss_nil)
  (pss_one (ps_for (passes_of rfl) rfl (pi_list (pv 1)) (pg_name (i := 2) sc_Disk_tidy.nd rfl (Or.inl rfl))
  (pss_one (ps_if (pt_cmpR (op_inD (units65 hr)) (pe_gstr G.g_TORN rfl) (pm D_Disk_row F.cl_Disk hr (by decide) passLN (pv 0) (pa_cons (pv 2) pa_nil)) (by rfl))
  (pss_one (ps_expr (pm D_Chip_erase F.cl_Chip hr (by decide) (L2N.passes_call (L2N.takes_of rfl rfl rfl rfl) (fun _ _ _ _ h => h)) (pe_fld (pv 0) rfl) (pa_cons (pv 2) pa_nil))))
  pss_nil))))))
theorem sc_Disk_load : FnScope N_Disk_load ["self"] (defScope s_Disk_load) := ⟨rfl, rfl, rfl, by decide +kernel, rfl, by decide +kernel, by decide +kernel⟩
theorem ok_Disk_load {f : Addr} {fd : FuncData} (FF : Fun K "load" "Disk.load" s_Disk_load f fd) (B : Blt mg) (G : Glo K mg A) (GD : GloD K mg A) (F : FacD K A) (D_Disk_tidy : DefM P w K mg base 6 A.disk "tidy" (sp_Disk_tidy K A)) (D_Disk_row : DefM P w K mg base 4 A.disk "row" (sp_Disk_row K A)) (D_is_whole : DefF P w K mg base 1 "is_whole" (sp_is_whole K A)) (D_Disk_greatest : DefM P w K mg base 5 A.disk "greatest" (sp_Disk_greatest K A)) : FnOk P w K mg base (L2N.CX P w) 7 f fd ["self"] (sp_Disk_load K A) := by
  refine Fun.okN FF sc_Disk_load (fun vs H Q E h => len_Disk_load h) (fun cdv A0 outer s H vs Q E hr h => ⟨t_Disk_load K A E, ?_, pure_Disk_load F h⟩)
  exact (pss_cons (ps_expr (pm0 D_Disk_tidy F.cl_Disk hr (by decide) (L2N.passes_call (L2N.takes_of rfl rfl rfl rfl) (fun _ _ _ _ h => h)) (pv 0)))
  (pss_cons (ps_for (passes_of rfl) rfl (pi_range1 rfl B.range (pa_cons (pe_fld (pv 0) rfl) pa_nil)) (pg_name (i := 1) sc_Disk_load.nd rfl (Or.inl rfl))
  (pss_one (ps_for (passes_of rfl) rfl (pi_enum (by rfl) B.enumerate (pa_cons (pm D_Disk_row F.cl_Disk hr (by decide) passLN (pv 0) (pa_cons (pv 1) pa_nil)) pa_nil)) (pg_tup rfl (pgs_cons (pg_name (i := 2) sc_Disk_load.nd rfl (Or.inl rfl)) (pgs_cons (pg_name (i := 3) sc_Disk_load.nd rfl (Or.inl rfl)) pgs_nil)))
  (pss_one (ps_if (pt_val (pf D_is_whole hr (by decide) passLN rfl (pa_cons (pv 3) pa_nil)))
  (pss_cons (ps_asg (pv 3) (pg_tup rfl (pgs_cons (pg_name (i := 4) sc_Disk_load.nd rfl (Or.inl rfl)) (pgs_cons (pg_name (i := 5) sc_Disk_load.nd rfl (Or.inl rfl)) (pgs_cons (pg_name (i := 6) sc_Disk_load.nd rfl (Or.inl rfl)) pgs_nil)))))
  (pss_cons (ps_fld (pv 0) (pe_callB (call_max2 rfl) (by rfl) B.max (by decide +kernel) (pa_cons (pe_fld (pv 0) rfl) (pa_cons (pe_op op_add (pv 5) pe_int) pa_nil))) rfl)
  (pss_one (ps_if (PW.pt (pw_or (pt_cmp (pc_dnotin (hu_of hr) (pv 4) (pe_fld (pv 0) rfl))) (pw_or1 (pt_cmpR op_lt (pe_ix ix_tup (pe_dget (hu_of hr) (pe_fld (pv 0) rfl) (pv 4) (fun _ _ => rfl)) pe_int (fun _ _ => rfl)) (pv 5) (nomark _)))))
  (pss_one (ps_dput (hu_of hr) (pe_fld (pv 0) rfl) (pv 4) (pe_tup (pa_cons (pv 1) (pa_cons (pv 2) (pa_cons (pv 5) (pa_cons (pv 6) pa_nil))))) rfl))
  pss_nil))))
  pss_nil)))))
  (pss_cons (ps_set (i := 7) sc_Disk_load.nd rfl (Or.inl rfl) (pm0 D_Disk_greatest F.cl_Disk hr (by decide) passLN (pv 0)))
  (pss_one (ps_if (pt_cmpR op_notN (pv 7) pe_non (nomark _))
  (pss_cons (ps_fld (pv 0) (pv 7) rfl)
  (pss_one (ps_fld (pv 0) (pe_callB call_len_seq (by rfl) B.len (by decide +kernel) (pa_cons (pe_lc (own := [("thing", 3)]) (g := (gName 3)) (tt := (tTest (tOp zNotN (tVar 3) (tC .non)))) (te := (tC (.int 1))) rfl sc_Disk_load.nd (pi_list (pm D_Disk_row F.cl_Disk hr (by decide) passLN (pv 0) (pa_cons (pv 7) pa_nil))) (blkOk_by (N := N_Disk_load) (sc := defScope s_Disk_load) (by decide +kernel)) (fun _ _ _ _ _ => (pg_name (i := 3) sc_Disk_load.nd rfl (Or.inl rfl))) (fun _ _ _ _ _ => (pts_one (pt_cmpR op_notN (pv 3) pe_non (nomark _)))) (fun _ _ _ _ _ => pe_int)) pa_nil)) rfl)))
  pss_nil)))))
theorem sc_mounted : FnScope N_mounted ["chip", "sectors"] (defScope s_mounted) := ⟨rfl, rfl, rfl, by decide +kernel, rfl, by decide +kernel, by decide +kernel⟩
theorem ok_mounted {f : Addr} {fd : FuncData} (FF : Fun K "mounted" "mounted" s_mounted f fd) (B : Blt mg) (G : Glo K mg A) (GD : GloD K mg A) (F : FacD K A) (D_Disk_init : DefC P w K mg base 2 "Disk" A.disk (sp_Disk_init K A)) (D_Disk_load : DefM P w K mg base 7 A.disk "load" (sp_Disk_load K A)) : FnOk P w K mg base (L2N.CX P w) 8 f fd ["chip", "sectors"] (sp_mounted K A) := by
  refine Fun.okN FF sc_mounted (fun vs H Q E h => len_mounted h) (fun cdv A0 outer s H vs Q E hr h => ⟨t_mounted K A E, ?_, pure_mounted F h⟩)
  exact (pss_cons (ps_set (i := 2) sc_mounted.nd rfl (Or.inl rfl) (pc D_Disk_init hr (by decide) (L2N.passes_call (L2N.takes_of rfl rfl rfl rfl) (fun _ _ _ _ h => h)) rfl (pa_cons (pv 0) (pa_cons (pv 1) pa_nil))))
  (pss_cons (ps_expr (pm0 D_Disk_load F.cl_Disk hr (by decide) (L2N.passes_call (L2N.takes_of rfl rfl rfl rfl) (fun _ _ _ _ h => h)) (pv 2)))
  (pss_one (ps_ret (pv 2)))))
theorem sc_Disk_need_sector : FnScope N_Disk_need_sector ["self", "sector"] (defScope s_Disk_need_sector) := ⟨rfl, rfl, rfl, by decide +kernel, rfl, by decide +kernel, by decide +kernel⟩
theorem ok_Disk_need_sector {f : Addr} {fd : FuncData} (FF : Fun K "need_sector" "Disk.need_sector" s_Disk_need_sector f fd) (B : Blt mg) (G : Glo K mg A) (GD : GloD K mg A) (F : FacD K A) : FnOk P w K mg base (L2N.CX P w) 1 f fd ["self", "sector"] (sp_Disk_need_sector K A) := by
  refine Fun.okN FF sc_Disk_need_sector (fun vs H Q E h => len_Disk_need_sector h) (fun cdv A0 outer s H vs Q E hr h => ⟨t_Disk_need_sector K A E, ?_, pure_Disk_need_sector F h⟩)
  exact (pss_one (ps_if (pt_not (pt_chain op_le op_lt pe_int (pv 1) (pe_fld (pv 0) rfl)))
  (pss_one (pr_raise G.x_NoSector rfl (L2N.takes_of rfl rfl rfl rfl) rfl))
  pss_nil))
theorem sc_Disk_read : FnScope N_Disk_read ["self", "sector"] (defScope s_Disk_read) := ⟨rfl, rfl, rfl, by decide +kernel, rfl, by decide +kernel, by decide +kernel⟩
theorem ok_Disk_read {f : Addr} {fd : FuncData} (FF : Fun K "read" "Disk.read" s_Disk_read f fd) (B : Blt mg) (G : Glo K mg A) (GD : GloD K mg A) (F : FacD K A) (D_Disk_need_sector : DefM P w K mg base 1 A.disk "need_sector" (sp_Disk_need_sector K A)) : FnOk P w K mg base (L2N.CX P w) 2 f fd ["self", "sector"] (sp_Disk_read K A) := by
  refine Fun.okN FF sc_Disk_read (fun vs H Q E h => len_Disk_read h) (fun cdv A0 outer s H vs Q E hr h => ⟨t_Disk_read K A E, ?_, pure_Disk_read F h⟩)
  exact (pss_cons (ps_expr (pm D_Disk_need_sector F.cl_Disk hr (by decide) (L2N.passes_call (L2N.takes_of rfl rfl rfl rfl) (fun _ _ _ _ h => h)) (pv 0) (pa_cons (pv 1) pa_nil)))
  (pss_cons (ps_if (pt_cmp (pc_dnotin (hu_of hr) (pv 1) (pe_fld (pv 0) rfl)))
  (pss_one (ps_ret pe_int))
  pss_nil)
  (pss_one (ps_ret (pe_ix ix_tup (pe_dget (hu_of hr) (pe_fld (pv 0) rfl) (pv 1) (fun _ _ => rfl)) pe_int (fun _ _ => rfl))))))
theorem sc_Chip_write : FnScope N_Chip_write ["self", "block", "page", "thing"] (defScope s_Chip_write) := ⟨rfl, rfl, rfl, by decide +kernel, rfl, by decide +kernel, by decide +kernel⟩
theorem ok_Chip_write {f : Addr} {fd : FuncData} (FF : Fun K "write" "Chip.write" s_Chip_write f fd) (B : Blt mg) (G : Glo K mg A) (F : Fac K A) (D_Chip_need_page : DefM P w K mg base 2 A.chip "need_page" (sp_Chip_need_page K A)) (D_Chip_goes_well : DefM P w K mg base 1 A.chip "goes_well" (sp_Chip_goes_well K A)) : FnOk P w K mg base (L2N.CX P w) 3 f fd ["self", "block", "page", "thing"] (sp_Chip_write K A) := by
  refine Fun.okN FF sc_Chip_write (fun vs H Q E h => len_Chip_write h) (fun cdv A0 outer s H vs Q E hr h => ⟨t_Chip_write K A E, ?_, pure_Chip_write F h⟩)
  exact (pss_cons (ps_expr (pm D_Chip_need_page F.cl_Chip hr (by decide) (L2N.passes_call (L2N.takes_of rfl rfl rfl rfl) (fun _ _ _ _ h => h)) (pv 0) (pa_cons (pv 1) (pa_cons (pv 2) pa_nil))))
  (pss_cons (ps_if (pt_not (pt_val (pe_callB (cr_all rfl) (by rfl) B.all (by decide +kernel) (pa_cons (pe_lc (own := [("one", 5)]) (g := (gName 5)) (tt := tYes) (te := (tOp zIsN (tVar 5) (tC .non))) rfl sc_Chip_write.nd (pi_list (pe_slice sl_list (pe_ix ix_list (pe_fld (pv 0) rfl) (pv 1) (fun _ _ => rfl)) (po_some (pv 2)) po_none)) (blkOk_by (N := N_Chip_write) (sc := defScope s_Chip_write) (by decide +kernel)) (fun _ _ _ _ _ => (pg_name (i := 5) sc_Chip_write.nd rfl (Or.inl rfl))) (fun _ _ _ _ _ => pts_nil) (fun _ _ _ _ _ => (pe_cmpR op_isN (pv 5) pe_non (nomark _)))) pa_nil))))
  (pss_one (pr_raise G.x_NotErased rfl (L2N.takes_of rfl rfl rfl rfl) rfl))
  pss_nil)
  (pss_cons (ps_set (i := 4) sc_Chip_write.nd rfl (Or.inl rfl) (pm0 D_Chip_goes_well F.cl_Chip hr (by decide) (L2N.passes_call (L2N.takes_of rfl rfl rfl rfl) (fun _ _ _ _ h => h)) (pv 0)))
  (pss_cons (ps_fld (pv 0) (pe_op op_add (pe_fld (pv 0) rfl) pe_int) rfl)
  (pss_cons (ps_asg (pe_ifExp (pt_val (pv 4)) (pv 3) (pe_gstr G.g_TORN rfl)) (pg_sub (pe_ix ix_list (pe_fld (pv 0) rfl) (pv 1) (fun _ _ => rfl)) (pv 2) set_list))
  (pss_one (ps_if (pt_not (pt_val (pv 4)))
  (pss_one (pr_raise G.x_Cut rfl (L2N.takes_of rfl rfl rfl rfl) rfl))
  pss_nil)))))))
theorem sc_Disk_put : FnScope N_Disk_put ["self", "sector", "content"] (defScope s_Disk_put) := ⟨rfl, rfl, rfl, by decide +kernel, rfl, by decide +kernel, by decide +kernel⟩
theorem ok_Disk_put {f : Addr} {fd : FuncData} (FF : Fun K "put" "Disk.put" s_Disk_put f fd) (B : Blt mg) (G : Glo K mg A) (GD : GloD K mg A) (F : FacD K A) (D_Chip_write : DefM P w K mg base 3 A.chip "write" (sp_Chip_write K A)) : FnOk P w K mg base (L2N.CX P w) 4 f fd ["self", "sector", "content"] (sp_Disk_put K A) := by
  refine Fun.okN FF sc_Disk_put (fun vs H Q E h => len_Disk_put h) (fun cdv A0 outer s H vs Q E hr h => ⟨t_Disk_put K A E, ?_, pure_Disk_put F h⟩)
  exact (pss_cons (ps_expr (pm D_Chip_write F.cl_Chip hr (by decide) (L2N.passes_call (L2N.takes_of rfl rfl rfl rfl) (fun _ _ _ _ h => h)) (pe_fld (pv 0) rfl) (pa_cons (pe_fld (pv 0) rfl) (pa_cons (pe_fld (pv 0) rfl) (pa_cons (pe_tup (pa_cons (pv 1) (pa_cons (pe_fld (pv 0) rfl) (pa_cons (pv 2) pa_nil)))) pa_nil)))))
  (pss_cons (ps_dput (hu_of hr) (pe_fld (pv 0) rfl) (pv 1) (pe_tup (pa_cons (pe_fld (pv 0) rfl) (pa_cons (pe_fld (pv 0) rfl) (pa_cons (pe_fld (pv 0) rfl) (pa_cons (pv 2) pa_nil))))) rfl)
  (pss_cons (ps_fld (pv 0) (pe_op op_add (pe_fld (pv 0) rfl) pe_int) rfl)
  (pss_one (ps_fld (pv 0) (pe_op op_add (pe_fld (pv 0) rfl) pe_int) rfl)))))
theorem sc_Disk_clean : FnScope N_Disk_clean ["self", "block"] (defScope s_Disk_clean) := ⟨rfl, rfl, rfl, by decide +kernel, rfl, by decide +kernel, by decide +kernel⟩
theorem ok_Disk_clean {f : Addr} {fd : FuncData} (FF : Fun K "clean" "Disk.clean" s_Disk_clean f fd) (B : Blt mg) (G : Glo K mg A) (GD : GloD K mg A) (F : FacD K A) (D_Disk_row : DefM P w K mg base 4 A.disk "row" (sp_Disk_row K A)) (D_is_whole : DefF P w K mg base 1 "is_whole" (sp_is_whole K A)) (D_Disk_put : DefM P w K mg base 4 A.disk "put" (sp_Disk_put K A)) (D_Chip_erase : DefM P w K mg base 2 A.chip "erase" (sp_Chip_erase K A)) : FnOk P w K mg base (L2N.CX P w) 5 f fd ["self", "block"] (sp_Disk_clean K A) := by
  refine Fun.okN FF sc_Disk_clean (fun vs H Q E h => len_Disk_clean h) (fun cdv A0 outer s H vs Q E hr h => ⟨t_Disk_clean K A E, ?_, pure_Disk_clean F h⟩)
  exact (pss_cons (ps_for (passes_of rfl) rfl (pi_enum (by rfl) B.enumerate (pa_cons (pm D_Disk_row F.cl_Disk hr (by decide) passLN (pv 0) (pa_cons (pv 1) pa_nil)) pa_nil)) (pg_tup rfl (pgs_cons (pg_name (i := 2) sc_Disk_clean.nd rfl (Or.inl rfl)) (pgs_cons (pg_name (i := 3) sc_Disk_clean.nd rfl (Or.inl rfl)) pgs_nil)))
  (pss_one (ps_if (PW.pt (pw_and (pt_val (pf D_is_whole hr (by decide) passLN rfl (pa_cons (pv 3) pa_nil))) (pw_and1 (pt_cmpR (op_eqD hr.units) (pe_slice sl_tup (pe_dget (hu_of hr) (pe_fld (pv 0) rfl) (pe_ix ix_tup (pv 3) pe_int (fun _ _ => rfl)) (fun _ _ => rfl)) po_none (po_some pe_int)) (pe_tup (pa_cons (pv 1) (pa_cons (pv 2) pa_nil))) (nomark _)))))
  (pss_one (ps_expr (pm D_Disk_put F.cl_Disk hr (by decide) (L2N.passes_call (L2N.takes_of rfl rfl rfl rfl) (fun _ _ _ _ h => h)) (pv 0) (pa_cons (pe_ix ix_tup (pv 3) pe_int (fun _ _ => rfl)) (pa_cons (pe_ix ix_tup (pv 3) pe_int (fun _ _ => rfl)) pa_nil)))))
  pss_nil)))
  (pss_one (ps_expr (pm D_Chip_erase F.cl_Chip hr (by decide) (L2N.passes_call (L2N.takes_of rfl rfl rfl rfl) (fun _ _ _ _ h => h)) (pe_fld (pv 0) rfl) (pa_cons (pv 1) pa_nil)))))
theorem sc_Disk_advance : FnScope N_Disk_advance ["self"] (defScope s_Disk_advance) := ⟨rfl, rfl, rfl, by decide +kernel, rfl, by decide +kernel, by decide +kernel⟩
theorem ok_Disk_advance {f : Addr} {fd : FuncData} (FF : Fun K "advance" "Disk.advance" s_Disk_advance f fd) (B : Blt mg) (G : Glo K mg A) (GD : GloD K mg A) (F : FacD K A) (D_Disk_is_empty : DefM P w K mg base 5 A.disk "is_empty" (sp_Disk_is_empty K A)) (D_Disk_clean : DefM P w K mg base 5 A.disk "clean" (sp_Disk_clean K A)) : FnOk P w K mg base (L2N.CX P w) 6 f fd ["self"] (sp_Disk_advance K A) := by
  refine Fun.okN FF sc_Disk_advance (fun vs H Q E h => len_Disk_advance h) (fun cdv A0 outer s H vs Q E hr h => ⟨t_Disk_advance K A E, ?_, pure_Disk_advance F h⟩)
  exact (pss_cons (ps_fld (pv 0) (pe_op op_mod (pe_op op_add (pe_fld (pv 0) rfl) pe_int) (pe_fld (pv 0) rfl)) rfl)
  (pss_cons (ps_fld (pv 0) pe_int rfl)
  (pss_cons (ps_set (i := 1) sc_Disk_advance.nd rfl (Or.inl rfl) (pe_op op_mod (pe_op op_add (pe_fld (pv 0) rfl) pe_int) (pe_fld (pv 0) rfl)))
  (pss_one (ps_if (pt_not (pt_val (pm D_Disk_is_empty F.cl_Disk hr (by decide) passLN (pv 0) (pa_cons (pv 1) pa_nil))))
  (pss_one (ps_expr (pm D_Disk_clean F.cl_Disk hr (by decide) (L2N.passes_call (L2N.takes_of rfl rfl rfl rfl) (fun _ _ _ _ h => h)) (pv 0) (pa_cons (pv 1) pa_nil))))
  pss_nil)))))
theorem sc_Disk_write : FnScope N_Disk_write ["self", "sector", "content"] (defScope s_Disk_write) := ⟨rfl, rfl, rfl, by decide +kernel, rfl, by decide +kernel, by decide +kernel⟩
theorem ok_Disk_write {f : Addr} {fd : FuncData} (FF : Fun K "write" "Disk.write" s_Disk_write f fd) (B : Blt mg) (G : Glo K mg A) (GD : GloD K mg A) (F : FacD K A) (D_Disk_need_sector : DefM P w K mg base 1 A.disk "need_sector" (sp_Disk_need_sector K A)) (D_Disk_advance : DefM P w K mg base 6 A.disk "advance" (sp_Disk_advance K A)) (D_Disk_put : DefM P w K mg base 4 A.disk "put" (sp_Disk_put K A)) : FnOk P w K mg base (L2N.CX P w) 7 f fd ["self", "sector", "content"] (sp_Disk_write K A) := by
  refine Fun.okN FF sc_Disk_write (fun vs H Q E h => len_Disk_write h) (fun cdv A0 outer s H vs Q E hr h => ⟨t_Disk_write K A E, ?_, pure_Disk_write F h⟩)
  exact (pss_cons (ps_expr (pm D_Disk_need_sector F.cl_Disk hr (by decide) (L2N.passes_call (L2N.takes_of rfl rfl rfl rfl) (fun _ _ _ _ h => h)) (pv 0) (pa_cons (pv 1) pa_nil)))
  (pss_cons (ps_if (pt_not (pt_chain op_le op_le pe_int (pv 2) (pe_gint GD.g_MOST_CONTENT rfl)))
  (pss_one (pr_raise G.x_BadContent rfl (L2N.takes_of rfl rfl rfl rfl) rfl))
  pss_nil)
  (pss_cons (ps_while (passes_of rfl) (pt_cmpR op_eq (pe_fld (pv 0) rfl) (pe_fld (pv 0) rfl) (nomark _))
  (pss_one (ps_expr (pm0 D_Disk_advance F.cl_Disk hr (by decide) (L2N.passes_call (L2N.takes_of rfl rfl rfl rfl) (fun _ _ _ _ h => h)) (pv 0)))))
  (pss_one (ps_expr (pm D_Disk_put F.cl_Disk hr (by decide) (L2N.passes_call (L2N.takes_of rfl rfl rfl rfl) (fun _ _ _ _ h => h)) (pv 0) (pa_cons (pv 1) (pa_cons (pv 2) pa_nil))))))))
theorem sc_Desk_at_disk : FnScope N_Desk_at_disk ["self", "word", "numbers"] (defScope s_Desk_at_disk) := ⟨rfl, rfl, rfl, by decide +kernel, rfl, by decide +kernel, by decide +kernel⟩
theorem ok_Desk_at_disk {f : Addr} {fd : FuncData} (FF : Fun K "at_disk" "Desk.at_disk" s_Desk_at_disk f fd) (B : Blt mg) (G : Glo K mg A) (GD : GloD K mg A) (F : FacQ K A) (D_Disk_read : DefM P w K mg base 2 A.disk "read" (sp_Disk_read K A)) (D_Disk_write : DefM P w K mg base 7 A.disk "write" (sp_Disk_write K A)) : FnOk P w K mg base (L2N.CX P w) 8 f fd ["self", "word", "numbers"] (sp_Desk_at_disk K A) := by
  refine Fun.okN FF sc_Desk_at_disk (fun vs H Q E h => len_Desk_at_disk h) (fun cdv A0 outer s H vs Q E hr h => ⟨t_Desk_at_disk K A E, ?_, pure_Desk_at_disk F h⟩)
  exact (pss_cons (ps_if (pt_cmpR op_isN (pe_fld (pv 0) rfl) pe_non (nomark _))
  (pss_one (pr_raise G.x_NoDisk rfl (L2N.takes_of rfl rfl rfl rfl) rfl))
  pss_nil)
  (pss_cons (ps_if (pt_cmpR op_eq (pv 1) pe_str (nomark _))
  (pss_one (ps_ret (pe_callTy call_str_int (by rfl) B.str (by decide +kernel) (pa_cons (pm D_Disk_read F.cl_Disk hr (by decide) (L2N.passes_call (L2N.takes_of rfl rfl rfl rfl) (fun _ _ _ _ h => h)) (pe_fld (pv 0) rfl) (pa_cons (pe_ix ix_list (pv 2) pe_int (fun _ _ => rfl)) pa_nil)) pa_nil))))
  pss_nil)
  (pss_cons (ps_try_again (tb := fun W => (tDrop (tMethS A.disk "write" (sp_Disk_write K A) (WE W) (tFld K (tVar 0) "disk") (tCons (tOp (rIxL K) (tVar 2) (tC (.int 0))) (tCons (tOp (rIxL K) (tVar 2) (tC (.int 1))) tNil))))) (ts := (sFld K (tVar 0) (tC .non) "disk")) (Wout := (fun cls d _ H => E cls d H)) rfl rfl rfl ⟨rfl, by decide, .inl G.x_Cut.g⟩ (L2N.takes_of rfl rfl rfl rfl) (fun W pn xe tk hp => (pss_one (ps_expr (pmS D_Disk_write F.cl_Disk hr (by decide) (fun s => L2N.passAt tk s) (pe_fld (pv 0) rfl) (pa_cons (pe_ix ix_list (pv 2) pe_int (fun _ _ => rfl)) (pa_cons (pe_ix ix_list (pv 2) pe_int (fun _ _ => rfl)) pa_nil)))))) (fun hd => L2H.passesAt_of rfl hd) (fun a pn => (ps_fld (pv 0) pe_non rfl)))
  (pss_one (ps_ret pe_str)))))
theorem sc_Chip_power : FnScope N_Chip_power ["self", "many"] (defScope s_Chip_power) := ⟨rfl, rfl, rfl, by decide +kernel, rfl, by decide +kernel, by decide +kernel⟩
theorem ok_Chip_power {f : Addr} {fd : FuncData} (FF : Fun K "power" "Chip.power" s_Chip_power f fd) (B : Blt mg) (G : Glo K mg A) (F : Fac K A) : FnOk P w K mg base (L2N.CX P w) 1 f fd ["self", "many"] (sp_Chip_power K A) := by
  refine Fun.okN FF sc_Chip_power (fun vs H Q E h => len_Chip_power h) (fun cdv A0 outer s H vs Q E hr h => ⟨t_Chip_power K A E, ?_, pure_Chip_power F h⟩)
  exact (pss_cons (ps_fld (pv 0) (pv 1) rfl)
  (pss_one (ps_fld (pv 0) pe_bl rfl)))
theorem sc_Chip_worn : FnScope N_Chip_worn ["self", "block"] (defScope s_Chip_worn) := ⟨rfl, rfl, rfl, by decide +kernel, rfl, by decide +kernel, by decide +kernel⟩
theorem ok_Chip_worn {f : Addr} {fd : FuncData} (FF : Fun K "worn" "Chip.worn" s_Chip_worn f fd) (B : Blt mg) (G : Glo K mg A) (F : Fac K A) (D_Chip_need_block : DefM P w K mg base 1 A.chip "need_block" (sp_Chip_need_block K A)) : FnOk P w K mg base (L2N.CX P w) 2 f fd ["self", "block"] (sp_Chip_worn K A) := by
  refine Fun.okN FF sc_Chip_worn (fun vs H Q E h => len_Chip_worn h) (fun cdv A0 outer s H vs Q E hr h => ⟨t_Chip_worn K A E, ?_, pure_Chip_worn F h⟩)
  exact (pss_cons (ps_expr (pm D_Chip_need_block F.cl_Chip hr (by decide) (L2N.passes_call (L2N.takes_of rfl rfl rfl rfl) (fun _ _ _ _ h => h)) (pv 0) (pa_cons (pv 1) pa_nil)))
  (pss_one (ps_ret (pe_ix ix_list (pe_fld (pv 0) rfl) (pv 1) (fun _ _ => rfl)))))
theorem sc_Chip_written : FnScope N_Chip_written ["self"] (defScope s_Chip_written) := ⟨rfl, rfl, rfl, by decide +kernel, rfl, by decide +kernel, by decide +kernel⟩
theorem ok_Chip_written {f : Addr} {fd : FuncData} (FF : Fun K "written" "Chip.written" s_Chip_written f fd) (B : Blt mg) (G : Glo K mg A) (F : Fac K A) : FnOk P w K mg base (L2N.CX P w) 1 f fd ["self"] (sp_Chip_written K A) := by
  refine Fun.okN FF sc_Chip_written (fun vs H Q E h => len_Chip_written h) (fun cdv A0 outer s H vs Q E hr h => ⟨t_Chip_written K A E, ?_, pure_Chip_written F h⟩)
  exact (pss_one (ps_ret (pe_fld (pv 0) rfl)))
theorem sc_Desk_at_chip : FnScope N_Desk_at_chip ["self", "word", "numbers"] (defScope s_Desk_at_chip) := ⟨rfl, rfl, rfl, by decide +kernel, rfl, by decide +kernel, by decide +kernel⟩
theorem ok_Desk_at_chip {f : Addr} {fd : FuncData} (FF : Fun K "at_chip" "Desk.at_chip" s_Desk_at_chip f fd) (B : Blt mg) (G : Glo K mg A) (GD : GloD K mg A) (F : FacQ K A) (D_Chip_power : DefM P w K mg base 1 A.chip "power" (sp_Chip_power K A)) (D_mounted : DefF P w K mg base 8 "mounted" (sp_mounted K A)) (D_Chip_worn : DefM P w K mg base 2 A.chip "worn" (sp_Chip_worn K A)) (D_Chip_written : DefM P w K mg base 1 A.chip "written" (sp_Chip_written K A)) (D_Chip_page : DefM P w K mg base 3 A.chip "page" (sp_Chip_page K A)) : FnOk P w K mg base (L2N.CX P w) 9 f fd ["self", "word", "numbers"] (sp_Desk_at_chip K A) := by
  refine Fun.okN FF sc_Desk_at_chip (fun vs H Q E h => len_Desk_at_chip h) (fun cdv A0 outer s H vs Q E hr h => ⟨t_Desk_at_chip K A E, ?_, pure_Desk_at_chip F h⟩)
  exact (pss_cons (ps_if (pt_cmpR op_eq (pv 1) pe_str (nomark _))
  (pss_one (ps_expr (pm D_Chip_power F.cl_Chip hr (by decide) passLN (pe_fld (pv 0) rfl) (pa_cons (pe_ix ix_list (pv 2) pe_int (fun _ _ => rfl)) pa_nil))))
  (pss_one (ps_if (pt_cmpR op_eq (pv 1) pe_str (nomark _))
  (pss_cons (ps_fld (pv 0) pe_non rfl)
  (pss_one (ps_fld (pv 0) (pf D_mounted hr (by decide) (L2N.passes_call (L2N.takes_of rfl rfl rfl rfl) (fun _ _ _ _ h => h)) rfl (pa_cons (pe_fld (pv 0) rfl) (pa_cons (pe_fld (pv 0) rfl) pa_nil))) rfl)))
  (pss_one (ps_if (pt_cmpR op_eq (pv 1) pe_str (nomark _))
  (pss_one (ps_ret (pe_callTy call_str_int (by rfl) B.str (by decide +kernel) (pa_cons (pm D_Chip_worn F.cl_Chip hr (by decide) (L2N.passes_call (L2N.takes_of rfl rfl rfl rfl) (fun _ _ _ _ h => h)) (pe_fld (pv 0) rfl) (pa_cons (pe_ix ix_list (pv 2) pe_int (fun _ _ => rfl)) pa_nil)) pa_nil))))
  (pss_one (ps_if (pt_cmpR op_eq (pv 1) pe_str (nomark _))
  (pss_one (ps_ret (pe_callTy call_str_int (by rfl) B.str (by decide +kernel) (pa_cons (pm0 D_Chip_written F.cl_Chip hr (by decide) passLN (pe_fld (pv 0) rfl)) pa_nil))))
  (pss_cons (ps_set (i := 3) sc_Desk_at_chip.nd rfl (Or.inl rfl) (pm D_Chip_page F.cl_Chip hr (by decide) (L2N.passes_call (L2N.takes_of rfl rfl rfl rfl) (fun _ _ _ _ h => h)) (pe_fld (pv 0) rfl) (pa_cons (pe_ix ix_list (pv 2) pe_int (fun _ _ => rfl)) (pa_cons (pe_ix ix_list (pv 2) pe_int (fun _ _ => rfl)) pa_nil))))
  (pss_cons (ps_if (pt_cmpR op_isN (pv 3) pe_non (nomark _))
  (pss_one (ps_ret pe_str))
  pss_nil)
  (pss_one (ps_ret (pe_ifExp (pt_val (pe_callB call_isi (by rfl) B.isinstance (by decide +kernel) (pa_cons (pv 3) (pa_cons (pe_bltTy rfl B.str (by rfl)) pa_nil)))) (pv 3) pe_str))))))))))))
  (pss_one (ps_ret pe_str)))
theorem sc_Desk_answer : FnScope N_Desk_answer ["self", "line"] (defScope s_Desk_answer) := ⟨rfl, rfl, rfl, by decide +kernel, rfl, by decide +kernel, by decide +kernel⟩
theorem ok_Desk_answer {f : Addr} {fd : FuncData} (FF : Fun K "answer" "Desk.answer" s_Desk_answer f fd) (B : Blt mg) (G : Glo K mg A) (GD : GloD K mg A) (F : FacQ K A) (D_words_of : DefF P w K mg base 2 "words_of" (sp_words_of K A)) (D_Chip_init : DefC P w K mg base 1 "Chip" A.chip (sp_Chip_init K A)) (D_mounted : DefF P w K mg base 8 "mounted" (sp_mounted K A)) (D_Desk_at_disk : DefM P w K mg base 8 A.desk "at_disk" (sp_Desk_at_disk K A)) (D_Desk_at_chip : DefM P w K mg base 9 A.desk "at_chip" (sp_Desk_at_chip K A)) : FnOk P w K mg base (L2N.CX P w) 10 f fd ["self", "line"] (sp_Desk_answer K A) := by
  refine Fun.okN FF sc_Desk_answer (fun vs H Q E h => len_Desk_answer h) (fun cdv A0 outer s H vs Q E hr h => ⟨t_Desk_answer K A E, ?_, pure_Desk_answer F h⟩)
  exact (pss_cons (ps_asg (pf D_words_of hr (by decide) (L2N.passes_call (L2N.takes_of rfl rfl rfl rfl) (fun _ _ _ _ h => h)) rfl (pa_cons (pv 1) pa_nil)) (pg_tup rfl (pgs_cons (pg_name (i := 2) sc_Desk_answer.nd rfl (Or.inl rfl)) (pgs_cons (pg_name (i := 3) sc_Desk_answer.nd rfl (Or.inl rfl)) pgs_nil))))
  (pss_cons (ps_if (pt_cmpR op_eq (pv 2) pe_str (nomark _))
  (pss_cons (ps_set (i := 4) sc_Desk_answer.nd rfl (Or.inl rfl) (pc D_Chip_init hr (by decide) (L2N.passes_call (L2N.takes_of rfl rfl rfl rfl) (fun _ _ _ _ h => h)) rfl (pa_cons (pe_ix ix_list (pv 3) pe_int (fun _ _ => rfl)) (pa_cons (pe_ix ix_list (pv 3) pe_int (fun _ _ => rfl)) pa_nil))))
  (pss_cons (ps_fld (pv 0) (pf D_mounted hr (by decide) (L2N.passes_call (L2N.takes_of rfl rfl rfl rfl) (fun _ _ _ _ h => h)) rfl (pa_cons (pv 4) (pa_cons (pe_ix ix_list (pv 3) pe_int (fun _ _ => rfl)) pa_nil))) rfl)
  (pss_cons (ps_fld (pv 0) (pv 4) rfl)
  (pss_cons (ps_fld (pv 0) (pe_ix ix_list (pv 3) pe_int (fun _ _ => rfl)) rfl)
  (pss_one (ps_ret pe_str))))))
  pss_nil)
  (pss_cons (ps_if (pt_cmpR op_isN (pe_fld (pv 0) rfl) pe_non (nomark _))
  (pss_one (pr_raise G.x_NoDisk rfl (L2N.takes_of rfl rfl rfl rfl) rfl))
  pss_nil)
  (pss_cons (ps_if (pt_cmpR op_in_seq (pv 2) (pe_tup (pa_cons pe_str (pa_cons pe_str pa_nil))) (by rfl))
  (pss_one (ps_ret (pm D_Desk_at_disk F.cl_Desk hr (by decide) (L2N.passes_call (L2N.takes_of rfl rfl rfl rfl) (fun _ _ _ _ h => h)) (pv 0) (pa_cons (pv 2) (pa_cons (pv 3) pa_nil)))))
  pss_nil)
  (pss_one (ps_ret (pm D_Desk_at_chip F.cl_Desk hr (by decide) (L2N.passes_call (L2N.takes_of rfl rfl rfl rfl) (fun _ _ _ _ h => h)) (pv 0) (pa_cons (pv 2) (pa_cons (pv 3) pa_nil)))))))))
theorem sc_class_of : FnScope N_class_of ["error"] (defScope s_class_of) := ⟨rfl, rfl, rfl, by decide +kernel, rfl, by decide +kernel, by decide +kernel⟩
theorem ok_class_of {f : Addr} {fd : FuncData} (FF : Fun K "class_of" "class_of" s_class_of f fd) (B : Blt mg) (G : Glo K mg A) : FnE P w K mg base 1 f fd "error" (spw_class_of K A) := by
  obtain ⟨oc, od, kV, doc, pm, an, cdv, ct, osl, rfl, lk, hcd⟩ := FF.ex
  refine fn_ofE lk hcd sc_class_of fun A0 outer s H Q p D hot hz hr h => ?_
  have hC : ExcC K D := let ⟨_, e, WF, _⟩ := h; by rw [e]; exact WF.ex
  have hf : ∃ vs, p.2.data = .fields vs := let ⟨_, vs, d, _⟩ := hot; ⟨vs, d⟩
  refine ⟨t_class_of K A D p.1, ?_, pure_class_of h⟩
  exact (pss_cons (ps_if (pt_val (pe_callB (call_isX hC hz hf List.mem_cons_self) (by rfl) B.isinstance (by decide +kernel) (pa_cons (pv 0) (pa_cons (pe_glob rfl G.x_BadRow.g rfl) pa_nil)))) (pss_one (ps_ret pe_str)) pss_nil)
    (pss_cons (ps_if (pt_val (pe_callB (call_isX hC hz hf List.mem_cons_self) (by rfl) B.isinstance (by decide +kernel) (pa_cons (pv 0) (pa_cons (pe_glob rfl G.x_BadSize.g rfl) pa_nil)))) (pss_one (ps_ret pe_str)) pss_nil)
    (pss_cons (ps_if (pt_val (pe_callB (call_isX hC hz hf List.mem_cons_self) (by rfl) B.isinstance (by decide +kernel) (pa_cons (pv 0) (pa_cons (pe_glob rfl G.x_NoPage.g rfl) pa_nil)))) (pss_one (ps_ret pe_str)) pss_nil)
    (pss_cons (ps_if (pt_val (pe_callB (call_isX hC hz hf List.mem_cons_self) (by rfl) B.isinstance (by decide +kernel) (pa_cons (pv 0) (pa_cons (pe_glob rfl G.x_NoSector.g rfl) pa_nil)))) (pss_one (ps_ret pe_str)) pss_nil)
    (pss_cons (ps_if (pt_val (pe_callB (call_isX hC hz hf List.mem_cons_self) (by rfl) B.isinstance (by decide +kernel) (pa_cons (pv 0) (pa_cons (pe_glob rfl G.x_BadContent.g rfl) pa_nil)))) (pss_one (ps_ret pe_str)) pss_nil)
    (pss_cons (ps_if (pt_val (pe_callB (call_isX hC hz hf List.mem_cons_self) (by rfl) B.isinstance (by decide +kernel) (pa_cons (pv 0) (pa_cons (pe_glob rfl G.x_Cut.g rfl) pa_nil)))) (pss_one (ps_ret pe_str)) pss_nil)
    (pss_one (ps_ret pe_str))))))))

theorem sc_play : FnScope N_play ["text"] (defScope s_play) := ⟨rfl, rfl, rfl, by decide +kernel, rfl, by decide +kernel, by decide +kernel⟩
theorem ok_play {f : Addr} {fd : FuncData} (FF : Fun K "play" "play" s_play f fd) (B : Blt mg) (G : Glo K mg A) (GW : mg "WearError" = some (.ref A.wear)) (GD : GloD K mg A) (F : FacQ K A) (D_Desk_init : DefC P w K mg base 1 "Desk" A.desk (sp_Desk_init K A)) (D_Desk_answer : DefM P w K mg base 10 A.desk "answer" (sp_Desk_answer K A)) (D_class_of : DefE P w K mg base 1 "class_of" "error" (spw_class_of K A)) : FnOk P w K mg base (L2N.CX P w) 11 f fd ["text"] (sp_play K A) := by
  refine Fun.okN FF sc_play (fun vs H Q E h => len_play h) (fun cdv A0 outer s H vs Q E hr h => ⟨t_play K A E, ?_, pure_play F h⟩)
  exact (pss_cons (ps_set (i := 1) sc_play.nd rfl (Or.inl rfl) (pc0 D_Desk_init hr (by decide) passLN rfl))
  (pss_cons (ps_set (i := 2) sc_play.nd rfl (Or.inl rfl) (pe_lst pa_nil))
  (pss_cons (ps_for (passes_of rfl) rfl (pi_list (pe_bm PySem.F.plainAttrs_str PySem.F.slot_str_split PySem.F.type_str_split mt_split (pv 0) (pa_cons pe_str pa_nil))) (pg_name (i := 3) sc_play.nd rfl (Or.inl rfl))
  (pss_cons (ps_if (pt_cmpR op_eq (pe_bm PySem.F.plainAttrs_str PySem.F.slot_str_strip PySem.F.type_str_strip mt_stripChars (pv 3) (pa_cons pe_str pa_nil)) pe_str (nomark _))
  (pss_one ps_continue)
  pss_nil)
  (pss_one (L2N.ps_try_as (i := 4) (tb := fun W => (tDrop (tBM K "list" rAppend (tVar 2) (tCons (tMethS A.desk "answer" (sp_Desk_answer K A) (WE W) (tVar 1) (tCons (tVar 3) tNil)) tNil)))) (ts := fun a cls d => (tDrop (tBM K "list" rAppend (tVar 2) (tCons (tOp zAddS (tC (.str "refused: ")) (tWord 4 a cls d (spw_class_of K A))) tNil)))) (Wout := (fun cls d _ H => E cls d H)) rfl rfl sc_play.nd rfl rfl ⟨rfl, by decide, .inl GW⟩ (L2N.takes_of rfl rfl rfl rfl) (fun W pn xe tk hp => (pss_one (ps_expr (pe_bm PySem.F.plainAttrs_list PySem.F.slot_list_append PySem.F.type_list_append mt_append (pv 2) (pa_cons (pmS D_Desk_answer F.cl_Desk hr (by decide) (fun s => L2N.passAt tk s) (pv 1) (pa_cons (pv 3) pa_nil)) pa_nil))))) (fun a oe cls d pn hz hf => (pss_one (ps_expr (pe_bm PySem.F.plainAttrs_list PySem.F.slot_list_append PySem.F.type_list_append mt_append (pv 2) (pa_cons (pe_op op_add_str pe_str (pe_wordD D_class_of hr (by decide) hz hf rfl rfl (Or.inl rfl))) pa_nil)))))))))
  (pss_one (ps_ret (pv 2))))))
theorem sc_l_read : FnScope N_l_read ["_law_may", "_law_sector", "_law_answer"] (defScope s_l_read) := ⟨rfl, rfl, rfl, by decide +kernel, rfl, by decide +kernel, by decide +kernel⟩
theorem ok_l_read {f : Addr} {fd : FuncData} (FF : Fun K "_law_read" "_law_read" s_l_read f fd) (B : Blt mg) (G : Glo K mg A) (GD : GloD K mg A) (F : FacQ K A) : FnOk P w K mg base (L2N.CX P w) 1 f fd ["_law_may", "_law_sector", "_law_answer"] (sp_l_read K A) := by
  refine Fun.okN FF sc_l_read (fun vs H Q E h => len_l_read h) (fun cdv A0 outer s H vs Q E hr h => ⟨t_l_read K A E, ?_, pure_l_read F h⟩)
  exact (pss_cons (ps_if (pt_cmpR op_notIn_seq (pv 2) (pe_dget2 (hu_of hr) (pv 0) (pv 1) (pe_lst (pa_cons pe_str pa_nil)) ⟨rfl, rfl, rfl, rfl⟩) (by rfl))
  (pss_one (ps_ret pe_bl))
  pss_nil)
  (pss_cons (ps_dput (hu_of hr) (pv 0) (pv 1) (pe_lst (pa_cons (pv 2) pa_nil)) rfl)
  (pss_one (ps_ret pe_bl))))
theorem sc_l_walked : FnScope N_l_walked ["_law_lines_here", "_law_answers"] (defScope s_l_walked) := ⟨rfl, rfl, rfl, by decide +kernel, rfl, by decide +kernel, by decide +kernel⟩
theorem ok_l_walked {f : Addr} {fd : FuncData} (FF : Fun K "_law_walked" "_law_walked" s_l_walked f fd) (B : Blt mg) (G : Glo K mg A) (GD : GloD K mg A) (F : FacQ K A) (D_l_read : DefF P w K mg base 1 "_law_read" (sp_l_read K A)) : FnOk P w K mg base (L2N.CX P w) 2 f fd ["_law_lines_here", "_law_answers"] (sp_l_walked K A) := by
  refine Fun.okN FF sc_l_walked (fun vs H Q E h => len_l_walked h) (fun cdv A0 outer s H vs Q E hr h => ⟨t_l_walked K A E, ?_, pure_l_walked F h⟩)
  exact (pss_cons (ps_set (i := 2) sc_l_walked.nd rfl (Or.inl rfl) pe_dnewK)
  (pss_cons (ps_set (i := 3) sc_l_walked.nd rfl (Or.inl rfl) pe_dnewK)
  (pss_cons (ps_set (i := 4) sc_l_walked.nd rfl (Or.inl rfl) pe_bl)
  (pss_cons (ps_set (i := 5) sc_l_walked.nd rfl (Or.inl rfl) pe_non)
  (pss_cons (ps_for (passes_of rfl) rfl (pi_range2 rfl B.range (pa_cons pe_int (pa_cons (pe_callB call_len_seq (by rfl) B.len (by decide +kernel) (pa_cons (pv 0) pa_nil)) pa_nil))) (pg_name (i := 6) sc_l_walked.nd rfl (Or.inl rfl))
  (pss_cons (ps_set (i := 7) sc_l_walked.nd rfl (Or.inl rfl) (pe_bm PySem.F.plainAttrs_str PySem.F.slot_str_split PySem.F.type_str_split mt_split (pe_ix ix_list (pv 0) (pv 6) (fun _ _ => rfl)) (pa_cons pe_str pa_nil)))
  (pss_cons (ps_set (i := 8) sc_l_walked.nd rfl (Or.inl rfl) (pe_ix ix_list (pv 1) (pv 6) (fun _ _ => rfl)))
  (pss_one (ps_if (PW.pt (pw_and (pt_cmpR op_in_seq (pe_ix ix_list (pv 7) pe_int (fun _ _ => rfl)) (pe_lst (pa_cons pe_str (pa_cons pe_str pa_nil))) (by rfl)) (pw_and1 (pt_not (pt_val (pv 4))))))
  (pss_one (ps_if (pt_cmpR op_ne (pv 8) pe_str (nomark _))
  (pss_one (ps_ret pe_bl))
  pss_nil))
  (pss_one (ps_if (pt_cmpR op_eq (pe_ix ix_list (pv 7) pe_int (fun _ _ => rfl)) pe_str (nomark _))
  (pss_one (ps_if (PW.pt (pw_and (pt_cmpR op_eq (pv 8) pe_str (nomark _)) (pw_and1 (pt_cmpR op_notN (pv 5) pe_non (nomark _)))))
  (pss_cons (ps_dput (hu_of hr) (pv 2) (pe_ix ix_list (pv 7) pe_int (fun _ _ => rfl)) (pe_op op_cat (pe_dget2 (hu_of hr) (pv 2) (pe_ix ix_list (pv 7) pe_int (fun _ _ => rfl)) (pe_lst (pa_cons pe_str pa_nil)) ⟨rfl, rfl, rfl, rfl⟩) (pe_lst (pa_cons (pe_ix ix_list (pv 7) pe_int (fun _ _ => rfl)) pa_nil))) rfl)
  (pss_one (ps_set (i := 4) sc_l_walked.nd rfl (Or.inl rfl) pe_bl)))
  (pss_one (ps_if (pt_cmpR op_eq (pv 8) pe_str (nomark _))
  (pss_one (ps_dput (hu_of hr) (pv 2) (pe_ix ix_list (pv 7) pe_int (fun _ _ => rfl)) (pe_lst (pa_cons (pe_ix ix_list (pv 7) pe_int (fun _ _ => rfl)) pa_nil)) rfl))
  (pss_one (ps_ret pe_bl))))))
  (pss_one (ps_if (pt_cmpR op_eq (pe_ix ix_list (pv 7) pe_int (fun _ _ => rfl)) pe_str (nomark _))
  (pss_one (ps_if (pt_not (pt_val (pf D_l_read hr (by decide) passLN rfl (pa_cons (pv 2) (pa_cons (pe_ix ix_list (pv 7) pe_int (fun _ _ => rfl)) (pa_cons (pv 8) pa_nil))))))
  (pss_one (ps_ret pe_bl))
  pss_nil))
  (pss_one (ps_if (PW.pt (pw_and (pt_cmpR op_eq (pe_ix ix_list (pv 7) pe_int (fun _ _ => rfl)) pe_str (nomark _)) (pw_and1 (pt_cmpR op_eq (pv 8) pe_str (nomark _)))))
  (pss_one (ps_set (i := 5) sc_l_walked.nd rfl (Or.inl rfl) (pe_ix ix_list (pe_lst (pa_cons (pe_ix ix_list (pv 7) pe_int (fun _ _ => rfl)) (pa_cons pe_non pa_nil))) (pe_callTy call_int1 (by rfl) B.int (by decide +kernel) (pa_cons (pe_cmpR op_eq (pe_ix ix_list (pv 7) pe_int (fun _ _ => rfl)) pe_str (nomark _)) pa_nil)) (fun _ _ => rfl))))
  (pss_one (ps_if (PW.pt (pw_and (pt_cmpR op_eq (pe_ix ix_list (pv 7) pe_int (fun _ _ => rfl)) pe_str (nomark _)) (pw_and1 (pt_cmpR op_eq (pv 8) pe_str (nomark _)))))
  (pss_one (ps_set (i := 4) sc_l_walked.nd rfl (Or.inl rfl) pe_bl))
  (pss_one (ps_if (PW.pt (pw_and (pt_cmpR op_in_seq (pe_ix ix_list (pv 7) pe_int (fun _ _ => rfl)) (pe_lst (pa_cons pe_str (pa_cons pe_str pa_nil))) (by rfl)) (pw_and1 (pt_val (pe_bm0 PySem.F.plainAttrs_str PySem.F.slot_str_isdigit PySem.F.type_str_isdigit mt_isdigit (pv 8))))))
  (pss_cons (ps_if (pt_cmpR op_lt (pe_callTy call_int_str (by rfl) B.int (by decide +kernel) (pa_cons (pv 8) pa_nil)) (pe_dget2 (hu_of hr) (pv 3) (pe_ix ix_list (pv 0) (pv 6) (fun _ _ => rfl)) pe_int ⟨rfl, rfl, rfl, rfl⟩) (nomark _))
  (pss_one (ps_ret pe_bl))
  pss_nil)
  (pss_one (ps_dput (hu_of hr) (pv 3) (pe_ix ix_list (pv 0) (pv 6) (fun _ _ => rfl)) (pe_callTy call_int_str (by rfl) B.int (by decide +kernel) (pa_cons (pv 8) pa_nil)) rfl)))
  (pss_one (ps_ret pe_bl)))))))))))))))))
  (pss_one (ps_ret pe_bl)))))))
theorem sc_law : FnScope N_law ["_law_script"] (defScope s_law) := ⟨rfl, rfl, rfl, by decide +kernel, rfl, by decide +kernel, by decide +kernel⟩
theorem ok_law {f : Addr} {fd : FuncData} (FF : Fun K "law" "law" s_law f fd) (B : Blt mg) (G : Glo K mg A) (GD : GloD K mg A) (F : FacQ K A) (D_l_drawn : DefF P w K mg base 1 "_law_drawn" (sp_l_drawn K A)) (D_l_cell : DefF P w K mg base 1 "_law_cell" (sp_l_cell K A)) (D_l_lines : DefF P w K mg base 2 "_law_lines" (sp_l_lines K A)) (D_play : DefF P w K mg base 11 "play" (sp_play K A)) (D_l_walked : DefF P w K mg base 2 "_law_walked" (sp_l_walked K A)) : FnOk P w K mg base CX0 12 f fd ["_law_script"] (sp_law K A) := by
  refine FF.ok sc_law (fun vs H Q E h => len_law h) (fun cdv A0 outer s H vs Q E hr h => ⟨t_law K A E, ?_, pure_law F h⟩)
  exact (pss_cons (ps_set (i := 1) sc_law.nd rfl (Or.inl rfl) (pf D_l_drawn hr (by decide) passLN rfl (pa_cons (pf D_l_cell hr (by decide) passLN rfl (pa_cons (pv 0) (pa_cons pe_int pa_nil))) (pa_cons pe_int pa_nil))))
  (pss_cons (ps_set (i := 2) sc_law.nd rfl (Or.inl rfl) (pe_op op_add pe_int (pe_op op_mod (pv 1) pe_int)))
  (pss_cons (ps_set (i := 3) sc_law.nd rfl (Or.inl rfl) (pe_op op_add pe_int (pe_op op_mod (pe_op op_fdivW (pv 1) pe_int) pe_int)))
  (pss_cons (ps_set (i := 4) sc_law.nd rfl (Or.inl rfl) (pf D_l_lines hr (by decide) passLN rfl (pa_cons (pv 0) (pa_cons (pe_tup (pa_cons (pv 2) (pa_cons (pv 3) (pa_cons (pe_op op_add pe_int (pe_op op_mod (pe_op op_fdivW (pv 1) pe_int) (pe_op op_mul (pe_op op_sub (pv 2) pe_int) (pv 3)))) pa_nil)))) pa_nil))))
  (pss_cons (ps_set (i := 5) sc_law.nd rfl (Or.inl rfl) (pf D_play hr (by decide) passLN rfl (pa_cons (pe_bm PySem.F.plainAttrs_str PySem.F.slot_str_join PySem.F.type_str_join mt_join pe_str (pa_cons (pv 4) pa_nil)) pa_nil)))
  (pss_cons (ps_if (PW.pt (pw_or (pt_cmpR op_ne (pe_callB call_len_seq (by rfl) B.len (by decide +kernel) (pa_cons (pv 5) pa_nil)) (pe_callB call_len_seq (by rfl) B.len (by decide +kernel) (pa_cons (pv 4) pa_nil)) (nomark _)) (pw_or (pt_cmpR op_ne (pe_ix ix_list (pv 5) pe_int (fun _ _ => rfl)) pe_str (nomark _)) (pw_or1 (pt_cmpR (op_neD hr.units) (pf D_play hr (by decide) passLN rfl (pa_cons (pe_bm PySem.F.plainAttrs_str PySem.F.slot_str_join PySem.F.type_str_join mt_join pe_str (pa_cons (pv 4) pa_nil)) pa_nil)) (pv 5) (nomark _))))))
  (pss_one (ps_ret pe_bl))
  pss_nil)
  (pss_one (ps_ret (pf D_l_walked hr (by decide) passLN rfl (pa_cons (pv 4) (pa_cons (pv 5) pa_nil)))))))))))
end
def A0 : Ad := ⟨0, 0, 0, 0, 0, 0, 0, 0, 0, 0, 0, 0, 0⟩
theorem all_mk {l : PySem.W.OpenLaw} {w : World} {K : PySem.W.Frag} {h : Heap} {mg : Str → Option Value} {fa : Addr} (X : K.In h) (G : h.Ns mainGlobals mg) (hfa : mg "law" = some (.ref fa))
    {CChip CDisk CDesk XBadSize XNoPage XNotErased XNoSector XBadContent XCut XNoDisk XBadRow XWear SHP : Addr} {f0 : Addr} {od0 an0 : Option Addr} {sl0 : Array (Option Value)} {oc0 kV0 dc0 pm0 cd0 ct0 : Value} {f1 : Addr} {od1 an1 : Option Addr} {sl1 : Array (Option Value)} {oc1 kV1 dc1 pm1 cd1 ct1 : Value} {f2 : Addr} {od2 an2 : Option Addr} {sl2 : Array (Option Value)} {oc2 kV2 dc2 pm2 cd2 ct2 : Value} {f3 : Addr} {od3 an3 : Option Addr} {sl3 : Array (Option Value)} {oc3 kV3 dc3 pm3 cd3 ct3 : Value} {f4 : Addr} {od4 an4 : Option Addr} {sl4 : Array (Option Value)} {oc4 kV4 dc4 pm4 cd4 ct4 : Value} {f5 : Addr} {od5 an5 : Option Addr} {sl5 : Array (Option Value)} {oc5 kV5 dc5 pm5 cd5 ct5 : Value} {f6 : Addr} {od6 an6 : Option Addr} {sl6 : Array (Option Value)} {oc6 kV6 dc6 pm6 cd6 ct6 : Value} {f7 : Addr} {od7 an7 : Option Addr} {sl7 : Array (Option Value)} {oc7 kV7 dc7 pm7 cd7 ct7 : Value} {f8 : Addr} {od8 an8 : Option Addr} {sl8 : Array (Option Value)} {oc8 kV8 dc8 pm8 cd8 ct8 : Value} {f9 : Addr} {od9 an9 : Option Addr} {sl9 : Array (Option Value)} {oc9 kV9 dc9 pm9 cd9 ct9 : Value} {f10 : Addr} {od10 an10 : Option Addr} {sl10 : Array (Option Value)} {oc10 kV10 dc10 pm10 cd10 ct10 : Value} {f11 : Addr} {od11 an11 : Option Addr} {sl11 : Array (Option Value)} {oc11 kV11 dc11 pm11 cd11 ct11 : Value} {f12 : Addr} {od12 an12 : Option Addr} {sl12 : Array (Option Value)} {oc12 kV12 dc12 pm12 cd12 ct12 : Value} {f13 : Addr} {od13 an13 : Option Addr} {sl13 : Array (Option Value)} {oc13 kV13 dc13 pm13 cd13 ct13 : Value} {f14 : Addr} {od14 an14 : Option Addr} {sl14 : Array (Option Value)} {oc14 kV14 dc14 pm14 cd14 ct14 : Value} {f15 : Addr} {od15 an15 : Option Addr} {sl15 : Array (Option Value)} {oc15 kV15 dc15 pm15 cd15 ct15 : Value} {f16 : Addr} {od16 an16 : Option Addr} {sl16 : Array (Option Value)} {oc16 kV16 dc16 pm16 cd16 ct16 : Value} {f17 : Addr} {od17 an17 : Option Addr} {sl17 : Array (Option Value)} {oc17 kV17 dc17 pm17 cd17 ct17 : Value} {f18 : Addr} {od18 an18 : Option Addr} {sl18 : Array (Option Value)} {oc18 kV18 dc18 pm18 cd18 ct18 : Value} {f19 : Addr} {od19 an19 : Option Addr} {sl19 : Array (Option Value)} {oc19 kV19 dc19 pm19 cd19 ct19 : Value} {f20 : Addr} {od20 an20 : Option Addr} {sl20 : Array (Option Value)} {oc20 kV20 dc20 pm20 cd20 ct20 : Value} {f21 : Addr} {od21 an21 : Option Addr} {sl21 : Array (Option Value)} {oc21 kV21 dc21 pm21 cd21 ct21 : Value} {f22 : Addr} {od22 an22 : Option Addr} {sl22 : Array (Option Value)} {oc22 kV22 dc22 pm22 cd22 ct22 : Value} {f23 : Addr} {od23 an23 : Option Addr} {sl23 : Array (Option Value)} {oc23 kV23 dc23 pm23 cd23 ct23 : Value} {f24 : Addr} {od24 an24 : Option Addr} {sl24 : Array (Option Value)} {oc24 kV24 dc24 pm24 cd24 ct24 : Value} {f25 : Addr} {od25 an25 : Option Addr} {sl25 : Array (Option Value)} {oc25 kV25 dc25 pm25 cd25 ct25 : Value} {f26 : Addr} {od26 an26 : Option Addr} {sl26 : Array (Option Value)} {oc26 kV26 dc26 pm26 cd26 ct26 : Value} {f27 : Addr} {od27 an27 : Option Addr} {sl27 : Array (Option Value)} {oc27 kV27 dc27 pm27 cd27 ct27 : Value} {f28 : Addr} {od28 an28 : Option Addr} {sl28 : Array (Option Value)} {oc28 kV28 dc28 pm28 cd28 ct28 : Value} {f29 : Addr} {od29 an29 : Option Addr} {sl29 : Array (Option Value)} {oc29 kV29 dc29 pm29 cd29 ct29 : Value} {f30 : Addr} {od30 an30 : Option Addr} {sl30 : Array (Option Value)} {oc30 kV30 dc30 pm30 cd30 ct30 : Value} {f31 : Addr} {od31 an31 : Option Addr} {sl31 : Array (Option Value)} {oc31 kV31 dc31 pm31 cd31 ct31 : Value} {f32 : Addr} {od32 an32 : Option Addr} {sl32 : Array (Option Value)} {oc32 kV32 dc32 pm32 cd32 ct32 : Value} {f33 : Addr} {od33 an33 : Option Addr} {sl33 : Array (Option Value)} {oc33 kV33 dc33 pm33 cd33 ct33 : Value} {f34 : Addr} {od34 an34 : Option Addr} {sl34 : Array (Option Value)} {oc34 kV34 dc34 pm34 cd34 ct34 : Value} {f35 : Addr} {od35 an35 : Option Addr} {sl35 : Array (Option Value)} {oc35 kV35 dc35 pm35 cd35 ct35 : Value} {f36 : Addr} {od36 an36 : Option Addr} {sl36 : Array (Option Value)} {oc36 kV36 dc36 pm36 cd36 ct36 : Value} {f37 : Addr} {od37 an37 : Option Addr} {sl37 : Array (Option Value)} {oc37 kV37 dc37 pm37 cd37 ct37 : Value} {f38 : Addr} {od38 an38 : Option Addr} {sl38 : Array (Option Value)} {oc38 kV38 dc38 pm38 cd38 ct38 : Value} {tLEAST_BLOCKS : _} {tMOST_BLOCKS : _} {tLEAST_PAGES : _} {tMOST_PAGES : _} {tTORN : _} {tMOST_FIGURES : _} {tFIGURES : _} {tMOST_CONTENT : _} {esS : Array DictEntry} {nS : Nat} {tsh0 : _} {tsh1 : _} {tsh2 : _} {tsh3 : _} {tsh4 : _} {tsh5 : _} {tsh6 : _} {tsh7 : _}
    (aCChip : PySem.W.nsIn K mainGlobals "Chip" = some (some (.ref CChip)))
    (aCDisk : PySem.W.nsIn K mainGlobals "Disk" = some (some (.ref CDisk)))
    (aCDesk : PySem.W.nsIn K mainGlobals "Desk" = some (some (.ref CDesk)))
    (aXBadSize : PySem.W.nsIn K mainGlobals "BadSize" = some (some (.ref XBadSize)))
    (aXNoPage : PySem.W.nsIn K mainGlobals "NoPage" = some (some (.ref XNoPage)))
    (aXNotErased : PySem.W.nsIn K mainGlobals "NotErased" = some (some (.ref XNotErased)))
    (aXNoSector : PySem.W.nsIn K mainGlobals "NoSector" = some (some (.ref XNoSector)))
    (aXBadContent : PySem.W.nsIn K mainGlobals "BadContent" = some (some (.ref XBadContent)))
    (aXCut : PySem.W.nsIn K mainGlobals "Cut" = some (some (.ref XCut)))
    (aXNoDisk : PySem.W.nsIn K mainGlobals "NoDisk" = some (some (.ref XNoDisk)))
    (aXBadRow : PySem.W.nsIn K mainGlobals "BadRow" = some (some (.ref XBadRow)))
    (a0 : PySem.W.nsIn K mainGlobals "_law_drawn" = some (some (.ref f0)))
    (l0 : K.lookup f0 = some ⟨oc0, od0, .func (PySem.W.fnOf "_law_drawn" "_law_drawn" (defArgs s_l_drawn) (defBody s_l_drawn) (defScope s_l_drawn) .none kV0 dc0 pm0 an0 cd0 ct0), sl0⟩)
    (c0 : PySem.W.codeIn K cd0 "_law_drawn" = true)
    (k0 : PySem.W.keepIn K (.ref f0) = true)
    (a1 : PySem.W.nsIn K mainGlobals "_law_cell" = some (some (.ref f1)))
    (l1 : K.lookup f1 = some ⟨oc1, od1, .func (PySem.W.fnOf "_law_cell" "_law_cell" (defArgs s_l_cell) (defBody s_l_cell) (defScope s_l_cell) .none kV1 dc1 pm1 an1 cd1 ct1), sl1⟩)
    (c1 : PySem.W.codeIn K cd1 "_law_cell" = true)
    (k1 : PySem.W.keepIn K (.ref f1) = true)
    (a2 : PySem.W.nsIn K mainGlobals "_law_lines" = some (some (.ref f2)))
    (l2 : K.lookup f2 = some ⟨oc2, od2, .func (PySem.W.fnOf "_law_lines" "_law_lines" (defArgs s_l_lines) (defBody s_l_lines) (defScope s_l_lines) .none kV2 dc2 pm2 an2 cd2 ct2), sl2⟩)
    (c2 : PySem.W.codeIn K cd2 "_law_lines" = true)
    (k2 : PySem.W.keepIn K (.ref f2) = true)
    (a3 : PySem.W.findIn K (.ref CDesk) "__init__" = some (some (.ref f3)))
    (i3 : PySem.W.isFn K (.ref f3) = true)
    (l3 : K.lookup f3 = some ⟨oc3, od3, .func (PySem.W.fnOf "__init__" "Desk.__init__" (defArgs s_Desk_init) (defBody s_Desk_init) (defScope s_Desk_init) .none kV3 dc3 pm3 an3 cd3 ct3), sl3⟩)
    (c3 : PySem.W.codeIn K cd3 "Desk.__init__" = true)
    (k3 : PySem.W.keepIn K (.ref f3) = true)
    (a4 : PySem.W.nsIn K mainGlobals "number_of" = some (some (.ref f4)))
    (l4 : K.lookup f4 = some ⟨oc4, od4, .func (PySem.W.fnOf "number_of" "number_of" (defArgs s_number_of) (defBody s_number_of) (defScope s_number_of) .none kV4 dc4 pm4 an4 cd4 ct4), sl4⟩)
    (c4 : PySem.W.codeIn K cd4 "number_of" = true)
    (k4 : PySem.W.keepIn K (.ref f4) = true)
    (a5 : PySem.W.nsIn K mainGlobals "words_of" = some (some (.ref f5)))
    (l5 : K.lookup f5 = some ⟨oc5, od5, .func (PySem.W.fnOf "words_of" "words_of" (defArgs s_words_of) (defBody s_words_of) (defScope s_words_of) .none kV5 dc5 pm5 an5 cd5 ct5), sl5⟩)
    (c5 : PySem.W.codeIn K cd5 "words_of" = true)
    (k5 : PySem.W.keepIn K (.ref f5) = true)
    (a6 : PySem.W.findIn K (.ref CChip) "__init__" = some (some (.ref f6)))
    (i6 : PySem.W.isFn K (.ref f6) = true)
    (l6 : K.lookup f6 = some ⟨oc6, od6, .func (PySem.W.fnOf "__init__" "Chip.__init__" (defArgs s_Chip_init) (defBody s_Chip_init) (defScope s_Chip_init) .none kV6 dc6 pm6 an6 cd6 ct6), sl6⟩)
    (c6 : PySem.W.codeIn K cd6 "Chip.__init__" = true)
    (k6 : PySem.W.keepIn K (.ref f6) = true)
    (a7 : PySem.W.findIn K (.ref CChip) "size" = some (some (.ref f7)))
    (i7 : PySem.W.isFn K (.ref f7) = true)
    (l7 : K.lookup f7 = some ⟨oc7, od7, .func (PySem.W.fnOf "size" "Chip.size" (defArgs s_Chip_size) (defBody s_Chip_size) (defScope s_Chip_size) .none kV7 dc7 pm7 an7 cd7 ct7), sl7⟩)
    (c7 : PySem.W.codeIn K cd7 "Chip.size" = true)
    (k7 : PySem.W.keepIn K (.ref f7) = true)
    (a8 : PySem.W.findIn K (.ref CDisk) "__init__" = some (some (.ref f8)))
    (i8 : PySem.W.isFn K (.ref f8) = true)
    (l8 : K.lookup f8 = some ⟨oc8, od8, .func (PySem.W.fnOf "__init__" "Disk.__init__" (defArgs s_Disk_init) (defBody s_Disk_init) (defScope s_Disk_init) .none kV8 dc8 pm8 an8 cd8 ct8), sl8⟩)
    (c8 : PySem.W.codeIn K cd8 "Disk.__init__" = true)
    (k8 : PySem.W.keepIn K (.ref f8) = true)
    (a9 : PySem.W.findIn K (.ref CChip) "need_block" = some (some (.ref f9)))
    (i9 : PySem.W.isFn K (.ref f9) = true)
    (l9 : K.lookup f9 = some ⟨oc9, od9, .func (PySem.W.fnOf "need_block" "Chip.need_block" (defArgs s_Chip_need_block) (defBody s_Chip_need_block) (defScope s_Chip_need_block) .none kV9 dc9 pm9 an9 cd9 ct9), sl9⟩)
    (c9 : PySem.W.codeIn K cd9 "Chip.need_block" = true)
    (k9 : PySem.W.keepIn K (.ref f9) = true)
    (a10 : PySem.W.findIn K (.ref CChip) "need_page" = some (some (.ref f10)))
    (i10 : PySem.W.isFn K (.ref f10) = true)
    (l10 : K.lookup f10 = some ⟨oc10, od10, .func (PySem.W.fnOf "need_page" "Chip.need_page" (defArgs s_Chip_need_page) (defBody s_Chip_need_page) (defScope s_Chip_need_page) .none kV10 dc10 pm10 an10 cd10 ct10), sl10⟩)
    (c10 : PySem.W.codeIn K cd10 "Chip.need_page" = true)
    (k10 : PySem.W.keepIn K (.ref f10) = true)
    (a11 : PySem.W.findIn K (.ref CChip) "page" = some (some (.ref f11)))
    (i11 : PySem.W.isFn K (.ref f11) = true)
    (l11 : K.lookup f11 = some ⟨oc11, od11, .func (PySem.W.fnOf "page" "Chip.page" (defArgs s_Chip_page) (defBody s_Chip_page) (defScope s_Chip_page) .none kV11 dc11 pm11 an11 cd11 ct11), sl11⟩)
    (c11 : PySem.W.codeIn K cd11 "Chip.page" = true)
    (k11 : PySem.W.keepIn K (.ref f11) = true)
    (a12 : PySem.W.findIn K (.ref CDisk) "row" = some (some (.ref f12)))
    (i12 : PySem.W.isFn K (.ref f12) = true)
    (l12 : K.lookup f12 = some ⟨oc12, od12, .func (PySem.W.fnOf "row" "Disk.row" (defArgs s_Disk_row) (defBody s_Disk_row) (defScope s_Disk_row) .none kV12 dc12 pm12 an12 cd12 ct12), sl12⟩)
    (c12 : PySem.W.codeIn K cd12 "Disk.row" = true)
    (k12 : PySem.W.keepIn K (.ref f12) = true)
    (a13 : PySem.W.nsIn K mainGlobals "is_whole" = some (some (.ref f13)))
    (l13 : K.lookup f13 = some ⟨oc13, od13, .func (PySem.W.fnOf "is_whole" "is_whole" (defArgs s_is_whole) (defBody s_is_whole) (defScope s_is_whole) .none kV13 dc13 pm13 an13 cd13 ct13), sl13⟩)
    (c13 : PySem.W.codeIn K cd13 "is_whole" = true)
    (k13 : PySem.W.keepIn K (.ref f13) = true)
    (a14 : PySem.W.findIn K (.ref CDisk) "is_empty" = some (some (.ref f14)))
    (i14 : PySem.W.isFn K (.ref f14) = true)
    (l14 : K.lookup f14 = some ⟨oc14, od14, .func (PySem.W.fnOf "is_empty" "Disk.is_empty" (defArgs s_Disk_is_empty) (defBody s_Disk_is_empty) (defScope s_Disk_is_empty) .none kV14 dc14 pm14 an14 cd14 ct14), sl14⟩)
    (c14 : PySem.W.codeIn K cd14 "Disk.is_empty" = true)
    (k14 : PySem.W.keepIn K (.ref f14) = true)
    (a15 : PySem.W.findIn K (.ref CChip) "goes_well" = some (some (.ref f15)))
    (i15 : PySem.W.isFn K (.ref f15) = true)
    (l15 : K.lookup f15 = some ⟨oc15, od15, .func (PySem.W.fnOf "goes_well" "Chip.goes_well" (defArgs s_Chip_goes_well) (defBody s_Chip_goes_well) (defScope s_Chip_goes_well) .none kV15 dc15 pm15 an15 cd15 ct15), sl15⟩)
    (c15 : PySem.W.codeIn K cd15 "Chip.goes_well" = true)
    (k15 : PySem.W.keepIn K (.ref f15) = true)
    (a16 : PySem.W.findIn K (.ref CChip) "erase" = some (some (.ref f16)))
    (i16 : PySem.W.isFn K (.ref f16) = true)
    (l16 : K.lookup f16 = some ⟨oc16, od16, .func (PySem.W.fnOf "erase" "Chip.erase" (defArgs s_Chip_erase) (defBody s_Chip_erase) (defScope s_Chip_erase) .none kV16 dc16 pm16 an16 cd16 ct16), sl16⟩)
    (c16 : PySem.W.codeIn K cd16 "Chip.erase" = true)
    (k16 : PySem.W.keepIn K (.ref f16) = true)
    (a17 : PySem.W.findIn K (.ref CDisk) "greatest" = some (some (.ref f17)))
    (i17 : PySem.W.isFn K (.ref f17) = true)
    (l17 : K.lookup f17 = some ⟨oc17, od17, .func (PySem.W.fnOf "greatest" "Disk.greatest" (defArgs s_Disk_greatest) (defBody s_Disk_greatest) (defScope s_Disk_greatest) .none kV17 dc17 pm17 an17 cd17 ct17), sl17⟩)
    (c17 : PySem.W.codeIn K cd17 "Disk.greatest" = true)
    (k17 : PySem.W.keepIn K (.ref f17) = true)
    (a18 : PySem.W.findIn K (.ref CDisk) "tidy" = some (some (.ref f18)))
    (i18 : PySem.W.isFn K (.ref f18) = true)
    (l18 : K.lookup f18 = some ⟨oc18, od18, .func (PySem.W.fnOf "tidy" "Disk.tidy" (defArgs s_Disk_tidy) (defBody s_Disk_tidy) (defScope s_Disk_tidy) .none kV18 dc18 pm18 an18 cd18 ct18), sl18⟩)
    (c18 : PySem.W.codeIn K cd18 "Disk.tidy" = true)
    (k18 : PySem.W.keepIn K (.ref f18) = true)
    (a19 : PySem.W.findIn K (.ref CDisk) "load" = some (some (.ref f19)))
    (i19 : PySem.W.isFn K (.ref f19) = true)
    (l19 : K.lookup f19 = some ⟨oc19, od19, .func (PySem.W.fnOf "load" "Disk.load" (defArgs s_Disk_load) (defBody s_Disk_load) (defScope s_Disk_load) .none kV19 dc19 pm19 an19 cd19 ct19), sl19⟩)
    (c19 : PySem.W.codeIn K cd19 "Disk.load" = true)
    (k19 : PySem.W.keepIn K (.ref f19) = true)
    (a20 : PySem.W.nsIn K mainGlobals "mounted" = some (some (.ref f20)))
    (l20 : K.lookup f20 = some ⟨oc20, od20, .func (PySem.W.fnOf "mounted" "mounted" (defArgs s_mounted) (defBody s_mounted) (defScope s_mounted) .none kV20 dc20 pm20 an20 cd20 ct20), sl20⟩)
    (c20 : PySem.W.codeIn K cd20 "mounted" = true)
    (k20 : PySem.W.keepIn K (.ref f20) = true)
    (a21 : PySem.W.findIn K (.ref CDisk) "need_sector" = some (some (.ref f21)))
    (i21 : PySem.W.isFn K (.ref f21) = true)
    (l21 : K.lookup f21 = some ⟨oc21, od21, .func (PySem.W.fnOf "need_sector" "Disk.need_sector" (defArgs s_Disk_need_sector) (defBody s_Disk_need_sector) (defScope s_Disk_need_sector) .none kV21 dc21 pm21 an21 cd21 ct21), sl21⟩)
    (c21 : PySem.W.codeIn K cd21 "Disk.need_sector" = true)
    (k21 : PySem.W.keepIn K (.ref f21) = true)
    (a22 : PySem.W.findIn K (.ref CDisk) "read" = some (some (.ref f22)))
    (i22 : PySem.W.isFn K (.ref f22) = true)
    (l22 : K.lookup f22 = some ⟨oc22, od22, .func (PySem.W.fnOf "read" "Disk.read" (defArgs s_Disk_read) (defBody s_Disk_read) (defScope s_Disk_read) .none kV22 dc22 pm22 an22 cd22 ct22), sl22⟩)
    (c22 : PySem.W.codeIn K cd22 "Disk.read" = true)
    (k22 : PySem.W.keepIn K (.ref f22) = true)
    (a23 : PySem.W.findIn K (.ref CChip) "write" = some (some (.ref f23)))
    (i23 : PySem.W.isFn K (.ref f23) = true)
    (l23 : K.lookup f23 = some ⟨oc23, od23, .func (PySem.W.fnOf "write" "Chip.write" (defArgs s_Chip_write) (defBody s_Chip_write) (defScope s_Chip_write) .none kV23 dc23 pm23 an23 cd23 ct23), sl23⟩)
    (c23 : PySem.W.codeIn K cd23 "Chip.write" = true)
    (k23 : PySem.W.keepIn K (.ref f23) = true)
    (a24 : PySem.W.findIn K (.ref CDisk) "put" = some (some (.ref f24)))
    (i24 : PySem.W.isFn K (.ref f24) = true)
    (l24 : K.lookup f24 = some ⟨oc24, od24, .func (PySem.W.fnOf "put" "Disk.put" (defArgs s_Disk_put) (defBody s_Disk_put) (defScope s_Disk_put) .none kV24 dc24 pm24 an24 cd24 ct24), sl24⟩)
    (c24 : PySem.W.codeIn K cd24 "Disk.put" = true)
    (k24 : PySem.W.keepIn K (.ref f24) = true)
    (a25 : PySem.W.findIn K (.ref CDisk) "clean" = some (some (.ref f25)))
    (i25 : PySem.W.isFn K (.ref f25) = true)
    (l25 : K.lookup f25 = some ⟨oc25, od25, .func (PySem.W.fnOf "clean" "Disk.clean" (defArgs s_Disk_clean) (defBody s_Disk_clean) (defScope s_Disk_clean) .none kV25 dc25 pm25 an25 cd25 ct25), sl25⟩)
    (c25 : PySem.W.codeIn K cd25 "Disk.clean" = true)
    (k25 : PySem.W.keepIn K (.ref f25) = true)
    (a26 : PySem.W.findIn K (.ref CDisk) "advance" = some (some (.ref f26)))
    (i26 : PySem.W.isFn K (.ref f26) = true)
    (l26 : K.lookup f26 = some ⟨oc26, od26, .func (PySem.W.fnOf "advance" "Disk.advance" (defArgs s_Disk_advance) (defBody s_Disk_advance) (defScope s_Disk_advance) .none kV26 dc26 pm26 an26 cd26 ct26), sl26⟩)
    (c26 : PySem.W.codeIn K cd26 "Disk.advance" = true)
    (k26 : PySem.W.keepIn K (.ref f26) = true)
    (a27 : PySem.W.findIn K (.ref CDisk) "write" = some (some (.ref f27)))
    (i27 : PySem.W.isFn K (.ref f27) = true)
    (l27 : K.lookup f27 = some ⟨oc27, od27, .func (PySem.W.fnOf "write" "Disk.write" (defArgs s_Disk_write) (defBody s_Disk_write) (defScope s_Disk_write) .none kV27 dc27 pm27 an27 cd27 ct27), sl27⟩)
    (c27 : PySem.W.codeIn K cd27 "Disk.write" = true)
    (k27 : PySem.W.keepIn K (.ref f27) = true)
    (a28 : PySem.W.findIn K (.ref CDesk) "at_disk" = some (some (.ref f28)))
    (i28 : PySem.W.isFn K (.ref f28) = true)
    (l28 : K.lookup f28 = some ⟨oc28, od28, .func (PySem.W.fnOf "at_disk" "Desk.at_disk" (defArgs s_Desk_at_disk) (defBody s_Desk_at_disk) (defScope s_Desk_at_disk) .none kV28 dc28 pm28 an28 cd28 ct28), sl28⟩)
    (c28 : PySem.W.codeIn K cd28 "Desk.at_disk" = true)
    (k28 : PySem.W.keepIn K (.ref f28) = true)
    (a29 : PySem.W.findIn K (.ref CChip) "power" = some (some (.ref f29)))
    (i29 : PySem.W.isFn K (.ref f29) = true)
    (l29 : K.lookup f29 = some ⟨oc29, od29, .func (PySem.W.fnOf "power" "Chip.power" (defArgs s_Chip_power) (defBody s_Chip_power) (defScope s_Chip_power) .none kV29 dc29 pm29 an29 cd29 ct29), sl29⟩)
    (c29 : PySem.W.codeIn K cd29 "Chip.power" = true)
    (k29 : PySem.W.keepIn K (.ref f29) = true)
    (a30 : PySem.W.findIn K (.ref CChip) "worn" = some (some (.ref f30)))
    (i30 : PySem.W.isFn K (.ref f30) = true)
    (l30 : K.lookup f30 = some ⟨oc30, od30, .func (PySem.W.fnOf "worn" "Chip.worn" (defArgs s_Chip_worn) (defBody s_Chip_worn) (defScope s_Chip_worn) .none kV30 dc30 pm30 an30 cd30 ct30), sl30⟩)
    (c30 : PySem.W.codeIn K cd30 "Chip.worn" = true)
    (k30 : PySem.W.keepIn K (.ref f30) = true)
    (a31 : PySem.W.findIn K (.ref CChip) "written" = some (some (.ref f31)))
    (i31 : PySem.W.isFn K (.ref f31) = true)
    (l31 : K.lookup f31 = some ⟨oc31, od31, .func (PySem.W.fnOf "written" "Chip.written" (defArgs s_Chip_written) (defBody s_Chip_written) (defScope s_Chip_written) .none kV31 dc31 pm31 an31 cd31 ct31), sl31⟩)
    (c31 : PySem.W.codeIn K cd31 "Chip.written" = true)
    (k31 : PySem.W.keepIn K (.ref f31) = true)
    (a32 : PySem.W.findIn K (.ref CDesk) "at_chip" = some (some (.ref f32)))
    (i32 : PySem.W.isFn K (.ref f32) = true)
    (l32 : K.lookup f32 = some ⟨oc32, od32, .func (PySem.W.fnOf "at_chip" "Desk.at_chip" (defArgs s_Desk_at_chip) (defBody s_Desk_at_chip) (defScope s_Desk_at_chip) .none kV32 dc32 pm32 an32 cd32 ct32), sl32⟩)
    (c32 : PySem.W.codeIn K cd32 "Desk.at_chip" = true)
    (k32 : PySem.W.keepIn K (.ref f32) = true)
    (a33 : PySem.W.findIn K (.ref CDesk) "answer" = some (some (.ref f33)))
    (i33 : PySem.W.isFn K (.ref f33) = true)
    (l33 : K.lookup f33 = some ⟨oc33, od33, .func (PySem.W.fnOf "answer" "Desk.answer" (defArgs s_Desk_answer) (defBody s_Desk_answer) (defScope s_Desk_answer) .none kV33 dc33 pm33 an33 cd33 ct33), sl33⟩)
    (c33 : PySem.W.codeIn K cd33 "Desk.answer" = true)
    (k33 : PySem.W.keepIn K (.ref f33) = true)
    (a34 : PySem.W.nsIn K mainGlobals "class_of" = some (some (.ref f34)))
    (l34 : K.lookup f34 = some ⟨oc34, od34, .func (PySem.W.fnOf "class_of" "class_of" (defArgs s_class_of) (defBody s_class_of) (defScope s_class_of) .none kV34 dc34 pm34 an34 cd34 ct34), sl34⟩)
    (c34 : PySem.W.codeIn K cd34 "class_of" = true)
    (k34 : PySem.W.keepIn K (.ref f34) = true)
    (a35 : PySem.W.nsIn K mainGlobals "play" = some (some (.ref f35)))
    (l35 : K.lookup f35 = some ⟨oc35, od35, .func (PySem.W.fnOf "play" "play" (defArgs s_play) (defBody s_play) (defScope s_play) .none kV35 dc35 pm35 an35 cd35 ct35), sl35⟩)
    (c35 : PySem.W.codeIn K cd35 "play" = true)
    (k35 : PySem.W.keepIn K (.ref f35) = true)
    (a36 : PySem.W.nsIn K mainGlobals "_law_read" = some (some (.ref f36)))
    (l36 : K.lookup f36 = some ⟨oc36, od36, .func (PySem.W.fnOf "_law_read" "_law_read" (defArgs s_l_read) (defBody s_l_read) (defScope s_l_read) .none kV36 dc36 pm36 an36 cd36 ct36), sl36⟩)
    (c36 : PySem.W.codeIn K cd36 "_law_read" = true)
    (k36 : PySem.W.keepIn K (.ref f36) = true)
    (a37 : PySem.W.nsIn K mainGlobals "_law_walked" = some (some (.ref f37)))
    (l37 : K.lookup f37 = some ⟨oc37, od37, .func (PySem.W.fnOf "_law_walked" "_law_walked" (defArgs s_l_walked) (defBody s_l_walked) (defScope s_l_walked) .none kV37 dc37 pm37 an37 cd37 ct37), sl37⟩)
    (c37 : PySem.W.codeIn K cd37 "_law_walked" = true)
    (k37 : PySem.W.keepIn K (.ref f37) = true)
    (a38 : PySem.W.nsIn K mainGlobals "law" = some (some (.ref f38)))
    (l38 : K.lookup f38 = some ⟨oc38, od38, .func (PySem.W.fnOf "law" "law" (defArgs s_law) (defBody s_law) (defScope s_law) .none kV38 dc38 pm38 an38 cd38 ct38), sl38⟩)
    (c38 : PySem.W.codeIn K cd38 "law" = true)
    (k38 : PySem.W.keepIn K (.ref f38) = true)
    (pgChip : PySem.W.plainGet K CChip Str.empty = true)
    (hdChip : PySem.W.hasDictIn K CChip = true)
    (poChip : PySem.W.plainOver K CChip = true)
    (saChip : PySem.W.findIn K (.ref CChip) "__setattr__" = some (some (.builtin "object.__setattr__")))
    (mkChip : PySem.W.makesIn K CChip = true)
    (kcChip : PySem.W.keepIn K (.ref CChip) = true)
    (pgDisk : PySem.W.plainGet K CDisk Str.empty = true)
    (hdDisk : PySem.W.hasDictIn K CDisk = true)
    (poDisk : PySem.W.plainOver K CDisk = true)
    (saDisk : PySem.W.findIn K (.ref CDisk) "__setattr__" = some (some (.builtin "object.__setattr__")))
    (mkDisk : PySem.W.makesIn K CDisk = true)
    (kcDisk : PySem.W.keepIn K (.ref CDisk) = true)
    (pgDesk : PySem.W.plainGet K CDesk Str.empty = true)
    (hdDesk : PySem.W.hasDictIn K CDesk = true)
    (poDesk : PySem.W.plainOver K CDesk = true)
    (saDesk : PySem.W.findIn K (.ref CDesk) "__setattr__" = some (some (.builtin "object.__setattr__")))
    (mkDesk : PySem.W.makesIn K CDesk = true)
    (kcDesk : PySem.W.keepIn K (.ref CDesk) = true)
    (xXBadSize : PySem.W.excIn K XBadSize [.type "ValueError", .type "Exception", .type "BaseException", .type "object"] "ValueError.__new__" = true)
    (kXBadSize : PySem.W.keepIn K (.ref XBadSize) = true)
    (bXBadSize : PySem.W.subIn K (.ref XBadSize) (.type "BaseException") = some true)
    (tXBadSize : PySem.W.typeIn K (.ref XBadSize) = some (.type "type"))
    (xXNoPage : PySem.W.excIn K XNoPage [.type "ValueError", .type "Exception", .type "BaseException", .type "object"] "ValueError.__new__" = true)
    (kXNoPage : PySem.W.keepIn K (.ref XNoPage) = true)
    (bXNoPage : PySem.W.subIn K (.ref XNoPage) (.type "BaseException") = some true)
    (tXNoPage : PySem.W.typeIn K (.ref XNoPage) = some (.type "type"))
    (xXNotErased : PySem.W.excIn K XNotErased [.type "ValueError", .type "Exception", .type "BaseException", .type "object"] "ValueError.__new__" = true)
    (kXNotErased : PySem.W.keepIn K (.ref XNotErased) = true)
    (bXNotErased : PySem.W.subIn K (.ref XNotErased) (.type "BaseException") = some true)
    (tXNotErased : PySem.W.typeIn K (.ref XNotErased) = some (.type "type"))
    (xXNoSector : PySem.W.excIn K XNoSector [.type "ValueError", .type "Exception", .type "BaseException", .type "object"] "ValueError.__new__" = true)
    (kXNoSector : PySem.W.keepIn K (.ref XNoSector) = true)
    (bXNoSector : PySem.W.subIn K (.ref XNoSector) (.type "BaseException") = some true)
    (tXNoSector : PySem.W.typeIn K (.ref XNoSector) = some (.type "type"))
    (xXBadContent : PySem.W.excIn K XBadContent [.type "ValueError", .type "Exception", .type "BaseException", .type "object"] "ValueError.__new__" = true)
    (kXBadContent : PySem.W.keepIn K (.ref XBadContent) = true)
    (bXBadContent : PySem.W.subIn K (.ref XBadContent) (.type "BaseException") = some true)
    (tXBadContent : PySem.W.typeIn K (.ref XBadContent) = some (.type "type"))
    (xXCut : PySem.W.excIn K XCut [.type "ValueError", .type "Exception", .type "BaseException", .type "object"] "ValueError.__new__" = true)
    (kXCut : PySem.W.keepIn K (.ref XCut) = true)
    (bXCut : PySem.W.subIn K (.ref XCut) (.type "BaseException") = some true)
    (tXCut : PySem.W.typeIn K (.ref XCut) = some (.type "type"))
    (xXNoDisk : PySem.W.excIn K XNoDisk [.type "ValueError", .type "Exception", .type "BaseException", .type "object"] "ValueError.__new__" = true)
    (kXNoDisk : PySem.W.keepIn K (.ref XNoDisk) = true)
    (bXNoDisk : PySem.W.subIn K (.ref XNoDisk) (.type "BaseException") = some true)
    (tXNoDisk : PySem.W.typeIn K (.ref XNoDisk) = some (.type "type"))
    (xXBadRow : PySem.W.excIn K XBadRow [.type "ValueError", .type "Exception", .type "BaseException", .type "object"] "ValueError.__new__" = true)
    (kXBadRow : PySem.W.keepIn K (.ref XBadRow) = true)
    (bXBadRow : PySem.W.subIn K (.ref XBadRow) (.type "BaseException") = some true)
    (tXBadRow : PySem.W.typeIn K (.ref XBadRow) = some (.type "type"))
    (nChip_rows : PySem.W.findIn K (.ref CChip) "rows" = some none)
    (nChip_wears : PySem.W.findIn K (.ref CChip) "wears" = some none)
    (nChip_many : PySem.W.findIn K (.ref CChip) "many" = some none)
    (nChip_left : PySem.W.findIn K (.ref CChip) "left" = some none)
    (nChip_is_cut : PySem.W.findIn K (.ref CChip) "is_cut" = some none)
    (nDisk_chip : PySem.W.findIn K (.ref CDisk) "chip" = some none)
    (nDisk_many : PySem.W.findIn K (.ref CDisk) "many" = some none)
    (nDisk_blocks : PySem.W.findIn K (.ref CDisk) "blocks" = some none)
    (nDisk_pages : PySem.W.findIn K (.ref CDisk) "pages" = some none)
    (nDisk_places : PySem.W.findIn K (.ref CDisk) "places" = some none)
    (nDisk_stamp : PySem.W.findIn K (.ref CDisk) "stamp" = some none)
    (nDisk_head : PySem.W.findIn K (.ref CDisk) "head" = some none)
    (nDisk_at : PySem.W.findIn K (.ref CDisk) "at" = some none)
    (nDesk_chip : PySem.W.findIn K (.ref CDesk) "chip" = some none)
    (nDesk_disk : PySem.W.findIn K (.ref CDesk) "disk" = some none)
    (nDesk_many : PySem.W.findIn K (.ref CDesk) "many" = some none)
    (gLEAST_BLOCKS : PySem.W.nsIn K mainGlobals "LEAST_BLOCKS" = some (some (.int 4 tLEAST_BLOCKS)))
    (gMOST_BLOCKS : PySem.W.nsIn K mainGlobals "MOST_BLOCKS" = some (some (.int 32 tMOST_BLOCKS)))
    (gLEAST_PAGES : PySem.W.nsIn K mainGlobals "LEAST_PAGES" = some (some (.int 2 tLEAST_PAGES)))
    (gMOST_PAGES : PySem.W.nsIn K mainGlobals "MOST_PAGES" = some (some (.int 16 tMOST_PAGES)))
    (gTORN : PySem.W.nsIn K mainGlobals "TORN" = some (some (.str "torn" tTORN)))
    (gMOST_FIGURES : PySem.W.nsIn K mainGlobals "MOST_FIGURES" = some (some (.int 12 tMOST_FIGURES)))
    (gFIGURES : PySem.W.nsIn K mainGlobals "FIGURES" = some (some (.str "0123456789" tFIGURES)))
    (gMOST_CONTENT : PySem.W.nsIn K mainGlobals "MOST_CONTENT" = some (some (.int 999999999999 tMOST_CONTENT)))
    (zrange : PySem.W.nsIn K mainGlobals "range" = some none)
    (zlen : PySem.W.nsIn K mainGlobals "len" = some none)
    (zmax : PySem.W.nsIn K mainGlobals "max" = some none)
    (zmin : PySem.W.nsIn K mainGlobals "min" = some none)
    (zsum : PySem.W.nsIn K mainGlobals "sum" = some none)
    (zany : PySem.W.nsIn K mainGlobals "any" = some none)
    (zall : PySem.W.nsIn K mainGlobals "all" = some none)
    (zenumerate : PySem.W.nsIn K mainGlobals "enumerate" = some none)
    (zint : PySem.W.nsIn K mainGlobals "int" = some none)
    (zstr : PySem.W.nsIn K mainGlobals "str" = some none)
    (zlist : PySem.W.nsIn K mainGlobals "list" = some none)
    (zdict : PySem.W.nsIn K mainGlobals "dict" = some none)
    (zisinstance : PySem.W.nsIn K mainGlobals "isinstance" = some none)
    (aXWear : PySem.W.nsIn K mainGlobals "WearError" = some (some (.ref XWear)))
    (bXWear : PySem.W.subIn K (.ref XWear) (.type "BaseException") = some true)
    (icWear : PySem.W.isClsIn K XWear = true)
    (tXWear : PySem.W.typeIn K (.ref XWear) = some (.type "type"))
    (ihn : PySem.W.specialIn K (.builtin "object.__class__") "__get__" = some (some (.builtin "getset_descriptor.__get__")))
    (iht : PySem.W.takesIn K (.builtin "object.__class__") = some true)
    (wBadSize_BadRow : PySem.W.kitOne K (.ref XBadSize) (.ref XBadRow) = some false)
    (wBadSize_BadSize : PySem.W.kitOne K (.ref XBadSize) (.ref XBadSize) = some true)
    (wBadSize_NoPage : PySem.W.kitOne K (.ref XBadSize) (.ref XNoPage) = some false)
    (wBadSize_NoSector : PySem.W.kitOne K (.ref XBadSize) (.ref XNoSector) = some false)
    (wBadSize_BadContent : PySem.W.kitOne K (.ref XBadSize) (.ref XBadContent) = some false)
    (wBadSize_Cut : PySem.W.kitOne K (.ref XBadSize) (.ref XCut) = some false)
    (ehgBadSize : PySem.W.findIn K (.ref XBadSize) "__getattribute__" = some (some (.builtin "BaseException.__getattribute__")))
    (ehkBadSize : PySem.W.findIn K (.ref XBadSize) "__getattr__" = some none)
    (ehdBadSize : PySem.W.hasDictIn K XBadSize = true)
    (ehaBadSize : PySem.W.findIn K (.ref XBadSize) "__class__" = some (some (.builtin "object.__class__")))
    (ehmBadSize : PySem.W.mroIn K XBadSize (.type "object") = some true)
    (swBadSize : PySem.W.subIn K (.ref XBadSize) (.ref XWear) = some true)
    (wNoPage_BadRow : PySem.W.kitOne K (.ref XNoPage) (.ref XBadRow) = some false)
    (wNoPage_BadSize : PySem.W.kitOne K (.ref XNoPage) (.ref XBadSize) = some false)
    (wNoPage_NoPage : PySem.W.kitOne K (.ref XNoPage) (.ref XNoPage) = some true)
    (wNoPage_NoSector : PySem.W.kitOne K (.ref XNoPage) (.ref XNoSector) = some false)
    (wNoPage_BadContent : PySem.W.kitOne K (.ref XNoPage) (.ref XBadContent) = some false)
    (wNoPage_Cut : PySem.W.kitOne K (.ref XNoPage) (.ref XCut) = some false)
    (ehgNoPage : PySem.W.findIn K (.ref XNoPage) "__getattribute__" = some (some (.builtin "BaseException.__getattribute__")))
    (ehkNoPage : PySem.W.findIn K (.ref XNoPage) "__getattr__" = some none)
    (ehdNoPage : PySem.W.hasDictIn K XNoPage = true)
    (ehaNoPage : PySem.W.findIn K (.ref XNoPage) "__class__" = some (some (.builtin "object.__class__")))
    (ehmNoPage : PySem.W.mroIn K XNoPage (.type "object") = some true)
    (swNoPage : PySem.W.subIn K (.ref XNoPage) (.ref XWear) = some true)
    (wNoSector_BadRow : PySem.W.kitOne K (.ref XNoSector) (.ref XBadRow) = some false)
    (wNoSector_BadSize : PySem.W.kitOne K (.ref XNoSector) (.ref XBadSize) = some false)
    (wNoSector_NoPage : PySem.W.kitOne K (.ref XNoSector) (.ref XNoPage) = some false)
    (wNoSector_NoSector : PySem.W.kitOne K (.ref XNoSector) (.ref XNoSector) = some true)
    (wNoSector_BadContent : PySem.W.kitOne K (.ref XNoSector) (.ref XBadContent) = some false)
    (wNoSector_Cut : PySem.W.kitOne K (.ref XNoSector) (.ref XCut) = some false)
    (ehgNoSector : PySem.W.findIn K (.ref XNoSector) "__getattribute__" = some (some (.builtin "BaseException.__getattribute__")))
    (ehkNoSector : PySem.W.findIn K (.ref XNoSector) "__getattr__" = some none)
    (ehdNoSector : PySem.W.hasDictIn K XNoSector = true)
    (ehaNoSector : PySem.W.findIn K (.ref XNoSector) "__class__" = some (some (.builtin "object.__class__")))
    (ehmNoSector : PySem.W.mroIn K XNoSector (.type "object") = some true)
    (swNoSector : PySem.W.subIn K (.ref XNoSector) (.ref XWear) = some true)
    (wBadContent_BadRow : PySem.W.kitOne K (.ref XBadContent) (.ref XBadRow) = some false)
    (wBadContent_BadSize : PySem.W.kitOne K (.ref XBadContent) (.ref XBadSize) = some false)
    (wBadContent_NoPage : PySem.W.kitOne K (.ref XBadContent) (.ref XNoPage) = some false)
    (wBadContent_NoSector : PySem.W.kitOne K (.ref XBadContent) (.ref XNoSector) = some false)
    (wBadContent_BadContent : PySem.W.kitOne K (.ref XBadContent) (.ref XBadContent) = some true)
    (wBadContent_Cut : PySem.W.kitOne K (.ref XBadContent) (.ref XCut) = some false)
    (ehgBadContent : PySem.W.findIn K (.ref XBadContent) "__getattribute__" = some (some (.builtin "BaseException.__getattribute__")))
    (ehkBadContent : PySem.W.findIn K (.ref XBadContent) "__getattr__" = some none)
    (ehdBadContent : PySem.W.hasDictIn K XBadContent = true)
    (ehaBadContent : PySem.W.findIn K (.ref XBadContent) "__class__" = some (some (.builtin "object.__class__")))
    (ehmBadContent : PySem.W.mroIn K XBadContent (.type "object") = some true)
    (swBadContent : PySem.W.subIn K (.ref XBadContent) (.ref XWear) = some true)
    (wCut_BadRow : PySem.W.kitOne K (.ref XCut) (.ref XBadRow) = some false)
    (wCut_BadSize : PySem.W.kitOne K (.ref XCut) (.ref XBadSize) = some false)
    (wCut_NoPage : PySem.W.kitOne K (.ref XCut) (.ref XNoPage) = some false)
    (wCut_NoSector : PySem.W.kitOne K (.ref XCut) (.ref XNoSector) = some false)
    (wCut_BadContent : PySem.W.kitOne K (.ref XCut) (.ref XBadContent) = some false)
    (wCut_Cut : PySem.W.kitOne K (.ref XCut) (.ref XCut) = some true)
    (ehgCut : PySem.W.findIn K (.ref XCut) "__getattribute__" = some (some (.builtin "BaseException.__getattribute__")))
    (ehkCut : PySem.W.findIn K (.ref XCut) "__getattr__" = some none)
    (ehdCut : PySem.W.hasDictIn K XCut = true)
    (ehaCut : PySem.W.findIn K (.ref XCut) "__class__" = some (some (.builtin "object.__class__")))
    (ehmCut : PySem.W.mroIn K XCut (.type "object") = some true)
    (swCut : PySem.W.subIn K (.ref XCut) (.ref XWear) = some true)
    (wNoDisk_BadRow : PySem.W.kitOne K (.ref XNoDisk) (.ref XBadRow) = some false)
    (wNoDisk_BadSize : PySem.W.kitOne K (.ref XNoDisk) (.ref XBadSize) = some false)
    (wNoDisk_NoPage : PySem.W.kitOne K (.ref XNoDisk) (.ref XNoPage) = some false)
    (wNoDisk_NoSector : PySem.W.kitOne K (.ref XNoDisk) (.ref XNoSector) = some false)
    (wNoDisk_BadContent : PySem.W.kitOne K (.ref XNoDisk) (.ref XBadContent) = some false)
    (wNoDisk_Cut : PySem.W.kitOne K (.ref XNoDisk) (.ref XCut) = some false)
    (ehgNoDisk : PySem.W.findIn K (.ref XNoDisk) "__getattribute__" = some (some (.builtin "BaseException.__getattribute__")))
    (ehkNoDisk : PySem.W.findIn K (.ref XNoDisk) "__getattr__" = some none)
    (ehdNoDisk : PySem.W.hasDictIn K XNoDisk = true)
    (ehaNoDisk : PySem.W.findIn K (.ref XNoDisk) "__class__" = some (some (.builtin "object.__class__")))
    (ehmNoDisk : PySem.W.mroIn K XNoDisk (.type "object") = some true)
    (swNoDisk : PySem.W.subIn K (.ref XNoDisk) (.ref XWear) = some true)
    (wBadRow_BadRow : PySem.W.kitOne K (.ref XBadRow) (.ref XBadRow) = some true)
    (wBadRow_BadSize : PySem.W.kitOne K (.ref XBadRow) (.ref XBadSize) = some false)
    (wBadRow_NoPage : PySem.W.kitOne K (.ref XBadRow) (.ref XNoPage) = some false)
    (wBadRow_NoSector : PySem.W.kitOne K (.ref XBadRow) (.ref XNoSector) = some false)
    (wBadRow_BadContent : PySem.W.kitOne K (.ref XBadRow) (.ref XBadContent) = some false)
    (wBadRow_Cut : PySem.W.kitOne K (.ref XBadRow) (.ref XCut) = some false)
    (ehgBadRow : PySem.W.findIn K (.ref XBadRow) "__getattribute__" = some (some (.builtin "BaseException.__getattribute__")))
    (ehkBadRow : PySem.W.findIn K (.ref XBadRow) "__getattr__" = some none)
    (ehdBadRow : PySem.W.hasDictIn K XBadRow = true)
    (ehaBadRow : PySem.W.findIn K (.ref XBadRow) "__class__" = some (some (.builtin "object.__class__")))
    (ehmBadRow : PySem.W.mroIn K XBadRow (.type "object") = some true)
    (swBadRow : PySem.W.subIn K (.ref XBadRow) (.ref XWear) = some true)
    (icCut : PySem.W.isClsIn K XCut = true)
    (scCut : PySem.W.subIn K (.ref XCut) (.ref XCut) = some true)
    (aSHP : PySem.W.nsIn K mainGlobals "SHAPES" = some (some (.ref SHP)))
    (lSHP : K.lookup SHP = some ⟨.type "dict", none, .dict esS nS, #[]⟩)
    (kSHP : PySem.W.KeysLit w.params esS.toList)
    (dSHP : (SHP == sysModules) = false)
    (sh0 : PySem.W.nsIn K SHP "chip" = some (some (.int 3 tsh0)))
    (sh1 : PySem.W.nsIn K SHP "write" = some (some (.int 2 tsh1)))
    (sh2 : PySem.W.nsIn K SHP "read" = some (some (.int 1 tsh2)))
    (sh3 : PySem.W.nsIn K SHP "power" = some (some (.int 1 tsh3)))
    (sh4 : PySem.W.nsIn K SHP "mount" = some (some (.int 0 tsh4)))
    (sh5 : PySem.W.nsIn K SHP "worn" = some (some (.int 1 tsh5)))
    (sh6 : PySem.W.nsIn K SHP "written" = some (some (.int 0 tsh6)))
    (sh7 : PySem.W.nsIn K SHP "page" = some (some (.int 2 tsh7)))
    (sh8 : PySem.W.nsIn K SHP "Read" = some none)
    (sh9 : PySem.W.nsIn K SHP "mounts" = some none)
    (sh10 : PySem.W.nsIn K SHP "erase" = some none)
    (sh11 : PySem.W.nsIn K SHP "" = some none)
    (snsCut : PySem.W.subIn K (.ref XNoSector) (.ref XCut) = some false) :
    ∃ fd : FuncData, (∀ (s : Shared) (v : Value), BindsTo s fd ⟨[v], []⟩ [("_law_script", v)]) ∧ ∀ base : Heap, K.In base → base.Ns mainGlobals mg → FnOk l.prog w K mg base CX0 12 fa fd ["_law_script"] (sp_law K A0) := by
  have e := hfa.symm.trans (PySem.W.mg_of X G a38)
  cases e
  have B : Blt mg := ⟨PySem.W.mg_none_of X G zrange, PySem.W.mg_none_of X G zlen, PySem.W.mg_none_of X G zmax, PySem.W.mg_none_of X G zmin, PySem.W.mg_none_of X G zsum, PySem.W.mg_none_of X G zany, PySem.W.mg_none_of X G zall, PySem.W.mg_none_of X G zenumerate, PySem.W.mg_none_of X G zint, PySem.W.mg_none_of X G zstr, PySem.W.mg_none_of X G zlist, PySem.W.mg_none_of X G zdict, PySem.W.mg_none_of X G zisinstance⟩
  have GG : Glo K mg (⟨CChip, CDisk, CDesk, XBadSize, XNoPage, XNotErased, XNoSector, XBadContent, XCut, XNoDisk, XBadRow, XWear, SHP⟩ : Ad) := ⟨⟨_, PySem.W.mg_of X G gLEAST_BLOCKS⟩, ⟨_, PySem.W.mg_of X G gMOST_BLOCKS⟩, ⟨_, PySem.W.mg_of X G gLEAST_PAGES⟩, ⟨_, PySem.W.mg_of X G gMOST_PAGES⟩, ⟨_, PySem.W.mg_of X G gTORN⟩, ⟨xXBadSize, PySem.W.mg_of X G aXBadSize, kXBadSize, bXBadSize, tXBadSize⟩, ⟨xXNoPage, PySem.W.mg_of X G aXNoPage, kXNoPage, bXNoPage, tXNoPage⟩, ⟨xXNotErased, PySem.W.mg_of X G aXNotErased, kXNotErased, bXNotErased, tXNotErased⟩, ⟨xXNoSector, PySem.W.mg_of X G aXNoSector, kXNoSector, bXNoSector, tXNoSector⟩, ⟨xXBadContent, PySem.W.mg_of X G aXBadContent, kXBadContent, bXBadContent, tXBadContent⟩, ⟨xXCut, PySem.W.mg_of X G aXCut, kXCut, bXCut, tXCut⟩, ⟨xXNoDisk, PySem.W.mg_of X G aXNoDisk, kXNoDisk, bXNoDisk, tXNoDisk⟩, ⟨xXBadRow, PySem.W.mg_of X G aXBadRow, kXBadRow, bXBadRow, tXBadRow⟩, ⟨_, PySem.W.mg_of X G gMOST_FIGURES⟩, ⟨_, PySem.W.mg_of X G gFIGURES⟩, PySem.W.mg_of X G aSHP⟩
  have GD : GloD K mg (⟨CChip, CDisk, CDesk, XBadSize, XNoPage, XNotErased, XNoSector, XBadContent, XCut, XNoDisk, XBadRow, XWear, SHP⟩ : Ad) := ⟨⟨_, PySem.W.mg_of X G gMOST_CONTENT⟩⟩
  have cfBadRow : ClsF K (⟨CChip, CDisk, CDesk, XBadSize, XNoPage, XNotErased, XNoSector, XBadContent, XCut, XNoDisk, XBadRow, XWear, SHP⟩ : Ad) .badrow := ⟨wBadRow_BadRow, wBadRow_BadSize, wBadRow_NoPage, wBadRow_NoSector, wBadRow_BadContent, wBadRow_Cut, ⟨ehgBadRow, ehkBadRow, bXBadRow, ehdBadRow, ehaBadRow, ihn, iht, ehmBadRow⟩, exm_of bXWear icWear tXWear swBadRow⟩
  have cfBadSize : ClsF K (⟨CChip, CDisk, CDesk, XBadSize, XNoPage, XNotErased, XNoSector, XBadContent, XCut, XNoDisk, XBadRow, XWear, SHP⟩ : Ad) .badsize := ⟨wBadSize_BadRow, wBadSize_BadSize, wBadSize_NoPage, wBadSize_NoSector, wBadSize_BadContent, wBadSize_Cut, ⟨ehgBadSize, ehkBadSize, bXBadSize, ehdBadSize, ehaBadSize, ihn, iht, ehmBadSize⟩, exm_of bXWear icWear tXWear swBadSize⟩
  have cfNoPage : ClsF K (⟨CChip, CDisk, CDesk, XBadSize, XNoPage, XNotErased, XNoSector, XBadContent, XCut, XNoDisk, XBadRow, XWear, SHP⟩ : Ad) .nopage := ⟨wNoPage_BadRow, wNoPage_BadSize, wNoPage_NoPage, wNoPage_NoSector, wNoPage_BadContent, wNoPage_Cut, ⟨ehgNoPage, ehkNoPage, bXNoPage, ehdNoPage, ehaNoPage, ihn, iht, ehmNoPage⟩, exm_of bXWear icWear tXWear swNoPage⟩
  have cfNoSector : ClsF K (⟨CChip, CDisk, CDesk, XBadSize, XNoPage, XNotErased, XNoSector, XBadContent, XCut, XNoDisk, XBadRow, XWear, SHP⟩ : Ad) .nosector := ⟨wNoSector_BadRow, wNoSector_BadSize, wNoSector_NoPage, wNoSector_NoSector, wNoSector_BadContent, wNoSector_Cut, ⟨ehgNoSector, ehkNoSector, bXNoSector, ehdNoSector, ehaNoSector, ihn, iht, ehmNoSector⟩, exm_of bXWear icWear tXWear swNoSector⟩
  have cfBadContent : ClsF K (⟨CChip, CDisk, CDesk, XBadSize, XNoPage, XNotErased, XNoSector, XBadContent, XCut, XNoDisk, XBadRow, XWear, SHP⟩ : Ad) .badcontent := ⟨wBadContent_BadRow, wBadContent_BadSize, wBadContent_NoPage, wBadContent_NoSector, wBadContent_BadContent, wBadContent_Cut, ⟨ehgBadContent, ehkBadContent, bXBadContent, ehdBadContent, ehaBadContent, ihn, iht, ehmBadContent⟩, exm_of bXWear icWear tXWear swBadContent⟩
  have cfCut : ClsF K (⟨CChip, CDisk, CDesk, XBadSize, XNoPage, XNotErased, XNoSector, XBadContent, XCut, XNoDisk, XBadRow, XWear, SHP⟩ : Ad) .cut := ⟨wCut_BadRow, wCut_BadSize, wCut_NoPage, wCut_NoSector, wCut_BadContent, wCut_Cut, ⟨ehgCut, ehkCut, bXCut, ehdCut, ehaCut, ihn, iht, ehmCut⟩, exm_of bXWear icWear tXWear swCut⟩
  have cfNoDisk : ClsF K (⟨CChip, CDisk, CDesk, XBadSize, XNoPage, XNotErased, XNoSector, XBadContent, XCut, XNoDisk, XBadRow, XWear, SHP⟩ : Ad) .nodisk := ⟨wNoDisk_BadRow, wNoDisk_BadSize, wNoDisk_NoPage, wNoDisk_NoSector, wNoDisk_BadContent, wNoDisk_Cut, ⟨ehgNoDisk, ehkNoDisk, bXNoDisk, ehdNoDisk, ehaNoDisk, ihn, iht, ehmNoDisk⟩, exm_of bXWear icWear tXWear swNoDisk⟩
  have shF : ∀ z ∈ firsts, ∃ r, PySem.W.nsIn K SHP z = some r ∧ r.isSome = (shape z).isSome ∧ ∀ n, shape z = some n → ∃ u, r = some u ∧ RelV (.int n) u := by
    intro z hz
    unfold firsts at hz
    simp only [List.mem_cons, List.not_mem_nil, or_false] at hz
    rcases hz with rfl | rfl | rfl | rfl | rfl | rfl | rfl | rfl | rfl | rfl | rfl | rfl
    · exact ⟨_, sh0, by rw [show shape "chip" = some 3 by decide +kernel]; rfl, fun n e => ⟨_, rfl, by rw [show shape "chip" = some 3 by decide +kernel] at e; injection e with e; subst e; exact ⟨_, rfl⟩⟩⟩
    · exact ⟨_, sh1, by rw [show shape "write" = some 2 by decide +kernel]; rfl, fun n e => ⟨_, rfl, by rw [show shape "write" = some 2 by decide +kernel] at e; injection e with e; subst e; exact ⟨_, rfl⟩⟩⟩
    · exact ⟨_, sh2, by rw [show shape "read" = some 1 by decide +kernel]; rfl, fun n e => ⟨_, rfl, by rw [show shape "read" = some 1 by decide +kernel] at e; injection e with e; subst e; exact ⟨_, rfl⟩⟩⟩
    · exact ⟨_, sh3, by rw [show shape "power" = some 1 by decide +kernel]; rfl, fun n e => ⟨_, rfl, by rw [show shape "power" = some 1 by decide +kernel] at e; injection e with e; subst e; exact ⟨_, rfl⟩⟩⟩
    · exact ⟨_, sh4, by rw [show shape "mount" = some 0 by decide +kernel]; rfl, fun n e => ⟨_, rfl, by rw [show shape "mount" = some 0 by decide +kernel] at e; injection e with e; subst e; exact ⟨_, rfl⟩⟩⟩
    · exact ⟨_, sh5, by rw [show shape "worn" = some 1 by decide +kernel]; rfl, fun n e => ⟨_, rfl, by rw [show shape "worn" = some 1 by decide +kernel] at e; injection e with e; subst e; exact ⟨_, rfl⟩⟩⟩
    · exact ⟨_, sh6, by rw [show shape "written" = some 0 by decide +kernel]; rfl, fun n e => ⟨_, rfl, by rw [show shape "written" = some 0 by decide +kernel] at e; injection e with e; subst e; exact ⟨_, rfl⟩⟩⟩
    · exact ⟨_, sh7, by rw [show shape "page" = some 2 by decide +kernel]; rfl, fun n e => ⟨_, rfl, by rw [show shape "page" = some 2 by decide +kernel] at e; injection e with e; subst e; exact ⟨_, rfl⟩⟩⟩
    · exact ⟨_, sh8, by decide +kernel, fun n e => by rw [show shape "Read" = none by decide +kernel] at e; cases e⟩
    · exact ⟨_, sh9, by decide +kernel, fun n e => by rw [show shape "mounts" = none by decide +kernel] at e; cases e⟩
    · exact ⟨_, sh10, by decide +kernel, fun n e => by rw [show shape "erase" = none by decide +kernel] at e; cases e⟩
    · exact ⟨_, sh11, by decide +kernel, fun n e => by rw [show shape "" = none by decide +kernel] at e; cases e⟩
  have KD : KDict K w SHP esS nS := ⟨lSHP, kSHP, dSHP⟩
  have GW : mg "WearError" = some (.ref XWear) := PySem.W.mg_of X G aXWear
  have F : FacQ K (⟨CChip, CDisk, CDesk, XBadSize, XNoPage, XNotErased, XNoSector, XBadContent, XCut, XNoDisk, XBadRow, XWear, SHP⟩ : Ad) := { cl_Chip := ⟨pgChip, hdChip, poChip, saChip⟩, n_rows := nChip_rows, n_wears := nChip_wears, n_many := nChip_many, n_left := nChip_left, n_is_cut := nChip_is_cut, cl_Disk := ⟨pgDisk, hdDisk, poDisk, saDisk⟩, n_chip := nDisk_chip, n_dmany := nDisk_many, n_blocks := nDisk_blocks, n_pages := nDisk_pages, n_places := nDisk_places, n_stamp := nDisk_stamp, n_head := nDisk_head, n_at := nDisk_at, cl_Desk := ⟨pgDesk, hdDesk, poDesk, saDesk⟩, q_chip := nDesk_chip, q_disk := nDesk_disk, q_many := nDesk_many, cls := (fun e => match e with | .badrow => cfBadRow | .badsize => cfBadSize | .nopage => cfNoPage | .nosector => cfNoSector | .badcontent => cfBadContent | .cut => cfCut | .nodisk => cfNoDisk), ex_ns := exm_of bXCut icCut tXCut snsCut, sh := shF, ex_cut := exm_of bXCut icCut tXCut scCut }
  have F0 := fun_mk (st := s_l_drawn) l0 c0 k0
  have b0 := F0.binds (ps := ["_law_cell_here", "_law_k"]) fun _ _ _ _ _ _ us hl => match us, hl with | [_, _], _ => rfl
  have F1 := fun_mk (st := s_l_cell) l1 c1 k1
  have b1 := F1.binds (ps := ["_law_script", "_law_k"]) fun _ _ _ _ _ _ us hl => match us, hl with | [_, _], _ => rfl
  have F2 := fun_mk (st := s_l_lines) l2 c2 k2
  have b2 := F2.binds (ps := ["_law_script", "_law_many"]) fun _ _ _ _ _ _ us hl => match us, hl with | [_, _], _ => rfl
  have F3 := fun_mk (st := s_Desk_init) l3 c3 k3
  have b3 := F3.binds (ps := ["self"]) fun _ _ _ _ _ _ us hl => match us, hl with | [_], _ => rfl
  have F4 := fun_mk (st := s_number_of) l4 c4 k4
  have b4 := F4.binds (ps := ["text"]) fun _ _ _ _ _ _ us hl => match us, hl with | [_], _ => rfl
  have F5 := fun_mk (st := s_words_of) l5 c5 k5
  have b5 := F5.binds (ps := ["line"]) fun _ _ _ _ _ _ us hl => match us, hl with | [_], _ => rfl
  have F6 := fun_mk (st := s_Chip_init) l6 c6 k6
  have b6 := F6.binds (ps := ["self", "blocks", "pages"]) fun _ _ _ _ _ _ us hl => match us, hl with | [_, _, _], _ => rfl
  have F7 := fun_mk (st := s_Chip_size) l7 c7 k7
  have b7 := F7.binds (ps := ["self"]) fun _ _ _ _ _ _ us hl => match us, hl with | [_], _ => rfl
  have F8 := fun_mk (st := s_Disk_init) l8 c8 k8
  have b8 := F8.binds (ps := ["self", "chip", "sectors"]) fun _ _ _ _ _ _ us hl => match us, hl with | [_, _, _], _ => rfl
  have F9 := fun_mk (st := s_Chip_need_block) l9 c9 k9
  have b9 := F9.binds (ps := ["self", "block"]) fun _ _ _ _ _ _ us hl => match us, hl with | [_, _], _ => rfl
  have F10 := fun_mk (st := s_Chip_need_page) l10 c10 k10
  have b10 := F10.binds (ps := ["self", "block", "page"]) fun _ _ _ _ _ _ us hl => match us, hl with | [_, _, _], _ => rfl
  have F11 := fun_mk (st := s_Chip_page) l11 c11 k11
  have b11 := F11.binds (ps := ["self", "block", "page"]) fun _ _ _ _ _ _ us hl => match us, hl with | [_, _, _], _ => rfl
  have F12 := fun_mk (st := s_Disk_row) l12 c12 k12
  have b12 := F12.binds (ps := ["self", "block"]) fun _ _ _ _ _ _ us hl => match us, hl with | [_, _], _ => rfl
  have F13 := fun_mk (st := s_is_whole) l13 c13 k13
  have b13 := F13.binds (ps := ["thing"]) fun _ _ _ _ _ _ us hl => match us, hl with | [_], _ => rfl
  have F14 := fun_mk (st := s_Disk_is_empty) l14 c14 k14
  have b14 := F14.binds (ps := ["self", "block"]) fun _ _ _ _ _ _ us hl => match us, hl with | [_, _], _ => rfl
  have F15 := fun_mk (st := s_Chip_goes_well) l15 c15 k15
  have b15 := F15.binds (ps := ["self"]) fun _ _ _ _ _ _ us hl => match us, hl with | [_], _ => rfl
  have F16 := fun_mk (st := s_Chip_erase) l16 c16 k16
  have b16 := F16.binds (ps := ["self", "block"]) fun _ _ _ _ _ _ us hl => match us, hl with | [_, _], _ => rfl
  have F17 := fun_mk (st := s_Disk_greatest) l17 c17 k17
  have b17 := F17.binds (ps := ["self"]) fun _ _ _ _ _ _ us hl => match us, hl with | [_], _ => rfl
  have F18 := fun_mk (st := s_Disk_tidy) l18 c18 k18
  have b18 := F18.binds (ps := ["self"]) fun _ _ _ _ _ _ us hl => match us, hl with | [_], _ => rfl
  have F19 := fun_mk (st := s_Disk_load) l19 c19 k19
  have b19 := F19.binds (ps := ["self"]) fun _ _ _ _ _ _ us hl => match us, hl with | [_], _ => rfl
  have F20 := fun_mk (st := s_mounted) l20 c20 k20
  have b20 := F20.binds (ps := ["chip", "sectors"]) fun _ _ _ _ _ _ us hl => match us, hl with | [_, _], _ => rfl
  have F21 := fun_mk (st := s_Disk_need_sector) l21 c21 k21
  have b21 := F21.binds (ps := ["self", "sector"]) fun _ _ _ _ _ _ us hl => match us, hl with | [_, _], _ => rfl
  have F22 := fun_mk (st := s_Disk_read) l22 c22 k22
  have b22 := F22.binds (ps := ["self", "sector"]) fun _ _ _ _ _ _ us hl => match us, hl with | [_, _], _ => rfl
  have F23 := fun_mk (st := s_Chip_write) l23 c23 k23
  have b23 := F23.binds (ps := ["self", "block", "page", "thing"]) fun _ _ _ _ _ _ us hl => match us, hl with | [_, _, _, _], _ => rfl
  have F24 := fun_mk (st := s_Disk_put) l24 c24 k24
  have b24 := F24.binds (ps := ["self", "sector", "content"]) fun _ _ _ _ _ _ us hl => match us, hl with | [_, _, _], _ => rfl
  have F25 := fun_mk (st := s_Disk_clean) l25 c25 k25
  have b25 := F25.binds (ps := ["self", "block"]) fun _ _ _ _ _ _ us hl => match us, hl with | [_, _], _ => rfl
  have F26 := fun_mk (st := s_Disk_advance) l26 c26 k26
  have b26 := F26.binds (ps := ["self"]) fun _ _ _ _ _ _ us hl => match us, hl with | [_], _ => rfl
  have F27 := fun_mk (st := s_Disk_write) l27 c27 k27
  have b27 := F27.binds (ps := ["self", "sector", "content"]) fun _ _ _ _ _ _ us hl => match us, hl with | [_, _, _], _ => rfl
  have F28 := fun_mk (st := s_Desk_at_disk) l28 c28 k28
  have b28 := F28.binds (ps := ["self", "word", "numbers"]) fun _ _ _ _ _ _ us hl => match us, hl with | [_, _, _], _ => rfl
  have F29 := fun_mk (st := s_Chip_power) l29 c29 k29
  have b29 := F29.binds (ps := ["self", "many"]) fun _ _ _ _ _ _ us hl => match us, hl with | [_, _], _ => rfl
  have F30 := fun_mk (st := s_Chip_worn) l30 c30 k30
  have b30 := F30.binds (ps := ["self", "block"]) fun _ _ _ _ _ _ us hl => match us, hl with | [_, _], _ => rfl
  have F31 := fun_mk (st := s_Chip_written) l31 c31 k31
  have b31 := F31.binds (ps := ["self"]) fun _ _ _ _ _ _ us hl => match us, hl with | [_], _ => rfl
  have F32 := fun_mk (st := s_Desk_at_chip) l32 c32 k32
  have b32 := F32.binds (ps := ["self", "word", "numbers"]) fun _ _ _ _ _ _ us hl => match us, hl with | [_, _, _], _ => rfl
  have F33 := fun_mk (st := s_Desk_answer) l33 c33 k33
  have b33 := F33.binds (ps := ["self", "line"]) fun _ _ _ _ _ _ us hl => match us, hl with | [_, _], _ => rfl
  have F34 := fun_mk (st := s_class_of) l34 c34 k34
  have b34 := F34.binds (ps := ["error"]) fun _ _ _ _ _ _ us hl => match us, hl with | [_], _ => rfl
  have F35 := fun_mk (st := s_play) l35 c35 k35
  have b35 := F35.binds (ps := ["text"]) fun _ _ _ _ _ _ us hl => match us, hl with | [_], _ => rfl
  have F36 := fun_mk (st := s_l_read) l36 c36 k36
  have b36 := F36.binds (ps := ["_law_may", "_law_sector", "_law_answer"]) fun _ _ _ _ _ _ us hl => match us, hl with | [_, _, _], _ => rfl
  have F37 := fun_mk (st := s_l_walked) l37 c37 k37
  have b37 := F37.binds (ps := ["_law_lines_here", "_law_answers"]) fun _ _ _ _ _ _ us hl => match us, hl with | [_, _], _ => rfl
  have F38 := fun_mk (st := s_law) l38 c38 k38
  refine ⟨PySem.W.fnOf "law" "law" (defArgs s_law) (defBody s_law) (defScope s_law) .none kV38 dc38 pm38 an38 cd38 ct38, fun s v => .of_eq rfl, fun base hb1 hb2 => ?_⟩
  have D_l_drawn : DefF l.prog w K mg base 1 "_law_drawn" (sp_l_drawn K (⟨CChip, CDisk, CDesk, XBadSize, XNoPage, XNotErased, XNoSector, XBadContent, XCut, XNoDisk, XBadRow, XWear, SHP⟩ : Ad)) := ⟨_, _, _, PySem.W.mg_of X G a0, k0, ok_l_drawn F0 B GG GD F , b0⟩
  have D_l_cell : DefF l.prog w K mg base 1 "_law_cell" (sp_l_cell K (⟨CChip, CDisk, CDesk, XBadSize, XNoPage, XNotErased, XNoSector, XBadContent, XCut, XNoDisk, XBadRow, XWear, SHP⟩ : Ad)) := ⟨_, _, _, PySem.W.mg_of X G a1, k1, ok_l_cell F1 B GG GD F , b1⟩
  have D_l_lines : DefF l.prog w K mg base 2 "_law_lines" (sp_l_lines K (⟨CChip, CDisk, CDesk, XBadSize, XNoPage, XNotErased, XNoSector, XBadContent, XCut, XNoDisk, XBadRow, XWear, SHP⟩ : Ad)) := ⟨_, _, _, PySem.W.mg_of X G a2, k2, ok_l_lines F2 B GG GD F D_l_drawn D_l_cell, b2⟩
  have D_Desk_init : DefC l.prog w K mg base 1 "Desk" CDesk (sp_Desk_init K (⟨CChip, CDisk, CDesk, XBadSize, XNoPage, XNotErased, XNoSector, XBadContent, XCut, XNoDisk, XBadRow, XWear, SHP⟩ : Ad)) := ⟨_, _, _, ⟨mkDesk, a3, i3, kcDesk⟩, PySem.W.mg_of X G aCDesk, ok_Desk_init F3 B GG GD F , b3⟩
  have D_number_of : DefF l.prog w K mg base 1 "number_of" (sp_number_of K (⟨CChip, CDisk, CDesk, XBadSize, XNoPage, XNotErased, XNoSector, XBadContent, XCut, XNoDisk, XBadRow, XWear, SHP⟩ : Ad)) := ⟨_, _, _, PySem.W.mg_of X G a4, k4, ok_number_of F4 B GG GD F , b4⟩
  have D_words_of : DefF l.prog w K mg base 2 "words_of" (sp_words_of K (⟨CChip, CDisk, CDesk, XBadSize, XNoPage, XNotErased, XNoSector, XBadContent, XCut, XNoDisk, XBadRow, XWear, SHP⟩ : Ad)) := ⟨_, _, _, PySem.W.mg_of X G a5, k5, ok_words_of F5 B GG KD GD F D_number_of, b5⟩
  have D_Chip_init : DefC l.prog w K mg base 1 "Chip" CChip (sp_Chip_init K (⟨CChip, CDisk, CDesk, XBadSize, XNoPage, XNotErased, XNoSector, XBadContent, XCut, XNoDisk, XBadRow, XWear, SHP⟩ : Ad)) := ⟨_, _, _, ⟨mkChip, a6, i6, kcChip⟩, PySem.W.mg_of X G aCChip, ok_Chip_init F6 B GG F.toFacL.toFacD.toFac , b6⟩
  have D_Chip_size : DefM l.prog w K mg base 1 CChip "size" (sp_Chip_size K (⟨CChip, CDisk, CDesk, XBadSize, XNoPage, XNotErased, XNoSector, XBadContent, XCut, XNoDisk, XBadRow, XWear, SHP⟩ : Ad)) := ⟨_, _, _, ⟨a7, i7, k7⟩, ok_Chip_size F7 B GG F.toFacL.toFacD.toFac , b7⟩
  have D_Disk_init : DefC l.prog w K mg base 2 "Disk" CDisk (sp_Disk_init K (⟨CChip, CDisk, CDesk, XBadSize, XNoPage, XNotErased, XNoSector, XBadContent, XCut, XNoDisk, XBadRow, XWear, SHP⟩ : Ad)) := ⟨_, _, _, ⟨mkDisk, a8, i8, kcDisk⟩, PySem.W.mg_of X G aCDisk, ok_Disk_init F8 B GG GD F.toFacL.toFacD D_Chip_size, b8⟩
  have D_Chip_need_block : DefM l.prog w K mg base 1 CChip "need_block" (sp_Chip_need_block K (⟨CChip, CDisk, CDesk, XBadSize, XNoPage, XNotErased, XNoSector, XBadContent, XCut, XNoDisk, XBadRow, XWear, SHP⟩ : Ad)) := ⟨_, _, _, ⟨a9, i9, k9⟩, ok_Chip_need_block F9 B GG F.toFacL.toFacD.toFac , b9⟩
  have D_Chip_need_page : DefM l.prog w K mg base 2 CChip "need_page" (sp_Chip_need_page K (⟨CChip, CDisk, CDesk, XBadSize, XNoPage, XNotErased, XNoSector, XBadContent, XCut, XNoDisk, XBadRow, XWear, SHP⟩ : Ad)) := ⟨_, _, _, ⟨a10, i10, k10⟩, ok_Chip_need_page F10 B GG F.toFacL.toFacD.toFac D_Chip_need_block, b10⟩
  have D_Chip_page : DefM l.prog w K mg base 3 CChip "page" (sp_Chip_page K (⟨CChip, CDisk, CDesk, XBadSize, XNoPage, XNotErased, XNoSector, XBadContent, XCut, XNoDisk, XBadRow, XWear, SHP⟩ : Ad)) := ⟨_, _, _, ⟨a11, i11, k11⟩, ok_Chip_page F11 B GG F.toFacL.toFacD.toFac D_Chip_need_page, b11⟩
  have D_Disk_row : DefM l.prog w K mg base 4 CDisk "row" (sp_Disk_row K (⟨CChip, CDisk, CDesk, XBadSize, XNoPage, XNotErased, XNoSector, XBadContent, XCut, XNoDisk, XBadRow, XWear, SHP⟩ : Ad)) := ⟨_, _, _, ⟨a12, i12, k12⟩, ok_Disk_row F12 B GG GD F.toFacL.toFacD D_Chip_page, b12⟩
  have D_is_whole : DefF l.prog w K mg base 1 "is_whole" (sp_is_whole K (⟨CChip, CDisk, CDesk, XBadSize, XNoPage, XNotErased, XNoSector, XBadContent, XCut, XNoDisk, XBadRow, XWear, SHP⟩ : Ad)) := ⟨_, _, _, PySem.W.mg_of X G a13, k13, ok_is_whole F13 B GG GD F.toFacL.toFacD , b13⟩
  have D_Disk_is_empty : DefM l.prog w K mg base 5 CDisk "is_empty" (sp_Disk_is_empty K (⟨CChip, CDisk, CDesk, XBadSize, XNoPage, XNotErased, XNoSector, XBadContent, XCut, XNoDisk, XBadRow, XWear, SHP⟩ : Ad)) := ⟨_, _, _, ⟨a14, i14, k14⟩, ok_Disk_is_empty F14 B GG GD F.toFacL.toFacD D_Disk_row D_is_whole, b14⟩
  have D_Chip_goes_well : DefM l.prog w K mg base 1 CChip "goes_well" (sp_Chip_goes_well K (⟨CChip, CDisk, CDesk, XBadSize, XNoPage, XNotErased, XNoSector, XBadContent, XCut, XNoDisk, XBadRow, XWear, SHP⟩ : Ad)) := ⟨_, _, _, ⟨a15, i15, k15⟩, ok_Chip_goes_well F15 B GG F.toFacL.toFacD.toFac , b15⟩
  have D_Chip_erase : DefM l.prog w K mg base 2 CChip "erase" (sp_Chip_erase K (⟨CChip, CDisk, CDesk, XBadSize, XNoPage, XNotErased, XNoSector, XBadContent, XCut, XNoDisk, XBadRow, XWear, SHP⟩ : Ad)) := ⟨_, _, _, ⟨a16, i16, k16⟩, ok_Chip_erase F16 B GG F.toFacL.toFacD.toFac D_Chip_need_block D_Chip_goes_well, b16⟩
  have D_Disk_greatest : DefM l.prog w K mg base 5 CDisk "greatest" (sp_Disk_greatest K (⟨CChip, CDisk, CDesk, XBadSize, XNoPage, XNotErased, XNoSector, XBadContent, XCut, XNoDisk, XBadRow, XWear, SHP⟩ : Ad)) := ⟨_, _, _, ⟨a17, i17, k17⟩, ok_Disk_greatest F17 B GG GD F.toFacL.toFacD D_Disk_row D_is_whole, b17⟩
  have D_Disk_tidy : DefM l.prog w K mg base 6 CDisk "tidy" (sp_Disk_tidy K (⟨CChip, CDisk, CDesk, XBadSize, XNoPage, XNotErased, XNoSector, XBadContent, XCut, XNoDisk, XBadRow, XWear, SHP⟩ : Ad)) := ⟨_, _, _, ⟨a18, i18, k18⟩, ok_Disk_tidy F18 B GG GD F.toFacL.toFacD D_Disk_is_empty D_Chip_erase D_Disk_greatest D_Disk_row, b18⟩
  have D_Disk_load : DefM l.prog w K mg base 7 CDisk "load" (sp_Disk_load K (⟨CChip, CDisk, CDesk, XBadSize, XNoPage, XNotErased, XNoSector, XBadContent, XCut, XNoDisk, XBadRow, XWear, SHP⟩ : Ad)) := ⟨_, _, _, ⟨a19, i19, k19⟩, ok_Disk_load F19 B GG GD F.toFacL.toFacD D_Disk_tidy D_Disk_row D_is_whole D_Disk_greatest, b19⟩
  have D_mounted : DefF l.prog w K mg base 8 "mounted" (sp_mounted K (⟨CChip, CDisk, CDesk, XBadSize, XNoPage, XNotErased, XNoSector, XBadContent, XCut, XNoDisk, XBadRow, XWear, SHP⟩ : Ad)) := ⟨_, _, _, PySem.W.mg_of X G a20, k20, ok_mounted F20 B GG GD F.toFacL.toFacD D_Disk_init D_Disk_load, b20⟩
  have D_Disk_need_sector : DefM l.prog w K mg base 1 CDisk "need_sector" (sp_Disk_need_sector K (⟨CChip, CDisk, CDesk, XBadSize, XNoPage, XNotErased, XNoSector, XBadContent, XCut, XNoDisk, XBadRow, XWear, SHP⟩ : Ad)) := ⟨_, _, _, ⟨a21, i21, k21⟩, ok_Disk_need_sector F21 B GG GD F.toFacL.toFacD , b21⟩
  have D_Disk_read : DefM l.prog w K mg base 2 CDisk "read" (sp_Disk_read K (⟨CChip, CDisk, CDesk, XBadSize, XNoPage, XNotErased, XNoSector, XBadContent, XCut, XNoDisk, XBadRow, XWear, SHP⟩ : Ad)) := ⟨_, _, _, ⟨a22, i22, k22⟩, ok_Disk_read F22 B GG GD F.toFacL.toFacD D_Disk_need_sector, b22⟩
  have D_Chip_write : DefM l.prog w K mg base 3 CChip "write" (sp_Chip_write K (⟨CChip, CDisk, CDesk, XBadSize, XNoPage, XNotErased, XNoSector, XBadContent, XCut, XNoDisk, XBadRow, XWear, SHP⟩ : Ad)) := ⟨_, _, _, ⟨a23, i23, k23⟩, ok_Chip_write F23 B GG F.toFacL.toFacD.toFac D_Chip_need_page D_Chip_goes_well, b23⟩
  have D_Disk_put : DefM l.prog w K mg base 4 CDisk "put" (sp_Disk_put K (⟨CChip, CDisk, CDesk, XBadSize, XNoPage, XNotErased, XNoSector, XBadContent, XCut, XNoDisk, XBadRow, XWear, SHP⟩ : Ad)) := ⟨_, _, _, ⟨a24, i24, k24⟩, ok_Disk_put F24 B GG GD F.toFacL.toFacD D_Chip_write, b24⟩
  have D_Disk_clean : DefM l.prog w K mg base 5 CDisk "clean" (sp_Disk_clean K (⟨CChip, CDisk, CDesk, XBadSize, XNoPage, XNotErased, XNoSector, XBadContent, XCut, XNoDisk, XBadRow, XWear, SHP⟩ : Ad)) := ⟨_, _, _, ⟨a25, i25, k25⟩, ok_Disk_clean F25 B GG GD F.toFacL.toFacD D_Disk_row D_is_whole D_Disk_put D_Chip_erase, b25⟩
  have D_Disk_advance : DefM l.prog w K mg base 6 CDisk "advance" (sp_Disk_advance K (⟨CChip, CDisk, CDesk, XBadSize, XNoPage, XNotErased, XNoSector, XBadContent, XCut, XNoDisk, XBadRow, XWear, SHP⟩ : Ad)) := ⟨_, _, _, ⟨a26, i26, k26⟩, ok_Disk_advance F26 B GG GD F.toFacL.toFacD D_Disk_is_empty D_Disk_clean, b26⟩
  have D_Disk_write : DefM l.prog w K mg base 7 CDisk "write" (sp_Disk_write K (⟨CChip, CDisk, CDesk, XBadSize, XNoPage, XNotErased, XNoSector, XBadContent, XCut, XNoDisk, XBadRow, XWear, SHP⟩ : Ad)) := ⟨_, _, _, ⟨a27, i27, k27⟩, ok_Disk_write F27 B GG GD F.toFacL.toFacD D_Disk_need_sector D_Disk_advance D_Disk_put, b27⟩
  have D_Desk_at_disk : DefM l.prog w K mg base 8 CDesk "at_disk" (sp_Desk_at_disk K (⟨CChip, CDisk, CDesk, XBadSize, XNoPage, XNotErased, XNoSector, XBadContent, XCut, XNoDisk, XBadRow, XWear, SHP⟩ : Ad)) := ⟨_, _, _, ⟨a28, i28, k28⟩, ok_Desk_at_disk F28 B GG GD F D_Disk_read D_Disk_write, b28⟩
  have D_Chip_power : DefM l.prog w K mg base 1 CChip "power" (sp_Chip_power K (⟨CChip, CDisk, CDesk, XBadSize, XNoPage, XNotErased, XNoSector, XBadContent, XCut, XNoDisk, XBadRow, XWear, SHP⟩ : Ad)) := ⟨_, _, _, ⟨a29, i29, k29⟩, ok_Chip_power F29 B GG F.toFacL.toFacD.toFac , b29⟩
  have D_Chip_worn : DefM l.prog w K mg base 2 CChip "worn" (sp_Chip_worn K (⟨CChip, CDisk, CDesk, XBadSize, XNoPage, XNotErased, XNoSector, XBadContent, XCut, XNoDisk, XBadRow, XWear, SHP⟩ : Ad)) := ⟨_, _, _, ⟨a30, i30, k30⟩, ok_Chip_worn F30 B GG F.toFacL.toFacD.toFac D_Chip_need_block, b30⟩
  have D_Chip_written : DefM l.prog w K mg base 1 CChip "written" (sp_Chip_written K (⟨CChip, CDisk, CDesk, XBadSize, XNoPage, XNotErased, XNoSector, XBadContent, XCut, XNoDisk, XBadRow, XWear, SHP⟩ : Ad)) := ⟨_, _, _, ⟨a31, i31, k31⟩, ok_Chip_written F31 B GG F.toFacL.toFacD.toFac , b31⟩
  have D_Desk_at_chip : DefM l.prog w K mg base 9 CDesk "at_chip" (sp_Desk_at_chip K (⟨CChip, CDisk, CDesk, XBadSize, XNoPage, XNotErased, XNoSector, XBadContent, XCut, XNoDisk, XBadRow, XWear, SHP⟩ : Ad)) := ⟨_, _, _, ⟨a32, i32, k32⟩, ok_Desk_at_chip F32 B GG GD F D_Chip_power D_mounted D_Chip_worn D_Chip_written D_Chip_page, b32⟩
  have D_Desk_answer : DefM l.prog w K mg base 10 CDesk "answer" (sp_Desk_answer K (⟨CChip, CDisk, CDesk, XBadSize, XNoPage, XNotErased, XNoSector, XBadContent, XCut, XNoDisk, XBadRow, XWear, SHP⟩ : Ad)) := ⟨_, _, _, ⟨a33, i33, k33⟩, ok_Desk_answer F33 B GG GD F D_words_of D_Chip_init D_mounted D_Desk_at_disk D_Desk_at_chip, b33⟩
  have D_class_of : DefE l.prog w K mg base 1 "class_of" "error" (spw_class_of K (⟨CChip, CDisk, CDesk, XBadSize, XNoPage, XNotErased, XNoSector, XBadContent, XCut, XNoDisk, XBadRow, XWear, SHP⟩ : Ad)) := ⟨_, _, PySem.W.mg_of X G a34, k34, ok_class_of F34 B GG, b34⟩
  have D_play : DefF l.prog w K mg base 11 "play" (sp_play K (⟨CChip, CDisk, CDesk, XBadSize, XNoPage, XNotErased, XNoSector, XBadContent, XCut, XNoDisk, XBadRow, XWear, SHP⟩ : Ad)) := ⟨_, _, _, PySem.W.mg_of X G a35, k35, ok_play F35 B GG GW GD F D_Desk_init D_Desk_answer D_class_of, b35⟩
  have D_l_read : DefF l.prog w K mg base 1 "_law_read" (sp_l_read K (⟨CChip, CDisk, CDesk, XBadSize, XNoPage, XNotErased, XNoSector, XBadContent, XCut, XNoDisk, XBadRow, XWear, SHP⟩ : Ad)) := ⟨_, _, _, PySem.W.mg_of X G a36, k36, ok_l_read F36 B GG GD F , b36⟩
  have D_l_walked : DefF l.prog w K mg base 2 "_law_walked" (sp_l_walked K (⟨CChip, CDisk, CDesk, XBadSize, XNoPage, XNotErased, XNoSector, XBadContent, XCut, XNoDisk, XBadRow, XWear, SHP⟩ : Ad)) := ⟨_, _, _, PySem.W.mg_of X G a37, k37, ok_l_walked F37 B GG GD F D_l_read, b37⟩
  exact ok_law (A := (⟨CChip, CDisk, CDesk, XBadSize, XNoPage, XNotErased, XNoSector, XBadContent, XCut, XNoDisk, XBadRow, XWear, SHP⟩ : Ad)) F38 B GG GD F D_l_drawn D_l_cell D_l_lines D_play D_l_walked
theorem walk {l : PySem.W.OpenLaw} {q : Program} {loose : List Str} {XP : (Str → Option Value) → Heap → Prop} {YP : World → Heap → Prop} {d : DefRec} {K : Params → PySem.W.Frag} (hn : l.most = some 63) (hdf : d.params.defaults = [])
    (hY : ∀ (w : World) (h : Heap), YP w h → (K w.params).In h)
    (F : ∀ (w : World) (mg : Str → Option Value) (fa : Addr) (h : Heap), (K w.params).In h → h.Ns mainGlobals mg → mg d.name = some (.ref fa) →
      ∃ fd : FuncData, (∀ (s : Shared) (u : Value), BindsTo s fd ⟨[u], []⟩ [("_law_script", u)]) ∧ ∀ base : Heap, (K w.params).In base → base.Ns mainGlobals mg → FnOk l.prog w (K w.params) mg base CX0 12 fa fd ["_law_script"] (sp_law (K w.params) A0)) :
    PySem.W.WalkO q loose XP YP l.row.toRowW d [] (fun f vs => PySem.call f vs) :=
  L2.walk_of (n := 63) (k := 12) (x := "_law_script") (CX := fun _ => CX0) (sp := fun w => sp_law (K w.params) A0) hn (by decide) hdf ⟨rfl, by decide, by decide⟩ hY F (fun _ _ a ns hl _ hS => ⟨a, ns, rfl, hS, hl, fun _ => rfl⟩) fun _ _ _ _ _ z => z
end Ew

open PySem PySem.W PyProof.Rows in
set_option maxRecDepth 100000 in
set_option maxHeartbeats 0 in
theorem PySem.Challenge.cw_evenwear_k18_whole_desk_holds : PySem.Challenge.rw_evenwear_k18_whole_desk.Holds := by
  w_on; o_law; k_head; (case hw => w_witness2)
  k_fill
  refine Ew.walk (l := PySem.Challenge.rw_evenwear_k18_whole_desk) rfl rfl (fun w h Y => PySem.W.kIn_of Y) ?F
  case F =>
    intro w mg fa h KX G hmg
    refine' Ew.all_mk KX G hmg ?aCChip ?aCDisk ?aCDesk ?aXBadSize ?aXNoPage ?aXNotErased ?aXNoSector ?aXBadContent ?aXCut ?aXNoDisk ?aXBadRow ?a0 ?l0 ?c0 ?k0 ?a1 ?l1 ?c1 ?k1 ?a2 ?l2 ?c2 ?k2 ?a3 ?i3 ?l3 ?c3 ?k3 ?a4 ?l4 ?c4 ?k4 ?a5 ?l5 ?c5 ?k5 ?a6 ?i6 ?l6 ?c6 ?k6 ?a7 ?i7 ?l7 ?c7 ?k7 ?a8 ?i8 ?l8 ?c8 ?k8 ?a9 ?i9 ?l9 ?c9 ?k9 ?a10 ?i10 ?l10 ?c10 ?k10 ?a11 ?i11 ?l11 ?c11 ?k11 ?a12 ?i12 ?l12 ?c12 ?k12 ?a13 ?l13 ?c13 ?k13 ?a14 ?i14 ?l14 ?c14 ?k14 ?a15 ?i15 ?l15 ?c15 ?k15 ?a16 ?i16 ?l16 ?c16 ?k16 ?a17 ?i17 ?l17 ?c17 ?k17 ?a18 ?i18 ?l18 ?c18 ?k18 ?a19 ?i19 ?l19 ?c19 ?k19 ?a20 ?l20 ?c20 ?k20 ?a21 ?i21 ?l21 ?c21 ?k21 ?a22 ?i22 ?l22 ?c22 ?k22 ?a23 ?i23 ?l23 ?c23 ?k23 ?a24 ?i24 ?l24 ?c24 ?k24 ?a25 ?i25 ?l25 ?c25 ?k25 ?a26 ?i26 ?l26 ?c26 ?k26 ?a27 ?i27 ?l27 ?c27 ?k27 ?a28 ?i28 ?l28 ?c28 ?k28 ?a29 ?i29 ?l29 ?c29 ?k29 ?a30 ?i30 ?l30 ?c30 ?k30 ?a31 ?i31 ?l31 ?c31 ?k31 ?a32 ?i32 ?l32 ?c32 ?k32 ?a33 ?i33 ?l33 ?c33 ?k33 ?a34 ?l34 ?c34 ?k34 ?a35 ?l35 ?c35 ?k35 ?a36 ?l36 ?c36 ?k36 ?a37 ?l37 ?c37 ?k37 ?a38 ?l38 ?c38 ?k38 ?pgChip ?hdChip ?poChip ?saChip ?mkChip ?kcChip ?pgDisk ?hdDisk ?poDisk ?saDisk ?mkDisk ?kcDisk ?pgDesk ?hdDesk ?poDesk ?saDesk ?mkDesk ?kcDesk ?xXBadSize ?kXBadSize ?bXBadSize ?tXBadSize ?xXNoPage ?kXNoPage ?bXNoPage ?tXNoPage ?xXNotErased ?kXNotErased ?bXNotErased ?tXNotErased ?xXNoSector ?kXNoSector ?bXNoSector ?tXNoSector ?xXBadContent ?kXBadContent ?bXBadContent ?tXBadContent ?xXCut ?kXCut ?bXCut ?tXCut ?xXNoDisk ?kXNoDisk ?bXNoDisk ?tXNoDisk ?xXBadRow ?kXBadRow ?bXBadRow ?tXBadRow ?nChip_rows ?nChip_wears ?nChip_many ?nChip_left ?nChip_is_cut ?nDisk_chip ?nDisk_many ?nDisk_blocks ?nDisk_pages ?nDisk_places ?nDisk_stamp ?nDisk_head ?nDisk_at ?nDesk_chip ?nDesk_disk ?nDesk_many ?gLEAST_BLOCKS ?gMOST_BLOCKS ?gLEAST_PAGES ?gMOST_PAGES ?gTORN ?gMOST_FIGURES ?gFIGURES ?gMOST_CONTENT ?zrange ?zlen ?zmax ?zmin ?zsum ?zany ?zall ?zenumerate ?zint ?zstr ?zlist ?zdict ?zisinstance ?aXWear ?bXWear ?icWear ?tXWear ?ihn ?iht ?wBadSize_BadRow ?wBadSize_BadSize ?wBadSize_NoPage ?wBadSize_NoSector ?wBadSize_BadContent ?wBadSize_Cut ?ehgBadSize ?ehkBadSize ?ehdBadSize ?ehaBadSize ?ehmBadSize ?swBadSize ?wNoPage_BadRow ?wNoPage_BadSize ?wNoPage_NoPage ?wNoPage_NoSector ?wNoPage_BadContent ?wNoPage_Cut ?ehgNoPage ?ehkNoPage ?ehdNoPage ?ehaNoPage ?ehmNoPage ?swNoPage ?wNoSector_BadRow ?wNoSector_BadSize ?wNoSector_NoPage ?wNoSector_NoSector ?wNoSector_BadContent ?wNoSector_Cut ?ehgNoSector ?ehkNoSector ?ehdNoSector ?ehaNoSector ?ehmNoSector ?swNoSector ?wBadContent_BadRow ?wBadContent_BadSize ?wBadContent_NoPage ?wBadContent_NoSector ?wBadContent_BadContent ?wBadContent_Cut ?ehgBadContent ?ehkBadContent ?ehdBadContent ?ehaBadContent ?ehmBadContent ?swBadContent ?wCut_BadRow ?wCut_BadSize ?wCut_NoPage ?wCut_NoSector ?wCut_BadContent ?wCut_Cut ?ehgCut ?ehkCut ?ehdCut ?ehaCut ?ehmCut ?swCut ?wNoDisk_BadRow ?wNoDisk_BadSize ?wNoDisk_NoPage ?wNoDisk_NoSector ?wNoDisk_BadContent ?wNoDisk_Cut ?ehgNoDisk ?ehkNoDisk ?ehdNoDisk ?ehaNoDisk ?ehmNoDisk ?swNoDisk ?wBadRow_BadRow ?wBadRow_BadSize ?wBadRow_NoPage ?wBadRow_NoSector ?wBadRow_BadContent ?wBadRow_Cut ?ehgBadRow ?ehkBadRow ?ehdBadRow ?ehaBadRow ?ehmBadRow ?swBadRow ?icCut ?scCut ?aSHP ?lSHP ?kSHP ?dSHP ?sh0 ?sh1 ?sh2 ?sh3 ?sh4 ?sh5 ?sh6 ?sh7 ?sh8 ?sh9 ?sh10 ?sh11 ?snsCut
    (case aCChip => k_is)
    (case aCDisk => k_is)
    (case aCDesk => k_is)
    (case aXBadSize => k_is)
    (case aXNoPage => k_is)
    (case aXNotErased => k_is)
    (case aXNoSector => k_is)
    (case aXBadContent => k_is)
    (case aXCut => k_is)
    (case aXNoDisk => k_is)
    (case aXBadRow => k_is)
    (case a0 => k_is)
    (case l0 => k_is)
    (case c0 => k_is)
    (case k0 => k_is)
    (case a1 => k_is)
    (case l1 => k_is)
    (case c1 => k_is)
    (case k1 => k_is)
    (case a2 => k_is)
    (case l2 => k_is)
    (case c2 => k_is)
    (case k2 => k_is)
    (case a3 => k_is)
    (case i3 => k_is)
    (case l3 => k_is)
    (case c3 => k_is)
    (case k3 => k_is)
    (case a4 => k_is)
    (case l4 => k_is)
    (case c4 => k_is)
    (case k4 => k_is)
    (case a5 => k_is)
    (case l5 => k_is)
    (case c5 => k_is)
    (case k5 => k_is)
    (case a6 => k_is)
    (case i6 => k_is)
    (case l6 => k_is)
    (case c6 => k_is)
    (case k6 => k_is)
    (case a7 => k_is)
    (case i7 => k_is)
    (case l7 => k_is)
    (case c7 => k_is)
    (case k7 => k_is)
    (case a8 => k_is)
    (case i8 => k_is)
    (case l8 => k_is)
    (case c8 => k_is)
    (case k8 => k_is)
    (case a9 => k_is)
    (case i9 => k_is)
    (case l9 => k_is)
    (case c9 => k_is)
    (case k9 => k_is)
    (case a10 => k_is)
    (case i10 => k_is)
    (case l10 => k_is)
    (case c10 => k_is)
    (case k10 => k_is)
    (case a11 => k_is)
    (case i11 => k_is)
    (case l11 => k_is)
    (case c11 => k_is)
    (case k11 => k_is)
    (case a12 => k_is)
    (case i12 => k_is)
    (case l12 => k_is)
    (case c12 => k_is)
    (case k12 => k_is)
    (case a13 => k_is)
    (case l13 => k_is)
    (case c13 => k_is)
    (case k13 => k_is)
    (case a14 => k_is)
    (case i14 => k_is)
    (case l14 => k_is)
    (case c14 => k_is)
    (case k14 => k_is)
    (case a15 => k_is)
    (case i15 => k_is)
    (case l15 => k_is)
    (case c15 => k_is)
    (case k15 => k_is)
    (case a16 => k_is)
    (case i16 => k_is)
    (case l16 => k_is)
    (case c16 => k_is)
    (case k16 => k_is)
    (case a17 => k_is)
    (case i17 => k_is)
    (case l17 => k_is)
    (case c17 => k_is)
    (case k17 => k_is)
    (case a18 => k_is)
    (case i18 => k_is)
    (case l18 => k_is)
    (case c18 => k_is)
    (case k18 => k_is)
    (case a19 => k_is)
    (case i19 => k_is)
    (case l19 => k_is)
    (case c19 => k_is)
    (case k19 => k_is)
    (case a20 => k_is)
    (case l20 => k_is)
    (case c20 => k_is)
    (case k20 => k_is)
    (case a21 => k_is)
    (case i21 => k_is)
    (case l21 => k_is)
    (case c21 => k_is)
    (case k21 => k_is)
    (case a22 => k_is)
    (case i22 => k_is)
    (case l22 => k_is)
    (case c22 => k_is)
    (case k22 => k_is)
    (case a23 => k_is)
    (case i23 => k_is)
    (case l23 => k_is)
    (case c23 => k_is)
    (case k23 => k_is)
    (case a24 => k_is)
    (case i24 => k_is)
    (case l24 => k_is)
    (case c24 => k_is)
    (case k24 => k_is)
    (case a25 => k_is)
    (case i25 => k_is)
    (case l25 => k_is)
    (case c25 => k_is)
    (case k25 => k_is)
    (case a26 => k_is)
    (case i26 => k_is)
    (case l26 => k_is)
    (case c26 => k_is)
    (case k26 => k_is)
    (case a27 => k_is)
    (case i27 => k_is)
    (case l27 => k_is)
    (case c27 => k_is)
    (case k27 => k_is)
    (case a28 => k_is)
    (case i28 => k_is)
    (case l28 => k_is)
    (case c28 => k_is)
    (case k28 => k_is)
    (case a29 => k_is)
    (case i29 => k_is)
    (case l29 => k_is)
    (case c29 => k_is)
    (case k29 => k_is)
    (case a30 => k_is)
    (case i30 => k_is)
    (case l30 => k_is)
    (case c30 => k_is)
    (case k30 => k_is)
    (case a31 => k_is)
    (case i31 => k_is)
    (case l31 => k_is)
    (case c31 => k_is)
    (case k31 => k_is)
    (case a32 => k_is)
    (case i32 => k_is)
    (case l32 => k_is)
    (case c32 => k_is)
    (case k32 => k_is)
    (case a33 => k_is)
    (case i33 => k_is)
    (case l33 => k_is)
    (case c33 => k_is)
    (case k33 => k_is)
    (case a34 => k_is)
    (case l34 => k_is)
    (case c34 => k_is)
    (case k34 => k_is)
    (case a35 => k_is)
    (case l35 => k_is)
    (case c35 => k_is)
    (case k35 => k_is)
    (case a36 => k_is)
    (case l36 => k_is)
    (case c36 => k_is)
    (case k36 => k_is)
    (case a37 => k_is)
    (case l37 => k_is)
    (case c37 => k_is)
    (case k37 => k_is)
    (case a38 => k_is)
    (case l38 => k_is)
    (case c38 => k_is)
    (case k38 => k_is)
    (case pgChip => k_is)
    (case hdChip => k_is)
    (case poChip => k_is)
    (case saChip => k_is)
    (case mkChip => k_is)
    (case kcChip => k_is)
    (case pgDisk => k_is)
    (case hdDisk => k_is)
    (case poDisk => k_is)
    (case saDisk => k_is)
    (case mkDisk => k_is)
    (case kcDisk => k_is)
    (case pgDesk => k_is)
    (case hdDesk => k_is)
    (case poDesk => k_is)
    (case saDesk => k_is)
    (case mkDesk => k_is)
    (case kcDesk => k_is)
    (case xXBadSize => k_exc)
    (case kXBadSize => k_is)
    (case bXBadSize => k_is)
    (case tXBadSize => k_is)
    (case xXNoPage => k_exc)
    (case kXNoPage => k_is)
    (case bXNoPage => k_is)
    (case tXNoPage => k_is)
    (case xXNotErased => k_exc)
    (case kXNotErased => k_is)
    (case bXNotErased => k_is)
    (case tXNotErased => k_is)
    (case xXNoSector => k_exc)
    (case kXNoSector => k_is)
    (case bXNoSector => k_is)
    (case tXNoSector => k_is)
    (case xXBadContent => k_exc)
    (case kXBadContent => k_is)
    (case bXBadContent => k_is)
    (case tXBadContent => k_is)
    (case xXCut => k_exc)
    (case kXCut => k_is)
    (case bXCut => k_is)
    (case tXCut => k_is)
    (case xXNoDisk => k_exc)
    (case kXNoDisk => k_is)
    (case bXNoDisk => k_is)
    (case tXNoDisk => k_is)
    (case xXBadRow => k_exc)
    (case kXBadRow => k_is)
    (case bXBadRow => k_is)
    (case tXBadRow => k_is)
    (case nChip_rows => k_is)
    (case nChip_wears => k_is)
    (case nChip_many => k_is)
    (case nChip_left => k_is)
    (case nChip_is_cut => k_is)
    (case nDisk_chip => k_is)
    (case nDisk_many => k_is)
    (case nDisk_blocks => k_is)
    (case nDisk_pages => k_is)
    (case nDisk_places => k_is)
    (case nDisk_stamp => k_is)
    (case nDisk_head => k_is)
    (case nDisk_at => k_is)
    (case nDesk_chip => k_is)
    (case nDesk_disk => k_is)
    (case nDesk_many => k_is)
    (case gLEAST_BLOCKS => k_is)
    (case gMOST_BLOCKS => k_is)
    (case gLEAST_PAGES => k_is)
    (case gMOST_PAGES => k_is)
    (case gTORN => k_is)
    (case gMOST_FIGURES => k_is)
    (case gFIGURES => k_is)
    (case gMOST_CONTENT => k_is)
    (case zrange => k_is)
    (case zlen => k_is)
    (case zmax => k_is)
    (case zmin => k_is)
    (case zsum => k_is)
    (case zany => k_is)
    (case zall => k_is)
    (case zenumerate => k_is)
    (case zint => k_is)
    (case zstr => k_is)
    (case zlist => k_is)
    (case zdict => k_is)
    (case zisinstance => k_is)
    (case aXWear => k_is)
    (case bXWear => k_is)
    (case icWear => k_is)
    (case tXWear => k_is)
    (case ihn => k_is)
    (case iht => k_is)
    (case wBadSize_BadRow => kit_is)
    (case wBadSize_BadSize => kit_is)
    (case wBadSize_NoPage => kit_is)
    (case wBadSize_NoSector => kit_is)
    (case wBadSize_BadContent => kit_is)
    (case wBadSize_Cut => kit_is)
    (case ehgBadSize => k_is)
    (case ehkBadSize => k_is)
    (case ehdBadSize => k_is)
    (case ehaBadSize => k_is)
    (case ehmBadSize => k_is)
    (case swBadSize => k_is)
    (case wNoPage_BadRow => kit_is)
    (case wNoPage_BadSize => kit_is)
    (case wNoPage_NoPage => kit_is)
    (case wNoPage_NoSector => kit_is)
    (case wNoPage_BadContent => kit_is)
    (case wNoPage_Cut => kit_is)
    (case ehgNoPage => k_is)
    (case ehkNoPage => k_is)
    (case ehdNoPage => k_is)
    (case ehaNoPage => k_is)
    (case ehmNoPage => k_is)
    (case swNoPage => k_is)
    (case wNoSector_BadRow => kit_is)
    (case wNoSector_BadSize => kit_is)
    (case wNoSector_NoPage => kit_is)
    (case wNoSector_NoSector => kit_is)
    (case wNoSector_BadContent => kit_is)
    (case wNoSector_Cut => kit_is)
    (case ehgNoSector => k_is)
    (case ehkNoSector => k_is)
    (case ehdNoSector => k_is)
    (case ehaNoSector => k_is)
    (case ehmNoSector => k_is)
    (case swNoSector => k_is)
    (case wBadContent_BadRow => kit_is)
    (case wBadContent_BadSize => kit_is)
    (case wBadContent_NoPage => kit_is)
    (case wBadContent_NoSector => kit_is)
    (case wBadContent_BadContent => kit_is)
    (case wBadContent_Cut => kit_is)
    (case ehgBadContent => k_is)
    (case ehkBadContent => k_is)
    (case ehdBadContent => k_is)
    (case ehaBadContent => k_is)
    (case ehmBadContent => k_is)
    (case swBadContent => k_is)
    (case wCut_BadRow => kit_is)
    (case wCut_BadSize => kit_is)
    (case wCut_NoPage => kit_is)
    (case wCut_NoSector => kit_is)
    (case wCut_BadContent => kit_is)
    (case wCut_Cut => kit_is)
    (case ehgCut => k_is)
    (case ehkCut => k_is)
    (case ehdCut => k_is)
    (case ehaCut => k_is)
    (case ehmCut => k_is)
    (case swCut => k_is)
    (case wNoDisk_BadRow => kit_is)
    (case wNoDisk_BadSize => kit_is)
    (case wNoDisk_NoPage => kit_is)
    (case wNoDisk_NoSector => kit_is)
    (case wNoDisk_BadContent => kit_is)
    (case wNoDisk_Cut => kit_is)
    (case ehgNoDisk => k_is)
    (case ehkNoDisk => k_is)
    (case ehdNoDisk => k_is)
    (case ehaNoDisk => k_is)
    (case ehmNoDisk => k_is)
    (case swNoDisk => k_is)
    (case wBadRow_BadRow => kit_is)
    (case wBadRow_BadSize => kit_is)
    (case wBadRow_NoPage => kit_is)
    (case wBadRow_NoSector => kit_is)
    (case wBadRow_BadContent => kit_is)
    (case wBadRow_Cut => kit_is)
    (case ehgBadRow => k_is)
    (case ehkBadRow => k_is)
    (case ehdBadRow => k_is)
    (case ehaBadRow => k_is)
    (case ehmBadRow => k_is)
    (case swBadRow => k_is)
    (case icCut => k_is)
    (case scCut => first | rfl | k_is)
    (case aSHP => k_is)
    (case lSHP => k_is)
    (case kSHP => exact ⟨⟨_, _, rfl, rfl⟩, ⟨_, _, rfl, rfl⟩, ⟨_, _, rfl, rfl⟩, ⟨_, _, rfl, rfl⟩, ⟨_, _, rfl, rfl⟩, ⟨_, _, rfl, rfl⟩, ⟨_, _, rfl, rfl⟩, ⟨_, _, rfl, rfl⟩, trivial⟩)
    (case dSHP => decide)
    (case sh0 => k_is)
    (case sh1 => k_is)
    (case sh2 => k_is)
    (case sh3 => k_is)
    (case sh4 => k_is)
    (case sh5 => k_is)
    (case sh6 => k_is)
    (case sh7 => k_is)
    (case sh8 => k_is)
    (case sh9 => k_is)
    (case sh10 => k_is)
    (case sh11 => k_is)
    (case snsCut => first | rfl | k_is)
#print axioms PySem.Challenge.cw_evenwear_k18_whole_desk_holds
