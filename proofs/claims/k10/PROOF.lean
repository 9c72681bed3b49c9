import PyProof.Rows.All
import Wide.All
import OpenK.AllK
import Wide.FinOn
import HandS.ForMost
import HandS.Exc
import HandS.TryOnly
import HandS.ExcOwn
import HandS.WordsExc
import HandS.Deep
import HandS.Wide
import HandS.Conv
import HandS.ExcCtx
import HandS.HotCalls
import HandS.ExcIs
import HandS.SuiteRaise
import HandS.More
import PySem.Challenge.RW_evenwear_k10_chip
set_option Elab.async false
set_option linter.all false
set_option maxRecDepth 100000
set_option maxHeartbeats 4000000
namespace Ew
open PySem PySem.Spec PyProof.Rows L2
abbrev zAdd : R2 := rI0 fun i j => .int (i + j)
abbrev zSub : R2 := rI0 fun i j => .int (i - j)
abbrev zMul : R2 := rI CMul fun i j => .int (i * j)
abbrev zMulW : R2 := rI CMulW fun i j => .int (i * j)
abbrev zDiv : R2 := rI CDiv fun i j => .int (i / j)
abbrev zDivW : R2 := rI CDivW fun i j => .int (i / j)
abbrev zMod : R2 := rI (fun _ j => 0 < j) fun i j => .int (i % j)
abbrev zPow : R2 := rI CPow fun i j => .int (i ^ j.toNat)
abbrev zLt : R2 := rI0 fun i j => .bl (decide (i < j))
abbrev zLe : R2 := rI0 fun i j => .bl (decide (i ≤ j))
abbrev zGt : R2 := rI0 fun i j => .bl (decide (j < i))
abbrev zGe : R2 := rI0 fun i j => .bl (decide (j ≤ i))
abbrev zIsN : R2 := fun x y H Q => y = .non ∧ Q (.bl (decide (x = .non))) H
abbrev zNotN : R2 := fun x y H Q => y = .non ∧ Q (.bl (!decide (x = .non))) H
abbrev zAddS : R2 := fun x y H Q => ∃ i j, x = .str i ∧ y = .str j ∧ i.length + j.length ≤ sizeLine ∧ Q (.str (i ++ j)) H
abbrev zMax2 : List V → Hp → VK → Prop := fun xs H Q => ∃ i j, xs = [.int i, .int j] ∧ Q (.int (if j > i then j else i)) H
abbrev zMin2 : List V → Hp → VK → Prop := fun xs H Q => ∃ i j, xs = [.int i, .int j] ∧ Q (.int (if j < i then j else i)) H
abbrev zLen (K : PySem.W.Frag) : List V → Hp → VK → Prop := fun xs H Q => ∃ p ys, xs = [.ref p] ∧ (SqL K H p ys ∨ SqT K H p ys) ∧ Q (.int ys.length) H
abbrev zLenS : List V → Hp → VK → Prop := fun xs H Q => ∃ z, xs = [.str z] ∧ z.length ≤ sizeLine ∧ Q (.int z.length) H
abbrev zInt1 : List V → Hp → VK → Prop := fun xs H Q => (∃ i, xs = [.int i] ∧ Q (.int i) H) ∨ ∃ k, xs = [.bl k] ∧ Q (.int (if k then 1 else 0)) H
abbrev zStrI : List V → Hp → VK → Prop := fun xs H Q => ∃ i, xs = [.int i] ∧ i.natAbs.log2 < 1920 ∧ Q (.str (toString i)) H
abbrev zList (K : PySem.W.Frag) : List V → Hp → VK → Prop := fun xs H Q => ∃ p ys, xs = [.ref p] ∧ (SqL K H p ys ∨ SqT K H p ys) ∧ ∀ l, H l = none → Q (.ref l) (upd H l (.lst ys))

structure DefM (P : Program) (w : World) (K : PySem.W.Frag) (mg : Str → Option Value) (base : Heap) (k : Nat) (C : Addr) (m : Str) (sp : Sp) : Prop where
  ex : ∃ (f : Addr) (fd : FuncData) (ps : List Str), Meth K C m f ∧ FnOk P w K mg base (L2N.CX P w) k f fd ps sp ∧ Binds K fd ps []
structure DefF (P : Program) (w : World) (K : PySem.W.Frag) (mg : Str → Option Value) (base : Heap) (k : Nat) (x : Str) (sp : Sp) : Prop where
  ex : ∃ (f : Addr) (fd : FuncData) (ps : List Str), mg x = some (.ref f) ∧ PySem.W.keepIn K (.ref f) = true ∧ FnOk P w K mg base (L2N.CX P w) k f fd ps sp ∧ Binds K fd ps []
structure DefC (P : Program) (w : World) (K : PySem.W.Frag) (mg : Str → Option Value) (base : Heap) (k : Nat) (x : Str) (C : Addr) (sp : Sp) : Prop where
  ex : ∃ (f : Addr) (fd : FuncData) (ps : List Str), Mk K C f ∧ mg x = some (.ref C) ∧ FnOk P w K mg base (L2N.CX P w) k f fd ps sp ∧ Binds K fd ps []
section
variable {X : Cx} {k j : Nat} {C : Addr} {x m : Str} {sp : Sp} {E : XK} {ES : L2.St → XK} {p pos apos : Pos} {e o : Expr} {es : List Expr} {ta : TE} {t : TA}
theorem pm {pl : Sem Bool} (D : DefM X.prog X.w X.K X.mg X.base k C m sp) (c : Cls X.K C) (hr : Room j X.A) (hk : k ≤ j) (hx : Passes (L2N.CX X.prog X.w) X E) (he : PE X o ta) (ha : PA X (e :: es) t)
    (hst : starEach (e :: es) X.env = (false, eval e X.env) :: starEach es X.env := by rfl) (hpl : (backTo pos (starEach es X.env)).any (·.1) = false := by rfl)
    (ht : eval (.Call (.Attribute o m apos) (e :: es) [] pos) X.env = (do
      let ov ← eval o X.env
      standAt apos.atName
      let (f, first) ← holding [ov] (getMethod ov m pl)
      callWith pos f first (backTo pos (starEach (e :: es) X.env)) (backToKw pos (keywordEach [] X.env))) := by rfl) :
    PE X (.Call (.Attribute o m apos) (e :: es) [] pos) (tMeth C m sp [] E ta t) := by
  obtain ⟨f, fd, ps, hm, F, hb⟩ := D.ex
  exact pe_meth he c hm F (hr.mono hk) hb .nil hx ha hst hpl ht
theorem pm0 {pl : Sem Bool} (D : DefM X.prog X.w X.K X.mg X.base k C m sp) (c : Cls X.K C) (hr : Room j X.A) (hk : k ≤ j) (hx : Passes (L2N.CX X.prog X.w) X E) (he : PE X o ta)
    (ht : eval (.Call (.Attribute o m apos) [] [] pos) X.env = (do
      let ov ← eval o X.env
      standAt apos.atName
      let (f, first) ← holding [ov] (getMethod ov m pl)
      callWith pos f first (backTo pos (starEach [] X.env)) (backToKw pos (keywordEach [] X.env))) := by rfl) :
    PE X (.Call (.Attribute o m apos) [] [] pos) (tMeth C m sp [] E ta tNil) := by
  obtain ⟨f, fd, ps, hm, F, hb⟩ := D.ex
  exact pe_meth0 he c hm F (hr.mono hk) hb .nil hx ht
theorem pf (D : DefF X.prog X.w X.K X.mg X.base k x sp) (hr : Room j X.A) (hk : k ≤ j) (hx : Passes (L2N.CX X.prog X.w) X E) (hg : Gl X x) (ha : PA X (e :: es) t)
    (hdb : (x == ("__debug__" : Str)) = false := by decide) (he : starEach (e :: es) X.env = (false, eval e X.env) :: starEach es X.env := by rfl) (hpl : (backTo pos (starEach es X.env)).any (·.1) = false := by rfl) :
    PE X (.Call (.Name x p) (e :: es) [] pos) (tCall sp [] E t) := by
  obtain ⟨f, fd, ps, hm, kp, F, hb⟩ := D.ex
  exact pe_call F (hr.mono hk) hg hm kp hb .nil hx ha hdb he hpl
theorem pf0 (D : DefF X.prog X.w X.K X.mg X.base k x sp) (hr : Room j X.A) (hk : k ≤ j) (hx : Passes (L2N.CX X.prog X.w) X E) (hg : Gl X x) (hdb : (x == ("__debug__" : Str)) = false := by decide) :
    PE X (.Call (.Name x p) [] [] pos) (tCall sp [] E tNil) := by
  obtain ⟨f, fd, ps, hm, kp, F, hb⟩ := D.ex
  exact pe_call0 F (hr.mono hk) hg hm kp hb .nil hx hdb
theorem pc (D : DefC X.prog X.w X.K X.mg X.base k x C sp) (hr : Room j X.A) (hk : k + 1 ≤ j) (hx : Passes (L2N.CX X.prog X.w) X E) (hg : Gl X x) (ha : PA X (e :: es) t)
    (hdb : (x == ("__debug__" : Str)) = false := by decide) (he : starEach (e :: es) X.env = (false, eval e X.env) :: starEach es X.env := by rfl) (hpl : (backTo pos (starEach es X.env)).any (·.1) = false := by rfl) :
    PE X (.Call (.Name x p) (e :: es) [] pos) (tMake C sp [] E t) := by
  obtain ⟨f, fd, ps, M, hm, F, hb⟩ := D.ex
  exact pe_make M F (hr.mono hk) hg hm hb .nil hx ha hdb he hpl
theorem pc0 (D : DefC X.prog X.w X.K X.mg X.base k x C sp) (hr : Room j X.A) (hk : k + 1 ≤ j) (hx : Passes (L2N.CX X.prog X.w) X E) (hg : Gl X x) (hdb : (x == ("__debug__" : Str)) = false := by decide) :
    PE X (.Call (.Name x p) [] [] pos) (tMake C sp [] E tNil) := by
  obtain ⟨f, fd, ps, M, hm, F, hb⟩ := D.ex
  exact pe_make0 M F (hr.mono hk) hg hm hb .nil hx hdb
theorem pfS (D : DefF X.prog X.w X.K X.mg X.base k x sp) (hr : Room j X.A) (hk : k ≤ j) (hx : ∀ σ, PassesAt (L2N.CX X.prog X.w) X σ (ES σ)) (hg : Gl X x) (ha : PA X (e :: es) t)
    (hdb : (x == ("__debug__" : Str)) = false := by decide) (he : starEach (e :: es) X.env = (false, eval e X.env) :: starEach es X.env := by rfl) (hpl : (backTo pos (starEach es X.env)).any (·.1) = false := by rfl) :
    PE X (.Call (.Name x p) (e :: es) [] pos) (tCallS sp ES t) := by
  obtain ⟨f, fd, ps, hm, kp, F, hb⟩ := D.ex
  exact pe_callS F (hr.mono hk) hg hm kp hb hx ha hdb he hpl
def tMethS (C : Addr) (m : Str) (sp : Sp) (E : L2.St → XK) (ta : TE) (t : TA) : TE := fun σ H Q => ta σ H fun x H1 => ∃ a dx fs, x = .ref a ∧ H1 a = some (.ins C dx fs) ∧ fs.lookup m = none ∧ t σ H1 fun vs H2 => sp (x :: vs) H2 Q (E σ)
theorem pmS {pl : Sem Bool} (D : DefM X.prog X.w X.K X.mg X.base k C m sp) (c : Cls X.K C) (hr : Room j X.A) (hk : k ≤ j) (hx : ∀ σ, PassesAt (L2N.CX X.prog X.w) X σ (ES σ)) (he : PE X o ta) (ha : PA X (e :: es) t)
    (hst : starEach (e :: es) X.env = (false, eval e X.env) :: starEach es X.env := by rfl) (hpl : (backTo pos (starEach es X.env)).any (·.1) = false := by rfl)
    (ht : eval (.Call (.Attribute o m apos) (e :: es) [] pos) X.env = (do
      let ov ← eval o X.env
      standAt apos.atName
      let (f, first) ← holding [ov] (getMethod ov m pl)
      callWith pos f first (backTo pos (starEach (e :: es) X.env)) (backToKw pos (keywordEach [] X.env))) := by rfl) :
    PE X (.Call (.Attribute o m apos) (e :: es) [] pos) (tMethS C m sp ES ta t) := by
  obtain ⟨f, fd, ps, hm, F, hb⟩ := D.ex
  refine ⟨fun pins s σ H Q I h => ?_⟩
  refine PySem.W.methodCall_KW (pl := pl) (thn (he.run pins s σ H _ I h) fun u s1 ⟨x, H1, I1, rx, a, dx, fs, ex, ea, l, q⟩ => ?_) ht
  subst ex
  obtain rfl : u = Value.ref a := rx
  refine getmeth_ok I1 ea c hm l ?_
  refine PySem.W.callWith_K (first := [.ref a]) (h₀ := X.base) I.ok.mod.kin hm.kp (thn (ha.run pos pins s1 σ H1 _ I1 q) fun us s2 ⟨vs, H2, I2, r, q2⟩ => ⟨I2.kIn, ?_⟩) hst hpl
  exact run_fnS (us := .ref a :: us) (vs := .ref a :: vs) F (hr.mono hk) hb (hx σ) I2 (.cons rfl r) q2
theorem pe_gint {i : Int} (h : ∃ t, X.mg x = some (.int i t)) (hg : Gl X x) (hd : (x == ("__debug__" : Str)) = false := by decide) : PE X (.Name x pos) (tC (.int i)) := by
  obtain ⟨t, h⟩ := h
  exact pe_glob hg h ⟨_, rfl⟩ hd
theorem pe_gstr {z : Str} (h : ∃ t, X.mg x = some (.str z t)) (hg : Gl X x) (hd : (x == ("__debug__" : Str)) = false := by decide) : PE X (.Name x pos) (tC (.str z)) := by
  obtain ⟨t, h⟩ := h
  exact pe_glob hg h ⟨_, rfl⟩ hd
end
structure ExcT (K : PySem.W.Frag) (mg : Str → Option Value) (x : Str) (C : Addr) : Prop where
  ex : PySem.W.excIn K C [.type "ValueError", .type "Exception", .type "BaseException", .type "object"] "ValueError.__new__" = true
  g : mg x = some (.ref C)
  kp : PySem.W.keepIn K (.ref C) = true
  sb : PySem.W.subIn K (.ref C) (.type "BaseException") = some true
  ty : PySem.W.typeIn K (.ref C) = some (.type "type")
def tRaise (C : Addr) (E : XK) : TS := fun _ _ H => E (.ref C) none H
theorem pr_raise {X : Cx} {E : XK} {x m : Str} {C : Addr} {j : Nat} {p p2 pos pos' : Pos} (T : ExcT X.K X.mg x C) (hc : X.calm = true) (tk : L2N.Takes X (fun cls d _ H => E cls d H)) (hg : Gl X x)
    (hdb : (x == ("__debug__" : Str)) = false := by decide) : PS X (.Raise (some (.Call (.Name x p) [.Constant (.str m) j p2] [] pos)) none pos') (tRaise C E) :=
  L2N.ps_raise hc tk (L2N.pmk_own PySem.F.excBase_ValueError T.ex T.g T.kp (raises_own T.sb T.ty) hg hdb)
theorem passLN {X : Cx} : Passes (L2N.CX X.prog X.w) X E0 := fun _ _ _ _ _ _ _ h => by
  obtain ⟨_, _, _, _, _, _, _, _, _, _, _, _, z⟩ := h
  exact z.elim
theorem Fun.okN {P : Program} {w : World} {K : PySem.W.Frag} {mg : Str → Option Value} {base : Heap} {x qual : Str} {st : Stmt} {f : Addr} {fd : FuncData} {N ps : List Str} {k : Nat} {sp : Sp} (F : Fun K x qual st f fd) (S : FnScope N ps (defScope st)) (len : ∀ vs H Q E, sp vs H Q E → vs.length = ps.length)
    (hbody : ∀ (cdv : Value) (A : Around) (outer : List Env) (s : Shared) (H : Hp) (vs : List V) (Q : VK) (E : XK), Room k (A.deeper (envOfC qual (defScope st) s.heap.objs.size f cdv)) → sp vs H Q E →
      ∃ t, PSs (cxOf (L2N.CX P w) P w K mg base N qual (defScope st) f cdv A outer s H E) (defBody st) t ∧ t { nx := fun _ H' => Q .non H', rt := Q } (start N vs) H) : FnOk P w K mg base (L2N.CX P w) (k + 1) f fd ps sp := by
  obtain ⟨oc, od, kV, doc, pm, an, cdv, ct, osl, rfl, lk, hcd⟩ := F.ex
  exact fn_of lk hcd S len fun A outer s H vs Q E hr hsp => hbody cdv A outer s H vs Q E hr hsp

def OkD (k : Nat) (d : PyData) : Prop := d.canLay0 = true ∧ d.depth ≤ k
theorem OkD.mono {j k : Nat} {d : PyData} (h : OkD j d) (hk : j ≤ k) : OkD k d := ⟨h.1, Nat.le_trans h.2 hk⟩
theorem OkD.non : OkD 0 .none := ⟨by simp [PyData.canLay0], by simp [PyData.depth]⟩
theorem OkD.bl {b : Bool} : OkD 0 (.bool b) := ⟨by simp [PyData.canLay0], by simp [PyData.depth]⟩
theorem OkD.int {i : Int} : OkD 0 (.int i) := ⟨by simp [PyData.canLay0], by simp [PyData.depth]⟩
theorem OkD.str {x : Str} (h : PyData.strOk x = true) : OkD 0 (.str x) := ⟨by simp [PyData.canLay0, h], by simp [PyData.depth]⟩
theorem okAll {k : Nat} : ∀ {ds : List PyData}, (∀ d ∈ ds, OkD k d) → PyData.canLayAll0 ds = true ∧ PyData.depthAll ds ≤ k
  | [], _ => by simp [PyData.canLayAll0, PyData.depthAll]
  | d :: ds, h => by
    have h1 := h d List.mem_cons_self
    have h2 := okAll fun x hx => h x (List.mem_cons_of_mem _ hx)
    have a1 := h1.2
    have a2 := h2.2
    simp only [PyData.canLayAll0, PyData.depthAll, h1.1, h2.1, Bool.and_self, true_and]
    omega
theorem OkD.list {k : Nat} {ds : List PyData} (h : ∀ d ∈ ds, OkD k d) : OkD (k + 1) (.list ds) := by
  obtain ⟨h1, h2⟩ := okAll h
  refine ⟨by simp only [PyData.canLay0]; exact h1, ?_⟩
  simp only [PyData.depth]
  omega
theorem OkD.tup {k : Nat} {ds : List PyData} (h : ∀ d ∈ ds, OkD k d) : OkD (k + 1) (.tuple ds) := by
  obtain ⟨h1, h2⟩ := okAll h
  refine ⟨by simp only [PyData.canLay0]; exact h1, ?_⟩
  simp only [PyData.depth]
  omega
theorem OkD.sh {k : Nat} {d : PyData} (h : OkD k d) (hk : k ≤ 64 := by decide) : SeqAt.shaped d = true := by
  show (d.canLay0 && decide (d.depth ≤ 64)) = true
  rw [Bool.and_eq_true]
  exact ⟨h.1, decide_eq_true (Nat.le_trans h.2 hk)⟩
theorem OkD.ints {ns : List Int} : ∀ d ∈ ns.map PyData.int, OkD 0 d := fun d hd => by
  obtain ⟨i, _, rfl⟩ := List.mem_map.mp hd
  exact OkD.int
theorem OkD.tupI {ns : List Int} : OkD 1 (.tuple (ns.map PyData.int)) := OkD.tup OkD.ints
theorem OkD.listI {ns : List Int} : OkD 1 (.list (ns.map PyData.int)) := OkD.list OkD.ints
theorem strOk_torn : PyData.strOk "torn" = true := by decide +kernel
mutual
def plainD : PyData → Bool
  | .none | .int _ | .str _ => true
  | .bool _ => false
  | .list xs | .tuple xs => plainDs xs
  | .dict _ => false
def plainDs : List PyData → Bool
  | [] => true
  | x :: xs => plainD x && plainDs xs
end
mutual
theorem eqv_true : ∀ (d e : PyData), plainD d = true → plainD e = true → PyData.eqv d e = true → d = e
  | .none, e, _, he, h => by cases e <;> simp [PyData.eqv, plainD] at h he ⊢
  | .int i, e, _, he, h => by cases e <;> simp_all [PyData.eqv, plainD]
  | .str i, e, _, he, h => by cases e <;> simp_all [PyData.eqv, plainD]
  | .bool b, e, hd, _, _ => by simp [plainD] at hd
  | .dict b, e, hd, _, _ => by simp [plainD] at hd
  | .list xs, e, hd, he, h => by
    cases e with
    | list ys =>
      simp only [PyData.eqv] at h
      simp only [plainD] at hd he
      rw [eqvAll_true xs ys hd he h]
    | _ => simp [PyData.eqv] at h
  | .tuple xs, e, hd, he, h => by
    cases e with
    | tuple ys =>
      simp only [PyData.eqv] at h
      simp only [plainD] at hd he
      rw [eqvAll_true xs ys hd he h]
    | _ => simp [PyData.eqv] at h
theorem eqvAll_true : ∀ (xs ys : List PyData), plainDs xs = true → plainDs ys = true → PyData.eqvAll xs ys = true → xs = ys
  | [], [], _, _, _ => rfl
  | [], y :: ys, _, _, h => by simp [PyData.eqvAll] at h
  | x :: xs, [], _, _, h => by simp [PyData.eqvAll] at h
  | x :: xs, y :: ys, hx, hy, h => by
    simp only [plainDs, Bool.and_eq_true] at hx hy
    simp only [PyData.eqvAll, Bool.and_eq_true] at h
    rw [eqv_true x y hx.1 hy.1 h.1, eqvAll_true xs ys hx.2 hy.2 h.2]
end
mutual
theorem eqv_self : ∀ d : PyData, plainD d = true → PyData.eqv d d = true
  | .none, _ => rfl
  | .int i, _ => by simp [PyData.eqv]
  | .str x, _ => by simp [PyData.eqv]
  | .bool b, h => by simp [plainD] at h
  | .dict b, h => by simp [plainD] at h
  | .list xs, h => by
    simp only [plainD] at h
    rw [PyData.eqv]; exact eqvAll_self xs h
  | .tuple xs, h => by
    simp only [plainD] at h
    rw [PyData.eqv]; exact eqvAll_self xs h
theorem eqvAll_self : ∀ xs : List PyData, plainDs xs = true → PyData.eqvAll xs xs = true
  | [], _ => rfl
  | x :: xs, h => by
    simp only [plainDs, Bool.and_eq_true] at h
    rw [PyData.eqvAll, eqv_self x h.1, eqvAll_self xs h.2]; rfl
end
theorem eqv_iff {d e : PyData} (hd : plainD d = true) (he : plainD e = true) : PyData.eqv d e = true ↔ d = e :=
  ⟨eqv_true d e hd he, fun h => by rw [← h]; exact eqv_self d hd⟩
theorem plainDs_ints : ∀ ns : List Int, plainDs (ns.map PyData.int) = true
  | [] => rfl
  | n :: ns => by
    show (plainD (.int n) && plainDs (ns.map PyData.int)) = true
    rw [plainDs_ints ns]; rfl
theorem dpAll_ints {K : PySem.W.Frag} {H : Hp} : ∀ ns : List Int, DpAll K H (ns.map V.int) (ns.map PyData.int)
  | [] => .nil
  | n :: ns => .cons (.int n) (dpAll_ints ns)
theorem map_int_inj : ∀ {ns ms : List Int}, ns.map PyData.int = ms.map PyData.int → ns = ms
  | [], [], _ => rfl
  | [], m :: ms, h => by cases h
  | n :: ns, [], h => by cases h
  | n :: ns, m :: ms, h => by
    have h1 : PyData.int n = PyData.int m := (List.cons.inj h).1
    have h2 := map_int_inj (List.cons.inj h).2
    injection h1 with h1
    rw [h1, h2]
theorem eqv_lists (ns ms : List Int) : PyData.eqv (.list (ns.map PyData.int)) (.list (ms.map PyData.int)) = decide (ns = ms) := by
  rw [Bool.eq_iff_iff, eqv_iff (by simp only [plainD]; exact plainDs_ints ns) (by simp only [plainD]; exact plainDs_ints ms), decide_eq_true_iff]
  refine ⟨fun h => ?_, fun h => by rw [h]⟩
  injection h with h
  exact map_int_inj h
theorem eqv_tups (ns ms : List Int) : PyData.eqv (.tuple (ns.map PyData.int)) (.tuple (ms.map PyData.int)) = decide (ns = ms) := by
  rw [Bool.eq_iff_iff, eqv_iff (by simp only [plainD]; exact plainDs_ints ns) (by simp only [plainD]; exact plainDs_ints ms), decide_eq_true_iff]
  refine ⟨fun h => ?_, fun h => by rw [h]⟩
  injection h with h
  exact map_int_inj h

theorem units65 {k : Nat} {A : Around} (hr : Room k A) : A.units + 65 < cLine := by have := hr.un; omega
structure Ad where
  chip : Addr
  disk : Addr
  desk : Addr
  badsize : Addr
  nopage : Addr
  noterased : Addr
  nosector : Addr
  badcontent : Addr
  cut : Addr
  nodisk : Addr
  badrow : Addr
  wear : Addr
structure Blt (mg : Str → Option Value) : Prop where
  range : mg "range" = none
  len : mg "len" = none
  max : mg "max" = none
  min : mg "min" = none
  sum : mg "sum" = none
  any : mg "any" = none
  all : mg "all" = none
  enumerate : mg "enumerate" = none
  int : mg "int" = none
  str : mg "str" = none
  list : mg "list" = none
  dict : mg "dict" = none
  isinstance : mg "isinstance" = none
structure Glo (K : PySem.W.Frag) (mg : Str → Option Value) (A : Ad) : Prop where
  g_LEAST_BLOCKS : ∃ t, mg "LEAST_BLOCKS" = some (.int 4 t)
  g_MOST_BLOCKS : ∃ t, mg "MOST_BLOCKS" = some (.int 32 t)
  g_LEAST_PAGES : ∃ t, mg "LEAST_PAGES" = some (.int 2 t)
  g_MOST_PAGES : ∃ t, mg "MOST_PAGES" = some (.int 16 t)
  g_TORN : ∃ t, mg "TORN" = some (.str "torn" t)
  x_BadSize : ExcT K mg "BadSize" A.badsize
  x_NoPage : ExcT K mg "NoPage" A.nopage
  x_NotErased : ExcT K mg "NotErased" A.noterased
  x_NoSector : ExcT K mg "NoSector" A.nosector
  x_BadContent : ExcT K mg "BadContent" A.badcontent
  x_Cut : ExcT K mg "Cut" A.cut
structure GloD (K : PySem.W.Frag) (mg : Str → Option Value) (A : Ad) : Prop where
  g_MOST_CONTENT : ∃ t, mg "MOST_CONTENT" = some (.int 999999999999 t)
structure Fac (K : PySem.W.Frag) (A : Ad) : Prop where
  cl_Chip : Cls K A.chip
  n_rows : NoAttr K A.chip "rows"
  n_wears : NoAttr K A.chip "wears"
  n_many : NoAttr K A.chip "many"
  n_left : NoAttr K A.chip "left"
  n_is_cut : NoAttr K A.chip "is_cut"

structure Fr (F : Addr → Prop) (H H' : Hp) : Prop where
  keep : ∀ b o, H b = some o → ¬ F b → H' b = some o
  tup : ∀ b xs, H b = some (.tup xs) → H' b = some (.tup xs)
  live : ∀ b, H' b = none → H b = none
theorem Fr.refl {F : Addr → Prop} {H : Hp} : Fr F H H := ⟨fun _ _ h _ => h, fun _ _ h => h, fun _ h => h⟩
theorem Fr.of_same {F : Addr → Prop} {H H' : Hp} (h : Same H H') : Fr F H H' := ⟨fun b o e _ => h b o e, fun b xs e => h b _ e, fun b e => h.free e⟩
theorem Fr.same {H H' : Hp} (h : Fr (fun _ => False) H H') : Same H H' := fun b o e => h.keep b o e id
theorem Fr.trans {F G : Addr → Prop} {H H1 H2 : Hp} (a : Fr F H H1) (b : Fr G H1 H2) (hs : ∀ x, G x → F x ∨ H x = none) : Fr F H H2 where
  keep := fun x o e n => b.keep x o (a.keep x o e n) fun g => by
    rcases hs x g with q | q
    · exact n q
    · rw [e] at q; cases q
  tup := fun x xs e => b.tup x xs (a.tup x xs e)
  live := fun x e => a.live x (b.live x e)
theorem Fr.mono {F G : Addr → Prop} {H H1 : Hp} (a : Fr F H H1) (hs : ∀ x, F x → G x ∨ H x = none) : Fr G H H1 := by
  have z : Fr G H H := .refl
  exact z.trans a hs
theorem Fr.new {F : Addr → Prop} {H : Hp} {p : Addr} {o : HO} (h : H p = none) : Fr F H (upd H p o) where
  keep := fun b u e _ => by rw [upd_ne (ne_of_none e h)]; exact e
  tup := fun b xs e => by rw [upd_ne (ne_of_none e h)]; exact e
  live := fun b e => by
    by_cases q : b = p
    · subst q; exact h
    · rw [upd_ne q] at e; exact e
theorem Fr.put {F : Addr → Prop} {H : Hp} {p : Addr} {o u : HO} (h : H p = some u) (f : F p) (nt : ∀ xs, u ≠ .tup xs) : Fr F H (upd H p o) where
  keep := fun b v e n => by rw [upd_ne (fun q => n (by rw [q]; exact f))]; exact e
  tup := fun b xs e => by
    rw [upd_ne (fun q => by rw [q, h] at e; exact nt xs (Option.some.inj e))]
    exact e
  live := fun b e => by
    by_cases q : b = p
    · subst q; rw [upd_same] at e; cases e
    · rw [upd_ne q] at e; exact e
theorem Same.new {H : Hp} {p : Addr} {o : HO} (h : H p = none) : Same H (upd H p o) := fun b u e => by rw [upd_ne (ne_of_none e h)]; exact e

structure CS where
  rows : List (List V)
  wears : List Int
  many : Int
  left : Option Int
  cut : Bool
  m : Nat
structure CD where
  p : Addr
  dx : Addr
  L : Addr
  W : Addr
  rs : List Addr
def cfp (d : CD) (b : Addr) : Prop := b = d.p ∨ b = d.L ∨ b = d.W ∨ b ∈ d.rs
def leftV : Option Int → V
  | none => .non
  | some n => .int n
def chipF (L W : Addr) (many : Int) (left : V) (cut : Bool) : List (Str × V) := [("rows", .ref L), ("wears", .ref W), ("many", .int many), ("left", left), ("is_cut", .bl cut)]
section
variable {L W : Addr} {many : Int} {left : V} {cut : Bool}
theorem chipF_rows : (chipF L W many left cut).lookup ("rows" : Str) = some (.ref L) := by simp [chipF, List.lookup]
theorem beq_no {a b : Str} (h : ¬ a = b) : (a == b) = false := beq_eq_false_iff_ne.mpr h
theorem n_wr : ("wears" : Str) ≠ "rows" := by decide +kernel
theorem n_mr : ("many" : Str) ≠ "rows" := by decide +kernel
theorem n_lr : ("left" : Str) ≠ "rows" := by decide +kernel
theorem n_cr : ("is_cut" : Str) ≠ "rows" := by decide +kernel
theorem n_mw : ("many" : Str) ≠ "wears" := by decide +kernel
theorem n_lw : ("left" : Str) ≠ "wears" := by decide +kernel
theorem n_cw : ("is_cut" : Str) ≠ "wears" := by decide +kernel
theorem n_lm : ("left" : Str) ≠ "many" := by decide +kernel
theorem n_cm : ("is_cut" : Str) ≠ "many" := by decide +kernel
theorem n_cl : ("is_cut" : Str) ≠ "left" := by decide +kernel
theorem chipF_wears : (chipF L W many left cut).lookup ("wears" : Str) = some (.ref W) := by simp [chipF, List.lookup, beq_no n_wr]
theorem chipF_many : (chipF L W many left cut).lookup ("many" : Str) = some (.int many) := by simp [chipF, List.lookup, beq_no n_mr, beq_no n_mw]
theorem chipF_left : (chipF L W many left cut).lookup ("left" : Str) = some left := by simp [chipF, List.lookup, beq_no n_lr, beq_no n_lw, beq_no n_lm]
theorem chipF_cut : (chipF L W many left cut).lookup ("is_cut" : Str) = some (.bl cut) := by simp [chipF, List.lookup, beq_no n_cr, beq_no n_cw, beq_no n_cm, beq_no n_cl]
theorem chipF_no {m : Str} (h1 : ¬ m = "rows") (h2 : ¬ m = "wears") (h3 : ¬ m = "many") (h4 : ¬ m = "left") (h5 : ¬ m = "is_cut") : (chipF L W many left cut).lookup m = none := by
  simp [chipF, List.lookup, beq_no h1, beq_no h2, beq_no h3, beq_no h4, beq_no h5]
theorem chipF_len : (chipF L W many left cut).length < 1000 := by show 5 < 1000; decide
theorem chipF_pr {L' : Addr} : putF "rows" (.ref L') (chipF L W many left cut) = chipF L' W many left cut := by simp [putF, chipF]
theorem chipF_pw {W' : Addr} : putF "wears" (.ref W') (chipF L W many left cut) = chipF L W' many left cut := by simp [putF, chipF, Ne.symm n_wr]
theorem chipF_pm {n : Int} : putF "many" (.int n) (chipF L W many left cut) = chipF L W n left cut := by simp [putF, chipF, Ne.symm n_mr, Ne.symm n_mw]
theorem chipF_pl {v : V} : putF "left" v (chipF L W many left cut) = chipF L W many v cut := by simp [putF, chipF, Ne.symm n_lr, Ne.symm n_lw, Ne.symm n_lm]
theorem chipF_pc {b : Bool} : putF "is_cut" (.bl b) (chipF L W many left cut) = chipF L W many left b := by simp [putF, chipF, Ne.symm n_cr, Ne.symm n_cw, Ne.symm n_cm, Ne.symm n_cl]
end
structure ChipAt (A : Ad) (H : Hp) (d : CD) (c : CS) : Prop where
  ob : H d.p = some (.ins A.chip d.dx (chipF d.L d.W c.many (leftV c.left) c.cut))
  rows : H d.L = some (.lst (d.rs.map V.ref))
  wears : H d.W = some (.lst (c.wears.map V.int))
  len : d.rs.length = c.rows.length
  row : ∀ (i : Nat) (a : Addr), d.rs[i]? = some a → ∃ xs, c.rows[i]? = some xs ∧ H a = some (.lst xs)
  wlen : c.wears.length = c.rows.length
  pgs : ∀ xs ∈ c.rows, xs.length = c.m
  nd : (d.L :: d.W :: d.rs).Nodup
  lo : 4 ≤ c.rows.length
  hi : c.rows.length ≤ 32
  mlo : 2 ≤ c.m
  mhi : c.m ≤ 16

def inB (c : CS) (b : Int) : Prop := 0 ≤ b ∧ b < c.rows.length
instance {c : CS} {b : Int} : Decidable (inB c b) := inferInstanceAs (Decidable (_ ∧ _))
def inP (c : CS) (b p : Int) : Prop := inB c b ∧ 0 ≤ p ∧ p < c.m
instance {c : CS} {b p : Int} : Decidable (inP c b p) := inferInstanceAs (Decidable (_ ∧ _))
def CS.row (c : CS) (b : Int) : List V := c.rows.getD b.toNat []
def CS.at (c : CS) (b p : Int) : V := (c.row b).getD p.toNat .non
def CS.gw (c : CS) : CS × Bool := match c.left with
  | none => (c, true)
  | some n => ({ c with left := some (n - 1), cut := decide (n ≤ 0) }, !decide (n ≤ 0))
inductive Out where
  | ok | nopage | noterased | cut
  deriving DecidableEq
def Out.fin (A : Ad) (o : Out) (v : V) (Q : VK) (E : XK) (H : Hp) : Prop := match o with
  | .ok => Q v H
  | .nopage => E (.ref A.nopage) none H
  | .noterased => E (.ref A.noterased) none H
  | .cut => E (.ref A.cut) none H
def CS.isFree (c : CS) (b p : Int) : Bool := ((c.row b).drop p.toNat).all fun v => decide (v = .non)
def CS.write (c : CS) (b p : Int) (v : V) : CS × Out :=
  if ¬ inP c b p then (c, .nopage) else if c.isFree b p = false then (c, .noterased) else if c.cut = true then (c, .cut) else
    ({ c.gw.1 with many := c.many + 1, rows := c.rows.set b.toNat ((c.row b).set p.toNat (if c.gw.2 = true then v else .str "torn")) }, if c.gw.2 = true then .ok else .cut)
def CS.erase (c : CS) (b : Int) : CS × Out :=
  if ¬ inB c b then (c, .nopage) else if c.cut = true then (c, .cut) else
    ({ c.gw.1 with wears := c.wears.set b.toNat (c.wears.getD b.toNat 0 + 1), rows := c.rows.set b.toNat (List.replicate c.m (if c.gw.2 = true then .non else .str "torn")) }, if c.gw.2 = true then .ok else .cut)
def CS.new (b m : Int) : CS := ⟨List.replicate b.toNat (List.replicate m.toNat .non), List.replicate b.toNat 0, 0, none, false, m.toNat⟩
structure Chg (A : Ad) (H : Hp) (d : CD) (H' : Hp) (d' : CD) (c' : CS) : Prop where
  at_ : ChipAt A H' d' c'
  p : d'.p = d.p
  sub : ∀ b, cfp d' b → cfp d b ∨ H b = none
  fr : Fr (cfp d) H H'
def sizeOk (b m : Int) : Prop := 4 ≤ b ∧ b ≤ 32 ∧ 2 ≤ m ∧ m ≤ 16
instance {b m : Int} : Decidable (sizeOk b m) := inferInstanceAs (Decidable (_ ∧ _))
def sp_Chip_init (K : PySem.W.Frag) (A : Ad) : Sp := fun vs H Q E => ∃ (p dx : Addr) (b m : Int), vs = [.ref p, .int b, .int m] ∧ H p = some (.ins A.chip dx []) ∧
  (¬ sizeOk b m → E (.ref A.badsize) none H) ∧
  (sizeOk b m → ∀ d H', ChipAt A H' d (CS.new b m) → d.p = p → (∀ x, cfp d x → x = p ∨ H x = none) → Fr (fun x => x = p) H H' → Q .non H')
def sp_Chip_size (K : PySem.W.Frag) (A : Ad) : Sp := fun vs H Q E => ∃ d c, vs = [.ref d.p] ∧ ChipAt A H d c ∧ ∀ t, H t = none → Q (.ref t) (upd H t (.tup [.int c.rows.length, .int c.m]))
def sp_Chip_need_block (K : PySem.W.Frag) (A : Ad) : Sp := fun vs H Q E => ∃ d c b, vs = [.ref d.p, .int b] ∧ ChipAt A H d c ∧ (inB c b → Q .non H) ∧ (¬ inB c b → E (.ref A.nopage) none H)
def sp_Chip_need_page (K : PySem.W.Frag) (A : Ad) : Sp := fun vs H Q E => ∃ d c b p, vs = [.ref d.p, .int b, .int p] ∧ ChipAt A H d c ∧ (inP c b p → Q .non H) ∧ (¬ inP c b p → E (.ref A.nopage) none H)
def sp_Chip_page (K : PySem.W.Frag) (A : Ad) : Sp := fun vs H Q E => ∃ d c b p, vs = [.ref d.p, .int b, .int p] ∧ ChipAt A H d c ∧ (inP c b p → Q (c.at b p) H) ∧ (¬ inP c b p → E (.ref A.nopage) none H)
def sp_Chip_power (K : PySem.W.Frag) (A : Ad) : Sp := fun vs H Q E => ∃ d c l, vs = [.ref d.p, leftV l] ∧ ChipAt A H d c ∧ ∀ H', Chg A H d H' d { c with left := l, cut := false } → Q .non H'
def sp_Chip_goes_well (K : PySem.W.Frag) (A : Ad) : Sp := fun vs H Q E => ∃ d c, vs = [.ref d.p] ∧ ChipAt A H d c ∧ (c.cut = true → E (.ref A.cut) none H) ∧ (c.cut = false → ∀ H', Chg A H d H' d c.gw.1 → Q (.bl c.gw.2) H')
def sp_Chip_write (K : PySem.W.Frag) (A : Ad) : Sp := fun vs H Q E => ∃ d c b p v, vs = [.ref d.p, .int b, .int p, v] ∧ ChipAt A H d c ∧ ∀ d' H', Chg A H d H' d' (c.write b p v).1 → (c.write b p v).2.fin A .non Q E H'
def sp_Chip_erase (K : PySem.W.Frag) (A : Ad) : Sp := fun vs H Q E => ∃ d c b, vs = [.ref d.p, .int b] ∧ ChipAt A H d c ∧ ∀ d' H', Chg A H d H' d' (c.erase b).1 → (c.erase b).2.fin A .non Q E H'
def sp_Chip_worn (K : PySem.W.Frag) (A : Ad) : Sp := fun vs H Q E => ∃ d c b, vs = [.ref d.p, .int b] ∧ ChipAt A H d c ∧ (inB c b → Q (.int (c.wears.getD b.toNat 0)) H) ∧ (¬ inB c b → E (.ref A.nopage) none H)
def sp_Chip_written (K : PySem.W.Frag) (A : Ad) : Sp := fun vs H Q E => ∃ d c, vs = [.ref d.p] ∧ ChipAt A H d c ∧ Q (.int c.many) H
def sp_copied (K : PySem.W.Frag) (A : Ad) : Sp := fun vs H Q E => ∃ d c, vs = [.ref d.p] ∧ ChipAt A H d c ∧ ∀ d' H', ChipAt A H' d' { c with left := none, cut := false } → (∀ x, cfp d' x → H x = none) → Same H H' → Q (.ref d'.p) H'
def N_Chip_init : List Str := ["self", "blocks", "pages", "block"]
def t_Chip_init (K : PySem.W.Frag) (A : Ad) (E : XK) : TS :=
  (tSeq (tIfS (tOr (tNot (tTest (tChain zLe zLe (tC (.int 4)) (tVar 1) (tC (.int 32))))) (tNot (tTest (tChain zLe zLe (tC (.int 2)) (tVar 2) (tC (.int 16))))))
  (tRaise A.badsize E)
  tNext)
  (tSeq (sFld K (tVar 0) (tLc (iRng1 (tCons (tVar 1) tNil)) (gName 3) tYes (tOp rRep (tLst (tCons (tC .non) tNil)) (tVar 2)) [3]) "rows")
  (tSeq (sFld K (tVar 0) (tOp rRep (tLst (tCons (tC (.int 0)) tNil)) (tVar 1)) "wears")
  (tSeq (sFld K (tVar 0) (tC (.int 0)) "many")
  (tSeq (sFld K (tVar 0) (tC .non) "left")
  (sFld K (tVar 0) (tC (.bl false)) "is_cut"))))))

def N_Chip_size : List Str := ["self"]
def t_Chip_size (K : PySem.W.Frag) (A : Ad) (E : XK) : TS :=
  (tRet (tTup (tCons (tCB (zLen K) (tCons (tFld K (tVar 0) "rows") tNil)) (tCons (tCB (zLen K) (tCons (tOp (rIxL K) (tFld K (tVar 0) "rows") (tC (.int 0))) tNil)) tNil))))

def N_Chip_need_block : List Str := ["self", "block"]
def t_Chip_need_block (K : PySem.W.Frag) (A : Ad) (E : XK) : TS :=
  (tIfS (tNot (tTest (tChain zLe zLt (tC (.int 0)) (tVar 1) (tCB (zLen K) (tCons (tFld K (tVar 0) "rows") tNil)))))
  (tRaise A.nopage E)
  tNext)

def N_Chip_need_page : List Str := ["self", "block", "page"]
def t_Chip_need_page (K : PySem.W.Frag) (A : Ad) (E : XK) : TS :=
  (tSeq (tDrop (tMeth A.chip "need_block" (sp_Chip_need_block K A) [] E (tVar 0) (tCons (tVar 1) tNil)))
  (tIfS (tNot (tTest (tChain zLe zLt (tC (.int 0)) (tVar 2) (tCB (zLen K) (tCons (tOp (rIxL K) (tFld K (tVar 0) "rows") (tVar 1)) tNil)))))
  (tRaise A.nopage E)
  tNext))

def N_Chip_page : List Str := ["self", "block", "page"]
def t_Chip_page (K : PySem.W.Frag) (A : Ad) (E : XK) : TS :=
  (tSeq (tDrop (tMeth A.chip "need_page" (sp_Chip_need_page K A) [] E (tVar 0) (tCons (tVar 1) (tCons (tVar 2) tNil))))
  (tRet (tOp (rIxL K) (tOp (rIxL K) (tFld K (tVar 0) "rows") (tVar 1)) (tVar 2))))

def N_Chip_power : List Str := ["self", "many"]
def t_Chip_power (K : PySem.W.Frag) (A : Ad) (E : XK) : TS :=
  (tSeq (sFld K (tVar 0) (tVar 1) "left")
  (sFld K (tVar 0) (tC (.bl false)) "is_cut"))

def N_Chip_goes_well : List Str := ["self"]
def t_Chip_goes_well (K : PySem.W.Frag) (A : Ad) (E : XK) : TS :=
  (tSeq (tIfS (tB (tFld K (tVar 0) "is_cut"))
  (tRaise A.cut E)
  tNext)
  (tSeq (tIfS (tTest (tOp zIsN (tFld K (tVar 0) "left") (tC .non)))
  (tRet (tC (.bl true)))
  tNext)
  (tSeq (sFld K (tVar 0) (tOp zLe (tFld K (tVar 0) "left") (tC (.int 0))) "is_cut")
  (tSeq (sFld K (tVar 0) (tOp zSub (tFld K (tVar 0) "left") (tC (.int 1))) "left")
  (tRet (tNotV (tFld K (tVar 0) "is_cut")))))))

def N_Chip_write : List Str := ["self", "block", "page", "thing", "is_good", "one"]
def t_Chip_write (K : PySem.W.Frag) (A : Ad) (E : XK) : TS :=
  (tSeq (tDrop (tMeth A.chip "need_page" (sp_Chip_need_page K A) [] E (tVar 0) (tCons (tVar 1) (tCons (tVar 2) tNil))))
  (tSeq (tIfS (tNot (tB (tCB (rAll K) (tCons (tLc (iList K (tSl (rSlL K) (tOp (rIxL K) (tFld K (tVar 0) "rows") (tVar 1)) (tPart (tVar 2)) tNoPart)) (gName 5) tYes (tOp zIsN (tVar 5) (tC .non)) [5]) tNil))))
  (tRaise A.noterased E)
  tNext)
  (tSeq (tAsg (tMeth A.chip "goes_well" (sp_Chip_goes_well K A) [] E (tVar 0) tNil) (gName 4))
  (tSeq (sFld K (tVar 0) (tOp zAdd (tFld K (tVar 0) "many") (tC (.int 1))) "many")
  (tSeq (tAsg (tIf (tB (tVar 4)) (tVar 3) (tC (.str "torn"))) (gSub (tOp (rIxL K) (tFld K (tVar 0) "rows") (tVar 1)) (tVar 2) rSetL))
  (tIfS (tNot (tB (tVar 4)))
  (tRaise A.cut E)
  tNext))))))

def N_Chip_erase : List Str := ["self", "block", "is_good"]
def t_Chip_erase (K : PySem.W.Frag) (A : Ad) (E : XK) : TS :=
  (tSeq (tDrop (tMeth A.chip "need_block" (sp_Chip_need_block K A) [] E (tVar 0) (tCons (tVar 1) tNil)))
  (tSeq (tAsg (tMeth A.chip "goes_well" (sp_Chip_goes_well K A) [] E (tVar 0) tNil) (gName 2))
  (tSeq (tAsg (tOp zAdd (tOp (rIxL K) (tFld K (tVar 0) "wears") (tVar 1)) (tC (.int 1))) (gSub (tFld K (tVar 0) "wears") (tVar 1) rSetL))
  (tSeq (tAsg (tOp rRep (tLst (tCons (tIf (tB (tVar 2)) (tC .non) (tC (.str "torn"))) tNil)) (tCB (zLen K) (tCons (tOp (rIxL K) (tFld K (tVar 0) "rows") (tVar 1)) tNil))) (gSub (tFld K (tVar 0) "rows") (tVar 1) rSetL))
  (tIfS (tNot (tB (tVar 2)))
  (tRaise A.cut E)
  tNext)))))

def N_Chip_worn : List Str := ["self", "block"]
def t_Chip_worn (K : PySem.W.Frag) (A : Ad) (E : XK) : TS :=
  (tSeq (tDrop (tMeth A.chip "need_block" (sp_Chip_need_block K A) [] E (tVar 0) (tCons (tVar 1) tNil)))
  (tRet (tOp (rIxL K) (tFld K (tVar 0) "wears") (tVar 1))))

def N_Chip_written : List Str := ["self"]
def t_Chip_written (K : PySem.W.Frag) (A : Ad) (E : XK) : TS :=
  (tRet (tFld K (tVar 0) "many"))

def N_copied : List Str := ["chip", "blocks", "pages", "found", "row"]
def t_copied (K : PySem.W.Frag) (A : Ad) (E : XK) : TS :=
  (tSeq (tAsg (tMeth A.chip "size" (sp_Chip_size K A) [] E0 (tVar 0) tNil) (gTup K 2 (gCons (gName 1) (gCons (gName 2) gNil))))
  (tSeq (tAsg (tMake A.chip (sp_Chip_init K A) [] E (tCons (tVar 1) (tCons (tVar 2) tNil))) (gName 3))
  (tSeq (sFld K (tVar 3) (tLc (iList K (tFld K (tVar 0) "rows")) (gName 4) tYes (tCB (zList K) (tCons (tVar 4) tNil)) [4]) "rows")
  (tSeq (sFld K (tVar 3) (tCB (zList K) (tCons (tFld K (tVar 0) "wears") tNil)) "wears")
  (tSeq (sFld K (tVar 3) (tFld K (tVar 0) "many") "many")
  (tRet (tVar 3)))))))

section
variable {K : PySem.W.Frag} {A : Ad} {vs : List V} {H : Hp} {Q : VK} {E : XK}
theorem len_Chip_size (h : sp_Chip_size K A vs H Q E) : vs.length = 1 := by obtain ⟨d, c, rfl, _⟩ := h; rfl
theorem len_Chip_need_block (h : sp_Chip_need_block K A vs H Q E) : vs.length = 2 := by obtain ⟨d, c, b, rfl, _⟩ := h; rfl
theorem len_Chip_need_page (h : sp_Chip_need_page K A vs H Q E) : vs.length = 3 := by obtain ⟨d, c, b, p, rfl, _⟩ := h; rfl
theorem len_Chip_page (h : sp_Chip_page K A vs H Q E) : vs.length = 3 := by obtain ⟨d, c, b, p, rfl, _⟩ := h; rfl
theorem len_Chip_power (h : sp_Chip_power K A vs H Q E) : vs.length = 2 := by obtain ⟨d, c, l, rfl, _⟩ := h; rfl
theorem len_Chip_goes_well (h : sp_Chip_goes_well K A vs H Q E) : vs.length = 1 := by obtain ⟨d, c, rfl, _⟩ := h; rfl
theorem len_Chip_write (h : sp_Chip_write K A vs H Q E) : vs.length = 4 := by obtain ⟨d, c, b, p, v, rfl, _⟩ := h; rfl
theorem len_Chip_erase (h : sp_Chip_erase K A vs H Q E) : vs.length = 2 := by obtain ⟨d, c, b, rfl, _⟩ := h; rfl
theorem len_Chip_worn (h : sp_Chip_worn K A vs H Q E) : vs.length = 2 := by obtain ⟨d, c, b, rfl, _⟩ := h; rfl
theorem len_Chip_written (h : sp_Chip_written K A vs H Q E) : vs.length = 1 := by obtain ⟨d, c, rfl, _⟩ := h; rfl
theorem len_Chip_init (h : sp_Chip_init K A vs H Q E) : vs.length = 3 := by obtain ⟨p, dx, b, m, rfl, _⟩ := h; rfl
theorem len_copied (h : sp_copied K A vs H Q E) : vs.length = 1 := by obtain ⟨d, c, rfl, _⟩ := h; rfl
theorem ChipAt.rowAt {d : CD} {c : CS} {b : Int} (h : ChipAt A H d c) (hb : inB c b) : ∃ a, d.rs[b.toNat]? = some a ∧ H a = some (.lst (c.row b)) ∧ (c.row b).length = c.m ∧ c.rows[b.toNat]? = some (c.row b) := by
  obtain ⟨h0, h1⟩ := hb
  have hl : b.toNat < d.rs.length := by rw [h.len]; omega
  obtain ⟨xs, hx, ha⟩ := h.row _ _ (List.getElem?_eq_getElem hl)
  have e : c.row b = xs := by unfold CS.row; rw [List.getD_eq_getElem?_getD, hx]; rfl
  exact ⟨_, List.getElem?_eq_getElem hl, by rw [e]; exact ha, by rw [e]; exact h.pgs _ (List.mem_of_getElem? hx), by rw [e]; exact hx⟩
theorem atI_rs {rs : List Addr} {b : Int} {a : Addr} (h0 : 0 ≤ b) (h : rs[b.toNat]? = some a) : atI (rs.map V.ref) b = some (.ref a) :=
  at_of (j := b.toNat) (by omega) (by rw [List.getElem?_map, h]; rfl)
theorem pure_Chip_size (F : Fac K A) (h : sp_Chip_size K A vs H Q E) : t_Chip_size K A E { nx := fun _ H' => Q .non H', rt := Q } (start N_Chip_size vs) H := by
  obtain ⟨d, c, rfl, h, k⟩ := h
  have hb : inB c 0 := ⟨by omega, by have := h.lo; omega⟩
  obtain ⟨a, ha, hx, hl, _⟩ := h.rowAt hb
  refine ⟨_, rfl, d.p, _, d.dx, _, _, rfl, h.ob, F.cl_Chip, F.n_rows, chipF_rows, _, _, rfl, .inl (SqL.of h.rows), ?_⟩
  refine ⟨_, rfl, d.p, _, d.dx, _, _, rfl, h.ob, F.cl_Chip, F.n_rows, chipF_rows, _, _, _, _, rfl, rfl, SqL.of h.rows, atI_rs (by omega) ha, _, _, rfl, .inl (SqL.of hx), ?_⟩
  refine ⟨(by show 2 ≤ sizeLine; decide), fun t ht => ?_⟩
  rw [List.length_map, h.len, hl]
  exact k t ht
theorem pure_Chip_need_block (F : Fac K A) (h : sp_Chip_need_block K A vs H Q E) : t_Chip_need_block K A E { nx := fun _ H' => Q .non H', rt := Q } (start N_Chip_need_block vs) H := by
  obtain ⟨d, c, b, rfl, h, k1, k2⟩ := h
  refine ⟨_, rfl, _, _, rfl, rfl, _, rfl, ?_⟩
  by_cases h0 : 0 ≤ b
  · rw [if_pos (decide_eq_true h0)]
    refine ⟨_, rfl, d.p, _, d.dx, _, _, rfl, h.ob, F.cl_Chip, F.n_rows, chipF_rows, _, _, rfl, .inl (SqL.of h.rows), _, _, rfl, rfl, _, rfl, ?_⟩
    rw [List.length_map, h.len]
    by_cases h1 : b < c.rows.length
    · rw [decide_eq_true h1]
      exact iteF (k1 ⟨h0, h1⟩)
    · rw [decide_eq_false h1]
      exact iteT (k2 fun z => h1 z.2)
  · rw [if_neg (by rw [decide_eq_false h0]; exact Bool.false_ne_true)]
    exact ⟨_, rfl, iteT (k2 fun z => h0 z.1)⟩
theorem pure_Chip_need_page (F : Fac K A) (h : sp_Chip_need_page K A vs H Q E) : t_Chip_need_page K A E { nx := fun _ H' => Q .non H', rt := Q } (start N_Chip_need_page vs) H := by
  obtain ⟨d, c, b, p, rfl, h, k1, k2⟩ := h
  refine ⟨_, rfl, d.p, d.dx, _, rfl, h.ob, chipF_no (by decide +kernel) (by decide +kernel) (by decide +kernel) (by decide +kernel) (by decide +kernel), _, rfl, d, c, b, rfl, h, fun hb => ?_, fun hb => k2 fun z => hb z.1⟩
  obtain ⟨a, ha, hx, hl, _⟩ := h.rowAt hb
  refine ⟨_, rfl, _, _, rfl, rfl, _, rfl, ?_⟩
  by_cases h0 : 0 ≤ p
  · rw [if_pos (decide_eq_true h0)]
    refine ⟨_, rfl, d.p, _, d.dx, _, _, rfl, h.ob, F.cl_Chip, F.n_rows, chipF_rows, _, rfl, _, _, _, _, rfl, rfl, SqL.of h.rows, atI_rs hb.1 ha, _, _, rfl, .inl (SqL.of hx), _, _, rfl, rfl, _, rfl, ?_⟩
    rw [hl]
    by_cases h1 : p < c.m
    · rw [decide_eq_true h1]
      exact iteF (k1 ⟨hb, h0, h1⟩)
    · rw [decide_eq_false h1]
      exact iteT (k2 fun z => h1 z.2.2)
  · rw [if_neg (by rw [decide_eq_false h0]; exact Bool.false_ne_true)]
    exact ⟨_, rfl, iteT (k2 fun z => h0 z.2.1)⟩
theorem pure_Chip_page (F : Fac K A) (h : sp_Chip_page K A vs H Q E) : t_Chip_page K A E { nx := fun _ H' => Q .non H', rt := Q } (start N_Chip_page vs) H := by
  obtain ⟨d, c, b, p, rfl, h, k1, k2⟩ := h
  refine ⟨_, rfl, d.p, d.dx, _, rfl, h.ob, chipF_no (by decide +kernel) (by decide +kernel) (by decide +kernel) (by decide +kernel) (by decide +kernel), _, rfl, _, rfl, d, c, b, p, rfl, h, fun hp => ?_, k2⟩
  obtain ⟨hb, hp0, hp1⟩ := id hp
  obtain ⟨a, ha, hx, hl, _⟩ := h.rowAt hb
  have hpl : p.toNat < (c.row b).length := by rw [hl]; omega
  refine ⟨_, rfl, d.p, _, d.dx, _, _, rfl, h.ob, F.cl_Chip, F.n_rows, chipF_rows, _, rfl, _, _, _, _, rfl, rfl, SqL.of h.rows, atI_rs hb.1 ha, _, rfl, _, _, _, _, rfl, rfl, SqL.of hx,
    at_of (j := p.toNat) (v := c.at b p) (by omega) (by unfold CS.at; rw [List.getD_eq_getElem?_getD, List.getElem?_eq_getElem hpl]; rfl), k1 hp⟩
theorem pure_Chip_worn (F : Fac K A) (h : sp_Chip_worn K A vs H Q E) : t_Chip_worn K A E { nx := fun _ H' => Q .non H', rt := Q } (start N_Chip_worn vs) H := by
  obtain ⟨d, c, b, rfl, h, k1, k2⟩ := h
  refine ⟨_, rfl, d.p, d.dx, _, rfl, h.ob, chipF_no (by decide +kernel) (by decide +kernel) (by decide +kernel) (by decide +kernel) (by decide +kernel), _, rfl, d, c, b, rfl, h, fun hb => ?_, k2⟩
  have hl : b.toNat < c.wears.length := by rw [h.wlen]; have := hb.2; have := hb.1; omega
  refine ⟨_, rfl, d.p, _, d.dx, _, _, rfl, h.ob, F.cl_Chip, F.n_wears, chipF_wears, _, rfl, _, _, _, _, rfl, rfl, SqL.of h.wears,
    at_of (j := b.toNat) (v := .int (c.wears.getD b.toNat 0)) (by have := hb.1; omega) (by rw [List.getElem?_map, List.getD_eq_getElem?_getD, List.getElem?_eq_getElem hl]; rfl), k1 hb⟩
theorem pure_Chip_written (F : Fac K A) (h : sp_Chip_written K A vs H Q E) : t_Chip_written K A E { nx := fun _ H' => Q .non H', rt := Q } (start N_Chip_written vs) H := by
  obtain ⟨d, c, rfl, h, k⟩ := h
  exact ⟨_, rfl, d.p, _, d.dx, _, _, rfl, h.ob, F.cl_Chip, F.n_many, chipF_many, k⟩
end


section
variable {K : PySem.W.Frag} {A : Ad} {vs : List V} {H : Hp} {Q : VK} {E : XK}
theorem ChipAt.pL {d : CD} {c : CS} (h : ChipAt A H d c) : d.L ≠ d.p := ne_of h.rows h.ob (by intro z; cases z)
theorem ChipAt.pW {d : CD} {c : CS} (h : ChipAt A H d c) : d.W ≠ d.p := ne_of h.wears h.ob (by intro z; cases z)
theorem ChipAt.rowP {d : CD} {c : CS} (h : ChipAt A H d c) {i : Nat} {a : Addr} (e : d.rs[i]? = some a) : a ≠ d.p := by
  obtain ⟨xs, _, ha⟩ := h.row i a e
  exact ne_of ha h.ob (by intro z; cases z)
theorem nodup_set {α : Type} : ∀ {l : List α} {b : Nat} {a : α}, l.Nodup → ¬ a ∈ l → (l.set b a).Nodup
  | [], _, _, h, _ => by simpa using h
  | x :: r, 0, a, h, n => by
    show (a :: r).Nodup
    exact List.nodup_cons.mpr ⟨fun m => n (List.mem_cons.mpr (.inr m)), (List.nodup_cons.mp h).2⟩
  | x :: r, b + 1, a, h, n => by
    show (x :: r.set b a).Nodup
    obtain ⟨h1, h2⟩ := List.nodup_cons.mp h
    refine List.nodup_cons.mpr ⟨fun m => ?_, nodup_set h2 fun m => n (List.mem_cons.mpr (.inr m))⟩
    rcases List.mem_or_eq_of_mem_set m with z | z
    · exact h1 z
    · exact n (List.mem_cons.mpr (.inl z.symm))
theorem Chg.setP {d : CD} {c : CS} (h : ChipAt A H d c) (many : Int) (left : Option Int) (cut : Bool) :
    Chg A H d (upd H d.p (.ins A.chip d.dx (chipF d.L d.W many (leftV left) cut))) d { c with many := many, left := left, cut := cut } where
  at_ := { ob := upd_same, rows := by rw [upd_ne h.pL]; exact h.rows, wears := by rw [upd_ne h.pW]; exact h.wears, len := h.len,
           row := fun i a e => by
             obtain ⟨xs, hx, ha⟩ := h.row i a e
             exact ⟨xs, hx, by rw [upd_ne (h.rowP e)]; exact ha⟩,
           wlen := h.wlen, pgs := h.pgs, nd := h.nd, lo := h.lo, hi := h.hi, mlo := h.mlo, mhi := h.mhi }
  p := rfl
  sub := fun b hb => .inl hb
  fr := Fr.put h.ob (.inl rfl) (by intro xs z; cases z)
theorem Chg.trans {d d' d'' : CD} {H1 H2 : Hp} {c1 c2 : CS} (a : Chg A H d H1 d' c1) (b : Chg A H1 d' H2 d'' c2) : Chg A H d H2 d'' c2 where
  at_ := b.at_
  p := b.p.trans a.p
  sub := fun x hx => by
    rcases b.sub x hx with q | q
    · exact a.sub x q
    · exact .inr (a.fr.live x q)
  fr := a.fr.trans b.fr a.sub
theorem Chg.same {d : CD} {c : CS} {H' : Hp} (h : ChipAt A H d c) (s : Same H H') : Chg A H d H' d c where
  at_ := { ob := s _ _ h.ob, rows := s _ _ h.rows, wears := s _ _ h.wears, len := h.len,
           row := fun i a e => by
             obtain ⟨xs, hx, ha⟩ := h.row i a e
             exact ⟨xs, hx, s _ _ ha⟩,
           wlen := h.wlen, pgs := h.pgs, nd := h.nd, lo := h.lo, hi := h.hi, mlo := h.mlo, mhi := h.mhi }
  p := rfl
  sub := fun b hb => .inl hb
  fr := .of_same s
theorem Chg.setRow {d : CD} {c : CS} {b : Nat} {a : Addr} {xs ys : List V} (h : ChipAt A H d c) (ha : d.rs[b]? = some a) (hx : H a = some (.lst xs)) (hl : ys.length = c.m) :
    Chg A H d (upd H a (.lst ys)) d { c with rows := c.rows.set b ys } where
  at_ := by
    have hm := List.mem_of_getElem? ha
    obtain ⟨n1, n2⟩ := List.nodup_cons.mp h.nd
    obtain ⟨n3, n4⟩ := List.nodup_cons.mp n2
    have la : d.L ≠ a := fun q => n1 (List.mem_cons.mpr (.inr (by rw [q]; exact hm)))
    have wa : d.W ≠ a := fun q => n3 (by rw [q]; exact hm)
    have pa : d.p ≠ a := (h.rowP ha).symm
    refine { ob := by rw [upd_ne pa]; exact h.ob, rows := by rw [upd_ne la]; exact h.rows, wears := by rw [upd_ne wa]; exact h.wears, len := by rw [List.length_set]; exact h.len,
             row := fun i x e => ?_, wlen := by rw [List.length_set]; exact h.wlen, pgs := fun zs hz => ?_, nd := h.nd, lo := by rw [List.length_set]; exact h.lo, hi := by rw [List.length_set]; exact h.hi, mlo := h.mlo, mhi := h.mhi }
    · by_cases q : i = b
      · subst q
        have ea : x = a := Option.some.inj (e.symm.trans ha)
        subst ea
        have hi : i < c.rows.length := by rw [← h.len]; exact (List.getElem?_eq_some_iff.mp e).1
        exact ⟨ys, List.getElem?_set_self hi, upd_same⟩
      · obtain ⟨zs, hz, hh⟩ := h.row i x e
        have xa : x ≠ a := fun z => q (nd_ix n4 e (by rw [z]; exact ha))
        exact ⟨zs, by rw [List.getElem?_set_ne (fun z => q z.symm)]; exact hz, by rw [upd_ne xa]; exact hh⟩
    · rcases List.mem_or_eq_of_mem_set hz with z | z
      · exact h.pgs _ z
      · rw [z]; exact hl
  p := rfl
  sub := fun b hb => .inl hb
  fr := Fr.put hx (.inr (.inr (.inr (List.mem_of_getElem? ha)))) (by intro xs z; cases z)
theorem Chg.setW {d : CD} {c : CS} {b : Nat} {z : Int} (h : ChipAt A H d c) :
    Chg A H d (upd H d.W (.lst ((c.wears.set b z).map V.int))) d { c with wears := c.wears.set b z } where
  at_ := by
    obtain ⟨n1, n2⟩ := List.nodup_cons.mp h.nd
    obtain ⟨n3, n4⟩ := List.nodup_cons.mp n2
    have lw : d.L ≠ d.W := fun q => n1 (List.mem_cons.mpr (.inl q))
    refine { ob := by rw [upd_ne h.pW.symm]; exact h.ob, rows := by rw [upd_ne lw]; exact h.rows, wears := upd_same, len := h.len,
             row := fun i x e => ?_, wlen := by rw [List.length_set]; exact h.wlen, pgs := h.pgs, nd := h.nd, lo := h.lo, hi := h.hi, mlo := h.mlo, mhi := h.mhi }
    obtain ⟨zs, hz, hh⟩ := h.row i x e
    have xw : x ≠ d.W := fun q => n3 (by rw [← q]; exact List.mem_of_getElem? e)
    exact ⟨zs, hz, by rw [upd_ne xw]; exact hh⟩
  p := rfl
  sub := fun b hb => .inl hb
  fr := Fr.put h.wears (.inr (.inr (.inl rfl))) (by intro xs z; cases z)
theorem Chg.newRow {d : CD} {c : CS} {b : Nat} {a : Addr} {ys : List V} (h : ChipAt A H d c) (hb : b < c.rows.length) (hn : H a = none) (hl : ys.length = c.m) :
    Chg A H d (upd (upd H a (.lst ys)) d.L (.lst ((d.rs.set b a).map V.ref))) { d with rs := d.rs.set b a } { c with rows := c.rows.set b ys } where
  at_ := by
    obtain ⟨n1, n2⟩ := List.nodup_cons.mp h.nd
    obtain ⟨n3, n4⟩ := List.nodup_cons.mp n2
    have la : d.L ≠ a := ne_of_none h.rows hn
    have wa : d.W ≠ a := ne_of_none h.wears hn
    have pa : d.p ≠ a := ne_of_none h.ob hn
    have wl : d.W ≠ d.L := fun q => n1 (List.mem_cons.mpr (.inl q.symm))
    have ar : ¬ a ∈ d.rs := fun m => by
      obtain ⟨i, hi⟩ := List.getElem?_of_mem m
      obtain ⟨xs, _, hx⟩ := h.row i a hi
      rw [hn] at hx; cases hx
    have hbr : b < d.rs.length := by rw [h.len]; exact hb
    refine { ob := by show upd _ d.L _ d.p = _; rw [upd_ne h.pL.symm, upd_ne pa]; exact h.ob, rows := upd_same, wears := by show upd _ d.L _ d.W = _; rw [upd_ne wl, upd_ne wa]; exact h.wears, len := by rw [List.length_set, List.length_set]; exact h.len,
             row := fun i x e => ?_, wlen := by rw [List.length_set]; exact h.wlen, pgs := fun zs hz => ?_, nd := ?_, lo := by rw [List.length_set]; exact h.lo, hi := by rw [List.length_set]; exact h.hi, mlo := h.mlo, mhi := h.mhi }
    · have e : (d.rs.set b a)[i]? = some x := e
      show ∃ xs, (c.rows.set b ys)[i]? = some xs ∧ upd (upd H a _) d.L _ x = _
      by_cases q : i = b
      · subst q
        rw [List.getElem?_set_self hbr] at e
        have ex : a = x := Option.some.inj e
        subst ex
        exact ⟨ys, List.getElem?_set_self hb, by rw [upd_ne la.symm]; exact upd_same⟩
      · rw [List.getElem?_set_ne (fun z => q z.symm)] at e
        obtain ⟨zs, hz, hh⟩ := h.row i x e
        have xa : x ≠ a := fun z => ar (by rw [← z]; exact List.mem_of_getElem? e)
        have xl : x ≠ d.L := fun z => n1 (List.mem_cons.mpr (.inr (by rw [← z]; exact List.mem_of_getElem? e)))
        exact ⟨zs, by rw [List.getElem?_set_ne (fun z => q z.symm)]; exact hz, by rw [upd_ne xl, upd_ne xa]; exact hh⟩
    · rcases List.mem_or_eq_of_mem_set hz with z | z
      · exact h.pgs _ z
      · rw [z]; exact hl
    · show (d.L :: d.W :: d.rs.set b a).Nodup
      have hs : ∀ x, x ∈ d.rs.set b a → x ∈ d.rs ∨ x = a := fun x hx => List.mem_or_eq_of_mem_set hx
      refine List.nodup_cons.mpr ⟨fun m => ?_, List.nodup_cons.mpr ⟨fun m => ?_, ?_⟩⟩
      · rcases List.mem_cons.mp m with q | q
        · exact wl q.symm
        · rcases hs _ q with z | z
          · exact n1 (List.mem_cons.mpr (.inr z))
          · exact la z
      · rcases hs _ m with z | z
        · exact n3 z
        · exact wa z
      · exact nodup_set n4 ar
  p := rfl
  sub := fun x hx => by
    rcases hx with q | q | q | q
    · exact .inl (.inl q)
    · exact .inl (.inr (.inl q))
    · exact .inl (.inr (.inr (.inl q)))
    · rcases List.mem_or_eq_of_mem_set (show x ∈ d.rs.set b a from q) with z | z
      · exact .inl (.inr (.inr (.inr z)))
      · rw [z]; exact .inr hn
  fr := by
    have f1 : Fr (cfp d) H (upd H a (.lst ys)) := Fr.new hn
    refine f1.trans (Fr.put (F := cfp d) (u := .lst (d.rs.map V.ref)) ?_ (.inr (.inl rfl)) (by intro xs z; cases z)) fun x hx => .inl hx
    rw [upd_ne (ne_of_none h.rows hn)]; exact h.rows
theorem pure_Chip_power (F : Fac K A) (h : sp_Chip_power K A vs H Q E) : t_Chip_power K A E { nx := fun _ H' => Q .non H', rt := Q } (start N_Chip_power vs) H := by
  obtain ⟨d, c, l, rfl, h, k⟩ := h
  refine ⟨_, rfl, _, rfl, d.p, _, d.dx, _, rfl, h.ob, F.cl_Chip, F.n_left, chipF_len, ?_⟩
  refine ⟨_, rfl, d.p, _, d.dx, _, rfl, upd_same, F.cl_Chip, F.n_is_cut, (by rw [chipF_pl]; exact chipF_len), ?_⟩
  rw [upd_upd, chipF_pl, chipF_pc]
  exact k _ (Chg.setP h c.many l false)
theorem pure_Chip_goes_well (F : Fac K A) (h : sp_Chip_goes_well K A vs H Q E) : t_Chip_goes_well K A E { nx := fun _ H' => Q .non H', rt := Q } (start N_Chip_goes_well vs) H := by
  obtain ⟨d, c, rfl, h, k1, k2⟩ := h
  refine ⟨_, rfl, d.p, _, d.dx, _, _, rfl, h.ob, F.cl_Chip, F.n_is_cut, chipF_cut, _, rfl, ?_⟩
  cases hc : c.cut with
  | true => exact iteT (k1 hc)
  | false =>
    refine iteF ?_
    refine ⟨_, rfl, d.p, _, d.dx, _, _, rfl, h.ob, F.cl_Chip, F.n_left, chipF_left, rfl, _, rfl, ?_⟩
    cases hl : c.left with
    | none =>
      refine iteT ?_
      have e : c.gw = (c, true) := by unfold CS.gw; rw [hl]
      have k := k2 hc H
      rw [e] at k
      exact k (Chg.same h (Same.refl H))
    | some n =>
      refine iteF ?_
      refine ⟨_, rfl, d.p, _, d.dx, _, _, rfl, h.ob, F.cl_Chip, F.n_left, (by rw [hl]; exact chipF_left), _, _, rfl, rfl, _, rfl, d.p, _, d.dx, _, rfl, h.ob, F.cl_Chip, F.n_is_cut, chipF_len, ?_⟩
      rw [chipF_pc]
      refine ⟨_, rfl, d.p, _, d.dx, _, _, rfl, upd_same, F.cl_Chip, F.n_left, (by rw [hl]; exact chipF_left), _, _, rfl, rfl, _, rfl, d.p, _, d.dx, _, rfl, upd_same, F.cl_Chip, F.n_left, chipF_len, ?_⟩
      rw [upd_upd, chipF_pl]
      refine ⟨_, rfl, d.p, _, d.dx, _, _, rfl, upd_same, F.cl_Chip, F.n_is_cut, chipF_cut, _, rfl, ?_⟩
      have e : c.gw = ({ c with left := some (n - 1), cut := decide (n ≤ 0) }, !decide (n ≤ 0)) := by unfold CS.gw; rw [hl]
      have k := k2 hc (upd H d.p (.ins A.chip d.dx (chipF d.L d.W c.many (leftV (some (n - 1))) (decide (n ≤ 0)))))
      rw [e] at k
      exact k (Chg.setP h c.many (some (n - 1)) (decide (n ≤ 0)))
end

theorem take_snoc {α : Type} : ∀ {l : List α} {i : Nat} {x : α}, l[i]? = some x → l.take (i + 1) = l.take i ++ [x]
  | [], i, x, h => by simp at h
  | a :: l, 0, x, h => by
    have e : a = x := Option.some.inj h
    subst e
    rfl
  | a :: l, i + 1, x, h => by
    have ih := take_snoc (l := l) (i := i) (x := x) h
    show a :: l.take (i + 1) = a :: l.take i ++ [x]
    rw [ih]
    rfl
theorem Same.at_new {H H' : Hp} {p : Addr} {o : HO} (h : H p = none) (s : Same (upd H p o) H') : Same H H' ∧ H' p = some o :=
  ⟨fun b u e => s b u (by rw [upd_ne (ne_of_none e h)]; exact e), s p o upd_same⟩
theorem yes_of {σ : L2.St} {H : Hp} {P1 P2 : Hp → Prop} (h : P1 H) : tYes σ H (fun b H3 => if b = true then P1 H3 else P2 H3) := by
  have e : (if true = true then P1 H else P2 H) := by rw [if_pos rfl]; exact h
  exact e
theorem lc_map {K : PySem.W.Frag} {a : Addr} {xs : List V} {k : Nat} {te : TE} {vs : List Nat} {σ : L2.St} {H1 : Hp} {D : Addr} {Qd : Hp → Prop} (ys : List V) (hl : ys.length = xs.length) (hz : xs.length ≤ sizeLine) (hS : SqL K H1 a xs) (hD : H1 D = none)
    (st : ∀ (i : Nat) (x y : V) (H : Hp), xs[i]? = some x → ys[i]? = some y → Same H1 H → ∀ R : V → Hp → Prop, (∀ H', Same H H' → R y H') → te ((wipe σ vs).set k (some x)) H R)
    (hw : ∀ x, wipe ((wipe σ vs).set k (some x)) vs = wipe σ vs) (hd : ∀ H, Same H1 H → H D = some (.lst ys) → Qd H) :
    ∃ W : Nat → Nat → Hp → Prop, (∃ m, W 0 m (upd H1 D (.lst []))) ∧ ∀ i m H, W i m H →
      ((Itl K a).stop i H ∧ Qd H) ∨ ((Itl K a).go i H ∧ ∃ Nx : Hp → Prop, (∀ H', Nx H' → ∃ m', m' < m ∧ W (i + 1) m' H') ∧ ∀ x H', (Itl K a).yld i H x H' → gName k x (wipe σ vs) H' fun σ2 H2 => wipe σ2 vs = wipe σ vs ∧ tYes σ2 H2 fun b H3 =>
        if b = true then te σ2 H3 fun y H4 => ∃ acc, H4 D = some (.lst acc) ∧ acc.length < sizeLine ∧ Nx (upd H4 D (.lst (acc ++ [y]))) else Nx H3) := by
  refine lc_list (K := K) (a := a) (xs := xs) (fun i H => Same H1 H ∧ H D = some (.lst (ys.take i))) ⟨Same.new hD, upd_same⟩ (fun i H _ p => p.1.seq hS) (fun i x H hx p => ?_) fun H p => ?_
  · obtain ⟨s, hDi⟩ := p
    have hi := (List.getElem?_eq_some_iff.mp hx).1
    have hy : ys[i]? = some ys[i] := List.getElem?_eq_getElem (by rw [hl]; exact hi)
    refine ⟨hw x, yes_of (P1 := fun H3 => te _ H3 _) ?_⟩
    refine st i x _ H hx hy s _ fun H' s' => ?_
    refine ⟨ys.take i, s' _ _ hDi, by rw [List.length_take]; omega, fun b o e => ?_, ?_⟩
    · rw [upd_ne (ne_of_none e hD)]
      exact s' _ _ (s _ _ e)
    · rw [take_snoc hy]; exact upd_same
  · have e : ys.take xs.length = ys := by rw [← hl]; exact List.take_length
    exact hd H p.1 (by rw [← e]; exact p.2)
theorem lc_mapR {lo : Int} {n : Nat} {k : Nat} {te : TE} {vs : List Nat} {σ : L2.St} {H1 : Hp} {D : Addr} {Qd : Hp → Prop} (ys : List V) (hl : ys.length = n) (hz : n ≤ sizeLine) (hD : H1 D = none)
    (st : ∀ (i : Nat) y H, i < n → ys[i]? = some y → Same H1 H → ∀ R : V → Hp → Prop, (∀ H', Same H H' → R y H') → te ((wipe σ vs).set k (some (.int (lo + i)))) H R)
    (hw : ∀ x, wipe ((wipe σ vs).set k (some x)) vs = wipe σ vs) (hd : ∀ H, Same H1 H → H D = some (.lst ys) → Qd H) :
    ∃ W : Nat → Nat → Hp → Prop, (∃ m, W 0 m (upd H1 D (.lst []))) ∧ ∀ i m H, W i m H →
      ((Itr lo n).stop i H ∧ Qd H) ∨ ((Itr lo n).go i H ∧ ∃ Nx : Hp → Prop, (∀ H', Nx H' → ∃ m', m' < m ∧ W (i + 1) m' H') ∧ ∀ x H', (Itr lo n).yld i H x H' → gName k x (wipe σ vs) H' fun σ2 H2 => wipe σ2 vs = wipe σ vs ∧ tYes σ2 H2 fun b H3 =>
        if b = true then te σ2 H3 fun y H4 => ∃ acc, H4 D = some (.lst acc) ∧ acc.length < sizeLine ∧ Nx (upd H4 D (.lst (acc ++ [y]))) else Nx H3) := by
  refine lc_range (lo := lo) (n := n) (fun i H => Same H1 H ∧ H D = some (.lst (ys.take i))) ⟨Same.new hD, upd_same⟩ (fun i H hi p => ?_) fun H p => ?_
  · obtain ⟨s, hDi⟩ := p
    have hy : ys[i]? = some ys[i] := List.getElem?_eq_getElem (by rw [hl]; exact hi)
    refine ⟨hw _, yes_of (P1 := fun H3 => te _ H3 _) ?_⟩
    refine st i _ H hi hy s _ fun H' s' => ?_
    refine ⟨ys.take i, s' _ _ hDi, by rw [List.length_take]; omega, fun b o e => ?_, ?_⟩
    · rw [upd_ne (ne_of_none e hD)]
      exact s' _ _ (s _ _ e)
    · rw [take_snoc hy]; exact upd_same
  · have e : ys.take n = ys := by rw [← hl]; exact List.take_length
    exact hd H p.1 (by rw [← e]; exact p.2)
theorem lc_filterR {lo : Int} {n : Nat} {k : Nat} {tt : TT} {te : TE} {vs : List Nat} {σ : L2.St} {H1 : Hp} {D : Addr} {Qd : Hp → Prop} (keep : Nat → Bool) (yv : Nat → V) (hz : n ≤ sizeLine) (hD : H1 D = none)
    (sb : ∀ (i : Nat) H, i < n → Same H1 H → ∀ R : Bool → Hp → Prop, (∀ H', Same H H' → R (keep i) H') → tt ((wipe σ vs).set k (some (.int (lo + i)))) H R)
    (st : ∀ (i : Nat) H, i < n → keep i = true → Same H1 H → ∀ R : V → Hp → Prop, (∀ H', Same H H' → R (yv i) H') → te ((wipe σ vs).set k (some (.int (lo + i)))) H R)
    (hw : ∀ x, wipe ((wipe σ vs).set k (some x)) vs = wipe σ vs) (hd : ∀ H, Same H1 H → H D = some (.lst (((List.range n).filter keep).map yv)) → Qd H) :
    ∃ W : Nat → Nat → Hp → Prop, (∃ m, W 0 m (upd H1 D (.lst []))) ∧ ∀ i m H, W i m H →
      ((Itr lo n).stop i H ∧ Qd H) ∨ ((Itr lo n).go i H ∧ ∃ Nx : Hp → Prop, (∀ H', Nx H' → ∃ m', m' < m ∧ W (i + 1) m' H') ∧ ∀ x H', (Itr lo n).yld i H x H' → gName k x (wipe σ vs) H' fun σ2 H2 => wipe σ2 vs = wipe σ vs ∧ tt σ2 H2 fun b H3 =>
        if b = true then te σ2 H3 fun y H4 => ∃ acc, H4 D = some (.lst acc) ∧ acc.length < sizeLine ∧ Nx (upd H4 D (.lst (acc ++ [y]))) else Nx H3) := by
  refine lc_range (lo := lo) (n := n) (fun i H => Same H1 H ∧ H D = some (.lst (((List.range i).filter keep).map yv))) ⟨Same.new hD, upd_same⟩ (fun i H hi p => ?_) fun H p => hd H p.1 p.2
  obtain ⟨s, hDi⟩ := p
  refine ⟨hw _, sb i H hi s _ fun H' s' => ?_⟩
  cases hk : keep i with
  | false =>
    refine iteF ⟨s.trans s', ?_⟩
    rw [List.range_succ, List.filter_append, List.filter_cons_of_neg (by rw [hk]; exact Bool.false_ne_true), List.filter_nil, List.append_nil]
    exact s' _ _ hDi
  | true =>
    refine iteT (st i H' hi hk (s.trans s') _ fun H'' s'' => ?_)
    refine ⟨_, s'' _ _ (s' _ _ hDi), ?_, fun b o e => ?_, ?_⟩
    · rw [List.length_map]
      have h1 : ((List.range i).filter keep).length ≤ (List.range i).length := List.length_filter_le _ _
      rw [List.length_range] at h1
      omega
    · rw [upd_ne (ne_of_none e hD)]
      exact s'' _ _ (s' _ _ (s _ _ e))
    · rw [List.range_succ, List.filter_append, List.filter_cons_of_pos hk, List.filter_nil, List.map_append]
      exact upd_same

section
variable {K : PySem.W.Frag} {A : Ad} {vs : List V} {H : Hp} {Q : VK} {E : XK}
theorem cutV_from {xs : List V} {p : Int} (h0 : 0 ≤ p) (h1 : p ≤ xs.length) : cutV xs (some p) none = xs.drop p.toNat := by
  have e : p = (p.toNat : Int) := by omega
  have e2 : HT.sIx xs.length 0 (some p) = p.toNat := by
    rw [e, HT.sIx_nat]
    omega
  unfold cutV
  rw [e2, HT.sIx_none, List.take_of_length_le (by rw [List.length_drop]; omega)]
theorem isN_all (xs : List V) : ((xs.map fun v => decide (v = V.non)).all id) = xs.all fun v => decide (v = V.non) := by
  rw [List.all_map]; rfl
theorem sz16 {n : Nat} (h : n ≤ 16) : n ≤ sizeLine := Nat.le_trans h (by decide)
theorem sz32 {n : Nat} (h : n ≤ 32) : n ≤ sizeLine := Nat.le_trans h (by decide)
theorem no5 {L W : Addr} {many : Int} {left : V} {cut : Bool} {m : Str} (h : decide (m = "rows" ∨ m = "wears" ∨ m = "many" ∨ m = "left" ∨ m = "is_cut") = false := by decide +kernel) : (chipF L W many left cut).lookup m = none := by
  have h := of_decide_eq_false h
  exact chipF_no (fun z => h (.inl z)) (fun z => h (.inr (.inl z))) (fun z => h (.inr (.inr (.inl z)))) (fun z => h (.inr (.inr (.inr (.inl z))))) (fun z => h (.inr (.inr (.inr (.inr z)))))
theorem ixN_of {n : Nat} {i : Int} (h0 : 0 ≤ i) (h1 : i < n) : ixN n i = some i.toNat := by
  unfold ixN
  rw [if_pos h0, if_pos h1]
theorem gw_rows (c : CS) : c.gw.1.rows = c.rows := by unfold CS.gw; split <;> rfl
theorem gw_wears (c : CS) : c.gw.1.wears = c.wears := by unfold CS.gw; split <;> rfl
theorem gw_many (c : CS) : c.gw.1.many = c.many := by unfold CS.gw; split <;> rfl
theorem gw_m (c : CS) : c.gw.1.m = c.m := by unfold CS.gw; split <;> rfl
theorem row_gw (c : CS) (b : Int) : c.gw.1.row b = c.row b := by unfold CS.row; rw [gw_rows]
theorem pure_Chip_write (F : Fac K A) (h : sp_Chip_write K A vs H Q E) : t_Chip_write K A E { nx := fun _ H' => Q .non H', rt := Q } (start N_Chip_write vs) H := by
  obtain ⟨d, c, b, p, v, rfl, h, k⟩ := h
  refine ⟨_, rfl, d.p, d.dx, _, rfl, h.ob, no5, _, rfl, _, rfl, d, c, b, p, rfl, h, fun hp => ?_, fun hp => ?_⟩
  rotate_left
  · have e : c.write b p v = (c, .nopage) := by unfold CS.write; rw [if_pos hp]
    have k := k d H
    rw [e] at k
    exact k (Chg.same h (Same.refl H))
  obtain ⟨hb, hp0, hp1⟩ := id hp
  obtain ⟨a, ha, hx, hl, hrow⟩ := h.rowAt hb
  refine ⟨_, rfl, d.p, _, d.dx, _, _, rfl, h.ob, F.cl_Chip, F.n_rows, chipF_rows, _, rfl, _, _, _, _, rfl, rfl, SqL.of h.rows, atI_rs hb.1 ha, _, rfl, _, rfl, _, _, rfl, SqL.of hx, fun S hS => ?_⟩
  rw [cutV_from hp0 (by rw [hl]; omega)]
  refine ⟨_, rfl, ⟨_, SqL.of upd_same⟩, fun D hD => ?_⟩
  have hs : ((c.row b).drop p.toNat).length ≤ sizeLine := by
    rw [List.length_drop, hl]
    exact sz16 (by have := h.mhi; omega)
  refine lc_map (K := K) (((c.row b).drop p.toNat).map fun v => .bl (decide (v = .non))) (by rw [List.length_map]) hs (SqL.of upd_same) hD (fun i x y H1 hi hy s R r => ?_) (fun _ => rfl) fun H1 s hD1 => ?_
  · rw [List.getElem?_map, hi] at hy
    have e : V.bl (decide (x = .non)) = y := Option.some.inj hy
    subst e
    exact ⟨_, rfl, rfl, r H1 (Same.refl H1)⟩
  have s1 : Same H H1 := (Same.new hS).trans s
  refine ⟨D, ((c.row b).drop p.toNat).map fun v => decide (v = .non), rfl, SqL.of (by rw [hD1, List.map_map]; rfl), _, rfl, ?_⟩
  rw [isN_all]
  show if (!c.isFree b p) = true then _ else _
  cases hf : c.isFree b p with
  | false =>
    refine iteT ?_
    have e : c.write b p v = (c, .noterased) := by unfold CS.write; rw [if_neg (fun z => z hp), if_pos hf]
    have k := k d H1
    rw [e] at k
    exact k (Chg.same h s1)
  | true =>
    refine iteF ?_
    have h1 : ChipAt A H1 d c := (Chg.same h s1).at_
    refine ⟨_, rfl, d.p, d.dx, _, rfl, h1.ob, no5, d, c, rfl, h1, fun hc => ?_, fun hc H2 g => ?_⟩
    · have e : c.write b p v = (c, .cut) := by unfold CS.write; rw [if_neg (fun z => z hp), if_neg (by rw [hf]; exact Bool.noConfusion), if_pos hc]
      have k := k d H1
      rw [e] at k
      exact k (Chg.same h s1)
    · have h2 := g.at_
      have m1 : Chg A H d H2 d c.gw.1 := (Chg.same h s1).trans g
      refine ⟨_, rfl, d.p, _, d.dx, _, _, rfl, h2.ob, F.cl_Chip, F.n_many, chipF_many, _, _, rfl, rfl, _, rfl, d.p, _, d.dx, _, rfl, h2.ob, F.cl_Chip, F.n_many, chipF_len, ?_⟩
      rw [chipF_pm]
      have g3 := Chg.setP h2 (c.gw.1.many + 1) c.gw.1.left c.gw.1.cut
      have h3 := g3.at_
      have hb2 : inB c.gw.1 b := by unfold inB; rw [gw_rows]; exact hb
      obtain ⟨a2, ha2, hx2, hl2, _⟩ := h3.rowAt (c := { c.gw.1 with many := c.gw.1.many + 1, left := c.gw.1.left, cut := c.gw.1.cut }) hb2
      have er : CS.row { c.gw.1 with many := c.gw.1.many + 1, left := c.gw.1.left, cut := c.gw.1.cut } b = c.row b := row_gw c b
      rw [er] at hx2 hl2
      have fin : ∀ (w : V), (c.gw.2 = true → w = v) → (c.gw.2 = false → w = .str "torn") → Chg A H d (upd (upd H2 d.p (.ins A.chip d.dx (chipF d.L d.W (c.gw.1.many + 1) (leftV c.gw.1.left) c.gw.1.cut))) a2 (.lst ((c.row b).set p.toNat w))) d (c.write b p v).1 := fun w w1 w2 => by
        have e : (c.write b p v).1 = { c.gw.1 with many := c.gw.1.many + 1, rows := c.gw.1.rows.set b.toNat ((c.row b).set p.toNat w) } := by
          unfold CS.write
          rw [if_neg (fun z => z hp), if_neg (by rw [hf]; exact Bool.noConfusion), if_neg (by rw [hc]; exact Bool.noConfusion), gw_many, gw_rows]
          cases hg : c.gw.2 with
          | true => rw [w1 hg]; rfl
          | false => rw [w2 hg]; rfl
        rw [e]
        exact (m1.trans g3).trans (Chg.setRow h3 ha2 hx2 (by rw [List.length_set]; exact hl2))
      have hst : rSetL (.ref a2) (.int p) (if c.gw.2 = true then v else .str "torn") (upd H2 d.p (.ins A.chip d.dx (chipF d.L d.W (c.gw.1.many + 1) (leftV c.gw.1.left) c.gw.1.cut))) (fun H4 => H4 = upd (upd H2 d.p (.ins A.chip d.dx (chipF d.L d.W (c.gw.1.many + 1) (leftV c.gw.1.left) c.gw.1.cut))) a2 (.lst ((c.row b).set p.toNat (if c.gw.2 = true then v else .str "torn")))) :=
        ⟨a2, c.row b, p, p.toNat, rfl, rfl, hx2, ixN_of hp0 (by rw [hl]; exact hp1), rfl⟩
      refine ⟨_, rfl, _, rfl, ?_⟩
      have eo : (c.write b p v).2 = if c.gw.2 = true then .ok else .cut := by
        unfold CS.write
        rw [if_neg (fun z => z hp), if_neg (by rw [hf]; exact Bool.noConfusion), if_neg (by rw [hc]; exact Bool.noConfusion)]
      have kk := k d _ (fin (if c.gw.2 = true then v else .str "torn") (fun z => by rw [if_pos z]) (fun z => by rw [if_neg (by rw [z]; exact Bool.noConfusion)]))
      rw [eo] at kk
      cases hg : c.gw.2 with
      | true =>
        rw [hg, if_pos rfl] at kk
        rw [if_pos rfl] at kk
        refine iteT ⟨_, rfl, _, rfl, d.p, _, d.dx, _, _, rfl, h3.ob, F.cl_Chip, F.n_rows, chipF_rows, _, rfl, _, _, _, _, rfl, rfl, SqL.of h3.rows, atI_rs hb.1 ha2, _, rfl, a2, c.row b, p, p.toNat, rfl, rfl, hx2, ixN_of hp0 (by rw [hl]; exact hp1), ?_⟩
        exact ⟨_, rfl, _, rfl, iteF kk⟩
      | false =>
        rw [hg, if_neg Bool.false_ne_true] at kk
        rw [if_neg Bool.false_ne_true] at kk
        refine iteF ⟨_, rfl, d.p, _, d.dx, _, _, rfl, h3.ob, F.cl_Chip, F.n_rows, chipF_rows, _, rfl, _, _, _, _, rfl, rfl, SqL.of h3.rows, atI_rs hb.1 ha2, _, rfl, a2, c.row b, p, p.toNat, rfl, rfl, hx2, ixN_of hp0 (by rw [hl]; exact hp1), ?_⟩
        exact ⟨_, rfl, _, rfl, iteT kk⟩
end

section
variable {K : PySem.W.Frag} {A : Ad} {vs : List V} {H : Hp} {Q : VK} {E : XK}
theorem rep1 {v : V} : ∀ n : Nat, (List.replicate n [v]).flatten = List.replicate n v
  | 0 => rfl
  | n + 1 => by rw [List.replicate_succ, List.flatten_cons, rep1 n]; rfl
theorem pure_Chip_erase (F : Fac K A) (h : sp_Chip_erase K A vs H Q E) : t_Chip_erase K A E { nx := fun _ H' => Q .non H', rt := Q } (start N_Chip_erase vs) H := by
  obtain ⟨d, c, b, rfl, h, k⟩ := h
  refine ⟨_, rfl, d.p, d.dx, _, rfl, h.ob, no5, _, rfl, d, c, b, rfl, h, fun hb => ?_, fun hb => ?_⟩
  rotate_left
  · have e : c.erase b = (c, .nopage) := by unfold CS.erase; rw [if_pos hb]
    have k := k d H
    rw [e] at k
    exact k (Chg.same h (Same.refl H))
  refine ⟨_, rfl, d.p, d.dx, _, rfl, h.ob, no5, d, c, rfl, h, fun hc => ?_, fun hc H2 g => ?_⟩
  · have e : c.erase b = (c, .cut) := by unfold CS.erase; rw [if_neg (fun z => z hb), if_pos hc]
    have k := k d H
    rw [e] at k
    exact k (Chg.same h (Same.refl H))
  have h2 := g.at_
  have hwl : b.toNat < c.wears.length := by rw [h.wlen]; have := hb.2; have := hb.1; omega
  have ew : (c.gw.1.wears.map V.int)[b.toNat]? = some (.int (c.wears.getD b.toNat 0)) := by
    rw [gw_wears, List.getElem?_map, List.getD_eq_getElem?_getD, List.getElem?_eq_getElem hwl]; rfl
  have hb2 : inB c.gw.1 b := by unfold inB; rw [gw_rows]; exact hb
  refine ⟨_, rfl, d.p, _, d.dx, _, _, rfl, h2.ob, F.cl_Chip, F.n_wears, chipF_wears, _, rfl, _, _, _, _, rfl, rfl, SqL.of h2.wears, at_of (j := b.toNat) (by have := hb.1; omega) ew, _, _, rfl, rfl, ?_⟩
  refine ⟨_, rfl, d.p, _, d.dx, _, _, rfl, h2.ob, F.cl_Chip, F.n_wears, chipF_wears, _, rfl, d.W, _, b, b.toNat, rfl, rfl, h2.wears, ixN_of hb.1 (by rw [List.length_map, gw_wears, h.wlen]; exact hb.2), ?_⟩
  rw [← List.map_set]
  have g3 := Chg.setW (b := b.toNat) (z := c.wears.getD b.toNat 0 + 1) h2
  have h3 := g3.at_
  have hb3 : inB { c.gw.1 with wears := c.gw.1.wears.set b.toNat (c.wears.getD b.toNat 0 + 1) } b := hb2
  obtain ⟨a3, ha3, hx3, hl3, _⟩ := h3.rowAt hb3
  have body : ∀ w : V, (c.gw.2 = true → w = .non) → (c.gw.2 = false → w = .str "torn") → ∀ l, (upd H2 d.W (.lst ((c.gw.1.wears.set b.toNat (c.wears.getD b.toNat 0 + 1)).map V.int))) l = none →
      ∀ a, (upd (upd H2 d.W (.lst ((c.gw.1.wears.set b.toNat (c.wears.getD b.toNat 0 + 1)).map V.int))) l (.lst [w])) a = none →
      Chg A H d (upd (upd (upd (upd H2 d.W (.lst ((c.gw.1.wears.set b.toNat (c.wears.getD b.toNat 0 + 1)).map V.int))) l (.lst [w])) a (.lst (List.replicate c.m w))) d.L (.lst ((d.rs.set b.toNat a).map V.ref))) { d with rs := d.rs.set b.toNat a } (c.erase b).1 := fun w w1 w2 l hl a ha => by
    have e : (c.erase b).1 = { c.gw.1 with wears := c.gw.1.wears.set b.toNat (c.wears.getD b.toNat 0 + 1), rows := c.gw.1.rows.set b.toNat (List.replicate c.m w) } := by
      unfold CS.erase
      rw [if_neg (fun z => z hb), if_neg (by rw [hc]; exact Bool.noConfusion), gw_wears, gw_rows]
      cases hg : c.gw.2 with
      | true => rw [w1 hg]; rfl
      | false => rw [w2 hg]; rfl
    rw [e]
    have g4 := Chg.same h3 (Same.new (o := .lst [w]) hl)
    have g5 := Chg.newRow (b := b.toNat) (ys := List.replicate c.m w) g4.at_ (by show b.toNat < c.gw.1.rows.length; rw [gw_rows]; have := hb.2; have := hb.1; omega) ha (by rw [List.length_replicate]; exact (gw_m c).symm)
    exact ((g.trans g3).trans g4).trans g5
  have eo : (c.erase b).2 = if c.gw.2 = true then .ok else .cut := by
    unfold CS.erase
    rw [if_neg (fun z => z hb), if_neg (by rw [hc]; exact Bool.noConfusion)]
  have hm1 : (CS.row { c.gw.1 with wears := c.gw.1.wears.set b.toNat (c.wears.getD b.toNat 0 + 1) } b).length = c.m := hl3.trans (gw_m c)
  have hrep : (1 : Nat) * ((CS.row { c.gw.1 with wears := c.gw.1.wears.set b.toNat (c.wears.getD b.toNat 0 + 1) } b).length : Int).toNat ≤ sizeLine := by
    rw [hm1]
    exact sz16 (by have := h.mhi; omega)
  have hm64 : ((CS.row { c.gw.1 with wears := c.gw.1.wears.set b.toNat (c.wears.getD b.toNat 0 + 1) } b).length : Int) < 2 ^ 63 := by
    rw [hm1]
    have := h.mhi
    omega
  refine ⟨_, rfl, _, rfl, ?_⟩
  cases hg : c.gw.2 with
  | true =>
    refine iteT ⟨(by show 1 ≤ sizeLine; decide), fun l hl => ?_⟩
    have h4 := (Chg.same h3 (Same.new (o := .lst [V.non]) hl)).at_
    have hx4 : (upd (upd H2 d.W (.lst ((c.gw.1.wears.set b.toNat (c.wears.getD b.toNat 0 + 1)).map V.int))) l (.lst [V.non])) a3 = _ := (Same.new (o := .lst [V.non]) hl) _ _ hx3
    refine ⟨_, rfl, d.p, _, d.dx, _, _, rfl, h4.ob, F.cl_Chip, F.n_rows, chipF_rows, _, rfl, _, _, _, _, rfl, rfl, SqL.of h4.rows, atI_rs hb.1 ha3, _, _, rfl, .inl (SqL.of hx4), ?_⟩
    refine ⟨l, _, _, rfl, rfl, upd_same, by omega, hm64, hrep, fun a ha => ?_⟩
    rw [hm1, rep1]
    have h5 := (Chg.same h4 (Same.new (o := .lst (List.replicate c.m V.non)) ha)).at_
    refine ⟨_, rfl, d.p, _, d.dx, _, _, rfl, h5.ob, F.cl_Chip, F.n_rows, chipF_rows, _, rfl, d.L, _, b, b.toNat, rfl, rfl, h5.rows, ixN_of hb.1 (by rw [List.length_map, h.len]; exact hb.2), ?_⟩
    rw [← List.map_set]
    have kk := k _ _ (body .non (fun _ => rfl) (fun z => by rw [hg] at z; cases z) l hl a ha)
    rw [eo, hg, if_pos rfl] at kk
    exact ⟨_, rfl, _, rfl, iteF kk⟩
  | false =>
    refine iteF ⟨(by show 1 ≤ sizeLine; decide), fun l hl => ?_⟩
    have h4 := (Chg.same h3 (Same.new (o := .lst [V.str "torn"]) hl)).at_
    have hx4 : (upd (upd H2 d.W (.lst ((c.gw.1.wears.set b.toNat (c.wears.getD b.toNat 0 + 1)).map V.int))) l (.lst [V.str "torn"])) a3 = _ := (Same.new (o := .lst [V.str "torn"]) hl) _ _ hx3
    refine ⟨_, rfl, d.p, _, d.dx, _, _, rfl, h4.ob, F.cl_Chip, F.n_rows, chipF_rows, _, rfl, _, _, _, _, rfl, rfl, SqL.of h4.rows, atI_rs hb.1 ha3, _, _, rfl, .inl (SqL.of hx4), ?_⟩
    refine ⟨l, _, _, rfl, rfl, upd_same, by omega, hm64, hrep, fun a ha => ?_⟩
    rw [hm1, rep1]
    have h5 := (Chg.same h4 (Same.new (o := .lst (List.replicate c.m (V.str "torn"))) ha)).at_
    refine ⟨_, rfl, d.p, _, d.dx, _, _, rfl, h5.ob, F.cl_Chip, F.n_rows, chipF_rows, _, rfl, d.L, _, b, b.toNat, rfl, rfl, h5.rows, ixN_of hb.1 (by rw [List.length_map, h.len]; exact hb.2), ?_⟩
    rw [← List.map_set]
    have kk := k _ _ (body (.str "torn") (fun z => by rw [hg] at z; cases z) (fun _ => rfl) l hl a ha)
    rw [eo, hg, if_neg Bool.false_ne_true] at kk
    exact ⟨_, rfl, _, rfl, iteT kk⟩
end

structure News (H1 H : Hp) (D : Addr) (as : List Addr) (os : Nat → HO) : Prop where
  at_ : ∀ i a, as[i]? = some a → H a = some (os i)
  nd : as.Nodup
  new : ∀ a ∈ as, H1 a = none ∧ a ≠ D
theorem News.nil {H1 H : Hp} {D : Addr} {os : Nat → HO} : News H1 H D [] os := ⟨fun i a h => by simp at h, List.nodup_nil, fun a h => by cases h⟩
theorem News.snoc {H1 H H' H'' : Hp} {D a : Addr} {as : List Addr} {os : Nat → HO} (n : News H1 H D as os) (s1 : Same H1 H) (hD : H1 D = none) (hDi : ∃ o, H D = some o) (s : Same H H') (ha : H a = none) (ha' : H' a = some (os as.length)) (hh : ∀ b o, H' b = some o → b ≠ D → H'' b = some o) : News H1 H'' D (as ++ [a]) os where
  at_ := fun i x h => by
    have ne : x ≠ D := by
      by_cases hi : i < as.length
      · rw [List.getElem?_append_left hi] at h
        exact (n.new x (List.mem_of_getElem? h)).2
      · rw [List.getElem?_append_right (by omega)] at h
        have hx : x = a := by
          cases q : i - as.length with
          | zero => rw [q] at h; exact (Option.some.inj h).symm
          | succ k => rw [q] at h; simp at h
        obtain ⟨o, ho⟩ := hDi
        rw [hx]
        exact (ne_of_none ho ha).symm
    refine hh _ _ ?_ ne
    by_cases hi : i < as.length
    · rw [List.getElem?_append_left hi] at h
      exact s _ _ (n.at_ i x h)
    · rw [List.getElem?_append_right (by omega)] at h
      cases q : i - as.length with
      | zero =>
        rw [q] at h
        have hx : a = x := Option.some.inj h
        have e : i = as.length := by omega
        rw [← hx, e]; exact ha'
      | succ k => rw [q] at h; simp at h
  nd := by
    refine nd_snoc n.nd fun m => ?_
    obtain ⟨i, hi⟩ := List.getElem?_of_mem m
    have := n.at_ i a hi
    rw [ha] at this; cases this
  new := fun x hx => by
    rcases List.mem_append.mp hx with m | m
    · exact n.new x m
    · have e := List.mem_singleton.mp m
      subst e
      refine ⟨s1.free ha, ?_⟩
      obtain ⟨o, ho⟩ := hDi
      exact (ne_of_none ho ha).symm
theorem lc_newsR {lo : Int} {n : Nat} {k : Nat} {te : TE} {vs : List Nat} {σ : L2.St} {H1 : Hp} {D : Addr} {Qd : Hp → Prop} (os : Nat → HO) (hz : n ≤ sizeLine) (hD : H1 D = none)
    (st : ∀ (i : Nat) H, i < n → Same H1 H → ∀ R : V → Hp → Prop, (∀ H' a, H a = none → Same H H' → H' a = some (os i) → R (.ref a) H') → te ((wipe σ vs).set k (some (.int (lo + i)))) H R)
    (hw : ∀ x, wipe ((wipe σ vs).set k (some x)) vs = wipe σ vs) (hd : ∀ H as, Same H1 H → H D = some (.lst (as.map V.ref)) → as.length = n → News H1 H D as os → Qd H) :
    ∃ W : Nat → Nat → Hp → Prop, (∃ m, W 0 m (upd H1 D (.lst []))) ∧ ∀ i m H, W i m H →
      ((Itr lo n).stop i H ∧ Qd H) ∨ ((Itr lo n).go i H ∧ ∃ Nx : Hp → Prop, (∀ H', Nx H' → ∃ m', m' < m ∧ W (i + 1) m' H') ∧ ∀ x H', (Itr lo n).yld i H x H' → gName k x (wipe σ vs) H' fun σ2 H2 => wipe σ2 vs = wipe σ vs ∧ tYes σ2 H2 fun b H3 =>
        if b = true then te σ2 H3 fun y H4 => ∃ acc, H4 D = some (.lst acc) ∧ acc.length < sizeLine ∧ Nx (upd H4 D (.lst (acc ++ [y]))) else Nx H3) := by
  refine lc_range (lo := lo) (n := n) (fun i H => ∃ as : List Addr, Same H1 H ∧ H D = some (.lst (as.map V.ref)) ∧ as.length = i ∧ News H1 H D as os) ⟨[], Same.new hD, upd_same, rfl, .nil⟩ (fun i H hi p => ?_) fun H p => ?_
  · obtain ⟨as, s, hDi, hl, N⟩ := p
    refine ⟨hw _, yes_of (P1 := fun H3 => te _ H3 _) ?_⟩
    refine st i H hi s _ fun H' a ha s' ha' => ?_
    refine ⟨as.map V.ref, s' _ _ hDi, by rw [List.length_map]; omega, as ++ [a], fun b o e => ?_, ?_, ?_, ?_⟩
    · rw [upd_ne (ne_of_none e hD)]
      exact s' _ _ (s _ _ e)
    · rw [List.map_append]; exact upd_same
    · rw [List.length_append, hl]; rfl
    · exact N.snoc s hD ⟨_, hDi⟩ s' ha (by rw [hl]; exact ha') fun b o e ne => by rw [upd_ne ne]; exact e
  · obtain ⟨as, s, hDi, hl, N⟩ := p
    exact hd H as s hDi hl N
theorem lc_news {K : PySem.W.Frag} {c : Addr} {xs : List V} {k : Nat} {te : TE} {vs : List Nat} {σ : L2.St} {H1 : Hp} {D : Addr} {Qd : Hp → Prop} (os : Nat → HO) (hz : xs.length ≤ sizeLine) (hS : SqL K H1 c xs) (hD : H1 D = none)
    (st : ∀ (i : Nat) (x : V) (H : Hp), xs[i]? = some x → Same H1 H → ∀ R : V → Hp → Prop, (∀ H' a, H a = none → Same H H' → H' a = some (os i) → R (.ref a) H') → te ((wipe σ vs).set k (some x)) H R)
    (hw : ∀ x, wipe ((wipe σ vs).set k (some x)) vs = wipe σ vs) (hd : ∀ H as, Same H1 H → H D = some (.lst (as.map V.ref)) → as.length = xs.length → News H1 H D as os → Qd H) :
    ∃ W : Nat → Nat → Hp → Prop, (∃ m, W 0 m (upd H1 D (.lst []))) ∧ ∀ i m H, W i m H →
      ((Itl K c).stop i H ∧ Qd H) ∨ ((Itl K c).go i H ∧ ∃ Nx : Hp → Prop, (∀ H', Nx H' → ∃ m', m' < m ∧ W (i + 1) m' H') ∧ ∀ x H', (Itl K c).yld i H x H' → gName k x (wipe σ vs) H' fun σ2 H2 => wipe σ2 vs = wipe σ vs ∧ tYes σ2 H2 fun b H3 =>
        if b = true then te σ2 H3 fun y H4 => ∃ acc, H4 D = some (.lst acc) ∧ acc.length < sizeLine ∧ Nx (upd H4 D (.lst (acc ++ [y]))) else Nx H3) := by
  refine lc_list (K := K) (a := c) (xs := xs) (fun i H => ∃ as : List Addr, Same H1 H ∧ H D = some (.lst (as.map V.ref)) ∧ as.length = i ∧ News H1 H D as os) ⟨[], Same.new hD, upd_same, rfl, .nil⟩ (fun i H _ ⟨as, s, _⟩ => s.seq hS) (fun i x H hx p => ?_) fun H p => ?_
  · obtain ⟨as, s, hDi, hl, N⟩ := p
    have hi := (List.getElem?_eq_some_iff.mp hx).1
    refine ⟨hw _, yes_of (P1 := fun H3 => te _ H3 _) ?_⟩
    refine st i x H hx s _ fun H' a ha s' ha' => ?_
    refine ⟨as.map V.ref, s' _ _ hDi, by rw [List.length_map]; omega, as ++ [a], fun b o e => ?_, ?_, ?_, ?_⟩
    · rw [upd_ne (ne_of_none e hD)]
      exact s' _ _ (s _ _ e)
    · rw [List.map_append]; exact upd_same
    · rw [List.length_append, hl]; rfl
    · exact N.snoc s hD ⟨_, hDi⟩ s' ha (by rw [hl]; exact ha') fun b o e ne => by rw [upd_ne ne]; exact e
  · obtain ⟨as, s, hDi, hl, N⟩ := p
    exact hd H as s hDi hl N
theorem mem_rep {α : Type} {n : Nat} {x y : α} (h : y ∈ List.replicate n x) : y = x := List.eq_of_mem_replicate h
section
variable {K : PySem.W.Frag} {A : Ad} {vs : List V} {H : Hp} {Q : VK} {E : XK}
theorem tst_lele {a c x : Int} {i : Nat} {σ : L2.St} {H : Hp} {R : Bool → Hp → Prop} (hx : σ[i]? = some (some (.int x))) (h : R (decide (a ≤ x ∧ x ≤ c)) H) : tTest (tChain zLe zLe (tC (.int a)) (tVar i) (tC (.int c))) σ H R := by
  refine ⟨_, hx, _, _, rfl, rfl, _, rfl, ?_⟩
  by_cases h0 : a ≤ x
  · rw [if_pos (decide_eq_true h0)]
    refine ⟨_, _, rfl, rfl, _, rfl, ?_⟩
    have e : decide (a ≤ x ∧ x ≤ c) = decide (x ≤ c) := by
      by_cases h1 : x ≤ c
      · rw [decide_eq_true h1, decide_eq_true (And.intro h0 h1)]
      · rw [decide_eq_false h1, decide_eq_false (fun z => h1 z.2)]
    rw [e] at h
    exact h
  · rw [if_neg (by rw [decide_eq_false h0]; exact Bool.false_ne_true)]
    refine ⟨_, rfl, ?_⟩
    rw [decide_eq_false (fun z => h0 z.1)] at h
    exact h
theorem replicate_get {α : Type} {n i : Nat} {x : α} (h : i < n) : (List.replicate n x)[i]? = some x := by
  rw [List.getElem?_replicate, if_pos h]
theorem pure_Chip_init (F : Fac K A) (h : sp_Chip_init K A vs H Q E) : t_Chip_init K A E { nx := fun _ H' => Q .non H', rt := Q } (start N_Chip_init vs) H := by
  obtain ⟨p, dx, b, m, rfl, hp, k1, k2⟩ := h
  refine tst_lele (x := b) rfl ?_
  show if (!decide ((4 : Int) ≤ b ∧ b ≤ 32)) = true then _ else _
  by_cases hb : (4 : Int) ≤ b ∧ b ≤ 32
  rotate_left
  · rw [decide_eq_false hb]
    exact iteT (iteT (k1 fun z => hb ⟨z.1, z.2.1⟩))
  rw [decide_eq_true hb]
  refine iteF (tst_lele (x := m) rfl ?_)
  show if (!decide ((2 : Int) ≤ m ∧ m ≤ 16)) = true then _ else _
  by_cases hm : (2 : Int) ≤ m ∧ m ≤ 16
  rotate_left
  · rw [decide_eq_false hm]
    exact iteT (k1 fun z => hm ⟨z.2.2.1, z.2.2.2⟩)
  rw [decide_eq_true hm]
  refine iteF ?_
  refine ⟨_, rfl, b, rfl, by omega, by omega, fun D hD => ?_⟩
  refine lc_newsR (lo := 0) (n := b.toNat) (fun _ => .lst (List.replicate m.toNat .non)) (sz32 (by omega)) hD (fun i H1 hi s R r => ?_) (fun _ => rfl) fun H1 as s hD1 hlen N => ?_
  · refine ⟨(by show 1 ≤ sizeLine; decide), fun l hl => ?_⟩
    refine ⟨_, rfl, l, m, _, rfl, rfl, upd_same, by omega, by omega, (by show 1 * m.toNat ≤ sizeLine; exact sz16 (by omega)), fun a ha => ?_⟩
    rw [rep1]
    have s1 : Same H1 (upd H1 l (.lst [V.non])) := Same.new hl
    exact r _ a (s1.free ha) (s1.trans (Same.new ha)) upd_same
  have hp1 := s _ _ hp
  have npD : p ≠ D := ne_of_none hp hD
  refine ⟨_, rfl, p, A.chip, dx, [], rfl, hp1, F.cl_Chip, F.n_rows, (by show 0 < 1000; decide), ?_⟩
  refine ⟨(by show 1 ≤ sizeLine; decide), fun l hl => ?_⟩
  have npl : p ≠ l := fun z => by rw [← z, upd_same] at hl; cases hl
  have hl1 : H1 l = none := by rw [upd_ne npl.symm] at hl; exact hl
  refine ⟨_, rfl, l, b, _, rfl, rfl, upd_same, by omega, by omega, (by show 1 * b.toNat ≤ sizeLine; exact sz32 (by omega)), fun w hw => ?_⟩
  rw [rep1]
  have nwl : w ≠ l := fun z => by rw [z, upd_same] at hw; cases hw
  have nwp : w ≠ p := fun z => by rw [z, upd_ne npl, upd_same] at hw; cases hw
  have hw1 : H1 w = none := by rw [upd_ne nwl, upd_ne nwp] at hw; exact hw
  refine ⟨_, rfl, p, A.chip, dx, [("rows", .ref D)], rfl, (by rw [upd_ne nwp.symm, upd_ne npl, upd_same]; rfl), F.cl_Chip, F.n_wears, (by show 1 < 1000; decide), ?_⟩
  refine ⟨_, rfl, p, A.chip, dx, [("rows", .ref D), ("wears", .ref w)], rfl, (by rw [upd_same]; simp [putF, Ne.symm n_wr]), F.cl_Chip, F.n_many, (by show 2 < 1000; decide), ?_⟩
  refine ⟨_, rfl, p, A.chip, dx, [("rows", .ref D), ("wears", .ref w), ("many", .int 0)], rfl, (by rw [upd_same]; simp [putF, Ne.symm n_mr, Ne.symm n_mw]), F.cl_Chip, F.n_left, (by show 3 < 1000; decide), ?_⟩
  refine ⟨_, rfl, p, A.chip, dx, [("rows", .ref D), ("wears", .ref w), ("many", .int 0), ("left", .non)], rfl, (by rw [upd_same]; simp [putF, Ne.symm n_lr, Ne.symm n_lw, Ne.symm n_lm]), F.cl_Chip, F.n_is_cut, (by show 4 < 1000; decide), ?_⟩
  have ef : putF "is_cut" (V.bl false) [("rows", V.ref D), ("wears", .ref w), ("many", .int 0), ("left", .non)] = chipF D w 0 .non false := by simp [putF, chipF, Ne.symm n_cr, Ne.symm n_cw, Ne.symm n_cm, Ne.symm n_cl]
  rw [upd_upd, upd_upd, upd_upd, ef]
  have nDw : D ≠ w := ne_of_none hD1 hw1
  have nDl : D ≠ l := ne_of_none hD1 hl1
  have other : ∀ x o, H1 x = some o → x ≠ p → (upd (upd (upd (upd H1 p (.ins A.chip dx (putF "rows" (.ref D) []))) l (.lst [V.int 0])) w (.lst (List.replicate b.toNat (V.int 0)))) p (.ins A.chip dx (chipF D w 0 .non false))) x = some o := fun x o e hx => by
    rw [upd_ne hx, upd_ne (ne_of_none e hw1), upd_ne (ne_of_none e hl1), upd_ne hx]; exact e
  have live : ∀ x, (upd (upd (upd (upd H1 p (.ins A.chip dx (putF "rows" (.ref D) []))) l (.lst [V.int 0])) w (.lst (List.replicate b.toNat (V.int 0)))) p (.ins A.chip dx (chipF D w 0 .non false))) x = none → H x = none := fun x e => by
    by_cases hx : x = p
    · subst hx; rw [upd_same] at e; cases e
    · refine s.free ?_
      cases q : H1 x with
      | none => rfl
      | some o => rw [other x o q hx] at e; cases e
  refine k2 ⟨hb.1, hb.2, hm.1, hm.2⟩ ⟨p, dx, D, w, as⟩ _ ?_ rfl ?_ ?_
  · refine { ob := upd_same, rows := other _ _ hD1 npD.symm, wears := ?_, len := ?_, row := fun i a e => ?_, wlen := ?_, pgs := fun xs hx => ?_, nd := ?_, lo := ?_, hi := ?_, mlo := ?_, mhi := ?_ }
    · show upd _ p _ w = _
      rw [upd_ne nwp, upd_same]
      show some (HO.lst (List.replicate b.toNat (V.int 0))) = some (.lst ((List.replicate b.toNat (0 : Int)).map V.int))
      rw [List.map_replicate]
    · show as.length = (List.replicate b.toNat _).length
      rw [List.length_replicate]; exact hlen
    · have hi : i < b.toNat := by rw [← hlen]; exact (List.getElem?_eq_some_iff.mp e).1
      refine ⟨List.replicate m.toNat .non, replicate_get hi, other _ _ (N.at_ i a e) fun z => ?_⟩
      have := (N.new a (List.mem_of_getElem? e)).1
      rw [z, hp] at this
      cases this
    · show (List.replicate b.toNat (0 : Int)).length = (List.replicate b.toNat _).length
      rw [List.length_replicate, List.length_replicate]
    · have e := mem_rep hx
      rw [e]; exact List.length_replicate
    · refine List.nodup_cons.mpr ⟨fun z => ?_, List.nodup_cons.mpr ⟨fun z => ?_, N.nd⟩⟩
      · rcases List.mem_cons.mp z with q | q
        · exact nDw q
        · exact (N.new D q).2 rfl
      · obtain ⟨i, hi⟩ := List.getElem?_of_mem z
        have := N.at_ i w hi
        rw [hw1] at this; cases this
    · show 4 ≤ (List.replicate b.toNat _).length
      rw [List.length_replicate]; omega
    · show (List.replicate b.toNat _).length ≤ 32
      rw [List.length_replicate]; omega
    · show 2 ≤ m.toNat
      omega
    · show m.toNat ≤ 16
      omega
  · intro x hx
    rcases hx with z | z | z | z
    · exact .inl z
    · rw [show x = D from z]; exact .inr hD
    · rw [show x = w from z]; exact .inr (s.free hw1)
    · exact .inr (N.new x z).1
  · exact ⟨fun x o e hx => other x o (s _ _ e) hx, fun x xs e => other x _ (s _ _ e) (fun z => by rw [z, hp] at e; cases e), live⟩
theorem pure_copied (F : Fac K A) (h : sp_copied K A vs H Q E) : t_copied K A E { nx := fun _ H' => Q .non H', rt := Q } (start N_copied vs) H := by
  obtain ⟨d, c, rfl, h, k⟩ := h
  refine ⟨_, rfl, d.p, d.dx, _, rfl, h.ob, no5, d, c, rfl, h, fun t ht => ?_⟩
  refine ⟨t, _, rfl, SqT.of upd_same, rfl, _, _, rfl, _, _, rfl, rfl, ?_⟩
  have h1 : ChipAt A (upd H t (.tup [.int c.rows.length, .int c.m])) d c := (Chg.same h (Same.new ht)).at_
  refine ⟨_, rfl, _, rfl, ?_⟩
  intro x dx nx ndx ndn
  have hso : sizeOk c.rows.length c.m := by
    have := h.lo; have := h.hi; have := h.mlo; have := h.mhi
    exact ⟨by omega, by omega, by omega, by omega⟩
  refine ⟨x, dx, _, _, rfl, upd_same, fun z => absurd hso z, fun _ d2 H2 hc2 hp2 sub2 fr2 => ⟨rfl, ?_⟩⟩
  subst hp2
  have s2 : Same (upd H t (.tup [.int c.rows.length, .int c.m])) H2 := fun y o e => by
    refine fr2.keep y o ?_ (fun z => by rw [z] at e; exact absurd e (by rw [nx]; exact fun q => by cases q))
    rw [upd_ne (ne_of_none e nx), upd_ne (ne_of_none e ndx)]; exact e
  have s02 : Same H H2 := (Same.new ht).trans s2
  have h2 : ChipAt A H2 d c := (Chg.same h s02).at_
  refine ⟨_, rfl, d.p, _, d.dx, _, _, rfl, h2.ob, F.cl_Chip, F.n_rows, chipF_rows, d.L, rfl, ⟨_, SqL.of h2.rows⟩, fun D hD => ?_⟩
  refine lc_news (K := K) (c := d.L) (xs := d.rs.map V.ref) (fun i => .lst (c.rows.getD i [])) (by rw [List.length_map, h.len]; exact sz32 h.hi) (SqL.of h2.rows) hD (fun i y H3 hi s R r => ?_) (fun _ => rfl) fun H3 as s hD3 hlen N => ?_
  · rw [List.getElem?_map] at hi
    cases q : d.rs[i]? with
    | none => rw [q] at hi; cases hi
    | some a =>
      rw [q] at hi
      have ey : V.ref a = y := Option.some.inj hi
      subst ey
      obtain ⟨xs, hx, ha⟩ := h2.row i a q
      refine ⟨_, rfl, a, xs, rfl, .inl (SqL.of (s _ _ ha)), fun l hl => r _ l hl (Same.new hl) ?_⟩
      rw [List.getD_eq_getElem?_getD, hx]; exact upd_same
  have hc3 : ChipAt A H3 d2 (CS.new c.rows.length c.m) := (Chg.same hc2 s).at_
  have h3 : ChipAt A H3 d c := (Chg.same h2 s).at_
  refine ⟨_, rfl, d2.p, _, d2.dx, _, rfl, hc3.ob, F.cl_Chip, F.n_rows, chipF_len, ?_⟩
  rw [chipF_pr]
  have npd : d.p ≠ d2.p := fun z => by
    have e := h.ob
    have e2 : (upd H t (.tup [.int c.rows.length, .int c.m])) d2.p = none := nx
    rw [← z, upd_ne (ne_of_none e ht), e] at e2; cases e2
  have nWp : d.W ≠ d2.p := ne_of h3.wears hc3.ob (by intro z; cases z)
  refine ⟨_, rfl, d.p, _, d.dx, _, _, rfl, (by rw [upd_ne npd]; exact h3.ob), F.cl_Chip, F.n_wears, chipF_wears, d.W, _, rfl, .inl (SqL.of (by rw [upd_ne nWp]; exact h3.wears)), fun w hw => ?_⟩
  have nwp : w ≠ d2.p := fun z => by rw [z, upd_same] at hw; cases hw
  have hw3 : H3 w = none := by rw [upd_ne nwp] at hw; exact hw
  refine ⟨_, rfl, d2.p, _, d2.dx, _, rfl, (by rw [upd_ne nwp.symm, upd_same]), F.cl_Chip, F.n_wears, chipF_len, ?_⟩
  rw [chipF_pw]
  have ndw : d.p ≠ w := ne_of_none h3.ob hw3
  refine ⟨_, rfl, d.p, _, d.dx, _, _, rfl, (by rw [upd_ne npd, upd_ne ndw, upd_ne npd]; exact h3.ob), F.cl_Chip, F.n_many, chipF_many, _, rfl, d2.p, _, d2.dx, _, rfl, upd_same, F.cl_Chip, F.n_many, chipF_len, ?_⟩
  rw [upd_upd, chipF_pm]
  have other : ∀ y o, H3 y = some o → y ≠ d2.p → (upd (upd (upd H3 d2.p (.ins A.chip d2.dx (chipF D d2.W (CS.new c.rows.length c.m).many (leftV (CS.new c.rows.length c.m).left) (CS.new c.rows.length c.m).cut))) w (.lst (c.wears.map V.int))) d2.p (.ins A.chip d2.dx (chipF D w c.many (leftV (CS.new c.rows.length c.m).left) (CS.new c.rows.length c.m).cut))) y = some o := fun y o e hy => by
    rw [upd_ne hy, upd_ne (ne_of_none e hw3), upd_ne hy]; exact e
  refine ⟨_, rfl, ?_⟩
  have nDp : D ≠ d2.p := ne_of hD3 hc3.ob (by intro z; cases z)
  have asl : as.length = c.rows.length := by rw [hlen, List.length_map, h.len]
  have nD0 : H D = none := s02.free hD
  refine k ⟨d2.p, d2.dx, D, w, as⟩ _ ?_ ?_ ?_
  · refine { ob := upd_same, rows := other _ _ hD3 nDp, wears := ?_, len := asl, row := fun i a e => ?_, wlen := h.wlen, pgs := h.pgs, nd := ?_, lo := h.lo, hi := h.hi, mlo := h.mlo, mhi := h.mhi }
    · show upd _ d2.p _ w = _
      rw [upd_ne nwp, upd_same]
    · have hi : i < c.rows.length := by rw [← asl]; exact (List.getElem?_eq_some_iff.mp e).1
      refine ⟨c.rows[i], List.getElem?_eq_getElem hi, ?_⟩
      have ea := N.at_ i a e
      rw [List.getD_eq_getElem?_getD, List.getElem?_eq_getElem hi] at ea
      refine other _ _ ea fun z => ?_
      have := (N.new a (List.mem_of_getElem? e)).1
      rw [z, hc2.ob] at this
      cases this
    · refine List.nodup_cons.mpr ⟨fun z => ?_, List.nodup_cons.mpr ⟨fun z => ?_, N.nd⟩⟩
      · rcases List.mem_cons.mp z with q | q
        · exact ne_of_none hD3 hw3 q
        · exact (N.new D q).2 rfl
      · obtain ⟨i, hi⟩ := List.getElem?_of_mem z
        have := N.at_ i w hi
        rw [hw3] at this; cases this
  · intro y hy
    rcases hy with z | z | z | z
    · rw [show y = d2.p from z]
      exact (Same.new (o := .tup [.int c.rows.length, .int c.m]) ht).free nx
    · rw [show y = D from z]; exact nD0
    · rw [show y = w from z]; exact (s02.trans s).free hw3
    · exact s02.free (N.new y z).1
  · intro y o e
    refine other _ _ ((s02.trans s) _ _ e) fun z => ?_
    have e2 : (upd H t (.tup [.int c.rows.length, .int c.m])) d2.p = none := nx
    rw [← z, upd_ne (ne_of_none e ht), e] at e2; cases e2
end

section
open HotX
variable {prog : Program} {w : World} {A : Around} {E : Value → Shared → Prop} {s : Shared}
theorem next_end_hot {it l ex : Addr} {i : Nat} {items : Array Value} {Q : Option Value → Shared → Prop} (hot : HotAt A ex s.heap) (hi : s.heap.IsListIter it l i) (hl : s.heap.IsList l items) (hx : items[i]? = none) (hne : ex ≠ it)
    (k : ∀ h', Heap.ExtBut it s.heap h' → Q none { s with heap := h' }) : wpAny (model prog w) A (pyNext (.ref it)) Q E s := by
  obtain ⟨oi, gi, ci, di⟩ := id hi
  obtain ⟨oL, gL, _, nL, dL⟩ := hl
  obtain ⟨hh, oX, vX, gX, dX, cX⟩ := hot
  unfold pyNext
  refine wpAny_bind (wpAny_attempt (wpAny_callSpecial?_slot (name := Str.ofString "__next__") hi.typeIs slot_listiter_next (wpAny_call_entry slot_listiter_next hi.typeIs entry_listiter_next ?_ (args_listiter_next _))))
  show wpAny _ _ (field (.ref it) 0 >>= _) _ _ s
  refine wpAny_bind (wpAny_field gi di (x := .ref l) rfl ?_)
  show wpAny _ _ (if (Value.ref l == Value.none) = true then _ else _) _ _ s
  rw [if_neg (show ¬ ((Value.ref l == Value.none) = true) from Bool.false_ne_true)]
  show wpAny _ _ (field (.ref it) 1 >>= _) _ _ s
  refine wpAny_bind (wpAny_field gi di (x := .int i 0) rfl ?_)
  show wpAny _ _ (seqItems? (.ref l) >>= _) _ _ s
  refine wpAny_bind (wpAny_seqItems gL dL ?_)
  simp only [Int.toNat_natCast, hx]
  refine wpAny_bind (wpAny_rule (wpAny_bind (wpAny_setField gi di (by simp) ?_)))
  show wpAny _ _ (newExc (.type "StopIteration") [] >>= _) _ _ _
  refine wpAny_bind ?_
  simp only [newExc, newTuple]
  refine wpAny_bind (wpAny_newObj_type ?_ (by size_fits))
  refine wpAny_bind (m := firstArgMember _ _) (wpAny_of_eq (a := Value.none) (by first | rfl | (simp only [firstArgMember]; rfl)) ?_)
  refine wpAny_newObj_type ?_ (by size_fits)
  have gX1 : (s.heap.update it (Obj.mapFields (·.setIfInBounds 0 .none))).get? ex = some oX := (Heap.get?_update_other _ _ hne.symm).trans gX
  have eb : Heap.ExtBut it s.heap (s.heap.update it (Obj.mapFields (·.setIfInBounds 0 .none))) := (Heap.SameBut.update ..).extBut
  refine raiseNew_hot ⟨hh, oX, vX, Heap.get?_push_of_some _ (Heap.get?_push_of_some _ gX1), dX, cX⟩ (Nat.ne_of_lt (Heap.lt_size (Heap.get?_push_of_some _ gX1))) (Heap.get?_push_size _ rfl) rfl
    (by first | (simp; done) | (simp; omega) | (simp only [Array.size_append]; simp; omega)) ?_
  refine wpAny_bind (wpAny_isInstance (b := true) (T := "StopIteration") ⟨_, Heap.get?_update_self _ (Heap.get?_push_size _ rfl) rfl, rfl⟩ isSubtype_stop ?_)
  refine wpAny_pure (k _ fun b o hb e => ?_)
  rw [Heap.get?_update_other _ _ (Nat.ne_of_gt (Heap.lt_size (Heap.get?_push_of_some _ (eb b o hb e))))]
  exact Heap.get?_push_of_some _ (Heap.get?_push_of_some _ (eb b o hb e))
end
theorem wipe_one {σ : L2.St} {k : Nat} (x : Option V) : wipe ((wipe σ [k]).set k x) [k] = wipe σ [k] := by
  show ((σ.set k none).set k x).set k none = σ.set k none
  rw [List.set_set, List.set_set]
def tLcH (K : PySem.W.Frag) (tl : TE) (k : Nat) (te : TE) : TE := fun σ H Q => tl σ H fun v H1 => ∃ (a : Addr) (xs : List V) (g : V → V), v = .ref a ∧ SqL K H1 a xs ∧ xs.length < sizeLine ∧
  (∀ x ∈ xs, ∀ H2 (R : VK), R (g x) H2 → te ((wipe σ [k]).set k (some x)) H2 R) ∧ ∀ D, H1 D = none → Q (.ref D) (upd H1 D (.lst (xs.map g)))
theorem pe_lcH {X : Cx} {p : Addr × Obj} {tl te : TE} {iter elt tg : Expr} {scope : Scope} {y : Str} {k : Nat} {pos : Pos} (h1 : L2H.Hot1 X.A p) (h2 : p ∈ X.pn) (hN : X.N.Nodup) (hl : PE X iter tl) (ok : BlkOk X.N X.env.scope scope [(y, k)])
    (hg : ∀ s H C cl fp, PG (X.blk s H scope (compEnvC scope cl C X.env) fp) tg (gName k)) (he : ∀ s H C cl fp, PE (X.blk s H scope (compEnvC scope cl C X.env) fp) elt te)
    (hs : ∀ x, foldedSetIterable iter X.env x = pure x := by intro _; rfl) : PE X (.ListComp elt [⟨tg, iter, [], 0⟩] scope pos) (tLcH X.K tl k te) := by
  refine ⟨fun pins s σ H Q I h => ?_⟩
  rw [eval_ListComp]
  have cap : ∀ z ∈ scope.names, z.2 = .free → ∃ c, X.env.cells.lookup z.1 = some c := fun z hz e => I.ok.has _ ((ok.free z hz e).imp (fun q => q) fun q => q)
  refine wpAny_comprehension_free (use := none) rfl hs (closure_ok cap) ok.kind (fun z hz e => (ok.uniq z hz).trans (by rw [e])) (thn (hl.run pins s σ H _ I h) fun v s1 ⟨xv, H1, I1, r1, a, xs, g, ev, hq, hz, ht, hQ⟩ => ?_)
  subst ev
  cases r1
  obtain ⟨its, rv, pl, _⟩ := I1.list hq
  refine wpAny_pyIter_list pl.isList ?_
  obtain ⟨it, eit⟩ : ∃ it, it = s1.heap.objs.size := ⟨_, rfl⟩
  have fIt : FpOk X pins H1 it := I1.fpOk (by rw [eit]; exact Nat.le_refl _) (by rw [eit]; exact I1.hok.fresh (Nat.le_refl _))
  rw [← eit]
  obtain ⟨s2, e2⟩ : ∃ s2 : Shared, s2 = { s1 with heap := s1.heap.push { cls := .type "list_iterator", data := .fields #[.ref a, .int 0 0] } } := ⟨_, rfl⟩
  rw [← e2]
  have I2 : Inv X pins σ H1 s2 := by rw [e2]; exact I1.kept (t' := s1.toks) fun b o e => Heap.get?_push_of_some _ e
  have st2 : s2.heap.IsListIter it a 0 := by rw [e2, eit]; exact ⟨_, Heap.get?_push_size _ rfl, rfl, rfl⟩
  refine wpAny_newObj_type (newEnv_comp ?_) (by show 0 ≤ sizeLine; decide)
  obtain ⟨D, eD⟩ : ∃ D, D = s2.heap.objs.size := ⟨_, rfl⟩
  have nD : H1 D = none := by rw [eD]; exact I2.hok.fresh (Nat.le_refl _)
  rw [← eD]
  obtain ⟨s3, e3⟩ : ∃ s3 : Shared, s3 = { s2 with heap := s2.heap.push { cls := .type "list", data := .seq ([] : List Value).toArray } } := ⟨_, rfl⟩
  rw [← e3]
  have I3 : Inv X pins σ (upd H1 D (.lst [])) s3 := by
    rw [e3, eD]
    exact I2.laid (t' := s2.toks) (fun b o e => Heap.get?_push_of_some _ e) (Nat.le_refl _) ⟨Nat.zero_le _, [], 0, .nil, Heap.get?_push_size _ rfl⟩
  have k23 : ∀ b o, s2.heap.get? b = some o → s3.heap.get? b = some o := fun b o e => by rw [e3]; exact Heap.get?_push_of_some _ e
  obtain ⟨oi, gi, _, _⟩ := id st2
  have ltIt : it < s2.heap.objs.size := Heap.lt_size gi
  have nIt : it ≠ D := by rw [eD]; exact Nat.ne_of_lt ltIt
  have fIt3 : FpOk X pins (upd H1 D (.lst [])) it := ⟨by rw [upd_ne nIt]; exact fIt.1, fIt.2⟩
  have I4 := block_start (fp := [it]) I3 ok hN fun b hb => by
    rw [List.mem_singleton.mp hb]
    exact ⟨fIt3, by rw [e3, Heap.size_push]; exact Nat.lt_succ_of_lt ltIt⟩
  obtain ⟨H3, eH3⟩ : ∃ H3, H3 = upd H1 D (.lst []) := ⟨_, rfl⟩
  obtain ⟨C, eC⟩ : ∃ C, C = s3.heap.objs.size := ⟨_, rfl⟩
  obtain ⟨ce, ece⟩ : ∃ ce, ce = compEnvC scope (cellsFrom (s3.heap.objs.size + 1) scope.names (cloFrom X.env.cells scope.names [])) s3.heap.objs.size X.env := ⟨_, rfl⟩
  have pg := hg s3 H3 s3.heap.objs.size (cellsFrom (s3.heap.objs.size + 1) scope.names (cloFrom X.env.cells scope.names [])) [it]
  have pe := he s3 H3 s3.heap.objs.size (cellsFrom (s3.heap.objs.size + 1) scope.names (cloFrom X.env.cells scope.names [])) [it]
  rw [← ece] at pg pe
  rw [← eH3, ← ece] at I4
  have ceL : ce.locals = C := by rw [ece, eC]; rfl
  obtain ⟨s4, e4⟩ : ∃ s4 : Shared, s4 = { s3 with heap := pushCells (s3.heap.push { cls := .type "dict", data := .dict #[] }) scope.names } := ⟨_, rfl⟩
  rw [← e4] at I4
  have k34 : ∀ b o, s3.heap.get? b = some o → s4.heap.get? b = some o := fun b o e => by rw [e4]; exact pushCells_keeps _ _ _ _ (Heap.get?_push_of_some _ e)
  have P3 := I3.pin p (List.mem_append_left _ h2)
  have I4p : Inv (X.blk s3 H3 scope ce [it]) [p] (wipe σ [k]) H3 s4 := I4.pins_of fun q hq => by
    rw [List.mem_singleton.mp hq]
    refine ⟨k34 _ _ P3.1, by rw [eH3]; exact P3.2.1, ?_, fun hm => (List.mem_cons.mp (I3.stkSub p.1 hm)).elim P3.2.2.1 P3.2.2.2.1, P3.2.2.2.2⟩
    show p.1 ≠ ce.locals
    rw [ceL, eC]
    exact Nat.ne_of_lt (Heap.lt_size P3.1)
  have st4 : s4.heap.IsListIter it a 0 := by
    obtain ⟨o, g1, g2⟩ := st2
    exact ⟨o, k34 _ _ (k23 _ _ g1), g2⟩
  have npi : p.1 ≠ it := fIt.2.2.2.2.2 p (List.mem_append_left _ h2)
  show codeAny (model X.prog X.w) X.A (.compStart (.ListComp elt [⟨tg, iter, [], 0⟩] scope pos) 0 (.ref it) (.ref D) (compEnvC scope (cellsFrom (s3.heap.objs.size + 1) scope.names (cloFrom X.env.cells scope.names [])) s3.heap.objs.size X.env)) (compPost (model X.prog X.w) X.A X.xe none (EP X pins σ Q) (.ref D) s3.heap.objs.size) { s3 with heap := pushCells (s3.heap.push { cls := .type "dict", data := .dict #[] }) scope.names }
  rw [← ece, ← e4, ← eC]
  rw [← eH3] at I3 fIt3
  have mIt : it ∈ ([it] : List Addr) := List.mem_singleton.mpr rfl
  have stat : ∀ {σ' : L2.St} {H' : Hp} {s' : Shared}, Inv (X.blk s3 H3 scope ce [it]) [p] σ' H' s' → H' it = none → FpOk (X.blk s3 H3 scope ce [it]) [p] H' it := fun {σ' H' s'} J hn =>
    ⟨hn, (J.ok.exf it mIt).1, J.ok.exfs it mIt, .inl mIt, fun x c e => (J.ok.exf it mIt).2 x c e, fun q hq => by
      have hq : q ∈ [p] := hq
      rw [List.mem_singleton.mp hq]; exact npi⟩
  have none_it : ∀ ys, upd H1 D (.lst ys) it = none := fun ys => by rw [upd_ne nIt]; exact fIt.1
  have twice : ∀ ys zs, upd (upd H1 D (.lst ys)) D (.lst zs) = upd H1 D (.lst zs) := fun ys zs => by
    funext b
    by_cases q : b = D
    · rw [q, upd_same, upd_same]
    · rw [upd_ne q, upd_ne q, upd_ne q]
  have loop : codeAny (model X.prog X.w) X.A (.compLoop (.ListComp elt [⟨tg, iter, [], 0⟩] scope pos) 0 (.ref it) (.ref D) ce) (compPost (model X.prog X.w) X.A X.xe none (EP X pins σ Q) (.ref D) C) s4 := by
    refine compLoop_any (fun n s' => ∃ i, n + i = xs.length ∧ Inv (X.blk s3 H3 scope ce [it]) [p] (wipe σ [k]) (upd H1 D (.lst ((xs.take i).map g))) s' ∧ s'.heap.IsListIter it a i) ?_ xs.length ⟨0, rfl, ?_, st4⟩
    rotate_left
    · rw [eH3] at I4p ⊢
      exact I4p
    rintro n s5 ⟨i, hn, I5, st5⟩
    have q5 : SqL X.K (upd H1 D (.lst ((xs.take i).map g))) a xs := (show Same H1 _ from fun b o e => by rw [upd_ne (ne_of_none e nD)]; exact e).seq hq
    obtain ⟨its5, rv5, pl5, _⟩ := I5.list q5
    have P5 := I5.pin p (List.mem_append_right _ (List.mem_singleton.mpr rfl))
    obtain ⟨hh, vX, dX, cX⟩ := id h1
    have F5 := stat I5 (none_it _)
    have hl5 := rv5.length
    cases hx : xs[i]? with
    | none =>
      have hi : xs.length ≤ i := List.getElem?_eq_none_iff.mp hx
      refine next_end_hot ⟨hh, p.2, vX, P5.1, dX, cX⟩ st5 pl5.isList (by simp; omega) npi fun h' eb => ?_
      have I6 : Inv (X.blk s3 H3 scope ce [it]) [p] (wipe σ [k]) (upd H1 D (.lst ((xs.take i).map g))) { s5 with heap := h' } := I5.turned (t' := s5.toks) (fun b o hb e => eb b o hb e) F5.1 F5.2.1 F5.2.2.2.1 F5.2.2.2.2.1 F5.2.2.2.2.2
      have I7 : Inv X pins σ (upd H1 D (.lst ((xs.take i).map g))) { s5 with heap := h' } := I3.call' (ch := [it]) I6.os I6.base I6.hok I6.bare fun b hb => by
        rw [List.mem_singleton.mp hb]
        exact ⟨fIt3.2.2.2.1, fIt3.2.1, fIt3.2.2.2.2.1, fIt3.2.2.2.2.2⟩
      have nC : upd H1 D (.lst ((xs.take i).map g)) C = none := by rw [← ceL]; exact I6.free
      obtain ⟨m, hns, _⟩ := I6.loc
      have hns : h'.Ns ce.locals m := hns
      rw [ceL] at hns
      have fC := I3.fpOk (b := C) (by rw [eC]; exact Nat.le_refl _) nC
      have eX : xs.take i = xs := List.take_of_length_le hi
      rw [eX] at I7 fC
      exact ⟨m, hns, fun h'' sb => ⟨.ref D, _, I7.turned (t' := s5.toks) (fun b o hb e => (sb.2 b hb).trans e) fC.1 fC.2.1 fC.2.2.2.1 fC.2.2.2.2.1 fC.2.2.2.2.2, rfl, hQ D nD⟩⟩
    | some x =>
      obtain ⟨u, hu, ru⟩ := rv5.get hx
      have hi : i < xs.length := (List.getElem?_eq_some_iff.mp hx).1
      refine wpAny_pyNext_list_item st5 pl5.isList (x := u) (by simpa using hu) fun h' st' sb => ?_
      have I6 : Inv (X.blk s3 H3 scope ce [it]) [p] (wipe σ [k]) (upd H1 D (.lst ((xs.take i).map g))) { s5 with heap := h' } := I5.turned (t' := s5.toks) (fun b o hb e => (sb.2 b hb).trans e) F5.1 F5.2.1 F5.2.2.2.1 F5.2.2.2.2.1 F5.2.2.2.2.2
      obtain ⟨o, g1, g2, g3⟩ := id st'
      refine go_of (s := { s5 with heap := h' }) g1 g2 g3 (by decide) ?_
      have I6p := I6.pinned (fp := [it]) (fun b hb => by rw [List.mem_singleton.mp hb]; exact stat I6 (none_it _)) (fun b hb => by
        rw [List.mem_singleton.mp hb]
        exact ⟨o, g1, fun v z => by rw [g3] at z; cases z⟩)
      refine thnF (pg.run _ _ _ _ x u (fun σ' H' => σ' = (wipe σ [k]).set k (some x) ∧ H' = upd H1 D (.lst ((xs.take i).map g))) I6p ru ⟨rfl, rfl⟩) fun _ s8 ⟨σ8, H8, I8, c1, c2⟩ => ?_
      rw [c1, c2] at I8
      show wpAny _ _ (forIn ([] : List Expr) true _) _ _ s8
      rw [List.forIn_nil]
      refine wpAny_pure ?_
      rw [if_pos rfl]
      refine thnF (pe.run _ s8 _ _ (fun z H' => z = g x ∧ H' = upd H1 D (.lst ((xs.take i).map g))) I8 (ht x (List.mem_of_getElem? hx) _ _ ⟨rfl, rfl⟩)) fun zv s10 ⟨z, H10, I10, r10, c3, c4⟩ => ?_
      rw [c3] at r10
      rw [c4] at I10
      have hzz : ((xs.take i).map g).length < sizeLine := by
        rw [List.length_map, List.length_take]; omega
      refine app_ok (X := X.blk s3 H3 scope ce [it]) I10 upd_same hzz r10 fun s11 I11 => ?_
      rw [L2.upd_upd] at I11
      have eT : (xs.take i).map g ++ [g x] = (xs.take (i + 1)).map g := by
        rw [List.take_add_one, hx]
        simp
      rw [eT] at I11
      have Pi := I11.pin (it, o) (List.mem_append_right _ (List.mem_append_right _ (mem_pinsAt mIt g1)))
      refine ⟨n - 1, by omega, i + 1, by omega, (I11.unpinned (pins := [p])).weak (by simp) (fun j v e => ?_), ⟨o, Pi.1, g2, g3⟩⟩
      have ne : j ≠ k := fun q => by
        rw [q] at e
        show False
        have e : (σ.set k none)[k]? = some (some v) := e
        rw [List.getElem?_set] at e
        simp at e
      rw [List.getElem?_set_ne (Ne.symm ne)]
      exact e
  exact codeAny_compStart_list loop (wpAny_pyIter_listiter st4 loop)
theorem walks_hot {prog : Program} {w : World} {A : Around} {ex I ax : Addr} {oX : Obj} {vX : Array Value} (hh : A.handled = some (.ref ex)) (dX : oX.data = .fields vX) (cX : vX[2]? = some .none) (n1 : ax ≠ I) (n2 : ex ≠ I) (items : Array Value) :
    Walks prog w A I [I, ax, ex] [I] items.size (fun i v => items[i]? = some v) (fun i h => h.IsListIter I ax i ∧ h.IsList ax items ∧ h.get? ex = some oX) where
  sub := fun b hb => by rw [List.mem_singleton.mp hb]; exact List.mem_cons_self
  frame := fun i h h' st k => ⟨st.1.at fun o e => k I (by simp) o e, st.2.1.at fun o e => k ax (by simp) o e, k ex (by simp) _ st.2.2⟩
  item := fun i s Q E hi st k => wpAny_pyNext_list_item st.1 st.2.1 (x := items[i]) (by simp [hi]) fun h' st' sb =>
    k _ h' s.toks (by simp [hi]) ⟨st', st.2.1.extBut sb.extBut n1, sb.extBut _ _ n2 st.2.2⟩ fun b o hb e => sb.extBut b o (fun z => hb (by rw [z]; exact List.mem_cons_self)) e
  done := fun s Q E st k => next_end_hot ⟨hh, oX, vX, st.2.2, dX, cX⟩ st.1 st.2.1 (by simp) n2 fun h' eb => k h' s.toks fun b o hb e => eb b o (fun z => hb (by rw [z]; exact List.mem_cons_self)) e
  self := fun _ _ _ _ st k => wpAny_pyIter_listiter st.1 k
theorem cr_sumH {X : Cx} {p : Addr × Obj} (h1 : L2H.Hot1 X.A p) (h2 : p ∈ X.pn) : CallR X (.builtin "sum") (rSum X.K) := by
  intro pins s σ H vs us Q I r h
  obtain ⟨a, ns, rfl, hs, q⟩ := h
  obtain ⟨its, rv, pl, _⟩ := I.list hs
  rw [Vals.ref1 r]
  have P0 := I.pin p (List.mem_append_left _ h2)
  obtain ⟨hh, vX, dX, cX⟩ := h1
  obtain ⟨xs, e⟩ := rv.ints.allInts.items
  have hn : numsOf (intItems xs).toList = ns := by rw [← e]; exact rv.ints.numsOf
  rw [nums_intItems] at hn
  have pl := pl.isList
  rw [e] at pl
  have lt : p.1 < s.heap.objs.size := Heap.lt_size P0.1
  refine call_sum_walkG (iter_intList pl fun s₂ e₂ st hfp hlI => ?_)
  subst e₂
  refine ⟨_, _, _, _, _, _, numAt xs, rfl, walks_hot (A := X.A.in1) hh dX cX hlI (Nat.ne_of_lt lt) (intItems xs), ⟨st.1, st.2, Heap.get?_push_of_some _ P0.1⟩, fun b hb => ?_, (fun _ _ => intItems_at), fun h' tk t' hk => ?_⟩
  · rcases List.mem_cons.mp hb with z | hb
    · exact hfp b (by rw [z]; exact List.mem_cons_self)
    · rcases List.mem_cons.mp hb with z | hb
      · exact hfp b (by rw [z]; simp)
      · rw [List.mem_singleton.mp hb]
        show p.1 < (s.heap.push _).objs.size
        rw [Heap.size_push]
        exact Nat.lt_succ_of_lt lt
  · have eS : preSum (numAt xs) (intItems xs).size = ns.sum := by
      have : (intItems xs).size = xs.size := by simp [intItems]
      rw [this, preSum_eq, List.take_of_length_le (by simp), hn]
    rw [eS]
    exact ⟨.int _, H, I.kept (t' := tk) (old_kept hk), ⟨_, rfl⟩, q⟩

theorem call_isX {X : Cx} {a D : Addr} {oe : Obj} (C : ExcC X.K D) (hz : Zc (.ref D) none oe) (hf : ∃ vs, oe.data = .fields vs) (hm : (a, oe) ∈ X.pn) : CallR X (.builtin "isinstance") (rIsE X.K D a) := by
  intro pins s σ H xs us Q I r h
  obtain ⟨c, cv, b, rfl, hcv, e, q⟩ := h
  cases r with
  | cons rx rr =>
    cases rr with
    | cons rt rr =>
      cases rr
      cases rx
      have ec := hcv _ rt
      subst ec
      have hg := (I.pin (a, oe) (List.mem_append_left _ hm)).1
      obtain ⟨vs, hv⟩ := hf
      have J : PySem.W.InstAt s.heap a oe D none := by
        obtain ⟨c1, c2, c3, c4⟩ := oe
        obtain ⟨g1, g2⟩ := hz
        dsimp only at g1 g2 hv
        subst g1 g2 hv
        exact ⟨hg, rfl, rfl, trivial⟩
      refine PySem.W.kia_one (PySem.W.handS_kitx_exc C.hg C.hk C.hs C.hd C.ha C.hn C.ht C.hm) I.kIn J e (fun z => nomatch z) fun tk => ?_
      exact ⟨.bl b, H, I.kept (t' := tk) fun _ _ z => z, rfl, q⟩
theorem pe_bltTy {X : Cx} {x : Str} {n : String} {pos : Pos} (hg : Gl X x) (hm : X.mg x = none) (hv : bootBuiltins x = some (.type n)) (hn : x ≠ "__name__" := by decide) (hd : (x == ("__debug__" : Str)) = false := by decide) : PE X (.Name x pos) (tC (.ty n)) :=
  ⟨fun pins s σ H Q I h => ld_blt I hg hm hv (show EP X pins σ Q (.type n) s from ⟨.ty n, H, I, rfl, h⟩) hn hd⟩
abbrev WordW := Addr → Hp → VK → Prop
structure FnE (P : Program) (w : World) (K : PySem.W.Frag) (mg : Str → Option Value) (base : Heap) (k : Nat) (f : Addr) (fd : FuncData) (y : Str) (sp : WordW) : Prop where
  run : ∀ (A : Around) (outer : List Env) (s : Shared) (H : Hp) (args : Args) (Q : VK) (p : Addr × Obj) (D : Addr), L2H.RoomH k A → L2H.Hot1 A p → Zc (.ref D) none p.2 → L2H.PinOk outer H s p → Env0 P w K mg base A outer s H → BindsTo s fd args [(y, .ref p.1)] → sp D H Q →
    codeAny (model P w) A (.call (.ref f) args) (CR (L2N.CX P w) outer P w H s Q E0) s
theorem fn_ofE {P : Program} {w : World} {K : PySem.W.Frag} {mg : Str → Option Value} {base : Heap} {k : Nat} {f : Addr} {name qual y : Str} {params : Arguments} {body : List Stmt} {scope : Scope} {dV kV doc pm cdv ct oc : Value} {an od : Option Addr}
    {osl : Array (Option Value)} {N : List Str} {sp : WordW} (lk : K.lookup f = some ⟨oc, od, .func (PySem.W.fnOf name qual params body scope dV kV doc pm an cdv ct), osl⟩) (hcd : PySem.W.codeIn K cdv qual = true) (S : FnScope N [y] scope)
    (hbody : ∀ (A : Around) (outer : List Env) (s : Shared) (H : Hp) (Q : VK) (p : Addr × Obj) (D : Addr), L2H.Hot1 A p → Zc (.ref D) none p.2 → L2H.RoomH k (A.deeper (envOfC qual scope s.heap.objs.size f cdv)) → sp D H Q →
      ∃ t, PSs (L2H.cxH (L2N.CX P w) P w K mg base N qual scope f cdv A outer s H E0 p) body t ∧ t { nx := fun _ H' => Q .non H', rt := Q } (L2.start N [.ref p.1]) H) :
    FnE P w K mg base (k + 1) f (PySem.W.fnOf name qual params body scope dV kV doc pm an cdv ct) y sp := by
  refine ⟨fun A outer s H args Q p D room hot hz pin e0 bd wish => ?_⟩
  have kin : K.In s.heap := e0.mod.kin.keeps fun b o e => (e0.bs b o e).1
  have nol : s.heap.NoLimit := e0.mod.nolimit.keeps fun b o e => (e0.bs b o e).1
  have hk : ∀ z ∈ [(y, Value.ref p.1)], scope.names.lookup z.1 = some .local ∨ (scope.names.lookup z.1 = some .cell ∧ ((cellsFrom (s.heap.objs.size + 1) scope.names []).lookup z.1).isSome = true) := fun z hz => by
    rw [List.mem_singleton.mp hz]
    rcases S.par y (List.mem_singleton.mpr rfl) with q | q
    · exact .inl q
    · exact .inr ⟨q, PySem.W.cellsFrom_some _ _ _ (.inl q)⟩
  refine codeAny_call_function room.depth (kin _ _ lk) rfl S.co S.gen rfl (PySem.W.codeRec_of kin hcd) (bd _ _ _ _ ?_)
  refine wpAny_newFunctionEnv_cells S.kind hk fun env he s1 x => ?_
  subst he
  refine ⟨nol.keeps x.toInCall.keep, codeAny_func ?_⟩
  obtain ⟨t, ht, hq⟩ := hbody A outer s H Q p D hot hz (room.deeper _) wish
  have J : Inv (L2H.cxH (L2N.CX P w) P w K mg base N qual scope f cdv A outer s H E0 p) [] (L2.start N [.ref p.1]) H s1 := L2H.inv_startH (ps := [y]) (us := [.ref p.1]) S pin e0 rfl (.cons rfl .nil) x
  refine wpAny_mono (ht.run [] s1 _ H _ J hq) (fun fl s' z => ?_) fun e s' z => z
  cases fl with
  | ret u =>
    obtain ⟨v, σ', H', J', rv, q⟩ := z
    exact ⟨v, H', J'.os, J'.bare, J'.base, J'.hok, rv, q⟩
  | next =>
    obtain ⟨σ', H', J', q⟩ := z
    exact ⟨V.non, H', J'.os, J'.bare, J'.base, J'.hok, (rfl : RelV V.non Value.none), q⟩
  | brk =>
    obtain ⟨_, _, _, q⟩ := z
    exact False.elim q
  | cont =>
    obtain ⟨_, _, _, q⟩ := z
    exact False.elim q
def tWord (i : Nat) (a : Addr) (cls : Value) (d : Option Addr) (sp : WordW) : TE := fun σ H Q => σ[i]? = some (some (.ref a)) ∧ d = none ∧ ∃ D, cls = .ref D ∧ sp D H Q
theorem pe_word {X : Cx} {a : Addr} {oe : Obj} {pn : List (Addr × Obj)} {cls : Value} {d : Option Addr} {k i : Nat} {f : Addr} {fd : FuncData} {x n y : Str} {sp : WordW} {p1 p2 pos : Pos} (F : FnE X.prog X.w X.K X.mg X.base k f fd y sp) (hr : L2H.RoomH k (X.suite a ((a, oe) :: pn)).A)
    (hz : L2N.Zn cls d oe) (hf : ∃ vs, oe.data = .fields vs) (hg : Gl X x) (hm : X.mg x = some (.ref f)) (hk : PySem.W.keepIn X.K (.ref f) = true) (hb : Binds X.K fd [y] []) (hN : X.N[i]? = some n) (hv : Vis X.env.scope n)
    (hdb : (x == ("__debug__" : Str)) = false := by decide) (hd : (n == ("__debug__" : Str)) = false := by decide) (hcd : (n == ("__classdict__" : Str)) = false := by decide) :
    PE (X.suite a ((a, oe) :: pn)) (.Call (.Name x p1) [.Name n p2] [] pos) (tWord i a cls d sp) := by
  refine ⟨fun pins s σ H Q I h => ?_⟩
  obtain ⟨hs, hd0, D, hD, wish⟩ := h
  subst hd0
  subst hD
  refine wpAny_Call_Name_kw (ld_glob I hg hm ?_ hdb)
  have hv1 : PE (X.suite a ((a, oe) :: pn)) (.Name n p2) (tVar i) := pe_var hN hv hd hcd
  have ha : PA (X.suite a ((a, oe) :: pn)) [.Name n p2] (tCons (tVar i) tNil) := pa_cons hv1 pa_nil
  refine PySem.W.callWith_K (h₀ := X.base) I.ok.mod.kin hk (thn (ha.run pos pins s σ H (fun vs H1 => vs = [V.ref a] ∧ H1 = H) I ⟨_, hs, rfl, rfl⟩) fun us s1 ⟨vs, H1, I1, r, ev, eH⟩ => ⟨I1.kIn, ?_⟩) rfl rfl
  subst ev
  rw [eH] at I1
  have eu : us = [.ref a] := by
    cases r with
    | cons r1 r2 => cases r2; cases r1; rfl
  subst eu
  obtain ⟨vX, dX⟩ := hf
  have P1 := I1.pin (a, oe) (List.mem_append_left _ List.mem_cons_self)
  have pin : L2H.PinOk X.stack H s1 (a, oe) := ⟨P1.1, P1.2.1, fun hm => (List.mem_cons.mp (I1.stkSub a hm)).elim P1.2.2.1 P1.2.2.2.1, P1.2.2.2.2⟩
  have b := hb s1 [.ref a] I1.kIn rfl
  refine wpAny_call (codeAny_mono (F.run (X.suite a ((a, oe) :: pn)).A X.stack s1 H ⟨[.ref a], []⟩ Q (a, oe) D hr ⟨rfl, vX, dX, hz.2.2 vX dX⟩ hz.zc pin I1.env0 b wish) fun r s' hq => ?_)
  cases r with
  | error e =>
    obtain ⟨_, _, _, _, _, _, _, _, _, _, _, _, z⟩ := hq
    exact z.elim
  | ok fl =>
    cases fl with
    | ret u => exact I1.after hq
    | next => exact False.elim hq
    | brk => exact False.elim hq
    | cont => exact False.elim hq

def tTryAs (K : PySem.W.Frag) (c : Value) (i : Nat) (tb : WX → TS) (ts : Addr → Value → Option Addr → TS) (Wout : WX) : TS := fun D σ H => tb (wAs K c i ts Wout D) D σ H
structure DefE (P : Program) (w : World) (K : PySem.W.Frag) (mg : Str → Option Value) (base : Heap) (k : Nat) (x y : Str) (sp : WordW) : Prop where
  ex : ∃ (f : Addr) (fd : FuncData), mg x = some (.ref f) ∧ PySem.W.keepIn K (.ref f) = true ∧ FnE P w K mg base k f fd y sp ∧ Binds K fd [y] []
theorem pe_wordD {X : Cx} {a : Addr} {oe : Obj} {pn : List (Addr × Obj)} {cls : Value} {d : Option Addr} {k j i : Nat} {x n y : Str} {sp : WordW} {p1 p2 pos : Pos} (D : DefE X.prog X.w X.K X.mg X.base k x y sp) (hr : Room j X.A) (hk : k ≤ j)
    (hz : L2N.Zn cls d oe) (hf : ∃ vs, oe.data = .fields vs) (hg : Gl X x) (hN : X.N[i]? = some n) (hv : Vis X.env.scope n)
    (hdb : (x == ("__debug__" : Str)) = false := by decide) (hd : (n == ("__debug__" : Str)) = false := by decide) (hcd : (n == ("__classdict__" : Str)) = false := by decide) :
    PE (X.suite a ((a, oe) :: pn)) (.Call (.Name x p1) [.Name n p2] [] pos) (tWord i a cls d sp) := by
  obtain ⟨f, fd, hm, kp, F, hb⟩ := D.ex
  exact pe_word F ⟨(hr.mono hk).dp, (hr.mono hk).un⟩ hz hf hg hm kp hb hN hv hdb hd hcd
def tMakeS (C : Addr) (sp : Sp) (E : L2.St → XK) (t : TA) : TE := fun σ H Q => t σ H fun vs H1 => ∀ x dx, H1 x = none → H1 dx = none → dx ≠ x → sp (.ref x :: vs) (upd (upd H1 dx (.own x)) x (.ins C dx [])) (fun v H2 => v = .non ∧ Q (.ref x) H2) (E σ)
structure WordF (K : PySem.W.Frag) (A : Ad) (D : Addr) (i : Nat) : Prop where
  lt : i < 6
  k0 : PySem.W.kitOne K (.ref D) (.ref A.badsize) = some (decide (i = 0))
  k1 : PySem.W.kitOne K (.ref D) (.ref A.nopage) = some (decide (i = 1))
  k2 : PySem.W.kitOne K (.ref D) (.ref A.noterased) = some (decide (i = 2))
  k3 : PySem.W.kitOne K (.ref D) (.ref A.nosector) = some (decide (i = 3))
  k4 : PySem.W.kitOne K (.ref D) (.ref A.badcontent) = some (decide (i = 4))
  k5 : PySem.W.kitOne K (.ref D) (.ref A.cut) = some (decide (i = 5))
  kV : PySem.W.kitOne K (.ref D) (.type "ValueError") = some true
  ex : ExcC K D
  em : PySem.W.exmOne K (.ref D) (.ref A.wear) = some true
def wordAt (i : Nat) : Str := (["BadSize", "NoPage", "NotErased", "NoSector", "BadContent", "Cut"] : List Str).getD i ""
def spw_l_word (K : PySem.W.Frag) (A : Ad) : WordW := fun D H Q => ∃ i, WordF K A D i ∧ ∀ H', Same H H' → Q (.str (wordAt i)) H'
abbrev isE (K : PySem.W.Frag) (D a : Addr) (c : V) : TE := tCB (rIsE K D a) (tCons (tVar 0) (tCons (tC c) tNil))
def N_l_word : List Str := ["_law_e", "_law_flags", "_law_words", "_law_flag"]
def t_l_word (K : PySem.W.Frag) (A : Ad) (D a : Addr) : TS :=
  tSeq (tAsg (tLst (tCons (isE K D a (.ref A.badsize)) (tCons (isE K D a (.ref A.nopage)) (tCons (isE K D a (.ref A.noterased)) (tCons (isE K D a (.ref A.nosector)) tNil))))) (gName 1))
  (tSeq (tAsg (tOp rCat (tVar 1) (tLst (tCons (isE K D a (.ref A.badcontent)) (tCons (isE K D a (.ref A.cut)) tNil)))) (gName 1))
  (tSeq (tAsg (tLst (tCons (tC (.str "BadSize")) (tCons (tC (.str "NoPage")) (tCons (tC (.str "NotErased")) (tCons (tC (.str "NoSector")) (tCons (tC (.str "BadContent")) (tCons (tC (.str "Cut")) tNil))))))) (gName 2))
  (tSeq (tIfS (tOr (tTest (tOp rNe (tCB (rSum K) (tCons (tLcH K (tVar 1) 3 (tCB zInt1 (tCons (tVar 3) tNil))) tNil)) (tC (.int 1)))) (tNot (tB (isE K D a (.ty "ValueError")))))
    (tRet (tC (.str "other")))
    tNext)
  (tRet (tOp (rIxL K) (tVar 2) (tBM K "list" (rIndex K) (tVar 1) (tCons (tC (.bl true)) tNil)))))))
theorem pure_l_word {K : PySem.W.Frag} {A : Ad} {D a : Addr} {H : Hp} {Q : VK} (h : spw_l_word K A D H Q) : t_l_word K A D a { nx := fun _ H' => Q .non H', rt := Q } (start N_l_word [.ref a]) H := by
  obtain ⟨i, F, k⟩ := h
  have rr : ∀ {z : Addr} (u : Value), RelV (.ref z) u → u = .ref z := fun u h => h
  refine ⟨_, rfl, _, _, _, rfl, rr, F.k0, _, rfl, _, _, _, rfl, rr, F.k1, _, rfl, _, _, _, rfl, rr, F.k2, _, rfl, _, _, _, rfl, rr, F.k3, (by show 4 ≤ sizeLine; decide), fun l1 n1 => ?_⟩
  refine ⟨_, rfl, _, rfl, _, _, _, rfl, rr, F.k4, _, rfl, _, _, _, rfl, rr, F.k5, (by show 2 ≤ sizeLine; decide), fun l2 n2 => ?_⟩
  have s1 : Same H (upd H l1 (.lst [.bl (decide (i = 0)), .bl (decide (i = 1)), .bl (decide (i = 2)), .bl (decide (i = 3))])) := Same.new n1
  have s2 := Same.new (o := .lst [.bl (decide (i = 4)), .bl (decide (i = 5))]) n2
  refine ⟨l1, l2, _, _, rfl, rfl, s2 _ _ upd_same, upd_same, (by show 6 ≤ sizeLine; decide), fun l3 n3 => ?_⟩
  have s3 := Same.new (o := .lst ([.bl (decide (i = 0)), .bl (decide (i = 1)), .bl (decide (i = 2)), .bl (decide (i = 3))] ++ [.bl (decide (i = 4)), .bl (decide (i = 5))])) n3
  refine ⟨(by show 6 ≤ sizeLine; decide), fun l4 n4 => ?_⟩
  have s4 := Same.new (o := .lst [.str "BadSize", .str "NoPage", .str "NotErased", .str "NoSector", .str "BadContent", .str "Cut"]) n4
  have e3 := s4 _ _ (upd_same (a := l3) (o := .lst ([.bl (decide (i = 0)), .bl (decide (i = 1)), .bl (decide (i = 2)), .bl (decide (i = 3))] ++ [.bl (decide (i = 4)), .bl (decide (i = 5))])))
  refine ⟨_, rfl, l3, _, fun v => match v with | .bl b => .int (if b then 1 else 0) | _ => .non, rfl, SqL.of e3, (by show 6 < sizeLine; decide), fun x hx H2 R hR => ?_, fun l5 n5 => ?_⟩
  · refine ⟨_, rfl, .inr ?_⟩
    simp only [List.cons_append, List.nil_append, List.mem_cons, List.not_mem_nil, or_false] at hx
    rcases hx with e | e | e | e | e | e <;> (subst e; exact ⟨_, rfl, hR⟩)
  have s5 := Same.new (o := .lst (([.bl (decide (i = 0)), .bl (decide (i = 1)), .bl (decide (i = 2)), .bl (decide (i = 3))] ++ [.bl (decide (i = 4)), .bl (decide (i = 5))] : List V).map fun v => match v with | .bl b => .int (if b then 1 else 0) | _ => .non)) n5
  have sA := ((((s1.trans s2).trans s3).trans s4).trans s5)
  have e3' := s5 _ _ e3
  have e4' := s5 _ _ (upd_same (a := l4) (o := .lst [.str "BadSize", .str "NoPage", .str "NotErased", .str "NoSector", .str "BadContent", .str "Cut"]))
  refine ⟨l5, [if i = 0 then 1 else 0, if i = 1 then 1 else 0, if i = 2 then 1 else 0, if i = 3 then 1 else 0, if i = 4 then 1 else 0, if i = 5 then 1 else 0], rfl, SqL.of ?_, rfl, _, rfl, ?_⟩
  · refine (upd_same).trans ?_
    simp
  have lt := F.lt
  have sum1 : ([if i = 0 then 1 else 0, if i = 1 then 1 else 0, if i = 2 then 1 else 0, if i = 3 then 1 else 0, if i = 4 then 1 else 0, if i = 5 then 1 else 0] : List Int).sum = 1 := by
    rcases (by omega : i = 0 ∨ i = 1 ∨ i = 2 ∨ i = 3 ∨ i = 4 ∨ i = 5) with e | e | e | e | e | e <;> (subst e; rfl)
  rw [sum1]
  refine (show if (!decide (V.int 1 = V.int 1)) = true then _ else _ from iteF ⟨_, rfl, .ty "ValueError", .type "ValueError", _, rfl, (fun u h => h), F.kV, _, rfl, iteF ?_⟩)
  refine ⟨_, rfl, _, rfl, .inl ⟨rfl, _, SqL.of e3'⟩, l3, _, .bl true, i, .bl true, rfl, rfl, SqL.of e3', rfl, rfl, ?_, rfl, ?_, l4, _, (i : Nat), .str (wordAt i), rfl, rfl, SqL.of e4', ?_, k _ sA⟩
  · rcases (by omega : i = 0 ∨ i = 1 ∨ i = 2 ∨ i = 3 ∨ i = 4 ∨ i = 5) with e | e | e | e | e | e <;> (subst e; rfl)
  · intro m z hm hz
    rcases (by omega : i = 0 ∨ i = 1 ∨ i = 2 ∨ i = 3 ∨ i = 4 ∨ i = 5) with e | e | e | e | e | e <;> subst e <;> (rcases (by omega : m = 0 ∨ m = 1 ∨ m = 2 ∨ m = 3 ∨ m = 4) with e | e | e | e | e <;> subst e <;> first | omega | (cases hz; rfl))
  · refine at_of (j := i) rfl ?_
    rcases (by omega : i = 0 ∨ i = 1 ∨ i = 2 ∨ i = 3 ∨ i = 4 ∨ i = 5) with e | e | e | e | e | e <;> (subst e; rfl)

theorem exm_of {K : PySem.W.Frag} {S T : Addr} {b : Bool} (h1 : PySem.W.subIn K (.ref T) (.type "BaseException") = some true) (h2 : PySem.W.isClsIn K T = true) (h3 : PySem.W.typeIn K (.ref T) = some (.type "type")) (h4 : PySem.W.subIn K (.ref S) (.ref T) = some b) : PySem.W.exmOne K (.ref S) (.ref T) = some b := by
  have h2 : (PySem.W.clsIn K T).isSome = true := h2
  unfold PySem.W.exmOne
  have e1 : (some true == some true) = true := by decide
  rw [h1, if_pos e1]
  show (if ((PySem.W.clsIn K T).isSome && PySem.W.typeIn K (.ref T) == some (.type "type")) = true then PySem.W.subIn K (.ref S) (.ref T) else none) = some b
  rw [h2, h3]
  exact h4
def sp_l_cell (K : PySem.W.Frag) (A : Ad) : Sp := fun vs H Q E => ∃ (l : Addr) (ns : List Int) (k : Int), vs = [.ref l, .int k] ∧ SqL K H l (ns.map V.int) ∧ ns.length ≤ 63 ∧ 0 ≤ k ∧ ∀ c H', Same H H' → Q (.int c) H'
def sp_l_drawn (K : PySem.W.Frag) (A : Ad) : Sp := fun vs H Q E => ∃ c k, vs = [.int c, .int k] ∧ ∀ m : Int, 0 ≤ m → m < 2 ^ 128 → Q (.int m) H
def N_l_cell : List Str := ["_law_script", "_law_k"]
def t_l_cell (K : PySem.W.Frag) (A : Ad) (E : XK) : TS :=
  (tSeq (tIfS (tTest (tOp (rEqD K) (tVar 0) (tLst tNil)))
  (tRet (tOp zMul (tVar 1) (tC (.int 7919))))
  tNext)
  (tRet (tOp zAdd (tOp (rIxL K) (tVar 0) (tOp zMod (tVar 1) (tCB (zLen K) (tCons (tVar 0) tNil)))) (tOp zMul (tOp zDivW (tVar 1) (tCB (zLen K) (tCons (tVar 0) tNil))) (tC (.int 104729))))))

def N_l_drawn : List Str := ["_law_cell_here", "_law_k", "_law_more"]
def t_l_drawn (K : PySem.W.Frag) (A : Ad) (E : XK) : TS :=
  (tSeq (tAsg (tOp zMod (tOp zAdd (tOp zMul (tVar 0) (tC (.int 6364136223846793005))) (tOp zMul (tOp zAdd (tVar 1) (tC (.int 1))) (tC (.int 1442695040888963407)))) (tC (.int 340282366920938463463374607431768211507))) (gName 2))
  (tRet (tOp zMod (tOp zMulW (tVar 2) (tVar 2)) (tC (.int 340282366920938463463374607431768211297)))))

section
variable {K : PySem.W.Frag} {A : Ad} {vs : List V} {H H' : Hp} {Q : VK} {E : XK}
theorem log2_small {n k : Nat} (h : n < 2 ^ k) (hk : 0 < k) : n.log2 < k := by
  by_cases z : n = 0
  · subst z; rw [Nat.log2_zero]; exact hk
  · exact (Nat.log2_lt z).mpr h
theorem divW {i j : Int} (h0 : 0 < j) (h1 : j < 2 ^ 200) : CDivW i j := ⟨h0, by
  have := log2_small (n := j.natAbs) (k := 200) (by omega) (by omega)
  omega⟩
theorem md {j : Int} (h : 0 < j) : 0 < j := h
theorem mulW {i j : Int} (h0 : 0 ≤ i) (h1 : i < 2 ^ 130) (h2 : 0 ≤ j) (h3 : j < 2 ^ 130) : CMulW i j := by
  have := log2_small (n := i.natAbs) (k := 130) (by omega) (by omega)
  have := log2_small (n := j.natAbs) (k := 130) (by omega) (by omega)
  show _ + _ < _
  omega
theorem len_l_cell (h : sp_l_cell K A vs H Q E) : vs.length = 2 := by
  obtain ⟨_, _, _, rfl, _⟩ := h; rfl
theorem len_l_drawn (h : sp_l_drawn K A vs H Q E) : vs.length = 2 := by
  obtain ⟨_, _, rfl, _⟩ := h; rfl
theorem ifYes {x y : V} {P1 P2 : Prop} (e : x = y) (h : P1) : if decide (x = y) = true then P1 else P2 := by
  rw [decide_eq_true e]; exact iteT h
theorem ifNo {x y : V} {P1 P2 : Prop} (e : x ≠ y) (h : P2) : if decide (x = y) = true then P1 else P2 := by
  rw [decide_eq_false e]; exact iteF h
theorem ifYesN {x y : V} {P1 P2 : Prop} (e : x = y) (h : P2) : if (!decide (x = y)) = true then P1 else P2 := by
  rw [decide_eq_true e]; exact iteF h
theorem ifNoN {x y : V} {P1 P2 : Prop} (e : x ≠ y) (h : P1) : if (!decide (x = y)) = true then P1 else P2 := by
  rw [decide_eq_false e]; exact iteT h
theorem pure_l_cell {Z : Prop} (F : Z) (h : sp_l_cell K A vs H Q E) : t_l_cell K A E { nx := fun _ H' => Q .non H', rt := Q } (start N_l_cell vs) H := by
  obtain ⟨l, ns, k, rfl, hl, hn, k0, q⟩ := h
  refine ⟨_, rfl, Nat.zero_le _, fun e he => ?_⟩
  have s := Same.new (o := .lst []) he
  have hl2 := s.seq hl
  refine ⟨.list (ns.map PyData.int), .list (([] : List Int).map PyData.int), .lst hl2 (dpAll_ints _), .lst (SqL.of upd_same) .nil, OkD.listI.sh, (OkD.listI (ns := [])).sh, _, rfl, ?_⟩
  rw [eqv_lists]
  by_cases hz : ns = []
  · rw [decide_eq_true hz]
    exact iteT ⟨_, rfl, k, 7919, rfl, rfl, .inr ⟨by decide, by decide⟩, q _ _ s⟩
  · rw [decide_eq_false hz]
    refine iteF ?_
    have hp : 0 < ns.length := List.length_pos_iff.mpr hz
    have hi : (k % (ns.length : Int)).toNat < ns.length := by
      have := Int.emod_nonneg k (b := (ns.length : Int)) (by omega)
      have := Int.emod_lt_of_pos k (b := (ns.length : Int)) (by omega)
      omega
    have hv : (ns.map V.int)[(k % (ns.length : Int)).toNat]? = some (.int (ns[(k % (ns.length : Int)).toNat])) := by
      rw [List.getElem?_map, List.getElem?_eq_getElem hi]; rfl
    have hL : ((ns.map V.int).length : Int) = (ns.length : Int) := by rw [List.length_map]
    refine ⟨_, rfl, _, rfl, _, rfl, l, _, rfl, .inl hl2, _, _, rfl, rfl, by rw [hL]; omega, l, _, _, .int (ns[(k % (ns.length : Int)).toNat]), rfl, rfl, hl2, ?_, _, rfl, _, rfl, l, _, rfl, .inl hl2, _, _, rfl, rfl, divW (by rw [hL]; omega) (by rw [hL]; omega), _, _, rfl, rfl, .inr ⟨by decide, by decide⟩, _, _, rfl, rfl, q _ _ s⟩
    · rw [hL]
      exact at_of (j := (k % (ns.length : Int)).toNat) (by have := Int.emod_nonneg k (b := (ns.length : Int)) (by omega); omega) hv
theorem pure_l_drawn {Z : Prop} (F : Z) (h : sp_l_drawn K A vs H Q E) : t_l_drawn K A E { nx := fun _ H' => Q .non H', rt := Q } (start N_l_drawn vs) H := by
  obtain ⟨c, k, rfl, q⟩ := h
  have h0 : 0 ≤ (c * 6364136223846793005 + (k + 1) * 1442695040888963407) % 340282366920938463463374607431768211507 := Int.emod_nonneg _ (by decide)
  have h1 : (c * 6364136223846793005 + (k + 1) * 1442695040888963407) % 340282366920938463463374607431768211507 < 2 ^ 130 := by
    have := Int.emod_lt_of_pos (c * 6364136223846793005 + (k + 1) * 1442695040888963407) (b := 340282366920938463463374607431768211507) (by decide)
    omega
  refine ⟨_, rfl, _, _, rfl, rfl, .inr ⟨by decide, by decide⟩, _, rfl, _, _, rfl, rfl, _, _, rfl, rfl, .inr ⟨by decide, by decide⟩, _, _, rfl, rfl, _, _, rfl, rfl, md (by decide), ?_⟩
  refine ⟨_, rfl, _, rfl, _, _, rfl, rfl, mulW h0 h1 h0 h1, _, _, rfl, rfl, md (by decide), q _ (Int.emod_nonneg _ (by decide)) ?_⟩
  have := Int.emod_lt_of_pos ((c * 6364136223846793005 + (k + 1) * 1442695040888963407) % 340282366920938463463374607431768211507 * ((c * 6364136223846793005 + (k + 1) * 1442695040888963407) % 340282366920938463463374607431768211507)) (b := 340282366920938463463374607431768211297) (by decide)
  exact Int.lt_trans this (by decide)
theorem ChipAt.keep {d : CD} {c : CS} {G : Addr → Prop} (h : ChipAt A H d c) (f : Fr G H H') (dj : ∀ b, cfp d b → ¬ G b) : ChipAt A H' d c where
  ob := f.keep _ _ h.ob (dj _ (.inl rfl))
  rows := f.keep _ _ h.rows (dj _ (.inr (.inl rfl)))
  wears := f.keep _ _ h.wears (dj _ (.inr (.inr (.inl rfl))))
  len := h.len
  row := fun i a e => by
    obtain ⟨xs, h1, h2⟩ := h.row i a e
    exact ⟨xs, h1, f.keep _ _ h2 (dj _ (.inr (.inr (.inr (List.mem_of_getElem? e)))))⟩
  wlen := h.wlen
  pgs := h.pgs
  nd := h.nd
  lo := h.lo
  hi := h.hi
  mlo := h.mlo
  mhi := h.mhi
end
structure Res where
  fp : Addr → Prop
  P : Hp → Prop
  live : ∀ H, P H → ∀ b, fp b → H b ≠ none
  keep : ∀ H H' (G : Addr → Prop), P H → Fr G H H' → (∀ b, fp b → ¬ G b) → P H'
structure Own (H : Hp) (rs : List Res) : Prop where
  get : ∀ (i : Nat) r, rs[i]? = some r → r.P H
  dj : ∀ (i j : Nat) r r', i ≠ j → rs[i]? = some r → rs[j]? = some r' → ∀ b, r.fp b → ¬ r'.fp b
section
variable {H H' : Hp} {rs : List Res}
theorem Own.pick {rs' : List Res} (O : Own H rs) (f : Nat → Nat) (hf : ∀ i j, i < rs'.length → j < rs'.length → f i = f j → i = j) (h : ∀ i r, rs'[i]? = some r → rs[f i]? = some r) : Own H rs' :=
  ⟨fun i r e => O.get (f i) r (h i r e), fun i j r r' ne e e' => O.dj (f i) (f j) r r' (fun z => ne (hf i j (List.getElem?_eq_some_iff.mp e).1 (List.getElem?_eq_some_iff.mp e').1 z)) (h i r e) (h j r' e')⟩
theorem Own.same (O : Own H rs) (s : Same H H') : Own H' rs :=
  ⟨fun i r e => r.keep H H' (fun _ => False) (O.get i r e) (Fr.of_same s) (fun _ _ z => z), O.dj⟩
theorem Own.set (O : Own H rs) {r r' : Res} (i : Nat) (e : rs[i]? = some r) (p : r'.P H') (sub : ∀ b, r'.fp b → r.fp b ∨ H b = none) (fr : Fr r.fp H H') : Own H' (rs.set i r') := by
  have hi := (List.getElem?_eq_some_iff.mp e).1
  have away : ∀ (j : Nat) t, j ≠ i → rs[j]? = some t → ∀ b, t.fp b → ¬ r'.fp b := fun j t ne ht b hb hb' => by
    rcases sub b hb' with z | z
    · exact O.dj j i t r ne ht e b hb z
    · exact t.live H (O.get j t ht) b hb z
  refine ⟨fun j t ht => ?_, fun j k t u ne ht hu b hb hb' => ?_⟩
  · by_cases q : i = j
    · subst q
      rw [List.getElem?_set_self hi] at ht
      cases ht; exact p
    · rw [List.getElem?_set_ne q] at ht
      exact t.keep H H' r.fp (O.get j t ht) fr (O.dj j i t r (Ne.symm q) ht e)
  · by_cases q : i = j
    · subst q
      rw [List.getElem?_set_self hi] at ht
      cases ht
      rw [List.getElem?_set_ne ne] at hu
      exact away k u (Ne.symm ne) hu b hb' hb
    · rw [List.getElem?_set_ne q] at ht
      by_cases q2 : i = k
      · subst q2
        rw [List.getElem?_set_self hi] at hu
        cases hu
        exact away j t ne ht b hb hb'
      · rw [List.getElem?_set_ne q2] at hu
        exact O.dj j k t u ne ht hu b hb hb'
theorem Own.new (O : Own H rs) {r' : Res} (p : r'.P H') (sub : ∀ b, r'.fp b → H b = none) (s : Same H H') : Own H' (r' :: rs) := by
  have away : ∀ (j : Nat) t, rs[j]? = some t → ∀ b, t.fp b → ¬ r'.fp b := fun j t ht b hb hb' => t.live H (O.get j t ht) b hb (sub b hb')
  have O' := O.same s
  refine ⟨fun j t ht => ?_, fun j k t u ne ht hu b hb hb' => ?_⟩
  · cases j with
    | zero => cases ht; exact p
    | succ j => exact O'.get j t ht
  · cases j with
    | zero =>
      cases ht
      cases k with
      | zero => exact ne rfl
      | succ k => exact away k u hu b hb' hb
    | succ j =>
      cases k with
      | zero => cases hu; exact away j t ht b hb hb'
      | succ k => exact O.dj j k t u (fun z => ne (by rw [z])) ht hu b hb hb'
theorem Own.nil : Own H [] := ⟨fun i r e => by simp at e, fun i j r r' _ e => by simp at e⟩
theorem Own.one {r : Res} (p : r.P H) : Own H [r] := by
  refine ⟨fun i t e => ?_, fun i j t u ne e e' => ?_⟩
  · cases i with
    | zero => cases e; exact p
    | succ i => cases e
  · cases i with
    | zero =>
      cases j with
      | zero => exact absurd rfl ne
      | succ j => cases e'
    | succ i => cases e
theorem Own.tail {r : Res} (O : Own H (r :: rs)) : Own H rs := O.pick (fun i => i + 1) (fun i j _ _ z => by omega) (fun i r e => e)
def rOb (a : Addr) (o : HO) : Res := ⟨fun b => b = a, fun H => H a = some o, fun H h b e => by rw [e, h]; exact fun z => (nomatch z), fun H H' G h f dj => f.keep _ _ h (dj a rfl)⟩
def rTup (a : Addr) (xs : List V) : Res := ⟨fun _ => False, fun H => H a = some (.tup xs), fun H h b e => e.elim, fun H H' G h f dj => f.tup _ _ h⟩
theorem Own.put (O : Own H rs) {a : Addr} {o o' : HO} (i : Nat) (e : rs[i]? = some (rOb a o)) (nt : ∀ xs, o ≠ .tup xs) : Own (upd H a o') (rs.set i (rOb a o')) :=
  O.set i e (r' := rOb a o') upd_same (fun b hb => .inl hb) (Fr.put (O.get i _ e) rfl nt)
theorem Own.newOb (O : Own H rs) {a : Addr} {o : HO} (h : H a = none) : Own (upd H a o) (rOb a o :: rs) :=
  O.new (r' := rOb a o) upd_same (fun b e => by rw [e]; exact h) (Same.new h)
theorem Own.newTup (O : Own H rs) {a : Addr} {xs : List V} (h : H a = none) : Own (upd H a (.tup xs)) (rTup a xs :: rs) :=
  O.new (r' := rTup a xs) upd_same (fun b e => e.elim) (Same.new h)
theorem Own.addTup (O : Own H rs) {a : Addr} {xs : List V} (h : H a = some (.tup xs)) : Own H (rTup a xs :: rs) :=
  O.new (r' := rTup a xs) h (fun b e => e.elim) (Same.refl H)
end
theorem scr_res {K : PySem.W.Frag} {H : Hp} {l : Addr} {xs : List V} (h : SqL K H l xs) : ∃ r : Res, Own H [r] ∧ ∀ H', r.P H' → SqL K H' l xs := by
  rcases h with (h | ⟨o, h⟩) | h
  · exact ⟨rOb l _, .one h, fun H' p => .inl (.inl p)⟩
  · exact ⟨rOb l _, .one h, fun H' p => .inl (.inr ⟨o, p⟩)⟩
  · exact ⟨⟨fun _ => False, fun _ => True, (fun _ _ _ z => z.elim), (fun _ _ _ _ _ _ => trivial)⟩, .one trivial, fun H' _ => .inr h⟩
theorem at_last {xs : List V} {v : V} {i : Int} (h : i = (xs.length : Int)) : atI (xs ++ [v]) i = some v := at_of (j := xs.length) h (by simp)
theorem ifY {p : Prop} [Decidable p] {P1 P2 : Prop} (e : p) (h : P1) : if decide p = true then P1 else P2 := by
  rw [decide_eq_true e]; exact iteT h
theorem ifN {p : Prop} [Decidable p] {P1 P2 : Prop} (e : ¬ p) (h : P2) : if decide p = true then P1 else P2 := by
  rw [decide_eq_false e]; exact iteF h
theorem cutV_mem {xs : List V} {lo hi : Option Int} {v : V} (h : v ∈ cutV xs lo hi) : v ∈ xs := by
  unfold cutV at h
  exact List.mem_of_mem_drop (List.mem_of_mem_take h)
section
variable {H H' : Hp} {A : Ad}
theorem nil1 {σ : L2.St} {H : Hp} {R : List V → Hp → Prop} (h : R [] H) : tNil σ H R := h
theorem consC {σ : L2.St} {H : Hp} {v : V} {R : List V → Hp → Prop} (h : R [v] H) : tCons (tC v) tNil σ H R := h
theorem seqI {a b : TS} {D : Ends} {σ : L2.St} (h : a { D with nx := b D } σ H) : tSeq a b D σ H := h
theorem asgI {te : TE} {g : TG} {D : Ends} {σ : L2.St} (h : te σ H fun x H1 => g x σ H1 D.nx) : tAsg te g D σ H := h
theorem opI {r : R2} {ta tb : TE} {σ : L2.St} {Q : VK} (h : ta σ H fun x H1 => tb σ H1 fun y H2 => r x y H2 Q) : tOp r ta tb σ H Q := h
theorem testI {te : TE} {t u : TS} {D : Ends} {σ : L2.St} (h : te σ H fun x H1 => ∃ k, x = V.bl k ∧ if k = true then t D σ H1 else u D σ H1) : tIfS (tTest te) t u D σ H := h
theorem retI {te : TE} {D : Ends} {σ : L2.St} (h : te σ H D.rt) : tRet te D σ H := h
theorem Own.swap {a b : Res} {rs : List Res} (O : Own H (a :: b :: rs)) : Own H (b :: a :: rs) := by
  refine O.pick (fun i => if i = 0 then 1 else if i = 1 then 0 else i) (fun i j _ _ e => by (repeat' split at e); all_goals omega) fun i r e => ?_
  rcases i with _ | _ | i
  · exact e
  · exact e
  · rw [if_neg (by omega), if_neg (by omega)]; exact e
theorem ne_same {K : PySem.W.Frag} {a b : Addr} {xs : List Int} {Q : VK} (ha : H a = some (.lst (xs.map V.int))) (hb : H b = some (.lst (xs.map V.int))) (k : Q (.bl false) H) : rNeD K (.ref a) (.ref b) H Q := by
  refine ⟨.list (xs.map PyData.int), .list (xs.map PyData.int), .lst (SqL.of ha) (dpAll_ints _), .lst (SqL.of hb) (dpAll_ints _), OkD.listI.sh, OkD.listI.sh, ?_⟩
  rw [eqv_lists, decide_eq_true rfl]
  exact k
theorem mem_getD {ws : List Int} {z : Int} (h : z ∈ ws) : ∃ i, i < ws.length ∧ ws.getD i 0 = z := by
  obtain ⟨i, hi, e⟩ := List.getElem_of_mem h
  exact ⟨i, hi, by rw [List.getD_eq_getElem?_getD, List.getElem?_eq_getElem hi]; exact e⟩
theorem map_getD {ws : List Int} {i : Nat} (h : i < ws.length) : (ws.map V.int)[i]? = some (.int (ws.getD i 0)) := by
  rw [List.getElem?_map, List.getD_eq_getElem?_getD, List.getElem?_eq_getElem h]; rfl
theorem rounds_ok {L : Nat} {lo hi : Int} (h : L ≤ 63) (h0 : 0 ≤ lo) (h1 : lo ≤ 100) (h2 : 0 ≤ hi) (h3 : hi ≤ 100) : -(2 ^ 62) ≤ (if (if (L : Int) < hi then (L : Int) else hi) > lo then (if (L : Int) < hi then (L : Int) else hi) else lo) ∧
    (if (if (L : Int) < hi then (L : Int) else hi) > lo then (if (L : Int) < hi then (L : Int) else hi) else lo) < 2 ^ 62 := by
  constructor
  · split <;> (try split) <;> omega
  · split <;> (try split) <;> omega
end

theorem pcS {X : Cx} {k j : Nat} {C : Addr} {x : Str} {sp : Sp} {ES : L2.St → XK} {p pos : Pos} {e : Expr} {es : List Expr} {t : TA} (D : DefC X.prog X.w X.K X.mg X.base k x C sp) (hr : Room j X.A) (hk : k + 1 ≤ j) (hx : ∀ σ, PassesAt (L2N.CX X.prog X.w) X σ (ES σ)) (hg : Gl X x) (ha : PA X (e :: es) t)
    (hdb : (x == ("__debug__" : Str)) = false := by decide) (he : starEach (e :: es) X.env = (false, eval e X.env) :: starEach es X.env := by rfl) (hpl : (backTo pos (starEach es X.env)).any (·.1) = false := by rfl) :
    PE X (.Call (.Name x p) (e :: es) [] pos) (tMakeS C sp ES t) := by
  obtain ⟨f, fd, ps, M, hm, F, hb⟩ := D.ex
  refine ⟨fun pins s0 σ H0 Q I0 h0 => ?_⟩
  refine wpAny_Call_Name_kw (ld_glob I0 hg hm ?_ hdb)
  refine PySem.W.callWith_K (h₀ := X.base) I0.ok.mod.kin M.kp (thn (ha.run pos pins s0 σ H0 _ I0 h0) fun us s ⟨vs, H, I, r, h⟩ => ⟨I.kIn, ?_⟩) he hpl
  have wish := h (s.heap.objs.size + 1) s.heap.objs.size (I.hok.fresh (Nat.le_succ _)) (I.hok.fresh (Nat.le_refl _)) (Nat.ne_of_lt (Nat.lt_succ_self _))
  have J := Inv.made (C := C) I
  have r2 : Vals (V.ref (s.heap.objs.size + 1) :: vs) (Value.ref (s.heap.objs.size + 1) :: us) := .cons rfl r
  have hl : (Value.ref (s.heap.objs.size + 1) :: us).length = ps.length := r2.length.symm.trans (F.len _ _ _ _ wish)
  have b := hb _ (Value.ref (s.heap.objs.size + 1) :: us) J.kIn (by rw [List.append_nil]; exact hl)
  rw [List.append_nil] at b
  refine wpAny_call (make_map (f := f) I.kIn M.makes M.init (beq_iff_eq.mp M.fn) (codeAny_mono (F.run _ X.stack _ _ ⟨Value.ref (s.heap.objs.size + 1) :: us, []⟩ (Value.ref (s.heap.objs.size + 1) :: us) _ _ (ES σ) ((hr.mono hk).make C us []) (J.env0.make C us []) b r2 wish) fun q s' hq => ?_))
  cases q with
  | error e => exact hx σ pins _ _ e s' J hq
  | ok fl =>
    cases fl with
    | ret u =>
      obtain ⟨v, H', I3, rv, ev, q3⟩ := J.after hq
      subst ev
      exact ⟨rv, ⟨V.ref (s.heap.objs.size + 1), H', I3, rfl, q3⟩⟩
    | next => exact False.elim hq
    | brk => exact False.elim hq
    | cont => exact False.elim hq

inductive Dd where
  | write (b p : Int) (x : Addr)
  | erase (b : Int)
  | power (l : Option Int)
def DeedAt (H : Hp) (t : Addr) : Dd → Prop
  | .write b p x => H t = some (.tup [.str "write", .int b, .int p, .ref x]) ∧ ∃ k, H x = some (.tup [.str "x", .int k])
  | .erase b => H t = some (.tup [.str "erase", .int b])
  | .power l => H t = some (.tup [.str "power", leftV l])
theorem DeedAt.tups {H H' : Hp} {t : Addr} {dd : Dd} (h : DeedAt H t dd) (tu : ∀ b xs, H b = some (.tup xs) → H' b = some (.tup xs)) : DeedAt H' t dd := by
  cases dd with
  | write b p x =>
    obtain ⟨h1, k, h2⟩ := h
    exact ⟨tu _ _ h1, k, tu _ _ h2⟩
  | erase b => exact tu _ _ h
  | power l => exact tu _ _ h
def DdOk : Dd → Prop
  | .power (some n) => 0 ≤ n
  | _ => True
def CS.does (c : CS) : Dd → CS × Out
  | .write b p x => c.write b p (.ref x)
  | .erase b => c.erase b
  | .power l => ({ c with left := l, cut := false }, .ok)
def outName : Out → Str
  | .ok => ""
  | .nopage => "NoPage"
  | .noterased => "NotErased"
  | .cut => "Cut"
def CS.cutS (c : CS) : Bool := decide (c.left = some 0)
def CS.leftS (c : CS) : Option Int := if c.cutS = true then c.left else c.left.map fun n => n - 1
def CS.side (c : CS) : Dd → CS × Out
  | .write b p x => if ¬ inB c b then (c, .nopage) else if ¬ (0 ≤ p ∧ p < c.m) then (c, .nopage) else if c.isFree b p = false then (c, .noterased) else if c.cut = true then (c, .cut) else
      ({ c with cut := c.cutS, left := c.leftS, many := c.many + 1, rows := c.rows.set b.toNat ((c.row b).set p.toNat (if c.cutS = true then .str "torn" else .ref x)) }, if c.cutS = true then .cut else .ok)
  | .erase b => if ¬ inB c b then (c, .nopage) else if c.cut = true then (c, .cut) else
      ({ c with cut := c.cutS, left := c.leftS, wears := c.wears.set b.toNat (c.wears.getD b.toNat 0 + 1), rows := c.rows.set b.toNat (List.replicate c.m (if c.cutS = true then .str "torn" else .non)) }, if c.cutS = true then .cut else .ok)
  | .power l => ({ c with left := l, cut := false }, .ok)
structure Rl (c c' : CS) : Prop where
  rows : c'.rows = c.rows
  wears : c'.wears = c.wears
  many : c'.many = c.many
  m : c'.m = c.m
  cut : c'.cut = c.cut
  left : c.cut = false → c'.left = c.left ∧ ∀ n, c.left = some n → 0 ≤ n
theorem gw_side {c c' : CS} (h : Rl c c') (hc : c.cut = false) : c'.cutS = !c.gw.2 ∧ c.gw.1.cut = c'.cutS ∧ (c'.cutS = false → c'.leftS = c.gw.1.left ∧ ∀ n, c.gw.1.left = some n → 0 ≤ n) := by
  obtain ⟨h1, h2⟩ := h.left hc
  unfold CS.leftS CS.cutS CS.gw
  rw [h1]
  cases e : c.left with
  | none =>
    refine ⟨rfl, hc, fun _ => ⟨e.symm, fun n z => ?_⟩⟩
    have z : c.left = some n := z
    rw [e] at z; cases z
  | some n =>
    have h0 := h2 n e
    by_cases z : n = 0
    · subst z; exact ⟨rfl, rfl, fun q => by cases q⟩
    · have e1 : decide (some n = some (0 : Int)) = false := decide_eq_false fun q => z (Option.some.inj q)
      have e2 : decide (n ≤ 0) = false := decide_eq_false (by omega)
      rw [e1]
      show false = !(!decide (n ≤ 0)) ∧ decide (n ≤ 0) = false ∧ _
      rw [e2]
      exact ⟨rfl, rfl, fun _ => ⟨rfl, fun k q => by have q := Option.some.inj q; omega⟩⟩
theorem does_side {c c' : CS} {dd : Dd} (h : Rl c c') (ok : DdOk dd) : (c'.side dd).2 = (c.does dd).2 ∧ Rl (c.does dd).1 (c'.side dd).1 := by
  have row : ∀ b, c'.row b = c.row b := fun b => by unfold CS.row; rw [h.rows]
  cases dd with
  | power l =>
    refine ⟨rfl, ⟨h.rows, h.wears, h.many, h.m, rfl, fun _ => ⟨rfl, fun n e => ?_⟩⟩⟩
    have e : l = some n := e
    rw [e] at ok
    exact ok
  | write b p x =>
    show (CS.side c' (.write b p x)).2 = (c.write b p (.ref x)).2 ∧ Rl (c.write b p (.ref x)).1 (CS.side c' (.write b p x)).1
    unfold CS.side CS.write inP inB CS.isFree
    simp only [row, h.rows, h.m, h.cut, h.many]
    by_cases hb : 0 ≤ b ∧ b < (c.rows.length : Int)
    · by_cases hp : 0 ≤ p ∧ p < (c.m : Int)
      · have n1 : ¬ ¬ (0 ≤ b ∧ b < (c.rows.length : Int)) := fun z => z hb
        have n2 : ¬ ¬ (0 ≤ p ∧ p < (c.m : Int)) := fun z => z hp
        have n3 : ¬ ¬ ((0 ≤ b ∧ b < (c.rows.length : Int)) ∧ 0 ≤ p ∧ p < (c.m : Int)) := fun z => z ⟨hb, hp⟩
        rw [if_neg n1, if_neg n2, if_neg n3]
        by_cases hf : (((c.row b).drop p.toNat).all fun v => decide (v = V.non)) = false
        · rw [if_pos hf, if_pos hf]; exact ⟨rfl, h⟩
        · rw [if_neg hf, if_neg hf]
          by_cases hc : c.cut = true
          · rw [if_pos hc]; (try rw [if_pos hc]); exact ⟨rfl, h⟩
          · rw [if_neg hc]; (try rw [if_neg hc])
            have hc : c.cut = false := by cases q : c.cut with | true => exact absurd q hc | false => rfl
            obtain ⟨g1, g2, g3⟩ := gw_side h hc
            rw [g1] at g2 g3 ⊢
            cases q : c.gw.2 with
            | true =>
              rw [q] at g2 g3
              refine ⟨rfl, ⟨rfl, ?_, rfl, ?_, ?_, fun _ => g3 rfl⟩⟩
              · show c'.wears = c.gw.1.wears; rw [h.wears, gw_wears]
              · show c.m = c.gw.1.m; rw [gw_m]
              · show _ = c.gw.1.cut; rw [g2]
            | false =>
              rw [q] at g2 g3
              refine ⟨rfl, ⟨rfl, ?_, rfl, ?_, ?_, fun z => ?_⟩⟩
              · show c'.wears = c.gw.1.wears; rw [h.wears, gw_wears]
              · show c.m = c.gw.1.m; rw [gw_m]
              · show _ = c.gw.1.cut; rw [g2]
              · have z : c.gw.1.cut = false := z
                rw [g2] at z; cases z
      · have n1 : ¬ ¬ (0 ≤ b ∧ b < (c.rows.length : Int)) := fun z => z hb
        have n3 : ¬ ((0 ≤ b ∧ b < (c.rows.length : Int)) ∧ 0 ≤ p ∧ p < (c.m : Int)) := fun z => hp z.2
        rw [if_neg n1, if_pos hp, if_pos n3]; exact ⟨rfl, h⟩
    · have n3 : ¬ ((0 ≤ b ∧ b < (c.rows.length : Int)) ∧ 0 ≤ p ∧ p < (c.m : Int)) := fun z => hb z.1
      rw [if_pos hb, if_pos n3]; exact ⟨rfl, h⟩
  | erase b =>
    show (CS.side c' (.erase b)).2 = (c.erase b).2 ∧ Rl (c.erase b).1 (CS.side c' (.erase b)).1
    unfold CS.side CS.erase inB
    simp only [h.rows, h.m, h.cut, h.wears]
    by_cases hb : 0 ≤ b ∧ b < (c.rows.length : Int)
    · have n1 : ¬ ¬ (0 ≤ b ∧ b < (c.rows.length : Int)) := fun z => z hb
      rw [if_neg n1, if_neg n1]
      by_cases hc : c.cut = true
      · rw [if_pos hc, if_pos hc]; exact ⟨rfl, h⟩
      · rw [if_neg hc, if_neg hc]
        have hc : c.cut = false := by cases q : c.cut with | true => exact absurd q hc | false => rfl
        obtain ⟨g1, g2, g3⟩ := gw_side h hc
        rw [g1] at g2 g3 ⊢
        cases q : c.gw.2 with
        | true =>
          rw [q] at g2 g3
          refine ⟨rfl, ⟨rfl, rfl, ?_, ?_, ?_, fun _ => g3 rfl⟩⟩
          · show c'.many = c.gw.1.many; rw [h.many, gw_many]
          · show c.m = c.gw.1.m; rw [gw_m]
          · show _ = c.gw.1.cut; rw [g2]
        | false =>
          rw [q] at g2 g3
          refine ⟨rfl, ⟨rfl, rfl, ?_, ?_, ?_, fun z => ?_⟩⟩
          · show c'.many = c.gw.1.many; rw [h.many, gw_many]
          · show c.m = c.gw.1.m; rw [gw_m]
          · show _ = c.gw.1.cut; rw [g2]
          · have z : c.gw.1.cut = false := z
            rw [g2] at z; cases z
    · rw [if_pos hb, if_pos hb]; exact ⟨rfl, h⟩

structure FacK (K : PySem.W.Frag) (A : Ad) : Prop extends Fac K A where
  w0 : WordF K A A.badsize 0
  w1 : WordF K A A.nopage 1
  w2 : WordF K A A.noterased 2
  w5 : WordF K A A.cut 5
def OkPg (H : Hp) (v : V) : Prop := v = .non ∨ v = .str "torn" ∨ ∃ t k, v = .ref t ∧ H t = some (.tup [.str "x", .int k])
def Pgs (H : Hp) (rows : List (List V)) : Prop := ∀ xs ∈ rows, ∀ v ∈ xs, OkPg H v
theorem Pgs.tups {H H' : Hp} {rows : List (List V)} (h : Pgs H rows) (tu : ∀ b xs, H b = some (.tup xs) → H' b = some (.tup xs)) : Pgs H' rows := fun xs hx v hv => by
  rcases h xs hx v hv with e | e | ⟨t, k, e, ht⟩
  · exact .inl e
  · exact .inr (.inl e)
  · exact .inr (.inr ⟨t, k, e, tu _ _ ht⟩)
theorem ChipAt.live {A : Ad} {H : Hp} {d : CD} {c : CS} (h : ChipAt A H d c) {b : Addr} (hb : cfp d b) : H b ≠ none := by
  rcases hb with z | z | z | z
  · rw [z, h.ob]; exact fun y => (nomatch y)
  · rw [z, h.rows]; exact fun y => (nomatch y)
  · rw [z, h.wears]; exact fun y => (nomatch y)
  · obtain ⟨i, hi⟩ := List.getElem?_of_mem z
    obtain ⟨xs, _, e⟩ := h.row i b hi
    rw [e]; exact fun y => (nomatch y)
def rCh (A : Ad) (d : CD) (c : CS) : Res := ⟨cfp d, fun H => ChipAt A H d c ∧ Pgs H c.rows, fun H h b hb => h.1.live hb, fun H H' G h f dj => ⟨h.1.keep f dj, h.2.tups f.tup⟩⟩
structure MD where
  d : Addr
  R : Addr
  W : Addr
  rs : List Addr
def MD.fp (m : MD) (b : Addr) : Prop := b = m.d ∨ b = m.R ∨ b = m.W ∨ b ∈ m.rs
def ownK (R W : Addr) (many : Int) (left : V) (cut : Bool) : List (Key × V) := [(Sum.inr "rows", .ref R), (Sum.inr "worn", .ref W), (Sum.inr "many", .int many), (Sum.inr "left", left), (Sum.inr "cut", .bl cut)]
structure MAt (H : Hp) (m : MD) (c : CS) : Prop where
  dict : H m.d = some (.dK (ownK m.R m.W c.many (leftV c.left) c.cut))
  top : H m.R = some (.lst (m.rs.map V.ref))
  ws : H m.W = some (.lst (c.wears.map V.int))
  len : m.rs.length = c.rows.length
  row : ∀ (i : Nat) a, m.rs[i]? = some a → ∃ xs, c.rows[i]? = some xs ∧ H a = some (.lst xs)
  wlen : c.wears.length = c.rows.length
  pgs : ∀ xs ∈ c.rows, xs.length = c.m
  nd : (m.R :: m.W :: m.rs).Nodup
  n1 : 1 ≤ c.rows.length
  n2 : c.rows.length ≤ 32
  m1 : c.m ≤ 16
  ok : Pgs H c.rows
def rM (m : MD) (c : CS) : Res where
  fp := m.fp
  P := fun H => MAt H m c
  live := fun H h b hb => by
    rcases hb with z | z | z | z
    · rw [z, h.dict]; exact fun y => (nomatch y)
    · rw [z, h.top]; exact fun y => (nomatch y)
    · rw [z, h.ws]; exact fun y => (nomatch y)
    · obtain ⟨i, hi⟩ := List.getElem?_of_mem z
      obtain ⟨xs, _, e⟩ := h.row i b hi
      rw [e]; exact fun y => (nomatch y)
  keep := fun H H' G h f dj => { dict := f.keep _ _ h.dict (dj _ (.inl rfl)), top := f.keep _ _ h.top (dj _ (.inr (.inl rfl))), ws := f.keep _ _ h.ws (dj _ (.inr (.inr (.inl rfl)))), len := h.len, row := (fun i a e => let ⟨xs, g1, g2⟩ := h.row i a e; ⟨xs, g1, f.keep _ _ g2 (dj _ (.inr (.inr (.inr (List.mem_of_getElem? e)))))⟩), wlen := h.wlen, pgs := h.pgs, nd := h.nd, n1 := h.n1, n2 := h.n2, m1 := h.m1, ok := h.ok.tups f.tup }
theorem kne {a b : Str} (h : ¬ a = b) : ¬ (Sum.inr a : Key) = Sum.inr b := fun z => h (Sum.inr.inj z)
theorem s_wr : ¬ ("rows" : Str) = "worn" := by decide +kernel
theorem s_rm : ¬ ("rows" : Str) = "many" := by decide +kernel
theorem s_rl : ¬ ("rows" : Str) = "left" := by decide +kernel
theorem s_rc : ¬ ("rows" : Str) = "cut" := by decide +kernel
theorem s_wm : ¬ ("worn" : Str) = "many" := by decide +kernel
theorem s_wl : ¬ ("worn" : Str) = "left" := by decide +kernel
theorem s_wc : ¬ ("worn" : Str) = "cut" := by decide +kernel
theorem s_ml : ¬ ("many" : Str) = "left" := by decide +kernel
theorem s_mc : ¬ ("many" : Str) = "cut" := by decide +kernel
theorem s_lc : ¬ ("left" : Str) = "cut" := by decide +kernel
section
variable {R W : Addr} {many : Int} {left : V} {cut : Bool}
theorem own_rows : valV (ownK R W many left cut) (Sum.inr "rows") = some (.ref R) := valV_pos rfl
theorem own_worn : valV (ownK R W many left cut) (Sum.inr "worn") = some (.ref W) := by unfold ownK; rw [valV_neg (kne s_wr), valV_pos rfl]
theorem own_many : valV (ownK R W many left cut) (Sum.inr "many") = some (.int many) := by unfold ownK; rw [valV_neg (kne s_rm), valV_neg (kne s_wm), valV_pos rfl]
theorem own_left : valV (ownK R W many left cut) (Sum.inr "left") = some left := by unfold ownK; rw [valV_neg (kne s_rl), valV_neg (kne s_wl), valV_neg (kne s_ml), valV_pos rfl]
theorem own_cut : valV (ownK R W many left cut) (Sum.inr "cut") = some (.bl cut) := by unfold ownK; rw [valV_neg (kne s_rc), valV_neg (kne s_wc), valV_neg (kne s_mc), valV_neg (kne s_lc), valV_pos rfl]
theorem put_many {n : Int} : putK (ownK R W many left cut) (Sum.inr "many") (.int n) = ownK R W n left cut := by simp [putK, ownK, s_rm, s_wm, Ne.symm s_ml, Ne.symm s_mc]
theorem put_left {v : V} : putK (ownK R W many left cut) (Sum.inr "left") v = ownK R W many v cut := by simp [putK, ownK, s_rl, s_wl, s_ml, Ne.symm s_lc]
theorem put_cut {b : Bool} : putK (ownK R W many left cut) (Sum.inr "cut") (.bl b) = ownK R W many left b := by simp [putK, ownK, s_rc, s_wc, s_mc, s_lc]
end
def sp_law (K : PySem.W.Frag) (A : Ad) : Sp := fun vs H Q E => ∃ (l : Addr) (ns : List Int), vs = [.ref l] ∧ SqL K H l (ns.map V.int) ∧ ns.length ≤ 63 ∧ ∀ H', Q (.bl true) H'
theorem len_law {K : PySem.W.Frag} {A : Ad} {vs : List V} {H : Hp} {Q : VK} {E : XK} (h : sp_law K A vs H Q E) : vs.length = 1 := by
  obtain ⟨_, _, rfl, _⟩ := h; rfl
def sp_l_made (K : PySem.W.Frag) (A : Ad) : Sp := fun vs H Q E => ∃ (b p : Int), vs = [.int b, .int p] ∧ (¬ sizeOk b p → ∀ H', Same H H' → Q (.str "BadSize") H') ∧
  (sizeOk b p → ∀ d H', ChipAt A H' d (CS.new b p) → (∀ x, cfp d x → H x = none) → Same H H' → Q (.ref d.p) H')
def sp_l_own (K : PySem.W.Frag) (A : Ad) : Sp := fun vs H Q E => ∃ (R W : Addr) (many : Int), vs = [.ref R, .ref W, .int many] ∧ ∀ d, H d = none → Q (.ref d) (upd H d (.dK (ownK R W many .non false)))
def sp_l_done (K : PySem.W.Frag) (A : Ad) : Sp := fun vs H Q E => ∃ (rs : List Res) (d : CD) (c : CS) (t : Addr) (dd : Dd), vs = [.ref d.p, .ref t] ∧ Own H (rCh A d c :: rs) ∧ DeedAt H t dd ∧ ∀ d' H', d'.p = d.p → Own H' (rCh A d' (c.does dd).1 :: rs) → Q (.str (outName (c.does dd).2)) H'
def sp_l_beside (K : PySem.W.Frag) (A : Ad) : Sp := fun vs H Q E => ∃ (rs : List Res) (m : MD) (c : CS) (t : Addr) (dd : Dd), vs = [.ref m.d, .ref t] ∧ Own H (rM m c :: rs) ∧ DeedAt H t dd ∧ DdOk dd ∧ (c.cut = false → ∀ n, c.left = some n → 0 ≤ n) ∧
  ∀ m' H', m'.d = m.d → Own H' (rM m' (c.side dd).1 :: rs) → Q (.str (outName (c.side dd).2)) H'
def sp_l_right (K : PySem.W.Frag) (A : Ad) : Sp := fun vs H Q E => ∃ (d : CD) (c : CS) (m : MD) (c' : CS), vs = [.ref d.p, .ref m.d] ∧ ChipAt A H d c ∧ Pgs H c.rows ∧ MAt H m c' ∧ Rl c c' ∧ ∀ H', Same H H' → Q (.bl true) H'
def sp_l_deed (K : PySem.W.Frag) (A : Ad) : Sp := fun vs H Q E => ∃ (n : Int) (m : MD) (c : CS), vs = [.int n, .ref m.d] ∧ MAt H m c ∧ ∀ t dd H', Same H H' → DeedAt H' t dd → DdOk dd → Q (.ref t) H'
section
variable {K : PySem.W.Frag} {A : Ad} {vs : List V} {H : Hp} {Q : VK} {E : XK}
theorem len_l_made (h : sp_l_made K A vs H Q E) : vs.length = 2 := by obtain ⟨_, _, rfl, _⟩ := h; rfl
theorem len_l_own (h : sp_l_own K A vs H Q E) : vs.length = 3 := by obtain ⟨_, _, _, rfl, _⟩ := h; rfl
theorem len_l_done (h : sp_l_done K A vs H Q E) : vs.length = 2 := by obtain ⟨_, _, _, _, _, rfl, _⟩ := h; rfl
theorem len_l_beside (h : sp_l_beside K A vs H Q E) : vs.length = 2 := by obtain ⟨_, _, _, _, _, rfl, _⟩ := h; rfl
theorem len_l_right (h : sp_l_right K A vs H Q E) : vs.length = 2 := by obtain ⟨_, _, _, _, rfl, _⟩ := h; rfl
theorem len_l_deed (h : sp_l_deed K A vs H Q E) : vs.length = 2 := by obtain ⟨_, _, _, rfl, _⟩ := h; rfl
end
def N_l_made : List Str := ["_law_blocks", "_law_pages", "_law_e"]
def t_l_made (K : PySem.W.Frag) (A : Ad) (E : XK) : TS :=
  (tTryAs K (.ref A.wear) 2 (fun W => (tRet (tMakeS A.chip (sp_Chip_init K A) (WE W) (tCons (tVar 0) (tCons (tVar 1) tNil))))) (fun a cls d => (tRet (tWord 2 a cls d (spw_l_word K A)))) (fun cls d _ H => E cls d H))

def N_l_own : List Str := ["_law_rows", "_law_worn", "_law_many"]
def t_l_own (K : PySem.W.Frag) (A : Ad) (E : XK) : TS :=
  (tRet (tDisp [((tC (.str "rows")), (tVar 0)), ((tC (.str "worn")), (tVar 1)), ((tC (.str "many")), (tVar 2)), ((tC (.str "left")), (tC .non)), ((tC (.str "cut")), (tC (.bl false)))]))

def N_l_done : List Str := ["_law_chip", "_law_deed_here", "_law_e"]
def t_l_done (K : PySem.W.Frag) (A : Ad) (E : XK) : TS :=
  (tSeq (tTryAs K (.ref A.wear) 2 (fun W => (tIfS (tTest (tOp rEq (tOp (rIxT K) (tVar 1) (tC (.int 0))) (tC (.str "write"))))
  (tDrop (tMethS A.chip "write" (sp_Chip_write K A) (WE W) (tVar 0) (tCons (tOp (rIxT K) (tVar 1) (tC (.int 1))) (tCons (tOp (rIxT K) (tVar 1) (tC (.int 2))) (tCons (tOp (rIxT K) (tVar 1) (tC (.int 3))) tNil)))))
  (tIfS (tTest (tOp rEq (tOp (rIxT K) (tVar 1) (tC (.int 0))) (tC (.str "erase"))))
  (tDrop (tMethS A.chip "erase" (sp_Chip_erase K A) (WE W) (tVar 0) (tCons (tOp (rIxT K) (tVar 1) (tC (.int 1))) tNil)))
  (tDrop (tMeth A.chip "power" (sp_Chip_power K A) [] E0 (tVar 0) (tCons (tOp (rIxT K) (tVar 1) (tC (.int 1))) tNil)))))) (fun a cls d => (tRet (tWord 2 a cls d (spw_l_word K A)))) (fun cls d _ H => E cls d H))
  (tRet (tC (.str ""))))

abbrev t_beside3 (K : PySem.W.Frag) (A : Ad) : TS :=
  (tSeq (tIfS (tTest (tOp rEq (tOp (rIxT K) (tVar 1) (tC (.int 0))) (tC (.str "write"))))
  (tSeq (sDPut (tVar 0) (tC (.str "many")) (tOp zAdd (tDGet (tVar 0) (tC (.str "many"))) (tC (.int 1))))
  (tAsg (tOp (rIxL K) (tLst (tCons (tOp (rIxT K) (tVar 1) (tC (.int 3))) (tCons (tC (.str "torn")) tNil))) (tCB zInt1 (tCons (tDGet (tVar 0) (tC (.str "cut"))) tNil))) (gSub (tVar 2) (tOp (rIxT K) (tVar 1) (tC (.int 2))) rSetL)))
  (tSeq (tAsg (tOp zAdd (tOp (rIxL K) (tDGet (tVar 0) (tC (.str "worn"))) (tOp (rIxT K) (tVar 1) (tC (.int 1)))) (tC (.int 1))) (gSub (tDGet (tVar 0) (tC (.str "worn"))) (tOp (rIxT K) (tVar 1) (tC (.int 1))) rSetL))
  (tAsg (tOp rRep (tLst (tCons (tOp (rIxL K) (tLst (tCons (tC .non) (tCons (tC (.str "torn")) tNil))) (tCB zInt1 (tCons (tDGet (tVar 0) (tC (.str "cut"))) tNil))) tNil)) (tCB (zLen K) (tCons (tVar 2) tNil))) (gSub (tDGet (tVar 0) (tC (.str "rows"))) (tOp (rIxT K) (tVar 1) (tC (.int 1))) rSetL))))
  (tRet (tOp (rIxL K) (tLst (tCons (tC (.str "")) (tCons (tC (.str "Cut")) tNil))) (tCB zInt1 (tCons (tDGet (tVar 0) (tC (.str "cut"))) tNil)))))
abbrev t_beside2 (K : PySem.W.Frag) (A : Ad) : TS :=
  (tSeq (tIfS (tB (tDGet (tVar 0) (tC (.str "cut"))))
  (tRet (tC (.str "Cut")))
  tNext)
  (tSeq (sDPut (tVar 0) (tC (.str "cut")) (tOp (rEqD K) (tDGet (tVar 0) (tC (.str "left"))) (tC (.int 0))))
  (tSeq (tIfS (tAnd (tTest (tOp zNotN (tDGet (tVar 0) (tC (.str "left"))) (tC .non))) (tNot (tB (tDGet (tVar 0) (tC (.str "cut"))))))
  (sDPut (tVar 0) (tC (.str "left")) (tOp zSub (tDGet (tVar 0) (tC (.str "left"))) (tC (.int 1))))
  tNext)
  (t_beside3 K A))))
abbrev t_beside1 (K : PySem.W.Frag) (A : Ad) : TS :=
  (tSeq (tIfS (tTest (tOp rEq (tOp (rIxT K) (tVar 1) (tC (.int 0))) (tC (.str "write"))))
  (tSeq (tIfS (tOr (tTest (tOp zLt (tOp (rIxT K) (tVar 1) (tC (.int 2))) (tC (.int 0)))) (tTest (tOp zGe (tOp (rIxT K) (tVar 1) (tC (.int 2))) (tCB (zLen K) (tCons (tVar 2) tNil)))))
  (tRet (tC (.str "NoPage")))
  tNext)
  (tIfS (tTest (tOp (rNeD K) (tLc (iList K (tSl (rSlL K) (tVar 2) (tPart (tOp (rIxT K) (tVar 1) (tC (.int 2)))) tNoPart)) (gName 3) (tTest (tOp zNotN (tVar 3) (tC .non))) (tVar 3) [3]) (tLst tNil)))
  (tRet (tC (.str "NotErased")))
  tNext))
  tNext)
  (t_beside2 K A))
def N_l_beside : List Str := ["_law_m", "_law_deed_here", "_law_row", "_law_one"]
def t_l_beside (K : PySem.W.Frag) (A : Ad) (E : XK) : TS :=
  (tSeq (tIfS (tTest (tOp rEq (tOp (rIxT K) (tVar 1) (tC (.int 0))) (tC (.str "power"))))
  (tSeq (sDPut (tVar 0) (tC (.str "left")) (tOp (rIxT K) (tVar 1) (tC (.int 1))))
  (tSeq (sDPut (tVar 0) (tC (.str "cut")) (tC (.bl false)))
  (tRet (tC (.str "")))))
  tNext)
  (tSeq (tIfS (tOr (tTest (tOp zLt (tOp (rIxT K) (tVar 1) (tC (.int 1))) (tC (.int 0)))) (tTest (tOp zGe (tOp (rIxT K) (tVar 1) (tC (.int 1))) (tCB (zLen K) (tCons (tDGet (tVar 0) (tC (.str "rows"))) tNil)))))
  (tRet (tC (.str "NoPage")))
  tNext)
  (tSeq (tAsg (tOp (rIxL K) (tDGet (tVar 0) (tC (.str "rows"))) (tOp (rIxT K) (tVar 1) (tC (.int 1)))) (gName 2))
  (t_beside1 K A))))

def N_l_right : List Str := ["_law_chip", "_law_m", "_law_blocks", "_law_pages", "_law_block", "_law_page"]
def t_l_right (K : PySem.W.Frag) (A : Ad) (E : XK) : TS :=
  (tSeq (tAsg (tCB (zLen K) (tCons (tDGet (tVar 1) (tC (.str "rows"))) tNil)) (gName 2))
  (tSeq (tAsg (tCB (zLen K) (tCons (tOp (rIxL K) (tDGet (tVar 1) (tC (.str "rows"))) (tC (.int 0))) tNil)) (gName 3))
  (tSeq (tIfS (tOr (tTest (tOp (rNeD K) (tMeth A.chip "size" (sp_Chip_size K A) [] E0 (tVar 0) tNil) (tTup (tCons (tVar 2) (tCons (tVar 3) tNil))))) (tTest (tOp rNe (tMeth A.chip "written" (sp_Chip_written K A) [] E0 (tVar 0) tNil) (tDGet (tVar 1) (tC (.str "many"))))))
  (tRet (tC (.bl false)))
  tNext)
  (tSeq (tFor (iRng1 (tCons (tVar 2) tNil)) (gName 4)
  (tSeq (tIfS (tTest (tOp rNe (tMeth A.chip "worn" (sp_Chip_worn K A) [] E (tVar 0) (tCons (tVar 4) tNil)) (tOp (rIxL K) (tDGet (tVar 1) (tC (.str "worn"))) (tVar 4))))
  (tRet (tC (.bl false)))
  tNext)
  (tIfS (tTest (tOp (rNeD K) (tLc (iRng1 (tCons (tVar 3) tNil)) (gName 5) tYes (tMeth A.chip "page" (sp_Chip_page K A) [] E0 (tVar 0) (tCons (tVar 4) (tCons (tVar 5) tNil))) [5]) (tOp (rIxL K) (tDGet (tVar 1) (tC (.str "rows"))) (tVar 4))))
  (tRet (tC (.bl false)))
  tNext)))
  (tRet (tC (.bl true)))))))

abbrev t_deed2 (K : PySem.W.Frag) (A : Ad) : TS :=
  (tSeq (tIfS (tTest (tOp zLt (tOp zMod (tVar 0) (tC (.int 8))) (tC (.int 5))))
  (tRet (tTup (tCons (tC (.str "write")) (tCons (tVar 2) (tCons (tVar 3) (tCons (tTup (tCons (tC (.str "x")) (tCons (tOp zMod (tOp zDivW (tVar 0) (tOp zPow (tC (.int 2)) (tC (.int 20)))) (tC (.int 1000))) tNil))) tNil))))))
  tNext)
  (tSeq (tIfS (tTest (tOp zLt (tOp zMod (tVar 0) (tC (.int 8))) (tC (.int 7))))
  (tRet (tTup (tCons (tC (.str "erase")) (tCons (tVar 2) tNil))))
  tNext)
  (tRet (tTup (tCons (tC (.str "power")) (tCons (tOp (rIxL K) (tLst (tCons (tC .non) (tCons (tOp zMod (tOp zDivW (tVar 0) (tOp zPow (tC (.int 2)) (tC (.int 20)))) (tC (.int 12))) (tCons (tC (.int 0)) tNil)))) (tOp zMod (tOp zDivW (tVar 0) (tC (.int 512))) (tC (.int 3)))) tNil))))))
def N_l_deed : List Str := ["_law_more", "_law_m", "_law_block", "_law_page", "_law_one"]
def t_l_deed (K : PySem.W.Frag) (A : Ad) (E : XK) : TS :=
  (tSeq (tAsg (tOp (rIxL K) (tLst (tCons (tOp zMod (tOp zDivW (tVar 0) (tC (.int 8))) (tCB (zLen K) (tCons (tDGet (tVar 1) (tC (.str "rows"))) tNil))) (tCons (tOp zSub (tOp zMod (tOp zDivW (tVar 0) (tC (.int 8))) (tC (.int 40))) (tC (.int 4))) tNil))) (tCB zInt1 (tCons (tOp rEq (tOp zMod (tOp zDivW (tVar 0) (tC (.int 512))) (tC (.int 9))) (tC (.int 0))) tNil))) (gName 2))
  (tSeq (tAsg (tOp (rIxL K) (tLst (tCons (tOp zSub (tOp zMod (tOp zDivW (tVar 0) (tC (.int 4096))) (tC (.int 18))) (tC (.int 1))) (tCons (tC (.int 0)) tNil))) (tCB zInt1 (tCons (tOp zMod (tOp zDivW (tVar 0) (tC (.int 512))) (tC (.int 2))) tNil))) (gName 3))
  (tSeq (tIfS (tAnd (tTest (tChain zLe zLt (tC (.int 0)) (tVar 2) (tCB (zLen K) (tCons (tDGet (tVar 1) (tC (.str "rows"))) tNil)))) (tTest (tOp zGt (tOp zMod (tOp zDivW (tVar 0) (tC (.int 65536))) (tC (.int 3))) (tC (.int 0)))))
  (tAsg (tCB (zLen K) (tCons (tLc (iList K (tOp (rIxL K) (tDGet (tVar 1) (tC (.str "rows"))) (tVar 2))) (gName 4) (tTest (tOp zNotN (tVar 4) (tC .non))) (tC (.int 1)) [4]) tNil)) (gName 3))
  tNext)
  (t_deed2 K A))))

abbrev t_turn (K : PySem.W.Frag) (A : Ad) : TS :=
  (tSeq (tAsg (tOp zMod (tVar 1) (tCB (zLen K) (tCons (tVar 5) tNil))) (gName 9))
  (tSeq (tAsg (tCall (sp_l_deed K A) [] E0 (tCons (tOp zDivW (tVar 1) (tC (.int 2))) (tCons (tOp (rIxL K) (tVar 6) (tVar 9)) tNil))) (gName 10))
  (tSeq (tIfS (tTest (tOp rNe (tCall (sp_l_done K A) [] E0 (tCons (tOp (rIxL K) (tVar 5) (tVar 9)) (tCons (tVar 10) tNil))) (tCall (sp_l_beside K A) [] E0 (tCons (tOp (rIxL K) (tVar 6) (tVar 9)) (tCons (tVar 10) tNil)))))
  (tRet (tC (.bl false)))
  tNext)
  (tFor (iRng1 (tCons (tCB (zLen K) (tCons (tVar 5) tNil)) tNil)) (gName 11)
  (tIfS (tNot (tB (tCall (sp_l_right K A) [] E0 (tCons (tOp (rIxL K) (tVar 5) (tVar 11)) (tCons (tOp (rIxL K) (tVar 6) (tVar 11)) tNil)))))
  (tRet (tC (.bl false)))
  tNext)))))
abbrev t_copy (K : PySem.W.Frag) (A : Ad) : TS :=
  (tSeq (tDrop (tBM K "list" rAppend (tVar 5) (tCons (tCall (sp_copied K A) [] E0 (tCons (tOp (rIxL K) (tVar 5) (tC (.int 0))) tNil)) tNil)))
  (tSeq (tAsg (tLc (iList K (tDGet (tOp (rIxL K) (tVar 6) (tC (.int 0))) (tC (.str "rows")))) (gName 12) tYes (tCB (zList K) (tCons (tVar 12) tNil)) [12]) (gName 8))
  (tDrop (tBM K "list" rAppend (tVar 6) (tCons (tCall (sp_l_own K A) [] E0 (tCons (tVar 8) (tCons (tCB (zList K) (tCons (tDGet (tOp (rIxL K) (tVar 6) (tC (.int 0))) (tC (.str "worn"))) tNil)) (tCons (tDGet (tOp (rIxL K) (tVar 6) (tC (.int 0))) (tC (.str "many"))) tNil)))) tNil)))))
abbrev t_round (K : PySem.W.Frag) (A : Ad) : TS :=
  (tSeq (tAsg (tCall (sp_l_drawn K A) [] E0 (tCons (tCall (sp_l_cell K A) [] E0 (tCons (tVar 0) (tCons (tVar 7) tNil))) (tCons (tOp zAdd (tVar 7) (tC (.int 20))) tNil))) (gName 1))
  (tSeq (tIfS (tTest (tOp rEq (tVar 7) (tC (.int 9))))
  (t_copy K A)
  tNext)
  (t_turn K A)))
abbrev t_loop (K : PySem.W.Frag) (A : Ad) : TS :=
  (tSeq (tFor (iRng1 (tCons (tCB zMax2 (tCons (tC (.int 1)) (tCons (tCB zMin2 (tCons (tC (.int 40)) (tCons (tCB (zLen K) (tCons (tVar 0) tNil)) tNil))) tNil))) tNil)) (gName 7)
  (t_round K A))
  (tRet (tC (.bl true))))
abbrev t_units (K : PySem.W.Frag) (A : Ad) : TS :=
  (tSeq (tAsg (tLst (tCons (tCall (sp_l_made K A) [] E0 (tCons (tVar 3) (tCons (tVar 4) tNil))) tNil)) (gName 5))
  (tSeq (tAsg (tLst (tCons (tCall (sp_l_own K A) [] E0 (tCons (tLc (iRng1 (tCons (tVar 3) tNil)) (gName 7) tYes (tOp rRep (tLst (tCons (tC .non) tNil)) (tVar 4)) [7]) (tCons (tOp rRep (tLst (tCons (tC (.int 0)) tNil)) (tVar 3)) (tCons (tC (.int 0)) tNil)))) tNil)) (gName 6))
  (t_loop K A)))
def N_law : List Str := ["_law_script", "_law_more", "_law_sizes", "_law_blocks", "_law_pages", "_law_chips", "_law_both", "_law_k", "_law_rows", "_law_at", "_law_deed_here", "_law_j", "_law_row"]
def t_law (K : PySem.W.Frag) (A : Ad) (E : XK) : TS :=
  (tSeq (tAsg (tCall (sp_l_drawn K A) [] E0 (tCons (tCall (sp_l_cell K A) [] E0 (tCons (tVar 0) (tCons (tC (.int 0)) tNil))) (tCons (tC (.int 3)) tNil))) (gName 1))
  (tSeq (tAsg (tOp (rIxL K) (tLst (tCons (tTup (tCons (tC (.int 3)) (tCons (tC (.int 2)) tNil))) (tCons (tTup (tCons (tC (.int 33)) (tCons (tC (.int 16)) tNil))) (tCons (tTup (tCons (tC (.int 4)) (tCons (tC (.int 1)) tNil))) (tCons (tTup (tCons (tC (.int 32)) (tCons (tC (.int 17)) tNil))) (tCons (tTup (tCons (tC (.int 0)) (tCons (tC (.int 0)) tNil))) (tCons (tTup (tCons (tUn (rU fun i => .int (-i)) (tC (.int 4))) (tCons (tC (.int 4)) tNil))) tNil))))))) (tOp zMod (tVar 1) (tC (.int 6)))) (gName 2))
  (tSeq (tIfS (tTest (tOp (rNeD K) (tCall (sp_l_made K A) [] E0 (tCons (tOp (rIxT K) (tVar 2) (tC (.int 0))) (tCons (tOp (rIxT K) (tVar 2) (tC (.int 1))) tNil))) (tC (.str "BadSize"))))
  (tRet (tC (.bl false)))
  tNext)
  (tSeq (tAsg (tOp (rIxL K) (tLst (tCons (tC (.int 4)) (tCons (tOp zAdd (tC (.int 4)) (tOp zMod (tOp zDivW (tVar 1) (tC (.int 8))) (tC (.int 29)))) (tCons (tC (.int 32)) tNil)))) (tOp zMod (tOp zDivW (tVar 1) (tC (.int 256))) (tC (.int 3)))) (gName 3))
  (tSeq (tAsg (tOp (rIxL K) (tLst (tCons (tC (.int 2)) (tCons (tOp zAdd (tC (.int 2)) (tOp zMod (tOp zDivW (tVar 1) (tC (.int 1024))) (tC (.int 15)))) (tCons (tC (.int 16)) tNil)))) (tOp zMod (tOp zDivW (tVar 1) (tC (.int 16384))) (tC (.int 3)))) (gName 4))
  (t_units K A))))))

section
variable {K : PySem.W.Frag} {A : Ad} {vs : List V} {H H' : Hp} {Q : VK} {E : XK}
theorem pure_l_made (F : FacK K A) (h : sp_l_made K A vs H Q E) : t_l_made K A E { nx := fun _ H' => Q .non H', rt := Q } (start N_l_made vs) H := by
  obtain ⟨b, p, rfl, k1, k2⟩ := h
  refine ⟨_, rfl, _, rfl, fun x dx nx ndx ne => ?_⟩
  have s0 : Same H (upd (upd H dx (.own x)) x (.ins A.chip dx [])) := (Same.new ndx).trans (Same.new (by rw [upd_ne ne.symm]; exact nx))
  refine ⟨x, dx, b, p, rfl, upd_same, fun bad => ?_, fun ok d H1 hd hp sub fr => ⟨rfl, ?_⟩⟩
  · exact ⟨true, F.w0.em, fun _ a na => ⟨rfl, rfl, _, rfl, 0, F.w0, fun H' s => k1 bad H' (s0.trans s)⟩, fun z => (nomatch z)⟩
  · have s1 : Same H H1 := fun y o e => fr.keep y o (s0 _ _ e) fun z => by rw [z, nx] at e; cases e
    rw [← hp]
    refine k2 ok d H1 hd (fun y hy => ?_) s1
    rcases sub y hy with z | z
    · rw [z]; exact nx
    · exact s0.free z
theorem pure_l_own {Z : Prop} (F : Z) (h : sp_l_own K A vs H Q E) : t_l_own K A E { nx := fun _ H' => Q .non H', rt := Q } (start N_l_own vs) H := by
  obtain ⟨R, W, many, rfl, k⟩ := h
  intro d hd
  refine ⟨_, rfl, _, rfl, _, rfl, upd_same, [(Sum.inr "rows", .ref R), (Sum.inr "worn", .ref W), (Sum.inr "many", .int many), (Sum.inr "left", .non), (Sum.inr "cut", .bl false)], rfl, (by show 5 ≤ 15; decide), ?_⟩
  have e : mergeK [] [(Sum.inr "rows", V.ref R), (Sum.inr "worn", .ref W), (Sum.inr "many", .int many), (Sum.inr "left", .non), (Sum.inr "cut", .bl false)] = ownK R W many .non false := by
    simp [mergeK, putK, ownK, s_wr, s_rm, s_rl, s_rc, s_wm, s_wl, s_wc, s_ml, s_mc, s_lc]
  rw [e, L2.upd_upd]
  exact k d hd
theorem pgs_set {H : Hp} {rows : List (List V)} {b : Nat} {ys : List V} (h : Pgs H rows) (hy : ∀ v ∈ ys, OkPg H v) : Pgs H (rows.set b ys) := fun xs hx v hv => by
  rcases List.mem_or_eq_of_mem_set hx with z | z
  · exact h xs z v hv
  · rw [z] at hv; exact hy v hv
theorem row_pgs {H : Hp} {c : CS} (h : Pgs H c.rows) (b : Int) : ∀ v ∈ c.row b, OkPg H v := fun v hv => by
  unfold CS.row at hv
  rw [List.getD_eq_getElem?_getD] at hv
  cases e : c.rows[b.toNat]? with
  | none => rw [e] at hv; cases hv
  | some xs => rw [e] at hv; exact h xs (List.mem_of_getElem? e) v hv
theorem write_pgs {H : Hp} {c : CS} (h : Pgs H c.rows) {b p : Int} {v : V} (hv : OkPg H v) : Pgs H (c.write b p v).1.rows := by
  unfold CS.write
  split
  · exact h
  · split
    · exact h
    · split
      · exact h
      · refine pgs_set h fun w hw => ?_
        rcases List.mem_or_eq_of_mem_set hw with z | z
        · exact row_pgs h b w z
        · rw [z]; split
          · exact hv
          · exact .inr (.inl rfl)
theorem erase_pgs {H : Hp} {c : CS} (h : Pgs H c.rows) {b : Int} : Pgs H (c.erase b).1.rows := by
  unfold CS.erase
  split
  · exact h
  · split
    · exact h
    · refine pgs_set h fun w hw => ?_
      rw [List.eq_of_mem_replicate hw]
      split
      · exact .inl rfl
      · exact .inr (.inl rfl)
theorem rCh_set {rs : List Res} {d d' : CD} {c c' : CS} (O : Own H (rCh A d c :: rs)) (g : Chg A H d H' d' c') (pg : Pgs H c'.rows) : Own H' (rCh A d' c' :: rs) :=
  O.set 0 rfl (r' := rCh A d' c') ⟨g.at_, pg.tups g.fr.tup⟩ g.sub g.fr
theorem ns_we : ¬ V.str "erase" = V.str "write" := fun z => absurd (V.str.inj z) (by decide +kernel)
theorem ns_wp : ¬ V.str "power" = V.str "write" := fun z => absurd (V.str.inj z) (by decide +kernel)
theorem ns_ep : ¬ V.str "power" = V.str "erase" := fun z => absurd (V.str.inj z) (by decide +kernel)
theorem ns_pw : ¬ V.str "write" = V.str "power" := fun z => absurd (V.str.inj z) (by decide +kernel)
theorem ns_pe : ¬ V.str "erase" = V.str "power" := fun z => absurd (V.str.inj z) (by decide +kernel)
theorem pure_l_done (F : FacK K A) (h : sp_l_done K A vs H Q E) : t_l_done K A E { nx := fun _ H' => Q .non H', rt := Q } (start N_l_done vs) H := by
  obtain ⟨rs, d, c, t, dd, rfl, O, hd, k⟩ := h
  have hc : ChipAt A H d c := (O.get 0 _ rfl).1
  have hp : Pgs H c.rows := (O.get 0 _ rfl).2
  have ref : ∀ {o : Out} {d' : CD} {H' : Hp} {σ : L2.St}, (∀ H'', Same H' H'' → Q (.str (outName o)) H'') → σ = [some (.ref d.p), some (.ref t), none] → o.fin A .non (fun _ H1 => tRet (tC (.str "")) { nx := fun _ H' => Q .non H', rt := Q } σ H1)
      (WE (wAs K (.ref A.wear) 2 (fun a cls d => (tRet (tWord 2 a cls d (spw_l_word K A)))) (fun cls d _ H => E cls d H) { nx := tRet (tC (.str "")) { nx := fun _ H' => Q .non H', rt := Q }, rt := Q }) σ) H' := fun {o d' H' σ} kk eσ => by
    subst eσ
    cases o with
    | ok => exact kk H' (Same.refl _)
    | nopage => exact ⟨true, F.w1.em, fun _ a na => ⟨rfl, rfl, _, rfl, 1, F.w1, kk⟩, fun z => (nomatch z)⟩
    | noterased => exact ⟨true, F.w2.em, fun _ a na => ⟨rfl, rfl, _, rfl, 2, F.w2, kk⟩, fun z => (nomatch z)⟩
    | cut => exact ⟨true, F.w5.em, fun _ a na => ⟨rfl, rfl, _, rfl, 5, F.w5, kk⟩, fun z => (nomatch z)⟩
  cases dd with
  | write b p x =>
    obtain ⟨ht, n, hx⟩ := hd
    refine ⟨_, rfl, t, _, _, .str "write", rfl, rfl, SqT.of ht, at_of (j := 0) rfl rfl, rfl, _, rfl, ifYes rfl ?_⟩
    refine ⟨_, rfl, d.p, d.dx, _, rfl, hc.ob, no5, _, rfl, t, _, _, .int b, rfl, rfl, SqT.of ht, at_of (j := 1) rfl rfl, _, rfl, t, _, _, .int p, rfl, rfl, SqT.of ht, at_of (j := 2) rfl rfl, _, rfl, t, _, _, .ref x, rfl, rfl, SqT.of ht, at_of (j := 3) rfl rfl, d, c, b, p, .ref x, rfl, hc, fun d' H' g => ?_⟩
    exact ref (d' := d') (fun H'' s => k d' H'' g.p ((rCh_set O g (write_pgs hp (.inr (.inr ⟨x, n, rfl, hx⟩)))).same s)) rfl
  | erase b =>
    have ht : H t = some (.tup [.str "erase", .int b]) := hd
    refine ⟨_, rfl, t, _, _, .str "erase", rfl, rfl, SqT.of ht, at_of (j := 0) rfl rfl, rfl, _, rfl, ifNo ns_we ?_⟩
    refine ⟨_, rfl, t, _, _, .str "erase", rfl, rfl, SqT.of ht, at_of (j := 0) rfl rfl, rfl, _, rfl, ifYes rfl ?_⟩
    refine ⟨_, rfl, d.p, d.dx, _, rfl, hc.ob, no5, _, rfl, t, _, _, .int b, rfl, rfl, SqT.of ht, at_of (j := 1) rfl rfl, d, c, b, rfl, hc, fun d' H' g => ?_⟩
    exact ref (d' := d') (fun H'' s => k d' H'' g.p ((rCh_set O g (erase_pgs hp)).same s)) rfl
  | power l =>
    have ht : H t = some (.tup [.str "power", leftV l]) := hd
    refine ⟨_, rfl, t, _, _, .str "power", rfl, rfl, SqT.of ht, at_of (j := 0) rfl rfl, rfl, _, rfl, ifNo ns_wp ?_⟩
    refine ⟨_, rfl, t, _, _, .str "power", rfl, rfl, SqT.of ht, at_of (j := 0) rfl rfl, rfl, _, rfl, ifNo ns_ep ?_⟩
    refine ⟨_, rfl, d.p, d.dx, _, rfl, hc.ob, no5, _, rfl, t, _, _, leftV l, rfl, rfl, SqT.of ht, at_of (j := 1) rfl rfl, d, c, l, rfl, hc, fun H' g => ?_⟩
    exact k d H' g.p (rCh_set O g hp)
theorem lc_filterL {a : Addr} {xs : List V} {k : Nat} {tt : TT} {te : TE} {vs : List Nat} {σ : L2.St} {H1 : Hp} {D : Addr} {Qd : Hp → Prop} (keep : V → Bool) (yv : V → V) (hz : xs.length ≤ sizeLine) (hS : SqL K H1 a xs) (hD : H1 D = none)
    (sb : ∀ (x : V) H, x ∈ xs → Same H1 H → ∀ R : Bool → Hp → Prop, R (keep x) H → tt ((wipe σ vs).set k (some x)) H R)
    (st : ∀ (x : V) H, x ∈ xs → keep x = true → Same H1 H → ∀ R : V → Hp → Prop, R (yv x) H → te ((wipe σ vs).set k (some x)) H R)
    (hw : ∀ x, wipe ((wipe σ vs).set k (some x)) vs = wipe σ vs) (hd : ∀ H, Same H1 H → H D = some (.lst ((xs.filter keep).map yv)) → Qd H) :
    ∃ W : Nat → Nat → Hp → Prop, (∃ m, W 0 m (upd H1 D (.lst []))) ∧ ∀ i m H, W i m H →
      ((Itl K a).stop i H ∧ Qd H) ∨ ((Itl K a).go i H ∧ ∃ Nx : Hp → Prop, (∀ H', Nx H' → ∃ m', m' < m ∧ W (i + 1) m' H') ∧ ∀ x H', (Itl K a).yld i H x H' → gName k x (wipe σ vs) H' fun σ2 H2 => wipe σ2 vs = wipe σ vs ∧ tt σ2 H2 fun b H3 =>
        if b = true then te σ2 H3 fun y H4 => ∃ acc, H4 D = some (.lst acc) ∧ acc.length < sizeLine ∧ Nx (upd H4 D (.lst (acc ++ [y]))) else Nx H3) := by
  refine lc_list (K := K) (a := a) (xs := xs) (fun i H => Same H1 H ∧ H D = some (.lst (((xs.take i).filter keep).map yv))) ⟨Same.new hD, upd_same⟩ (fun i H _ p => p.1.seq hS) (fun i x H hx p => ?_) fun H p => ?_
  · obtain ⟨s, hDi⟩ := p
    have hi := (List.getElem?_eq_some_iff.mp hx).1
    have hm := List.mem_of_getElem? hx
    refine ⟨hw _, sb x H hm s _ ?_⟩
    cases hk : keep x with
    | false =>
      refine iteF ⟨s, ?_⟩
      rw [take_snoc hx, List.filter_append, List.filter_cons_of_neg (by rw [hk]; exact Bool.false_ne_true), List.filter_nil, List.append_nil]
      exact hDi
    | true =>
      refine iteT (st x H hm hk s _ ?_)
      refine ⟨_, hDi, ?_, fun b o e => ?_, ?_⟩
      · rw [List.length_map]
        have h1 : ((xs.take i).filter keep).length ≤ (xs.take i).length := List.length_filter_le _ _
        rw [List.length_take] at h1
        omega
      · rw [upd_ne (ne_of_none e hD)]
        exact s _ _ e
      · rw [take_snoc hx, List.filter_append, List.filter_cons_of_pos hk, List.filter_nil, List.map_append]
        exact upd_same
  · refine hd H p.1 ?_
    have := p.2
    rw [List.take_length] at this
    exact this
theorem MAt.gRows {m : MD} {c : CS} (h : MAt H m c) : DGet H m.d (.str "rows") (some (.ref m.R)) := by
  have g := DGet.k (k := Sum.inr "rows") h.dict
  rw [own_rows] at g; exact g
theorem MAt.gWorn {m : MD} {c : CS} (h : MAt H m c) : DGet H m.d (.str "worn") (some (.ref m.W)) := by
  have g := DGet.k (k := Sum.inr "worn") h.dict
  rw [own_worn] at g; exact g
theorem MAt.gMany {m : MD} {c : CS} (h : MAt H m c) : DGet H m.d (.str "many") (some (.int c.many)) := by
  have g := DGet.k (k := Sum.inr "many") h.dict
  rw [own_many] at g; exact g
theorem MAt.gLeft {m : MD} {c : CS} (h : MAt H m c) : DGet H m.d (.str "left") (some (leftV c.left)) := by
  have g := DGet.k (k := Sum.inr "left") h.dict
  rw [own_left] at g; exact g
theorem MAt.gCut {m : MD} {c : CS} (h : MAt H m c) : DGet H m.d (.str "cut") (some (.bl c.cut)) := by
  have g := DGet.k (k := Sum.inr "cut") h.dict
  rw [own_cut] at g; exact g
theorem MAt.same {m : MD} {c : CS} (h : MAt H m c) (s : Same H H') : MAt H' m c := (rM m c).keep H H' (fun _ => False) h (Fr.of_same s) (fun _ _ z => z)
theorem MAt.rowAt {m : MD} {c : CS} (h : MAt H m c) {i : Nat} (hi : i < c.rows.length) : ∃ a xs, m.rs[i]? = some a ∧ c.rows[i]? = some xs ∧ H a = some (.lst xs) ∧ xs.length = c.m := by
  have hl : i < m.rs.length := by rw [h.len]; exact hi
  obtain ⟨xs, h1, h2⟩ := h.row i _ (List.getElem?_eq_getElem hl)
  exact ⟨_, xs, List.getElem?_eq_getElem hl, h1, h2, h.pgs xs (List.mem_of_getElem? h1)⟩
theorem pg_data {xs : List V} (h : ∀ v ∈ xs, OkPg H v) : ∃ ds, DpAll K H xs ds ∧ plainDs ds = true ∧ ∀ d ∈ ds, OkD 1 d := by
  induction xs with
  | nil => exact ⟨[], .nil, rfl, fun d hd => (nomatch hd)⟩
  | cons v xs ih =>
    obtain ⟨ds, h1, h2, h3⟩ := ih fun w hw => h w (List.mem_cons_of_mem _ hw)
    have one : ∃ d, Dp K H v d ∧ plainD d = true ∧ OkD 1 d := by
      rcases h v List.mem_cons_self with e | e | ⟨t, n, e, ht⟩
      · subst e; exact ⟨.none, .non, rfl, OkD.non.mono (by decide)⟩
      · subst e; exact ⟨.str "torn", .str _, rfl, (OkD.str strOk_torn).mono (by decide)⟩
      · subst e
        refine ⟨.tuple [.str "x", .int n], .tup (SqT.of ht) (.cons (.str _) (.cons (.int _) .nil)), rfl, OkD.tup fun d hd => ?_⟩
        rcases List.mem_cons.mp hd with z | hd
        · rw [z]; exact OkD.str (by decide +kernel)
        · rw [List.mem_singleton.mp hd]; exact OkD.int
    obtain ⟨d, g1, g2, g3⟩ := one
    refine ⟨d :: ds, .cons g1 h1, ?_, fun e he => ?_⟩
    · show (plainD d && plainDs ds) = true
      rw [g2, h2]; rfl
    · rcases List.mem_cons.mp he with z | z
      · rw [z]; exact g3
      · exact h3 e z
theorem pure_l_right (F : FacK K A) (h : sp_l_right K A vs H Q E) : t_l_right K A E { nx := fun _ H' => Q .non H', rt := Q } (start N_l_right vs) H := by
  obtain ⟨d, c, m, c', rfl, hc, hp, hm, rl, k⟩ := h
  have hn : c'.rows.length = c.rows.length := by rw [rl.rows]
  have c32 := hc.hi
  have c16 := hc.mhi
  have lrs : (m.rs.map V.ref).length = c.rows.length := by rw [List.length_map, hm.len, hn]
  obtain ⟨a0, xs0, g1, g2, g3, g4⟩ := hm.rowAt (i := 0) hm.n1
  refine ⟨_, rfl, m.d, _, rfl, hm.gRows, m.R, _, rfl, .inl (SqL.of hm.top), ?_⟩
  refine ⟨_, rfl, m.d, _, rfl, hm.gRows, m.R, _, _, .ref a0, rfl, rfl, SqL.of hm.top, at_of (j := 0) rfl (by rw [List.getElem?_map, g1]; rfl), a0, _, rfl, .inl (SqL.of g3), ?_⟩
  refine ⟨_, rfl, d.p, d.dx, _, rfl, hc.ob, no5, d, c, rfl, hc, fun t ht => ?_⟩
  refine ⟨_, rfl, _, rfl, (by show 2 ≤ sizeLine; decide), fun u hu => ?_⟩
  have s1 : Same H (upd H t (.tup [.int c.rows.length, .int c.m])) := Same.new ht
  have s2 := Same.new (o := .tup [.int (m.rs.map V.ref).length, .int xs0.length]) hu
  have sA := s1.trans s2
  refine ⟨.tuple ([(c.rows.length : Int), (c.m : Int)].map PyData.int), .tuple ([((m.rs.map V.ref).length : Int), (xs0.length : Int)].map PyData.int), .tup (SqT.of (s2 _ _ upd_same)) (dpAll_ints [(c.rows.length : Int), (c.m : Int)]), .tup (SqT.of upd_same) (dpAll_ints [((m.rs.map V.ref).length : Int), (xs0.length : Int)]), OkD.tupI.sh, OkD.tupI.sh, _, rfl, ?_⟩
  rw [eqv_tups, decide_eq_true (by rw [lrs, g4, rl.m])]
  have hc2 := (Chg.same hc sA).at_
  have hm2 := hm.same sA
  refine iteF ⟨_, rfl, d.p, d.dx, _, rfl, hc2.ob, no5, d, c, rfl, hc2, _, rfl, m.d, _, rfl, hm2.gMany, rfl, _, rfl, ifYesN (by rw [rl.many]) ?_⟩
  refine ⟨_, rfl, _, rfl, by rw [lrs]; omega, by rw [lrs]; omega, ?_⟩
  refine for_range (lo := 0) (n := ((m.rs.map V.ref).length : Int).toNat) (fun i σ H' => ∃ v4, σ = [some (.ref d.p), some (.ref m.d), some (.int (m.rs.map V.ref).length), some (.int xs0.length), v4, none] ∧ Same H H') ⟨_, rfl, sA⟩ ?_ (by rintro σ H' ⟨v4, rfl, s⟩; exact k H' s)
  rintro i σ H3 hi ⟨v4, rfl, s3⟩
  have hi : i < c.rows.length := by rw [lrs, Int.toNat_natCast] at hi; exact hi
  have hc3 := (Chg.same hc s3).at_
  have hm3 := hm.same s3
  have e0 : (0 : Int) + (i : Int) = (i : Int) := Int.zero_add _
  have ib : inB c (0 + (i : Int)) := ⟨by omega, by omega⟩
  have wl := hc.wlen
  have wl' := hm.wlen
  refine ⟨_, rfl, d.p, d.dx, _, rfl, hc3.ob, no5, _, rfl, d, c, (0 : Int) + (i : Int), rfl, hc3, fun _ => ?_, fun z => absurd ib z⟩
  refine ⟨_, rfl, m.d, _, rfl, hm3.gWorn, _, rfl, m.W, _, _, _, rfl, rfl, SqL.of hm3.ws, at_of (j := i) e0 (map_getD (by omega)), rfl, _, rfl, ifYesN (by rw [e0, Int.toNat_natCast, rl.wears]) ?_⟩
  obtain ⟨a, xs, q1, q2, q3, q4⟩ := hm3.rowAt (i := i) (by omega)
  have hrow : c.row ((0 : Int) + (i : Int)) = xs := by
    unfold CS.row
    rw [e0, Int.toNat_natCast, List.getD_eq_getElem?_getD, ← rl.rows, q2]; rfl
  have lx : xs.length = c.m := by rw [q4, rl.m]
  have ex0 : (xs0.length : Int) = (c.m : Int) := by rw [g4, rl.m]
  refine ⟨_, rfl, _, rfl, by omega, by omega, fun L hL => ?_⟩
  refine lc_mapR (lo := 0) (n := ((xs0.length : Nat) : Int).toNat) xs (by rw [lx]; omega) (sz16 (by omega)) hL (fun j y H4 hj hy s4 R2 r2 => ?_) (fun _ => rfl) fun H4 s4 hL4 => ?_
  · have hj : j < c.m := by omega
    have hc4 := (Chg.same hc3 s4).at_
    refine ⟨_, rfl, d.p, d.dx, _, rfl, hc4.ob, no5, _, rfl, _, rfl, d, c, (0 : Int) + (i : Int), (0 : Int) + (j : Int), rfl, hc4, fun _ => ?_, fun z => absurd ⟨ib, by omega, by omega⟩ z⟩
    have ey : c.at ((0 : Int) + (i : Int)) ((0 : Int) + (j : Int)) = y := by
      unfold CS.at
      rw [hrow, show ((0 : Int) + (j : Int)).toNat = j by omega, List.getD_eq_getElem?_getD, hy]; rfl
    rw [ey]
    exact r2 H4 (Same.refl H4)
  have hm4 := hm3.same s4
  have pX : ∀ v ∈ xs, OkPg H4 v := fun v hv => (hp.tups (fun b zs e => s4 b _ (s3 b _ e))) xs (by rw [← rl.rows]; exact List.mem_of_getElem? q2) v hv
  obtain ⟨ds, d1, d2, d3⟩ := pg_data (K := K) pX
  refine ⟨_, rfl, m.d, _, rfl, hm4.gRows, _, rfl, m.R, _, _, .ref a, rfl, rfl, SqL.of hm4.top, at_of (j := i) e0 (by rw [List.getElem?_map, q1]; rfl), ?_⟩
  have okL : OkD 2 (.list ds) := OkD.list d3
  refine ⟨.list ds, .list ds, .lst (SqL.of hL4) d1, .lst (SqL.of (s4 _ _ q3)) d1, okL.sh, okL.sh, _, rfl, ?_⟩
  rw [eqv_self _ (by simp only [plainD]; exact d2)]
  exact iteF ⟨_, rfl, s3.trans s4⟩
end


theorem at_bi {i j : Int} {k : Bool} : atI [V.int i, V.int j] (if k = true then 1 else 0) = some (.int (if k = true then j else i)) := by
  cases k
  · exact at_of (j := 0) rfl rfl
  · exact at_of (j := 1) rfl rfl
theorem at_2i {i j x : Int} : ∃ v, atI [V.int i, V.int j] (x % 2) = some (.int v) := by
  rcases (by omega : x % 2 = 0 ∨ x % 2 = 1) with e | e
  · exact ⟨_, at_of (j := 0) e rfl⟩
  · exact ⟨_, at_of (j := 1) e rfl⟩
section
variable {K : PySem.W.Frag} {A : Ad} {vs : List V} {H H' : Hp} {Q : VK} {E : XK}
theorem deed_rest {n b p : Int} {x : Addr} {v4 : Option V} (k : ∀ t dd H', Same H H' → DeedAt H' t dd → DdOk dd → Q (.ref t) H') : t_deed2 K A { nx := fun _ H' => Q .non H', rt := Q } [some (.int n), some (.ref x), some (.int b), some (.int p), v4] H := by
  refine ⟨_, rfl, _, _, rfl, rfl, md (by decide), _, _, rfl, rfl, _, rfl, ?_⟩
  by_cases h1 : n % 8 < 5
  · refine ifY h1 ?_
    refine ⟨_, rfl, _, rfl, _, rfl, _, _, rfl, rfl, ⟨by decide, by decide, by decide⟩, _, _, rfl, rfl, divW (by decide) (by decide), _, _, rfl, rfl, md (by decide), (by show 2 ≤ sizeLine; decide), fun x hx => ⟨(by show 4 ≤ sizeLine; decide), fun t ht => ?_⟩⟩
    exact k t (.write b p x) _ ((Same.new hx).trans (Same.new ht)) ⟨upd_same, _, by rw [upd_ne (fun z => by rw [z] at ht; rw [upd_same] at ht; cases ht)]; exact upd_same⟩ trivial
  · refine ifN h1 ?_
    refine ⟨_, rfl, _, _, rfl, rfl, md (by decide), _, _, rfl, rfl, _, rfl, ?_⟩
    by_cases h2 : n % 8 < 7
    · refine ifY h2 ?_
      refine ⟨_, rfl, (by show 2 ≤ sizeLine; decide), fun t ht => ?_⟩
      exact k t (.erase b) _ (Same.new ht) upd_same trivial
    · refine ifN h2 ?_
      refine ⟨_, rfl, _, _, rfl, rfl, ⟨by decide, by decide, by decide⟩, _, _, rfl, rfl, divW (by decide) (by decide), _, _, rfl, rfl, md (by decide), (by show 3 ≤ sizeLine; decide), fun l hl => ?_⟩
      refine ⟨_, rfl, _, _, rfl, rfl, divW (by decide) (by decide), _, _, rfl, rfl, md (by decide), ?_⟩
      have pick : ∃ w : Option Int, DdOk (.power w) ∧ atI [V.non, V.int (n / 2 ^ (20 : Int).toNat % 12), V.int 0] (n / 512 % 3) = some (leftV w) := by
        rcases (by omega : n / 512 % 3 = 0 ∨ n / 512 % 3 = 1 ∨ n / 512 % 3 = 2) with e | e | e
        · exact ⟨none, trivial, at_of (j := 0) e rfl⟩
        · exact ⟨some _, Int.emod_nonneg _ (by decide), at_of (j := 1) e rfl⟩
        · exact ⟨some 0, Int.le_refl _, at_of (j := 2) e rfl⟩
      obtain ⟨w, w1, w2⟩ := pick
      refine ⟨l, _, _, _, rfl, rfl, SqL.of upd_same, w2, (by show 2 ≤ sizeLine; decide), fun t ht => ?_⟩
      exact k t (.power w) _ ((Same.new hl).trans (Same.new ht)) upd_same w1
theorem pure_l_deed {Z : Prop} (F : Z) (h : sp_l_deed K A vs H Q E) : t_l_deed K A E { nx := fun _ H' => Q .non H', rt := Q } (start N_l_deed vs) H := by
  obtain ⟨n, m, c, rfl, hm, k⟩ := h
  have n1 := hm.n1
  have lrs : (m.rs.map V.ref).length = c.rows.length := by rw [List.length_map, hm.len]
  refine ⟨_, rfl, _, _, rfl, rfl, divW (by decide) (by decide), _, rfl, m.d, _, rfl, hm.gRows, m.R, _, rfl, .inl (SqL.of hm.top), _, _, rfl, rfl, by rw [lrs]; omega, _, rfl, _, _, rfl, rfl, divW (by decide) (by decide), _, _, rfl, rfl, md (by decide), _, _, rfl, rfl, (by show 2 ≤ sizeLine; decide), fun l hl => ?_⟩
  have s1 := Same.new (o := .lst [V.int (n / 8 % ((m.rs.map V.ref).length : Int)), V.int (n / 8 % 40 - 4)]) hl
  refine ⟨_, rfl, _, _, rfl, rfl, divW (by decide) (by decide), _, _, rfl, rfl, md (by decide), rfl, .inr ⟨_, rfl, l, _, _, _, rfl, rfl, SqL.of upd_same, at_bi, ?_⟩⟩
  refine ⟨_, rfl, _, _, rfl, rfl, divW (by decide) (by decide), _, _, rfl, rfl, md (by decide), _, _, rfl, rfl, (by show 2 ≤ sizeLine; decide), fun l2 hl2 => ?_⟩
  have s2 := s1.trans (Same.new (o := .lst [V.int (n / 4096 % 18 - 1), V.int 0]) hl2)
  obtain ⟨p, hp⟩ := at_2i (i := n / 4096 % 18 - 1) (j := 0) (x := n / 512)
  refine ⟨_, rfl, _, _, rfl, rfl, divW (by decide) (by decide), _, _, rfl, rfl, md (by decide), .inl ⟨_, rfl, l2, _, _, _, rfl, rfl, SqL.of upd_same, hp, ?_⟩⟩
  generalize (if decide (V.int (n / 512 % 9) = V.int 0) = true then n / 8 % 40 - 4 else n / 8 % ((m.rs.map V.ref).length : Int)) = b
  have hm2 := hm.same s2
  have rest : ∀ p H', Same H H' → ∀ v, t_deed2 K A { nx := fun _ H' => Q .non H', rt := Q } [some (.int n), some (.ref m.d), some (.int b), some (.int p), v] H' := fun p H' s v => deed_rest fun t dd H'' s' => k t dd H'' (s.trans s')
  refine ⟨_, rfl, _, _, rfl, rfl, _, rfl, ?_⟩
  by_cases h0 : 0 ≤ b
  · refine ifY h0 ?_
    refine ⟨_, rfl, m.d, _, rfl, hm2.gRows, m.R, _, rfl, .inl (SqL.of hm2.top), _, _, rfl, rfl, _, rfl, ?_⟩
    by_cases h1 : b < ((m.rs.map V.ref).length : Int)
    · refine ifY h1 ?_
      refine ⟨_, rfl, _, _, rfl, rfl, divW (by decide) (by decide), _, _, rfl, rfl, md (by decide), _, _, rfl, rfl, _, rfl, ?_⟩
      by_cases h2 : 0 < n / 65536 % 3
      · refine ifY h2 ?_
        obtain ⟨a, xs, q1, q2, q3, q4⟩ := hm2.rowAt (i := b.toNat) (by omega)
        refine ⟨_, rfl, m.d, _, rfl, hm2.gRows, _, rfl, m.R, _, _, .ref a, rfl, rfl, SqL.of hm2.top, at_of (j := b.toNat) (by omega) (by rw [List.getElem?_map, q1]; rfl), a, rfl, ⟨_, SqL.of q3⟩, fun D hD => ?_⟩
        have m16 := hm.m1
        refine lc_filterL (K := K) (a := a) (xs := xs) (fun v => !decide (v = V.non)) (fun _ => .int 1) (sz16 (by omega)) (SqL.of q3) hD (fun v H2 _ _ R2 r2 => ⟨_, rfl, rfl, _, rfl, r2⟩) (fun v H2 _ _ _ R2 r2 => r2) (fun _ => rfl) fun H3 s3 hD3 => ?_
        exact ⟨D, _, rfl, .inl (SqL.of hD3), rest _ _ (s2.trans s3) _⟩
      · exact ifN h2 (rest p _ s2 none)
    · exact ifN h1 (iteF (rest p _ s2 none))
  · exact ifN h0 ⟨_, rfl, iteF (iteF (rest p _ s2 none))⟩
end

section
variable {K : PySem.W.Frag} {A : Ad} {H H' : Hp} {rs : List Res} {m : MD} {c : CS}
theorem MAt.dR (h : MAt H m c) : m.R ≠ m.d := ne_of h.top h.dict (by intro z; cases z)
theorem MAt.dW (h : MAt H m c) : m.W ≠ m.d := ne_of h.ws h.dict (by intro z; cases z)
theorem MAt.dRow (h : MAt H m c) {i : Nat} {a : Addr} (e : m.rs[i]? = some a) : a ≠ m.d := by
  obtain ⟨xs, _, ha⟩ := h.row i a e
  exact ne_of ha h.dict (by intro z; cases z)
theorem rM_dict (O : Own H (rM m c :: rs)) {c' : CS} (e1 : c'.rows = c.rows) (e2 : c'.wears = c.wears) (e3 : c'.m = c.m) : Own (upd H m.d (.dK (ownK m.R m.W c'.many (leftV c'.left) c'.cut))) (rM m c' :: rs) := by
  have h : MAt H m c := O.get 0 _ rfl
  have fr : Fr m.fp H (upd H m.d (.dK (ownK m.R m.W c'.many (leftV c'.left) c'.cut))) := Fr.put h.dict (.inl rfl) (by intro xs z; cases z)
  refine O.set 0 rfl (r' := rM m c') ?_ (fun b hb => .inl hb) fr
  exact { dict := upd_same, top := by rw [upd_ne h.dR]; exact h.top, ws := by rw [upd_ne h.dW, e2]; exact h.ws, len := by rw [e1]; exact h.len,
          row := fun i a e => by
            obtain ⟨xs, hx, ha⟩ := h.row i a e
            exact ⟨xs, by rw [e1]; exact hx, by rw [upd_ne (h.dRow e)]; exact ha⟩,
          wlen := by rw [e1, e2]; exact h.wlen, pgs := by rw [e1, e3]; exact h.pgs, nd := h.nd, n1 := by rw [e1]; exact h.n1, n2 := by rw [e1]; exact h.n2, m1 := by rw [e3]; exact h.m1, ok := by rw [e1]; exact h.ok.tups fr.tup }
theorem rM_row (O : Own H (rM m c :: rs)) {b : Nat} {a : Addr} {xs ys : List V} (ha : m.rs[b]? = some a) (hx : H a = some (.lst xs)) (hl : ys.length = c.m) (hy : ∀ v ∈ ys, OkPg H v) : Own (upd H a (.lst ys)) (rM m { c with rows := c.rows.set b ys } :: rs) := by
  have h : MAt H m c := O.get 0 _ rfl
  have fr : Fr m.fp H (upd H a (.lst ys)) := Fr.put hx (.inr (.inr (.inr (List.mem_of_getElem? ha)))) (by intro xs z; cases z)
  refine O.set 0 rfl (r' := rM m { c with rows := c.rows.set b ys }) ?_ (fun b hb => .inl hb) fr
  have hm : a ∈ m.rs := List.mem_of_getElem? ha
  obtain ⟨n1, n2⟩ := List.nodup_cons.mp h.nd
  obtain ⟨n3, n4⟩ := List.nodup_cons.mp n2
  have la : m.R ≠ a := fun q => n1 (List.mem_cons.mpr (.inr (by rw [q]; exact hm)))
  have wa : m.W ≠ a := fun q => n3 (by rw [q]; exact hm)
  have pa : m.d ≠ a := (h.dRow ha).symm
  refine { dict := by rw [upd_ne pa]; exact h.dict, top := by rw [upd_ne la]; exact h.top, ws := by rw [upd_ne wa]; exact h.ws, len := by rw [List.length_set]; exact h.len,
           row := fun i x e => ?_, wlen := by rw [List.length_set]; exact h.wlen, pgs := fun zs hz => ?_, nd := h.nd, n1 := by rw [List.length_set]; exact h.n1, n2 := by rw [List.length_set]; exact h.n2, m1 := h.m1, ok := (pgs_set h.ok hy).tups fr.tup }
  · by_cases q : i = b
    · subst q
      have ea : x = a := Option.some.inj (e.symm.trans ha)
      subst ea
      have hi : i < c.rows.length := by rw [← h.len]; exact (List.getElem?_eq_some_iff.mp e).1
      exact ⟨ys, List.getElem?_set_self hi, upd_same⟩
    · obtain ⟨zs, hz, hh⟩ := h.row i x e
      have xa : x ≠ a := fun z => q (nd_ix n4 e (by rw [z]; exact ha))
      exact ⟨zs, by rw [List.getElem?_set_ne (fun z => q z.symm)]; exact hz, by rw [upd_ne xa]; exact hh⟩
  · rcases List.mem_or_eq_of_mem_set hz with z | z
    · exact h.pgs _ z
    · rw [z]; exact hl
theorem rM_wear (O : Own H (rM m c :: rs)) {b : Nat} {z : Int} : Own (upd H m.W (.lst ((c.wears.map V.int).set b (.int z)))) (rM m { c with wears := c.wears.set b z } :: rs) := by
  have h : MAt H m c := O.get 0 _ rfl
  have fr : Fr m.fp H (upd H m.W (.lst ((c.wears.map V.int).set b (.int z)))) := Fr.put h.ws (.inr (.inr (.inl rfl))) (by intro xs z; cases z)
  refine O.set 0 rfl (r' := rM m { c with wears := c.wears.set b z }) ?_ (fun b hb => .inl hb) fr
  obtain ⟨n1, n2⟩ := List.nodup_cons.mp h.nd
  obtain ⟨n3, n4⟩ := List.nodup_cons.mp n2
  have lw : m.R ≠ m.W := fun q => n1 (List.mem_cons.mpr (.inl q))
  refine { dict := by rw [upd_ne h.dW.symm]; exact h.dict, top := by rw [upd_ne lw]; exact h.top, ws := by rw [upd_same, ← List.map_set], len := h.len,
           row := fun i x e => ?_, wlen := by rw [List.length_set]; exact h.wlen, pgs := h.pgs, nd := h.nd, n1 := h.n1, n2 := h.n2, m1 := h.m1, ok := h.ok.tups fr.tup }
  obtain ⟨zs, hz, hh⟩ := h.row i x e
  have xw : x ≠ m.W := fun q => n3 (by rw [← q]; exact List.mem_of_getElem? e)
  exact ⟨zs, hz, by rw [upd_ne xw]; exact hh⟩
theorem rM_new (O : Own H (rM m c :: rs)) {b : Nat} {a : Addr} {ys : List V} (hb : b < c.rows.length) (hn : H a = none) (hl : ys.length = c.m) (hy : ∀ v ∈ ys, OkPg H v) :
    Own (upd (upd H a (.lst ys)) m.R (.lst ((m.rs.map V.ref).set b (.ref a)))) (rM { m with rs := m.rs.set b a } { c with rows := c.rows.set b ys } :: rs) := by
  have h : MAt H m c := O.get 0 _ rfl
  obtain ⟨n1, n2⟩ := List.nodup_cons.mp h.nd
  obtain ⟨n3, n4⟩ := List.nodup_cons.mp n2
  have la : m.R ≠ a := ne_of_none h.top hn
  have wa : m.W ≠ a := ne_of_none h.ws hn
  have pa : m.d ≠ a := ne_of_none h.dict hn
  have wl : m.W ≠ m.R := fun q => n1 (List.mem_cons.mpr (.inl q.symm))
  have ar : ¬ a ∈ m.rs := fun w => by
    obtain ⟨i, hi⟩ := List.getElem?_of_mem w
    obtain ⟨xs, _, hx⟩ := h.row i a hi
    rw [hn] at hx; cases hx
  have hbr : b < m.rs.length := by rw [h.len]; exact hb
  have fr : Fr m.fp H (upd (upd H a (.lst ys)) m.R (.lst ((m.rs.map V.ref).set b (.ref a)))) := by
    have f1 : Fr m.fp H (upd H a (.lst ys)) := Fr.new hn
    refine f1.trans (Fr.put (F := m.fp) (u := .lst (m.rs.map V.ref)) ?_ (.inr (.inl rfl)) (by intro xs z; cases z)) fun x hx => .inl hx
    rw [upd_ne (ne_of_none h.top hn)]; exact h.top
  refine O.set 0 rfl (r' := rM { m with rs := m.rs.set b a } { c with rows := c.rows.set b ys }) ?_ (fun x hx => ?_) fr
  · refine { dict := by show upd _ m.R _ m.d = _; rw [upd_ne h.dR.symm, upd_ne pa]; exact h.dict, top := by show upd _ m.R _ m.R = _; rw [upd_same, List.map_set], ws := by show upd _ m.R _ m.W = _; rw [upd_ne wl, upd_ne wa]; exact h.ws, len := by show (m.rs.set b a).length = (c.rows.set b ys).length; rw [List.length_set, List.length_set]; exact h.len,
             row := fun i x e => ?_, wlen := by show c.wears.length = (c.rows.set b ys).length; rw [List.length_set]; exact h.wlen, pgs := fun zs hz => ?_, nd := ?_, n1 := by show 1 ≤ (c.rows.set b ys).length; rw [List.length_set]; exact h.n1, n2 := by show (c.rows.set b ys).length ≤ 32; rw [List.length_set]; exact h.n2, m1 := h.m1, ok := (pgs_set h.ok hy).tups fr.tup }
    · have e : (m.rs.set b a)[i]? = some x := e
      show ∃ xs, (c.rows.set b ys)[i]? = some xs ∧ upd (upd H a _) m.R _ x = _
      by_cases q : i = b
      · subst q
        rw [List.getElem?_set_self hbr] at e
        have ex : a = x := Option.some.inj e
        subst ex
        exact ⟨ys, List.getElem?_set_self hb, by rw [upd_ne la.symm]; exact upd_same⟩
      · rw [List.getElem?_set_ne (fun z => q z.symm)] at e
        obtain ⟨zs, hz, hh⟩ := h.row i x e
        have xa : x ≠ a := fun z => ar (by rw [← z]; exact List.mem_of_getElem? e)
        have xl : x ≠ m.R := fun z => n1 (List.mem_cons.mpr (.inr (by rw [← z]; exact List.mem_of_getElem? e)))
        exact ⟨zs, by rw [List.getElem?_set_ne (fun z => q z.symm)]; exact hz, by rw [upd_ne xl, upd_ne xa]; exact hh⟩
    · rcases List.mem_or_eq_of_mem_set hz with z | z
      · exact h.pgs _ z
      · rw [z]; exact hl
    · show (m.R :: m.W :: m.rs.set b a).Nodup
      have hs : ∀ x, x ∈ m.rs.set b a → x ∈ m.rs ∨ x = a := fun x hx => List.mem_or_eq_of_mem_set hx
      refine List.nodup_cons.mpr ⟨fun w => ?_, List.nodup_cons.mpr ⟨fun w => ?_, ?_⟩⟩
      · rcases List.mem_cons.mp w with q | q
        · exact wl q.symm
        · rcases hs _ q with z | z
          · exact n1 (List.mem_cons.mpr (.inr z))
          · exact la z
      · rcases hs _ w with z | z
        · exact n3 z
        · exact wa z
      · exact nodup_set n4 ar
  · rcases hx with q | q | q | q
    · exact .inl (.inl q)
    · exact .inl (.inr (.inl q))
    · exact .inl (.inr (.inr (.inl q)))
    · rcases List.mem_or_eq_of_mem_set (show x ∈ m.rs.set b a from q) with z | z
      · exact .inl (.inr (.inr (.inr z)))
      · rw [z]; exact .inr hn
end

theorem at_bv {u v : V} {k : Bool} : atI [u, v] (if k = true then 1 else 0) = some (if k = true then v else u) := by
  cases k
  · exact at_of (j := 0) rfl rfl
  · exact at_of (j := 1) rfl rfl
theorem five_line : ∀ {R W : Addr} {many : Int} {left : V} {cut : Bool}, (ownK R W many left cut).length < sizeLine := fun {R W many left cut} => by show 5 < sizeLine; decide
section
variable {K : PySem.W.Frag} {A : Ad} {vs : List V} {H H' : Hp} {Q : VK} {E : XK}
theorem left_eqd (l : Option Int) : ∃ d, Dp K H (leftV l) d ∧ OkD 0 d ∧ PyData.eqv d (.int 0) = decide (l = some 0) := by
  cases l with
  | none => exact ⟨.none, .non, OkD.non, rfl⟩
  | some n =>
    refine ⟨.int n, .int n, OkD.int, ?_⟩
    by_cases z : n = 0
    · subst z; rfl
    · rw [decide_eq_false (fun q => z (Option.some.inj q))]
      cases q : PyData.eqv (.int n) (.int 0) with
      | false => rfl
      | true =>
        have := eqv_true (.int n) (.int 0) rfl rfl q
        exact absurd (PyData.int.inj this) z
def CS.goes (c : CS) : Dd → CS
  | .write b p x => { c with many := c.many + 1, rows := c.rows.set b.toNat ((c.row b).set p.toNat (if c.cut = true then .str "torn" else .ref x)) }
  | .erase b => { c with wears := c.wears.set b.toNat (c.wears.getD b.toNat 0 + 1), rows := c.rows.set b.toNat (List.replicate c.m (if c.cut = true then .str "torn" else .non)) }
  | .power _ => c
theorem beside_end {rs : List Res} {m : MD} {c : CS} {v1 v2 v3 : Option V} (O : Own H (rM m c :: rs)) (k : ∀ H', Own H' (rM m c :: rs) → Q (.str (if c.cut = true then "Cut" else "")) H') :
    tRet (tOp (rIxL K) (tLst (tCons (tC (.str "")) (tCons (tC (.str "Cut")) tNil))) (tCB zInt1 (tCons (tDGet (tVar 0) (tC (.str "cut"))) tNil))) { nx := fun _ H' => Q .non H', rt := Q } [some (.ref m.d), v1, v2, v3] H := by
  refine ⟨(by show 2 ≤ sizeLine; decide), fun l hl => ?_⟩
  have O1 := O.same (Same.new (o := .lst [V.str "", V.str "Cut"]) hl)
  have h : MAt _ m c := O1.get 0 _ rfl
  refine ⟨_, rfl, m.d, _, rfl, h.gCut, .inr ⟨_, rfl, l, _, _, _, rfl, rfl, SqL.of upd_same, at_bv, ?_⟩⟩
  have k := k _ O1
  cases e : c.cut <;> rw [e] at k <;> exact k
theorem beside3 {rs : List Res} {m : MD} {c : CS} {t : Addr} {dd : Dd} {b : Int} {a : Addr} {v3 : Option V} (O : Own H (rM m c :: rs)) (hd : DeedAt H t dd) (ib : inB c b) (ha : m.rs[b.toNat]? = some a)
    (hdd : (∃ p x, dd = .write b p x ∧ 0 ≤ p ∧ p < c.m) ∨ dd = .erase b)
    (k : ∀ m' H', m'.d = m.d → Own H' (rM m' (c.goes dd) :: rs) → Q (.str (if c.cut = true then "Cut" else "")) H') :
    t_beside3 K A { nx := fun _ H' => Q .non H', rt := Q } [some (.ref m.d), some (.ref t), some (.ref a), v3] H := by
  have h : MAt H m c := O.get 0 _ rfl
  have hb := ib.1
  have hb2 := ib.2
  have hbn : b.toNat < c.rows.length := by omega
  obtain ⟨a', xs, q1, q2, q3, q4⟩ := h.rowAt (i := b.toNat) hbn
  have ea : a' = a := Option.some.inj (q1.symm.trans ha)
  subst ea
  have hrow : c.row b = xs := by unfold CS.row; rw [List.getD_eq_getElem?_getD, q2]; rfl
  rcases hdd with ⟨p, x, e, p0, p1⟩ | e
  · subst e
    obtain ⟨ht, n, hx⟩ := hd
    refine ⟨_, rfl, t, _, _, .str "write", rfl, rfl, SqT.of ht, at_of (j := 0) rfl rfl, rfl, _, rfl, ifYes rfl ?_⟩
    refine ⟨_, rfl, m.d, _, rfl, h.gMany, _, _, rfl, rfl, _, rfl, m.d, _, rfl, DPut.k (k := Sum.inr "many") (v := .int (c.many + 1)) h.dict five_line, ?_⟩
    rw [put_many]
    have O1 := rM_dict O (c' := { c with many := c.many + 1 }) rfl rfl rfl
    have h1 : MAt _ m { c with many := c.many + 1 } := O1.get 0 _ rfl
    have t1 := (O.addTup ht).tail
    have fr1 : Fr m.fp H (upd H m.d (.dK (ownK m.R m.W (c.many + 1) (leftV c.left) c.cut))) := Fr.put h.dict (.inl rfl) (by intro xs z; cases z)
    have ht1 := fr1.tup _ _ ht
    refine ⟨_, rfl, t, _, _, .ref x, rfl, rfl, SqT.of ht1, at_of (j := 3) rfl rfl, (by show 2 ≤ sizeLine; decide), fun l hl => ?_⟩
    have s2 := Same.new (o := .lst [V.ref x, V.str "torn"]) hl
    have O2 := O1.same s2
    have h2 : MAt _ m { c with many := c.many + 1 } := O2.get 0 _ rfl
    have ht2 := s2 _ _ ht1
    obtain ⟨xs2, q22, q32⟩ := h2.row b.toNat _ ha
    have ex : xs2 = xs := Option.some.inj (q22.symm.trans q2)
    subst ex
    refine ⟨_, rfl, m.d, _, rfl, h2.gCut, .inr ⟨_, rfl, l, _, _, _, rfl, rfl, SqL.of upd_same, at_bv, ?_⟩⟩
    refine ⟨_, rfl, _, rfl, t, _, _, .int p, rfl, rfl, SqT.of ht2, at_of (j := 2) rfl rfl, _, xs2, p, p.toNat, rfl, rfl, q32, ixN_of p0 (by rw [q4]; exact p1), ?_⟩
    have O3 := rM_row O2 (ys := xs2.set p.toNat (if c.cut = true then .str "torn" else .ref x)) ha q32 (by rw [List.length_set]; exact q4) (fun v hv => by
      rcases List.mem_or_eq_of_mem_set hv with z | z
      · exact h2.ok xs2 (List.mem_of_getElem? q22) v z
      · rw [z]; split
        · exact .inr (.inl rfl)
        · exact .inr (.inr ⟨x, n, rfl, s2 _ _ (fr1.tup _ _ hx)⟩))
    refine beside_end O3 fun H' O' => k m H' rfl ?_
    have e : (c.goes (.write b p x)) = { c with many := c.many + 1, rows := c.rows.set b.toNat (xs2.set p.toNat (if c.cut = true then .str "torn" else .ref x)) } := by
      rw [← hrow]; rfl
    rw [e]
    exact O'
  · subst e
    have ht : H t = some (.tup [.str "erase", .int b]) := hd
    refine ⟨_, rfl, t, _, _, .str "erase", rfl, rfl, SqT.of ht, at_of (j := 0) rfl rfl, rfl, _, rfl, ifNo ns_we ?_⟩
    have wl := h.wlen
    refine ⟨_, rfl, m.d, _, rfl, h.gWorn, _, rfl, t, _, _, .int b, rfl, rfl, SqT.of ht, at_of (j := 1) rfl rfl, m.W, _, _, _, rfl, rfl, SqL.of h.ws, at_of (j := b.toNat) (by omega) (map_getD (by omega)), _, _, rfl, rfl, ?_⟩
    refine ⟨_, rfl, m.d, _, rfl, h.gWorn, _, rfl, t, _, _, .int b, rfl, rfl, SqT.of ht, at_of (j := 1) rfl rfl, m.W, _, b, b.toNat, rfl, rfl, h.ws, ixN_of hb (by rw [List.length_map]; omega), ?_⟩
    have O1 := rM_wear O (b := b.toNat) (z := c.wears.getD b.toNat 0 + 1)
    have fr1 : Fr m.fp H (upd H m.W (.lst ((c.wears.map V.int).set b.toNat (.int (c.wears.getD b.toNat 0 + 1))))) := Fr.put h.ws (.inr (.inr (.inl rfl))) (by intro xs z; cases z)
    have ht1 := fr1.tup _ _ ht
    obtain ⟨c1, ec1⟩ : ∃ c1, c1 = { c with wears := c.wears.set b.toNat (c.wears.getD b.toNat 0 + 1) } := ⟨_, rfl⟩
    rw [← ec1] at O1
    have h1 : MAt _ m c1 := O1.get 0 _ rfl
    refine ⟨(by show 2 ≤ sizeLine; decide), fun l hl => ?_⟩
    have s2 := Same.new (o := .lst [V.non, V.str "torn"]) hl
    have O2 := O1.same s2
    have h2 : MAt _ m c1 := O2.get 0 _ rfl
    refine ⟨_, rfl, m.d, _, rfl, h2.gCut, .inr ⟨_, rfl, l, _, _, _, rfl, rfl, SqL.of upd_same, at_bv, ?_⟩⟩
    refine ⟨(by show 1 ≤ sizeLine; decide), fun l2 hl2 => ?_⟩
    have s3 := s2.trans (Same.new (o := .lst [if c1.cut = true then V.str "torn" else V.non]) hl2)
    have O3 := O1.same s3
    have h3 : MAt _ m c1 := O3.get 0 _ rfl
    have ht3 := s3 _ _ ht1
    obtain ⟨xs3, q23, q33⟩ := h3.row b.toNat _ ha
    have q23 : c.rows[b.toNat]? = some xs3 := by rw [ec1] at q23; exact q23
    have ex : xs3 = xs := Option.some.inj (q23.symm.trans q2)
    subst ex
    have m16 := h.m1
    refine ⟨_, rfl, _, _, rfl, .inl (SqL.of q33), l2, _, _, rfl, rfl, upd_same, by omega, by omega, (by show 1 * _ ≤ _; exact sz16 (by omega)), fun D hD => ?_⟩
    rw [rep1, Int.toNat_natCast, q4]
    have sD := Same.new (o := .lst (List.replicate c.m (if c1.cut = true then V.str "torn" else V.non))) hD
    have h4 : MAt _ m c1 := (O3.same sD).get 0 _ rfl
    refine ⟨_, rfl, m.d, _, rfl, h4.gRows, _, rfl, t, _, _, .int b, rfl, rfl, SqT.of (sD _ _ ht3), at_of (j := 1) rfl rfl, m.R, _, b, b.toNat, rfl, rfl, h4.top, ixN_of hb (by rw [List.length_map, h.len]; exact hb2), ?_⟩
    have O5 := rM_new O3 (b := b.toNat) (a := D) (ys := List.replicate c.m (if c1.cut = true then V.str "torn" else V.non)) (by rw [ec1]; exact hbn) hD (by rw [List.length_replicate, ec1]) (fun v hv => by
      rw [List.eq_of_mem_replicate hv]; split
      · exact .inr (.inl rfl)
      · exact .inl rfl)
    refine beside_end (m := { m with rs := m.rs.set b.toNat D }) O5 fun H' O' => ?_
    have O6 : Own H' (rM { m with rs := m.rs.set b.toNat D } (c.goes (.erase b)) :: rs) := by rw [ec1] at O'; exact O'
    have e : c1.cut = c.cut := by rw [ec1]
    have kk := k { m with rs := m.rs.set b.toNat D } H' rfl O6
    show Q (.str (if c1.cut = true then "Cut" else "")) H'
    rw [e]; exact kk
end

theorem eqv_nil {ds : List PyData} : PyData.eqv (.list ds) (.list []) = decide (ds = []) := by
  cases ds <;> simp [PyData.eqv, PyData.eqvAll]
theorem dp_nil {K : PySem.W.Frag} {H : Hp} {xs : List V} {ds : List PyData} (h : DpAll K H xs ds) : decide (ds = []) = decide (xs = []) := by
  cases h <;> simp
theorem filt_free {xs : List V} : (xs.all fun v => decide (v = V.non)) = decide ((xs.filter fun v => !decide (v = V.non)) = []) := by
  induction xs with
  | nil => rfl
  | cons v xs ih =>
    by_cases h : v = V.non
    · subst h
      rw [List.all_cons, List.filter_cons_of_neg (by decide), ← ih]; rfl
    · rw [List.all_cons, decide_eq_false h, List.filter_cons_of_pos (by rw [decide_eq_false h]; rfl)]; rfl
section
variable {K : PySem.W.Frag} {A : Ad} {vs : List V} {H H' : Hp} {Q : VK} {E : XK}
theorem side_write {c : CS} {b p : Int} {x : Addr} : c.side (.write b p x) = if ¬ inB c b then (c, .nopage) else if ¬ (0 ≤ p ∧ p < (c.m : Int)) then (c, .nopage) else if c.isFree b p = false then (c, .noterased) else if c.cut = true then (c, .cut) else
      ({ c with cut := c.cutS, left := c.leftS, many := c.many + 1, rows := c.rows.set b.toNat ((c.row b).set p.toNat (if c.cutS = true then .str "torn" else .ref x)) }, if c.cutS = true then .cut else .ok) := rfl
theorem side_erase {c : CS} {b : Int} : c.side (.erase b) = if ¬ inB c b then (c, .nopage) else if c.cut = true then (c, .cut) else
      ({ c with cut := c.cutS, left := c.leftS, wears := c.wears.set b.toNat (c.wears.getD b.toNat 0 + 1), rows := c.rows.set b.toNat (List.replicate c.m (if c.cutS = true then .str "torn" else .non)) }, if c.cutS = true then .cut else .ok) := rfl
def CS.fed (c : CS) : CS := { c with cut := c.cutS, left := c.leftS }
theorem beside2 {rs : List Res} {m : MD} {c : CS} {t : Addr} {dd : Dd} {b : Int} {a : Addr} {v3 : Option V} (O : Own H (rM m c :: rs)) (hd : DeedAt H t dd) (ib : inB c b) (ha : m.rs[b.toNat]? = some a)
    (hdd : (∃ p x, dd = .write b p x ∧ 0 ≤ p ∧ p < c.m) ∨ dd = .erase b)
    (k1 : c.cut = true → ∀ H', Own H' (rM m c :: rs) → Q (.str "Cut") H')
    (k2 : c.cut = false → ∀ m' H', m'.d = m.d → Own H' (rM m' (c.fed.goes dd) :: rs) → Q (.str (if c.cutS = true then "Cut" else "")) H') :
    t_beside2 K A { nx := fun _ H' => Q .non H', rt := Q } [some (.ref m.d), some (.ref t), some (.ref a), v3] H := by
  have h : MAt H m c := O.get 0 _ rfl
  refine ⟨_, rfl, m.d, _, rfl, h.gCut, _, rfl, ?_⟩
  cases hc : c.cut with
  | true => exact iteT (k1 hc H O)
  | false =>
    refine iteF ?_
    obtain ⟨d0, d1, d2, d3⟩ := left_eqd (K := K) (H := H) c.left
    refine ⟨_, rfl, m.d, _, rfl, h.gLeft, d0, .int 0, d1, .int 0, d2.sh, OkD.int.sh, ?_⟩
    rw [d3]
    refine ⟨_, rfl, m.d, _, rfl, DPut.k (k := Sum.inr "cut") (v := .bl (decide (c.left = some 0))) h.dict five_line, ?_⟩
    rw [put_cut]
    obtain ⟨c1, ec1⟩ : ∃ c1, c1 = { c with cut := c.cutS } := ⟨_, rfl⟩
    have O1 : Own (upd H m.d (.dK (ownK m.R m.W c.many (leftV c.left) (decide (c.left = some 0))))) (rM m c1 :: rs) := by
      rw [ec1]; exact rM_dict O (c' := { c with cut := c.cutS }) rfl rfl rfl
    have fr1 : Fr m.fp H (upd H m.d (.dK (ownK m.R m.W c.many (leftV c.left) (decide (c.left = some 0))))) := Fr.put h.dict (.inl rfl) (by intro xs z; cases z)
    have hd1 := hd.tups fr1.tup
    have h1 : MAt _ m c1 := O1.get 0 _ rfl
    have fin : ∀ H2, Own H2 (rM m c.fed :: rs) → DeedAt H2 t dd → t_beside3 K A { nx := fun _ H' => Q .non H', rt := Q } [some (.ref m.d), some (.ref t), some (.ref a), v3] H2 := fun H2 O2 hd2 =>
      beside3 (c := c.fed) O2 hd2 ib ha hdd fun m' H' e O' => k2 hc m' H' e O'
    have e1 : c1.left = c.left := by rw [ec1]
    have e2 : c1.cut = c.cutS := by rw [ec1]
    refine ⟨_, rfl, m.d, _, rfl, h1.gLeft, rfl, _, rfl, ?_⟩
    rw [e1]
    have same : c.leftS = c.left → c1 = c.fed := fun z => by rw [ec1]; unfold CS.fed; rw [z]
    cases el : c.left with
    | none =>
      have z : c1 = c.fed := same (by
        unfold CS.leftS; split
        · rfl
        · rw [el]; rfl)
      rw [el] at O1 hd1
      exact iteF (iteF (fin _ (by rw [← z]; exact O1) hd1))
    | some n =>
      refine iteT ⟨_, rfl, m.d, _, rfl, by rw [← el]; exact h1.gCut, _, rfl, ?_⟩
      rw [e2]
      cases ec : c.cutS with
      | true =>
        have z : c1 = c.fed := same (by unfold CS.leftS; rw [if_pos ec])
        rw [el] at O1 hd1
        exact iteF (fin _ (by rw [← z]; exact O1) hd1)
      | false =>
        have h1d := h1.dict
        have h1l := h1.gLeft
        rw [e1, el] at h1d h1l
        rw [el] at O1 hd1
        refine iteT ⟨_, rfl, m.d, _, rfl, h1l, _, _, rfl, rfl, _, rfl, m.d, _, rfl, DPut.k (k := Sum.inr "left") (v := .int (n - 1)) h1d five_line, ?_⟩
        rw [put_left]
        have z : c.fed = { c1 with left := some (n - 1) } := by
          rw [ec1]; unfold CS.fed CS.leftS; rw [if_neg (by rw [ec]; exact Bool.noConfusion), el]; rfl
        have O2 := rM_dict O1 (c' := c.fed) (by rw [z]) (by rw [z]) (by rw [z])
        have fr2 : Fr m.fp _ (upd _ m.d (.dK (ownK m.R m.W c1.many (.int (n - 1)) c1.cut))) := Fr.put h1d (.inl rfl) (by intro xs z; cases z)
        refine fin _ ?_ (hd1.tups fr2.tup)
        rw [z] at O2 ⊢
        exact O2
theorem out_name {k : Bool} : outName (if k = true then .cut else .ok) = (if k = true then ("Cut" : Str) else ("" : Str)) := by cases k <;> rfl
theorem pure_l_beside {Z : Prop} (F : Z) (h : sp_l_beside K A vs H Q E) : t_l_beside K A E { nx := fun _ H' => Q .non H', rt := Q } (start N_l_beside vs) H := by
  obtain ⟨rs, m, c, t, dd, rfl, O, hd, ok, _, k⟩ := h
  have h : MAt H m c := O.get 0 _ rfl
  have common : ∀ (w : Str) (b : Int) (tl : List V), ¬ V.str w = V.str "power" → H t = some (.tup (.str w :: .int b :: tl)) → (¬ inB c b → Q (.str "NoPage") H) → (inB c b → ∀ a, m.rs[b.toNat]? = some a → t_beside1 K A { nx := fun _ H' => Q .non H', rt := Q } [some (.ref m.d), some (.ref t), some (.ref a), none] H) →
      t_l_beside K A E { nx := fun _ H' => Q .non H', rt := Q } (start N_l_beside [.ref m.d, .ref t]) H := fun w b tl nw ht kn kr => by
    have lrs : (m.rs.map V.ref).length = c.rows.length := by rw [List.length_map, h.len]
    refine ⟨_, rfl, t, _, _, .str w, rfl, rfl, SqT.of ht, at_of (j := 0) rfl rfl, rfl, _, rfl, ifNo nw ?_⟩
    refine ⟨_, rfl, t, _, _, .int b, rfl, rfl, SqT.of ht, at_of (j := 1) rfl rfl, _, _, rfl, rfl, _, rfl, ?_⟩
    by_cases h0 : b < 0
    · exact ifY h0 (iteT (kn fun z => by have := z.1; omega))
    · refine ifN h0 ⟨_, rfl, t, _, _, .int b, rfl, rfl, SqT.of ht, at_of (j := 1) rfl rfl, _, rfl, m.d, _, rfl, h.gRows, m.R, _, rfl, .inl (SqL.of h.top), _, _, rfl, rfl, _, rfl, ?_⟩
      by_cases h1 : ((m.rs.map V.ref).length : Int) ≤ b
      · exact ifY h1 (kn fun z => by have := z.2; omega)
      · refine ifN h1 ?_
        have ib : inB c b := ⟨by omega, by omega⟩
        obtain ⟨a, xs, q1, q2, q3, q4⟩ := h.rowAt (i := b.toNat) (by omega)
        refine ⟨_, rfl, m.d, _, rfl, h.gRows, _, rfl, t, _, _, .int b, rfl, rfl, SqT.of ht, at_of (j := 1) rfl rfl, m.R, _, _, .ref a, rfl, rfl, SqL.of h.top, at_of (j := b.toNat) (by omega) (by rw [List.getElem?_map, q1]; rfl), ?_⟩
        exact kr ib a q1
  cases dd with
  | power l =>
    have ht : H t = some (.tup [.str "power", leftV l]) := hd
    refine ⟨_, rfl, t, _, _, .str "power", rfl, rfl, SqT.of ht, at_of (j := 0) rfl rfl, rfl, _, rfl, ifYes rfl ?_⟩
    refine ⟨_, rfl, t, _, _, leftV l, rfl, rfl, SqT.of ht, at_of (j := 1) rfl rfl, _, rfl, m.d, _, rfl, DPut.k (k := Sum.inr "left") (v := leftV l) h.dict five_line, ?_⟩
    rw [put_left]
    have O1 := rM_dict O (c' := { c with left := l }) rfl rfl rfl
    have h1 : MAt _ m { c with left := l } := O1.get 0 _ rfl
    refine ⟨_, rfl, m.d, _, rfl, DPut.k (k := Sum.inr "cut") (v := .bl false) h1.dict five_line, ?_⟩
    rw [put_cut]
    have O2 := rM_dict O1 (c' := { c with left := l, cut := false }) rfl rfl rfl
    exact k m _ rfl O2
  | erase b =>
    have ht : H t = some (.tup [.str "erase", .int b]) := hd
    refine common "erase" b [] ns_pe ht (fun nb => ?_) (fun ib a ha => ?_)
    · have e : c.side (.erase b) = (c, .nopage) := by rw [side_erase, if_pos nb]
      have k := k m H rfl
      rw [e] at k
      exact k O
    · have n1 : ¬ ¬ inB c b := fun z => z ib
      refine ⟨_, rfl, t, _, _, .str "erase", rfl, rfl, SqT.of ht, at_of (j := 0) rfl rfl, rfl, _, rfl, ifNo ns_we ?_⟩
      refine beside2 O hd ib ha (.inr rfl) (fun hc H' O' => ?_) (fun hc m' H' em O' => ?_)
      · have e : c.side (.erase b) = (c, .cut) := by rw [side_erase, if_neg n1, if_pos hc]
        have k := k m H' rfl
        rw [e] at k
        exact k O'
      · have e : c.side (.erase b) = (c.fed.goes (.erase b), if c.cutS = true then .cut else .ok) := by rw [side_erase, if_neg n1, if_neg (by rw [hc]; exact Bool.noConfusion)]; rfl
        have k := k m' H' em
        rw [e, out_name] at k
        exact k O'
  | write b p x =>
    obtain ⟨ht, n, hx⟩ := id hd
    refine common "write" b [.int p, .ref x] ns_pw ht (fun nb => ?_) (fun ib a ha => ?_)
    · have e : c.side (.write b p x) = (c, .nopage) := by rw [side_write, if_pos nb]
      have k := k m H rfl
      rw [e] at k
      exact k O
    · have n1 : ¬ ¬ inB c b := fun z => z ib
      have np : ∀ H', Own H' (rM m c :: rs) → ¬ (0 ≤ p ∧ p < (c.m : Int)) → Q (.str "NoPage") H' := fun H' O' nb => by
        have e : c.side (.write b p x) = (c, .nopage) := by rw [side_write, if_neg n1, if_pos nb]
        have k := k m H' rfl
        rw [e] at k
        exact k O'
      have ib1 := ib.1
      have ib2 := ib.2
      obtain ⟨a', xs, q1, q2, q3, q4⟩ := h.rowAt (i := b.toNat) (by omega)
      have ea : a' = a := Option.some.inj (q1.symm.trans ha)
      subst ea
      have hrow : c.row b = xs := by unfold CS.row; rw [List.getD_eq_getElem?_getD, q2]; rfl
      refine ⟨_, rfl, t, _, _, .str "write", rfl, rfl, SqT.of ht, at_of (j := 0) rfl rfl, rfl, _, rfl, ifYes rfl ?_⟩
      refine ⟨_, rfl, t, _, _, .int p, rfl, rfl, SqT.of ht, at_of (j := 2) rfl rfl, _, _, rfl, rfl, _, rfl, ?_⟩
      by_cases h0 : p < 0
      · exact ifY h0 (iteT (np H O fun z => by have := z.1; omega))
      · refine ifN h0 ⟨_, rfl, t, _, _, .int p, rfl, rfl, SqT.of ht, at_of (j := 2) rfl rfl, _, rfl, _, _, rfl, .inl (SqL.of q3), _, _, rfl, rfl, _, rfl, ?_⟩
        by_cases h1 : (xs.length : Int) ≤ p
        · exact ifY h1 (np H O fun z => by have := z.2; omega)
        · refine ifN h1 ?_
          have n2 : ¬ ¬ (0 ≤ p ∧ p < (c.m : Int)) := fun z => z ⟨by omega, by omega⟩
          refine ⟨_, rfl, _, rfl, t, _, _, .int p, rfl, rfl, SqT.of ht, at_of (j := 2) rfl rfl, _, rfl, _, _, rfl, SqL.of q3, fun S hS => ?_⟩
          rw [cutV_from (by omega) (by omega)]
          have m16 := h.m1
          refine ⟨_, rfl, ⟨_, SqL.of upd_same⟩, fun D hD => ?_⟩
          refine lc_filterL (K := K) (a := S) (xs := xs.drop p.toNat) (fun v => !decide (v = V.non)) id (sz16 (by rw [List.length_drop]; omega)) (SqL.of upd_same) hD (fun v H2 _ _ R2 r2 => ⟨_, rfl, rfl, _, rfl, r2⟩) (fun v H2 _ _ _ R2 r2 => ⟨_, rfl, r2⟩) (fun _ => rfl) fun H2 s2 hD2 => ?_
          rw [List.map_id] at hD2
          refine ⟨Nat.zero_le _, fun e he => ?_⟩
          have sA := ((Same.new (o := .lst (xs.drop p.toNat)) hS).trans s2).trans (Same.new (o := .lst []) he)
          have O2 := O.same sA
          have h2 : MAt _ m c := O2.get 0 _ rfl
          obtain ⟨ds, d1, d2, d3⟩ := pg_data (K := K) (xs := (xs.drop p.toNat).filter fun v => !decide (v = V.non)) fun v hv => h2.ok xs (List.mem_of_getElem? q2) v (List.mem_of_mem_drop (List.mem_filter.mp hv).1)
          have okL : OkD 2 (.list ds) := OkD.list d3
          refine ⟨.list ds, .list [], .lst (SqL.of ((Same.new (o := .lst []) he) _ _ hD2)) d1, .lst (SqL.of upd_same) .nil, okL.sh, (OkD.listI (ns := [])).sh, _, rfl, ?_⟩
          rw [eqv_nil, dp_nil d1, ← filt_free, ← hrow]
          show if (!c.isFree b p) = true then _ else _
          cases hf : c.isFree b p with
          | false =>
            refine iteT ?_
            have e : c.side (.write b p x) = (c, .noterased) := by rw [side_write, if_neg n1, if_neg n2, if_pos hf]
            have k := fun H' => k m H' rfl
            rw [e] at k
            exact k _ O2
          | true =>
            refine iteF ?_
            have n3 : ¬ c.isFree b p = false := by rw [hf]; exact Bool.noConfusion
            refine beside2 O2 (hd.tups fun b xs z => sA _ _ z) ib ha (.inl ⟨p, x, rfl, by omega, by omega⟩) (fun hc H' O' => ?_) (fun hc m' H' em O' => ?_)
            · have e : c.side (.write b p x) = (c, .cut) := by rw [side_write, if_neg n1, if_neg n2, if_neg n3, if_pos hc]
              have k := k m H' rfl
              rw [e] at k
              exact k O'
            · have e : c.side (.write b p x) = (c.fed.goes (.write b p x), if c.cutS = true then .cut else .ok) := by rw [side_write, if_neg n1, if_neg n2, if_neg n3, if_neg (by rw [hc]; exact Bool.noConfusion)]; rfl
              have k := k m' H' em
              rw [e, out_name] at k
              exact k O'
end

theorem Own.cons_iff {H : Hp} {a : Res} {rs : List Res} : Own H (a :: rs) ↔ a.P H ∧ Own H rs ∧ ∀ x ∈ rs, ∀ b, a.fp b → ¬ x.fp b := by
  refine ⟨fun O => ⟨O.get 0 _ rfl, O.tail, fun x hx b hb hb' => ?_⟩, fun ⟨p, O, d⟩ => ⟨fun i r e => ?_, fun i j r r' ne e e' b hb hb' => ?_⟩⟩
  · obtain ⟨i, hi⟩ := List.getElem?_of_mem hx
    exact O.dj 0 (i + 1) a x (by omega) rfl hi b hb hb'
  · cases i with
    | zero => cases e; exact p
    | succ i => exact O.get i r e
  · cases i with
    | zero =>
      cases e
      cases j with
      | zero => exact ne rfl
      | succ j => exact d r' (List.mem_of_getElem? e') b hb hb'
    | succ i =>
      cases j with
      | zero => cases e'; exact d r (List.mem_of_getElem? e) b hb' hb
      | succ j => exact O.dj i j r r' (fun z => ne (by rw [z])) e e' b hb hb'
theorem Own.perm {H : Hp} {rs rs' : List Res} (h : rs.Perm rs') : Own H rs → Own H rs' := by
  induction h with
  | nil => exact id
  | cons a h ih =>
    intro O
    obtain ⟨p, O, d⟩ := Own.cons_iff.mp O
    exact Own.cons_iff.mpr ⟨p, ih O, fun x hx => d x (h.symm.subset hx)⟩
  | swap a b l => exact fun O => O.swap
  | trans _ _ ih1 ih2 => exact fun O => ih2 (ih1 O)
def rDeed (t : Addr) (dd : Dd) : Res := ⟨fun _ => False, fun H => DeedAt H t dd, fun H h b e => e.elim, fun H H' G h f dj => h.tups f.tup⟩
structure U where
  d : CD
  c : CS
  m : MD
  k : CS
def U.res (A : Ad) (u : U) : List Res := [rCh A u.d u.c, rM u.m u.k]
def allR (A : Ad) (us : List U) : List Res := us.flatMap (U.res A)
structure Kept (A : Ad) (H : Hp) (C B : Addr) (r : Res) (us : List U) : Prop where
  own : Own H (rOb C (.lst (us.map fun u => .ref u.d.p)) :: rOb B (.lst (us.map fun u => .ref u.m.d)) :: r :: allR A us)
  rl : ∀ u ∈ us, Rl u.c u.k
section
variable {A : Ad} {H H' : Hp} {C B : Addr} {r : Res}
theorem Kept.same {us : List U} (h : Kept A H C B r us) (s : Same H H') : Kept A H' C B r us := ⟨h.own.same s, h.rl⟩
theorem Kept.c {us : List U} (h : Kept A H C B r us) : H C = some (.lst (us.map fun u => .ref u.d.p)) := h.own.get 0 _ rfl
theorem Kept.b {us : List U} (h : Kept A H C B r us) : H B = some (.lst (us.map fun u => .ref u.m.d)) := h.own.get 1 _ rfl
theorem Kept.scr {us : List U} (h : Kept A H C B r us) : r.P H := h.own.get 2 _ rfl
theorem Kept.cut {us : List U} {i : Nat} (hi : i < us.length) : ∃ X u Y, us = X ++ u :: Y ∧ X.length = i := by
  refine ⟨us.take i, us[i], us.drop (i + 1), ?_, List.length_take_of_le (Nat.le_of_lt hi)⟩
  rw [← List.drop_eq_getElem_cons hi, List.take_append_drop]
theorem Kept.foc {X Y : List U} {u : U} (h : Kept A H C B r (X ++ u :: Y)) : Own H (rCh A u.d u.c :: rM u.m u.k :: rOb C (.lst ((X ++ u :: Y).map fun u => .ref u.d.p)) :: rOb B (.lst ((X ++ u :: Y).map fun u => .ref u.m.d)) :: r :: (allR A X ++ allR A Y)) := by
  have o := h.own
  have e : allR A (X ++ u :: Y) = allR A X ++ (U.res A u ++ allR A Y) := by
    unfold allR; rw [List.flatMap_append, List.flatMap_cons]
  rw [e] at o
  exact o.perm (List.perm_append_comm_assoc (rOb C (.lst ((X ++ u :: Y).map fun u => .ref u.d.p)) :: rOb B (.lst ((X ++ u :: Y).map fun u => .ref u.m.d)) :: r :: allR A X) (U.res A u) (allR A Y))
theorem Kept.unfoc {X Y : List U} {u v : U} (rl : ∀ w ∈ X ++ u :: Y, Rl w.c w.k) (ep : v.d.p = u.d.p) (em : v.m.d = u.m.d) (rv : Rl v.c v.k) (o : Own H (rCh A v.d v.c :: rM v.m v.k :: rOb C (.lst ((X ++ u :: Y).map fun u => .ref u.d.p)) :: rOb B (.lst ((X ++ u :: Y).map fun u => .ref u.m.d)) :: r :: (allR A X ++ allR A Y))) :
    Kept A H C B r (X ++ v :: Y) := by
  refine ⟨?_, fun w hw => ?_⟩
  · have e1 : ((X ++ u :: Y).map fun u => V.ref u.d.p) = (X ++ v :: Y).map fun u => V.ref u.d.p := by
      rw [List.map_append, List.map_append, List.map_cons, List.map_cons, ep]
    have e2 : ((X ++ u :: Y).map fun u => V.ref u.m.d) = (X ++ v :: Y).map fun u => V.ref u.m.d := by
      rw [List.map_append, List.map_append, List.map_cons, List.map_cons, em]
    have e : allR A (X ++ v :: Y) = allR A X ++ (U.res A v ++ allR A Y) := by
      unfold allR; rw [List.flatMap_append, List.flatMap_cons]
    rw [e1, e2] at o
    rw [e]
    exact o.perm (List.perm_append_comm_assoc (U.res A v) (rOb C (.lst ((X ++ v :: Y).map fun u => .ref u.d.p)) :: rOb B (.lst ((X ++ v :: Y).map fun u => .ref u.m.d)) :: r :: allR A X) (allR A Y))
  · rcases List.mem_append.mp hw with z | z
    · exact rl w (List.mem_append.mpr (.inl z))
    · rcases List.mem_cons.mp z with z | z
      · rw [z]; exact rv
      · exact rl w (List.mem_append.mpr (.inr (List.mem_cons.mpr (.inr z))))
theorem Kept.at_ {us : List U} {i : Nat} {u : U} (h : Kept A H C B r us) (e : us[i]? = some u) : ChipAt A H u.d u.c ∧ Pgs H u.c.rows ∧ MAt H u.m u.k ∧ Rl u.c u.k := by
  have hi := (List.getElem?_eq_some_iff.mp e).1
  obtain ⟨X, v, Y, e1, e2⟩ := Kept.cut hi
  subst e1
  have ev : v = u := by
    rw [List.getElem?_append_right (by omega), e2, Nat.sub_self] at e
    exact Option.some.inj e
  subst ev
  have o := h.foc
  exact ⟨(o.get 0 _ rfl).1, (o.get 0 _ rfl).2, o.get 1 _ rfl, h.rl v (List.mem_append.mpr (.inr List.mem_cons_self))⟩
theorem Kept.push {us : List U} {u : U} (rl : ∀ w ∈ us, Rl w.c w.k) (rv : Rl u.c u.k) (o : Own H (rCh A u.d u.c :: rM u.m u.k :: rOb C (.lst ((us.map fun u => .ref u.d.p) ++ [.ref u.d.p])) :: rOb B (.lst ((us.map fun u => .ref u.m.d) ++ [.ref u.m.d])) :: r :: allR A us)) : Kept A H C B r (us ++ [u]) := by
  refine ⟨?_, fun w hw => ?_⟩
  · have e1 : ((us.map fun u => V.ref u.d.p) ++ [.ref u.d.p]) = (us ++ [u]).map fun u => V.ref u.d.p := by rw [List.map_append]; rfl
    have e2 : ((us.map fun u => V.ref u.m.d) ++ [.ref u.m.d]) = (us ++ [u]).map fun u => V.ref u.m.d := by rw [List.map_append]; rfl
    have e : allR A (us ++ [u]) = allR A us ++ U.res A u := by
      unfold allR; rw [List.flatMap_append, List.flatMap_cons, List.flatMap_nil, List.append_nil]
    rw [e1, e2] at o
    rw [e]
    have p := o.perm (List.perm_append_comm (l₁ := U.res A u) (l₂ := rOb C (.lst ((us ++ [u]).map fun u => .ref u.d.p)) :: rOb B (.lst ((us ++ [u]).map fun u => .ref u.m.d)) :: r :: allR A us))
    exact p
  · rcases List.mem_append.mp hw with z | z
    · exact rl w z
    · rw [List.mem_singleton.mp z]; exact rv
theorem MAt.make {H1 H2 H3 : Hp} {D W d : Addr} {as : List Addr} {os : Nat → HO} {c : CS} (s12 : Same H1 H2) (hD1 : H1 D = none) (hD : H2 D = some (.lst (as.map V.ref))) (N : News H1 H2 D as os) (hos : ∀ i, i < c.rows.length → os i = .lst (c.rows.getD i [])) (len : as.length = c.rows.length) (s23 : Same H2 H3)
    (hW2 : H2 W = none) (hW : H3 W = some (.lst (c.wears.map V.int))) (hd3 : H3 d = none) (wlen : c.wears.length = c.rows.length) (pgs : ∀ xs ∈ c.rows, xs.length = c.m) (n1 : 1 ≤ c.rows.length) (n2 : c.rows.length ≤ 32) (m1 : c.m ≤ 16) (ok : Pgs H3 c.rows) (hl : c.left = none) (hc : c.cut = false) :
    MAt (upd H3 d (.dK (ownK D W c.many .non false))) ⟨d, D, W, as⟩ c ∧ ∀ x, MD.fp ⟨d, D, W, as⟩ x → H1 x = none := by
  have sd := Same.new (o := .dK (ownK D W c.many .non false)) hd3
  refine ⟨{ dict := by rw [hl, hc]; exact upd_same, top := sd _ _ (s23 _ _ hD), ws := sd _ _ hW, len := len, row := fun i a e => ?_, wlen := wlen, pgs := pgs, nd := ?_, n1 := n1, n2 := n2, m1 := m1, ok := ok.tups fun b xs z => sd _ _ z }, fun x hx => ?_⟩
  · have e : as[i]? = some a := e
    have hi : i < c.rows.length := by rw [← len]; exact (List.getElem?_eq_some_iff.mp e).1
    refine ⟨c.rows[i], List.getElem?_eq_getElem hi, sd _ _ (s23 _ _ ?_)⟩
    have ea := N.at_ i a e
    rw [hos i hi, List.getD_eq_getElem?_getD, List.getElem?_eq_getElem hi] at ea
    exact ea
  · refine List.nodup_cons.mpr ⟨fun z => ?_, List.nodup_cons.mpr ⟨fun z => ?_, N.nd⟩⟩
    · rcases List.mem_cons.mp z with q | q
      · exact ne_of_none hD hW2 q
      · exact (N.new D q).2 rfl
    · obtain ⟨i, hi⟩ := List.getElem?_of_mem z
      have := N.at_ i W hi
      rw [hW2] at this; cases this
  · rcases hx with z | z | z | z
    · rw [show x = d from z]; exact s12.free (s23.free hd3)
    · rw [show x = D from z]; exact hD1
    · rw [show x = W from z]; exact s12.free hW2
    · exact (N.new x z).1
end

section
variable {K : PySem.W.Frag} {A : Ad} {vs : List V} {H H' : Hp} {Q : VK} {E : XK} {l C B : Addr} {r : Res}
theorem k10_turn (F : FacK K A) {D : Ends} {us : List U} {mo b p : Int} {v2 v7 v8 v9 v10 v11 v12 : Option V} (h : Kept A H C B r us) (n0 : 0 < us.length) (n1 : us.length ≤ 100)
    (k : ∀ H' us' v9 v10 v11, us'.length = us.length → Kept A H' C B r us' → D.nx [some (.ref l), some (.int mo), v2, some (.int b), some (.int p), some (.ref C), some (.ref B), v7, v8, v9, v10, v11, v12] H') :
    t_turn K A D [some (.ref l), some (.int mo), v2, some (.int b), some (.int p), some (.ref C), some (.ref B), v7, v8, v9, v10, v11, v12] H := by
  have lc : ((us.map fun u => V.ref u.d.p).length : Int) = (us.length : Int) := by rw [List.length_map]
  refine ⟨_, rfl, _, rfl, C, _, rfl, .inl (SqL.of h.c), _, _, rfl, rfl, by rw [lc]; omega, ?_⟩
  have i0 := Int.emod_nonneg mo (b := (us.length : Int)) (by omega)
  have i1 := Int.emod_lt_of_pos mo (b := (us.length : Int)) (by omega)
  simp only [lc]
  obtain ⟨i, ei⟩ : ∃ i : Nat, mo % (us.length : Int) = (i : Int) := ⟨(mo % (us.length : Int)).toNat, by omega⟩
  rw [ei] at i0 i1
  obtain ⟨X, u, Y, e1, e2⟩ := Kept.cut (us := us) (i := i) (by omega)
  have hu : us[i]? = some u := by rw [e1, List.getElem?_append_right (by omega), e2, Nat.sub_self]; rfl
  obtain ⟨g1, g2, g3, g4⟩ := h.at_ hu
  have gC : ∀ (f : U → V), (us.map f)[i]? = some (f u) := fun f => by rw [List.getElem?_map, hu]; rfl
  refine ⟨_, rfl, _, _, rfl, rfl, divW (by decide) (by decide), _, rfl, _, rfl, B, _, _, .ref u.m.d, rfl, rfl, SqL.of h.b, at_of (j := i) ei (gC _), _, u.m, u.k, rfl, g3, fun t dd H1 s1 hd ok => ?_⟩
  have h1 := h.same s1
  have f1 : Own H1 (rCh A u.d u.c :: rM u.m u.k :: rOb C (.lst (us.map fun u => .ref u.d.p)) :: rOb B (.lst (us.map fun u => .ref u.m.d)) :: r :: (allR A X ++ allR A Y)) := by
    rw [e1] at h1 ⊢; exact h1.foc
  have f2 : Own H1 (rCh A u.d u.c :: rDeed t dd :: rM u.m u.k :: rOb C (.lst (us.map fun u => .ref u.d.p)) :: rOb B (.lst (us.map fun u => .ref u.m.d)) :: r :: (allR A X ++ allR A Y)) :=
    (f1.new (r' := rDeed t dd) hd (fun b e => e.elim) (Same.refl H1)).swap
  refine ⟨_, rfl, _, rfl, C, _, _, .ref u.d.p, rfl, rfl, SqL.of h1.c, at_of (j := i) ei (gC _), _, rfl, _, u.d, u.c, t, dd, rfl, f2, hd, fun d' H2 ep f3 => ?_⟩
  have hd2 : DeedAt H2 t dd := f3.get 1 _ rfl
  have f4 := f3.swap.tail.swap
  refine ⟨_, rfl, _, rfl, B, _, _, .ref u.m.d, rfl, rfl, SqL.of (f4.get 3 _ rfl), at_of (j := i) ei (gC _), _, rfl, _, u.m, u.k, t, dd, rfl, f4, hd2, ok, fun hc n hn => ?_, fun m' H3 em f5 => ?_⟩
  · rw [g4.cut] at hc
    exact (g4.left hc).2 n (by rw [← (g4.left hc).1]; exact hn)
  obtain ⟨w1, w2⟩ := does_side g4 ok
  refine ⟨rfl, _, rfl, ifYesN (by rw [w1]) ?_⟩
  have h3 : Kept A H3 C B r (X ++ ⟨d', (u.c.does dd).1, m', (u.k.side dd).1⟩ :: Y) := by
    have f6 := f5.swap
    rw [e1] at f6
    exact Kept.unfoc (u := u) (v := ⟨d', (u.c.does dd).1, m', (u.k.side dd).1⟩) (by rw [← e1]; exact h.rl) ep em w2 f6
  obtain ⟨us', eu⟩ : ∃ us', us' = X ++ (⟨d', (u.c.does dd).1, m', (u.k.side dd).1⟩ : U) :: Y := ⟨_, rfl⟩
  rw [← eu] at h3
  have ln : us'.length = us.length := by rw [eu, e1, List.length_append, List.length_append, List.length_cons, List.length_cons]
  have lc' : ((us'.map fun u => V.ref u.d.p).length : Int) = (us.length : Int) := by rw [List.length_map, ln]
  refine ⟨_, rfl, C, _, rfl, .inl (SqL.of h3.c), _, rfl, by rw [lc']; omega, by rw [lc']; omega, ?_⟩
  refine for_range (lo := 0) (fun _ σ H4 => ∃ v11, σ = [some (.ref l), some (.int mo), v2, some (.int b), some (.int p), some (.ref C), some (.ref B), v7, v8, some (.int (mo % (us.length : Int))), some (.ref t), v11, v12] ∧ Kept A H4 C B r us') ⟨_, rfl, h3⟩ ?_ (by rintro σ H4 ⟨v11, rfl, h4⟩; exact k H4 us' _ _ _ ln h4)
  rintro j σ H4 hj ⟨v11, rfl, h4⟩
  rw [lc'] at hj
  have hj : j < us'.length := by omega
  have ej : (0 : Int) + (j : Int) = (j : Int) := Int.zero_add _
  obtain ⟨q1, q2, q3, q4⟩ := h4.at_ (List.getElem?_eq_getElem hj)
  have gJ : ∀ (f : U → V), (us'.map f)[j]? = some (f us'[j]) := fun f => by rw [List.getElem?_map, List.getElem?_eq_getElem hj]; rfl
  refine ⟨_, rfl, _, rfl, C, _, _, .ref us'[j].d.p, rfl, rfl, SqL.of h4.c, at_of (j := j) ej (gJ _), _, rfl, _, rfl, B, _, _, .ref us'[j].m.d, rfl, rfl, SqL.of h4.b, at_of (j := j) ej (gJ _), us'[j].d, us'[j].c, us'[j].m, us'[j].k, rfl, q1, q2, q3, q4, fun H5 s5 => ?_⟩
  exact ⟨_, rfl, iteF ⟨_, rfl, h4.same s5⟩⟩
end

section
variable {K : PySem.W.Frag} {A : Ad} {vs : List V} {H H' : Hp} {Q : VK} {E : XK} {l C B : Addr} {r : Res}
theorem k10_copy (F : FacK K A) {D : Ends} {us : List U} {mo b p : Int} {v2 v7 v8 v9 v10 v11 v12 : Option V} (h : Kept A H C B r us) (n0 : 0 < us.length) (n1 : us.length ≤ 90)
    (k : ∀ H' us' v8 v12, us'.length = us.length + 1 → Kept A H' C B r us' → D.nx [some (.ref l), some (.int mo), v2, some (.int b), some (.int p), some (.ref C), some (.ref B), v7, v8, v9, v10, v11, v12] H') :
    t_copy K A D [some (.ref l), some (.int mo), v2, some (.int b), some (.int p), some (.ref C), some (.ref B), v7, v8, v9, v10, v11, v12] H := by
  obtain ⟨u, hu⟩ : ∃ u, us[0]? = some u := ⟨_, List.getElem?_eq_getElem n0⟩
  obtain ⟨g1, g2, g3, g4⟩ := h.at_ hu
  have gC : ∀ (f : U → V), (us.map f)[0]? = some (f u) := fun f => by rw [List.getElem?_map, hu]; rfl
  refine ⟨_, rfl, .inl ⟨rfl, _, SqL.of h.c⟩, _, rfl, C, _, _, .ref u.d.p, rfl, rfl, SqL.of h.c, at_of (j := 0) rfl (gC _), u.d, u.c, rfl, g1, fun d2 H2 hd2 fresh s2 => ?_⟩
  have h2 := h.same s2
  refine ⟨C, _, _, rfl, rfl, h2.c, by rw [List.length_map]; exact Nat.lt_of_lt_of_le (by omega : us.length < 100) (by decide), ?_⟩
  have O2 := (h.own.new (r' := rCh A d2 { u.c with left := none, cut := false }) ⟨hd2, g2.tups fun b xs e => s2 _ _ e⟩ fresh s2).put (o' := .lst ((us.map fun u => .ref u.d.p) ++ [.ref d2.p])) 1 rfl (by intro xs z; cases z)
  generalize upd H2 C (.lst ((us.map fun u => .ref u.d.p) ++ [.ref d2.p])) = H3 at O2 ⊢
  have k3 : MAt H3 u.m u.k := by
    obtain ⟨i, hi⟩ : ∃ i : Nat, (rCh A d2 { u.c with left := none, cut := false } :: rOb C (.lst ((us.map fun u => .ref u.d.p) ++ [.ref d2.p])) :: rOb B (.lst (us.map fun u => .ref u.m.d)) :: r :: allR A us)[i]? = some (rM u.m u.k) := by
      refine List.getElem?_of_mem ?_
      refine List.mem_cons.mpr (.inr (List.mem_cons.mpr (.inr (List.mem_cons.mpr (.inr (List.mem_cons.mpr (.inr ?_)))))))
      exact List.mem_flatMap.mpr ⟨u, List.mem_of_getElem? hu, List.mem_cons.mpr (.inr List.mem_cons_self)⟩
    exact O2.get i _ hi
  refine ⟨_, rfl, B, _, _, .ref u.m.d, rfl, rfl, SqL.of (O2.get 2 _ rfl), at_of (j := 0) rfl (gC _), u.m.d, _, rfl, k3.gRows, u.m.R, rfl, ⟨_, SqL.of k3.top⟩, fun L hL => ?_⟩
  refine lc_news (K := K) (c := u.m.R) (xs := u.m.rs.map V.ref) (fun i => .lst (u.k.rows.getD i [])) (by rw [List.length_map, k3.len]; exact sz32 k3.n2) (SqL.of k3.top) hL (fun i y H4 hi s R r => ?_) (fun _ => rfl) fun H4 as s4 hL4 hlen N => ?_
  · rw [List.getElem?_map] at hi
    cases q : u.m.rs[i]? with
    | none => rw [q] at hi; cases hi
    | some a =>
      rw [q] at hi
      have ey : V.ref a = y := Option.some.inj hi
      subst ey
      obtain ⟨xs, hx, ha⟩ := k3.row i a q
      refine ⟨_, rfl, a, xs, rfl, .inl (SqL.of (s _ _ ha)), fun l hl => r _ l hl (Same.new hl) ?_⟩
      rw [List.getD_eq_getElem?_getD, hx]; exact upd_same
  have O4 := O2.same s4
  have k4 := k3.same s4
  have asl : as.length = u.k.rows.length := by rw [hlen, List.length_map, k3.len]
  refine ⟨_, rfl, .inl ⟨rfl, _, SqL.of (O4.get 2 _ rfl)⟩, _, rfl, _, rfl, B, _, _, .ref u.m.d, rfl, rfl, SqL.of (O4.get 2 _ rfl), at_of (j := 0) rfl (gC _), u.m.d, _, rfl, k4.gWorn, u.m.W, _, rfl, .inl (SqL.of k4.ws), fun w hw => ?_⟩
  have s5 := Same.new (o := .lst (u.k.wears.map V.int)) hw
  have O5 := O4.same s5
  have k5 := k4.same s5
  refine ⟨_, rfl, B, _, _, .ref u.m.d, rfl, rfl, SqL.of (O5.get 2 _ rfl), at_of (j := 0) rfl (gC _), u.m.d, _, rfl, k5.gMany, L, w, u.k.many, rfl, fun d hd => ?_⟩
  have s6 := Same.new (o := .dK (ownK L w u.k.many .non false)) hd
  have mk := MAt.make (c := { u.k with left := none, cut := false }) s4 hL hL4 N (fun i _ => rfl) asl s5 hw upd_same hd k5.wlen k5.pgs k5.n1 k5.n2 k5.m1 k5.ok rfl rfl
  have O6 := O2.new (r' := rM ⟨d, L, w, as⟩ { u.k with left := none, cut := false }) mk.1 mk.2 ((s4.trans s5).trans s6)
  refine ⟨B, _, _, rfl, rfl, O6.get 3 _ rfl, by rw [List.length_map]; exact Nat.lt_of_lt_of_le (by omega : us.length < 100) (by decide), ?_⟩
  have O7 := (O6.put (o' := .lst ((us.map fun u => .ref u.m.d) ++ [.ref d])) 3 rfl (by intro xs z; cases z)).swap
  have ph : Kept A _ C B r (us ++ [⟨d2, { u.c with left := none, cut := false }, ⟨d, L, w, as⟩, { u.k with left := none, cut := false }⟩]) := Kept.push h.rl ⟨g4.rows, g4.wears, g4.many, g4.m, rfl, fun _ => ⟨rfl, fun n z => by cases z⟩⟩ O7
  exact k _ _ _ _ (by rw [List.length_append]; rfl) ph
end

section
variable {K : PySem.W.Frag} {A : Ad} {vs : List V} {H H' : Hp} {Q : VK} {E : XK} {l C B : Addr} {r : Res} {ns : List Int}
theorem k10_round (F : FacK K A) (hr : ∀ H', r.P H' → SqL K H' l (ns.map V.int)) (hn : ns.length ≤ 63) {D : Ends} {us : List U} {b p : Int} {i : Nat} {v1 v2 v8 v9 v10 v11 v12 : Option V} (h : Kept A H C B r us) (n0 : 0 < us.length) (n1 : us.length ≤ 80)
    (k : ∀ H' us' v1 v8 v9 v10 v11 v12, 0 < us'.length → us'.length ≤ us.length + 1 → Kept A H' C B r us' → D.nx [some (.ref l), v1, v2, some (.int b), some (.int p), some (.ref C), some (.ref B), some (.int (0 + (i : Int))), v8, v9, v10, v11, v12] H') :
    t_round K A D [some (.ref l), v1, v2, some (.int b), some (.int p), some (.ref C), some (.ref B), some (.int (0 + (i : Int))), v8, v9, v10, v11, v12] H := by
  refine ⟨_, rfl, _, rfl, l, ns, _, rfl, hr _ h.scr, hn, by omega, fun c H5 s5 => ⟨_, rfl, _, _, rfl, rfl, c, _, rfl, fun m m0 m1 => ?_⟩⟩
  have h5 := h.same s5
  refine ⟨_, rfl, rfl, _, rfl, ?_⟩
  by_cases hk : V.int (0 + (i : Int)) = V.int 9
  · refine ifYes hk (k10_copy F h5 n0 (by omega) fun H6 us6 v8 v12 l6 h6 => ?_)
    exact k10_turn F h6 (by omega) (by omega) fun H7 us7 v9 v10 v11 l7 h7 => k H7 us7 _ _ _ _ _ _ (by omega) (by omega) h7
  · refine ifNo hk ?_
    exact k10_turn F h5 (by omega) (by omega) fun H7 us7 v9 v10 v11 l7 h7 => k H7 us7 _ _ _ _ _ _ (by omega) (by omega) h7
theorem k10_loop (F : FacK K A) (hr : ∀ H', r.P H' → SqL K H' l (ns.map V.int)) (hn : ns.length ≤ 63) {D : Ends} {us : List U} {b p : Int} {v1 v2 v7 v8 v9 v10 v11 v12 : Option V} (h : Kept A H C B r us) (n0 : us.length = 1) (k : ∀ H', D.rt (.bl true) H') :
    t_loop K A D [some (.ref l), v1, v2, some (.int b), some (.int p), some (.ref C), some (.ref B), v7, v8, v9, v10, v11, v12] H := by
  have hL : (ns.map V.int).length ≤ 63 := by rw [List.length_map]; exact hn
  have rb := rounds_ok (lo := 1) (hi := 40) hL (by decide) (by decide) (by decide) (by decide)
  refine ⟨_, rfl, l, _, rfl, .inl (hr _ h.scr), _, _, rfl, _, _, rfl, _, rfl, rb.1, rb.2, ?_⟩
  have r40 : (if (if ((ns.map V.int).length : Int) < 40 then ((ns.map V.int).length : Int) else 40) > 1 then (if ((ns.map V.int).length : Int) < 40 then ((ns.map V.int).length : Int) else 40) else 1) ≤ 40 := by
    split <;> (try split) <;> omega
  generalize (if (if ((ns.map V.int).length : Int) < 40 then ((ns.map V.int).length : Int) else 40) > 1 then (if ((ns.map V.int).length : Int) < 40 then ((ns.map V.int).length : Int) else 40) else 1) = N at r40 ⊢
  refine for_range (lo := 0) (fun i σ H' => ∃ v1 v7 v8 v9 v10 v11 v12 us, σ = [some (.ref l), v1, v2, some (.int b), some (.int p), some (.ref C), some (.ref B), v7, v8, v9, v10, v11, v12] ∧ Kept A H' C B r us ∧ 0 < us.length ∧ us.length ≤ i + 1)
    ⟨_, _, _, _, _, _, _, us, rfl, h, by omega, by omega⟩ ?_ (by rintro σ H' _; exact k H')
  rintro i σ H4 hi ⟨v1, v7, v8, v9, v10, v11, v12, us4, rfl, h4, m0, m1⟩
  exact k10_round F hr hn h4 m0 (by omega) fun H5 us5 v1 v8 v9 v10 v11 v12 q0 q1 h5 => ⟨_, _, _, _, _, _, _, us5, rfl, h5, q0, by omega⟩
theorem Kept.one {d : CD} {c k : CS} {m : MD} (O : Own H [rOb B (.lst [.ref m.d]), rM m k, rOb C (.lst [.ref d.p]), rCh A d c, r]) (rl : Rl c k) : Kept A H C B r [⟨d, c, m, k⟩] := by
  refine ⟨O.pick (fun i => if i = 0 then 2 else if i = 1 then 0 else if i = 2 then 4 else if i = 3 then 3 else if i = 4 then 1 else i) (fun i j hi hj e => by (repeat' split at e); all_goals omega) fun i x e => ?_, fun u hu => ?_⟩
  · rcases i with _ | _ | _ | _ | _ | i
    · exact e
    · exact e
    · exact e
    · exact e
    · exact e
    · cases e
  · rw [List.mem_singleton.mp hu]; exact rl
theorem k10_units (F : FacK K A) (hr : ∀ H', r.P H' → SqL K H' l (ns.map V.int)) (hn : ns.length ≤ 63) {D : Ends} {b p : Int} {v1 v2 : Option V} (O : Own H [r]) (hb : sizeOk b p) (k : ∀ H', D.rt (.bl true) H') :
    t_units K A D [some (.ref l), v1, v2, some (.int b), some (.int p), none, none, none, none, none, none, none, none] H := by
  obtain ⟨b1, b2, p1, p2⟩ := id hb
  refine ⟨_, rfl, _, rfl, b, p, rfl, fun z => absurd hb z, fun _ d H1 hd fresh s1 => ⟨(by show 1 ≤ sizeLine; decide), fun C hC => ?_⟩⟩
  have lrow : (CS.new b p).rows.length = b.toNat := List.length_replicate
  have O1 := O.new (r' := rCh A d (CS.new b p)) ⟨hd, fun xs hx v hv => .inl (by rw [mem_rep hx] at hv; exact mem_rep hv)⟩ fresh s1
  have O2 := O1.newOb (o := .lst [.ref d.p]) hC
  generalize upd H1 C (.lst [.ref d.p]) = H2 at O2 ⊢
  refine ⟨_, rfl, b, rfl, by omega, by omega, fun L hL => ?_⟩
  refine lc_newsR (lo := 0) (n := b.toNat) (fun _ => .lst (List.replicate p.toNat .non)) (sz32 (by omega)) hL (fun i H3 hi s R r => ?_) (fun _ => rfl) fun H3 as s3 hL3 hlen N => ?_
  · refine ⟨(by show 1 ≤ sizeLine; decide), fun x hx => ?_⟩
    refine ⟨_, rfl, x, p, _, rfl, rfl, upd_same, by omega, by omega, (by show 1 * p.toNat ≤ sizeLine; exact sz16 (by omega)), fun a ha => ?_⟩
    rw [rep1]
    have sx : Same H3 (upd H3 x (.lst [V.non])) := Same.new hx
    exact r _ a (sx.free ha) (sx.trans (Same.new ha)) upd_same
  refine ⟨(by show 1 ≤ sizeLine; decide), fun x hx => ⟨_, rfl, x, b, _, rfl, rfl, upd_same, by omega, by omega, (by show 1 * b.toNat ≤ sizeLine; exact sz32 (by omega)), fun w hw => ?_⟩⟩
  rw [rep1]
  have sx := Same.new (o := .lst [V.int 0]) hx
  have sw := Same.new (o := .lst (List.replicate b.toNat (V.int 0))) hw
  refine ⟨L, w, 0, rfl, fun y hy => ?_⟩
  have sy := Same.new (o := .dK (ownK L w 0 .non false)) hy
  have mk := MAt.make (c := CS.new b p) s3 hL hL3 N (fun i hi => by
      rw [lrow] at hi
      show HO.lst (List.replicate p.toNat V.non) = .lst ((List.replicate b.toNat (List.replicate p.toNat V.non)).getD i [])
      rw [List.getD_eq_getElem?_getD, replicate_get hi]; rfl) (by rw [lrow]; exact hlen) (sx.trans sw) (sx.free hw) (by rw [upd_same]; show _ = some (HO.lst ((List.replicate b.toNat (0 : Int)).map V.int)); rw [List.map_replicate]) hy
    (by rw [lrow]; exact List.length_replicate) (fun xs hx => by rw [mem_rep hx]; exact List.length_replicate) (by rw [lrow]; omega) (by rw [lrow]; omega) (by show p.toNat ≤ 16; omega) (fun xs hx v hv => .inl (by rw [mem_rep hx] at hv; exact mem_rep hv)) rfl rfl
  have O3 := O2.new (r' := rM ⟨y, L, w, as⟩ (CS.new b p)) mk.1 mk.2 ((s3.trans (sx.trans sw)).trans sy)
  refine ⟨(by show 1 ≤ sizeLine; decide), fun B hB => ?_⟩
  have O4 := O3.newOb (o := .lst [.ref y]) hB
  exact k10_loop F hr hn (Kept.one (m := ⟨y, L, w, as⟩) O4 ⟨rfl, rfl, rfl, rfl, rfl, fun _ => ⟨rfl, fun n z => by cases z⟩⟩) rfl k
end

section
variable {K : PySem.W.Frag} {A : Ad} {vs : List V} {H H' : Hp} {Q : VK} {E : XK} {l C B : Addr} {r : Res} {ns : List Int}
theorem pure_law (F : FacK K A) (h : sp_law K A vs H Q E) : t_law K A E { nx := fun _ H' => Q .non H', rt := Q } (start N_law vs) H := by
  obtain ⟨l, ns, rfl, hl, hn, k⟩ := h
  obtain ⟨r, O0, hr⟩ := scr_res hl
  refine ⟨_, rfl, l, ns, 0, rfl, hl, hn, by omega, fun c H1 s1 => ⟨c, 3, rfl, fun m m0 m1 => ?_⟩⟩
  have O1 := O0.same s1
  have two : 2 ≤ sizeLine := by decide
  refine ⟨two, fun t1 h1 => ⟨two, fun t2 h2 => ⟨two, fun t3 h3 => ⟨two, fun t4 h4 => ⟨two, fun t5 h5 => ⟨_, rfl, two, fun t6 h6 => ⟨(by show 6 ≤ sizeLine; decide), fun L hL => ?_⟩⟩⟩⟩⟩⟩⟩
  have sL := Same.new (o := .lst [.ref t1, .ref t2, .ref t3, .ref t4, .ref t5, .ref t6]) hL
  have s6 := (Same.new (o := .tup [.int (-4), .int 4]) h6).trans sL
  have s5 := (Same.new (o := .tup [.int 0, .int 0]) h5).trans s6
  have s4 := (Same.new (o := .tup [.int 32, .int 17]) h4).trans s5
  have s3 := (Same.new (o := .tup [.int 4, .int 1]) h3).trans s4
  have s2 := (Same.new (o := .tup [.int 33, .int 16]) h2).trans s3
  have sA := (Same.new (o := .tup [.int 3, .int 2]) h1).trans s2
  have pick : ∃ (t : Addr) (b p : Int), atI [V.ref t1, V.ref t2, V.ref t3, V.ref t4, V.ref t5, V.ref t6] (m % 6) = some (.ref t) ∧ ¬ sizeOk b p ∧
      (upd (upd (upd (upd (upd (upd (upd H1 t1 (.tup [.int 3, .int 2])) t2 (.tup [.int 33, .int 16])) t3 (.tup [.int 4, .int 1])) t4 (.tup [.int 32, .int 17])) t5 (.tup [.int 0, .int 0])) t6 (.tup [.int (-4), .int 4])) L (.lst [.ref t1, .ref t2, .ref t3, .ref t4, .ref t5, .ref t6])) t = some (.tup [.int b, .int p]) := by
    rcases (by omega : m % 6 = 0 ∨ m % 6 = 1 ∨ m % 6 = 2 ∨ m % 6 = 3 ∨ m % 6 = 4 ∨ m % 6 = 5) with e | e | e | e | e | e
    · exact ⟨t1, 3, 2, at_of (j := 0) e rfl, by decide, s2 _ _ upd_same⟩
    · exact ⟨t2, 33, 16, at_of (j := 1) e rfl, by decide, s3 _ _ upd_same⟩
    · exact ⟨t3, 4, 1, at_of (j := 2) e rfl, by decide, s4 _ _ upd_same⟩
    · exact ⟨t4, 32, 17, at_of (j := 3) e rfl, by decide, s5 _ _ upd_same⟩
    · exact ⟨t5, 0, 0, at_of (j := 4) e rfl, by decide, s6 _ _ upd_same⟩
    · exact ⟨t6, -4, 4, at_of (j := 5) e rfl, by decide, sL _ _ upd_same⟩
  obtain ⟨t, b0, p0, e1, e2, e3⟩ := pick
  refine ⟨_, rfl, _, _, rfl, rfl, md (by decide), L, _, _, _, rfl, rfl, SqL.of upd_same, e1, ?_⟩
  have O2 := O1.same sA
  refine ⟨_, rfl, t, _, _, .int b0, rfl, rfl, SqT.of e3, at_of (j := 0) rfl rfl, _, rfl, t, _, _, .int p0, rfl, rfl, SqT.of e3, at_of (j := 1) rfl rfl, b0, p0, rfl, fun _ H3 s3 => ?_, fun z => absurd z e2⟩
  have O3 := O2.same s3
  refine ⟨.str "BadSize", .str "BadSize", .str _, .str _, (OkD.str (by decide +kernel)).sh, (OkD.str (by decide +kernel)).sh, _, rfl, ?_⟩
  rw [eqv_self _ rfl]
  refine iteF ?_
  have pick3 : ∀ (x y z w : Int), ∃ v : Int, atI [V.int x, V.int y, V.int z] (w % 3) = some (.int v) ∧ (v = x ∨ v = y ∨ v = z) := fun x y z w => by
    rcases (by omega : w % 3 = 0 ∨ w % 3 = 1 ∨ w % 3 = 2) with e | e | e
    · exact ⟨x, at_of (j := 0) e rfl, .inl rfl⟩
    · exact ⟨y, at_of (j := 1) e rfl, .inr (.inl rfl)⟩
    · exact ⟨z, at_of (j := 2) e rfl, .inr (.inr rfl)⟩
  refine ⟨_, rfl, _, _, rfl, rfl, divW (by decide) (by decide), _, _, rfl, rfl, md (by decide), _, _, rfl, rfl, (by show 3 ≤ sizeLine; decide), fun L1 hL1 => ?_⟩
  obtain ⟨b, eb, hb⟩ := pick3 4 (4 + m / 8 % 29) 32 (m / 256)
  refine ⟨_, rfl, _, _, rfl, rfl, divW (by decide) (by decide), _, _, rfl, rfl, md (by decide), L1, _, _, _, rfl, rfl, SqL.of upd_same, eb, ?_⟩
  have O4 := O3.same (Same.new (o := .lst [V.int 4, V.int (4 + m / 8 % 29), V.int 32]) hL1)
  refine ⟨_, rfl, _, _, rfl, rfl, divW (by decide) (by decide), _, _, rfl, rfl, md (by decide), _, _, rfl, rfl, (by show 3 ≤ sizeLine; decide), fun L2 hL2 => ?_⟩
  obtain ⟨p, ep, hp⟩ := pick3 2 (2 + m / 1024 % 15) 16 (m / 16384)
  refine ⟨_, rfl, _, _, rfl, rfl, divW (by decide) (by decide), _, _, rfl, rfl, md (by decide), L2, _, _, _, rfl, rfl, SqL.of upd_same, ep, ?_⟩
  have O5 := O4.same (Same.new (o := .lst [V.int 2, V.int (2 + m / 1024 % 15), V.int 16]) hL2)
  exact k10_units F hr hn O5 ⟨by omega, by omega, by omega, by omega⟩ k
end

def top (i : Nat) : Stmt := PySem.Challenge.pw_evenwear_k10_chip.main.body.getD i (.Pass ⟨0, 0, 0, 0⟩)
abbrev s_l_drawn : Stmt := top 18
abbrev s_l_cell : Stmt := top 17
abbrev s_Chip_init : Stmt := inClass (top 14) 0
abbrev s_l_word : Stmt := top 19
abbrev s_l_made : Stmt := top 20
abbrev s_l_own : Stmt := top 21
abbrev s_Chip_size : Stmt := inClass (top 14) 1
abbrev s_copied : Stmt := top 15
abbrev s_l_deed : Stmt := top 25
abbrev s_Chip_need_block : Stmt := inClass (top 14) 2
abbrev s_Chip_need_page : Stmt := inClass (top 14) 3
abbrev s_Chip_goes_well : Stmt := inClass (top 14) 6
abbrev s_Chip_write : Stmt := inClass (top 14) 7
abbrev s_Chip_erase : Stmt := inClass (top 14) 8
abbrev s_Chip_power : Stmt := inClass (top 14) 5
abbrev s_l_done : Stmt := top 22
abbrev s_l_beside : Stmt := top 23
abbrev s_Chip_written : Stmt := inClass (top 14) 10
abbrev s_Chip_worn : Stmt := inClass (top 14) 9
abbrev s_Chip_page : Stmt := inClass (top 14) 4
abbrev s_l_right : Stmt := top 24
abbrev s_law : Stmt := top 26
section
variable {P : Program} {w : World} {K : PySem.W.Frag} {mg : Str → Option Value} {base : Heap} {A : Ad}
theorem sc_l_drawn : FnScope N_l_drawn ["_law_cell_here", "_law_k"] (defScope s_l_drawn) := ⟨rfl, rfl, rfl, by decide +kernel, rfl, by decide +kernel, by decide +kernel⟩
theorem ok_l_drawn {f : Addr} {fd : FuncData} (FF : Fun K "_law_drawn" "_law_drawn" s_l_drawn f fd) (B : Blt mg) (G : Glo K mg A) (F : FacK K A) : FnOk P w K mg base (L2N.CX P w) 1 f fd ["_law_cell_here", "_law_k"] (sp_l_drawn K A) := by
  refine Fun.okN FF sc_l_drawn (fun vs H Q E h => len_l_drawn h) (fun cdv A0 outer s H vs Q E hr h => ⟨t_l_drawn K A E, ?_, pure_l_drawn F h⟩)
  exact (pss_cons (ps_set (i := 2) sc_l_drawn.nd rfl (Or.inl rfl) (pe_op op_mod (pe_op op_add (pe_op op_mul (pv 0) pe_int) (pe_op op_mul (pe_op op_add (pv 1) pe_int) pe_int)) pe_int))
  (pss_one (ps_ret (pe_op op_mod (pe_op op_mulW (pv 2) (pv 2)) pe_int))))
theorem sc_l_cell : FnScope N_l_cell ["_law_script", "_law_k"] (defScope s_l_cell) := ⟨rfl, rfl, rfl, by decide +kernel, rfl, by decide +kernel, by decide +kernel⟩
theorem ok_l_cell {f : Addr} {fd : FuncData} (FF : Fun K "_law_cell" "_law_cell" s_l_cell f fd) (B : Blt mg) (G : Glo K mg A) (F : FacK K A) : FnOk P w K mg base (L2N.CX P w) 1 f fd ["_law_script", "_law_k"] (sp_l_cell K A) := by
  refine Fun.okN FF sc_l_cell (fun vs H Q E h => len_l_cell h) (fun cdv A0 outer s H vs Q E hr h => ⟨t_l_cell K A E, ?_, pure_l_cell F h⟩)
  exact (pss_cons (ps_if (pt_cmpR (op_eqD hr.units) (pv 0) (pe_lst pa_nil) (nomark _))
  (pss_one (ps_ret (pe_op op_mul (pv 1) pe_int)))
  pss_nil)
  (pss_one (ps_ret (pe_op op_add (pe_ix ix_list (pv 0) (pe_op op_mod (pv 1) (pe_callB call_len_seq (by rfl) B.len (by decide +kernel) (pa_cons (pv 0) pa_nil))) (fun _ _ => rfl)) (pe_op op_mul (pe_op op_fdivW (pv 1) (pe_callB call_len_seq (by rfl) B.len (by decide +kernel) (pa_cons (pv 0) pa_nil))) pe_int)))))
theorem sc_Chip_init : FnScope N_Chip_init ["self", "blocks", "pages"] (defScope s_Chip_init) := ⟨rfl, rfl, rfl, by decide +kernel, rfl, by decide +kernel, by decide +kernel⟩
theorem ok_Chip_init {f : Addr} {fd : FuncData} (FF : Fun K "__init__" "Chip.__init__" s_Chip_init f fd) (B : Blt mg) (G : Glo K mg A) (F : Fac K A) : FnOk P w K mg base (L2N.CX P w) 1 f fd ["self", "blocks", "pages"] (sp_Chip_init K A) := by
  refine Fun.okN FF sc_Chip_init (fun vs H Q E h => len_Chip_init h) (fun cdv A0 outer s H vs Q E hr h => ⟨t_Chip_init K A E, ?_, pure_Chip_init F h⟩)
  exact (pss_cons (ps_if (PW.pt (pw_or (pt_not (pt_chain op_le op_le (pe_gint G.g_LEAST_BLOCKS rfl) (pv 1) (pe_gint G.g_MOST_BLOCKS rfl))) (pw_or1 (pt_not (pt_chain op_le op_le (pe_gint G.g_LEAST_PAGES rfl) (pv 2) (pe_gint G.g_MOST_PAGES rfl))))))
  (pss_one (pr_raise G.x_BadSize rfl (L2N.takes_of rfl rfl rfl rfl) rfl))
  pss_nil)
  (pss_cons (ps_fld (pv 0) (pe_lc (own := [("block", 3)]) (g := (gName 3)) (tt := tYes) (te := (tOp rRep (tLst (tCons (tC .non) tNil)) (tVar 2))) rfl sc_Chip_init.nd (pi_range1 rfl B.range (pa_cons (pv 1) pa_nil)) (blkOk_by (N := N_Chip_init) (sc := defScope s_Chip_init) (by decide +kernel)) (fun _ _ _ _ _ => (pg_name (i := 3) sc_Chip_init.nd rfl (Or.inl rfl))) (fun _ _ _ _ _ => pts_nil) (fun _ _ _ _ _ => (pe_op op_rep (pe_lst (pa_cons pe_non pa_nil)) (pv 2)))) rfl)
  (pss_cons (ps_fld (pv 0) (pe_op op_rep (pe_lst (pa_cons pe_int pa_nil)) (pv 1)) rfl)
  (pss_cons (ps_fld (pv 0) pe_int rfl)
  (pss_cons (ps_fld (pv 0) pe_non rfl)
  (pss_one (ps_fld (pv 0) pe_bl rfl)))))))
theorem sc_l_word : FnScope N_l_word ["_law_e"] (defScope s_l_word) := ⟨rfl, rfl, rfl, by decide +kernel, rfl, by decide +kernel, by decide +kernel⟩
theorem ok_l_word {f : Addr} {fd : FuncData} (FF : Fun K "_law_word" "_law_word" s_l_word f fd) (B : Blt mg) (G : Glo K mg A) (hV : mg "ValueError" = none) : FnE P w K mg base 1 f fd "_law_e" (spw_l_word K A) := by
  obtain ⟨oc, od, kV, doc, pm, an, cdv, ct, osl, rfl, lk, hcd⟩ := FF.ex
  refine fn_ofE lk hcd sc_l_word fun A0 outer s H Q p D hot hz hr h => ?_
  have hC : ExcC K D := let ⟨_, WF, _⟩ := h; WF.ex
  have hf : ∃ vs, p.2.data = .fields vs := let ⟨_, vs, d, _⟩ := hot; ⟨vs, d⟩
  refine ⟨t_l_word K A D p.1, ?_, pure_l_word h⟩
  exact (pss_cons (ps_set (i := 1) sc_l_word.nd rfl (Or.inl rfl) (pe_lst (pa_cons (pe_callB (call_isX hC hz hf List.mem_cons_self) (by rfl) B.isinstance (by decide +kernel) (pa_cons (pv 0) (pa_cons (pe_glob rfl G.x_BadSize.g rfl) pa_nil)))
    (pa_cons (pe_callB (call_isX hC hz hf List.mem_cons_self) (by rfl) B.isinstance (by decide +kernel) (pa_cons (pv 0) (pa_cons (pe_glob rfl G.x_NoPage.g rfl) pa_nil)))
    (pa_cons (pe_callB (call_isX hC hz hf List.mem_cons_self) (by rfl) B.isinstance (by decide +kernel) (pa_cons (pv 0) (pa_cons (pe_glob rfl G.x_NotErased.g rfl) pa_nil)))
    (pa_cons (pe_callB (call_isX hC hz hf List.mem_cons_self) (by rfl) B.isinstance (by decide +kernel) (pa_cons (pv 0) (pa_cons (pe_glob rfl G.x_NoSector.g rfl) pa_nil))) pa_nil))))))
    (pss_cons (ps_set (i := 1) sc_l_word.nd rfl (Or.inl rfl) (pe_op op_cat (pv 1) (pe_lst (pa_cons (pe_callB (call_isX hC hz hf List.mem_cons_self) (by rfl) B.isinstance (by decide +kernel) (pa_cons (pv 0) (pa_cons (pe_glob rfl G.x_BadContent.g rfl) pa_nil)))
      (pa_cons (pe_callB (call_isX hC hz hf List.mem_cons_self) (by rfl) B.isinstance (by decide +kernel) (pa_cons (pv 0) (pa_cons (pe_glob rfl G.x_Cut.g rfl) pa_nil))) pa_nil)))))
    (pss_cons (ps_set (i := 2) sc_l_word.nd rfl (Or.inl rfl) (pe_lst (pa_cons pe_str (pa_cons pe_str (pa_cons pe_str (pa_cons pe_str (pa_cons pe_str (pa_cons pe_str pa_nil))))))))
    (pss_cons (ps_if (PW.pt (pw_or (pt_cmpR op_ne (pe_callB (cr_sumH hot List.mem_cons_self) (by rfl) B.sum (by decide +kernel) (pa_cons (pe_lcH (k := 3) (y := "_law_flag") hot List.mem_cons_self sc_l_word.nd (pv 1) (blkOk_by (N := N_l_word) (sc := defScope s_l_word) (by decide +kernel)) (fun _ _ _ _ _ => (pg_name (i := 3) sc_l_word.nd rfl (Or.inl rfl))) (fun _ _ _ _ _ => (pe_callTy call_int1 (by rfl) B.int (by decide +kernel) (pa_cons (pv 3) pa_nil)))) pa_nil)) pe_int (nomark _))
        (pw_or1 (pt_not (pt_val (pe_callB (call_isX hC hz hf List.mem_cons_self) (by rfl) B.isinstance (by decide +kernel) (pa_cons (pv 0) (pa_cons (pe_bltTy rfl hV rfl) pa_nil)))))))) 
      (pss_one (ps_ret pe_str)) pss_nil)
    (pss_one (ps_ret (pe_ix ix_list (pv 2) (pe_bm PySem.F.plainAttrs_list PySem.F.slot_list_index PySem.F.type_list_index mt_index (pv 1) (pa_cons pe_bl pa_nil)) (fun _ _ => rfl))))))))

theorem sc_l_made : FnScope N_l_made ["_law_blocks", "_law_pages"] (defScope s_l_made) := ⟨rfl, rfl, rfl, by decide +kernel, rfl, by decide +kernel, by decide +kernel⟩
theorem ok_l_made {f : Addr} {fd : FuncData} (FF : Fun K "_law_made" "_law_made" s_l_made f fd) (B : Blt mg) (G : Glo K mg A) (GW : mg "WearError" = some (.ref A.wear)) (F : FacK K A) (D_Chip_init : DefC P w K mg base 1 "Chip" A.chip (sp_Chip_init K A)) (D_l_word : DefE P w K mg base 1 "_law_word" "_law_e" (spw_l_word K A)) : FnOk P w K mg base (L2N.CX P w) 3 f fd ["_law_blocks", "_law_pages"] (sp_l_made K A) := by
  refine Fun.okN FF sc_l_made (fun vs H Q E h => len_l_made h) (fun cdv A0 outer s H vs Q E hr h => ⟨t_l_made K A E, ?_, pure_l_made F h⟩)
  exact (pss_one (L2N.ps_try_as (i := 2) (tb := fun W => (tRet (tMakeS A.chip (sp_Chip_init K A) (WE W) (tCons (tVar 0) (tCons (tVar 1) tNil))))) (ts := fun a cls d => (tRet (tWord 2 a cls d (spw_l_word K A)))) (Wout := (fun cls d _ H => E cls d H)) rfl rfl sc_l_made.nd rfl rfl ⟨rfl, by decide, .inl GW⟩ (L2N.takes_of rfl rfl rfl rfl) (fun W pn xe tk hp => (pss_one (ps_ret (pcS D_Chip_init hr (by decide) (fun s => L2N.passAt tk s) rfl (pa_cons (pv 0) (pa_cons (pv 1) pa_nil)))))) (fun a oe cls d pn hz hf => (pss_one (ps_ret (pe_wordD D_l_word hr (by decide) hz hf rfl rfl (Or.inl rfl)))))))
theorem sc_l_own : FnScope N_l_own ["_law_rows", "_law_worn", "_law_many"] (defScope s_l_own) := ⟨rfl, rfl, rfl, by decide +kernel, rfl, by decide +kernel, by decide +kernel⟩
theorem ok_l_own {f : Addr} {fd : FuncData} (FF : Fun K "_law_own" "_law_own" s_l_own f fd) (B : Blt mg) (G : Glo K mg A) (F : FacK K A) : FnOk P w K mg base (L2N.CX P w) 1 f fd ["_law_rows", "_law_worn", "_law_many"] (sp_l_own K A) := by
  refine Fun.okN FF sc_l_own (fun vs H Q E h => len_l_own h) (fun cdv A0 outer s H vs Q E hr h => ⟨t_l_own K A E, ?_, pure_l_own F h⟩)
  exact (pss_one (ps_ret (pe_disp (pps_cons pe_str (pv 0) (pps_cons pe_str (pv 1) (pps_cons pe_str (pv 2) (pps_cons pe_str pe_non (pps_cons pe_str pe_bl pps_nil))))) (by rfl) (by rfl) (fun z => by cases z) (by decide))))
theorem sc_Chip_size : FnScope N_Chip_size ["self"] (defScope s_Chip_size) := ⟨rfl, rfl, rfl, by decide +kernel, rfl, by decide +kernel, by decide +kernel⟩
theorem ok_Chip_size {f : Addr} {fd : FuncData} (FF : Fun K "size" "Chip.size" s_Chip_size f fd) (B : Blt mg) (G : Glo K mg A) (F : Fac K A) : FnOk P w K mg base (L2N.CX P w) 1 f fd ["self"] (sp_Chip_size K A) := by
  refine Fun.okN FF sc_Chip_size (fun vs H Q E h => len_Chip_size h) (fun cdv A0 outer s H vs Q E hr h => ⟨t_Chip_size K A E, ?_, pure_Chip_size F h⟩)
  exact (pss_one (ps_ret (pe_tup (pa_cons (pe_callB call_len_seq (by rfl) B.len (by decide +kernel) (pa_cons (pe_fld (pv 0) rfl) pa_nil)) (pa_cons (pe_callB call_len_seq (by rfl) B.len (by decide +kernel) (pa_cons (pe_ix ix_list (pe_fld (pv 0) rfl) pe_int (fun _ _ => rfl)) pa_nil)) pa_nil)))))
theorem sc_copied : FnScope N_copied ["chip"] (defScope s_copied) := ⟨rfl, rfl, rfl, by decide +kernel, rfl, by decide +kernel, by decide +kernel⟩
theorem ok_copied {f : Addr} {fd : FuncData} (FF : Fun K "copied" "copied" s_copied f fd) (B : Blt mg) (G : Glo K mg A) (F : Fac K A) (D_Chip_size : DefM P w K mg base 1 A.chip "size" (sp_Chip_size K A)) (D_Chip_init : DefC P w K mg base 1 "Chip" A.chip (sp_Chip_init K A)) : FnOk P w K mg base (L2N.CX P w) 3 f fd ["chip"] (sp_copied K A) := by
  refine Fun.okN FF sc_copied (fun vs H Q E h => len_copied h) (fun cdv A0 outer s H vs Q E hr h => ⟨t_copied K A E, ?_, pure_copied F h⟩)
  exact (pss_cons (ps_asg (pm0 D_Chip_size F.cl_Chip hr (by decide) passLN (pv 0)) (pg_tup rfl (pgs_cons (pg_name (i := 1) sc_copied.nd rfl (Or.inl rfl)) (pgs_cons (pg_name (i := 2) sc_copied.nd rfl (Or.inl rfl)) pgs_nil))))
  (pss_cons (ps_set (i := 3) sc_copied.nd rfl (Or.inl rfl) (pc D_Chip_init hr (by decide) (L2N.passes_call (L2N.takes_of rfl rfl rfl rfl) (fun _ _ _ _ h => h)) rfl (pa_cons (pv 1) (pa_cons (pv 2) pa_nil))))
  (pss_cons (ps_fld (pv 3) (pe_lc (own := [("row", 4)]) (g := (gName 4)) (tt := tYes) (te := (tCB (zList K) (tCons (tVar 4) tNil))) rfl sc_copied.nd (pi_list (pe_fld (pv 0) rfl)) (blkOk_by (N := N_copied) (sc := defScope s_copied) (by decide +kernel)) (fun _ _ _ _ _ => (pg_name (i := 4) sc_copied.nd rfl (Or.inl rfl))) (fun _ _ _ _ _ => pts_nil) (fun _ _ _ _ _ => (pe_callTy call_list_of (by rfl) B.list (by decide +kernel) (pa_cons (pv 4) pa_nil)))) rfl)
  (pss_cons (ps_fld (pv 3) (pe_callTy call_list_of (by rfl) B.list (by decide +kernel) (pa_cons (pe_fld (pv 0) rfl) pa_nil)) rfl)
  (pss_cons (ps_fld (pv 3) (pe_fld (pv 0) rfl) rfl)
  (pss_one (ps_ret (pv 3))))))))
theorem sc_l_deed : FnScope N_l_deed ["_law_more", "_law_m"] (defScope s_l_deed) := ⟨rfl, rfl, rfl, by decide +kernel, rfl, by decide +kernel, by decide +kernel⟩
theorem ok_l_deed {f : Addr} {fd : FuncData} (FF : Fun K "_law_deed" "_law_deed" s_l_deed f fd) (B : Blt mg) (G : Glo K mg A) (F : FacK K A) : FnOk P w K mg base (L2N.CX P w) 1 f fd ["_law_more", "_law_m"] (sp_l_deed K A) := by
  refine Fun.okN FF sc_l_deed (fun vs H Q E h => len_l_deed h) (fun cdv A0 outer s H vs Q E hr h => ⟨t_l_deed K A E, ?_, pure_l_deed F h⟩)
  exact (pss_cons (ps_set (i := 2) sc_l_deed.nd rfl (Or.inl rfl) (pe_ix ix_list (pe_lst (pa_cons (pe_op op_mod (pe_op op_fdivW (pv 0) pe_int) (pe_callB call_len_seq (by rfl) B.len (by decide +kernel) (pa_cons (pe_dget (hu_of hr) (pv 1) pe_str (fun _ _ => rfl)) pa_nil))) (pa_cons (pe_op op_sub (pe_op op_mod (pe_op op_fdivW (pv 0) pe_int) pe_int) pe_int) pa_nil))) (pe_callTy call_int1 (by rfl) B.int (by decide +kernel) (pa_cons (pe_cmpR op_eq (pe_op op_mod (pe_op op_fdivW (pv 0) pe_int) pe_int) pe_int (nomark _)) pa_nil)) (fun _ _ => rfl)))
  (pss_cons (ps_set (i := 3) sc_l_deed.nd rfl (Or.inl rfl) (pe_ix ix_list (pe_lst (pa_cons (pe_op op_sub (pe_op op_mod (pe_op op_fdivW (pv 0) pe_int) pe_int) pe_int) (pa_cons pe_int pa_nil))) (pe_callTy call_int1 (by rfl) B.int (by decide +kernel) (pa_cons (pe_op op_mod (pe_op op_fdivW (pv 0) pe_int) pe_int) pa_nil)) (fun _ _ => rfl)))
  (pss_cons (ps_if (PW.pt (pw_and (pt_chain op_le op_lt pe_int (pv 2) (pe_callB call_len_seq (by rfl) B.len (by decide +kernel) (pa_cons (pe_dget (hu_of hr) (pv 1) pe_str (fun _ _ => rfl)) pa_nil))) (pw_and1 (pt_cmpR op_gt (pe_op op_mod (pe_op op_fdivW (pv 0) pe_int) pe_int) pe_int (nomark _)))))
  (pss_one (ps_set (i := 3) sc_l_deed.nd rfl (Or.inl rfl) (pe_callB call_len_seq (by rfl) B.len (by decide +kernel) (pa_cons (pe_lc (own := [("_law_one", 4)]) (g := (gName 4)) (tt := (tTest (tOp zNotN (tVar 4) (tC .non)))) (te := (tC (.int 1))) rfl sc_l_deed.nd (pi_list (pe_ix ix_list (pe_dget (hu_of hr) (pv 1) pe_str (fun _ _ => rfl)) (pv 2) (fun _ _ => rfl))) (blkOk_by (N := N_l_deed) (sc := defScope s_l_deed) (by decide +kernel)) (fun _ _ _ _ _ => (pg_name (i := 4) sc_l_deed.nd rfl (Or.inl rfl))) (fun _ _ _ _ _ => (pts_one (pt_cmpR op_notN (pv 4) pe_non (nomark _)))) (fun _ _ _ _ _ => pe_int)) pa_nil))))
  pss_nil)
  (pss_cons (ps_if (pt_cmpR op_lt (pe_op op_mod (pv 0) pe_int) pe_int (nomark _))
  (pss_one (ps_ret (pe_tup (pa_cons pe_str (pa_cons (pv 2) (pa_cons (pv 3) (pa_cons (pe_tup (pa_cons pe_str (pa_cons (pe_op op_mod (pe_op op_fdivW (pv 0) (pe_op op_pow pe_int pe_int)) pe_int) pa_nil))) pa_nil)))))))
  pss_nil)
  (pss_cons (ps_if (pt_cmpR op_lt (pe_op op_mod (pv 0) pe_int) pe_int (nomark _))
  (pss_one (ps_ret (pe_tup (pa_cons pe_str (pa_cons (pv 2) pa_nil)))))
  pss_nil)
  (pss_one (ps_ret (pe_tup (pa_cons pe_str (pa_cons (pe_ix ix_list (pe_lst (pa_cons pe_non (pa_cons (pe_op op_mod (pe_op op_fdivW (pv 0) (pe_op op_pow pe_int pe_int)) pe_int) (pa_cons pe_int pa_nil)))) (pe_op op_mod (pe_op op_fdivW (pv 0) pe_int) pe_int) (fun _ _ => rfl)) pa_nil))))))))))
theorem sc_Chip_need_block : FnScope N_Chip_need_block ["self", "block"] (defScope s_Chip_need_block) := ⟨rfl, rfl, rfl, by decide +kernel, rfl, by decide +kernel, by decide +kernel⟩
theorem ok_Chip_need_block {f : Addr} {fd : FuncData} (FF : Fun K "need_block" "Chip.need_block" s_Chip_need_block f fd) (B : Blt mg) (G : Glo K mg A) (F : Fac K A) : FnOk P w K mg base (L2N.CX P w) 1 f fd ["self", "block"] (sp_Chip_need_block K A) := by
  refine Fun.okN FF sc_Chip_need_block (fun vs H Q E h => len_Chip_need_block h) (fun cdv A0 outer s H vs Q E hr h => ⟨t_Chip_need_block K A E, ?_, pure_Chip_need_block F h⟩)
  exact (pss_one (ps_if (pt_not (pt_chain op_le op_lt pe_int (pv 1) (pe_callB call_len_seq (by rfl) B.len (by decide +kernel) (pa_cons (pe_fld (pv 0) rfl) pa_nil))))
  (pss_one (pr_raise G.x_NoPage rfl (L2N.takes_of rfl rfl rfl rfl) rfl))
  pss_nil))
theorem sc_Chip_need_page : FnScope N_Chip_need_page ["self", "block", "page"] (defScope s_Chip_need_page) := ⟨rfl, rfl, rfl, by decide +kernel, rfl, by decide +kernel, by decide +kernel⟩
theorem ok_Chip_need_page {f : Addr} {fd : FuncData} (FF : Fun K "need_page" "Chip.need_page" s_Chip_need_page f fd) (B : Blt mg) (G : Glo K mg A) (F : Fac K A) (D_Chip_need_block : DefM P w K mg base 1 A.chip "need_block" (sp_Chip_need_block K A)) : FnOk P w K mg base (L2N.CX P w) 2 f fd ["self", "block", "page"] (sp_Chip_need_page K A) := by
  refine Fun.okN FF sc_Chip_need_page (fun vs H Q E h => len_Chip_need_page h) (fun cdv A0 outer s H vs Q E hr h => ⟨t_Chip_need_page K A E, ?_, pure_Chip_need_page F h⟩)
  exact (pss_cons (ps_expr (pm D_Chip_need_block F.cl_Chip hr (by decide) (L2N.passes_call (L2N.takes_of rfl rfl rfl rfl) (fun _ _ _ _ h => h)) (pv 0) (pa_cons (pv 1) pa_nil)))
  (pss_one (ps_if (pt_not (pt_chain op_le op_lt pe_int (pv 2) (pe_callB call_len_seq (by rfl) B.len (by decide +kernel) (pa_cons (pe_ix ix_list (pe_fld (pv 0) rfl) (pv 1) (fun _ _ => rfl)) pa_nil))))
  (pss_one (pr_raise G.x_NoPage rfl (L2N.takes_of rfl rfl rfl rfl) rfl))
  pss_nil)))
theorem sc_Chip_goes_well : FnScope N_Chip_goes_well ["self"] (defScope s_Chip_goes_well) := ⟨rfl, rfl, rfl, by decide +kernel, rfl, by decide +kernel, by decide +kernel⟩
theorem ok_Chip_goes_well {f : Addr} {fd : FuncData} (FF : Fun K "goes_well" "Chip.goes_well" s_Chip_goes_well f fd) (B : Blt mg) (G : Glo K mg A) (F : Fac K A) : FnOk P w K mg base (L2N.CX P w) 1 f fd ["self"] (sp_Chip_goes_well K A) := by
  refine Fun.okN FF sc_Chip_goes_well (fun vs H Q E h => len_Chip_goes_well h) (fun cdv A0 outer s H vs Q E hr h => ⟨t_Chip_goes_well K A E, ?_, pure_Chip_goes_well F h⟩)
  exact (pss_cons (ps_if (pt_val (pe_fld (pv 0) rfl))
  (pss_one (pr_raise G.x_Cut rfl (L2N.takes_of rfl rfl rfl rfl) rfl))
  pss_nil)
  (pss_cons (ps_if (pt_cmpR op_isN (pe_fld (pv 0) rfl) pe_non (nomark _))
  (pss_one (ps_ret pe_bl))
  pss_nil)
  (pss_cons (ps_fld (pv 0) (pe_cmpR op_le (pe_fld (pv 0) rfl) pe_int (nomark _)) rfl)
  (pss_cons (ps_fld (pv 0) (pe_op op_sub (pe_fld (pv 0) rfl) pe_int) rfl)
  (pss_one (ps_ret (pe_not (pe_fld (pv 0) rfl))))))))
theorem sc_Chip_write : FnScope N_Chip_write ["self", "block", "page", "thing"] (defScope s_Chip_write) := ⟨rfl, rfl, rfl, by decide +kernel, rfl, by decide +kernel, by decide +kernel⟩
theorem ok_Chip_write {f : Addr} {fd : FuncData} (FF : Fun K "write" "Chip.write" s_Chip_write f fd) (B : Blt mg) (G : Glo K mg A) (F : Fac K A) (D_Chip_need_page : DefM P w K mg base 2 A.chip "need_page" (sp_Chip_need_page K A)) (D_Chip_goes_well : DefM P w K mg base 1 A.chip "goes_well" (sp_Chip_goes_well K A)) : FnOk P w K mg base (L2N.CX P w) 3 f fd ["self", "block", "page", "thing"] (sp_Chip_write K A) := by
  refine Fun.okN FF sc_Chip_write (fun vs H Q E h => len_Chip_write h) (fun cdv A0 outer s H vs Q E hr h => ⟨t_Chip_write K A E, ?_, pure_Chip_write F h⟩)
  exact (pss_cons (ps_expr (pm D_Chip_need_page F.cl_Chip hr (by decide) (L2N.passes_call (L2N.takes_of rfl rfl rfl rfl) (fun _ _ _ _ h => h)) (pv 0) (pa_cons (pv 1) (pa_cons (pv 2) pa_nil))))
  (pss_cons (ps_if (pt_not (pt_val (pe_callB (cr_all rfl) (by rfl) B.all (by decide +kernel) (pa_cons (pe_lc (own := [("one", 5)]) (g := (gName 5)) (tt := tYes) (te := (tOp zIsN (tVar 5) (tC .non))) rfl sc_Chip_write.nd (pi_list (pe_slice sl_list (pe_ix ix_list (pe_fld (pv 0) rfl) (pv 1) (fun _ _ => rfl)) (po_some (pv 2)) po_none)) (blkOk_by (N := N_Chip_write) (sc := defScope s_Chip_write) (by decide +kernel)) (fun _ _ _ _ _ => (pg_name (i := 5) sc_Chip_write.nd rfl (Or.inl rfl))) (fun _ _ _ _ _ => pts_nil) (fun _ _ _ _ _ => (pe_cmpR op_isN (pv 5) pe_non (nomark _)))) pa_nil))))
  (pss_one (pr_raise G.x_NotErased rfl (L2N.takes_of rfl rfl rfl rfl) rfl))
  pss_nil)
  (pss_cons (ps_set (i := 4) sc_Chip_write.nd rfl (Or.inl rfl) (pm0 D_Chip_goes_well F.cl_Chip hr (by decide) (L2N.passes_call (L2N.takes_of rfl rfl rfl rfl) (fun _ _ _ _ h => h)) (pv 0)))
  (pss_cons (ps_fld (pv 0) (pe_op op_add (pe_fld (pv 0) rfl) pe_int) rfl)
  (pss_cons (ps_asg (pe_ifExp (pt_val (pv 4)) (pv 3) (pe_gstr G.g_TORN rfl)) (pg_sub (pe_ix ix_list (pe_fld (pv 0) rfl) (pv 1) (fun _ _ => rfl)) (pv 2) set_list))
  (pss_one (ps_if (pt_not (pt_val (pv 4)))
  (pss_one (pr_raise G.x_Cut rfl (L2N.takes_of rfl rfl rfl rfl) rfl))
  pss_nil)))))))
theorem sc_Chip_erase : FnScope N_Chip_erase ["self", "block"] (defScope s_Chip_erase) := ⟨rfl, rfl, rfl, by decide +kernel, rfl, by decide +kernel, by decide +kernel⟩
theorem ok_Chip_erase {f : Addr} {fd : FuncData} (FF : Fun K "erase" "Chip.erase" s_Chip_erase f fd) (B : Blt mg) (G : Glo K mg A) (F : Fac K A) (D_Chip_need_block : DefM P w K mg base 1 A.chip "need_block" (sp_Chip_need_block K A)) (D_Chip_goes_well : DefM P w K mg base 1 A.chip "goes_well" (sp_Chip_goes_well K A)) : FnOk P w K mg base (L2N.CX P w) 2 f fd ["self", "block"] (sp_Chip_erase K A) := by
  refine Fun.okN FF sc_Chip_erase (fun vs H Q E h => len_Chip_erase h) (fun cdv A0 outer s H vs Q E hr h => ⟨t_Chip_erase K A E, ?_, pure_Chip_erase F h⟩)
  exact (pss_cons (ps_expr (pm D_Chip_need_block F.cl_Chip hr (by decide) (L2N.passes_call (L2N.takes_of rfl rfl rfl rfl) (fun _ _ _ _ h => h)) (pv 0) (pa_cons (pv 1) pa_nil)))
  (pss_cons (ps_set (i := 2) sc_Chip_erase.nd rfl (Or.inl rfl) (pm0 D_Chip_goes_well F.cl_Chip hr (by decide) (L2N.passes_call (L2N.takes_of rfl rfl rfl rfl) (fun _ _ _ _ h => h)) (pv 0)))
  (pss_cons (ps_asg (pe_op op_add (pe_ix ix_list (pe_fld (pv 0) rfl) (pv 1) (fun _ _ => rfl)) pe_int) (pg_sub (pe_fld (pv 0) rfl) (pv 1) set_list))
  (pss_cons (ps_asg (pe_op op_rep (pe_lst (pa_cons (pe_ifExp (pt_val (pv 2)) pe_non (pe_gstr G.g_TORN rfl)) pa_nil)) (pe_callB call_len_seq (by rfl) B.len (by decide +kernel) (pa_cons (pe_ix ix_list (pe_fld (pv 0) rfl) (pv 1) (fun _ _ => rfl)) pa_nil))) (pg_sub (pe_fld (pv 0) rfl) (pv 1) set_list))
  (pss_one (ps_if (pt_not (pt_val (pv 2)))
  (pss_one (pr_raise G.x_Cut rfl (L2N.takes_of rfl rfl rfl rfl) rfl))
  pss_nil))))))
theorem sc_Chip_power : FnScope N_Chip_power ["self", "many"] (defScope s_Chip_power) := ⟨rfl, rfl, rfl, by decide +kernel, rfl, by decide +kernel, by decide +kernel⟩
theorem ok_Chip_power {f : Addr} {fd : FuncData} (FF : Fun K "power" "Chip.power" s_Chip_power f fd) (B : Blt mg) (G : Glo K mg A) (F : Fac K A) : FnOk P w K mg base (L2N.CX P w) 1 f fd ["self", "many"] (sp_Chip_power K A) := by
  refine Fun.okN FF sc_Chip_power (fun vs H Q E h => len_Chip_power h) (fun cdv A0 outer s H vs Q E hr h => ⟨t_Chip_power K A E, ?_, pure_Chip_power F h⟩)
  exact (pss_cons (ps_fld (pv 0) (pv 1) rfl)
  (pss_one (ps_fld (pv 0) pe_bl rfl)))
theorem sc_l_done : FnScope N_l_done ["_law_chip", "_law_deed_here"] (defScope s_l_done) := ⟨rfl, rfl, rfl, by decide +kernel, rfl, by decide +kernel, by decide +kernel⟩
theorem ok_l_done {f : Addr} {fd : FuncData} (FF : Fun K "_law_done" "_law_done" s_l_done f fd) (B : Blt mg) (G : Glo K mg A) (GW : mg "WearError" = some (.ref A.wear)) (F : FacK K A) (D_Chip_write : DefM P w K mg base 3 A.chip "write" (sp_Chip_write K A)) (D_Chip_erase : DefM P w K mg base 2 A.chip "erase" (sp_Chip_erase K A)) (D_Chip_power : DefM P w K mg base 1 A.chip "power" (sp_Chip_power K A)) (D_l_word : DefE P w K mg base 1 "_law_word" "_law_e" (spw_l_word K A)) : FnOk P w K mg base (L2N.CX P w) 4 f fd ["_law_chip", "_law_deed_here"] (sp_l_done K A) := by
  refine Fun.okN FF sc_l_done (fun vs H Q E h => len_l_done h) (fun cdv A0 outer s H vs Q E hr h => ⟨t_l_done K A E, ?_, pure_l_done F h⟩)
  exact (pss_cons (L2N.ps_try_as (i := 2) (tb := fun W => (tIfS (tTest (tOp rEq (tOp (rIxT K) (tVar 1) (tC (.int 0))) (tC (.str "write"))))
  (tDrop (tMethS A.chip "write" (sp_Chip_write K A) (WE W) (tVar 0) (tCons (tOp (rIxT K) (tVar 1) (tC (.int 1))) (tCons (tOp (rIxT K) (tVar 1) (tC (.int 2))) (tCons (tOp (rIxT K) (tVar 1) (tC (.int 3))) tNil)))))
  (tIfS (tTest (tOp rEq (tOp (rIxT K) (tVar 1) (tC (.int 0))) (tC (.str "erase"))))
  (tDrop (tMethS A.chip "erase" (sp_Chip_erase K A) (WE W) (tVar 0) (tCons (tOp (rIxT K) (tVar 1) (tC (.int 1))) tNil)))
  (tDrop (tMeth A.chip "power" (sp_Chip_power K A) [] E0 (tVar 0) (tCons (tOp (rIxT K) (tVar 1) (tC (.int 1))) tNil)))))) (ts := fun a cls d => (tRet (tWord 2 a cls d (spw_l_word K A)))) (Wout := (fun cls d _ H => E cls d H)) rfl rfl sc_l_done.nd rfl rfl ⟨rfl, by decide, .inl GW⟩ (L2N.takes_of rfl rfl rfl rfl) (fun W pn xe tk hp => (pss_one (ps_if (pt_cmpR op_eq (pe_ix ix_tup (pv 1) pe_int (fun _ _ => rfl)) pe_str (nomark _))
  (pss_one (ps_expr (pmS D_Chip_write F.cl_Chip hr (by decide) (fun s => L2N.passAt tk s) (pv 0) (pa_cons (pe_ix ix_tup (pv 1) pe_int (fun _ _ => rfl)) (pa_cons (pe_ix ix_tup (pv 1) pe_int (fun _ _ => rfl)) (pa_cons (pe_ix ix_tup (pv 1) pe_int (fun _ _ => rfl)) pa_nil))))))
  (pss_one (ps_if (pt_cmpR op_eq (pe_ix ix_tup (pv 1) pe_int (fun _ _ => rfl)) pe_str (nomark _))
  (pss_one (ps_expr (pmS D_Chip_erase F.cl_Chip hr (by decide) (fun s => L2N.passAt tk s) (pv 0) (pa_cons (pe_ix ix_tup (pv 1) pe_int (fun _ _ => rfl)) pa_nil))))
  (pss_one (ps_expr (pm D_Chip_power F.cl_Chip hr (by decide) passLN (pv 0) (pa_cons (pe_ix ix_tup (pv 1) pe_int (fun _ _ => rfl)) pa_nil))))))))) (fun a oe cls d pn hz hf => (pss_one (ps_ret (pe_wordD D_l_word hr (by decide) hz hf rfl rfl (Or.inl rfl))))))
  (pss_one (ps_ret pe_str)))
theorem sc_l_beside : FnScope N_l_beside ["_law_m", "_law_deed_here"] (defScope s_l_beside) := ⟨rfl, rfl, rfl, by decide +kernel, rfl, by decide +kernel, by decide +kernel⟩
theorem ok_l_beside {f : Addr} {fd : FuncData} (FF : Fun K "_law_beside" "_law_beside" s_l_beside f fd) (B : Blt mg) (G : Glo K mg A) (F : FacK K A) : FnOk P w K mg base (L2N.CX P w) 1 f fd ["_law_m", "_law_deed_here"] (sp_l_beside K A) := by
  refine Fun.okN FF sc_l_beside (fun vs H Q E h => len_l_beside h) (fun cdv A0 outer s H vs Q E hr h => ⟨t_l_beside K A E, ?_, pure_l_beside F h⟩)
  exact (pss_cons (ps_if (pt_cmpR op_eq (pe_ix ix_tup (pv 1) pe_int (fun _ _ => rfl)) pe_str (nomark _))
  (pss_cons (ps_dput (hu_of hr) (pv 0) pe_str (pe_ix ix_tup (pv 1) pe_int (fun _ _ => rfl)) rfl)
  (pss_cons (ps_dput (hu_of hr) (pv 0) pe_str pe_bl rfl)
  (pss_one (ps_ret pe_str))))
  pss_nil)
  (pss_cons (ps_if (PW.pt (pw_or (pt_cmpR op_lt (pe_ix ix_tup (pv 1) pe_int (fun _ _ => rfl)) pe_int (nomark _)) (pw_or1 (pt_cmpR op_ge (pe_ix ix_tup (pv 1) pe_int (fun _ _ => rfl)) (pe_callB call_len_seq (by rfl) B.len (by decide +kernel) (pa_cons (pe_dget (hu_of hr) (pv 0) pe_str (fun _ _ => rfl)) pa_nil)) (nomark _)))))
  (pss_one (ps_ret pe_str))
  pss_nil)
  (pss_cons (ps_set (i := 2) sc_l_beside.nd rfl (Or.inl rfl) (pe_ix ix_list (pe_dget (hu_of hr) (pv 0) pe_str (fun _ _ => rfl)) (pe_ix ix_tup (pv 1) pe_int (fun _ _ => rfl)) (fun _ _ => rfl)))
  (pss_cons (ps_if (pt_cmpR op_eq (pe_ix ix_tup (pv 1) pe_int (fun _ _ => rfl)) pe_str (nomark _))
  (pss_cons (ps_if (PW.pt (pw_or (pt_cmpR op_lt (pe_ix ix_tup (pv 1) pe_int (fun _ _ => rfl)) pe_int (nomark _)) (pw_or1 (pt_cmpR op_ge (pe_ix ix_tup (pv 1) pe_int (fun _ _ => rfl)) (pe_callB call_len_seq (by rfl) B.len (by decide +kernel) (pa_cons (pv 2) pa_nil)) (nomark _)))))
  (pss_one (ps_ret pe_str))
  pss_nil)
  (pss_one (ps_if (pt_cmpR (op_neD hr.units) (pe_lc (own := [("_law_one", 3)]) (g := (gName 3)) (tt := (tTest (tOp zNotN (tVar 3) (tC .non)))) (te := (tVar 3)) rfl sc_l_beside.nd (pi_list (pe_slice sl_list (pv 2) (po_some (pe_ix ix_tup (pv 1) pe_int (fun _ _ => rfl))) po_none)) (blkOk_by (N := N_l_beside) (sc := defScope s_l_beside) (by decide +kernel)) (fun _ _ _ _ _ => (pg_name (i := 3) sc_l_beside.nd rfl (Or.inl rfl))) (fun _ _ _ _ _ => (pts_one (pt_cmpR op_notN (pv 3) pe_non (nomark _)))) (fun _ _ _ _ _ => (pv 3))) (pe_lst pa_nil) (nomark _))
  (pss_one (ps_ret pe_str))
  pss_nil)))
  pss_nil)
  (pss_cons (ps_if (pt_val (pe_dget (hu_of hr) (pv 0) pe_str (fun _ _ => rfl)))
  (pss_one (ps_ret pe_str))
  pss_nil)
  (pss_cons (ps_dput (hu_of hr) (pv 0) pe_str (pe_cmpR (op_eqD hr.units) (pe_dget (hu_of hr) (pv 0) pe_str (fun _ _ => rfl)) pe_int (nomark _)) rfl)
  (pss_cons (ps_if (PW.pt (pw_and (pt_cmpR op_notN (pe_dget (hu_of hr) (pv 0) pe_str (fun _ _ => rfl)) pe_non (nomark _)) (pw_and1 (pt_not (pt_val (pe_dget (hu_of hr) (pv 0) pe_str (fun _ _ => rfl)))))))
  (pss_one (ps_dput (hu_of hr) (pv 0) pe_str (pe_op op_sub (pe_dget (hu_of hr) (pv 0) pe_str (fun _ _ => rfl)) pe_int) rfl))
  pss_nil)
  (pss_cons (ps_if (pt_cmpR op_eq (pe_ix ix_tup (pv 1) pe_int (fun _ _ => rfl)) pe_str (nomark _))
  (pss_cons (ps_dput (hu_of hr) (pv 0) pe_str (pe_op op_add (pe_dget (hu_of hr) (pv 0) pe_str (fun _ _ => rfl)) pe_int) rfl)
  (pss_one (ps_asg (pe_ix ix_list (pe_lst (pa_cons (pe_ix ix_tup (pv 1) pe_int (fun _ _ => rfl)) (pa_cons pe_str pa_nil))) (pe_callTy call_int1 (by rfl) B.int (by decide +kernel) (pa_cons (pe_dget (hu_of hr) (pv 0) pe_str (fun _ _ => rfl)) pa_nil)) (fun _ _ => rfl)) (pg_sub (pv 2) (pe_ix ix_tup (pv 1) pe_int (fun _ _ => rfl)) set_list))))
  (pss_cons (ps_asg (pe_op op_add (pe_ix ix_list (pe_dget (hu_of hr) (pv 0) pe_str (fun _ _ => rfl)) (pe_ix ix_tup (pv 1) pe_int (fun _ _ => rfl)) (fun _ _ => rfl)) pe_int) (pg_sub (pe_dget (hu_of hr) (pv 0) pe_str (fun _ _ => rfl)) (pe_ix ix_tup (pv 1) pe_int (fun _ _ => rfl)) set_list))
  (pss_one (ps_asg (pe_op op_rep (pe_lst (pa_cons (pe_ix ix_list (pe_lst (pa_cons pe_non (pa_cons pe_str pa_nil))) (pe_callTy call_int1 (by rfl) B.int (by decide +kernel) (pa_cons (pe_dget (hu_of hr) (pv 0) pe_str (fun _ _ => rfl)) pa_nil)) (fun _ _ => rfl)) pa_nil)) (pe_callB call_len_seq (by rfl) B.len (by decide +kernel) (pa_cons (pv 2) pa_nil))) (pg_sub (pe_dget (hu_of hr) (pv 0) pe_str (fun _ _ => rfl)) (pe_ix ix_tup (pv 1) pe_int (fun _ _ => rfl)) set_list)))))
  (pss_one (ps_ret (pe_ix ix_list (pe_lst (pa_cons pe_str (pa_cons pe_str pa_nil))) (pe_callTy call_int1 (by rfl) B.int (by decide +kernel) (pa_cons (pe_dget (hu_of hr) (pv 0) pe_str (fun _ _ => rfl)) pa_nil)) (fun _ _ => rfl))))))))))))
theorem sc_Chip_written : FnScope N_Chip_written ["self"] (defScope s_Chip_written) := ⟨rfl, rfl, rfl, by decide +kernel, rfl, by decide +kernel, by decide +kernel⟩
theorem ok_Chip_written {f : Addr} {fd : FuncData} (FF : Fun K "written" "Chip.written" s_Chip_written f fd) (B : Blt mg) (G : Glo K mg A) (F : Fac K A) : FnOk P w K mg base (L2N.CX P w) 1 f fd ["self"] (sp_Chip_written K A) := by
  refine Fun.okN FF sc_Chip_written (fun vs H Q E h => len_Chip_written h) (fun cdv A0 outer s H vs Q E hr h => ⟨t_Chip_written K A E, ?_, pure_Chip_written F h⟩)
  exact (pss_one (ps_ret (pe_fld (pv 0) rfl)))
theorem sc_Chip_worn : FnScope N_Chip_worn ["self", "block"] (defScope s_Chip_worn) := ⟨rfl, rfl, rfl, by decide +kernel, rfl, by decide +kernel, by decide +kernel⟩
theorem ok_Chip_worn {f : Addr} {fd : FuncData} (FF : Fun K "worn" "Chip.worn" s_Chip_worn f fd) (B : Blt mg) (G : Glo K mg A) (F : Fac K A) (D_Chip_need_block : DefM P w K mg base 1 A.chip "need_block" (sp_Chip_need_block K A)) : FnOk P w K mg base (L2N.CX P w) 2 f fd ["self", "block"] (sp_Chip_worn K A) := by
  refine Fun.okN FF sc_Chip_worn (fun vs H Q E h => len_Chip_worn h) (fun cdv A0 outer s H vs Q E hr h => ⟨t_Chip_worn K A E, ?_, pure_Chip_worn F h⟩)
  exact (pss_cons (ps_expr (pm D_Chip_need_block F.cl_Chip hr (by decide) (L2N.passes_call (L2N.takes_of rfl rfl rfl rfl) (fun _ _ _ _ h => h)) (pv 0) (pa_cons (pv 1) pa_nil)))
  (pss_one (ps_ret (pe_ix ix_list (pe_fld (pv 0) rfl) (pv 1) (fun _ _ => rfl)))))
theorem sc_Chip_page : FnScope N_Chip_page ["self", "block", "page"] (defScope s_Chip_page) := ⟨rfl, rfl, rfl, by decide +kernel, rfl, by decide +kernel, by decide +kernel⟩
theorem ok_Chip_page {f : Addr} {fd : FuncData} (FF : Fun K "page" "Chip.page" s_Chip_page f fd) (B : Blt mg) (G : Glo K mg A) (F : Fac K A) (D_Chip_need_page : DefM P w K mg base 2 A.chip "need_page" (sp_Chip_need_page K A)) : FnOk P w K mg base (L2N.CX P w) 3 f fd ["self", "block", "page"] (sp_Chip_page K A) := by
  refine Fun.okN FF sc_Chip_page (fun vs H Q E h => len_Chip_page h) (fun cdv A0 outer s H vs Q E hr h => ⟨t_Chip_page K A E, ?_, pure_Chip_page F h⟩)
  exact (pss_cons (ps_expr (pm D_Chip_need_page F.cl_Chip hr (by decide) (L2N.passes_call (L2N.takes_of rfl rfl rfl rfl) (fun _ _ _ _ h => h)) (pv 0) (pa_cons (pv 1) (pa_cons (pv 2) pa_nil))))
  (pss_one (ps_ret (pe_ix ix_list (pe_ix ix_list (pe_fld (pv 0) rfl) (pv 1) (fun _ _ => rfl)) (pv 2) (fun _ _ => rfl)))))
theorem sc_l_right : FnScope N_l_right ["_law_chip", "_law_m"] (defScope s_l_right) := ⟨rfl, rfl, rfl, by decide +kernel, rfl, by decide +kernel, by decide +kernel⟩
theorem ok_l_right {f : Addr} {fd : FuncData} (FF : Fun K "_law_right" "_law_right" s_l_right f fd) (B : Blt mg) (G : Glo K mg A) (F : FacK K A) (D_Chip_size : DefM P w K mg base 1 A.chip "size" (sp_Chip_size K A)) (D_Chip_written : DefM P w K mg base 1 A.chip "written" (sp_Chip_written K A)) (D_Chip_worn : DefM P w K mg base 2 A.chip "worn" (sp_Chip_worn K A)) (D_Chip_page : DefM P w K mg base 3 A.chip "page" (sp_Chip_page K A)) : FnOk P w K mg base (L2N.CX P w) 4 f fd ["_law_chip", "_law_m"] (sp_l_right K A) := by
  refine Fun.okN FF sc_l_right (fun vs H Q E h => len_l_right h) (fun cdv A0 outer s H vs Q E hr h => ⟨t_l_right K A E, ?_, pure_l_right F h⟩)
  exact (pss_cons (ps_set (i := 2) sc_l_right.nd rfl (Or.inl rfl) (pe_callB call_len_seq (by rfl) B.len (by decide +kernel) (pa_cons (pe_dget (hu_of hr) (pv 1) pe_str (fun _ _ => rfl)) pa_nil)))
  (pss_cons (ps_set (i := 3) sc_l_right.nd rfl (Or.inl rfl) (pe_callB call_len_seq (by rfl) B.len (by decide +kernel) (pa_cons (pe_ix ix_list (pe_dget (hu_of hr) (pv 1) pe_str (fun _ _ => rfl)) pe_int (fun _ _ => rfl)) pa_nil)))
  (pss_cons (ps_if (PW.pt (pw_or (pt_cmpR (op_neD hr.units) (pm0 D_Chip_size F.cl_Chip hr (by decide) passLN (pv 0)) (pe_tup (pa_cons (pv 2) (pa_cons (pv 3) pa_nil))) (nomark _)) (pw_or1 (pt_cmpR op_ne (pm0 D_Chip_written F.cl_Chip hr (by decide) passLN (pv 0)) (pe_dget (hu_of hr) (pv 1) pe_str (fun _ _ => rfl)) (nomark _)))))
  (pss_one (ps_ret pe_bl))
  pss_nil)
  (pss_cons (ps_for (passes_of rfl) rfl (pi_range1 rfl B.range (pa_cons (pv 2) pa_nil)) (pg_name (i := 4) sc_l_right.nd rfl (Or.inr rfl))
  (pss_cons (ps_if (pt_cmpR op_ne (pm D_Chip_worn F.cl_Chip hr (by decide) (L2N.passes_call (L2N.takes_of rfl rfl rfl rfl) (fun _ _ _ _ h => h)) (pv 0) (pa_cons (pv 4) pa_nil)) (pe_ix ix_list (pe_dget (hu_of hr) (pv 1) pe_str (fun _ _ => rfl)) (pv 4) (fun _ _ => rfl)) (nomark _))
  (pss_one (ps_ret pe_bl))
  pss_nil)
  (pss_one (ps_if (pt_cmpR (op_neD hr.units) (pe_lc (own := [("_law_page", 5)]) (g := (gName 5)) (tt := tYes) (te := (tMeth A.chip "page" (sp_Chip_page K A) [] E0 (tVar 0) (tCons (tVar 4) (tCons (tVar 5) tNil)))) rfl sc_l_right.nd (pi_range1 rfl B.range (pa_cons (pv 3) pa_nil)) (blkOk_by (N := N_l_right) (sc := defScope s_l_right) (by decide +kernel)) (fun _ _ _ _ _ => (pg_name (i := 5) sc_l_right.nd rfl (Or.inl rfl))) (fun _ _ _ _ _ => pts_nil) (fun _ _ _ _ _ => (pm D_Chip_page F.cl_Chip hr (by decide) passLN (pv 0) (pa_cons (pv 4) (pa_cons (pv 5) pa_nil))))) (pe_ix ix_list (pe_dget (hu_of hr) (pv 1) pe_str (fun _ _ => rfl)) (pv 4) (fun _ _ => rfl)) (nomark _))
  (pss_one (ps_ret pe_bl))
  pss_nil))))
  (pss_one (ps_ret pe_bl))))))
theorem sc_law : FnScope N_law ["_law_script"] (defScope s_law) := ⟨rfl, rfl, rfl, by decide +kernel, rfl, by decide +kernel, by decide +kernel⟩
theorem ok_law {f : Addr} {fd : FuncData} (FF : Fun K "law" "law" s_law f fd) (B : Blt mg) (G : Glo K mg A) (F : FacK K A) (D_l_drawn : DefF P w K mg base 1 "_law_drawn" (sp_l_drawn K A)) (D_l_cell : DefF P w K mg base 1 "_law_cell" (sp_l_cell K A)) (D_l_made : DefF P w K mg base 3 "_law_made" (sp_l_made K A)) (D_l_own : DefF P w K mg base 1 "_law_own" (sp_l_own K A)) (D_copied : DefF P w K mg base 3 "copied" (sp_copied K A)) (D_l_deed : DefF P w K mg base 1 "_law_deed" (sp_l_deed K A)) (D_l_done : DefF P w K mg base 4 "_law_done" (sp_l_done K A)) (D_l_beside : DefF P w K mg base 1 "_law_beside" (sp_l_beside K A)) (D_l_right : DefF P w K mg base 4 "_law_right" (sp_l_right K A)) : FnOk P w K mg base CX0 5 f fd ["_law_script"] (sp_law K A) := by
  refine FF.ok sc_law (fun vs H Q E h => len_law h) (fun cdv A0 outer s H vs Q E hr h => ⟨t_law K A E, ?_, pure_law F h⟩)
  exact (pss_cons (ps_set (i := 1) sc_law.nd rfl (Or.inl rfl) (pf D_l_drawn hr (by decide) passLN rfl (pa_cons (pf D_l_cell hr (by decide) passLN rfl (pa_cons (pv 0) (pa_cons pe_int pa_nil))) (pa_cons pe_int pa_nil))))
  (pss_cons (ps_set (i := 2) sc_law.nd rfl (Or.inl rfl) (pe_ix ix_list (pe_lst (pa_cons (pe_tup (pa_cons pe_int (pa_cons pe_int pa_nil))) (pa_cons (pe_tup (pa_cons pe_int (pa_cons pe_int pa_nil))) (pa_cons (pe_tup (pa_cons pe_int (pa_cons pe_int pa_nil))) (pa_cons (pe_tup (pa_cons pe_int (pa_cons pe_int pa_nil))) (pa_cons (pe_tup (pa_cons pe_int (pa_cons pe_int pa_nil))) (pa_cons (pe_tup (pa_cons (pe_un un_neg pe_int) (pa_cons pe_int pa_nil))) pa_nil))))))) (pe_op op_mod (pv 1) pe_int) (fun _ _ => rfl)))
  (pss_cons (ps_if (pt_cmpR (op_neD hr.units) (pf D_l_made hr (by decide) passLN rfl (pa_cons (pe_ix ix_tup (pv 2) pe_int (fun _ _ => rfl)) (pa_cons (pe_ix ix_tup (pv 2) pe_int (fun _ _ => rfl)) pa_nil))) pe_str (nomark _))
  (pss_one (ps_ret pe_bl))
  pss_nil)
  (pss_cons (ps_set (i := 3) sc_law.nd rfl (Or.inl rfl) (pe_ix ix_list (pe_lst (pa_cons pe_int (pa_cons (pe_op op_add pe_int (pe_op op_mod (pe_op op_fdivW (pv 1) pe_int) pe_int)) (pa_cons pe_int pa_nil)))) (pe_op op_mod (pe_op op_fdivW (pv 1) pe_int) pe_int) (fun _ _ => rfl)))
  (pss_cons (ps_set (i := 4) sc_law.nd rfl (Or.inr rfl) (pe_ix ix_list (pe_lst (pa_cons pe_int (pa_cons (pe_op op_add pe_int (pe_op op_mod (pe_op op_fdivW (pv 1) pe_int) pe_int)) (pa_cons pe_int pa_nil)))) (pe_op op_mod (pe_op op_fdivW (pv 1) pe_int) pe_int) (fun _ _ => rfl)))
  (pss_cons (ps_set (i := 5) sc_law.nd rfl (Or.inl rfl) (pe_lst (pa_cons (pf D_l_made hr (by decide) passLN rfl (pa_cons (pv 3) (pa_cons (pv 4) pa_nil))) pa_nil)))
  (pss_cons (ps_set (i := 6) sc_law.nd rfl (Or.inl rfl) (pe_lst (pa_cons (pf D_l_own hr (by decide) passLN rfl (pa_cons (pe_lc (own := [("_law_k", 7)]) (g := (gName 7)) (tt := tYes) (te := (tOp rRep (tLst (tCons (tC .non) tNil)) (tVar 4))) rfl sc_law.nd (pi_range1 rfl B.range (pa_cons (pv 3) pa_nil)) (blkOk_by (N := N_law) (sc := defScope s_law) (by decide +kernel)) (fun _ _ _ _ _ => (pg_name (i := 7) sc_law.nd rfl (Or.inl rfl))) (fun _ _ _ _ _ => pts_nil) (fun _ _ _ _ _ => (pe_op op_rep (pe_lst (pa_cons pe_non pa_nil)) (pv 4)))) (pa_cons (pe_op op_rep (pe_lst (pa_cons pe_int pa_nil)) (pv 3)) (pa_cons pe_int pa_nil)))) pa_nil)))
  (pss_cons (ps_for PassesOwn.never rfl (pi_range1 rfl B.range (pa_cons (pe_callB (call_max2 rfl) (by rfl) B.max (by decide +kernel) (pa_cons pe_int (pa_cons (pe_callB (call_min2 rfl) (by rfl) B.min (by decide +kernel) (pa_cons pe_int (pa_cons (pe_callB call_len_seq (by rfl) B.len (by decide +kernel) (pa_cons (pv 0) pa_nil)) pa_nil))) pa_nil))) pa_nil)) (pg_name (i := 7) sc_law.nd rfl (Or.inl rfl))
  (pss_cons (ps_set (i := 1) sc_law.nd rfl (Or.inl rfl) (pf D_l_drawn hr (by decide) passLN rfl (pa_cons (pf D_l_cell hr (by decide) passLN rfl (pa_cons (pv 0) (pa_cons (pv 7) pa_nil))) (pa_cons (pe_op op_add (pv 7) pe_int) pa_nil))))
  (pss_cons (ps_if (pt_cmpR op_eq (pv 7) pe_int (nomark _))
  (pss_cons (ps_expr (pe_bm PySem.F.plainAttrs_list PySem.F.slot_list_append PySem.F.type_list_append mt_append (pv 5) (pa_cons (pf D_copied hr (by decide) passLN rfl (pa_cons (pe_ix ix_list (pv 5) pe_int (fun _ _ => rfl)) pa_nil)) pa_nil)))
  (pss_cons (ps_setLc (i := 8) (own := [("_law_row", 12)]) (g := (gName 12)) (tt := tYes) (te := (tCB (zList K) (tCons (tVar 12) tNil))) rfl sc_law.nd rfl rfl (sw_true rfl rfl rfl (by decide +kernel)) (pi_list (pe_dget (hu_of hr) (pe_ix ix_list (pv 6) pe_int (fun _ _ => rfl)) pe_str (fun _ _ => rfl))) (blkOk_by (N := N_law) (sc := defScope s_law) (by decide +kernel)) (fun _ _ _ _ _ => (pg_name (i := 12) sc_law.nd rfl (Or.inl rfl))) (fun _ _ _ _ _ => pts_nil) (fun _ _ _ _ _ => (pe_callTy call_list_of (by rfl) B.list (by decide +kernel) (pa_cons (pv 12) pa_nil))))
  (pss_one (ps_expr (pe_bm PySem.F.plainAttrs_list PySem.F.slot_list_append PySem.F.type_list_append mt_append (pv 6) (pa_cons (pf D_l_own hr (by decide) passLN rfl (pa_cons (pv 8) (pa_cons (pe_callTy call_list_of (by rfl) B.list (by decide +kernel) (pa_cons (pe_dget (hu_of hr) (pe_ix ix_list (pv 6) pe_int (fun _ _ => rfl)) pe_str (fun _ _ => rfl)) pa_nil)) (pa_cons (pe_dget (hu_of hr) (pe_ix ix_list (pv 6) pe_int (fun _ _ => rfl)) pe_str (fun _ _ => rfl)) pa_nil)))) pa_nil))))))
  pss_nil)
  (pss_cons (ps_set (i := 9) sc_law.nd rfl (Or.inl rfl) (pe_op op_mod (pv 1) (pe_callB call_len_seq (by rfl) B.len (by decide +kernel) (pa_cons (pv 5) pa_nil))))
  (pss_cons (ps_set (i := 10) sc_law.nd rfl (Or.inl rfl) (pf D_l_deed hr (by decide) passLN rfl (pa_cons (pe_op op_fdivW (pv 1) pe_int) (pa_cons (pe_ix ix_list (pv 6) (pv 9) (fun _ _ => rfl)) pa_nil))))
  (pss_cons (ps_if (pt_cmpR op_ne (pf D_l_done hr (by decide) passLN rfl (pa_cons (pe_ix ix_list (pv 5) (pv 9) (fun _ _ => rfl)) (pa_cons (pv 10) pa_nil))) (pf D_l_beside hr (by decide) passLN rfl (pa_cons (pe_ix ix_list (pv 6) (pv 9) (fun _ _ => rfl)) (pa_cons (pv 10) pa_nil))) (nomark _))
  (pss_one (ps_ret pe_bl))
  pss_nil)
  (pss_one (ps_for PassesOwn.never rfl (pi_range1 rfl B.range (pa_cons (pe_callB call_len_seq (by rfl) B.len (by decide +kernel) (pa_cons (pv 5) pa_nil)) pa_nil)) (pg_name (i := 11) sc_law.nd rfl (Or.inl rfl))
  (pss_one (ps_if (pt_not (pt_val (pf D_l_right hr (by decide) passLN rfl (pa_cons (pe_ix ix_list (pv 5) (pv 11) (fun _ _ => rfl)) (pa_cons (pe_ix ix_list (pv 6) (pv 11) (fun _ _ => rfl)) pa_nil)))))
  (pss_one (ps_ret pe_bl))
  pss_nil))))))))))
  (pss_one (ps_ret pe_bl))))))))))
end
def A0 : Ad := ⟨0, 0, 0, 0, 0, 0, 0, 0, 0, 0, 0, 0⟩
theorem all_mk {l : PySem.W.OpenLaw} {w : World} {K : PySem.W.Frag} {h : Heap} {mg : Str → Option Value} {fa : Addr} (X : K.In h) (G : h.Ns mainGlobals mg) (hfa : mg "law" = some (.ref fa))
    {CChip XBadSize XNoPage XNotErased XNoSector XBadContent XCut XWear : Addr} {f0 : Addr} {od0 an0 : Option Addr} {sl0 : Array (Option Value)} {oc0 kV0 dc0 pm0 cd0 ct0 : Value} {f1 : Addr} {od1 an1 : Option Addr} {sl1 : Array (Option Value)} {oc1 kV1 dc1 pm1 cd1 ct1 : Value} {f2 : Addr} {od2 an2 : Option Addr} {sl2 : Array (Option Value)} {oc2 kV2 dc2 pm2 cd2 ct2 : Value} {f3 : Addr} {od3 an3 : Option Addr} {sl3 : Array (Option Value)} {oc3 kV3 dc3 pm3 cd3 ct3 : Value} {f4 : Addr} {od4 an4 : Option Addr} {sl4 : Array (Option Value)} {oc4 kV4 dc4 pm4 cd4 ct4 : Value} {f5 : Addr} {od5 an5 : Option Addr} {sl5 : Array (Option Value)} {oc5 kV5 dc5 pm5 cd5 ct5 : Value} {f6 : Addr} {od6 an6 : Option Addr} {sl6 : Array (Option Value)} {oc6 kV6 dc6 pm6 cd6 ct6 : Value} {f7 : Addr} {od7 an7 : Option Addr} {sl7 : Array (Option Value)} {oc7 kV7 dc7 pm7 cd7 ct7 : Value} {f8 : Addr} {od8 an8 : Option Addr} {sl8 : Array (Option Value)} {oc8 kV8 dc8 pm8 cd8 ct8 : Value} {f9 : Addr} {od9 an9 : Option Addr} {sl9 : Array (Option Value)} {oc9 kV9 dc9 pm9 cd9 ct9 : Value} {f10 : Addr} {od10 an10 : Option Addr} {sl10 : Array (Option Value)} {oc10 kV10 dc10 pm10 cd10 ct10 : Value} {f11 : Addr} {od11 an11 : Option Addr} {sl11 : Array (Option Value)} {oc11 kV11 dc11 pm11 cd11 ct11 : Value} {f12 : Addr} {od12 an12 : Option Addr} {sl12 : Array (Option Value)} {oc12 kV12 dc12 pm12 cd12 ct12 : Value} {f13 : Addr} {od13 an13 : Option Addr} {sl13 : Array (Option Value)} {oc13 kV13 dc13 pm13 cd13 ct13 : Value} {f14 : Addr} {od14 an14 : Option Addr} {sl14 : Array (Option Value)} {oc14 kV14 dc14 pm14 cd14 ct14 : Value} {f15 : Addr} {od15 an15 : Option Addr} {sl15 : Array (Option Value)} {oc15 kV15 dc15 pm15 cd15 ct15 : Value} {f16 : Addr} {od16 an16 : Option Addr} {sl16 : Array (Option Value)} {oc16 kV16 dc16 pm16 cd16 ct16 : Value} {f17 : Addr} {od17 an17 : Option Addr} {sl17 : Array (Option Value)} {oc17 kV17 dc17 pm17 cd17 ct17 : Value} {f18 : Addr} {od18 an18 : Option Addr} {sl18 : Array (Option Value)} {oc18 kV18 dc18 pm18 cd18 ct18 : Value} {f19 : Addr} {od19 an19 : Option Addr} {sl19 : Array (Option Value)} {oc19 kV19 dc19 pm19 cd19 ct19 : Value} {f20 : Addr} {od20 an20 : Option Addr} {sl20 : Array (Option Value)} {oc20 kV20 dc20 pm20 cd20 ct20 : Value} {f21 : Addr} {od21 an21 : Option Addr} {sl21 : Array (Option Value)} {oc21 kV21 dc21 pm21 cd21 ct21 : Value} {tLEAST_BLOCKS : _} {tMOST_BLOCKS : _} {tLEAST_PAGES : _} {tMOST_PAGES : _} {tTORN : _}
    (aCChip : PySem.W.nsIn K mainGlobals "Chip" = some (some (.ref CChip)))
    (aXBadSize : PySem.W.nsIn K mainGlobals "BadSize" = some (some (.ref XBadSize)))
    (aXNoPage : PySem.W.nsIn K mainGlobals "NoPage" = some (some (.ref XNoPage)))
    (aXNotErased : PySem.W.nsIn K mainGlobals "NotErased" = some (some (.ref XNotErased)))
    (aXNoSector : PySem.W.nsIn K mainGlobals "NoSector" = some (some (.ref XNoSector)))
    (aXBadContent : PySem.W.nsIn K mainGlobals "BadContent" = some (some (.ref XBadContent)))
    (aXCut : PySem.W.nsIn K mainGlobals "Cut" = some (some (.ref XCut)))
    (a0 : PySem.W.nsIn K mainGlobals "_law_drawn" = some (some (.ref f0)))
    (l0 : K.lookup f0 = some ⟨oc0, od0, .func (PySem.W.fnOf "_law_drawn" "_law_drawn" (defArgs s_l_drawn) (defBody s_l_drawn) (defScope s_l_drawn) .none kV0 dc0 pm0 an0 cd0 ct0), sl0⟩)
    (c0 : PySem.W.codeIn K cd0 "_law_drawn" = true)
    (k0 : PySem.W.keepIn K (.ref f0) = true)
    (a1 : PySem.W.nsIn K mainGlobals "_law_cell" = some (some (.ref f1)))
    (l1 : K.lookup f1 = some ⟨oc1, od1, .func (PySem.W.fnOf "_law_cell" "_law_cell" (defArgs s_l_cell) (defBody s_l_cell) (defScope s_l_cell) .none kV1 dc1 pm1 an1 cd1 ct1), sl1⟩)
    (c1 : PySem.W.codeIn K cd1 "_law_cell" = true)
    (k1 : PySem.W.keepIn K (.ref f1) = true)
    (a2 : PySem.W.findIn K (.ref CChip) "__init__" = some (some (.ref f2)))
    (i2 : PySem.W.isFn K (.ref f2) = true)
    (l2 : K.lookup f2 = some ⟨oc2, od2, .func (PySem.W.fnOf "__init__" "Chip.__init__" (defArgs s_Chip_init) (defBody s_Chip_init) (defScope s_Chip_init) .none kV2 dc2 pm2 an2 cd2 ct2), sl2⟩)
    (c2 : PySem.W.codeIn K cd2 "Chip.__init__" = true)
    (k2 : PySem.W.keepIn K (.ref f2) = true)
    (a3 : PySem.W.nsIn K mainGlobals "_law_word" = some (some (.ref f3)))
    (l3 : K.lookup f3 = some ⟨oc3, od3, .func (PySem.W.fnOf "_law_word" "_law_word" (defArgs s_l_word) (defBody s_l_word) (defScope s_l_word) .none kV3 dc3 pm3 an3 cd3 ct3), sl3⟩)
    (c3 : PySem.W.codeIn K cd3 "_law_word" = true)
    (k3 : PySem.W.keepIn K (.ref f3) = true)
    (a4 : PySem.W.nsIn K mainGlobals "_law_made" = some (some (.ref f4)))
    (l4 : K.lookup f4 = some ⟨oc4, od4, .func (PySem.W.fnOf "_law_made" "_law_made" (defArgs s_l_made) (defBody s_l_made) (defScope s_l_made) .none kV4 dc4 pm4 an4 cd4 ct4), sl4⟩)
    (c4 : PySem.W.codeIn K cd4 "_law_made" = true)
    (k4 : PySem.W.keepIn K (.ref f4) = true)
    (a5 : PySem.W.nsIn K mainGlobals "_law_own" = some (some (.ref f5)))
    (l5 : K.lookup f5 = some ⟨oc5, od5, .func (PySem.W.fnOf "_law_own" "_law_own" (defArgs s_l_own) (defBody s_l_own) (defScope s_l_own) .none kV5 dc5 pm5 an5 cd5 ct5), sl5⟩)
    (c5 : PySem.W.codeIn K cd5 "_law_own" = true)
    (k5 : PySem.W.keepIn K (.ref f5) = true)
    (a6 : PySem.W.findIn K (.ref CChip) "size" = some (some (.ref f6)))
    (i6 : PySem.W.isFn K (.ref f6) = true)
    (l6 : K.lookup f6 = some ⟨oc6, od6, .func (PySem.W.fnOf "size" "Chip.size" (defArgs s_Chip_size) (defBody s_Chip_size) (defScope s_Chip_size) .none kV6 dc6 pm6 an6 cd6 ct6), sl6⟩)
    (c6 : PySem.W.codeIn K cd6 "Chip.size" = true)
    (k6 : PySem.W.keepIn K (.ref f6) = true)
    (a7 : PySem.W.nsIn K mainGlobals "copied" = some (some (.ref f7)))
    (l7 : K.lookup f7 = some ⟨oc7, od7, .func (PySem.W.fnOf "copied" "copied" (defArgs s_copied) (defBody s_copied) (defScope s_copied) .none kV7 dc7 pm7 an7 cd7 ct7), sl7⟩)
    (c7 : PySem.W.codeIn K cd7 "copied" = true)
    (k7 : PySem.W.keepIn K (.ref f7) = true)
    (a8 : PySem.W.nsIn K mainGlobals "_law_deed" = some (some (.ref f8)))
    (l8 : K.lookup f8 = some ⟨oc8, od8, .func (PySem.W.fnOf "_law_deed" "_law_deed" (defArgs s_l_deed) (defBody s_l_deed) (defScope s_l_deed) .none kV8 dc8 pm8 an8 cd8 ct8), sl8⟩)
    (c8 : PySem.W.codeIn K cd8 "_law_deed" = true)
    (k8 : PySem.W.keepIn K (.ref f8) = true)
    (a9 : PySem.W.findIn K (.ref CChip) "need_block" = some (some (.ref f9)))
    (i9 : PySem.W.isFn K (.ref f9) = true)
    (l9 : K.lookup f9 = some ⟨oc9, od9, .func (PySem.W.fnOf "need_block" "Chip.need_block" (defArgs s_Chip_need_block) (defBody s_Chip_need_block) (defScope s_Chip_need_block) .none kV9 dc9 pm9 an9 cd9 ct9), sl9⟩)
    (c9 : PySem.W.codeIn K cd9 "Chip.need_block" = true)
    (k9 : PySem.W.keepIn K (.ref f9) = true)
    (a10 : PySem.W.findIn K (.ref CChip) "need_page" = some (some (.ref f10)))
    (i10 : PySem.W.isFn K (.ref f10) = true)
    (l10 : K.lookup f10 = some ⟨oc10, od10, .func (PySem.W.fnOf "need_page" "Chip.need_page" (defArgs s_Chip_need_page) (defBody s_Chip_need_page) (defScope s_Chip_need_page) .none kV10 dc10 pm10 an10 cd10 ct10), sl10⟩)
    (c10 : PySem.W.codeIn K cd10 "Chip.need_page" = true)
    (k10 : PySem.W.keepIn K (.ref f10) = true)
    (a11 : PySem.W.findIn K (.ref CChip) "goes_well" = some (some (.ref f11)))
    (i11 : PySem.W.isFn K (.ref f11) = true)
    (l11 : K.lookup f11 = some ⟨oc11, od11, .func (PySem.W.fnOf "goes_well" "Chip.goes_well" (defArgs s_Chip_goes_well) (defBody s_Chip_goes_well) (defScope s_Chip_goes_well) .none kV11 dc11 pm11 an11 cd11 ct11), sl11⟩)
    (c11 : PySem.W.codeIn K cd11 "Chip.goes_well" = true)
    (k11 : PySem.W.keepIn K (.ref f11) = true)
    (a12 : PySem.W.findIn K (.ref CChip) "write" = some (some (.ref f12)))
    (i12 : PySem.W.isFn K (.ref f12) = true)
    (l12 : K.lookup f12 = some ⟨oc12, od12, .func (PySem.W.fnOf "write" "Chip.write" (defArgs s_Chip_write) (defBody s_Chip_write) (defScope s_Chip_write) .none kV12 dc12 pm12 an12 cd12 ct12), sl12⟩)
    (c12 : PySem.W.codeIn K cd12 "Chip.write" = true)
    (k12 : PySem.W.keepIn K (.ref f12) = true)
    (a13 : PySem.W.findIn K (.ref CChip) "erase" = some (some (.ref f13)))
    (i13 : PySem.W.isFn K (.ref f13) = true)
    (l13 : K.lookup f13 = some ⟨oc13, od13, .func (PySem.W.fnOf "erase" "Chip.erase" (defArgs s_Chip_erase) (defBody s_Chip_erase) (defScope s_Chip_erase) .none kV13 dc13 pm13 an13 cd13 ct13), sl13⟩)
    (c13 : PySem.W.codeIn K cd13 "Chip.erase" = true)
    (k13 : PySem.W.keepIn K (.ref f13) = true)
    (a14 : PySem.W.findIn K (.ref CChip) "power" = some (some (.ref f14)))
    (i14 : PySem.W.isFn K (.ref f14) = true)
    (l14 : K.lookup f14 = some ⟨oc14, od14, .func (PySem.W.fnOf "power" "Chip.power" (defArgs s_Chip_power) (defBody s_Chip_power) (defScope s_Chip_power) .none kV14 dc14 pm14 an14 cd14 ct14), sl14⟩)
    (c14 : PySem.W.codeIn K cd14 "Chip.power" = true)
    (k14 : PySem.W.keepIn K (.ref f14) = true)
    (a15 : PySem.W.nsIn K mainGlobals "_law_done" = some (some (.ref f15)))
    (l15 : K.lookup f15 = some ⟨oc15, od15, .func (PySem.W.fnOf "_law_done" "_law_done" (defArgs s_l_done) (defBody s_l_done) (defScope s_l_done) .none kV15 dc15 pm15 an15 cd15 ct15), sl15⟩)
    (c15 : PySem.W.codeIn K cd15 "_law_done" = true)
    (k15 : PySem.W.keepIn K (.ref f15) = true)
    (a16 : PySem.W.nsIn K mainGlobals "_law_beside" = some (some (.ref f16)))
    (l16 : K.lookup f16 = some ⟨oc16, od16, .func (PySem.W.fnOf "_law_beside" "_law_beside" (defArgs s_l_beside) (defBody s_l_beside) (defScope s_l_beside) .none kV16 dc16 pm16 an16 cd16 ct16), sl16⟩)
    (c16 : PySem.W.codeIn K cd16 "_law_beside" = true)
    (k16 : PySem.W.keepIn K (.ref f16) = true)
    (a17 : PySem.W.findIn K (.ref CChip) "written" = some (some (.ref f17)))
    (i17 : PySem.W.isFn K (.ref f17) = true)
    (l17 : K.lookup f17 = some ⟨oc17, od17, .func (PySem.W.fnOf "written" "Chip.written" (defArgs s_Chip_written) (defBody s_Chip_written) (defScope s_Chip_written) .none kV17 dc17 pm17 an17 cd17 ct17), sl17⟩)
    (c17 : PySem.W.codeIn K cd17 "Chip.written" = true)
    (k17 : PySem.W.keepIn K (.ref f17) = true)
    (a18 : PySem.W.findIn K (.ref CChip) "worn" = some (some (.ref f18)))
    (i18 : PySem.W.isFn K (.ref f18) = true)
    (l18 : K.lookup f18 = some ⟨oc18, od18, .func (PySem.W.fnOf "worn" "Chip.worn" (defArgs s_Chip_worn) (defBody s_Chip_worn) (defScope s_Chip_worn) .none kV18 dc18 pm18 an18 cd18 ct18), sl18⟩)
    (c18 : PySem.W.codeIn K cd18 "Chip.worn" = true)
    (k18 : PySem.W.keepIn K (.ref f18) = true)
    (a19 : PySem.W.findIn K (.ref CChip) "page" = some (some (.ref f19)))
    (i19 : PySem.W.isFn K (.ref f19) = true)
    (l19 : K.lookup f19 = some ⟨oc19, od19, .func (PySem.W.fnOf "page" "Chip.page" (defArgs s_Chip_page) (defBody s_Chip_page) (defScope s_Chip_page) .none kV19 dc19 pm19 an19 cd19 ct19), sl19⟩)
    (c19 : PySem.W.codeIn K cd19 "Chip.page" = true)
    (k19 : PySem.W.keepIn K (.ref f19) = true)
    (a20 : PySem.W.nsIn K mainGlobals "_law_right" = some (some (.ref f20)))
    (l20 : K.lookup f20 = some ⟨oc20, od20, .func (PySem.W.fnOf "_law_right" "_law_right" (defArgs s_l_right) (defBody s_l_right) (defScope s_l_right) .none kV20 dc20 pm20 an20 cd20 ct20), sl20⟩)
    (c20 : PySem.W.codeIn K cd20 "_law_right" = true)
    (k20 : PySem.W.keepIn K (.ref f20) = true)
    (a21 : PySem.W.nsIn K mainGlobals "law" = some (some (.ref f21)))
    (l21 : K.lookup f21 = some ⟨oc21, od21, .func (PySem.W.fnOf "law" "law" (defArgs s_law) (defBody s_law) (defScope s_law) .none kV21 dc21 pm21 an21 cd21 ct21), sl21⟩)
    (c21 : PySem.W.codeIn K cd21 "law" = true)
    (k21 : PySem.W.keepIn K (.ref f21) = true)
    (pgChip : PySem.W.plainGet K CChip Str.empty = true)
    (hdChip : PySem.W.hasDictIn K CChip = true)
    (poChip : PySem.W.plainOver K CChip = true)
    (saChip : PySem.W.findIn K (.ref CChip) "__setattr__" = some (some (.builtin "object.__setattr__")))
    (mkChip : PySem.W.makesIn K CChip = true)
    (kcChip : PySem.W.keepIn K (.ref CChip) = true)
    (xXBadSize : PySem.W.excIn K XBadSize [.type "ValueError", .type "Exception", .type "BaseException", .type "object"] "ValueError.__new__" = true)
    (kXBadSize : PySem.W.keepIn K (.ref XBadSize) = true)
    (bXBadSize : PySem.W.subIn K (.ref XBadSize) (.type "BaseException") = some true)
    (tXBadSize : PySem.W.typeIn K (.ref XBadSize) = some (.type "type"))
    (xXNoPage : PySem.W.excIn K XNoPage [.type "ValueError", .type "Exception", .type "BaseException", .type "object"] "ValueError.__new__" = true)
    (kXNoPage : PySem.W.keepIn K (.ref XNoPage) = true)
    (bXNoPage : PySem.W.subIn K (.ref XNoPage) (.type "BaseException") = some true)
    (tXNoPage : PySem.W.typeIn K (.ref XNoPage) = some (.type "type"))
    (xXNotErased : PySem.W.excIn K XNotErased [.type "ValueError", .type "Exception", .type "BaseException", .type "object"] "ValueError.__new__" = true)
    (kXNotErased : PySem.W.keepIn K (.ref XNotErased) = true)
    (bXNotErased : PySem.W.subIn K (.ref XNotErased) (.type "BaseException") = some true)
    (tXNotErased : PySem.W.typeIn K (.ref XNotErased) = some (.type "type"))
    (xXNoSector : PySem.W.excIn K XNoSector [.type "ValueError", .type "Exception", .type "BaseException", .type "object"] "ValueError.__new__" = true)
    (kXNoSector : PySem.W.keepIn K (.ref XNoSector) = true)
    (bXNoSector : PySem.W.subIn K (.ref XNoSector) (.type "BaseException") = some true)
    (tXNoSector : PySem.W.typeIn K (.ref XNoSector) = some (.type "type"))
    (xXBadContent : PySem.W.excIn K XBadContent [.type "ValueError", .type "Exception", .type "BaseException", .type "object"] "ValueError.__new__" = true)
    (kXBadContent : PySem.W.keepIn K (.ref XBadContent) = true)
    (bXBadContent : PySem.W.subIn K (.ref XBadContent) (.type "BaseException") = some true)
    (tXBadContent : PySem.W.typeIn K (.ref XBadContent) = some (.type "type"))
    (xXCut : PySem.W.excIn K XCut [.type "ValueError", .type "Exception", .type "BaseException", .type "object"] "ValueError.__new__" = true)
    (kXCut : PySem.W.keepIn K (.ref XCut) = true)
    (bXCut : PySem.W.subIn K (.ref XCut) (.type "BaseException") = some true)
    (tXCut : PySem.W.typeIn K (.ref XCut) = some (.type "type"))
    (nChip_rows : PySem.W.findIn K (.ref CChip) "rows" = some none)
    (nChip_wears : PySem.W.findIn K (.ref CChip) "wears" = some none)
    (nChip_many : PySem.W.findIn K (.ref CChip) "many" = some none)
    (nChip_left : PySem.W.findIn K (.ref CChip) "left" = some none)
    (nChip_is_cut : PySem.W.findIn K (.ref CChip) "is_cut" = some none)
    (gLEAST_BLOCKS : PySem.W.nsIn K mainGlobals "LEAST_BLOCKS" = some (some (.int 4 tLEAST_BLOCKS)))
    (gMOST_BLOCKS : PySem.W.nsIn K mainGlobals "MOST_BLOCKS" = some (some (.int 32 tMOST_BLOCKS)))
    (gLEAST_PAGES : PySem.W.nsIn K mainGlobals "LEAST_PAGES" = some (some (.int 2 tLEAST_PAGES)))
    (gMOST_PAGES : PySem.W.nsIn K mainGlobals "MOST_PAGES" = some (some (.int 16 tMOST_PAGES)))
    (gTORN : PySem.W.nsIn K mainGlobals "TORN" = some (some (.str "torn" tTORN)))
    (zrange : PySem.W.nsIn K mainGlobals "range" = some none)
    (zlen : PySem.W.nsIn K mainGlobals "len" = some none)
    (zmax : PySem.W.nsIn K mainGlobals "max" = some none)
    (zmin : PySem.W.nsIn K mainGlobals "min" = some none)
    (zsum : PySem.W.nsIn K mainGlobals "sum" = some none)
    (zany : PySem.W.nsIn K mainGlobals "any" = some none)
    (zall : PySem.W.nsIn K mainGlobals "all" = some none)
    (zenumerate : PySem.W.nsIn K mainGlobals "enumerate" = some none)
    (zint : PySem.W.nsIn K mainGlobals "int" = some none)
    (zstr : PySem.W.nsIn K mainGlobals "str" = some none)
    (zlist : PySem.W.nsIn K mainGlobals "list" = some none)
    (zdict : PySem.W.nsIn K mainGlobals "dict" = some none)
    (zisinstance : PySem.W.nsIn K mainGlobals "isinstance" = some none)
    (aXWear : PySem.W.nsIn K mainGlobals "WearError" = some (some (.ref XWear)))
    (zValueError : PySem.W.nsIn K mainGlobals "ValueError" = some none)
    (bXWear : PySem.W.subIn K (.ref XWear) (.type "BaseException") = some true)
    (icWear : PySem.W.isClsIn K XWear = true)
    (tXWear : PySem.W.typeIn K (.ref XWear) = some (.type "type"))
    (ihn : PySem.W.specialIn K (.builtin "object.__class__") "__get__" = some (some (.builtin "getset_descriptor.__get__")))
    (iht : PySem.W.takesIn K (.builtin "object.__class__") = some true)
    (wBadSize_BadSize : PySem.W.kitOne K (.ref XBadSize) (.ref XBadSize) = some true)
    (wBadSize_NoPage : PySem.W.kitOne K (.ref XBadSize) (.ref XNoPage) = some false)
    (wBadSize_NotErased : PySem.W.kitOne K (.ref XBadSize) (.ref XNotErased) = some false)
    (wBadSize_NoSector : PySem.W.kitOne K (.ref XBadSize) (.ref XNoSector) = some false)
    (wBadSize_BadContent : PySem.W.kitOne K (.ref XBadSize) (.ref XBadContent) = some false)
    (wBadSize_Cut : PySem.W.kitOne K (.ref XBadSize) (.ref XCut) = some false)
    (vBadSize : PySem.W.kitOne K (.ref XBadSize) (.type "ValueError") = some true)
    (ehgBadSize : PySem.W.findIn K (.ref XBadSize) "__getattribute__" = some (some (.builtin "BaseException.__getattribute__")))
    (ehkBadSize : PySem.W.findIn K (.ref XBadSize) "__getattr__" = some none)
    (ehdBadSize : PySem.W.hasDictIn K XBadSize = true)
    (ehaBadSize : PySem.W.findIn K (.ref XBadSize) "__class__" = some (some (.builtin "object.__class__")))
    (ehmBadSize : PySem.W.mroIn K XBadSize (.type "object") = some true)
    (swBadSize : PySem.W.subIn K (.ref XBadSize) (.ref XWear) = some true)
    (wNoPage_BadSize : PySem.W.kitOne K (.ref XNoPage) (.ref XBadSize) = some false)
    (wNoPage_NoPage : PySem.W.kitOne K (.ref XNoPage) (.ref XNoPage) = some true)
    (wNoPage_NotErased : PySem.W.kitOne K (.ref XNoPage) (.ref XNotErased) = some false)
    (wNoPage_NoSector : PySem.W.kitOne K (.ref XNoPage) (.ref XNoSector) = some false)
    (wNoPage_BadContent : PySem.W.kitOne K (.ref XNoPage) (.ref XBadContent) = some false)
    (wNoPage_Cut : PySem.W.kitOne K (.ref XNoPage) (.ref XCut) = some false)
    (vNoPage : PySem.W.kitOne K (.ref XNoPage) (.type "ValueError") = some true)
    (ehgNoPage : PySem.W.findIn K (.ref XNoPage) "__getattribute__" = some (some (.builtin "BaseException.__getattribute__")))
    (ehkNoPage : PySem.W.findIn K (.ref XNoPage) "__getattr__" = some none)
    (ehdNoPage : PySem.W.hasDictIn K XNoPage = true)
    (ehaNoPage : PySem.W.findIn K (.ref XNoPage) "__class__" = some (some (.builtin "object.__class__")))
    (ehmNoPage : PySem.W.mroIn K XNoPage (.type "object") = some true)
    (swNoPage : PySem.W.subIn K (.ref XNoPage) (.ref XWear) = some true)
    (wNotErased_BadSize : PySem.W.kitOne K (.ref XNotErased) (.ref XBadSize) = some false)
    (wNotErased_NoPage : PySem.W.kitOne K (.ref XNotErased) (.ref XNoPage) = some false)
    (wNotErased_NotErased : PySem.W.kitOne K (.ref XNotErased) (.ref XNotErased) = some true)
    (wNotErased_NoSector : PySem.W.kitOne K (.ref XNotErased) (.ref XNoSector) = some false)
    (wNotErased_BadContent : PySem.W.kitOne K (.ref XNotErased) (.ref XBadContent) = some false)
    (wNotErased_Cut : PySem.W.kitOne K (.ref XNotErased) (.ref XCut) = some false)
    (vNotErased : PySem.W.kitOne K (.ref XNotErased) (.type "ValueError") = some true)
    (ehgNotErased : PySem.W.findIn K (.ref XNotErased) "__getattribute__" = some (some (.builtin "BaseException.__getattribute__")))
    (ehkNotErased : PySem.W.findIn K (.ref XNotErased) "__getattr__" = some none)
    (ehdNotErased : PySem.W.hasDictIn K XNotErased = true)
    (ehaNotErased : PySem.W.findIn K (.ref XNotErased) "__class__" = some (some (.builtin "object.__class__")))
    (ehmNotErased : PySem.W.mroIn K XNotErased (.type "object") = some true)
    (swNotErased : PySem.W.subIn K (.ref XNotErased) (.ref XWear) = some true)
    (wCut_BadSize : PySem.W.kitOne K (.ref XCut) (.ref XBadSize) = some false)
    (wCut_NoPage : PySem.W.kitOne K (.ref XCut) (.ref XNoPage) = some false)
    (wCut_NotErased : PySem.W.kitOne K (.ref XCut) (.ref XNotErased) = some false)
    (wCut_NoSector : PySem.W.kitOne K (.ref XCut) (.ref XNoSector) = some false)
    (wCut_BadContent : PySem.W.kitOne K (.ref XCut) (.ref XBadContent) = some false)
    (wCut_Cut : PySem.W.kitOne K (.ref XCut) (.ref XCut) = some true)
    (vCut : PySem.W.kitOne K (.ref XCut) (.type "ValueError") = some true)
    (ehgCut : PySem.W.findIn K (.ref XCut) "__getattribute__" = some (some (.builtin "BaseException.__getattribute__")))
    (ehkCut : PySem.W.findIn K (.ref XCut) "__getattr__" = some none)
    (ehdCut : PySem.W.hasDictIn K XCut = true)
    (ehaCut : PySem.W.findIn K (.ref XCut) "__class__" = some (some (.builtin "object.__class__")))
    (ehmCut : PySem.W.mroIn K XCut (.type "object") = some true)
    (swCut : PySem.W.subIn K (.ref XCut) (.ref XWear) = some true) :
    ∃ fd : FuncData, (∀ (s : Shared) (v : Value), BindsTo s fd ⟨[v], []⟩ [("_law_script", v)]) ∧ ∀ base : Heap, K.In base → base.Ns mainGlobals mg → FnOk l.prog w K mg base CX0 5 fa fd ["_law_script"] (sp_law K A0) := by
  have e := hfa.symm.trans (PySem.W.mg_of X G a21)
  cases e
  have B : Blt mg := ⟨PySem.W.mg_none_of X G zrange, PySem.W.mg_none_of X G zlen, PySem.W.mg_none_of X G zmax, PySem.W.mg_none_of X G zmin, PySem.W.mg_none_of X G zsum, PySem.W.mg_none_of X G zany, PySem.W.mg_none_of X G zall, PySem.W.mg_none_of X G zenumerate, PySem.W.mg_none_of X G zint, PySem.W.mg_none_of X G zstr, PySem.W.mg_none_of X G zlist, PySem.W.mg_none_of X G zdict, PySem.W.mg_none_of X G zisinstance⟩
  have GG : Glo K mg (⟨CChip, CChip, CChip, XBadSize, XNoPage, XNotErased, XNoSector, XBadContent, XCut, CChip, CChip, XWear⟩ : Ad) := ⟨⟨_, PySem.W.mg_of X G gLEAST_BLOCKS⟩, ⟨_, PySem.W.mg_of X G gMOST_BLOCKS⟩, ⟨_, PySem.W.mg_of X G gLEAST_PAGES⟩, ⟨_, PySem.W.mg_of X G gMOST_PAGES⟩, ⟨_, PySem.W.mg_of X G gTORN⟩, ⟨xXBadSize, PySem.W.mg_of X G aXBadSize, kXBadSize, bXBadSize, tXBadSize⟩, ⟨xXNoPage, PySem.W.mg_of X G aXNoPage, kXNoPage, bXNoPage, tXNoPage⟩, ⟨xXNotErased, PySem.W.mg_of X G aXNotErased, kXNotErased, bXNotErased, tXNotErased⟩, ⟨xXNoSector, PySem.W.mg_of X G aXNoSector, kXNoSector, bXNoSector, tXNoSector⟩, ⟨xXBadContent, PySem.W.mg_of X G aXBadContent, kXBadContent, bXBadContent, tXBadContent⟩, ⟨xXCut, PySem.W.mg_of X G aXCut, kXCut, bXCut, tXCut⟩⟩
  have GW : mg "WearError" = some (.ref XWear) := PySem.W.mg_of X G aXWear
  have hV : mg "ValueError" = none := PySem.W.mg_none_of X G zValueError
  have F : FacK K (⟨CChip, CChip, CChip, XBadSize, XNoPage, XNotErased, XNoSector, XBadContent, XCut, CChip, CChip, XWear⟩ : Ad) := { cl_Chip := ⟨pgChip, hdChip, poChip, saChip⟩, n_rows := nChip_rows, n_wears := nChip_wears, n_many := nChip_many, n_left := nChip_left, n_is_cut := nChip_is_cut, w0 := ⟨by decide, wBadSize_BadSize, wBadSize_NoPage, wBadSize_NotErased, wBadSize_NoSector, wBadSize_BadContent, wBadSize_Cut, vBadSize, ⟨ehgBadSize, ehkBadSize, bXBadSize, ehdBadSize, ehaBadSize, ihn, iht, ehmBadSize⟩, exm_of bXWear icWear tXWear swBadSize⟩, w1 := ⟨by decide, wNoPage_BadSize, wNoPage_NoPage, wNoPage_NotErased, wNoPage_NoSector, wNoPage_BadContent, wNoPage_Cut, vNoPage, ⟨ehgNoPage, ehkNoPage, bXNoPage, ehdNoPage, ehaNoPage, ihn, iht, ehmNoPage⟩, exm_of bXWear icWear tXWear swNoPage⟩, w2 := ⟨by decide, wNotErased_BadSize, wNotErased_NoPage, wNotErased_NotErased, wNotErased_NoSector, wNotErased_BadContent, wNotErased_Cut, vNotErased, ⟨ehgNotErased, ehkNotErased, bXNotErased, ehdNotErased, ehaNotErased, ihn, iht, ehmNotErased⟩, exm_of bXWear icWear tXWear swNotErased⟩, w5 := ⟨by decide, wCut_BadSize, wCut_NoPage, wCut_NotErased, wCut_NoSector, wCut_BadContent, wCut_Cut, vCut, ⟨ehgCut, ehkCut, bXCut, ehdCut, ehaCut, ihn, iht, ehmCut⟩, exm_of bXWear icWear tXWear swCut⟩ }
  have F0 := fun_mk (st := s_l_drawn) l0 c0 k0
  have b0 := F0.binds (ps := ["_law_cell_here", "_law_k"]) fun _ _ _ _ _ _ us hl => match us, hl with | [_, _], _ => rfl
  have F1 := fun_mk (st := s_l_cell) l1 c1 k1
  have b1 := F1.binds (ps := ["_law_script", "_law_k"]) fun _ _ _ _ _ _ us hl => match us, hl with | [_, _], _ => rfl
  have F2 := fun_mk (st := s_Chip_init) l2 c2 k2
  have b2 := F2.binds (ps := ["self", "blocks", "pages"]) fun _ _ _ _ _ _ us hl => match us, hl with | [_, _, _], _ => rfl
  have F3 := fun_mk (st := s_l_word) l3 c3 k3
  have b3 := F3.binds (ps := ["_law_e"]) fun _ _ _ _ _ _ us hl => match us, hl with | [_], _ => rfl
  have F4 := fun_mk (st := s_l_made) l4 c4 k4
  have b4 := F4.binds (ps := ["_law_blocks", "_law_pages"]) fun _ _ _ _ _ _ us hl => match us, hl with | [_, _], _ => rfl
  have F5 := fun_mk (st := s_l_own) l5 c5 k5
  have b5 := F5.binds (ps := ["_law_rows", "_law_worn", "_law_many"]) fun _ _ _ _ _ _ us hl => match us, hl with | [_, _, _], _ => rfl
  have F6 := fun_mk (st := s_Chip_size) l6 c6 k6
  have b6 := F6.binds (ps := ["self"]) fun _ _ _ _ _ _ us hl => match us, hl with | [_], _ => rfl
  have F7 := fun_mk (st := s_copied) l7 c7 k7
  have b7 := F7.binds (ps := ["chip"]) fun _ _ _ _ _ _ us hl => match us, hl with | [_], _ => rfl
  have F8 := fun_mk (st := s_l_deed) l8 c8 k8
  have b8 := F8.binds (ps := ["_law_more", "_law_m"]) fun _ _ _ _ _ _ us hl => match us, hl with | [_, _], _ => rfl
  have F9 := fun_mk (st := s_Chip_need_block) l9 c9 k9
  have b9 := F9.binds (ps := ["self", "block"]) fun _ _ _ _ _ _ us hl => match us, hl with | [_, _], _ => rfl
  have F10 := fun_mk (st := s_Chip_need_page) l10 c10 k10
  have b10 := F10.binds (ps := ["self", "block", "page"]) fun _ _ _ _ _ _ us hl => match us, hl with | [_, _, _], _ => rfl
  have F11 := fun_mk (st := s_Chip_goes_well) l11 c11 k11
  have b11 := F11.binds (ps := ["self"]) fun _ _ _ _ _ _ us hl => match us, hl with | [_], _ => rfl
  have F12 := fun_mk (st := s_Chip_write) l12 c12 k12
  have b12 := F12.binds (ps := ["self", "block", "page", "thing"]) fun _ _ _ _ _ _ us hl => match us, hl with | [_, _, _, _], _ => rfl
  have F13 := fun_mk (st := s_Chip_erase) l13 c13 k13
  have b13 := F13.binds (ps := ["self", "block"]) fun _ _ _ _ _ _ us hl => match us, hl with | [_, _], _ => rfl
  have F14 := fun_mk (st := s_Chip_power) l14 c14 k14
  have b14 := F14.binds (ps := ["self", "many"]) fun _ _ _ _ _ _ us hl => match us, hl with | [_, _], _ => rfl
  have F15 := fun_mk (st := s_l_done) l15 c15 k15
  have b15 := F15.binds (ps := ["_law_chip", "_law_deed_here"]) fun _ _ _ _ _ _ us hl => match us, hl with | [_, _], _ => rfl
  have F16 := fun_mk (st := s_l_beside) l16 c16 k16
  have b16 := F16.binds (ps := ["_law_m", "_law_deed_here"]) fun _ _ _ _ _ _ us hl => match us, hl with | [_, _], _ => rfl
  have F17 := fun_mk (st := s_Chip_written) l17 c17 k17
  have b17 := F17.binds (ps := ["self"]) fun _ _ _ _ _ _ us hl => match us, hl with | [_], _ => rfl
  have F18 := fun_mk (st := s_Chip_worn) l18 c18 k18
  have b18 := F18.binds (ps := ["self", "block"]) fun _ _ _ _ _ _ us hl => match us, hl with | [_, _], _ => rfl
  have F19 := fun_mk (st := s_Chip_page) l19 c19 k19
  have b19 := F19.binds (ps := ["self", "block", "page"]) fun _ _ _ _ _ _ us hl => match us, hl with | [_, _, _], _ => rfl
  have F20 := fun_mk (st := s_l_right) l20 c20 k20
  have b20 := F20.binds (ps := ["_law_chip", "_law_m"]) fun _ _ _ _ _ _ us hl => match us, hl with | [_, _], _ => rfl
  have F21 := fun_mk (st := s_law) l21 c21 k21
  refine ⟨PySem.W.fnOf "law" "law" (defArgs s_law) (defBody s_law) (defScope s_law) .none kV21 dc21 pm21 an21 cd21 ct21, fun s v => .of_eq rfl, fun base hb1 hb2 => ?_⟩
  have D_l_drawn : DefF l.prog w K mg base 1 "_law_drawn" (sp_l_drawn K (⟨CChip, CChip, CChip, XBadSize, XNoPage, XNotErased, XNoSector, XBadContent, XCut, CChip, CChip, XWear⟩ : Ad)) := ⟨_, _, _, PySem.W.mg_of X G a0, k0, ok_l_drawn F0 B GG F , b0⟩
  have D_l_cell : DefF l.prog w K mg base 1 "_law_cell" (sp_l_cell K (⟨CChip, CChip, CChip, XBadSize, XNoPage, XNotErased, XNoSector, XBadContent, XCut, CChip, CChip, XWear⟩ : Ad)) := ⟨_, _, _, PySem.W.mg_of X G a1, k1, ok_l_cell F1 B GG F , b1⟩
  have D_Chip_init : DefC l.prog w K mg base 1 "Chip" CChip (sp_Chip_init K (⟨CChip, CChip, CChip, XBadSize, XNoPage, XNotErased, XNoSector, XBadContent, XCut, CChip, CChip, XWear⟩ : Ad)) := ⟨_, _, _, ⟨mkChip, a2, i2, kcChip⟩, PySem.W.mg_of X G aCChip, ok_Chip_init F2 B GG F.toFac , b2⟩
  have D_l_word : DefE l.prog w K mg base 1 "_law_word" "_law_e" (spw_l_word K (⟨CChip, CChip, CChip, XBadSize, XNoPage, XNotErased, XNoSector, XBadContent, XCut, CChip, CChip, XWear⟩ : Ad)) := ⟨_, _, PySem.W.mg_of X G a3, k3, ok_l_word F3 B GG hV, b3⟩
  have D_l_made : DefF l.prog w K mg base 3 "_law_made" (sp_l_made K (⟨CChip, CChip, CChip, XBadSize, XNoPage, XNotErased, XNoSector, XBadContent, XCut, CChip, CChip, XWear⟩ : Ad)) := ⟨_, _, _, PySem.W.mg_of X G a4, k4, ok_l_made F4 B GG GW F D_Chip_init D_l_word, b4⟩
  have D_l_own : DefF l.prog w K mg base 1 "_law_own" (sp_l_own K (⟨CChip, CChip, CChip, XBadSize, XNoPage, XNotErased, XNoSector, XBadContent, XCut, CChip, CChip, XWear⟩ : Ad)) := ⟨_, _, _, PySem.W.mg_of X G a5, k5, ok_l_own F5 B GG F , b5⟩
  have D_Chip_size : DefM l.prog w K mg base 1 CChip "size" (sp_Chip_size K (⟨CChip, CChip, CChip, XBadSize, XNoPage, XNotErased, XNoSector, XBadContent, XCut, CChip, CChip, XWear⟩ : Ad)) := ⟨_, _, _, ⟨a6, i6, k6⟩, ok_Chip_size F6 B GG F.toFac , b6⟩
  have D_copied : DefF l.prog w K mg base 3 "copied" (sp_copied K (⟨CChip, CChip, CChip, XBadSize, XNoPage, XNotErased, XNoSector, XBadContent, XCut, CChip, CChip, XWear⟩ : Ad)) := ⟨_, _, _, PySem.W.mg_of X G a7, k7, ok_copied F7 B GG F.toFac D_Chip_size D_Chip_init, b7⟩
  have D_l_deed : DefF l.prog w K mg base 1 "_law_deed" (sp_l_deed K (⟨CChip, CChip, CChip, XBadSize, XNoPage, XNotErased, XNoSector, XBadContent, XCut, CChip, CChip, XWear⟩ : Ad)) := ⟨_, _, _, PySem.W.mg_of X G a8, k8, ok_l_deed F8 B GG F , b8⟩
  have D_Chip_need_block : DefM l.prog w K mg base 1 CChip "need_block" (sp_Chip_need_block K (⟨CChip, CChip, CChip, XBadSize, XNoPage, XNotErased, XNoSector, XBadContent, XCut, CChip, CChip, XWear⟩ : Ad)) := ⟨_, _, _, ⟨a9, i9, k9⟩, ok_Chip_need_block F9 B GG F.toFac , b9⟩
  have D_Chip_need_page : DefM l.prog w K mg base 2 CChip "need_page" (sp_Chip_need_page K (⟨CChip, CChip, CChip, XBadSize, XNoPage, XNotErased, XNoSector, XBadContent, XCut, CChip, CChip, XWear⟩ : Ad)) := ⟨_, _, _, ⟨a10, i10, k10⟩, ok_Chip_need_page F10 B GG F.toFac D_Chip_need_block, b10⟩
  have D_Chip_goes_well : DefM l.prog w K mg base 1 CChip "goes_well" (sp_Chip_goes_well K (⟨CChip, CChip, CChip, XBadSize, XNoPage, XNotErased, XNoSector, XBadContent, XCut, CChip, CChip, XWear⟩ : Ad)) := ⟨_, _, _, ⟨a11, i11, k11⟩, ok_Chip_goes_well F11 B GG F.toFac , b11⟩
  have D_Chip_write : DefM l.prog w K mg base 3 CChip "write" (sp_Chip_write K (⟨CChip, CChip, CChip, XBadSize, XNoPage, XNotErased, XNoSector, XBadContent, XCut, CChip, CChip, XWear⟩ : Ad)) := ⟨_, _, _, ⟨a12, i12, k12⟩, ok_Chip_write F12 B GG F.toFac D_Chip_need_page D_Chip_goes_well, b12⟩
  have D_Chip_erase : DefM l.prog w K mg base 2 CChip "erase" (sp_Chip_erase K (⟨CChip, CChip, CChip, XBadSize, XNoPage, XNotErased, XNoSector, XBadContent, XCut, CChip, CChip, XWear⟩ : Ad)) := ⟨_, _, _, ⟨a13, i13, k13⟩, ok_Chip_erase F13 B GG F.toFac D_Chip_need_block D_Chip_goes_well, b13⟩
  have D_Chip_power : DefM l.prog w K mg base 1 CChip "power" (sp_Chip_power K (⟨CChip, CChip, CChip, XBadSize, XNoPage, XNotErased, XNoSector, XBadContent, XCut, CChip, CChip, XWear⟩ : Ad)) := ⟨_, _, _, ⟨a14, i14, k14⟩, ok_Chip_power F14 B GG F.toFac , b14⟩
  have D_l_done : DefF l.prog w K mg base 4 "_law_done" (sp_l_done K (⟨CChip, CChip, CChip, XBadSize, XNoPage, XNotErased, XNoSector, XBadContent, XCut, CChip, CChip, XWear⟩ : Ad)) := ⟨_, _, _, PySem.W.mg_of X G a15, k15, ok_l_done F15 B GG GW F D_Chip_write D_Chip_erase D_Chip_power D_l_word, b15⟩
  have D_l_beside : DefF l.prog w K mg base 1 "_law_beside" (sp_l_beside K (⟨CChip, CChip, CChip, XBadSize, XNoPage, XNotErased, XNoSector, XBadContent, XCut, CChip, CChip, XWear⟩ : Ad)) := ⟨_, _, _, PySem.W.mg_of X G a16, k16, ok_l_beside F16 B GG F , b16⟩
  have D_Chip_written : DefM l.prog w K mg base 1 CChip "written" (sp_Chip_written K (⟨CChip, CChip, CChip, XBadSize, XNoPage, XNotErased, XNoSector, XBadContent, XCut, CChip, CChip, XWear⟩ : Ad)) := ⟨_, _, _, ⟨a17, i17, k17⟩, ok_Chip_written F17 B GG F.toFac , b17⟩
  have D_Chip_worn : DefM l.prog w K mg base 2 CChip "worn" (sp_Chip_worn K (⟨CChip, CChip, CChip, XBadSize, XNoPage, XNotErased, XNoSector, XBadContent, XCut, CChip, CChip, XWear⟩ : Ad)) := ⟨_, _, _, ⟨a18, i18, k18⟩, ok_Chip_worn F18 B GG F.toFac D_Chip_need_block, b18⟩
  have D_Chip_page : DefM l.prog w K mg base 3 CChip "page" (sp_Chip_page K (⟨CChip, CChip, CChip, XBadSize, XNoPage, XNotErased, XNoSector, XBadContent, XCut, CChip, CChip, XWear⟩ : Ad)) := ⟨_, _, _, ⟨a19, i19, k19⟩, ok_Chip_page F19 B GG F.toFac D_Chip_need_page, b19⟩
  have D_l_right : DefF l.prog w K mg base 4 "_law_right" (sp_l_right K (⟨CChip, CChip, CChip, XBadSize, XNoPage, XNotErased, XNoSector, XBadContent, XCut, CChip, CChip, XWear⟩ : Ad)) := ⟨_, _, _, PySem.W.mg_of X G a20, k20, ok_l_right F20 B GG F D_Chip_size D_Chip_written D_Chip_worn D_Chip_page, b20⟩
  exact ok_law (A := (⟨CChip, CChip, CChip, XBadSize, XNoPage, XNotErased, XNoSector, XBadContent, XCut, CChip, CChip, XWear⟩ : Ad)) F21 B GG F D_l_drawn D_l_cell D_l_made D_l_own D_copied D_l_deed D_l_done D_l_beside D_l_right
theorem walk {l : PySem.W.OpenLaw} {q : Program} {loose : List Str} {XP : (Str → Option Value) → Heap → Prop} {YP : World → Heap → Prop} {d : DefRec} {K : Params → PySem.W.Frag} (hn : l.most = some 63) (hdf : d.params.defaults = [])
    (hY : ∀ (w : World) (h : Heap), YP w h → (K w.params).In h)
    (F : ∀ (w : World) (mg : Str → Option Value) (fa : Addr) (h : Heap), (K w.params).In h → h.Ns mainGlobals mg → mg d.name = some (.ref fa) →
      ∃ fd : FuncData, (∀ (s : Shared) (u : Value), BindsTo s fd ⟨[u], []⟩ [("_law_script", u)]) ∧ ∀ base : Heap, (K w.params).In base → base.Ns mainGlobals mg → FnOk l.prog w (K w.params) mg base CX0 5 fa fd ["_law_script"] (sp_law (K w.params) A0)) :
    PySem.W.WalkO q loose XP YP l.row.toRowW d [] (fun f vs => PySem.call f vs) :=
  L2.walk_of (n := 63) (k := 5) (x := "_law_script") (CX := fun _ => CX0) (sp := fun w => sp_law (K w.params) A0) hn (by decide) hdf ⟨rfl, by decide, by decide⟩ hY F (fun _ _ a ns hl _ hS => ⟨a, ns, rfl, hS, hl, fun _ => rfl⟩) fun _ _ _ _ _ z => z
end Ew

open PySem PySem.W PyProof.Rows in
set_option maxRecDepth 100000 in
set_option maxHeartbeats 0 in
theorem PySem.Challenge.cw_evenwear_k10_chip_holds : PySem.Challenge.rw_evenwear_k10_chip.Holds := by
  w_on; o_law; k_head; (case hw => w_witness2)
  k_fill
  refine Ew.walk (l := PySem.Challenge.rw_evenwear_k10_chip) rfl rfl (fun w h Y => PySem.W.kIn_of Y) ?F
  case F =>
    intro w mg fa h KX G hmg
    refine' Ew.all_mk KX G hmg ?aCChip ?aXBadSize ?aXNoPage ?aXNotErased ?aXNoSector ?aXBadContent ?aXCut ?a0 ?l0 ?c0 ?k0 ?a1 ?l1 ?c1 ?k1 ?a2 ?i2 ?l2 ?c2 ?k2 ?a3 ?l3 ?c3 ?k3 ?a4 ?l4 ?c4 ?k4 ?a5 ?l5 ?c5 ?k5 ?a6 ?i6 ?l6 ?c6 ?k6 ?a7 ?l7 ?c7 ?k7 ?a8 ?l8 ?c8 ?k8 ?a9 ?i9 ?l9 ?c9 ?k9 ?a10 ?i10 ?l10 ?c10 ?k10 ?a11 ?i11 ?l11 ?c11 ?k11 ?a12 ?i12 ?l12 ?c12 ?k12 ?a13 ?i13 ?l13 ?c13 ?k13 ?a14 ?i14 ?l14 ?c14 ?k14 ?a15 ?l15 ?c15 ?k15 ?a16 ?l16 ?c16 ?k16 ?a17 ?i17 ?l17 ?c17 ?k17 ?a18 ?i18 ?l18 ?c18 ?k18 ?a19 ?i19 ?l19 ?c19 ?k19 ?a20 ?l20 ?c20 ?k20 ?a21 ?l21 ?c21 ?k21 ?pgChip ?hdChip ?poChip ?saChip ?mkChip ?kcChip ?xXBadSize ?kXBadSize ?bXBadSize ?tXBadSize ?xXNoPage ?kXNoPage ?bXNoPage ?tXNoPage ?xXNotErased ?kXNotErased ?bXNotErased ?tXNotErased ?xXNoSector ?kXNoSector ?bXNoSector ?tXNoSector ?xXBadContent ?kXBadContent ?bXBadContent ?tXBadContent ?xXCut ?kXCut ?bXCut ?tXCut ?nChip_rows ?nChip_wears ?nChip_many ?nChip_left ?nChip_is_cut ?gLEAST_BLOCKS ?gMOST_BLOCKS ?gLEAST_PAGES ?gMOST_PAGES ?gTORN ?zrange ?zlen ?zmax ?zmin ?zsum ?zany ?zall ?zenumerate ?zint ?zstr ?zlist ?zdict ?zisinstance ?aXWear ?zValueError ?bXWear ?icWear ?tXWear ?ihn ?iht ?wBadSize_BadSize ?wBadSize_NoPage ?wBadSize_NotErased ?wBadSize_NoSector ?wBadSize_BadContent ?wBadSize_Cut ?vBadSize ?ehgBadSize ?ehkBadSize ?ehdBadSize ?ehaBadSize ?ehmBadSize ?swBadSize ?wNoPage_BadSize ?wNoPage_NoPage ?wNoPage_NotErased ?wNoPage_NoSector ?wNoPage_BadContent ?wNoPage_Cut ?vNoPage ?ehgNoPage ?ehkNoPage ?ehdNoPage ?ehaNoPage ?ehmNoPage ?swNoPage ?wNotErased_BadSize ?wNotErased_NoPage ?wNotErased_NotErased ?wNotErased_NoSector ?wNotErased_BadContent ?wNotErased_Cut ?vNotErased ?ehgNotErased ?ehkNotErased ?ehdNotErased ?ehaNotErased ?ehmNotErased ?swNotErased ?wCut_BadSize ?wCut_NoPage ?wCut_NotErased ?wCut_NoSector ?wCut_BadContent ?wCut_Cut ?vCut ?ehgCut ?ehkCut ?ehdCut ?ehaCut ?ehmCut ?swCut
    (case aCChip => k_is)
    (case aXBadSize => k_is)
    (case aXNoPage => k_is)
    (case aXNotErased => k_is)
    (case aXNoSector => k_is)
    (case aXBadContent => k_is)
    (case aXCut => k_is)
    (case a0 => k_is)
    (case l0 => k_is)
    (case c0 => k_is)
    (case k0 => k_is)
    (case a1 => k_is)
    (case l1 => k_is)
    (case c1 => k_is)
    (case k1 => k_is)
    (case a2 => k_is)
    (case i2 => k_is)
    (case l2 => k_is)
    (case c2 => k_is)
    (case k2 => k_is)
    (case a3 => k_is)
    (case l3 => k_is)
    (case c3 => k_is)
    (case k3 => k_is)
    (case a4 => k_is)
    (case l4 => k_is)
    (case c4 => k_is)
    (case k4 => k_is)
    (case a5 => k_is)
    (case l5 => k_is)
    (case c5 => k_is)
    (case k5 => k_is)
    (case a6 => k_is)
    (case i6 => k_is)
    (case l6 => k_is)
    (case c6 => k_is)
    (case k6 => k_is)
    (case a7 => k_is)
    (case l7 => k_is)
    (case c7 => k_is)
    (case k7 => k_is)
    (case a8 => k_is)
    (case l8 => k_is)
    (case c8 => k_is)
    (case k8 => k_is)
    (case a9 => k_is)
    (case i9 => k_is)
    (case l9 => k_is)
    (case c9 => k_is)
    (case k9 => k_is)
    (case a10 => k_is)
    (case i10 => k_is)
    (case l10 => k_is)
    (case c10 => k_is)
    (case k10 => k_is)
    (case a11 => k_is)
    (case i11 => k_is)
    (case l11 => k_is)
    (case c11 => k_is)
    (case k11 => k_is)
    (case a12 => k_is)
    (case i12 => k_is)
    (case l12 => k_is)
    (case c12 => k_is)
    (case k12 => k_is)
    (case a13 => k_is)
    (case i13 => k_is)
    (case l13 => k_is)
    (case c13 => k_is)
    (case k13 => k_is)
    (case a14 => k_is)
    (case i14 => k_is)
    (case l14 => k_is)
    (case c14 => k_is)
    (case k14 => k_is)
    (case a15 => k_is)
    (case l15 => k_is)
    (case c15 => k_is)
    (case k15 => k_is)
    (case a16 => k_is)
    (case l16 => k_is)
    (case c16 => k_is)
    (case k16 => k_is)
    (case a17 => k_is)
    (case i17 => k_is)
    (case l17 => k_is)
    (case c17 => k_is)
    (case k17 => k_is)
    (case a18 => k_is)
    (case i18 => k_is)
    (case l18 => k_is)
    (case c18 => k_is)
    (case k18 => k_is)
    (case a19 => k_is)
    (case i19 => k_is)
    (case l19 => k_is)
    (case c19 => k_is)
    (case k19 => k_is)
    (case a20 => k_is)
    (case l20 => k_is)
    (case c20 => k_is)
    (case k20 => k_is)
    (case a21 => k_is)
    (case l21 => k_is)
    (case c21 => k_is)
    (case k21 => k_is)
    (case pgChip => k_is)
    (case hdChip => k_is)
    (case poChip => k_is)
    (case saChip => k_is)
    (case mkChip => k_is)
    (case kcChip => k_is)
    (case xXBadSize => k_exc)
    (case kXBadSize => k_is)
    (case bXBadSize => k_is)
    (case tXBadSize => k_is)
    (case xXNoPage => k_exc)
    (case kXNoPage => k_is)
    (case bXNoPage => k_is)
    (case tXNoPage => k_is)
    (case xXNotErased => k_exc)
    (case kXNotErased => k_is)
    (case bXNotErased => k_is)
    (case tXNotErased => k_is)
    (case xXNoSector => k_exc)
    (case kXNoSector => k_is)
    (case bXNoSector => k_is)
    (case tXNoSector => k_is)
    (case xXBadContent => k_exc)
    (case kXBadContent => k_is)
    (case bXBadContent => k_is)
    (case tXBadContent => k_is)
    (case xXCut => k_exc)
    (case kXCut => k_is)
    (case bXCut => k_is)
    (case tXCut => k_is)
    (case nChip_rows => k_is)
    (case nChip_wears => k_is)
    (case nChip_many => k_is)
    (case nChip_left => k_is)
    (case nChip_is_cut => k_is)
    (case gLEAST_BLOCKS => k_is)
    (case gMOST_BLOCKS => k_is)
    (case gLEAST_PAGES => k_is)
    (case gMOST_PAGES => k_is)
    (case gTORN => k_is)
    (case zrange => k_is)
    (case zlen => k_is)
    (case zmax => k_is)
    (case zmin => k_is)
    (case zsum => k_is)
    (case zany => k_is)
    (case zall => k_is)
    (case zenumerate => k_is)
    (case zint => k_is)
    (case zstr => k_is)
    (case zlist => k_is)
    (case zdict => k_is)
    (case zisinstance => k_is)
    (case aXWear => k_is)
    (case zValueError => k_is)
    (case bXWear => k_is)
    (case icWear => k_is)
    (case tXWear => k_is)
    (case ihn => k_is)
    (case iht => k_is)
    (case wBadSize_BadSize => kit_is)
    (case wBadSize_NoPage => kit_is)
    (case wBadSize_NotErased => kit_is)
    (case wBadSize_NoSector => kit_is)
    (case wBadSize_BadContent => kit_is)
    (case wBadSize_Cut => kit_is)
    (case vBadSize => kit_is)
    (case ehgBadSize => k_is)
    (case ehkBadSize => k_is)
    (case ehdBadSize => k_is)
    (case ehaBadSize => k_is)
    (case ehmBadSize => k_is)
    (case swBadSize => k_is)
    (case wNoPage_BadSize => kit_is)
    (case wNoPage_NoPage => kit_is)
    (case wNoPage_NotErased => kit_is)
    (case wNoPage_NoSector => kit_is)
    (case wNoPage_BadContent => kit_is)
    (case wNoPage_Cut => kit_is)
    (case vNoPage => kit_is)
    (case ehgNoPage => k_is)
    (case ehkNoPage => k_is)
    (case ehdNoPage => k_is)
    (case ehaNoPage => k_is)
    (case ehmNoPage => k_is)
    (case swNoPage => k_is)
    (case wNotErased_BadSize => kit_is)
    (case wNotErased_NoPage => kit_is)
    (case wNotErased_NotErased => kit_is)
    (case wNotErased_NoSector => kit_is)
    (case wNotErased_BadContent => kit_is)
    (case wNotErased_Cut => kit_is)
    (case vNotErased => kit_is)
    (case ehgNotErased => k_is)
    (case ehkNotErased => k_is)
    (case ehdNotErased => k_is)
    (case ehaNotErased => k_is)
    (case ehmNotErased => k_is)
    (case swNotErased => k_is)
    (case wCut_BadSize => kit_is)
    (case wCut_NoPage => kit_is)
    (case wCut_NotErased => kit_is)
    (case wCut_NoSector => kit_is)
    (case wCut_BadContent => kit_is)
    (case wCut_Cut => kit_is)
    (case vCut => kit_is)
    (case ehgCut => k_is)
    (case ehkCut => k_is)
    (case ehdCut => k_is)
    (case ehaCut => k_is)
    (case ehmCut => k_is)
    (case swCut => k_is)
#print axioms PySem.Challenge.cw_evenwear_k10_chip_holds
