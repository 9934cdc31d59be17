import PyProof.Rows.All
import Wide.All
import OpenK.AllK
import Wide.FinOn
import HandS.ForMost
import HandS.Evl
import HandS.Walk
import HandS.IsInst
import HandS.SortInts
import HandS.EndBits
import HandS.Style
import HandS.Strs
import HandS.SetFor
import HandS.WordsList
import HandS.Text
import HandS.Conv
import HandS.Exc
import HandS.ExcOwn
import HandS.ExcIs
import HandS.WordsExc
import HandS.ExcCtx
import HandS.HotCalls
import HandS.Lambda
import HandS.EndTab
import HandS.TupMul
import PySem.Challenge.RW_lessonhours_k07_whole_known
set_option Elab.async false
set_option linter.all false
set_option maxRecDepth 100000
set_option maxHeartbeats 4000000

namespace Lh
open PySem PySem.Spec PyProof.Rows L2 Evl

instance instInhabitedV : Inhabited V := ⟨.non⟩
/-! ### operators -/
theorem op_mulX {X : Cx} : OpR X (binaryOp .Mult) (rI IntMulOk fun i j => .int (i * j)) := opI fun _ _ _ _ _ _ _ hc q => mul_int q hc

/-! ### a def of the text, and what may be called -/
/-- how positional arguments bind -/
def Bnd (fd : FuncData) (ps : List Str) : Prop := ∀ us : List Value, us.length = ps.length → bindArgs fd ⟨us, []⟩ = pure (ps.zip us)
structure Def (K : PySem.W.Frag) (mg : Str → Option Value) (x : Str) (st : Stmt) (ps : List Str) : Prop where
  ex : ∃ (f : Addr) (fd : FuncData), mg x = some (.ref f) ∧ Fun K x x st f fd ∧ Bnd fd ps
structure Cal (P : Program) (w : World) (K : PySem.W.Frag) (mg : Str → Option Value) (base : Heap) (k : Nat) (x : Str) (ps : List Str) (sp : Sp) : Prop where
  ex : ∃ (f : Addr) (fd : FuncData), mg x = some (.ref f) ∧ PySem.W.keepIn K (.ref f) = true ∧ Bnd fd ps ∧ (∃ oc od sl, K.lookup f = some ⟨oc, od, .func fd, sl⟩) ∧ FnOk P w K mg base CX0 k f fd ps sp
section
variable {P : Program} {w : World} {K : PySem.W.Frag} {mg : Str → Option Value} {base : Heap}
theorem Def.cal {x : Str} {st : Stmt} {N ps : List Str} {k : Nat} {sp : Sp} (D : Def K mg x st ps) (S : FnScope N ps (defScope st)) (len : ∀ vs H Q E, sp vs H Q E → vs.length = ps.length)
    (hbody : ∀ (f : Addr) (cdv : Value) (A : Around) (outer : List Env) (s : Shared) (H : Hp) (vs : List V) (Q : VK) (E : XK), Room k (A.deeper (envOfC x (defScope st) s.heap.objs.size f cdv)) → sp vs H Q E →
      ∃ t, PSs (cxOf CX0 P w K mg base N x (defScope st) f cdv A outer s H E).nox (defBody st) t ∧ t { nx := fun _ H' => Q .non H', rt := Q } (start N vs) H) : Cal P w K mg base (k + 1) x ps sp := by
  obtain ⟨f, fd, hm, F, hb⟩ := D.ex
  obtain ⟨oc, od, _, _, _, _, _, _, osl, _, lk, _⟩ := F.ex
  exact ⟨f, fd, hm, F.kp, hb, ⟨oc, od, osl, lk⟩, F.ok S len (hbody f)⟩
theorem Cal.mono {j k : Nat} {x : Str} {ps : List Str} {sp : Sp} (C : Cal P w K mg base j x ps sp) (h : j ≤ k) : Cal P w K mg base k x ps sp := by
  obtain ⟨f, fd, hm, hk, hb, lk, F⟩ := C.ex
  exact ⟨f, fd, hm, hk, hb, lk, F.mono h⟩
end
theorem pe_cal {X : Cx} {k j : Nat} {x : Str} {ps : List Str} {sp : Sp} {p pos : Pos} {e : Expr} {es : List Expr} {t : TA} (C : Cal X.prog X.w X.K X.mg X.base k x ps sp) (hr : Room j X.A) (hg : Gl X x) (ha : PA X (e :: es) t)
    (hjk : k ≤ j := by decide) (hdb : (x == ("__debug__" : Str)) = false := by decide) (he : starEach (e :: es) X.env = (false, eval e X.env) :: starEach es X.env := by rfl) (hpl : (backTo pos (starEach es X.env)).any (·.1) = false := by rfl) :
    PE X (.Call (.Name x p) (e :: es) [] pos) (tCall sp [] E0 t) := by
  obtain ⟨f, fd, hm, hk, hb, _, F⟩ := C.ex
  exact pe_call F (hr.mono hjk) hg hm hk (Binds.all hb) .nil pass0 ha hdb he hpl

/-! ### what evaluates to what: any end -/
def EvP (te : TE) (σ : L2.St) (H : Hp) (P : Hp → V → Hp → Prop) : Prop := ∀ H1, Ex H H1 → ∀ Q : VK, (∀ v H2, Ex H1 H2 → P H1 v H2 → Q v H2) → te σ H1 Q
def EvAP (ta : TA) (σ : L2.St) (H : Hp) (P : Hp → List V → Hp → Prop) : Prop := ∀ H1, Ex H H1 → ∀ Q : List V → Hp → Prop, (∀ vs H2, Ex H1 H2 → P H1 vs H2 → Q vs H2) → ta σ H1 Q
/-- what a promise hands back -/
def Ret (P : Hp → V → Hp → Prop) (H : Hp) (Q : VK) : Prop := ∀ v H2, Ex H H2 → P H v H2 → Q v H2
abbrev IsV (v : V) : Hp → V → Hp → Prop := fun _ u _ => u = v
abbrev IsI : Hp → V → Hp → Prop := fun _ u _ => ∃ n : Int, u = .int n
abbrev NewL (xs : List V) : Hp → V → Hp → Prop := fun H1 u H2 => ∃ p, u = .ref p ∧ H1 p = none ∧ H2 p = some (.lst xs)
abbrev NewU (xs : List V) : Hp → V → Hp → Prop := fun H1 u H2 => ∃ p, u = .ref p ∧ H1 p = none ∧ H2 p = some (.tup xs)
section
variable {K : PySem.W.Frag} {σ : L2.St} {H H' : Hp} {ta tb te tx : TE} {t u : TT} {x y z v : V} {r : R2} {P P' : Hp → V → Hp → Prop} {D : Ends} {tu tw tz : TS}
theorem EvP.mono (e : Ex H H') (h : EvP te σ H P) : EvP te σ H' P := fun H1 a Q q => h H1 (e.trans a) Q q
theorem EvP.imp (h : EvP te σ H P) (i : ∀ H1 v H2, Ex H H1 → Ex H1 H2 → P H1 v H2 → P' H1 v H2) : EvP te σ H P' := fun H1 a Q q => h H1 a Q fun v H2 e p => q v H2 e (i H1 v H2 a e p)
theorem evp_of (h : Ev te σ H v) : EvP te σ H (IsV v) := fun H1 a Q q => h H1 a Q fun H2 e => q v H2 e rfl
theorem evp_l {xs : List V} (h : EvL te σ H xs) : EvP te σ H (NewL xs) := fun H1 a Q q => h H1 a Q fun p H2 n e h2 => q _ H2 e ⟨p, rfl, n, h2⟩
theorem evp_u {xs : List V} (h : EvU te σ H xs) : EvP te σ H (NewU xs) := fun H1 a Q q => h H1 a Q fun p H2 n e h2 => q _ H2 e ⟨p, rfl, n, h2⟩
theorem ev_ofp (h : EvP te σ H (IsV v)) : Ev te σ H v := fun H1 a Q q => h H1 a Q fun u H2 e p => by
  subst p
  exact q H2 e
theorem el_ofp {xs : List V} (h : EvP te σ H (NewL xs)) : EvL te σ H xs := fun H1 a Q q => h H1 a Q fun u H2 e ⟨p, hu, n, h2⟩ => by
  subst hu
  exact q p H2 n e h2
theorem eu_ofp {xs : List V} (h : EvP te σ H (NewU xs)) : EvU te σ H xs := fun H1 a Q q => h H1 a Q fun u H2 e ⟨p, hu, n, h2⟩ => by
  subst hu
  exact q p H2 n e h2
/-- then, in the continuation's way -/
theorem EvP.go (h : EvP te σ H P) {Q : VK} (q : ∀ v H2, Ex H H2 → P H v H2 → Q v H2) : te σ H Q := h H (Ex.refl H) Q q
theorem evg {v : V} (h : Ev te σ H v) {Q : VK} (q : ∀ H2, Ex H H2 → Q v H2) : te σ H Q := h H (Ex.refl H) Q q
theorem evtg {b : Bool} (h : EvT t σ H b) {Q : Bool → Hp → Prop} (q : ∀ H2, Ex H H2 → Q b H2) : t σ H Q := h H (Ex.refl H) Q q

/-! arguments, one by one, in the continuation's way -/
theorem cV {tr : TA} {Q : List V → Hp → Prop} (h : Ev te σ H v) (k : ∀ H1, Ex H H1 → tr σ H1 fun vs H2 => Q (v :: vs) H2) : tCons te tr σ H Q := h H (Ex.refl H) _ k
theorem cL {tr : TA} {Q : List V → Hp → Prop} {xs : List V} (h : EvL te σ H xs) (k : ∀ p H1, H p = none → Ex H H1 → H1 p = some (.lst xs) → tr σ H1 fun vs H2 => Q (.ref p :: vs) H2) : tCons te tr σ H Q := h H (Ex.refl H) _ k
theorem cU {tr : TA} {Q : List V → Hp → Prop} {xs : List V} (h : EvU te σ H xs) (k : ∀ p H1, H p = none → Ex H H1 → H1 p = some (.tup xs) → tr σ H1 fun vs H2 => Q (.ref p :: vs) H2) : tCons te tr σ H Q := h H (Ex.refl H) _ k
theorem cP {tr : TA} {Q : List V → Hp → Prop} (h : EvP te σ H P) (k : ∀ v H1, Ex H H1 → P H v H1 → tr σ H1 fun vs H2 => Q (v :: vs) H2) : tCons te tr σ H Q := h H (Ex.refl H) _ k
theorem r_tup {ta : TA} (h : ta σ H fun xs H1 => xs.length ≤ sizeLine ∧ ∀ p, H1 p = none → D.rt (.ref p) (upd H1 p (.tup xs))) : tRet (tTup ta) D σ H := h
theorem q_tup {ta : TA} {i : Nat} (h : ta σ H fun xs H1 => xs.length ≤ sizeLine ∧ ∀ p, H1 p = none → tz D (σ.set i (some (.ref p))) (upd H1 p (.tup xs))) : tSeq (tAsg (tTup ta) (gName i)) tz D σ H := h
theorem e_tup {ta : TA} {Q : VK} (h : ta σ H fun xs H1 => xs.length ≤ sizeLine ∧ ∀ p, H1 p = none → Q (.ref p) (upd H1 p (.tup xs))) : tTup ta σ H Q := h
theorem e_lst {ta : TA} {Q : VK} (h : ta σ H fun xs H1 => xs.length ≤ sizeLine ∧ ∀ p, H1 p = none → Q (.ref p) (upd H1 p (.lst xs))) : tLst ta σ H Q := h
theorem e_call {sp : Sp} {E : XK} {ta : TA} {Q : VK} (h : ta σ H fun vs H1 => sp (vs ++ []) H1 Q E) : tCall sp [] E ta σ H Q := h
theorem cN {Q : List V → Hp → Prop} (k : Q [] H) : tNil σ H Q := k
/-! statements -/
theorem sp_asg {i : Nat} (h : EvP te σ H P) (k : ∀ v H1, Ex H H1 → P H v H1 → D.nx (σ.set i (some v)) H1) : tAsg te (gName i) D σ H := h H (Ex.refl H) _ k
theorem qp_asg {i : Nat} (h : EvP te σ H P) (k : ∀ v H1, Ex H H1 → P H v H1 → tz D (σ.set i (some v)) H1) : tSeq (tAsg te (gName i)) tz D σ H := h H (Ex.refl H) _ k
theorem sp_ret (h : EvP te σ H P) (k : ∀ v H1, Ex H H1 → P H v H1 → D.rt v H1) : tRet te D σ H := h H (Ex.refl H) _ k
theorem qp_drop (h : EvP te σ H P) (k : ∀ v H1, Ex H H1 → P H v H1 → tz D σ H1) : tSeq (tDrop te) tz D σ H := h H (Ex.refl H) _ k

/-! calls -/
end
def Down (P : Hp → V → Hp → Prop) : Prop := ∀ H1 H2 v H3, Ex H1 H2 → P H2 v H3 → P H1 v H3
theorem down_v {v : V} : Down (IsV v) := fun _ _ _ _ _ h => h
theorem down_i : Down IsI := fun _ _ _ _ _ h => h
theorem down_c {R : V → Hp → Prop} : Down (fun _ v H2 => R v H2) := fun _ _ _ _ _ h => h
theorem down_l {xs : List V} : Down (NewL xs) := fun _ _ _ _ e ⟨p, a, n, h⟩ => ⟨p, a, fresh_back e n, h⟩
theorem down_u {xs : List V} : Down (NewU xs) := fun _ _ _ _ e ⟨p, a, n, h⟩ => ⟨p, a, fresh_back e n, h⟩
section
variable {K : PySem.W.Frag} {σ : L2.St} {H H' : Hp} {ta tb te tx : TE} {t u : TT} {x y z v : V} {r : R2} {P P' : Hp → V → Hp → Prop} {D : Ends} {tu tw tz : TS}
theorem evp_call {sp : Sp} {vs : List V} {E : XK} {ta : TA} (h : EvA ta σ H vs) (hd : Down P) (hs : ∀ H1, Ex H H1 → ∀ Q : VK, Ret P H1 Q → sp (vs ++ []) H1 Q E) : EvP (tCall sp [] E ta) σ H P := fun H1 e Q q =>
  h H1 e _ fun H2 e2 => hs H2 (e.trans e2) Q fun v H3 e3 p => q v H3 (e2.trans e3) (hd _ _ _ _ e2 p)
/-- a call of a value back -/
theorem ev_callV {sp : Sp} {vs : List V} {E : XK} {ta : TA} (h : EvA ta σ H vs) (hs : ∀ H1, Ex H H1 → ∀ Q : VK, Ret (IsV v) H1 Q → sp (vs ++ []) H1 Q E) : Ev (tCall sp [] E ta) σ H v := ev_ofp (evp_call h down_v hs)
/-- a built-in upon one new list -/
theorem ev_cbL {r : List V → Hp → VK → Prop} {xs : List V} (ha : EvL te σ H xs) (hr : ∀ p H1, Ex H H1 → H1 p = some (.lst xs) → ∀ Q : VK, (∀ H2, Ex H1 H2 → Q z H2) → r [.ref p] H1 Q) : Ev (tCB r (tCons te tNil)) σ H z := fun H1 e Q q =>
  ha H1 e _ fun p H2 _ e2 h2 => hr p H2 (e.trans e2) h2 Q fun H3 e3 => q H3 (e2.trans e3)
theorem ev_sumL {ns : List Int} (ha : EvL te σ H (ns.map V.int)) : Ev (tCB (rSum K) (tCons te tNil)) σ H (.int ns.sum) := ev_cbL ha fun p H1 _ h Q q => ⟨p, ns, rfl, sq_of h, q H1 (Ex.refl _)⟩
theorem ev_sum {a : Addr} {ns : List Int} (ha : Ev te σ H (.ref a)) (hs : SqL K H a (ns.map V.int)) : Ev (tCB (rSum K) (tCons te tNil)) σ H (.int ns.sum) := fun H1 e Q q =>
  ha H1 e _ fun H2 e2 => ⟨a, ns, rfl, ex_l (e.trans e2) hs, q H2 e2⟩
theorem ev_allL {bs : List Bool} (ha : EvL te σ H (bs.map V.bl)) : Ev (tCB (rAll K) (tCons te tNil)) σ H (.bl (bs.all id)) := ev_cbL ha fun p H1 _ h Q q => ⟨p, bs, rfl, sq_of h, q H1 (Ex.refl _)⟩
theorem ev_anyL {bs : List Bool} (ha : EvL te σ H (bs.map V.bl)) : Ev (tCB (rAny K) (tCons te tNil)) σ H (.bl (bs.any id)) := ev_cbL ha fun p H1 _ h Q q => ⟨p, bs, rfl, sq_of h, q H1 (Ex.refl _)⟩
/-- the greatest, the least of a list of ints -/
def maxI : List Int → Int
  | [] => 0
  | x :: r => r.foldl max x
def minI : List Int → Int
  | [] => 0
  | x :: r => r.foldl min x
theorem foldl_max : ∀ (r : List Int) (x : Int), x ≤ r.foldl max x ∧ (∀ y ∈ r, y ≤ r.foldl max x) ∧ (r.foldl max x = x ∨ r.foldl max x ∈ r)
  | [], x => ⟨Int.le_refl _, by simp, .inl rfl⟩
  | a :: r, x => by
    obtain ⟨h1, h2, h3⟩ := foldl_max r (max x a)
    rw [List.foldl_cons]
    refine ⟨by omega, fun y hy => ?_, ?_⟩
    · rcases List.mem_cons.mp hy with rfl | hy
      · omega
      · exact h2 y hy
    · rcases h3 with h3 | h3
      · rw [h3]
        by_cases h : x ≤ a
        · rw [Int.max_eq_right h]; exact .inr (by simp)
        · rw [Int.max_eq_left (by omega)]; exact .inl rfl
      · exact .inr (List.mem_cons_of_mem _ h3)
theorem foldl_min : ∀ (r : List Int) (x : Int), r.foldl min x ≤ x ∧ (∀ y ∈ r, r.foldl min x ≤ y) ∧ (r.foldl min x = x ∨ r.foldl min x ∈ r)
  | [], x => ⟨Int.le_refl _, by simp, .inl rfl⟩
  | a :: r, x => by
    obtain ⟨h1, h2, h3⟩ := foldl_min r (min x a)
    rw [List.foldl_cons]
    refine ⟨by omega, fun y hy => ?_, ?_⟩
    · rcases List.mem_cons.mp hy with rfl | hy
      · omega
      · exact h2 y hy
    · rcases h3 with h3 | h3
      · rw [h3]
        by_cases h : x ≤ a
        · rw [Int.min_eq_left h]; exact .inl rfl
        · rw [Int.min_eq_right (by omega)]; exact .inr (by simp)
      · exact .inr (List.mem_cons_of_mem _ h3)
theorem maxI_le {ns : List Int} {y : Int} (h : y ∈ ns) : y ≤ maxI ns := by
  cases ns with
  | nil => cases h
  | cons x r =>
    obtain ⟨h1, h2, _⟩ := foldl_max r x
    rcases List.mem_cons.mp h with rfl | h
    · exact h1
    · exact h2 y h
theorem maxI_mem {ns : List Int} (h : ns ≠ []) : maxI ns ∈ ns := by
  cases ns with
  | nil => exact absurd rfl h
  | cons x r =>
    obtain ⟨_, _, h3⟩ := foldl_max r x
    show r.foldl max x ∈ x :: r
    rcases h3 with h3 | h3
    · rw [h3]; simp
    · exact List.mem_cons_of_mem _ h3
theorem maxI_is {ns : List Int} {m : Int} (h : m ∈ ns) (hl : ∀ y ∈ ns, y ≤ m) : m = maxI ns := by
  have h1 := maxI_le h
  have h2 := hl _ (maxI_mem (fun e => by rw [e] at h; cases h))
  omega
theorem minI_le {ns : List Int} {y : Int} (h : y ∈ ns) : minI ns ≤ y := by
  cases ns with
  | nil => cases h
  | cons x r =>
    obtain ⟨h1, h2, _⟩ := foldl_min r x
    rcases List.mem_cons.mp h with rfl | h
    · exact h1
    · exact h2 y h
theorem minI_mem {ns : List Int} (h : ns ≠ []) : minI ns ∈ ns := by
  cases ns with
  | nil => exact absurd rfl h
  | cons x r =>
    obtain ⟨_, _, h3⟩ := foldl_min r x
    show r.foldl min x ∈ x :: r
    rcases h3 with h3 | h3
    · rw [h3]; simp
    · exact List.mem_cons_of_mem _ h3
theorem minI_is {ns : List Int} {m : Int} (h : m ∈ ns) (hl : ∀ y ∈ ns, m ≤ y) : m = minI ns := by
  have h1 := minI_le h
  have h2 := hl _ (minI_mem (fun e => by rw [e] at h; cases h))
  omega
theorem ev_maxL {ns : List Int} (ha : EvL te σ H (ns.map V.int)) (hn : ns ≠ []) : Ev (tCB (rMax K) (tCons te tNil)) σ H (.int (maxI ns)) := ev_cbL ha fun p H1 _ h Q q =>
  ⟨p, ns, rfl, sq_of h, List.length_pos_iff.mpr hn, fun m h1 h2 => by rw [maxI_is h1 h2]; exact q H1 (Ex.refl _)⟩
theorem ev_minL {ns : List Int} (ha : EvL te σ H (ns.map V.int)) (hn : ns ≠ []) : Ev (tCB (rMin K) (tCons te tNil)) σ H (.int (minI ns)) := ev_cbL ha fun p H1 _ h Q q =>
  ⟨p, ns, rfl, sq_of h, List.length_pos_iff.mpr hn, fun m h1 h2 => by rw [minI_is h1 h2]; exact q H1 (Ex.refl _)⟩
theorem ev_max {a : Addr} {ns : List Int} (ha : Ev te σ H (.ref a)) (hs : SqL K H a (ns.map V.int)) (hn : ns ≠ []) : Ev (tCB (rMax K) (tCons te tNil)) σ H (.int (maxI ns)) := fun H1 e Q q =>
  ha H1 e _ fun H2 e2 => ⟨a, ns, rfl, ex_l (e.trans e2) hs, List.length_pos_iff.mpr hn, fun m h1 h2 => by rw [maxI_is h1 h2]; exact q H2 e2⟩
theorem ev_min {a : Addr} {ns : List Int} (ha : Ev te σ H (.ref a)) (hs : SqL K H a (ns.map V.int)) (hn : ns ≠ []) : Ev (tCB (rMin K) (tCons te tNil)) σ H (.int (minI ns)) := fun H1 e Q q =>
  ha H1 e _ fun H2 e2 => ⟨a, ns, rfl, ex_l (e.trans e2) hs, List.length_pos_iff.mpr hn, fun m h1 h2 => by rw [minI_is h1 h2]; exact q H2 e2⟩
theorem ev_min2 {i j : Int} (ha : Ev ta σ H (.int i)) (hb : Ev tb σ H (.int j)) : Ev (tCB (fun xs H Q => ∃ i j, xs = [V.int i, .int j] ∧ Q (.int (if j < i then j else i)) H) (tCons ta (tCons tb tNil))) σ H (.int (min i j)) := fun H1 e Q q =>
  ha H1 e _ fun H2 e2 => hb H2 (e.trans e2) _ fun H3 e3 => ⟨i, j, rfl, by
    have h := q H3 (e2.trans e3)
    have e : min i j = if j < i then j else i := by split <;> omega
    rw [e] at h
    exact h⟩
theorem ev_mx2 {i j : Int} (ha : Ev ta σ H (.int i)) (hb : Ev tb σ H (.int j)) : Ev (tCB (fun xs H Q => ∃ i j, xs = [V.int i, .int j] ∧ Q (.int (if j > i then j else i)) H) (tCons ta (tCons tb tNil))) σ H (.int (max i j)) := fun H1 e Q q =>
  ha H1 e _ fun H2 e2 => hb H2 (e.trans e2) _ fun H3 e3 => ⟨i, j, rfl, by
    have h := q H3 (e2.trans e3)
    have e : max i j = if j > i then j else i := by split <;> omega
    rw [e] at h
    exact h⟩
/-- isinstance of a value whose type is built in -/
theorem ev_isi {a b : String} {k : Bool} (ha : Ev ta σ H x) (ty : ∀ H1, Ex H H1 → TyX K H1 x (.type a)) (hk : kitB a b = some k) : Ev (tCB (rIsi K) (tCons ta (tCons (tC (.ty b)) tNil))) σ H (.bl k) := fun H1 e Q q =>
  ha H1 e _ fun H2 e2 => ⟨x, .ty b, .type a, .type b, k, rfl, ClsV.ty b, ty H2 (e.trans e2), kit_ty hk, q H2 e2⟩
theorem tx_int {i : Int} : TyX K H (.int i) (.type "int") := .base (.int i)
theorem tx_lst {a : Addr} {xs : List V} (h : H a = some (.lst xs)) : TyX K H (.ref a) (.type "list") := .base (.lst h)
theorem tx_tup {a : Addr} {xs : List V} (h : H a = some (.tup xs)) : TyX K H (.ref a) (.type "tuple") := .base (.tup h)
theorem isi_list {a : Addr} {xs : List V} (ha : Ev ta σ H (.ref a)) (h : H a = some (.lst xs)) : Ev (tCB (rIsi K) (tCons ta (tCons (tC (.ty "list")) tNil))) σ H (.bl true) := ev_isi ha (fun H1 e => tx_lst (e _ _ h)) (by decide +kernel)
theorem isi_tup {a : Addr} {xs : List V} (ha : Ev ta σ H (.ref a)) (h : H a = some (.tup xs)) : Ev (tCB (rIsi K) (tCons ta (tCons (tC (.ty "tuple")) tNil))) σ H (.bl true) := ev_isi ha (fun H1 e => tx_tup (e _ _ h)) (by decide +kernel)
theorem isi_int {i : Int} (ha : Ev ta σ H (.int i)) : Ev (tCB (rIsi K) (tCons ta (tCons (tC (.ty "int")) tNil))) σ H (.bl true) := ev_isi ha (fun H1 e => tx_int) (by decide +kernel)
theorem isi_intb {i : Int} (ha : Ev ta σ H (.int i)) : Ev (tCB (rIsi K) (tCons ta (tCons (tC (.ty "bool")) tNil))) σ H (.bl false) := ev_isi ha (fun H1 e => tx_int) (by decide +kernel)
/-- a + b, a - b, .. of ints, in plain words -/
theorem ev_add {i j : Int} (ha : Ev ta σ H (.int i)) (hb : Ev tb σ H (.int j)) : Ev (tOp (rI0 fun i j => .int (i + j)) ta tb) σ H (.int (i + j)) := ev_op ha hb (rv_I0 (g := fun i j => .int (i + j)))
theorem ev_sub {i j : Int} (ha : Ev ta σ H (.int i)) (hb : Ev tb σ H (.int j)) : Ev (tOp (rI0 fun i j => .int (i - j)) ta tb) σ H (.int (i - j)) := ev_op ha hb (rv_I0 (g := fun i j => .int (i - j)))
theorem ev_mul {i j : Int} (ha : Ev ta σ H (.int i)) (hb : Ev tb σ H (.int j)) (hc : IntMulOk i j) : Ev (tOp (rI IntMulOk fun i j => .int (i * j)) ta tb) σ H (.int (i * j)) := ev_op ha hb (rv_I (g := fun i j => .int (i * j)) hc)
theorem ev_div {i j : Int} (ha : Ev ta σ H (.int i)) (hb : Ev tb σ H (.int j)) (h0 : 0 < j) (h1 : j < 1073741824) : Ev (tOp (rI CDiv fun i j => .int (i / j)) ta tb) σ H (.int (i / j)) := ev_op ha hb (rv_I (C := CDiv) (g := fun i j => .int (i / j)) ⟨h0, h1⟩)
theorem ev_mod {i j : Int} (ha : Ev ta σ H (.int i)) (hb : Ev tb σ H (.int j)) (h0 : 0 < j) : Ev (tOp (rI (fun _ j => 0 < j) fun i j => .int (i % j)) ta tb) σ H (.int (i % j)) := ev_op ha hb (rv_I (C := fun _ j => 0 < j) (g := fun i j => .int (i % j)) h0)
theorem ev_pow {i j : Int} (ha : Ev ta σ H (.int i)) (hb : Ev tb σ H (.int j)) (hc : CPow i j) : Ev (tOp (rI CPow fun i j => .int (i ^ j.toNat)) ta tb) σ H (.int (i ^ j.toNat)) := ev_op ha hb (rv_I (C := CPow) (g := fun i j => .int (i ^ j.toNat)) hc)
theorem ev_lt {i j : Int} (ha : Ev ta σ H (.int i)) (hb : Ev tb σ H (.int j)) : Ev (tOp (rI0 fun i j => .bl (decide (i < j))) ta tb) σ H (.bl (decide (i < j))) := ev_op ha hb (rv_I0 (g := fun i j => .bl (decide (i < j))))
theorem ev_le {i j : Int} (ha : Ev ta σ H (.int i)) (hb : Ev tb σ H (.int j)) : Ev (tOp (rI0 fun i j => .bl (decide (i ≤ j))) ta tb) σ H (.bl (decide (i ≤ j))) := ev_op ha hb (rv_I0 (g := fun i j => .bl (decide (i ≤ j))))
theorem ev_gt {i j : Int} (ha : Ev ta σ H (.int i)) (hb : Ev tb σ H (.int j)) : Ev (tOp (rI0 fun i j => .bl (decide (j < i))) ta tb) σ H (.bl (decide (j < i))) := ev_op ha hb (rv_I0 (g := fun i j => .bl (decide (j < i))))
theorem ev_ge {i j : Int} (ha : Ev ta σ H (.int i)) (hb : Ev tb σ H (.int j)) : Ev (tOp (rI0 fun i j => .bl (decide (j ≤ i))) ta tb) σ H (.bl (decide (j ≤ i))) := ev_op ha hb (rv_I0 (g := fun i j => .bl (decide (j ≤ i))))
theorem ev_eqI {i j : Int} (ha : Ev ta σ H (.int i)) (hb : Ev tb σ H (.int j)) : Ev (tOp rEq ta tb) σ H (.bl (decide (i = j))) := ev_is (ev_op ha hb (rv_eq rfl)) (by congr 1; simp)
theorem ev_neI {i j : Int} (ha : Ev ta σ H (.int i)) (hb : Ev tb σ H (.int j)) : Ev (tOp rNe ta tb) σ H (.bl (!decide (i = j))) := ev_is (ev_op ha hb (rv_ne rfl)) (by congr 2; simp)
/-- a chain of two comparisons -/
theorem ev_chain {r r' : R2} {tc : TE} {z : V} {k k' : Bool} (ha : Ev ta σ H x) (hb : Ev tb σ H y) (h1 : RV r x y H (.bl k)) (hc : k = true → Ev tc σ H z) (h2 : k = true → RV r' y z H (.bl k')) : Ev (tChain r r' ta tb tc) σ H (.bl (k && k')) := fun H1 e Q q =>
  ha H1 e _ fun H2 e2 => hb H2 (e.trans e2) _ fun H3 e3 => h1 H3 ((e.trans e2).trans e3) _ fun H4 e4 => ⟨k, rfl, by
    cases k with
    | true =>
      show tc σ H4 fun w' H5 => r' y w' H5 Q
      exact hc rfl H4 (((e.trans e2).trans e3).trans e4) _ fun H5 e5 => h2 rfl H5 ((((e.trans e2).trans e3).trans e4).trans e5) _ fun H6 e6 => q H6 ((((e2.trans e3).trans e4).trans e5).trans e6)
    | false => exact q H4 ((e2.trans e3).trans e4)⟩
theorem rv_leD {i j : Int} {k : Bool} (h : decide (i ≤ j) = k) : RV (rI0 fun i j => .bl (decide (i ≤ j))) (.int i) (.int j) H (.bl k) := by
  subst h
  exact rv_I0 (g := fun i j => .bl (decide (i ≤ j)))
theorem rv_ltD {i j : Int} {k : Bool} (h : decide (i < j) = k) : RV (rI0 fun i j => .bl (decide (i < j))) (.int i) (.int j) H (.bl k) := by
  subst h
  exact rv_I0 (g := fun i j => .bl (decide (i < j)))
theorem et_lt {i j : Int} {k : Bool} (ha : Ev ta σ H (.int i)) (hb : Ev tb σ H (.int j)) (h : decide (i < j) = k) : EvT (tTest (tOp (rI0 fun i j => .bl (decide (i < j))) ta tb)) σ H k := et_test (ev_is (ev_lt ha hb) (by rw [h]))
theorem et_le {i j : Int} {k : Bool} (ha : Ev ta σ H (.int i)) (hb : Ev tb σ H (.int j)) (h : decide (i ≤ j) = k) : EvT (tTest (tOp (rI0 fun i j => .bl (decide (i ≤ j))) ta tb)) σ H k := et_test (ev_is (ev_le ha hb) (by rw [h]))
theorem et_gt {i j : Int} {k : Bool} (ha : Ev ta σ H (.int i)) (hb : Ev tb σ H (.int j)) (h : decide (j < i) = k) : EvT (tTest (tOp (rI0 fun i j => .bl (decide (j < i))) ta tb)) σ H k := et_test (ev_is (ev_gt ha hb) (by rw [h]))
theorem et_ge {i j : Int} {k : Bool} (ha : Ev ta σ H (.int i)) (hb : Ev tb σ H (.int j)) (h : decide (j ≤ i) = k) : EvT (tTest (tOp (rI0 fun i j => .bl (decide (j ≤ i))) ta tb)) σ H k := et_test (ev_is (ev_ge ha hb) (by rw [h]))
theorem et_eq {i j : Int} {k : Bool} (ha : Ev ta σ H (.int i)) (hb : Ev tb σ H (.int j)) (h : decide (i = j) = k) : EvT (tTest (tOp rEq ta tb)) σ H k := et_test (ev_is (ev_eqI ha hb) (by rw [h]))
theorem et_ne {i j : Int} {k : Bool} (ha : Ev ta σ H (.int i)) (hb : Ev tb σ H (.int j)) (h : (!decide (i = j)) = k) : EvT (tTest (tOp rNe ta tb)) σ H k := et_test (ev_is (ev_neI ha hb) (by rw [h]))
theorem ev_ixL {p : Addr} {xs : List V} {i : Int} (ha : Ev ta σ H (.ref p)) (hb : Ev tb σ H (.int i)) (h : SqL K H p xs) (hx : atI xs i = some v) : Ev (tOp (rIxL K) ta tb) σ H v := ev_op ha hb (rv_ixL h hx)
theorem ev_ixT {p : Addr} {xs : List V} {i : Int} (ha : Ev ta σ H (.ref p)) (hb : Ev tb σ H (.int i)) (h : SqT K H p xs) (hx : atI xs i = some v) : Ev (tOp (rIxT K) ta tb) σ H v := ev_op ha hb (rv_ixT h hx)
theorem atI_of {α : Type} {xs : List α} {i : Int} {j : Nat} {v : α} (e : i = (j : Int)) (h : xs[j]? = some v) : atI xs i = some v := by
  rw [e]
  exact atI_nat h
/-- == of data -/
theorem ev_eqD {d e : PyData} (ha : Ev ta σ H x) (hb : Ev tb σ H y) (hd : ∀ H1, Ex H H1 → Dp K H1 x d) (he : ∀ H1, Ex H H1 → Dp K H1 y e) (sd : SeqAt.shaped d = true) (se : SeqAt.shaped e = true) : Ev (tOp (rEqD K) ta tb) σ H (.bl (PyData.eqv d e)) :=
  ev_op ha hb (rv_val fun H1 e1 Q q => ⟨d, e, hd H1 e1, he H1 e1, sd, se, q⟩)
theorem ev_neD {d e : PyData} (ha : Ev ta σ H x) (hb : Ev tb σ H y) (hd : ∀ H1, Ex H H1 → Dp K H1 x d) (he : ∀ H1, Ex H H1 → Dp K H1 y e) (sd : SeqAt.shaped d = true) (se : SeqAt.shaped e = true) : Ev (tOp (rNeD K) ta tb) σ H (.bl (!PyData.eqv d e)) :=
  ev_op ha hb (rv_val fun H1 e1 Q q => ⟨d, e, hd H1 e1, he H1 e1, sd, se, q⟩)
/-- xs + ys, xs * k: a new list -/
theorem el_cat {a b : Addr} {xs ys : List V} (ha : Ev ta σ H (.ref a)) (hb : Ev tb σ H (.ref b)) (h1 : H a = some (.lst xs)) (h2 : H b = some (.lst ys)) (hl : xs.length + ys.length ≤ 100000) : EvL (tOp rCat ta tb) σ H (xs ++ ys) := fun H1 e Q q =>
  ha H1 e _ fun H2 e2 => hb H2 (e.trans e2) _ fun H3 e3 => ⟨a, b, xs, ys, rfl, rfl, ((e.trans e2).trans e3) _ _ h1, ((e.trans e2).trans e3) _ _ h2, sz_of hl, fun p hp => q p _ (fresh_back (e2.trans e3) hp) ((e2.trans e3).trans (Ex.new hp)) upd_same⟩
theorem el_catN {a : Addr} {xs ys : List V} (ha : Ev ta σ H (.ref a)) (hb : EvL tb σ H ys) (h1 : H a = some (.lst xs)) (hl : xs.length + ys.length ≤ 100000) : EvL (tOp rCat ta tb) σ H (xs ++ ys) := fun H1 e Q q =>
  ha H1 e _ fun H2 e2 => hb H2 (e.trans e2) _ fun b H3 _ e3 h2 => ⟨a, b, xs, ys, rfl, rfl, ((e.trans e2).trans e3) _ _ h1, h2, sz_of hl, fun p hp => q p _ (fresh_back (e2.trans e3) hp) ((e2.trans e3).trans (Ex.new hp)) upd_same⟩
theorem el_catNN {xs ys : List V} (ha : EvL ta σ H xs) (hb : EvL tb σ H ys) (hl : xs.length + ys.length ≤ 100000) : EvL (tOp rCat ta tb) σ H (xs ++ ys) := fun H1 e Q q =>
  ha H1 e _ fun a H2 _ e2 h1 => hb H2 (e.trans e2) _ fun b H3 _ e3 h2 => ⟨a, b, xs, ys, rfl, rfl, e3 _ _ h1, h2, sz_of hl, fun p hp => q p _ (fresh_back (e2.trans e3) hp) ((e2.trans e3).trans (Ex.new hp)) upd_same⟩
theorem flatten_rep {v : V} : ∀ k : Nat, (List.replicate k [v]).flatten = List.replicate k v
  | 0 => rfl
  | k + 1 => by rw [List.replicate_succ, List.flatten_cons, flatten_rep k, List.replicate_succ] <;> rfl
/-- [v] * k -/
theorem el_rep1 {v : V} {k : Int} (ha : EvL ta σ H [v]) (hb : Ev tb σ H (.int k)) (hk : -100000 ≤ k ∧ k ≤ 100000) : EvL (tOp rRep ta tb) σ H (List.replicate k.toNat v) := fun H1 e Q q =>
  ha H1 e _ fun a H2 _ e2 h1 => hb H2 (e.trans e2) _ fun H3 e3 => ⟨a, k, [v], rfl, rfl, e3 _ _ h1, by omega, by omega, by rw [List.length_singleton, Nat.one_mul]; exact sz_of (by omega), fun p hp => by
    rw [flatten_rep]
    exact q p _ (fresh_back (e2.trans e3) hp) ((e2.trans e3).trans (Ex.new hp)) upd_same⟩
/-- list(x) of a list -/
theorem el_of {a : Addr} {xs : List V} (ha : Ev ta σ H (.ref a)) (h : SqL K H a xs) : EvL (tCB (fun xs H Q => ∃ p ys, xs = [V.ref p] ∧ (SqL K H p ys ∨ SqT K H p ys) ∧ ∀ l, H l = none → Q (.ref l) (upd H l (.lst ys))) (tCons ta tNil)) σ H xs := el_list ha h
theorem ev_lenL {p : Addr} {xs : List V} (ha : Ev ta σ H (.ref p)) (h : SqL K H p xs) : Ev (tCB (fun xs H Q => ∃ p ys, xs = [V.ref p] ∧ (SqL K H p ys ∨ SqT K H p ys) ∧ Q (.int ys.length) H) (tCons ta tNil)) σ H (.int (xs.length : Int)) := ev_len ha h
end

/-! ### walks and comprehensions -/
/-- while the heap grows it takes n turns; at turn i the target's slots are sg i -/
structure Turns (J : It) (n : Nat) (g : TG) (σ0 : L2.St) (H1 : Hp) (sg : Nat → L2.St) : Prop where
  go : ∀ i H', Ex H1 H' → i < n → J.go i H'
  stop : ∀ H', Ex H1 H' → J.stop n H'
  turn : ∀ i x H' H'', i < n → Ex H1 H' → J.yld i H' x H'' → ∀ Q : L2.St → Hp → Prop, (∀ H2, Ex H' H2 → Q (sg i) H2) → g x σ0 H'' Q
section
variable {K : PySem.W.Frag} {σ σ0 : L2.St} {H1 : Hp} {a b : Addr} {xs ys : List V}
theorem turns_list {j : Nat} (hx : SqL K H1 a xs) : Turns (Itl K a) xs.length (gName j) σ0 H1 (fun i => σ0.set j xs[i]?) := by
  refine ⟨fun i H' e hi => ⟨xs, xs[i], ex_l e hx, by simp [hi]⟩, fun H' e => ⟨xs, ex_l e hx, Nat.le_refl _⟩, fun i x H' H'' hi e y Q q => ?_⟩
  obtain ⟨e1, y⟩ := y
  subst e1
  have h := y xs (ex_l e hx)
  have q2 := q _ (Ex.refl _)
  rw [h] at q2
  exact q2
theorem turns_range {lo : Int} {n j : Nat} : Turns (Itr lo n) n (gName j) σ0 H1 (fun i => σ0.set j (some (.int (lo + (i : Nat))))) := by
  refine ⟨fun i H' e hi => hi, fun H' e => Nat.le_refl _, fun i x H' H'' hi e y Q q => ?_⟩
  obtain ⟨e1, y⟩ := y
  subst e1 y
  exact q _ (Ex.refl _)
theorem gpair {x y : V} {i j : Nat} {T : Addr} {H' : Hp} {Q : L2.St → Hp → Prop} (hT : SqT K H' T [x, y]) (q : Q ((σ0.set i (some x)).set j (some y)) H') : gTup K 2 (gCons (gName i) (gCons (gName j) gNil)) (.ref T) σ0 H' Q :=
  ⟨T, [x, y], rfl, hT, rfl, x, [y], rfl, y, [], rfl, rfl, q⟩
theorem turns_enum {j k : Nat} (hx : SqL K H1 a xs) : Turns (Ite K a) xs.length (gTup K 2 (gCons (gName j) (gCons (gName k) gNil))) σ0 H1 (fun i => (σ0.set j (some (.int (i : Nat)))).set k xs[i]?) := by
  have w := walk_enum (K := K) (a := a) (xs := xs)
  refine ⟨fun i H' e hi => w.goes i H' hi (ex_l e hx), fun H' e => w.stops H' (ex_l e hx), fun i x H' H'' hi e y Q q => ?_⟩
  obtain ⟨T, u, z, rfl, hT, rfl, h1, h2⟩ := w.yields i H' x H'' hi (ex_l e hx) y
  have q2 := q _ (Ex.new (o := .tup [u, z]) hT)
  have h1 : some (V.int (i : Nat)) = some u := h1
  have h2 : xs[i]? = some z := h2
  rw [h1, h2] at q2
  exact gpair (st_of upd_same) q2
theorem turns_zip {n j k : Nat} (hn : n = min xs.length ys.length) (hx : SqL K H1 a xs) (hy : SqL K H1 b ys) : Turns (Itz K a b) n (gTup K 2 (gCons (gName j) (gCons (gName k) gNil))) σ0 H1 (fun i => (σ0.set j xs[i]?).set k ys[i]?) := by
  have w := walk_zip (K := K) (a := a) (b := b) (xs := xs) (ys := ys) hn
  refine ⟨fun i H' e hi => w.goes i H' hi ⟨ex_l e hx, ex_l e hy⟩, fun H' e => w.stops H' ⟨ex_l e hx, ex_l e hy⟩, fun i x H' H'' hi e y Q q => ?_⟩
  obtain ⟨T, u, z, rfl, hT, rfl, h1, h2⟩ := w.yields i H' x H'' hi ⟨ex_l e hx, ex_l e hy⟩ y
  have q2 := q _ (Ex.new (o := .tup [u, z]) hT)
  have h1 : xs[i]? = some u := h1
  have h2 : ys[i]? = some z := h2
  rw [h1, h2] at q2
  exact gpair (st_of upd_same) q2
/-- a list of pairs -/
theorem turns_pairs {j k : Nat} {f g : Nat → V} (hx : SqL K H1 a xs) (hp : ∀ i x, xs[i]? = some x → ∃ T, x = .ref T ∧ SqT K H1 T [f i, g i]) : Turns (Itl K a) xs.length (gTup K 2 (gCons (gName j) (gCons (gName k) gNil))) σ0 H1 (fun i => (σ0.set j (some (f i))).set k (some (g i))) := by
  refine ⟨fun i H' e hi => ⟨xs, xs[i], ex_l e hx, by simp [hi]⟩, fun H' e => ⟨xs, ex_l e hx, Nat.le_refl _⟩, fun i x H' H'' hi e y Q q => ?_⟩
  obtain ⟨e1, y⟩ := y
  subst e1
  obtain ⟨T, rfl, hT⟩ := hp i x (y xs (ex_l e hx))
  exact gpair (ex_t e hT) (q _ (Ex.refl _))
end
/-- the body of a comprehension's reading, behind its source -/
def LcGo (J : It) (g : TG) (tt : TT) (te : TE) (vs : List Nat) (σ : L2.St) (H1 : Hp) (Q : VK) : Prop :=
  ∀ D, H1 D = none → ∃ W : Nat → Nat → Hp → Prop, (∃ m, W 0 m (upd H1 D (.lst []))) ∧ ∀ i m H, W i m H →
    (J.stop i H ∧ Q (.ref D) H) ∨ (J.go i H ∧ ∃ Nx : Hp → Prop, (∀ H', Nx H' → ∃ m', m' < m ∧ W (i + 1) m' H') ∧ ∀ x H', J.yld i H x H' → g x (wipe σ vs) H' fun σ2 H2 => wipe σ2 vs = wipe σ vs ∧ tt σ2 H2 fun b H3 =>
      if b = true then te σ2 H3 fun y H4 => ∃ acc, H4 D = some (.lst acc) ∧ acc.length < sizeLine ∧ Nx (upd H4 D (.lst (acc ++ [y]))) else Nx H3)
section
variable {J : It} {n : Nat} {g : TG} {tt : TT} {te : TE} {vs : List Nat} {σ : L2.St} {H1 : Hp} {Q : VK} {sg : Nat → L2.St}
/-- any comprehension, by a word of the turn -/
theorem lc_go (T : Turns J n g (wipe σ vs) H1 sg) (hw : ∀ i, i < n → wipe (sg i) vs = wipe σ vs) (Pv : Addr → Nat → Hp → Prop) (h0 : ∀ D, H1 D = none → Pv D 0 (upd H1 D (.lst []))) (hx : ∀ D i H, H1 D = none → Pv D i H → Ex H1 H)
    (hs : ∀ D i H, H1 D = none → i < n → Pv D i H → ∀ H2, Ex H H2 → tt (sg i) H2 fun b H3 => if b = true then te (sg i) H3 fun y H4 => ∃ acc, H4 D = some (.lst acc) ∧ acc.length < sizeLine ∧ Pv D (i + 1) (upd H4 D (.lst (acc ++ [y]))) else Pv D (i + 1) H3)
    (hd : ∀ D H, H1 D = none → Pv D n H → Q (.ref D) H) : LcGo J g tt te vs σ H1 Q := fun D hD => by
  refine ⟨fun i m H => m = n - i ∧ i ≤ n ∧ Pv D i H, ⟨n, by simp, Nat.zero_le _, h0 D hD⟩, ?_⟩
  rintro i m H ⟨rfl, hi, p⟩
  have ex := hx D i H hD p
  by_cases hlt : i < n
  · refine .inr ⟨T.go i H ex hlt, Pv D (i + 1), fun H' p' => ⟨n - (i + 1), by omega, rfl, hlt, p'⟩, fun x H' y => ?_⟩
    exact T.turn i x H H' hlt ex y _ fun H2 e2 => ⟨hw i hlt, hs D i H hD hlt p H2 e2⟩
  · have e : i = n := by omega
    subst e
    exact .inl ⟨T.stop H ex, hd D H hD p⟩
/-- elements that are values -/
theorem lc_vals (f : Nat → Bool) (v : Nat → V) (T : Turns J n g (wipe σ vs) H1 sg) (hw : ∀ i, i < n → wipe (sg i) vs = wipe σ vs) (hn : n ≤ 40000) (ht : ∀ i H', i < n → Ex H1 H' → EvT tt (sg i) H' (f i)) (he : ∀ i H', i < n → Ex H1 H' → f i = true → Ev te (sg i) H' (v i))
    (hq : ∀ D H2, H1 D = none → Ex H1 H2 → H2 D = some (.lst (given n f v)) → Q (.ref D) H2) : LcGo J g tt te vs σ H1 Q := by
  refine lc_go T hw (fun D i H' => Cw H1 f v D i H') (fun D hD => ⟨hD, Ex.new hD, upd_same⟩) (fun D i H _ p => p.2.1) (fun D i H hD hi p H2 e2 => ?_) (fun D H hD p => hq D H hD p.2.1 p.2.2)
  have p2 : Cw H1 f v D i H2 := ⟨p.1, p.2.1.trans e2, e2 _ _ p.2.2⟩
  exact cw_turn p2 (by omega) (ht i H1 hi (Ex.refl _)) (fun hf => he i H1 hi (Ex.refl _) hf)
/-- elements of any kind, none left out; E D i u H: what is known of the i-th, u, in the heap H, whatever stands at D -/
theorem lc_objs (E : Addr → Nat → V → Hp → Prop) (hup : ∀ D i u H H', (∀ a o, a ≠ D → H a = some o → H' a = some o) → E D i u H → E D i u H') (T : Turns J n g (wipe σ vs) H1 sg) (hw : ∀ i, i < n → wipe (sg i) vs = wipe σ vs) (hn : n ≤ 40000) (ht : ∀ i H', i < n → Ex H1 H' → EvT tt (sg i) H' true)
    (he : ∀ D i H' acc, i < n → H1 D = none → Ex H1 H' → H' D = some (.lst acc) → EvP te (sg i) H' (fun H2 u H3 => ∃ p, u = .ref p ∧ H2 p = none ∧ (∃ o, H3 p = some o) ∧ E D i u H3))
    (hq : ∀ D H2 (ps : List Addr), H1 D = none → Ex H1 H2 → ps.length = n → ps.Nodup → (∀ p ∈ ps, H1 p = none ∧ p ≠ D) → H2 D = some (.lst (ps.map V.ref)) → (∀ i p, ps[i]? = some p → E D i (.ref p) H2) → Q (.ref D) H2) : LcGo J g tt te vs σ H1 Q := by
  refine lc_go T hw (fun D i H' => H1 D = none ∧ Ex H1 H' ∧ ∃ ps : List Addr, ps.length = i ∧ ps.Nodup ∧ (∀ p ∈ ps, H1 p = none ∧ p ≠ D ∧ ∃ o, H' p = some o) ∧ H' D = some (.lst (ps.map V.ref)) ∧ ∀ j p, ps[j]? = some p → E D j (.ref p) H')
    (fun D hD => ⟨hD, Ex.new hD, [], rfl, List.nodup_nil, by simp, upd_same, by simp⟩) (fun D i H _ p => p.2.1) (fun D i H hD hi p H2 e2 => ?_) (fun D H hD p => ?_)
  · obtain ⟨p1, p2, ps, l, nd, fr, hDl, hE⟩ := p
    refine ht i H2 hi (p2.trans e2) H2 (Ex.refl _) _ fun H3 e3 => ?_
    show te (sg i) H3 _
    refine he D i H3 _ hi hD ((p2.trans e2).trans e3) (e3 _ _ (e2 _ _ hDl)) H3 (Ex.refl _) _ fun u H4 e4 ⟨p, hu, hp, ⟨o, ho⟩, hEi⟩ => ?_
    subst hu
    have e24 : Ex H H4 := (e2.trans e3).trans e4
    have hpD : p ≠ D := fun z => by
      rw [z, e3 _ _ (e2 _ _ hDl)] at hp
      cases hp
    have hpn : p ∉ ps := fun z => by
      obtain ⟨_, _, o', ho'⟩ := fr p z
      rw [e3 _ _ (e2 _ _ ho')] at hp
      cases hp
    refine ⟨ps.map V.ref, e24 _ _ hDl, sz_lt (by rw [List.length_map]; omega), p1, Ex.mut (p2.trans e24) p1, ps ++ [p], by simp [l], ?_, ?_, ?_, ?_⟩
    · refine List.nodup_append.mpr ⟨nd, by simp, fun a ha b hb => ?_⟩
      have : b = p := by simpa using hb
      subst this
      exact fun z => hpn (z ▸ ha)
    · intro q hq
      rcases List.mem_append.mp hq with hq | hq
      · obtain ⟨a1, a2, o', ho'⟩ := fr q hq
        exact ⟨a1, a2, o', by rw [upd_ne a2]; exact e24 _ _ ho'⟩
      · have : q = p := by simpa using hq
        subst this
        exact ⟨fresh_back ((p2.trans e2).trans e3) hp, hpD, o, by rw [upd_ne hpD]; exact ho⟩
    · rw [upd_same]; simp
    · intro j q hj
      by_cases hjl : j < ps.length
      · rw [List.getElem?_append_left hjl] at hj
        exact hup _ _ _ _ _ (fun a o' haD ha => by rw [upd_ne haD]; exact e24 _ _ ha) (hE j q hj)
      · have hl2 : j < (ps ++ [p]).length := (List.getElem?_eq_some_iff.mp hj).1
        rw [List.length_append, List.length_singleton] at hl2
        have : j = ps.length := by omega
        subst this
        rw [List.getElem?_append_right (Nat.le_refl _), Nat.sub_self] at hj
        have : p = q := Option.some.inj hj
        subst this
        rw [l]
        exact hup _ _ _ _ _ (fun a o' haD ha => by rw [upd_ne haD]; exact ha) hEi
  · obtain ⟨p1, p2, ps, l, nd, fr, hDl, hE⟩ := p
    exact hq D H ps hD p2 l nd (fun p hp => ⟨(fr p hp).1, (fr p hp).2.1⟩) hDl hE
/-- elements that are new lists -/
theorem lc_rows (c : Nat → List V) (T : Turns J n g (wipe σ vs) H1 sg) (hw : ∀ i, i < n → wipe (sg i) vs = wipe σ vs) (hn : n ≤ 40000) (ht : ∀ i H', i < n → Ex H1 H' → EvT tt (sg i) H' true)
    (he : ∀ i H', i < n → Ex H1 H' → EvL te (sg i) H' (c i))
    (hq : ∀ D H2 (ps : List Addr), H1 D = none → Ex H1 H2 → ps.length = n → ps.Nodup → (∀ p ∈ ps, H1 p = none ∧ p ≠ D) → H2 D = some (.lst (ps.map V.ref)) → (∀ i p, ps[i]? = some p → H2 p = some (.lst (c i))) → Q (.ref D) H2) : LcGo J g tt te vs σ H1 Q := by
  refine lc_objs (fun D i u H => ∃ p, u = .ref p ∧ p ≠ D ∧ H p = some (.lst (c i))) (fun D i u H H' h ⟨p, a, b, c⟩ => ⟨p, a, b, h _ _ b c⟩) T hw hn ht (fun D i H' acc hi hD e hacc => ?_) (fun D H2 ps a b c d e f g => hq D H2 ps a b c d e f fun i p hi => ?_)
  · refine (evp_l (he i H' hi e)).imp fun H2 v H3 e2 e3 ⟨p, hv, hp, h3⟩ => ⟨p, hv, hp, ⟨_, h3⟩, p, hv, fun z => ?_, h3⟩
    rw [z, e2 _ _ hacc] at hp
    cases hp
  · obtain ⟨q, hq, _, h⟩ := g i p hi
    cases hq
    exact h
end
theorem et_yes {σ : L2.St} {H : Hp} : EvT tYes σ H true := fun H1 _ _ q => q H1 (Ex.refl _)

/-! comprehensions as a whole -/
abbrev NewRows (n : Nat) (c : Nat → List V) : Hp → V → Hp → Prop := fun H1 u H2 => ∃ (p : Addr) (ps : List Addr), u = .ref p ∧ H1 p = none ∧ ps.length = n ∧ ps.Nodup ∧ (∀ q ∈ ps, H1 q = none ∧ q ≠ p) ∧ H2 p = some (.lst (ps.map V.ref)) ∧ ∀ (i : Nat) (q : Addr), ps[i]? = some q → H2 q = some (.lst (c i))
theorem down_rows {n : Nat} {c : Nat → List V} : Down (NewRows n c) := fun _ _ _ _ e ⟨p, ps, a, b, c, d, f, g⟩ => ⟨p, ps, a, fresh_back e b, c, d, fun q hq => ⟨fresh_back e (f q hq).1, (f q hq).2⟩, g⟩
section
variable {K : PySem.W.Frag} {σ : L2.St} {H : Hp} {te tl : TE} {t : TT} {g : TG} {vs : List Nat} {a b : Addr} {xs ys : List V} {P : Hp → V → Hp → Prop} {ta : TA}
theorem evp_lcL (h : Ev tl σ H (.ref a)) (hx : SqL K H a xs) (hd : Down P) (body : ∀ H1, Ex H H1 → ∀ Q : VK, Ret P H1 Q → LcGo (Itl K a) g t te vs σ H1 Q) : EvP (tLc (iList K tl) g t te vs) σ H P := fun H1 e Q q =>
  h H1 e _ fun H2 e2 => ⟨a, rfl, ⟨xs, ex_l (e.trans e2) hx⟩, body H2 (e.trans e2) Q fun v H3 e3 p => q v H3 (e2.trans e3) (hd _ _ _ _ e2 p)⟩
theorem evp_lcNL (h : EvL tl σ H xs) (hd : Down P) (body : ∀ a H1, Ex H H1 → H1 a = some (.lst xs) → ∀ Q : VK, Ret P H1 Q → LcGo (Itl K a) g t te vs σ H1 Q) : EvP (tLc (iList K tl) g t te vs) σ H P := fun H1 e Q q =>
  h H1 e _ fun a H2 _ e2 h2 => ⟨a, rfl, ⟨xs, sq_of h2⟩, body a H2 (e.trans e2) h2 Q fun v H3 e3 p => q v H3 (e2.trans e3) (hd _ _ _ _ e2 p)⟩
theorem evp_lcR {n : Int} (h : EvA ta σ H [.int n]) (hn : -100000 ≤ n ∧ n ≤ 100000) (hd : Down P) (body : ∀ H1, Ex H H1 → ∀ Q : VK, Ret P H1 Q → LcGo (Itr 0 n.toNat) g t te vs σ H1 Q) : EvP (tLc (iRng1 ta) g t te vs) σ H P := fun H1 e Q q =>
  h H1 e _ fun H2 e2 => ⟨n, rfl, by omega, by omega, body H2 (e.trans e2) Q fun v H3 e3 p => q v H3 (e2.trans e3) (hd _ _ _ _ e2 p)⟩
theorem evp_lcE (h : Ev tl σ H (.ref a)) (hx : SqL K H a xs) (hd : Down P) (body : ∀ H1, Ex H H1 → ∀ Q : VK, Ret P H1 Q → LcGo (Ite K a) g t te vs σ H1 Q) : EvP (tLc (iEnum K (tCons tl tNil)) g t te vs) σ H P := fun H1 e Q q =>
  h H1 e _ fun H2 e2 => ⟨a, xs, rfl, ex_l (e.trans e2) hx, body H2 (e.trans e2) Q fun v H3 e3 p => q v H3 (e2.trans e3) (hd _ _ _ _ e2 p)⟩
theorem evp_lcZ {tl2 : TE} (h : Ev tl σ H (.ref a)) (h2 : Ev tl2 σ H (.ref b)) (hx : SqL K H a xs) (hy : SqL K H b ys) (hd : Down P) (body : ∀ H1, Ex H H1 → ∀ Q : VK, Ret P H1 Q → LcGo (Itz K a b) g t te vs σ H1 Q) : EvP (tLc (iZip K (tCons tl (tCons tl2 tNil))) g t te vs) σ H P := fun H1 e Q q =>
  h H1 e _ fun H2 e2 => h2 H2 (e.trans e2) _ fun H3 e3 => ⟨a, b, xs, ys, rfl, ex_l ((e.trans e2).trans e3) hx, ex_l ((e.trans e2).trans e3) hy, body H3 ((e.trans e2).trans e3) Q fun v H4 e4 p => q v H4 ((e2.trans e3).trans e4) (hd _ _ _ _ (e2.trans e3) p)⟩
/-- values, over enumerate(xs), zip(xs, ys), a list of pairs -/
theorem el_lcE {j k : Nat} (f : Nat → Bool) (v : Nat → V) (h : Ev tl σ H (.ref a)) (hx : SqL K H a xs) (hz : xs.length ≤ 40000) (hw : ∀ x y, wipe (((wipe σ vs).set j (some x)).set k (some y)) vs = wipe σ vs)
    (ht : ∀ (i : Nat) (x : V) H1, Ex H H1 → xs[i]? = some x → EvT t (((wipe σ vs).set j (some (.int (i : Nat)))).set k (some x)) H1 (f i)) (he : ∀ (i : Nat) (x : V) H1, Ex H H1 → xs[i]? = some x → f i = true → Ev te (((wipe σ vs).set j (some (.int (i : Nat)))).set k (some x)) H1 (v i)) :
    EvL (tLc (iEnum K (tCons tl tNil)) (gTup K 2 (gCons (gName j) (gCons (gName k) gNil))) t te vs) σ H (given xs.length f v) := by
  refine el_ofp (evp_lcE h hx down_l fun H1 e Q q => ?_)
  have ga : ∀ i, i < xs.length → xs[i]? = some xs[i]! := fun i hi => by simp [hi]
  refine lc_vals f v (turns_enum (ex_l e hx)) (fun i hi => by rw [ga i hi]; exact hw _ _) hz (fun i H' hi e' => ?_) (fun i H' hi e' hf => ?_) (fun D H2 hD e2 h2 => q _ H2 e2 ⟨D, rfl, hD, h2⟩)
  · show EvT t (((wipe σ vs).set j (some (.int (i : Nat)))).set k xs[i]?) H' (f i)
    rw [ga i hi]
    exact ht i _ H' (e.trans e') (ga i hi)
  · show Ev te (((wipe σ vs).set j (some (.int (i : Nat)))).set k xs[i]?) H' (v i)
    rw [ga i hi]
    exact he i _ H' (e.trans e') (ga i hi) hf
theorem el_lcZ {tl2 : TE} {j k : Nat} (f : Nat → Bool) (v : Nat → V) (h : Ev tl σ H (.ref a)) (h2 : Ev tl2 σ H (.ref b)) (hx : SqL K H a xs) (hy : SqL K H b ys) (hz : xs.length ≤ 40000) (hw : ∀ x y, wipe (((wipe σ vs).set j (some x)).set k (some y)) vs = wipe σ vs)
    (ht : ∀ (i : Nat) (x y : V) H1, Ex H H1 → xs[i]? = some x → ys[i]? = some y → EvT t (((wipe σ vs).set j (some x)).set k (some y)) H1 (f i)) (he : ∀ (i : Nat) (x y : V) H1, Ex H H1 → xs[i]? = some x → ys[i]? = some y → f i = true → Ev te (((wipe σ vs).set j (some x)).set k (some y)) H1 (v i)) :
    EvL (tLc (iZip K (tCons tl (tCons tl2 tNil))) (gTup K 2 (gCons (gName j) (gCons (gName k) gNil))) t te vs) σ H (given (min xs.length ys.length) f v) := by
  refine el_ofp (evp_lcZ h h2 hx hy down_l fun H1 e Q q => ?_)
  have ga : ∀ i, i < min xs.length ys.length → xs[i]? = some xs[i]! := fun i hi => by simp [show i < xs.length by omega]
  have gb : ∀ i, i < min xs.length ys.length → ys[i]? = some ys[i]! := fun i hi => by simp [show i < ys.length by omega]
  refine lc_vals f v (turns_zip rfl (ex_l e hx) (ex_l e hy)) (fun i hi => by rw [ga i hi, gb i hi]; exact hw _ _) (by omega) (fun i H' hi e' => ?_) (fun i H' hi e' hf => ?_) (fun D H2 hD e2 h2 => q _ H2 e2 ⟨D, rfl, hD, h2⟩)
  · show EvT t (((wipe σ vs).set j xs[i]?).set k ys[i]?) H' (f i)
    rw [ga i hi, gb i hi]
    exact ht i _ _ H' (e.trans e') (ga i hi) (gb i hi)
  · show Ev te (((wipe σ vs).set j xs[i]?).set k ys[i]?) H' (v i)
    rw [ga i hi, gb i hi]
    exact he i _ _ H' (e.trans e') (ga i hi) (gb i hi) hf
theorem el_lcP {j k : Nat} {p q : Nat → V} (f : Nat → Bool) (v : Nat → V) (h : Ev tl σ H (.ref a)) (hx : SqL K H a xs) (hp : ∀ (i : Nat) x, xs[i]? = some x → ∃ T, x = .ref T ∧ SqT K H T [p i, q i]) (hz : xs.length ≤ 40000) (hw : ∀ x y, wipe (((wipe σ vs).set j (some x)).set k (some y)) vs = wipe σ vs)
    (ht : ∀ (i : Nat) H1, Ex H H1 → i < xs.length → EvT t (((wipe σ vs).set j (some (p i))).set k (some (q i))) H1 (f i)) (he : ∀ (i : Nat) H1, Ex H H1 → i < xs.length → f i = true → Ev te (((wipe σ vs).set j (some (p i))).set k (some (q i))) H1 (v i)) :
    EvL (tLc (iList K tl) (gTup K 2 (gCons (gName j) (gCons (gName k) gNil))) t te vs) σ H (given xs.length f v) := by
  refine el_ofp (evp_lcL h hx down_l fun H1 e Q r => ?_)
  exact lc_vals f v (turns_pairs (f := p) (g := q) (ex_l e hx) fun i x hi => (hp i x hi).imp fun T hT => ⟨hT.1, ex_t e hT.2⟩) (fun i hi => hw _ _) hz (fun i H' hi e' => ht i H' (e.trans e') hi) (fun i H' hi e' hf => he i H' (e.trans e') hi hf) (fun D H2 hD e2 h2 => r _ H2 e2 ⟨D, rfl, hD, h2⟩)
/-- new lists, over a list, over a range -/
theorem evp_rowsL {j : Nat} (c : Nat → List V) (h : Ev tl σ H (.ref a)) (hx : SqL K H a xs) (hz : xs.length ≤ 40000) (hw : ∀ x, wipe ((wipe σ vs).set j (some x)) vs = wipe σ vs) (he : ∀ (i : Nat) (x : V) H1, Ex H H1 → xs[i]? = some x → EvL te ((wipe σ vs).set j (some x)) H1 (c i)) :
    EvP (tLc (iList K tl) (gName j) tYes te vs) σ H (NewRows xs.length c) := by
  refine evp_lcL h hx down_rows fun H1 e Q q => ?_
  have ga : ∀ i, i < xs.length → xs[i]? = some xs[i]! := fun i hi => by simp [hi]
  refine lc_rows c (turns_list (ex_l e hx)) (fun i hi => by rw [ga i hi]; exact hw _) hz (fun i H' hi e' => et_yes) (fun i H' hi e' => ?_) (fun D H2 ps a1 a2 a3 a4 a5 a6 a7 => q _ H2 a2 ⟨D, ps, rfl, a1, a3, a4, a5, a6, a7⟩)
  show EvL te ((wipe σ vs).set j xs[i]?) H' (c i)
  rw [ga i hi]
  exact he i _ H' (e.trans e') (ga i hi)
theorem evp_rowsR {j : Nat} {n : Int} (c : Nat → List V) (h : EvA ta σ H [.int n]) (hn : -100000 ≤ n ∧ n ≤ 40000) (hw : ∀ x, wipe ((wipe σ vs).set j (some x)) vs = wipe σ vs) (he : ∀ (i : Nat) H1, Ex H H1 → i < n.toNat → EvL te ((wipe σ vs).set j (some (.int (i : Nat)))) H1 (c i)) :
    EvP (tLc (iRng1 ta) (gName j) tYes te vs) σ H (NewRows n.toNat c) := by
  refine evp_lcR h (by omega) down_rows fun H1 e Q q => ?_
  refine lc_rows c (turns_range (lo := 0)) (fun i hi => hw _) (by omega) (fun i H' hi e' => et_yes) (fun i H' hi e' => ?_) (fun D H2 ps a1 a2 a3 a4 a5 a6 a7 => q _ H2 a2 ⟨D, ps, rfl, a1, a3, a4, a5, a6, a7⟩)
  have e0 : (0 : Int) + (i : Nat) = (i : Nat) := Int.zero_add _
  show EvL te ((wipe σ vs).set j (some (.int (0 + (i : Nat))))) H' (c i)
  rw [e0]
  exact he i H' (e.trans e') hi
end
theorem given_all {n : Nat} {v : Nat → V} {xs : List V} (hl : xs.length = n) (h : ∀ i x, xs[i]? = some x → v i = x) : given n (fun _ => true) v = xs := by
  unfold given
  rw [List.filter_eq_self.mpr (fun _ _ => rfl)]
  refine List.ext_getElem? fun i => ?_
  rw [List.getElem?_map]
  by_cases hi : i < n
  · rw [List.getElem?_range hi]
    have h2 : i < xs.length := by omega
    have := h i xs[i] (by simp [h2])
    simp [h2, this]
  · rw [List.getElem?_eq_none (by simp; omega), List.getElem?_eq_none (by omega)]
    rfl

/-! ### more of loops, of ifs -/
section
variable {K : PySem.W.Frag} {σ : L2.St} {H : Hp} {te tl ta tb : TE} {t : TT} {g : TG} {a b : Addr} {xs ys : List V} {P : Hp → V → Hp → Prop} {D : Ends} {tu tz : TS} {x v : V}
theorem evp_if {b : Bool} (h : EvT t σ H b) (h1 : b = true → EvP ta σ H P) (h2 : b = false → EvP tb σ H P) (hd : Down P) : EvP (tIf t ta tb) σ H P := fun H1 e Q q => h H1 e _ fun H2 e2 => by
  cases b with
  | true =>
    show ta σ H2 Q
    exact h1 rfl H2 (e.trans e2) Q fun v H3 e3 p => q v H3 (e2.trans e3) (hd _ _ _ _ e2 p)
  | false =>
    show tb σ H2 Q
    exact h2 rfl H2 (e.trans e2) Q fun v H3 e3 p => q v H3 (e2.trans e3) (hd _ _ _ _ e2 p)
/-- an item of a tuple just made -/
theorem ev_ixNT {i : Int} (ha : EvU ta σ H xs) (hb : Ev tb σ H (.int i)) (hx : atI xs i = some v) : Ev (tOp (rIxT K) ta tb) σ H v := fun H1 e Q q =>
  ha H1 e _ fun p H2 _ e2 h2 => hb H2 (e.trans e2) _ fun H3 e3 => ⟨p, xs, i, v, rfl, rfl, st_of (e3 _ _ h2), hx, q H3 (e2.trans e3)⟩
/-- an item of a tuple that a call hands back -/
theorem ev_ixPT {i : Int} (ha : EvP ta σ H P) (hb : ∀ H1, Ex H H1 → Ev tb σ H1 (.int i)) (hp : ∀ H1 u H2, P H1 u H2 → ∃ p xs, u = .ref p ∧ SqT K H2 p xs ∧ atI xs i = some v) : Ev (tOp (rIxT K) ta tb) σ H v := fun H1 e Q q =>
  ha H1 e _ fun u H2 e2 hu => hb H2 (e.trans e2) H2 (Ex.refl _) _ fun H3 e3 => by
    obtain ⟨p, xs, rfl, hs, hx⟩ := hp H1 u H2 hu
    exact ⟨p, xs, i, v, rfl, rfl, ex_t e3 hs, hx, q H3 (e2.trans e3)⟩
theorem ev_neDL {d e : PyData} (ha : Ev ta σ H x) (hb : EvL tb σ H xs) (hd : ∀ H1, Ex H H1 → Dp K H1 x d) (he : ∀ p H1, Ex H H1 → H1 p = some (.lst xs) → Dp K H1 (.ref p) e) (sd : SeqAt.shaped d = true) (se : SeqAt.shaped e = true) : Ev (tOp (rNeD K) ta tb) σ H (.bl (!PyData.eqv d e)) :=
  ev_opL ha hb fun p H1 hp e1 => rv_val fun H2 e2 Q q => ⟨d, e, hd H2 (e1.trans e2), he p H2 (e1.trans e2) (e2 _ _ hp), sd, se, q⟩
/-- xs.append(e) -/
theorem sP_app {l : Addr} {xs : List V} (hl : H l = some (.lst xs)) (ha : Ev ta σ H (.ref l)) (h : EvP te σ H P) (hd : Down P) (hz : xs.length < 100000) (k : ∀ v H1, Ex H H1 → P H v H1 → D.nx σ (upd H1 l (.lst (xs ++ [v])))) :
    tDrop (tBM K "list" rAppend ta (tCons te tNil)) D σ H := ha H (Ex.refl H) _ fun H1 e1 =>
  ⟨Or.inl ⟨rfl, xs, sq_of (e1 l _ hl)⟩, h H1 e1 _ fun v H2 e2 p => ⟨l, xs, v, rfl, rfl, e2 l _ (e1 l _ hl), sz_lt hz, k v H2 (e1.trans e2) (hd _ _ _ _ e1 p)⟩⟩
theorem qP_app {l : Addr} {xs : List V} (hl : H l = some (.lst xs)) (ha : Ev ta σ H (.ref l)) (h : EvP te σ H P) (hd : Down P) (hz : xs.length < 100000) (k : ∀ v H1, Ex H H1 → P H v H1 → tz D σ (upd H1 l (.lst (xs ++ [v])))) :
    tSeq (tDrop (tBM K "list" rAppend ta (tCons te tNil))) tz D σ H := sP_app (D := { D with nx := tz D }) hl ha h hd hz k
/-- xs.extend(e) -/
theorem qP_ext {l : Addr} {xs : List V} (hl : H l = some (.lst xs)) (ha : Ev ta σ H (.ref l)) (h : EvP te σ H P) (hd : Down P) (k : ∀ v H1, Ex H H1 → P H v H1 → ∃ b zs, v = .ref b ∧ H1 b = some (.lst zs) ∧ xs.length + zs.length ≤ 100000 ∧ tz D σ (upd H1 l (.lst (xs ++ zs)))) :
    tSeq (tDrop (tBM K "list" rExtend ta (tCons te tNil))) tz D σ H := ha H (Ex.refl H) _ fun H1 e1 =>
  ⟨Or.inl ⟨rfl, xs, sq_of (e1 l _ hl)⟩, h H1 e1 _ fun v H2 e2 p => by
    obtain ⟨b, zs, rfl, hb, hz, q⟩ := k v H2 (e1.trans e2) (hd _ _ _ _ e1 p)
    exact ⟨l, b, xs, zs, rfl, rfl, e2 l _ (e1 l _ hl), hb, sz_of hz, q⟩⟩
/-- for i, x in enumerate(xs) -/
theorem goE {j k : Nat} (Pv : Nat → L2.St → Hp → Prop) (h0 : Pv 0 σ H) (hl : ∀ i σ' H', i ≤ xs.length → Pv i σ' H' → SqL K H' a xs)
    (hs : ∀ (i : Nat) x σ' H', xs[i]? = some x → Pv i σ' H' → ∀ H2, Ex H' H2 → tu { D with nx := Pv (i + 1), ct := Pv (i + 1), bk := D.nx } ((σ'.set j (some (.int (i : Nat)))).set k (some x)) H2) (hd : ∀ σ' H', Pv xs.length σ' H' → D.nx σ' H') :
    ∃ W : Nat → Nat → L2.St → Hp → Prop, (∃ m, W 0 m σ H) ∧ ∀ i m σ H, W i m σ H →
      ((Ite K a).stop i H ∧ D.nx σ H) ∨ ((Ite K a).go i H ∧ ∃ N : L2.St → Hp → Prop, (∀ σ' H', N σ' H' → ∃ m', m' < m ∧ W (i + 1) m' σ' H') ∧ ∀ x H', (Ite K a).yld i H x H' → gTup K 2 (gCons (gName j) (gCons (gName k) gNil)) x σ H' fun σ2 H2 => tu { D with nx := N, ct := N, bk := D.nx } σ2 H2) := by
  refine for_it (walk_enum (K := K) (a := a) (xs := xs)) Pv h0 hl (fun i x σ' H1 H2 hi p y => ?_) hd
  obtain ⟨T, u, z, rfl, hT, rfl, h1, h2⟩ := y
  have h1 : some (V.int (i : Nat)) = some u := h1
  cases h1
  exact gpair (st_of upd_same) (hs i z σ' H1 h2 p _ (Ex.new hT))
theorem s_forE {j k : Nat} (h : Ev tl σ H (.ref a)) (hx : SqL K H a xs) (Pv : Nat → L2.St → Hp → Prop) (h0 : ∀ H1, Ex H H1 → Pv 0 σ H1) (hl : ∀ i σ' H', i ≤ xs.length → Pv i σ' H' → SqL K H' a xs)
    (hs : ∀ (i : Nat) x σ' H', xs[i]? = some x → Pv i σ' H' → ∀ H2, Ex H' H2 → tu { D with nx := Pv (i + 1), ct := Pv (i + 1), bk := D.nx } ((σ'.set j (some (.int (i : Nat)))).set k (some x)) H2) (hd : ∀ σ' H', Pv xs.length σ' H' → D.nx σ' H') :
    tFor (iEnum K (tCons tl tNil)) (gTup K 2 (gCons (gName j) (gCons (gName k) gNil))) tu D σ H := h H (Ex.refl H) _ fun H1 e => ⟨a, xs, rfl, ex_l e hx, goE Pv (h0 H1 e) hl hs hd⟩
theorem q_forE {j k : Nat} (h : Ev tl σ H (.ref a)) (hx : SqL K H a xs) (Pv : Nat → L2.St → Hp → Prop) (h0 : ∀ H1, Ex H H1 → Pv 0 σ H1) (hl : ∀ i σ' H', i ≤ xs.length → Pv i σ' H' → SqL K H' a xs)
    (hs : ∀ (i : Nat) x σ' H', xs[i]? = some x → Pv i σ' H' → ∀ H2, Ex H' H2 → tu { D with nx := Pv (i + 1), ct := Pv (i + 1), bk := tz D } ((σ'.set j (some (.int (i : Nat)))).set k (some x)) H2) (hd : ∀ σ' H', Pv xs.length σ' H' → tz D σ' H') :
    tSeq (tFor (iEnum K (tCons tl tNil)) (gTup K 2 (gCons (gName j) (gCons (gName k) gNil))) tu) tz D σ H := s_forE (D := { D with nx := tz D }) h hx Pv h0 hl hs hd
theorem s_forNE {j k : Nat} (h : EvL tl σ H xs) (Pv : Addr → Nat → L2.St → Hp → Prop) (h0 : ∀ p H1, H p = none → Ex H H1 → H1 p = some (.lst xs) → Pv p 0 σ H1) (hl : ∀ p i σ' H', i ≤ xs.length → Pv p i σ' H' → SqL K H' p xs)
    (hs : ∀ p (i : Nat) x σ' H', xs[i]? = some x → Pv p i σ' H' → ∀ H2, Ex H' H2 → tu { D with nx := Pv p (i + 1), ct := Pv p (i + 1), bk := D.nx } ((σ'.set j (some (.int (i : Nat)))).set k (some x)) H2) (hd : ∀ p σ' H', Pv p xs.length σ' H' → D.nx σ' H') :
    tFor (iEnum K (tCons tl tNil)) (gTup K 2 (gCons (gName j) (gCons (gName k) gNil))) tu D σ H := h H (Ex.refl H) _ fun p H1 hp e h1 => ⟨p, xs, rfl, sq_of h1, goE (Pv p) (h0 p H1 hp e h1) (hl p) (hs p) (hd p)⟩
end
/-! ### bits -/
section
open Builtin.Int
theorem bits_iff {x : Int} {n : Nat} : intBits x ≤ n ↔ x.natAbs < 2 ^ n := by
  unfold intBits
  by_cases h : x = 0
  · subst h
    simp
    exact Nat.pow_pos (by decide)
  · have h1 : x.natAbs ≠ 0 := by omega
    have h2 : (x == 0) = false := by simp [h]
    first
      | (rw [h2]; simp only [Bool.false_eq_true, if_false]; rw [Nat.add_one_le_iff]; exact Nat.log2_lt h1)
      | (rw [if_neg h]; rw [Nat.add_one_le_iff]; exact Nat.log2_lt h1)
theorem bits_add {x y : Int} {n : Nat} (hx : intBits x ≤ n) (hy : intBits y ≤ n) : intBits (x + y) ≤ n + 1 := by
  rw [bits_iff] at *
  have h := Int.natAbs_add_le x y
  rw [Nat.pow_succ]
  omega
theorem bits_mul {x y : Int} {n m : Nat} (hx : intBits x ≤ n) (hy : intBits y ≤ m) : intBits (x * y) ≤ n + m := by
  rw [bits_iff] at *
  rw [Int.natAbs_mul, Nat.pow_add]
  exact Nat.mul_lt_mul'' hx hy
theorem bits_mono {x : Int} {n m : Nat} (hx : intBits x ≤ n) (h : n ≤ m) : intBits x ≤ m := Nat.le_trans hx h
theorem bits_lt {x : Int} {n : Nat} (h : x.natAbs < 2 ^ n) : intBits x ≤ n := bits_iff.mpr h
theorem bits_div {x k : Int} {n : Nat} (hx : intBits x ≤ n) (hk : 0 < k) : intBits (x / k) ≤ n := by
  rw [bits_iff] at *
  have h1 := Int.mul_ediv_add_emod x k
  have h2 := Int.emod_nonneg x (show k ≠ 0 by omega)
  have h3 := Int.emod_lt_of_pos x hk
  have : (x / k).natAbs ≤ x.natAbs := by
    by_cases h : 0 ≤ x
    · have a := Int.ediv_nonneg h (show 0 ≤ k by omega)
      have b := Int.ediv_le_self k h
      omega
    · have a : x / k < 0 := Int.ediv_neg_of_neg_of_pos (by omega) hk
      have b : k * (x / k + 1) ≤ 1 * (x / k + 1) := Int.mul_le_mul_of_nonpos_right (by omega) (by omega)
      rw [Int.mul_add, Int.mul_one, Int.one_mul] at b
      generalize x / k = q at *
      generalize k * q = y at *
      omega
  omega
theorem mulOk_bits {x y : Int} {n m : Nat} (hx : intBits x ≤ n) (hy : intBits y ≤ m) (h : n + m ≤ 134217728) : IntMulOk x y := by
  unfold IntMulOk
  intro z
  rw [Bool.and_eq_true] at z
  have z2 := z.2
  unfold intTooBig at z2
  have z3 := of_decide_eq_true z2
  rw [bitsLine_eq] at z3
  omega
theorem mulOk_small {x y : Int} (h1 : -(2 ^ 63) < x) (h2 : x < 2 ^ 63) : IntMulOk x y := IntMulOk.of_left (intBits_le_64 (by omega) (by omega))
theorem mulOk_smallR {x y : Int} (h1 : -(2 ^ 63) < y) (h2 : y < 2 ^ 63) : IntMulOk x y := IntMulOk.of_right (intBits_le_64 (by omega) (by omega))
end
/-! ### a table of ints -/
structure Tab (H : Hp) (a : Addr) (rs : List Addr) (T : List (List Int)) : Prop where
  top : H a = some (.lst (rs.map V.ref))
  len : rs.length = T.length
  row : ∀ (i : Nat) (r : Addr) (u : List Int), rs[i]? = some r → T[i]? = some u → H r = some (.lst (u.map V.int))
section
variable {H H' : Hp} {a : Addr} {rs : List Addr} {T : List (List Int)}
theorem Tab.mono (h : Tab H a rs T) (e : Ex H H') : Tab H' a rs T := ⟨e _ _ h.top, h.len, fun i r u h1 h2 => e _ _ (h.row i r u h1 h2)⟩
theorem Tab.at (h : Tab H a rs T) {i : Nat} {u : List Int} (hu : T[i]? = some u) : ∃ r, rs[i]? = some r ∧ H r = some (.lst (u.map V.int)) := by
  have hi : i < rs.length := by rw [h.len]; exact (List.getElem?_eq_some_iff.mp hu).1
  exact ⟨rs[i], by simp [hi], h.row i _ u (by simp [hi]) hu⟩
theorem Tab.ref (h : Tab H a rs T) {i : Nat} {r : Addr} (hr : rs[i]? = some r) : ∃ u, T[i]? = some u ∧ H r = some (.lst (u.map V.int)) := by
  have hi : i < T.length := by rw [← h.len]; exact (List.getElem?_eq_some_iff.mp hr).1
  exact ⟨T[i], by simp [hi], h.row i r _ hr (by simp [hi])⟩
theorem Tab.ne (h : Tab H a rs T) {r : Addr} (hr : r ∈ rs) : a ≠ r := by
  obtain ⟨i, hi⟩ := List.mem_iff_getElem?.mp hr
  obtain ⟨u, _, hu⟩ := h.ref hi
  refine ne_of h.top hu fun z => ?_
  have z := HO.lst.inj z
  cases rs with
  | nil => cases hr
  | cons x l =>
    cases u with
    | nil => cases z
    | cons y m => cases z
theorem map_set_int (u : List Int) (j : Nat) (x : Int) : (u.map V.int).set j (.int x) = (u.set j x).map V.int := by rw [List.map_set]
/-- one cell is set -/
theorem Tab.set (h : Tab H a rs T) (nd : rs.Nodup) {i : Nat} {r : Addr} {u w : List Int} (hr : rs[i]? = some r) (hu : T[i]? = some u) : Tab (upd H r (.lst (w.map V.int))) a rs (T.set i w) := by
  have hi : i < T.length := (List.getElem?_eq_some_iff.mp hu).1
  refine ⟨by rw [upd_ne (h.ne (List.mem_of_getElem? hr))]; exact h.top, by rw [List.length_set]; exact h.len, fun j s v hs hv => ?_⟩
  by_cases hj : j = i
  · subst hj
    rw [hr] at hs
    cases hs
    rw [List.getElem?_set_self hi] at hv
    cases hv
    exact upd_same
  · rw [List.getElem?_set_ne (Ne.symm hj)] at hv
    have hne : s ≠ r := fun z => hj (nd_ix nd hs (z ▸ hr))
    rw [upd_ne hne]
    exact h.row j s v hs hv
/-- one row more -/
theorem Tab.snoc (h : Tab H a rs T) {r : Addr} {u : List Int} (hr : H r = some (.lst (u.map V.int))) (hra : r ≠ a) : Tab (upd H a (.lst (rs.map V.ref ++ [.ref r]))) a (rs ++ [r]) (T ++ [u]) := by
  refine ⟨by rw [upd_same]; simp, by rw [List.length_append, List.length_append, h.len]; rfl, fun i s v hs hv => ?_⟩
  by_cases hi : i < rs.length
  · rw [List.getElem?_append_left hi] at hs
    rw [List.getElem?_append_left (by rw [← h.len]; exact hi)] at hv
    rw [upd_ne (Ne.symm (h.ne (List.mem_of_getElem? hs)))]
    exact h.row i s v hs hv
  · have hl : i < (rs ++ [r]).length := (List.getElem?_eq_some_iff.mp hs).1
    rw [List.length_append, List.length_singleton] at hl
    have hi2 : i = rs.length := by omega
    subst hi2
    rw [List.getElem?_append_right (Nat.le_refl _), Nat.sub_self] at hs
    rw [h.len, List.getElem?_append_right (Nat.le_refl _), Nat.sub_self] at hv
    have e1 : r = s := Option.some.inj hs
    have e2 : u = v := Option.some.inj hv
    subst e1 e2
    rw [upd_ne hra]
    exact hr
theorem Tab.sq {K : PySem.W.Frag} (h : Tab H a rs T) : SqL K H a (rs.map V.ref) := sq_of h.top
theorem ref_at {i : Nat} {r : Addr} (h : rs[i]? = some r) : (rs.map V.ref)[i]? = some (.ref r) := by rw [List.getElem?_map, h]; rfl
theorem int_at {u : List Int} {j : Nat} {x : Int} (h : u[j]? = some x) : (u.map V.int)[j]? = some (.int x) := by rw [List.getElem?_map, h]; rfl
/-- another object changes -/
theorem Tab.keep (h : Tab H a rs T) {p : Addr} {o : HO} (hp : p ≠ a) (hr : p ∉ rs) : Tab (upd H p o) a rs T :=
  ⟨by rw [upd_ne (Ne.symm hp)]; exact h.top, h.len, fun i r u h1 h2 => by rw [upd_ne (fun z : r = p => hr (z ▸ List.mem_of_getElem? h1))]; exact h.row i r u h1 h2⟩
end
/-- T[i][j], table[i][j] -/
theorem ev_cell {K : PySem.W.Frag} {σ : L2.St} {H : Hp} {a : Addr} {rs : List Addr} {T : List (List Int)} {ta tb tc : TE} {i j : Nat} {u : List Int} {x : Int} (ha : Ev ta σ H (.ref a)) (hb : Ev tb σ H (.int (i : Int))) (hc : Ev tc σ H (.int (j : Int))) (h : Tab H a rs T) (hu : T[i]? = some u) (hx : u[j]? = some x) :
    Ev (tOp (rIxL K) (tOp (rIxL K) ta tb) tc) σ H (.int x) := by
  obtain ⟨r, hr, h2⟩ := h.at hu
  exact ev_ixL (ev_ixL ha hb h.sq (atI_nat (ref_at hr))) hc (sq_of h2) (atI_nat (int_at hx))
theorem ev_row {K : PySem.W.Frag} {σ : L2.St} {H : Hp} {a : Addr} {rs : List Addr} {T : List (List Int)} {ta tb : TE} {i : Nat} {r : Addr} (ha : Ev ta σ H (.ref a)) (hb : Ev tb σ H (.int (i : Int))) (h : Tab H a rs T) (hr : rs[i]? = some r) :
    Ev (tOp (rIxL K) ta tb) σ H (.ref r) := ev_ixL ha hb h.sq (atI_nat (ref_at hr))
/-- a new table, rows of its own -/
abbrev NewT (T : List (List Int)) : Hp → V → Hp → Prop := fun H1 u H2 => ∃ (p : Addr) (rs : List Addr), u = .ref p ∧ H1 p = none ∧ rs.Nodup ∧ (∀ r ∈ rs, H1 r = none) ∧ Tab H2 p rs T
theorem down_t {T : List (List Int)} : Down (NewT T) := fun _ _ _ _ e ⟨p, rs, a, n, nd, fr, h⟩ => ⟨p, rs, a, fresh_back e n, nd, fun r hr => fresh_back e (fr r hr), h⟩

/-! ### data -/
def intsD (ns : List Int) : PyData := .list (ns.map .int)
def tabD (T : List (List Int)) : PyData := .list (T.map intsD)
mutual
theorem Dp.mono {K : PySem.W.Frag} {H H' : Hp} (e : Ex H H') : ∀ (d : PyData) (v : V), Dp K H v d → Dp K H' v d
  | .none, _, h => by cases h; exact .non
  | .bool b, _, h => by cases h; exact .bl b
  | .int i, _, h => by cases h; exact .int i
  | .str x, _, h => by cases h; exact .str x
  | .list ds, _, h => by
    cases h with
    | lst hs ha => exact .lst (ex_l e hs) (DpAll.mono e ds _ ha)
  | .tuple ds, _, h => by
    cases h with
    | tup hs ha => exact .tup (ex_t e hs) (DpAll.mono e ds _ ha)
  | .dict _, _, h => by cases h
theorem DpAll.mono {K : PySem.W.Frag} {H H' : Hp} (e : Ex H H') : ∀ (ds : List PyData) (vs : List V), DpAll K H vs ds → DpAll K H' vs ds
  | [], _, h => by cases h; exact .nil
  | d :: ds, _, h => by
    cases h with
    | cons h1 h2 => exact .cons (Dp.mono e d _ h1) (DpAll.mono e ds _ h2)
end
section
variable {K : PySem.W.Frag} {H : Hp}
theorem dpa_ints : ∀ ns : List Int, DpAll K H (ns.map V.int) (ns.map .int)
  | [] => .nil
  | n :: r => .cons (.int n) (dpa_ints r)
theorem dp_ints {a : Addr} {ns : List Int} (h : H a = some (.lst (ns.map V.int))) : Dp K H (.ref a) (intsD ns) := .lst (sq_of h) (dpa_ints ns)
theorem dpa_of : ∀ {vs : List V} {ds : List PyData}, vs.length = ds.length → (∀ (i : Nat) v d, vs[i]? = some v → ds[i]? = some d → Dp K H v d) → DpAll K H vs ds
  | [], [], _, _ => .nil
  | [], _ :: _, h, _ => by simp at h
  | _ :: _, [], h, _ => by simp at h
  | v :: vs, d :: ds, h, q => .cons (q 0 v d rfl rfl) (dpa_of (by simpa using h) fun i v' d' h1 h2 => q (i + 1) v' d' (by simpa using h1) (by simpa using h2))
theorem Tab.dp {a : Addr} {rs : List Addr} {T : List (List Int)} (h : Tab H a rs T) : Dp K H (.ref a) (tabD T) := by
  refine .lst h.sq (dpa_of (by simp [h.len]) fun i v d h1 h2 => ?_)
  rw [List.getElem?_map] at h1 h2
  cases hr : rs[i]? with
  | none => rw [hr] at h1; cases h1
  | some r =>
    obtain ⟨u, hu, h3⟩ := h.ref hr
    rw [hr] at h1
    rw [hu] at h2
    cases h1
    cases h2
    exact dp_ints h3
end
theorem canLay_ints : ∀ ns : List Int, PyData.canLayAll0 (ns.map .int) = true
  | [] => rfl
  | n :: r => by
    show (PyData.canLay0 (.int n) && PyData.canLayAll0 (r.map .int)) = true
    rw [canLay_ints r] <;> rfl
theorem canLay_rows : ∀ T : List (List Int), PyData.canLayAll0 (T.map intsD) = true
  | [] => rfl
  | u :: r => by
    show (PyData.canLayAll0 (u.map .int) && PyData.canLayAll0 (r.map intsD)) = true
    rw [canLay_rows r, canLay_ints u] <;> rfl
theorem depth_ints : ∀ ns : List Int, PyData.depthAll (ns.map .int) = 0
  | [] => rfl
  | n :: r => by
    show max (PyData.depth (.int n)) (PyData.depthAll (r.map .int)) = 0
    rw [depth_ints r] <;> rfl
theorem depth_rows : ∀ T : List (List Int), PyData.depthAll (T.map intsD) ≤ 1
  | [] => by decide
  | u :: r => by
    show max (PyData.depthAll (u.map .int) + 1) (PyData.depthAll (r.map intsD)) ≤ 1
    have := depth_rows r
    rw [depth_ints u]
    omega
theorem shaped_ints (ns : List Int) : SeqAt.shaped (intsD ns) = true := by
  unfold SeqAt.shaped intsD
  rw [Bool.and_eq_true]
  refine ⟨canLay_ints ns, decide_eq_true ?_⟩
  show PyData.depthAll (ns.map .int) + 1 ≤ 64
  rw [depth_ints]
  decide
theorem shaped_tab (T : List (List Int)) : SeqAt.shaped (tabD T) = true := by
  unfold SeqAt.shaped tabD
  rw [Bool.and_eq_true]
  refine ⟨canLay_rows T, decide_eq_true ?_⟩
  show PyData.depthAll (T.map intsD) + 1 ≤ 64
  have := depth_rows T
  omega
theorem eqvAll_ints : ∀ a b : List Int, PyData.eqvAll (a.map .int) (b.map .int) = decide (a = b)
  | [], [] => by simp [PyData.eqvAll]
  | [], _ :: _ => by simp [PyData.eqvAll]
  | _ :: _, [] => by simp [PyData.eqvAll]
  | x :: a, y :: b => by
    show (PyData.eqv (.int x) (.int y) && PyData.eqvAll (a.map .int) (b.map .int)) = _
    rw [eqvAll_ints a b]
    show ((x == y) && decide (a = b)) = decide (x :: a = y :: b)
    by_cases h1 : x = y <;> by_cases h2 : a = b <;> simp [h1, h2]
theorem eqv_ints (a b : List Int) : PyData.eqv (intsD a) (intsD b) = decide (a = b) := by
  unfold intsD
  rw [PyData.eqv]
  exact eqvAll_ints a b
theorem eqvAll_rows : ∀ a b : List (List Int), PyData.eqvAll (a.map intsD) (b.map intsD) = decide (a = b)
  | [], [] => by simp [PyData.eqvAll]
  | [], _ :: _ => by simp [PyData.eqvAll]
  | _ :: _, [] => by simp [PyData.eqvAll]
  | x :: a, y :: b => by
    show (PyData.eqv (intsD x) (intsD y) && PyData.eqvAll (a.map intsD) (b.map intsD)) = _
    rw [eqvAll_rows a b, eqv_ints]
    by_cases h1 : x = y <;> by_cases h2 : a = b <;> simp [h1, h2]
theorem eqv_tab (a b : List (List Int)) : PyData.eqv (tabD a) (tabD b) = decide (a = b) := by
  unfold tabD
  rw [PyData.eqv]
  exact eqvAll_rows a b
/-! ### copies, displays, data -/
theorem newT_of {T : List (List Int)} {n : Nat} {H1 H2 : Hp} {v : V} (hn : n = T.length) (h : NewRows n (fun i => (T.getD i []).map V.int) H1 v H2) : NewT T H1 v H2 := by
  obtain ⟨p, ps, hv, np, lp, nd, fr, hp, hps⟩ := h
  refine ⟨p, ps, hv, np, nd, fun r hr => (fr r hr).1, hp, by rw [lp, hn], fun i r u hi hu => ?_⟩
  have h := hps i r hi
  have e : T.getD i [] = u := by simp [List.getD, hu]
  dsimp only at h
  rw [e] at h
  exact h
section
variable {K : PySem.W.Frag} {σ : L2.St} {H : Hp} {te tl ta tb : TE} {a : Addr} {rs : List Addr} {T : List (List Int)} {j : Nat} {P Pa Pb : Hp → V → Hp → Prop} {x v : V}
/-- [list(x) for x in table] -/
theorem evp_copyT (h : Ev tl σ H (.ref a)) (hT : Tab H a rs T) (hz : T.length ≤ 40000) (hj : j < σ.length) (hw : ∀ x, wipe ((wipe σ [j]).set j (some x)) [j] = wipe σ [j]) :
    EvP (tLc (iList K tl) (gName j) tYes (tCB (rListS K) (tCons (tVar j) tNil)) [j]) σ H (NewT T) := by
  have el : (rs.map V.ref).length = T.length := by rw [List.length_map, hT.len]
  refine (evp_rowsL (fun i => (T.getD i []).map V.int) h hT.sq (by rw [el]; exact hz) hw (fun i y H1 e hy => ?_)).imp fun H1 v H2 _ _ hv => newT_of el hv
  have hi : i < T.length := by
    have := (List.getElem?_eq_some_iff.mp hy).1
    rw [el] at this
    exact this
  obtain ⟨r, hr, h1⟩ := (hT.mono e).at (show T[i]? = some T[i] by simp [hi])
  have ey : y = .ref r := Option.some.inj (hy.symm.trans (ref_at hr))
  have e2 : T.getD i [] = T[i] := by simp [List.getD, hi]
  rw [e2, ey]
  refine el_list (ev_var ?_) (sq_of h1)
  rw [List.getElem?_set_self]
  rw [wipe_length]
  exact hj
/-- rows written out -/
def EvRows (ta : TA) (σ : L2.St) (H : Hp) (T : List (List Int)) : Prop := ∀ H1, Ex H H1 → ∀ Q : List V → Hp → Prop, (∀ (rs : List Addr) H2, Ex H1 H2 → rs.Nodup → (∀ r ∈ rs, H1 r = none) → rs.length = T.length → (∀ (i : Nat) r u, rs[i]? = some r → T[i]? = some u → H2 r = some (.lst (u.map V.int))) → Q (rs.map V.ref) H2) → ta σ H1 Q
theorem er_nil : EvRows tNil σ H [] := fun H1 _ Q q => q [] H1 (Ex.refl _) List.nodup_nil (by simp) rfl (by simp)
theorem er_cons {u : List Int} {tr : TA} (h : EvL te σ H (u.map V.int)) (hr : EvRows tr σ H T) : EvRows (tCons te tr) σ H (u :: T) := fun H1 e Q q =>
  h H1 e _ fun p H2 hp e2 h2 => hr H2 (e.trans e2) _ fun rs H3 e3 nd fr hl hrow => by
    refine q (p :: rs) H3 (e2.trans e3) (List.nodup_cons.mpr ⟨fun z => ?_, nd⟩) (fun r hr => ?_) (by simp [hl]) (fun i r w hi hw => ?_)
    · have := fr p z
      rw [h2] at this
      cases this
    · rcases List.mem_cons.mp hr with rfl | hr
      · exact hp
      · exact fresh_back e2 (fr r hr)
    · cases i with
      | zero =>
        cases hi
        cases hw
        exact e3 _ _ h2
      | succ i => exact hrow i r w (by simpa using hi) (by simpa using hw)
theorem evp_dispT {ta : TA} (h : EvRows ta σ H T) (hl : T.length ≤ 100000) : EvP (tLst ta) σ H (NewT T) := fun H1 e Q q =>
  h H1 e _ fun rs H2 e2 nd fr hlen hrow => ⟨by rw [List.length_map, hlen]; exact sz_of hl, fun p hp => q _ _ (e2.trans (Ex.new hp)) ⟨p, rs, rfl, fresh_back e2 hp, nd, fr, upd_same, hlen, fun i r u hi hu => Ex.new hp _ _ (hrow i r u hi hu)⟩⟩
/-- ints written out -/
def EvInts (ta : TA) (σ : L2.St) (H : Hp) (u : List Int) : Prop := EvA ta σ H (u.map V.int)
theorem ei_nil : EvInts tNil σ H [] := ea_nil
theorem ei_cons {n : Int} {u : List Int} {tr : TA} (h : Ev te σ H (.int n)) (hr : EvInts tr σ H u) : EvInts (tCons te tr) σ H (n :: u) := ea_cons h hr
theorem el_ints {ta : TA} {u : List Int} (h : EvInts ta σ H u) (hl : u.length ≤ 100000) : EvL (tLst ta) σ H (u.map V.int) := el_lst h (by rw [List.length_map]; exact hl)
/-- data -/
abbrev IsD (K : PySem.W.Frag) (d : PyData) : Hp → V → Hp → Prop := fun _ v H2 => Dp K H2 v d
def EvDs (K : PySem.W.Frag) (ta : TA) (σ : L2.St) (H : Hp) (ds : List PyData) : Prop := ∀ H1, Ex H H1 → ∀ Q : List V → Hp → Prop, (∀ vs H2, Ex H1 H2 → DpAll K H2 vs ds → Q vs H2) → ta σ H1 Q
theorem dpa_len : ∀ {vs : List V} {ds : List PyData}, DpAll K H vs ds → vs.length = ds.length
  | _, _, .nil => rfl
  | _, _, .cons _ h => by rw [List.length_cons, List.length_cons, dpa_len h]
theorem eds_nil : EvDs K tNil σ H [] := fun H1 _ Q q => q [] H1 (Ex.refl _) .nil
theorem eds_cons {d : PyData} {ds : List PyData} {tr : TA} (h : EvP te σ H (IsD K d)) (hr : EvDs K tr σ H ds) : EvDs K (tCons te tr) σ H (d :: ds) := fun H1 e Q q =>
  h H1 e _ fun v H2 e2 hv => hr H2 (e.trans e2) _ fun vs H3 e3 hs => q (v :: vs) H3 (e2.trans e3) (.cons (Dp.mono e3 _ _ hv) hs)
theorem ed_of {d : PyData} (h : Ev te σ H x) (hd : ∀ H1, Ex H H1 → Dp K H1 x d) : EvP te σ H (IsD K d) := fun H1 e Q q => h H1 e _ fun H2 e2 => q x H2 e2 (hd H2 (e.trans e2))
theorem ed_int {n : Int} (h : Ev te σ H (.int n)) : EvP te σ H (IsD K (.int n)) := ed_of h fun _ _ => .int n
theorem ed_str {n : Str} (h : Ev te σ H (.str n)) : EvP te σ H (IsD K (.str n)) := ed_of h fun _ _ => .str n
theorem ed_tup {ds : List PyData} {ta : TA} (h : EvDs K ta σ H ds) (hl : ds.length ≤ 100000) : EvP (tTup ta) σ H (IsD K (.tuple ds)) := fun H1 e Q q =>
  h H1 e _ fun vs H2 e2 hs => ⟨by rw [dpa_len hs]; exact sz_of hl, fun p hp => q _ _ (e2.trans (Ex.new hp)) (.tup (st_of upd_same) (DpAll.mono (Ex.new hp) _ _ hs))⟩
theorem ed_lst {ds : List PyData} {ta : TA} (h : EvDs K ta σ H ds) (hl : ds.length ≤ 100000) : EvP (tLst ta) σ H (IsD K (.list ds)) := fun H1 e Q q =>
  h H1 e _ fun vs H2 e2 hs => ⟨by rw [dpa_len hs]; exact sz_of hl, fun p hp => q _ _ (e2.trans (Ex.new hp)) (.lst (sq_of upd_same) (DpAll.mono (Ex.new hp) _ _ hs))⟩
theorem ev_neDP {d e : PyData} (ha : EvP ta σ H (IsD K d)) (hb : EvP tb σ H (IsD K e)) (sd : SeqAt.shaped d = true) (se : SeqAt.shaped e = true) : Ev (tOp (rNeD K) ta tb) σ H (.bl (!PyData.eqv d e)) := fun H1 e1 Q q =>
  ha H1 e1 _ fun u H2 e2 hu => hb H2 (e1.trans e2) _ fun w H3 e3 hw => ⟨d, e, Dp.mono e3 _ _ hu, hw, sd, se, q H3 (e2.trans e3)⟩
theorem ev_eqDP {d e : PyData} (ha : EvP ta σ H (IsD K d)) (hb : EvP tb σ H (IsD K e)) (sd : SeqAt.shaped d = true) (se : SeqAt.shaped e = true) : Ev (tOp (rEqD K) ta tb) σ H (.bl (PyData.eqv d e)) := fun H1 e1 Q q =>
  ha H1 e1 _ fun u H2 e2 hu => hb H2 (e1.trans e2) _ fun w H3 e3 hw => ⟨d, e, Dp.mono e3 _ _ hu, hw, sd, se, q H3 (e2.trans e3)⟩
theorem down_d {d : PyData} : Down (IsD K d) := fun _ _ _ _ _ h => h
/-- calls upon what was just made -/
theorem evp_call1 {sp : Sp} {E : XK} (h : EvP te σ H Pa) (hd : Down P) (hs : ∀ v H1 H2, Ex H H1 → Ex H1 H2 → Pa H1 v H2 → ∀ Q : VK, Ret P H2 Q → sp ([v] ++ []) H2 Q E) : EvP (tCall sp [] E (tCons te tNil)) σ H P := fun H1 e Q q =>
  h H1 e _ fun v H2 e2 hv => hs v H1 H2 e e2 hv Q fun u H3 e3 p => q u H3 (e2.trans e3) (hd _ _ _ _ e2 p)
theorem evp_call2 {sp : Sp} {E : XK} {te2 : TE} (h : EvP te σ H Pa) (h2 : ∀ H1, Ex H H1 → Ev te2 σ H1 x) (hd : Down P) (hs : ∀ v H1 H2 H3, Ex H H1 → Ex H1 H2 → Ex H2 H3 → Pa H1 v H2 → ∀ Q : VK, Ret P H3 Q → sp ([v, x] ++ []) H3 Q E) : EvP (tCall sp [] E (tCons te (tCons te2 tNil))) σ H P := fun H1 e Q q =>
  h H1 e _ fun v H2 e2 hv => h2 H2 (e.trans e2) H2 (Ex.refl _) _ fun H3 e3 => hs v H1 H2 H3 e e2 e3 hv Q fun u H4 e4 p => q u H4 ((e2.trans e3).trans e4) (hd _ _ _ _ (e2.trans e3) p)
/-- a, b = e -/
theorem qp_asg2 {i j : Nat} {D : Ends} {tz : TS} (h : EvP te σ H P) (k : ∀ v H1, Ex H H1 → P H v H1 → ∃ T x y, v = .ref T ∧ SqT K H1 T [x, y] ∧ tz D ((σ.set i (some x)).set j (some y)) H1) : tSeq (tAsg te (gTup K 2 (gCons (gName i) (gCons (gName j) gNil)))) tz D σ H := h H (Ex.refl H) _ fun v H1 e p => by
  obtain ⟨T, x, y, rfl, hT, q⟩ := k v H1 e p
  exact gpair hT q
end
/-- the table's rest -/
theorem Tab.drop {H : Hp} {a b : Addr} {rs : List Addr} {T : List (List Int)} (h : Tab H a rs T) (k : Nat) (hb : H b = some (.lst ((rs.map V.ref).drop k))) : Tab H b (rs.drop k) (T.drop k) :=
  ⟨by rw [hb, List.map_drop], by rw [List.length_drop, List.length_drop, h.len], fun i r u hi hu => by
    rw [List.getElem?_drop] at hi hu
    exact h.row _ r u hi hu⟩
theorem cut_drop (xs : List V) (k : Nat) : cutV xs (some (k : Int)) none = xs.drop k := by
  unfold cutV
  rw [HT.sIx_none, HT.sIx_nat]
  by_cases h : k ≤ xs.length
  · rw [Nat.min_eq_left h, List.take_of_length_le (by rw [List.length_drop]; exact Nat.le_refl _)]
  · rw [Nat.min_eq_right (by omega), Nat.sub_self, List.take_zero, List.drop_of_length_le (by omega)]
/-! ### the end -/
theorem def_mk {K : PySem.W.Frag} {h : Heap} {mg : Str → Option Value} (X : K.In h) (G : h.Ns mainGlobals mg) {x : Str} {st : Stmt} {ps : List Str} {f : Addr} {oc : Value} {od an : Option Addr} {osl : Array (Option Value)} {kV doc pm cdv ct : Value}
    (a : PySem.W.nsIn K mainGlobals x = some (some (.ref f))) (l : K.lookup f = some ⟨oc, od, .func (PySem.W.fnOf x x (defArgs st) (defBody st) (defScope st) .none kV doc pm an cdv ct), osl⟩) (c : PySem.W.codeIn K cdv x = true) (k : PySem.W.keepIn K (.ref f) = true)
    (hb : ∀ (kV doc pm : Value) (an : Option Addr) (cdv ct : Value) (us : List Value), us.length = ps.length → bindArgs (PySem.W.fnOf x x (defArgs st) (defBody st) (defScope st) .none kV doc pm an cdv ct) ⟨us, []⟩ = pure (ps.zip us)) : Def K mg x st ps :=
  ⟨f, _, PySem.W.mg_of X G a, fun_mk (st := st) l c k, hb kV doc pm an cdv ct⟩
theorem int_mk {K : PySem.W.Frag} {h : Heap} {mg : Str → Option Value} (X : K.In h) (G : h.Ns mainGlobals mg) {x : Str} {i : Int} {t : Tok} (a : PySem.W.nsIn K mainGlobals x = some (some (.int i t))) : ∃ t, mg x = some (.int i t) := ⟨t, PySem.W.mg_of X G a⟩
theorem walk_end {l : PySem.W.OpenLaw} {q : Program} {loose : List Str} {XP : (Str → Option Value) → Heap → Prop} {YP : World → Heap → Prop} {d : DefRec} {K : Params → PySem.W.Frag} {k : Nat} {st : Stmt} {sp : PySem.W.Frag → Sp}
    (hn : l.most = some 63) (hdf : d.params.defaults = []) (hr : Room k callerA) (hY : ∀ (w : World) (h : Heap), YP w h → (K w.params).In h) (hname : d.name = "law")
    (hsp : ∀ (K : PySem.W.Frag) (H : Hp) (a : Addr) (ns : List Int), ns.length ≤ 63 → (∀ z ∈ ns, Builtin.Int.intBits z ≤ 1048576) → SqL K H a (ns.map V.int) → sp K [.ref a] H (fun v _ => v = .bl true) fun _ _ _ => False)
    (F : ∀ (w : World) (mg : Str → Option Value) (h : Heap), (K w.params).In h → h.Ns mainGlobals mg → Def (K w.params) mg "law" st ["_law_script"] ∧ ∀ base : Heap, Cal l.prog w (K w.params) mg base k "law" ["_law_script"] (sp (K w.params))) :
    PySem.W.WalkO q loose XP YP l.row.toRowW d [] (fun f vs => PySem.call f vs) := by
  refine L2.walk_ofB (n := 63) (k := k) (x := "_law_script") (CX := fun _ => CX0) (sp := fun w => sp (K w.params)) hn (by decide) hdf hr hY (fun w mg fa h KX G hmg => ?_) (fun w H a ns hl hb _ hS => hsp _ H a ns hl hb hS) fun _ _ _ _ _ z => z
  obtain ⟨D, C⟩ := F w mg h KX G
  obtain ⟨f, fd, hm, Fn, hb⟩ := D.ex
  rw [hname, hm] at hmg
  cases hmg
  refine ⟨fd, fun s u => .of_eq (hb [u] rfl), fun base _ _ => ?_⟩
  obtain ⟨f', fd', hm', _, _, ⟨oc, od, sl, lk⟩, Fk⟩ := (C base).ex
  rw [hm] at hm'
  cases hm'
  obtain ⟨oc2, od2, _, _, _, _, _, _, osl, _, lk2, _⟩ := Fn.ex
  rw [lk] at lk2
  cases lk2
  exact Fk
end Lh

namespace Lh
open PySem PySem.Spec PyProof.Rows L2 Evl
/-! ### set(xs), len of it, sorted of it: ints, with repeats -/
/-- a set just made -/
abbrev freshSet (w : World) : Obj := { cls := .type "set", dict := none, data := .set #[] 0 (.fresh 0 0 (!w.params.followText "set-order")) }
section
variable {P : Program} {w : World} {A : Around} {E : Value → Shared → Prop} {s : Shared}
/-- the filling of the new set at S, by the items of the list at l -/
theorem fill_from_list {l : Addr} {items : Array Value} (ns : List Int) {Q : Value → Shared → Prop} (hh : A.handled = none) (hl : s.heap.IsList l items) (hit : IntsAre items.toList ns) (hb : ns.length + 1 < scanBound)
    (h : ∀ (h' : Heap) (tk c : Nat), SetR w h' s.heap.objs.size (fun j => decide (j ∈ ns)) c → c ≤ ns.length → (∀ b o, s.heap.get? b = some o → h'.get? b = some o) → Q (.ref s.heap.objs.size) { s with heap := h', toks := tk }) :
    wpAny (model P w) A (call (.type "set") [.ref l]) Q E s := by
  have size_eq : items.size = ns.length := by
    have q := IntsAre.length hit
    rwa [Array.length_toList] at q
  obtain ⟨_, _, mro⟩ := F.called_set.mro
  have made := F.called_set.made
  have sub := F.called_set.sub
  refine wpAny_call (codeAny_of_tree (show wpAny _ _ (callAny (.type "set") _) _ _ _ from ?_))
  refine wpAny_pure ⟨Code.quiet_builtin _ (by decide +kernel), codeAny_builtin F.entry_type_call ?_⟩
  rw [Around.under_plain (weight_type_call_type "set" [.ref l] []) rfl]
  have f1 := F.called_set.notType
  have f2 := F.called_set.canCreate
  have f3 := F.typeCall_set_1 (.ref l)
  repeat (any_goals (first | assumption | wp_step))
  refine codeAny_mono (code_set_led1 (.ref l) (E := E) (Q₁ := fun obj t => obj = .ref s.heap.objs.size ∧ t = { s with heap := s.heap.push (freshSet w) }) ⟨rfl, rfl⟩) fun r t hr => ?_
  match r, hr with
  | .error e, hr => exact hr
  | .ok .next, hr => exact hr.elim
  | .ok .brk, hr => exact hr.elim
  | .ok .cont, hr => exact hr.elim
  | .ok (.ret obj), hr =>
    obtain ⟨rfl, rfl⟩ := hr
    have atS : (s.heap.push (freshSet w)).get? s.heap.objs.size = some (freshSet w) := Heap.get?_push_size _ rfl
    have tyS : Shared.TypeIs { s with heap := s.heap.push (freshSet w) } (.ref s.heap.objs.size) "set" := ⟨_, atS, rfl⟩
    have g1 := F.called_set.init.lookup
    have g2 := F.called_set.init.bind (.ref s.heap.objs.size)
    repeat (any_goals (first | assumption | wp_step))
    refine codeAny_mono (codeAny_call_builtin (R := wants (fun v t => v = .none ∧ ∃ h' tk c, t = { s with heap := h', toks := tk } ∧ SetR w h' s.heap.objs.size (fun j => decide (j ∈ ns)) c ∧ c ≤ ns.length ∧ ∀ b o, s.heap.get? b = some o → h'.get? b = some o) E)
      F.called_set.init.plain F.entry_set_init (check_set_init_1 tyS ?_)) fun r2 t2 hr2 => ?_
    · obtain ⟨⟨ocls, odict, odata, oslots⟩, hol, hcl, nl, hdl⟩ := hl
      simp only at hcl hdl
      subst hcl hdl
      have ol2 : (s.heap.push (freshSet w)).get? l = some { cls := .type "list", dict := odict, data := .seq items nl, slots := oslots } := Heap.get?_push_of_some _ hol
      have k1 := F.sub_list_set
      have k2 := F.sub_list_frozenset
      have k3 : (Value.type "list" == Value.type "dict") = false := by decide
      have isl : (s.heap.push (freshSet w)).IsList l items := ⟨_, ol2, rfl, nl, rfl⟩
      unfold Builtin.«set.__init__» noKeywords Builtin.Frozenset.updateFrom
      generalize hPI : pyIter = PI
      wp_walk
      subst hPI
      refine wpAny_pyIter_list isl (wpAny_bind (wpAny_runValue ?_))
      have lS : l < s.heap.objs.size := Heap.lt_size hol
      have sz1 : (s.heap.push (freshSet w)).objs.size = s.heap.objs.size + 1 := Heap.size_push ..
      have lI : l ≠ (s.heap.push (freshSet w)).objs.size := by rw [sz1]; exact Nat.ne_of_lt (Nat.lt_succ_of_lt lS)
      have Sout : s.heap.objs.size ∉ [(s.heap.push (freshSet w)).objs.size, l] := by
        rw [sz1]
        simp only [List.mem_cons, List.not_mem_nil, or_false, not_or]
        exact ⟨Nat.ne_of_lt (Nat.lt_succ_self _), Nat.ne_of_gt lS⟩
      refine set_update_ints ((Walks.list (by simp [hh]) _ l lI items).toS) s.heap.objs.size Sout ns size_eq hb (fun i v hv => ?_) (items.size - 0) 0 _ (by omega) (Nat.zero_le _) ⟨⟨_, Heap.get?_push_size _ rfl, rfl, rfl⟩, isl.push _⟩ ⟨0, Nat.le_refl 0, setR_new_at (Heap.get?_push_of_some _ atS)⟩ fun t c hm hc hS => ?_
      · have hi : i < ns.length := by rw [← size_eq]; exact (Array.getElem?_eq_some_iff.mp hv).1
        obtain ⟨tk, e⟩ := PyProof.Rows.IntsAre.int_at hit i v (by rw [Array.getElem?_toList]; exact hv)
        refine ⟨ns[i], tk, List.getElem?_eq_getElem hi, ?_⟩
        rw [e, List.getD_eq_getElem?_getD, List.getElem?_eq_getElem hi] <;> rfl
      · obtain ⟨h', g', d', tk', os'⟩ := t
        obtain rfl : g' = s.gens := hm.gens
        obtain rfl : d' = s.drawn := hm.drawn
        obtain rfl : os' = s.os := hm.os
        show wpAny _ _ _ _ _ _
        refine wpAny_pure (show wpAny _ _ (ret Value.none) _ _ _ from ?_)
        rw [size_eq] at hc
        refine wpAny_pure ⟨rfl, h', tk', c, rfl, hS, hc, fun b o e => ?_⟩
        have b0 := Heap.lt_size e
        refine hm.heap b o (fun z => ?_) (Heap.get?_push_of_some _ (Heap.get?_push_of_some _ e))
        rw [sz1] at z
        simp only [List.mem_cons, List.not_mem_nil, or_false] at z
        rcases z with z | z
        · exact Nat.ne_of_lt b0 z
        · exact Nat.ne_of_lt (Nat.lt_succ_of_lt b0) z
    · match r2, hr2 with
      | .error e, hr2 => exact hr2
      | .ok .next, hr2 => exact hr2.elim
      | .ok .brk, hr2 => exact hr2.elim
      | .ok .cont, hr2 => exact hr2.elim
      | .ok (.ret v), hr2 =>
        obtain ⟨rfl, h', tk, c, rfl, hS, hc, hk⟩ := hr2
        repeat (any_goals (first | assumption | wp_step))
        exact h _ _ _ hS hc hk
/-- sorted(a set of ints), any number of them -/
theorem sort_the_set {a : Addr} {S : Int → Bool} {n : Nat} {Q : Value → Shared → Prop} (R : SetR w s.heap a S n) (hh : A.handled = none)
    (hQ : ∀ t p (out : Array Value) (c : Nat) (ns : List Int), (∀ b o, s.heap.get? b = some o → t.heap.get? b = some o) → t.gens = s.gens → t.os = s.os → s.heap.objs.size ≤ p →
      t.heap.get? p = some (seqObj "list" out c) → IntsAre out.toList ns → ns.Pairwise (· < ·) → (∀ k, k ∈ ns ↔ S k = true) → ns.length = n → Q (.ref p) t) :
    wpAny (model P w) A (call (.builtin "sorted") [.ref a]) Q E s := by
  obtain ⟨o, es, ep, t, ho, hex, hd, g, nd, hm, hb, hf, hn, hr, hl⟩ := R
  refine Calls.call_function_entry kind_sorted plain_sorted entry_sorted (args_sorted1 _) ?_
  unfold Builtin.«sorted»
  refine wpAny_bind (m := checkCount "sorted" 1 1 _) (wpAny_pure (wpAny_bind (collect_set (A := A.in1) hh ⟨o, ho, hex.1, hd⟩ hf hb hr hl fun s1 vs k1 hz g1 o1 pm => ?_)))
  have vlen : vs.length = n := by rw [pm.length_eq, List.length_map, Array.length_toList]; exact hn
  have small : vs.length ≤ sizeLine := by
    rw [vlen, ← hn, sizeLine_eq]
    unfold scanBound at hb
    omega
  have are : IntsAre vs (vs.map Builtin.Re.reRawOf) := ints_of vs fun v hv => by
    obtain ⟨e, he, q⟩ := List.mem_map.mp (pm.mem_iff.mp hv)
    obtain ⟨k, tk, h1, _⟩ := g e he
    exact ⟨k, tk, q.symm.trans h1⟩
  have pk : (vs.map Builtin.Re.reRawOf).Perm (es.toList.map keyOf) := by
    have q := pm.map Builtin.Re.reRawOf
    rwa [List.map_map] at q
  refine wpAny_bind (wpAny_newList ?_ small)
  have atL : (s1.heap.push (seqObj "list" vs.toArray 0)).get? s1.heap.objs.size = some (seqObj "list" vs.toArray 0) := Heap.get?_push_size _ rfl
  refine wpAny_bind (wpAny_holding (wpAny_call_entry slot_list_sort ⟨_, atL, rfl⟩ entry_list_sort (SrtO.list_sort_ord SrtO.swo_int atL small (fun h2 => SrtO.ints_sortable are h2) fun out a1 a2 => ⟨_, rfl, ?_⟩) (args_list_sort _)))
  obtain ⟨c1, c2, c3⟩ := SrtO.ints_out are a1 a2
  obtain ⟨c, hc⟩ := sortedHeap_at (vs := vs) (out := out.toArray) atL
  have pn := c2.trans pk
  refine wpAny_pure ⟨_, rfl, hQ _ s1.heap.objs.size out.toArray c (out.map SrtO.iv) (fun b u e => ?_) g1 o1 hz hc c1 (lt_of_le_nodup _ c3 (pn.nodup_iff.mpr nd)) (fun k => by rw [pn.mem_iff, ← hm k]) ?_⟩
  · have q := k1 b u e
    have blt := Heap.lt_size q
    show (sortedHeap (s1.heap.push (seqObj "list" vs.toArray 0)) s1.heap.objs.size vs out.toArray).get? b = some u
    rw [sortedHeap_old (Nat.ne_of_lt blt) (by rw [size_push']; exact Nat.lt_succ_of_lt blt)]
    exact Heap.get?_push_of_some _ q
  · rw [pn.length_eq, List.length_map, Array.length_toList]
    exact hn
end
def rSetL (K : PySem.W.Frag) (w : World) : List V → Hp → VK → Prop := fun vs H Q => ∃ (a : Addr) (ns : List Int), vs = [V.ref a] ∧ SqL K H a (ns.map V.int) ∧ ns.length ≤ 2000 ∧ ∀ p c, H p = none → Q (.ref p) (upd H p (SetO w p (fun j => decide (j ∈ ns)) c))
def rLenSet (w : World) : List V → Hp → VK → Prop := fun vs H Q => ∃ (a : Addr) (S : Int → Bool) (n : Nat), vs = [V.ref a] ∧ H a = some (SetO w a S n) ∧ ∀ l : List Int, l.Nodup → (∀ k, k ∈ l ↔ S k = true) → Q (.int l.length) H
def rSortSet (w : World) : List V → Hp → VK → Prop := fun vs H Q => ∃ (a : Addr) (S : Int → Bool) (n : Nat), vs = [V.ref a] ∧ H a = some (SetO w a S n) ∧ ∀ (ns : List Int) (p : Addr), ns.Pairwise (· < ·) → (∀ k, k ∈ ns ↔ S k = true) → H p = none → Q (.ref p) (upd H p (.lst (ns.map V.int)))
section
variable {X : Cx}
theorem cr_setL (hc : X.calm = true) : CallR X (.type "set") (rSetL X.K X.w) := by
  intro pins s σ H vs us Q I r h
  obtain ⟨a, ns, rfl, hs, hl, q⟩ := h
  rw [Vals.ref1 r]
  obtain ⟨its, rv, pl, hz⟩ := I.list hs
  refine fill_from_list ns (I.ok.hd hc) pl.isList (by simpa using rv.ints) (by unfold scanBound; omega) fun h' tk c hS _ hk => ?_
  have fresh : H s.heap.objs.size = none := I.hok.fresh (Nat.le_refl _)
  exact ⟨.ref _, _, I.laid (t' := tk) hk (Nat.le_refl _) (setO_new hS), rfl, q _ c fresh⟩
theorem cr_lenSet : CallR X (.builtin "len") (rLenSet X.w) := by
  intro pins s σ H vs us Q I r h
  obtain ⟨a, S, n, rfl, ha, q⟩ := h
  rw [Vals.ref1 r]
  obtain ⟨o, es, ep, t, ho, hex, hd, g, nd, hm, hb, hf, hn, _⟩ := setO_get I ha
  have e : (es.toList.map keyOf).length = es.size := by rw [List.length_map, Array.length_toList]
  refine call_len_set ho hex hd hf (by unfold scanBound at hb; omega) ⟨.int es.size, H, I.tok _, ⟨_, rfl⟩, ?_⟩
  have := q (es.toList.map keyOf) nd fun k => (hm k).symm
  rw [e] at this
  exact this
theorem cr_sortedSetI (hc : X.calm = true) : CallR X (.builtin "sorted") (rSortSet X.w) := by
  intro pins s σ H vs us Q I r h
  obtain ⟨a, S, n, rfl, ha, q⟩ := h
  rw [Vals.ref1 r]
  have R := setO_get I ha
  have hn : n < scanBound := by
    obtain ⟨_, es, _, _, _, _, _, _, _, _, hb, _, hn, _⟩ := R
    rw [← hn]
    exact hb
  refine sort_the_set R (I.ok.hd hc) fun t p out c ns k g o hp hg hi hs hm hl => ?_
  have small : (ns.map V.int).length ≤ sizeLine := by
    rw [List.length_map, hl, sizeLine_eq]
    unfold scanBound at hn
    omega
  have hnp : H p = none := I.hok.fresh hp
  obtain ⟨th, tg, td, tt, to⟩ := t
  obtain rfl : to = s.os := o
  exact ⟨.ref p, _, I.call (ch := []) (h' := th) (g' := tg) (d' := td) (t' := tt) (Un.laid k hp hnp) (I.hok.laid (o := .lst (ns.map V.int)) k hp ⟨small, out.toList, c, vals_of_ints hi, hg⟩) (by rw [show tg = s.gens from g]; exact I.bare) (fun _ z => nomatch z), rfl, q ns p hs hm hnp⟩
end
/-! what they evaluate to -/
section
variable {K : PySem.W.Frag} {w : World} {σ : L2.St} {H : Hp} {te : TE}
/-- how many unlike ones there are -/
def unlike (ns : List Int) : Nat := ns.eraseDups.length
theorem php : ∀ {l m : List Int}, l.Nodup → (∀ x ∈ l, x ∈ m) → l.length ≤ m.length
  | [], m, _, _ => Nat.zero_le _
  | x :: l, m, nd, h => by
    obtain ⟨n1, n2⟩ := List.nodup_cons.mp nd
    have hx := h x List.mem_cons_self
    have ih := php (l := l) (m := m.erase x) n2 fun y hy => by
      have hne : y ≠ x := fun z => n1 (z ▸ hy)
      exact (List.mem_erase_of_ne hne).mpr (h y (List.mem_cons_of_mem _ hy))
    rw [List.length_erase_of_mem hx] at ih
    have : 0 < m.length := List.length_pos_of_mem hx
    rw [List.length_cons]
    omega
theorem not_nodup_dup : ∀ {m : List Int}, ¬ m.Nodup → ∃ x, x ∈ m ∧ x ∈ m.erase x
  | [], h => absurd List.nodup_nil h
  | a :: m, h => by
    by_cases ha : a ∈ m
    · exact ⟨a, List.mem_cons_self, by rw [List.erase_cons_head]; exact ha⟩
    · have hm : ¬ m.Nodup := fun z => h (List.nodup_cons.mpr ⟨ha, z⟩)
      obtain ⟨x, hx, hxe⟩ := not_nodup_dup hm
      have hne : x ≠ a := fun z => ha (z ▸ hx)
      refine ⟨x, List.mem_cons_of_mem _ hx, ?_⟩
      rw [List.erase_cons_tail (by simp [Ne.symm hne])]
      exact List.mem_cons_of_mem _ hxe
/-- a list without repeats of just these: as long just where there are no repeats -/
theorem len_eq_iff {l ns : List Int} (nd : l.Nodup) (h : ∀ k, k ∈ l ↔ k ∈ ns) : l.length = ns.length ↔ ns.Nodup := by
  constructor
  · intro e
    refine Decidable.byContradiction fun hn => ?_
    obtain ⟨x, hx, hxe⟩ := not_nodup_dup hn
    have := php nd (m := ns.erase x) fun y hy => by
      by_cases hyx : y = x
      · rw [hyx]; exact hxe
      · exact (List.mem_erase_of_ne hyx).mpr ((h y).mp hy)
    rw [List.length_erase_of_mem hx] at this
    have h0 : 0 < ns.length := List.length_pos_of_mem hx
    omega
  · intro hn
    have a := php nd fun x hx => (h x).mp hx
    have b := php hn fun x hx => (h x).mpr hx
    omega
theorem len_le {l ns : List Int} (nd : l.Nodup) (h : ∀ k, k ∈ l ↔ k ∈ ns) : l.length ≤ ns.length := php nd fun x hx => (h x).mp hx
/-- len(set(e)) -/
abbrev LenSet (ns : List Int) : Hp → V → Hp → Prop := fun _ v _ => ∃ l : List Int, v = .int (l.length : Nat) ∧ l.Nodup ∧ ∀ k, k ∈ l ↔ k ∈ ns
theorem evp_lenSet {P : Hp → V → Hp → Prop} {ns : List Int} (h : EvP te σ H P) (hp : ∀ H1 v H2, P H1 v H2 → ∃ a, v = .ref a ∧ SqL K H2 a (ns.map V.int)) (hl : ns.length ≤ 2000) :
    EvP (tCB (rLenSet w) (tCons (tCB (rSetL K w) (tCons te tNil)) tNil)) σ H (LenSet ns) := fun H1 e Q q =>
  h H1 e _ fun v H2 e2 hv => by
    obtain ⟨a, rfl, hs⟩ := hp H1 v H2 hv
    exact ⟨a, ns, rfl, hs, hl, fun p c np => ⟨p, _, c, rfl, upd_same, fun l nd hm => q _ _ (e2.trans (Ex.new np)) ⟨l, rfl, nd, fun k => by rw [hm k]; simp⟩⟩⟩
/-- sorted(set(e)) -/
abbrev SortedSet (ns : List Int) : Hp → V → Hp → Prop := fun H1 v H2 => ∃ (p : Addr) (l : List Int), v = .ref p ∧ H1 p = none ∧ H2 p = some (.lst (l.map V.int)) ∧ l.Pairwise (· < ·) ∧ ∀ k, k ∈ l ↔ k ∈ ns
theorem evp_sortSet {P : Hp → V → Hp → Prop} {ns : List Int} (h : EvP te σ H P) (hp : ∀ H1 v H2, P H1 v H2 → ∃ a, v = .ref a ∧ SqL K H2 a (ns.map V.int)) (hl : ns.length ≤ 2000) :
    EvP (tCB (rSortSet w) (tCons (tCB (rSetL K w) (tCons te tNil)) tNil)) σ H (SortedSet ns) := fun H1 e Q q =>
  h H1 e _ fun v H2 e2 hv => by
    obtain ⟨a, rfl, hs⟩ := hp H1 v H2 hv
    refine ⟨a, ns, rfl, hs, hl, fun p c np => ⟨p, _, c, rfl, upd_same, fun l r hpw hm nr => ?_⟩⟩
    have e3 : Ex H1 (upd H2 p (SetO w p (fun j => decide (j ∈ ns)) c)) := e2.trans (Ex.new np)
    exact q _ _ (e3.trans (Ex.new nr)) ⟨r, l, rfl, fresh_back e3 nr, upd_same, hpw, fun k => by rw [hm k]; simp⟩
theorem evp_ref {a : Addr} {xs : List V} (h : Ev te σ H (.ref a)) (hs : SqL K H a xs) : EvP te σ H (fun _ v H2 => v = .ref a ∧ SqL K H2 a xs) := fun H1 e Q q => h H1 e _ fun H2 e2 => q _ H2 e2 ⟨rfl, ex_l (e.trans e2) hs⟩
/-- rising lists of the same are the same -/
theorem rising_eq : ∀ {l m : List Int}, l.Pairwise (· < ·) → m.Pairwise (· < ·) → (∀ k, k ∈ l ↔ k ∈ m) → l = m
  | [], [], _, _, _ => rfl
  | [], y :: m, _, _, h => absurd ((h y).mpr List.mem_cons_self) (by simp)
  | x :: l, [], _, _, h => absurd ((h x).mp List.mem_cons_self) (by simp)
  | x :: l, y :: m, hl, hm, h => by
    obtain ⟨l1, l2⟩ := List.pairwise_cons.mp hl
    obtain ⟨m1, m2⟩ := List.pairwise_cons.mp hm
    have hxy : x = y := by
      have a := (h x).mp List.mem_cons_self
      have b := (h y).mpr List.mem_cons_self
      rcases List.mem_cons.mp a with a | a
      · exact a
      · rcases List.mem_cons.mp b with b | b
        · exact b.symm
        · have c := m1 x a
          have d := l1 y b
          omega
    subst hxy
    congr 1
    refine rising_eq l2 m2 fun k => ⟨fun hk => ?_, fun hk => ?_⟩
    · have c := l1 k hk
      rcases List.mem_cons.mp ((h k).mp (List.mem_cons_of_mem _ hk)) with z | z
      · omega
      · exact z
    · have c := m1 k hk
      rcases List.mem_cons.mp ((h k).mpr (List.mem_cons_of_mem _ hk)) with z | z
      · omega
      · exact z
end
end Lh

namespace Lh
open L2 (sum_set)
/-! ### tables: rows, columns -/
def colAt (T : List (List Int)) (j : Nat) : Int := (T.map fun r => r.getD j 0).sum
def rowSums (T : List (List Int)) : List Int := T.map List.sum
def colSums (T : List (List Int)) (m : Nat) : List Int := (List.range m).map (colAt T)
structure Rect (T : List (List Int)) (n m : Nat) : Prop where
  len : T.length = n
  row : ∀ u ∈ T, u.length = m
structure Good (T : List (List Int)) (n m : Nat) : Prop extends Rect T n m where
  pos : ∀ u ∈ T, ∀ x ∈ u, 0 ≤ x
  n1 : 1 ≤ n
  n20 : n ≤ 20
  m1 : 1 ≤ m
  m20 : m ≤ 20
theorem Rect.rowAt {T : List (List Int)} {n m : Nat} (h : Rect T n m) {i : Nat} {u : List Int} (hu : T[i]? = some u) : u.length = m := h.row u (List.mem_of_getElem? hu)
theorem Rect.lt {T : List (List Int)} {n m : Nat} (h : Rect T n m) {i : Nat} (hi : i < n) : ∃ u, T[i]? = some u ∧ u.length = m := by
  have h2 : i < T.length := by rw [h.len]; exact hi
  exact ⟨T[i], by simp [h2], h.row _ (List.getElem_mem h2)⟩
theorem get_lt {u : List Int} {m j : Nat} (h : u.length = m) (hj : j < m) : ∃ x, u[j]? = some x ∧ u.getD j 0 = x := by
  have h2 : j < u.length := by omega
  exact ⟨u[j], by simp [h2], by simp [List.getD, h2]⟩
theorem getD_of {u : List Int} {j : Nat} {x : Int} (h : u[j]? = some x) : u.getD j 0 = x := by simp [List.getD, h]
theorem Rect.cell {T : List (List Int)} {n m : Nat} (h : Rect T n m) {i j : Nat} (hi : i < n) (hj : j < m) : ∃ u x, T[i]? = some u ∧ u.length = m ∧ u[j]? = some x := by
  obtain ⟨u, hu, hl⟩ := h.lt hi
  obtain ⟨x, hx, _⟩ := get_lt hl hj
  exact ⟨u, x, hu, hl, hx⟩
theorem Rect.set {T : List (List Int)} {n m : Nat} (h : Rect T n m) {i : Nat} {w : List Int} (hw : w.length = m) : Rect (T.set i w) n m := by
  refine ⟨by rw [List.length_set]; exact h.len, fun u hu => ?_⟩
  rcases List.mem_or_eq_of_mem_set hu with h1 | h1
  · exact h.row u h1
  · rw [h1]; exact hw
theorem colSums_len (T : List (List Int)) (m : Nat) : (colSums T m).length = m := by simp [colSums]
theorem colSums_at {T : List (List Int)} {m j : Nat} (h : j < m) : (colSums T m)[j]? = some (colAt T j) := by
  unfold colSums
  rw [List.getElem?_map, List.getElem?_range h]
  rfl
theorem rowSums_len (T : List (List Int)) : (rowSums T).length = T.length := by simp [rowSums]
theorem rowSums_at {T : List (List Int)} {i : Nat} {u : List Int} (h : T[i]? = some u) : (rowSums T)[i]? = some u.sum := by
  unfold rowSums
  rw [List.getElem?_map, h]
  rfl
theorem colAt_nil (j : Nat) : colAt [] j = 0 := rfl
theorem colAt_cons (u : List Int) (T : List (List Int)) (j : Nat) : colAt (u :: T) j = u.getD j 0 + colAt T j := by
  unfold colAt
  rw [List.map_cons, List.sum_cons]
/-- a cell set: the row's sum, the columns' sums -/
theorem colAt_set : ∀ {T : List (List Int)} {i : Nat} {u w : List Int}, T[i]? = some u → ∀ j, colAt (T.set i w) j = colAt T j - u.getD j 0 + w.getD j 0
  | [], i, u, w, h, j => by simp at h
  | a :: T, 0, u, w, h, j => by
    have e : a = u := Option.some.inj h
    subst e
    show colAt (w :: T) j = colAt (a :: T) j - _ + _
    rw [colAt_cons, colAt_cons]
    omega
  | a :: T, i + 1, u, w, h, j => by
    have ih := colAt_set (T := T) (i := i) (u := u) (w := w) h j
    show colAt (a :: T.set i w) j = colAt (a :: T) j - _ + _
    rw [colAt_cons, colAt_cons, ih]
    omega
theorem getD_set_self {u : List Int} {j : Nat} {x : Int} (h : j < u.length) : (u.set j x).getD j 0 = x := by
  unfold List.getD
  rw [List.getElem?_set_self h] <;> rfl
theorem getD_set_ne {u : List Int} {j k : Nat} {x : Int} (h : j ≠ k) : (u.set j x).getD k 0 = u.getD k 0 := by
  unfold List.getD
  rw [List.getElem?_set_ne h]
/-- the sum of a list by its places -/
theorem sum_range_get : ∀ (u : List Int) (m : Nat), u.length = m → ((List.range m).map fun j => u.getD j 0).sum = u.sum
  | [], m, h => by
    subst h
    rfl
  | a :: u, m, h => by
    subst h
    show ((List.range (u.length + 1)).map fun j => (a :: u).getD j 0).sum = _
    rw [List.range_succ_eq_map, List.map_cons, List.sum_cons, List.map_map, List.sum_cons]
    have ih := sum_range_get u u.length rfl
    have e : ((fun j => (a :: u).getD j 0) ∘ Nat.succ) = fun j => u.getD j 0 := by
      funext j
      simp [List.getD]
    rw [e, ih]
    rfl
theorem sum_map_add {α : Type} (f g : α → Int) : ∀ l : List α, (l.map fun x => f x + g x).sum = (l.map f).sum + (l.map g).sum
  | [] => rfl
  | a :: l => by
    rw [List.map_cons, List.map_cons, List.map_cons, List.sum_cons, List.sum_cons, List.sum_cons, sum_map_add f g l]
    omega
theorem sum_map_zero {α : Type} : ∀ l : List α, (l.map fun _ => (0 : Int)).sum = 0
  | [] => rfl
  | a :: l => by
    rw [List.map_cons, List.sum_cons, sum_map_zero l]
    rfl
theorem sum_map_sub {α : Type} (f g : α → Int) : ∀ l : List α, (l.map fun x => f x - g x).sum = (l.map f).sum - (l.map g).sum
  | [] => rfl
  | a :: l => by
    rw [List.map_cons, List.map_cons, List.map_cons, List.sum_cons, List.sum_cons, List.sum_cons, sum_map_sub f g l]
    omega
theorem sum_map_const {α : Type} (c : Int) : ∀ l : List α, (l.map fun _ => c).sum = (l.length : Int) * c
  | [] => by simp
  | a :: l => by
    rw [List.map_cons, List.sum_cons, sum_map_const c l, List.length_cons]
    have : ((l.length + 1 : Nat) : Int) * c = (l.length : Int) * c + c := by
      rw [Int.natCast_add, Int.add_mul]
      simp
    rw [this]
    omega
/-- both ways to add up a table -/
theorem sums_agree : ∀ {T : List (List Int)} {m : Nat}, (∀ u ∈ T, u.length = m) → (rowSums T).sum = (colSums T m).sum
  | [], m, _ => by
    show (0 : Int) = ((List.range m).map fun j => colAt [] j).sum
    have e : (fun j => colAt [] j) = fun _ => (0 : Int) := by
      funext j
      rfl
    rw [e, sum_map_zero]
  | u :: T, m, h => by
    have ih := sums_agree (T := T) (m := m) fun v hv => h v (List.mem_cons_of_mem _ hv)
    show (u.sum :: rowSums T).sum = ((List.range m).map fun j => colAt (u :: T) j).sum
    have e : (fun j => colAt (u :: T) j) = fun j => u.getD j 0 + colAt T j := by
      funext j
      exact colAt_cons u T j
    rw [e, sum_map_add, List.sum_cons, ih, sum_range_get u m (h u List.mem_cons_self)]
    rfl
theorem sum_nonneg : ∀ {l : List Int}, (∀ x ∈ l, 0 ≤ x) → 0 ≤ l.sum
  | [], _ => Int.le_refl 0
  | a :: l, h => by
    have ih := sum_nonneg (l := l) fun x hx => h x (List.mem_cons_of_mem _ hx)
    have ha := h a List.mem_cons_self
    rw [List.sum_cons]
    omega
theorem le_sum : ∀ {l : List Int}, (∀ x ∈ l, 0 ≤ x) → ∀ y ∈ l, y ≤ l.sum
  | [], _, y, hy => by cases hy
  | a :: l, h, y, hy => by
    have h0 := sum_nonneg (l := l) fun x hx => h x (List.mem_cons_of_mem _ hx)
    have ha := h a List.mem_cons_self
    rw [List.sum_cons]
    rcases List.mem_cons.mp hy with rfl | hy
    · omega
    · have := le_sum (l := l) (fun x hx => h x (List.mem_cons_of_mem _ hx)) y hy
      omega
theorem zero_of_sum {l : List Int} (h : ∀ x ∈ l, 0 ≤ x) (hs : l.sum = 0) : ∀ y ∈ l, y = 0 := fun y hy => by
  have h1 := le_sum h y hy
  have h2 := h y hy
  omega

/-! ### raising -/
structure Raised (T : List (List Int)) (n m : Nat) (hours : Int) (F : List (List Int)) : Prop where
  rect : Rect F (max n m) (max n m)
  le : ∀ i j, i < max n m → j < max n m → ((T.getD i []).getD j 0) ≤ (F.getD i []).getD j 0
  rows : ∀ u ∈ F, u.sum = hours
  cols : ∀ j, j < max n m → colAt F j = hours
/-- the padded table -/
def padded (T : List (List Int)) (n m : Nat) : List (List Int) := (T.map fun u => u ++ List.replicate (max n m - u.length) 0) ++ List.replicate (max n m - n) (List.replicate (max n m) 0)
theorem padded_rect {T : List (List Int)} {n m : Nat} (h : Rect T n m) : Rect (padded T n m) (max n m) (max n m) := by
  refine ⟨?_, fun u hu => ?_⟩
  · unfold padded
    rw [List.length_append, List.length_map, List.length_replicate, h.len]
    omega
  · unfold padded at hu
    rcases List.mem_append.mp hu with hu | hu
    · obtain ⟨v, hv, rfl⟩ := List.mem_map.mp hu
      have := h.row v hv
      rw [List.length_append, List.length_replicate]
      omega
    · rw [(List.mem_replicate.mp hu).2, List.length_replicate]
theorem padded_get {T : List (List Int)} {n m : Nat} (h : Rect T n m) (i j : Nat) : ((padded T n m).getD i []).getD j 0 = (T.getD i []).getD j 0 := by
  have rep0 : ∀ k, (List.replicate k (0 : Int)).getD j 0 = 0 := fun k => by
    unfold List.getD
    rw [List.getElem?_replicate]
    split <;> rfl
  unfold padded
  by_cases hi : i < n
  · have hi2 : i < T.length := by rw [h.len]; exact hi
    have e1 : (List.map (fun (u : List Int) => u ++ List.replicate (max n m - u.length) 0) T ++ List.replicate (max n m - n) (List.replicate (max n m) 0)).getD i [] = T[i] ++ List.replicate (max n m - T[i].length) 0 := by
      unfold List.getD
      rw [List.getElem?_append_left (by rw [List.length_map]; exact hi2), List.getElem?_map, List.getElem?_eq_getElem hi2]
      rfl
    have e2 : T.getD i [] = T[i] := by simp [List.getD, hi2]
    rw [e1, e2]
    unfold List.getD
    by_cases hj : j < T[i].length
    · rw [List.getElem?_append_left hj]
    · rw [List.getElem?_append_right (by omega), List.getElem?_replicate, List.getElem?_eq_none (by omega)]
      split <;> rfl
  · have e2 : T.getD i [] = [] := by
      unfold List.getD
      rw [List.getElem?_eq_none (by rw [h.len]; omega)]
      rfl
    rw [e2]
    have : (List.map (fun (u : List Int) => u ++ List.replicate (max n m - u.length) 0) T ++ List.replicate (max n m - n) (List.replicate (max n m) 0)).getD i [] = [] ∨ (List.map (fun (u : List Int) => u ++ List.replicate (max n m - u.length) 0) T ++ List.replicate (max n m - n) (List.replicate (max n m) 0)).getD i [] = List.replicate (max n m) 0 := by
      unfold List.getD
      rw [List.getElem?_append_right (by rw [List.length_map, h.len]; omega), List.getElem?_replicate]
      split
      · exact .inr rfl
      · exact .inl rfl
    rcases this with e | e
    · rw [e]
    · rw [e, rep0]; rfl
/-- the state of the filling: the table so far, what each row and each column still wants -/
structure Fill (s : Nat) (F0 : List (List Int)) (hours : Int) (F : List (List Int)) (R C : List Int) : Prop where
  rect : Rect F s s
  le : ∀ i j, i < s → j < s → (F0.getD i []).getD j 0 ≤ (F.getD i []).getD j 0
  rl : R.length = s
  cl : C.length = s
  r0 : ∀ x ∈ R, 0 ≤ x
  c0 : ∀ x ∈ C, 0 ≤ x
  rs : ∀ (i : Nat) (u : List Int) (x : Int), F[i]? = some u → R[i]? = some x → u.sum + x = hours
  cs : ∀ (j : Nat) (x : Int), C[j]? = some x → colAt F j + x = hours
  eq : R.sum = C.sum
theorem mem_set {l : List Int} {i : Nat} {y x : Int} (h : x ∈ l.set i y) : x ∈ l ∨ x = y := List.mem_or_eq_of_mem_set h
theorem Fill.step {s : Nat} {F0 : List (List Int)} {hours : Int} {F : List (List Int)} {R C : List Int} (h : Fill s F0 hours F R C) {r c : Nat} {u : List Int} {z x y : Int} (hu : F[r]? = some u) (hz : u[c]? = some z) (hx : R[r]? = some x) (hy : C[c]? = some y) :
    Fill s F0 hours (F.set r (u.set c (z + min x y))) (R.set r (x - min x y)) (C.set c (y - min x y)) := by
  have hxm := h.r0 x (List.mem_of_getElem? hx)
  have hym := h.c0 y (List.mem_of_getElem? hy)
  have ul := h.rect.rowAt hu
  have hcl : c < u.length := (List.getElem?_eq_some_iff.mp hz).1
  have hrl : r < F.length := (List.getElem?_eq_some_iff.mp hu).1
  refine ⟨h.rect.set (by rw [List.length_set]; exact ul), fun i j hi hj => ?_, by rw [List.length_set]; exact h.rl, by rw [List.length_set]; exact h.cl, fun a ha => ?_, fun a ha => ?_, fun i v a hv ha => ?_, fun j a ha => ?_, ?_⟩
  · have h0 := h.le i j hi hj
    by_cases hir : i = r
    · subst hir
      have e1 : (F.set i (u.set c (z + min x y))).getD i [] = u.set c (z + min x y) := by
        unfold List.getD
        rw [List.getElem?_set_self hrl]
        rfl
      have e2 : F.getD i [] = u := by simp [List.getD, hu]
      rw [e1]
      rw [e2] at h0
      by_cases hjc : c = j
      · subst hjc
        rw [getD_set_self hcl]
        rw [getD_of hz] at h0
        omega
      · rw [getD_set_ne hjc]
        exact h0
    · have e1 : (F.set r (u.set c (z + min x y))).getD i [] = F.getD i [] := by
        unfold List.getD
        rw [List.getElem?_set_ne (Ne.symm hir)]
      rw [e1]
      exact h0
  · rcases mem_set ha with h1 | h1
    · exact h.r0 a h1
    · omega
  · rcases mem_set ha with h1 | h1
    · exact h.c0 a h1
    · omega
  · by_cases hir : i = r
    · subst hir
      have hrl2 : i < R.length := (List.getElem?_eq_some_iff.mp hx).1
      rw [List.getElem?_set_self hrl] at hv
      rw [List.getElem?_set_self hrl2] at ha
      cases hv
      cases ha
      have := h.rs i u x hu hx
      rw [sum_set hz]
      omega
    · rw [List.getElem?_set_ne (Ne.symm hir)] at hv ha
      exact h.rs i v a hv ha
  · rw [colAt_set hu]
    by_cases hjc : c = j
    · subst hjc
      have hcl2 : c < C.length := (List.getElem?_eq_some_iff.mp hy).1
      rw [List.getElem?_set_self hcl2] at ha
      cases ha
      have := h.cs c y hy
      rw [getD_of hz, getD_set_self hcl]
      omega
    · rw [List.getElem?_set_ne hjc] at ha
      have := h.cs j a ha
      rw [getD_set_ne hjc]
      omega
  · rw [sum_set hx, sum_set hy]
    have := h.eq
    omega
/-- rows before r are full; in row r: it is full, or the columns before c are -/
structure FillAt (s : Nat) (F0 : List (List Int)) (hours : Int) (r c : Nat) (F : List (List Int)) (R C : List Int) : Prop extends Fill s F0 hours F R C where
  done : ∀ (i : Nat) (x : Int), i < r → R[i]? = some x → x = 0
  here : (∀ x : Int, R[r]? = some x → x = 0) ∨ ∀ (j : Nat) (x : Int), j < c → C[j]? = some x → x = 0
theorem FillAt.step {s : Nat} {F0 : List (List Int)} {hours : Int} {F : List (List Int)} {R C : List Int} {r c : Nat} (h : FillAt s F0 hours r c F R C) {u : List Int} {z x y : Int} (hu : F[r]? = some u) (hz : u[c]? = some z) (hx : R[r]? = some x) (hy : C[c]? = some y) :
    FillAt s F0 hours r (c + 1) (F.set r (u.set c (z + min x y))) (R.set r (x - min x y)) (C.set c (y - min x y)) := by
  have hxm := h.r0 x (List.mem_of_getElem? hx)
  have hym := h.c0 y (List.mem_of_getElem? hy)
  have hrl : r < R.length := (List.getElem?_eq_some_iff.mp hx).1
  have hcl : c < C.length := (List.getElem?_eq_some_iff.mp hy).1
  refine { h.toFill.step hu hz hx hy with done := fun i a hi ha => ?_, here := ?_ }
  · rw [List.getElem?_set_ne (by omega)] at ha
    exact h.done i a hi ha
  · rcases h.here with h1 | h1
    · refine .inl fun a ha => ?_
      have := h1 x hx
      rw [List.getElem?_set_self hrl] at ha
      cases ha
      omega
    · by_cases hxy : x ≤ y
      · refine .inl fun a ha => ?_
        rw [List.getElem?_set_self hrl] at ha
        cases ha
        omega
      · refine .inr fun j a hj ha => ?_
        by_cases hjc : c = j
        · subst hjc
          rw [List.getElem?_set_self hcl] at ha
          cases ha
          omega
        · rw [List.getElem?_set_ne hjc] at ha
          exact h1 j a (by omega) ha
theorem FillAt.row {s : Nat} {F0 : List (List Int)} {hours : Int} {F : List (List Int)} {R C : List Int} {r : Nat} (h : FillAt s F0 hours r s F R C) : FillAt s F0 hours (r + 1) 0 F R C := by
  refine { h.toFill with done := fun i a hi ha => ?_, here := .inr fun j x hj => by omega }
  by_cases hir : i < r
  · exact h.done i a hir ha
  · have : i = r := by omega
    subst this
    rcases h.here with h1 | h1
    · exact h1 a ha
    · have hC : C.sum = 0 := by
        have e : ∀ x ∈ C, x = 0 := fun x hx => by
          obtain ⟨j, hj⟩ := List.mem_iff_getElem?.mp hx
          exact h1 j x (by rw [← h.cl]; exact (List.getElem?_eq_some_iff.mp hj).1) hj
        have e2 : C = C.map fun _ => (0 : Int) := by
          rw [List.map_congr_left (g := id)]
          · simp
          · intro x hx
            rw [e x hx]
            rfl
        rw [e2, sum_map_zero]
      exact zero_of_sum h.r0 (by rw [h.eq, hC]) a (List.mem_of_getElem? ha)
theorem FillAt.all {s : Nat} {F0 : List (List Int)} {hours : Int} {F : List (List Int)} {R C : List Int} (h : FillAt s F0 hours s 0 F R C) : (∀ u ∈ F, u.sum = hours) ∧ ∀ j, j < s → colAt F j = hours := by
  have hR : ∀ x ∈ R, x = 0 := fun x hx => by
    obtain ⟨j, hj⟩ := List.mem_iff_getElem?.mp hx
    exact h.done j x (by rw [← h.rl]; exact (List.getElem?_eq_some_iff.mp hj).1) hj
  have hRs : R.sum = 0 := by
    have e2 : R = R.map fun _ => (0 : Int) := by
      rw [List.map_congr_left (g := id)]
      · simp
      · intro x hx
        rw [hR x hx]
        rfl
    rw [e2, sum_map_zero]
  have hC := zero_of_sum h.c0 (by rw [← h.eq]; exact hRs)
  refine ⟨fun u hu => ?_, fun j hj => ?_⟩
  · obtain ⟨i, hi⟩ := List.mem_iff_getElem?.mp hu
    have hil : i < R.length := by rw [h.rl, ← h.rect.len]; exact (List.getElem?_eq_some_iff.mp hi).1
    have := h.rs i u R[i] hi (by simp [hil])
    have h0 := hR R[i] (List.getElem_mem hil)
    omega
  · have hjl : j < C.length := by rw [h.cl]; exact hj
    have := h.cs j C[j] (by simp [hjl])
    have h0 := hC C[j] (List.getElem_mem hjl)
    omega
/-- where the filling begins -/
theorem fill_start {s : Nat} {F0 : List (List Int)} {hours : Int} (h : Rect F0 s s) (hr : ∀ u ∈ F0, u.sum ≤ hours) (hc : ∀ j, j < s → colAt F0 j ≤ hours) : FillAt s F0 hours 0 0 F0 ((rowSums F0).map fun x => hours - x) ((colSums F0 s).map fun x => hours - x) := by
  refine ⟨⟨h, fun _ _ _ _ => Int.le_refl _, by simp [rowSums, h.len], by simp [colSums], fun x hx => ?_, fun x hx => ?_, fun i u x hu hx => ?_, fun j x hx => ?_, ?_⟩, fun i x hi => by omega, .inr fun j x hj => by omega⟩
  · obtain ⟨y, hy, rfl⟩ := List.mem_map.mp hx
    obtain ⟨u, hu, rfl⟩ := List.mem_map.mp hy
    have := hr u hu
    omega
  · obtain ⟨y, hy, rfl⟩ := List.mem_map.mp hx
    obtain ⟨j, hj, rfl⟩ := List.mem_map.mp hy
    have := hc j (List.mem_range.mp hj)
    omega
  · rw [List.getElem?_map, rowSums_at hu] at hx
    cases hx
    show u.sum + (hours - u.sum) = hours
    omega
  · have hj : j < s := by
      have := (List.getElem?_eq_some_iff.mp hx).1
      simpa [colSums] using this
    rw [List.getElem?_map, colSums_at hj] at hx
    cases hx
    show colAt F0 j + (hours - colAt F0 j) = hours
    omega
  · rw [sum_map_sub (fun _ => hours) (fun x => x), sum_map_sub (fun _ => hours) (fun x => x), sum_map_const, sum_map_const, List.map_id', List.map_id', sums_agree h.row, rowSums_len, colSums_len, h.len]
theorem fill_end {T : List (List Int)} {n m : Nat} {hours : Int} {F : List (List Int)} {R C : List Int} (hT : Rect T n m) (h : FillAt (max n m) (padded T n m) hours (max n m) 0 F R C) : Raised T n m hours F := by
  obtain ⟨h1, h2⟩ := h.all
  refine ⟨h.rect, fun i j hi hj => ?_, h1, h2⟩
  have := h.le i j hi hj
  rw [padded_get hT] at this
  exact this
theorem sum_replicate0 (k : Nat) : (List.replicate k (0 : Int)).sum = 0 := by
  induction k with
  | zero => rfl
  | succ k ih => rw [List.replicate_succ, List.sum_cons, ih]; rfl
theorem padded_rows {T : List (List Int)} {n m : Nat} {hours : Int} (h : ∀ u ∈ T, u.sum ≤ hours) (h0 : 0 ≤ hours) : ∀ u ∈ padded T n m, u.sum ≤ hours := fun u hu => by
  unfold padded at hu
  rcases List.mem_append.mp hu with hu | hu
  · obtain ⟨v, hv, rfl⟩ := List.mem_map.mp hu
    rw [List.sum_append, sum_replicate0]
    have := h v hv
    omega
  · rw [(List.mem_replicate.mp hu).2, sum_replicate0]
    exact h0
theorem colAt_append (A B : List (List Int)) (j : Nat) : colAt (A ++ B) j = colAt A j + colAt B j := by
  unfold colAt
  rw [List.map_append, List.sum_append]
theorem colAt_zero (k s j : Nat) : colAt (List.replicate k (List.replicate s 0)) j = 0 := by
  induction k with
  | zero => rfl
  | succ k ih =>
    rw [List.replicate_succ, colAt_cons, ih]
    unfold List.getD
    rw [List.getElem?_replicate]
    split <;> rfl
theorem colAt_pad (f : List Int → Nat) (j : Nat) : ∀ T : List (List Int), colAt (T.map fun u => u ++ List.replicate (f u) 0) j = colAt T j
  | [] => rfl
  | u :: T => by
    rw [List.map_cons, colAt_cons, colAt_cons, colAt_pad f j T]
    congr 1
    unfold List.getD
    by_cases hj : j < u.length
    · rw [List.getElem?_append_left hj]
    · rw [List.getElem?_append_right (by omega), List.getElem?_replicate, List.getElem?_eq_none (by omega)]
      split <;> rfl
theorem colAt_out {T : List (List Int)} {n m : Nat} (h : Rect T n m) {j : Nat} (hj : m ≤ j) : colAt T j = 0 := by
  unfold colAt
  have e : (T.map fun r => r.getD j 0) = T.map fun _ => (0 : Int) := List.map_congr_left fun u hu => by
    have := h.row u hu
    unfold List.getD
    rw [List.getElem?_eq_none (by omega)]
    rfl
  rw [e, sum_map_zero]
theorem padded_cols {T : List (List Int)} {n m : Nat} {hours : Int} (h : Rect T n m) (hc : ∀ j, j < m → colAt T j ≤ hours) (h0 : 0 ≤ hours) : ∀ j, j < max n m → colAt (padded T n m) j ≤ hours := fun j hj => by
  unfold padded
  rw [colAt_append, colAt_zero, colAt_pad]
  by_cases hm : j < m
  · have := hc j hm
    omega
  · rw [colAt_out h (by omega)]
    omega
end Lh

namespace Lh
/-! ### who can have which class -/
def cell (T : List (List Int)) (t p : Nat) : Int := (T.getD t []).getD p 0
theorem cell_of {T : List (List Int)} {t p : Nat} {u : List Int} {x : Int} (hu : T[t]? = some u) (hx : u[p]? = some x) : cell T t p = x := by
  unfold cell
  have : T.getD t [] = u := by simp [List.getD, hu]
  rw [this]
  exact getD_of hx
/-- t has p for so many hours or more -/
def Adj (T : List (List Int)) (n m : Nat) (least : Int) (t p : Nat) : Prop := t < n ∧ p < m ∧ least ≤ cell T t p
instance (T : List (List Int)) (n m : Nat) (least : Int) (t p : Nat) : Decidable (Adj T n m least t p) := by unfold Adj; infer_instance
/-! ### classes taken: a function from places to teachers -/
abbrev Tk := Nat → Option Nat
def put (f : Tk) (p t : Nat) : Tk := fun q => if q = p then some t else f q
def cnt (m : Nat) (f : Tk) (t : Nat) : Nat := ((List.range m).filter fun p => decide (f p = some t)).length
theorem filter_len_upd {m p : Nat} (hp : p < m) (a b : Nat → Bool) (h : ∀ q, q ≠ p → a q = b q) : ((List.range m).filter a).length + (if b p then 1 else 0) = ((List.range m).filter b).length + (if a p then 1 else 0) := by
  induction m with
  | zero => omega
  | succ m ih =>
    rw [List.range_succ, List.filter_append, List.filter_append, List.length_append, List.length_append]
    by_cases hm : p = m
    · subst hm
      have e : (List.range p).filter a = (List.range p).filter b := List.filter_congr fun q hq => h q (by have := List.mem_range.mp hq; omega)
      rw [e]
      cases ha : a p <;> cases hb : b p <;> simp [List.filter_cons, ha, hb]
    · have := ih (by omega)
      have e := h m (Ne.symm hm)
      cases hb : b m <;> simp [List.filter_cons, e, hb] <;> omega
theorem cnt_new {m : Nat} {f : Tk} {p t : Nat} (hp : p < m) (h : f p = none) (x : Nat) : cnt m (put f p t) x = cnt m f x + (if x = t then 1 else 0) := by
  have := filter_len_upd hp (fun q => decide (put f p t q = some x)) (fun q => decide (f q = some x)) fun q hq => by simp [put, hq]
  unfold cnt
  simp only [put, if_true, h] at this
  by_cases hx : x = t
  · subst hx
    simp at this
    simp [put]
    omega
  · have hx2 : ¬ t = x := fun z => hx z.symm
    simp [hx2] at this
    simp [put, hx]
    omega
theorem cnt_old {m : Nat} {f : Tk} {p t u : Nat} (hp : p < m) (h : f p = some u) (x : Nat) : cnt m (put f p t) x + (if x = u then 1 else 0) = cnt m f x + (if x = t then 1 else 0) := by
  have := filter_len_upd hp (fun q => decide (put f p t q = some x)) (fun q => decide (f q = some x)) fun q hq => by simp [put, hq]
  unfold cnt
  simp only [put, if_true, h, Option.some.injEq] at this
  by_cases hx : x = t <;> by_cases hy : x = u
  · subst hx
    subst hy
    simp at this
    simp [put]
    omega
  · subst hx
    have hy2 : ¬ u = x := fun z => hy z.symm
    simp [hy2] at this
    simp [put, hy]
    omega
  · subst hy
    have hx2 : ¬ t = x := fun z => hx z.symm
    simp [hx2] at this
    simp [put, hx]
    omega
  · have hx2 : ¬ t = x := fun z => hx z.symm
    have hy2 : ¬ u = x := fun z => hy z.symm
    simp [hx2, hy2] at this
    simp [put, hx, hy]
    omega
theorem cnt_pos {m : Nat} {f : Tk} {p t : Nat} (hp : p < m) (h : f p = some t) : 1 ≤ cnt m f t := by
  unfold cnt
  exact List.length_pos_of_mem (List.mem_filter.mpr ⟨List.mem_range.mpr hp, by simp [h]⟩)
theorem cnt_one {m : Nat} {f : Tk} {p q t : Nat} (hp : p < m) (hq : q < m) (h1 : f p = some t) (h2 : f q = some t) (hc : cnt m f t ≤ 1) : p = q := by
  refine Decidable.byContradiction fun hne => ?_
  have nd : ([p, q] : List Nat).Nodup := by simp [hne]
  have : ([p, q] : List Nat).length ≤ ((List.range m).filter fun p => decide (f p = some t)).length := by
    have mp : p ∈ (List.range m).filter fun p => decide (f p = some t) := List.mem_filter.mpr ⟨List.mem_range.mpr hp, by simp [h1]⟩
    have mq : q ∈ (List.range m).filter fun p => decide (f p = some t) := List.mem_filter.mpr ⟨List.mem_range.mpr hq, by simp [h2]⟩
    generalize (List.range m).filter (fun p => decide (f p = some t)) = l at mp mq
    match l, mp, mq with
    | [], mp, _ => cases mp
    | [x], mp, mq =>
      have a : p = x := by simpa using mp
      have b : q = x := by simpa using mq
      exact absurd (a.trans b.symm) hne
    | x :: y :: l, _, _ => simp
  unfold cnt at hc
  simp at this
  omega
theorem cnt_some {m : Nat} {f : Tk} {t : Nat} (h : 1 ≤ cnt m f t) : ∃ p, p < m ∧ f p = some t := by
  unfold cnt at h
  obtain ⟨p, hp⟩ := List.exists_mem_of_length_pos (show 0 < _ from h)
  obtain ⟨h1, h2⟩ := List.mem_filter.mp hp
  exact ⟨p, List.mem_range.mp h1, of_decide_eq_true h2⟩
/-- all who have one have it rightly -/
def Fit (T : List (List Int)) (n m : Nat) (least : Int) (f : Tk) : Prop := ∀ p t, f p = some t → Adj T n m least t p
/-! ### what freed does -/
structure Won (T : List (List Int)) (n m : Nat) (least : Int) (w : Nat) (f : Tk) (tt : List Nat) (f' : Tk) : Prop where
  fit : Fit T n m least f'
  stay : ∀ p ∈ tt, f' p = f p
  cnts : ∀ x, cnt m f' x = cnt m f x + (if x = w then 1 else 0)
structure Lost (T : List (List Int)) (n m : Nat) (least : Int) (w : Nat) (f : Tk) (tt tt' : List Nat) : Prop where
  sub : ∀ p ∈ tt, p ∈ tt'
  nd : tt'.Nodup
  here : ∀ p, Adj T n m least w p → p ∈ tt'
  all : ∀ p ∈ tt', p ∉ tt → p < m ∧ ∃ t, f p = some t ∧ ∀ q, Adj T n m least t q → q ∈ tt'
/-- in the middle of the walk: the first i places looked at -/
structure Mid (T : List (List Int)) (n m : Nat) (least : Int) (w : Nat) (f : Tk) (tt : List Nat) (i : Nat) (tt' : List Nat) : Prop where
  sub : ∀ p ∈ tt, p ∈ tt'
  nd : tt'.Nodup
  here : ∀ p, p < i → Adj T n m least w p → p ∈ tt'
  all : ∀ p ∈ tt', p ∉ tt → p < m ∧ ∃ t, f p = some t ∧ ∀ q, Adj T n m least t q → q ∈ tt'
section
variable {T : List (List Int)} {n m : Nat} {least : Int} {w : Nat} {f : Tk} {tt : List Nat}
theorem mid_start (nd : tt.Nodup) : Mid T n m least w f tt 0 tt := ⟨fun _ h => h, nd, fun p h => by omega, fun p h h2 => absurd h h2⟩
theorem Mid.done {tt' : List Nat} (h : Mid T n m least w f tt m tt') : Lost T n m least w f tt tt' := ⟨h.sub, h.nd, fun p hp => h.here p hp.2.1 hp, h.all⟩
theorem Mid.skip {i : Nat} {tt' : List Nat} (h : Mid T n m least w f tt i tt') (hs : Adj T n m least w i → i ∈ tt') : Mid T n m least w f tt (i + 1) tt' :=
  ⟨h.sub, h.nd, fun p hp ha => by
    by_cases e : p = i
    · subst e; exact hs ha
    · exact h.here p (by omega) ha, h.all⟩
/-- a place is tried, its holder can't go elsewhere -/
theorem Mid.lost {i : Nat} {tt' tt2 : List Nat} {t : Nat} (h : Mid T n m least w f tt i tt') (hi : i < m) (hf : f i = some t) (hl : Lost T n m least t f (tt' ++ [i]) tt2) : Mid T n m least w f tt (i + 1) tt2 := by
  refine ⟨fun p hp => hl.sub p (List.mem_append_left _ (h.sub p hp)), hl.nd, fun p hp ha => ?_, fun p hp hn => ?_⟩
  · by_cases e : p = i
    · subst e
      exact hl.sub p (by simp)
    · exact hl.sub p (List.mem_append_left _ (h.here p (by omega) ha))
  · by_cases h1 : p ∈ tt'
    · obtain ⟨a, t', b, c⟩ := h.all p h1 hn
      exact ⟨a, t', b, fun q hq => hl.sub q (List.mem_append_left _ (c q hq))⟩
    · by_cases h2 : p = i
      · subst h2
        exact ⟨hi, t, hf, hl.here⟩
      · exact hl.all p hp (by simp [h1, h2])
/-- a place that none has -/
theorem won_free {p : Nat} {tt' : List Nat} (hs : ∀ q ∈ tt, q ∈ tt') (hf : Fit T n m least f) (ha : Adj T n m least w p) (hn : p ∉ tt') (h : f p = none) : Won T n m least w f tt (put f p w) := by
  refine ⟨fun q t hq => ?_, fun q hq => ?_, fun x => cnt_new ha.2.1 h x⟩
  · unfold put at hq
    split at hq
    · rename_i e
      subst e
      cases hq
      exact ha
    · exact hf q t hq
  · have : q ≠ p := fun z => hn (hs p (z ▸ hq))
    simp [put, this]
/-- a place whose holder has gone elsewhere -/
theorem won_moved {p t : Nat} {tt' : List Nat} {f' : Tk} (hs : ∀ q ∈ tt, q ∈ tt') (ha : Adj T n m least w p) (hn : p ∉ tt') (h : f p = some t) (hw : Won T n m least t f (tt' ++ [p]) f') : Won T n m least w f tt (put f' p w) := by
  have hp : f' p = some t := by rw [hw.stay p (by simp)]; exact h
  refine ⟨fun q u hq => ?_, fun q hq => ?_, fun x => ?_⟩
  · unfold put at hq
    split at hq
    · rename_i e
      subst e
      cases hq
      exact ha
    · exact hw.fit q u hq
  · have : q ≠ p := fun z => hn (hs p (z ▸ hq))
    simp only [put, this, if_false]
    exact hw.stay q (List.mem_append_left _ (hs q hq))
  · have a := cnt_old (t := w) ha.2.1 hp x
    have b := hw.cnts x
    omega
end
/-! ### a choice, or too few -/
structure Choice (T : List (List Int)) (n m : Nat) (least : Int) (L : List Nat) : Prop where
  len : L.length = n
  nd : L.Nodup
  adj : ∀ (t p : Nat), L[t]? = some p → Adj T n m least t p
/-- the places with so many hours for any of these -/
def someP (T : List (List Int)) (m : Nat) (S : List Int) (least : Int) : List Nat := (List.range m).filter fun p => S.any fun t => decide (least ≤ cell T t.toNat p)
def inRange (n : Nat) (S : List Int) : Bool := S.all fun t => decide (0 ≤ t) && decide (t < (n : Int))
/-- teachers, rising, one or more, who have fewer such classes than they are -/
def tooFewB (T : List (List Int)) (n m : Nat) (S : List Int) (least : Int) : Bool := decide (S ≠ []) && decide (S.Pairwise (· < ·)) && inRange n S && decide ((someP T m S least).length < S.length)
theorem phpN : ∀ {l m : List Nat}, l.Nodup → (∀ x ∈ l, x ∈ m) → l.length ≤ m.length
  | [], m, _, _ => Nat.zero_le _
  | x :: l, m, nd, h => by
    obtain ⟨n1, n2⟩ := List.nodup_cons.mp nd
    have hx := h x List.mem_cons_self
    have ih := phpN (l := l) (m := m.erase x) n2 fun y hy => by
      have hne : y ≠ x := fun z => n1 (z ▸ hy)
      exact (List.mem_erase_of_ne hne).mpr (h y (List.mem_cons_of_mem _ hy))
    rw [List.length_erase_of_mem hx] at ih
    have : 0 < m.length := List.length_pos_of_mem hx
    rw [List.length_cons]
    omega
theorem rising_nodup {S : List Int} (h : S.Pairwise (· < ·)) : S.Nodup := h.imp fun {a b} hab => by omega
theorem mem_range_of {n : Nat} {S : List Int} (h : inRange n S = true) {t : Int} (ht : t ∈ S) : 0 ≤ t ∧ t < (n : Int) := by
  have := List.all_eq_true.mp h t ht
  simp at this
  exact this
theorem nodup_map {α β : Type} (g : α → β) : ∀ {l : List α}, l.Nodup → (∀ x ∈ l, ∀ y ∈ l, g x = g y → x = y) → (l.map g).Nodup
  | [], _, _ => List.nodup_nil
  | a :: l, nd, h => by
    obtain ⟨n1, n2⟩ := List.nodup_cons.mp nd
    refine List.nodup_cons.mpr ⟨fun z => ?_, nodup_map g n2 fun x hx y hy => h x (List.mem_cons_of_mem _ hx) y (List.mem_cons_of_mem _ hy)⟩
    obtain ⟨b, hb, e⟩ := List.mem_map.mp z
    have := h b (List.mem_cons_of_mem _ hb) a List.mem_cons_self e
    exact n1 (this ▸ hb)
theorem nodup_at {l : List Nat} (nd : l.Nodup) {i j x : Nat} (a : l[i]? = some x) (b : l[j]? = some x) : i = j := by
  obtain ⟨h1, e1⟩ := List.getElem?_eq_some_iff.mp a
  obtain ⟨h2, e2⟩ := List.getElem?_eq_some_iff.mp b
  exact (List.getElem_inj nd).mp (e1.trans e2.symm)
/-- where there is a choice, none are too few -/
theorem Choice.enough {T : List (List Int)} {n m : Nat} {least : Int} {L : List Nat} (h : Choice T n m least L) (S : List Int) : tooFewB T n m S least = false := by
  cases hb : tooFewB T n m S least with
  | false => rfl
  | true =>
    exfalso
    unfold tooFewB at hb
    simp only [Bool.and_eq_true, decide_eq_true_eq] at hb
    obtain ⟨⟨⟨_, h2⟩, h3⟩, h4⟩ := hb
    have nd := rising_nodup h2
    have key : S.length ≤ (someP T m S least).length := by
      have e : (S.map fun t => L.getD t.toNat 0).length = S.length := List.length_map ..
      rw [← e]
      refine phpN (nodup_map _ nd fun x hx y hy exy => ?_) fun p hp => ?_
      · obtain ⟨x0, x1⟩ := mem_range_of h3 hx
        obtain ⟨y0, y1⟩ := mem_range_of h3 hy
        have hx2 : x.toNat < L.length := by rw [h.len]; omega
        have hy2 : y.toNat < L.length := by rw [h.len]; omega
        have ex : L.getD x.toNat 0 = L[x.toNat] := by simp [List.getD, hx2]
        have ey : L.getD y.toNat 0 = L[y.toNat] := by simp [List.getD, hy2]
        have := nodup_at h.nd (i := x.toNat) (j := y.toNat) (x := L[x.toNat]) (by simp [hx2]) (by rw [List.getElem?_eq_getElem hy2]; congr 1; rw [← ey, ← exy, ex])
        omega
      · obtain ⟨t, ht, rfl⟩ := List.mem_map.mp hp
        obtain ⟨t0, t1⟩ := mem_range_of h3 ht
        have ht2 : t.toNat < L.length := by rw [h.len]; omega
        have et : L.getD t.toNat 0 = L[t.toNat] := by simp [List.getD, ht2]
        have ha := h.adj t.toNat L[t.toNat] (by simp [ht2])
        unfold someP
        refine List.mem_filter.mpr ⟨List.mem_range.mpr (by rw [et]; exact ha.2.1), List.any_eq_true.mpr ⟨t, ht, ?_⟩⟩
        rw [et]
        exact decide_eq_true ha.2.2
    omega
/-- those that bar the choice -/
theorem lost_short {T : List (List Int)} {n m : Nat} {least : Int} {w : Nat} {f : Tk} {tt : List Nat} {S : List Int} (hw : w < n) (hfit : Fit T n m least f) (hc : ∀ x, cnt m f x ≤ 1) (hcw : cnt m f w = 0) (hl : Lost T n m least w f [] tt)
    (hp : S.Perm (tt.map (fun p => ((f p).getD 0 : Int)) ++ [(w : Int)])) (hs : S.Pairwise (· ≤ ·)) : tooFewB T n m S least = true := by
  have hall : ∀ p ∈ tt, p < m ∧ ∃ t, f p = some t ∧ t < n ∧ t ≠ w ∧ ∀ q, Adj T n m least t q → q ∈ tt := fun p hp => by
    obtain ⟨a, t, b, c⟩ := hl.all p hp (by simp)
    refine ⟨a, t, b, (hfit p t b).1, fun z => ?_, c⟩
    have := cnt_pos a b
    rw [z] at this
    omega
  have nd1 : (tt.map (fun p => ((f p).getD 0 : Int)) ++ [(w : Int)]).Nodup := by
    refine List.nodup_append.mpr ⟨nodup_map _ hl.nd fun x hx y hy exy => ?_, by simp, fun a ha b hb hab => ?_⟩
    · obtain ⟨hx1, t, ht, _⟩ := hall x hx
      obtain ⟨hy1, u, hu, _⟩ := hall y hy
      rw [ht, hu] at exy
      have e : t = u := by
        simp at exy
        omega
      subst e
      exact cnt_one hx1 hy1 ht hu (hc t)
    · obtain ⟨p, hp, rfl⟩ := List.mem_map.mp ha
      obtain ⟨_, t, ht, _, htw, _⟩ := hall p hp
      have : b = (w : Int) := by simpa using hb
      rw [this, ht] at hab
      simp at hab
      exact htw (by omega)
  have ndS : S.Nodup := hp.nodup_iff.mpr nd1
  have hmem : ∀ t, t ∈ S → ∃ k : Nat, t = (k : Int) ∧ k < n ∧ ∀ q, Adj T n m least k q → q ∈ tt := fun t ht => by
    rcases List.mem_append.mp (hp.mem_iff.mp ht) with h | h
    · obtain ⟨p, hp, rfl⟩ := List.mem_map.mp h
      obtain ⟨_, u, hu, hun, _, hq⟩ := hall p hp
      exact ⟨u, by rw [hu]; rfl, hun, hq⟩
    · have : t = (w : Int) := by simpa using h
      exact ⟨w, this, hw, hl.here⟩
  have hlen : S.length = tt.length + 1 := by rw [hp.length_eq, List.length_append, List.length_map]; rfl
  have hsome : (someP T m S least).length ≤ tt.length := by
    refine phpN (List.Nodup.sublist List.filter_sublist List.nodup_range) fun p hp => ?_
    obtain ⟨h1, h2⟩ := List.mem_filter.mp hp
    obtain ⟨t, ht, h3⟩ := List.any_eq_true.mp h2
    obtain ⟨k, rfl, hk, hq⟩ := hmem t ht
    exact hq p ⟨hk, List.mem_range.mp h1, of_decide_eq_true h3⟩
  unfold tooFewB
  simp only [Bool.and_eq_true, decide_eq_true_eq]
  refine ⟨⟨⟨fun z => by rw [z] at hlen; simp at hlen, L2.lt_of_le_nodup S hs ndS⟩, List.all_eq_true.mpr fun t ht => ?_⟩, by omega⟩
  obtain ⟨k, rfl, hk, _⟩ := hmem t ht
  simp
  omega
/-- all have one -/
theorem all_choice {T : List (List Int)} {n m : Nat} {least : Int} {f : Tk} {L : List Nat} (hfit : Fit T n m least f) (hl : L.length = n) (hL : ∀ (t p : Nat), L[t]? = some p → p < m ∧ f p = some t) : Choice T n m least L := by
  refine ⟨hl, ?_, fun t p h => hfit p t (hL t p h).2⟩
  refine List.pairwise_iff_getElem.mpr fun i j hi hj hij e => ?_
  have a := (hL i L[i] (by simp [hi])).2
  have b := (hL j L[j] (by simp [hj])).2
  rw [e, b] at a
  have := Option.some.inj a
  omega
end Lh

namespace Lh
/-! ### sums over a range -/
def sumN : Nat → (Nat → Int) → Int
  | 0, _ => 0
  | n + 1, f => f 0 + sumN n fun i => f (i + 1)
theorem sumN_congr : ∀ {n : Nat} {f g : Nat → Int}, (∀ i, i < n → f i = g i) → sumN n f = sumN n g
  | 0, _, _, _ => rfl
  | n + 1, f, g, h => by
    show f 0 + _ = g 0 + _
    rw [h 0 (by omega), sumN_congr (n := n) fun i hi => h (i + 1) (by omega)]
theorem sumN_add : ∀ (n : Nat) (f g : Nat → Int), sumN n (fun i => f i + g i) = sumN n f + sumN n g
  | 0, _, _ => rfl
  | n + 1, f, g => by
    show f 0 + g 0 + _ = (f 0 + _) + (g 0 + _)
    rw [sumN_add n (fun i => f (i + 1)) (fun i => g (i + 1))]
    omega
theorem sumN_sub : ∀ (n : Nat) (f g : Nat → Int), sumN n (fun i => f i - g i) = sumN n f - sumN n g
  | 0, _, _ => rfl
  | n + 1, f, g => by
    show f 0 - g 0 + _ = (f 0 + _) - (g 0 + _)
    rw [sumN_sub n (fun i => f (i + 1)) (fun i => g (i + 1))]
    omega
theorem sumN_zero : ∀ {n : Nat} {f : Nat → Int}, (∀ i, i < n → f i = 0) → sumN n f = 0
  | 0, _, _ => rfl
  | n + 1, f, h => by
    show f 0 + _ = 0
    rw [h 0 (by omega), sumN_zero (n := n) fun i hi => h (i + 1) (by omega)]
    rfl
theorem sumN_le : ∀ {n : Nat} {f g : Nat → Int}, (∀ i, i < n → f i ≤ g i) → sumN n f ≤ sumN n g
  | 0, _, _, _ => Int.le_refl _
  | n + 1, f, g, h => by
    show f 0 + _ ≤ g 0 + _
    have a := h 0 (by omega)
    have b := sumN_le (n := n) fun i hi => h (i + 1) (by omega)
    omega
theorem sumN_lt : ∀ {n : Nat} {f g : Nat → Int} {i : Nat}, (∀ i, i < n → f i ≤ g i) → i < n → f i < g i → sumN n f < sumN n g
  | 0, _, _, _, _, hi, _ => by omega
  | n + 1, f, g, 0, h, _, hl => by
    show f 0 + _ < g 0 + _
    have b := sumN_le (n := n) fun i hi => h (i + 1) (by omega)
    omega
  | n + 1, f, g, i + 1, h, hi, hl => by
    show f 0 + _ < g 0 + _
    have a := h 0 (by omega)
    have b := sumN_lt (n := n) (f := fun i => f (i + 1)) (g := fun i => g (i + 1)) (i := i) (fun i hi => h (i + 1) (by omega)) (by omega) hl
    omega
theorem sumN_nonneg {n : Nat} {f : Nat → Int} (h : ∀ i, i < n → 0 ≤ f i) : 0 ≤ sumN n f := by
  have := sumN_le (f := fun _ => 0) h
  rw [sumN_zero fun _ _ => rfl] at this
  exact this
theorem sumN_one_le : ∀ {n : Nat} {f : Nat → Int} {p : Nat}, (∀ i, i < n → 0 ≤ f i) → p < n → f p ≤ sumN n f
  | 0, _, _, _, hp => by omega
  | n + 1, f, 0, h, _ => by
    show f 0 ≤ f 0 + _
    have := sumN_nonneg (n := n) (f := fun i => f (i + 1)) fun i hi => h (i + 1) (by omega)
    omega
  | n + 1, f, p + 1, h, hp => by
    show f (p + 1) ≤ f 0 + _
    have a := h 0 (by omega)
    have b := sumN_one_le (n := n) (f := fun i => f (i + 1)) (p := p) (fun i hi => h (i + 1) (by omega)) (by omega)
    omega
theorem sumN_const (c : Int) : ∀ n : Nat, sumN n (fun _ => c) = (n : Int) * c
  | 0 => by simp [sumN]
  | n + 1 => by
    show c + _ = _
    rw [sumN_const c n, Int.natCast_succ, Int.add_mul]
    omega
theorem sumN_swap : ∀ (n m : Nat) (f : Nat → Nat → Int), sumN n (fun i => sumN m (fun j => f i j)) = sumN m (fun j => sumN n (fun i => f i j))
  | 0, m, f => (sumN_zero fun _ _ => rfl).symm
  | n + 1, m, f => by
    show sumN m (fun j => f 0 j) + sumN n (fun i => sumN m fun j => f (i + 1) j) = _
    rw [sumN_swap n m fun i j => f (i + 1) j, ← sumN_add]
    rfl
theorem sumN_single {c : Int} : ∀ {n p : Nat}, p < n → sumN n (fun i => if i = p then c else 0) = c
  | 0, _, hp => by omega
  | n + 1, 0, _ => by
    show c + sumN n (fun i => if i + 1 = 0 then c else 0) = c
    rw [sumN_zero fun i _ => if_neg (by omega)]
    omega
  | n + 1, p + 1, hp => by
    show (if 0 = p + 1 then c else 0) + sumN n (fun i => if i + 1 = p + 1 then c else 0) = c
    rw [if_neg (by omega)]
    have := sumN_single (c := c) (n := n) (p := p) (by omega)
    rw [sumN_congr (g := fun i => if i = p then c else 0) fun i _ => by
      by_cases h : i = p
      · rw [if_pos h, if_pos (by omega)]
      · rw [if_neg h, if_neg (by omega)]]
    omega
theorem sumN_count (c : Int) (χ : Nat → Bool) : ∀ n : Nat, sumN n (fun i => if χ i = true then c else 0) = (((List.range n).filter χ).length : Int) * c := by
  have key : ∀ (n : Nat) (χ : Nat → Bool), sumN n (fun i => if χ i = true then c else 0) = ((((List.range n).filter χ).length : Nat) : Int) * c := by
    intro n
    induction n with
    | zero => intro χ; simp [sumN]
    | succ n ih =>
      intro χ
      show (if χ 0 = true then c else 0) + sumN n (fun i => if χ (i + 1) = true then c else 0) = _
      rw [ih fun i => χ (i + 1), List.range_succ_eq_map, List.filter_cons, List.filter_map]
      cases h : χ 0
      · simp [List.length_map, Function.comp_def]
      · simp [List.length_map, Function.comp_def, Int.add_mul]
        omega
  exact fun n => key n χ
theorem sum_sumN : ∀ u : List Int, u.sum = sumN u.length fun p => u.getD p 0
  | [] => rfl
  | x :: u => by
    rw [List.sum_cons, sum_sumN u]
    rfl
theorem map_sumN {α : Type} (g : α → Int) (d : α) : ∀ T : List α, (T.map g).sum = sumN T.length fun t => g (T.getD t d)
  | [] => rfl
  | x :: u => by
    rw [List.map_cons, List.sum_cons, map_sumN g d u]
    rfl
/-! ### regular tables -/
structure Reg (F : List (List Int)) (z : Nat) (c : Int) : Prop where
  rect : Rect F z z
  nn : ∀ t p, t < z → p < z → 0 ≤ cell F t p
  rows : ∀ t, t < z → sumN z (fun p => cell F t p) = c
  cols : ∀ p, p < z → sumN z (fun t => cell F t p) = c
theorem Raised.reg {T F : List (List Int)} {n m : Nat} {h : Int} (hG : Good T n m) (r : Raised T n m h F) : Reg F (max n m) h := by
  refine ⟨r.rect, fun t p ht hp => ?_, fun t ht => ?_, fun p hp => ?_⟩
  · have a := r.le t p ht hp
    have b : 0 ≤ (T.getD t []).getD p 0 := by
      cases hu : T[t]? with
      | none => simp [List.getD, hu]
      | some u =>
        have e : T.getD t [] = u := by simp [List.getD, hu]
        rw [e]
        cases hx : u[p]? with
        | none => simp [List.getD, hx]
        | some x =>
          rw [getD_of hx]
          exact hG.pos u (List.mem_of_getElem? hu) x (List.mem_of_getElem? hx)
    exact Int.le_trans b a
  · obtain ⟨u, hu, hl⟩ := r.rect.lt ht
    have := r.rows u (List.mem_of_getElem? hu)
    rw [sum_sumN, hl] at this
    rw [← this]
    refine sumN_congr fun p _ => ?_
    unfold cell
    have e : F.getD t [] = u := by simp [List.getD, hu]
    rw [e]
  · have := r.cols p hp
    unfold colAt at this
    rw [map_sumN _ [], r.rect.len] at this
    exact this
/-- where all have as many hours, none are too few -/
theorem Reg.enough {F : List (List Int)} {z : Nat} {c : Int} (h : Reg F z c) (hc : 0 < c) (S : List Int) : tooFewB F z z S 1 = false := by
  cases hb : tooFewB F z z S 1 with
  | false => rfl
  | true =>
    exfalso
    unfold tooFewB at hb
    simp only [Bool.and_eq_true, decide_eq_true_eq] at hb
    obtain ⟨⟨⟨_, hpw⟩, hin⟩, hlt⟩ := hb
    have hS : S.length ≤ ((List.range z).filter fun (t : Nat) => decide ((t : Int) ∈ S)).length := by
      have := phpN (l := S.map Int.toNat) (m := (List.range z).filter fun (t : Nat) => decide ((t : Int) ∈ S)) (nodup_map _ (rising_nodup hpw) fun x hx y hy e => by
        have a := mem_range_of hin hx
        have b := mem_range_of hin hy
        omega) fun p hp => by
        obtain ⟨t, ht, rfl⟩ := List.mem_map.mp hp
        have a := mem_range_of hin ht
        refine List.mem_filter.mpr ⟨List.mem_range.mpr (by omega), decide_eq_true ?_⟩
        have : ((t.toNat : Nat) : Int) = t := by omega
        rw [this]
        exact ht
      rw [List.length_map] at this
      exact this
    have h1 : sumN z (fun t => if decide ((t : Int) ∈ S) = true then c else 0) = sumN z (fun t => sumN z fun p => if decide ((t : Int) ∈ S) = true then cell F t p else 0) := by
      refine sumN_congr fun t ht => ?_
      by_cases hm : decide ((t : Int) ∈ S) = true
      · rw [if_pos hm, ← h.rows t ht]
        exact sumN_congr fun p _ => (if_pos hm).symm
      · rw [if_neg hm]
        exact (sumN_zero fun p _ => if_neg hm).symm
    have h2 : sumN z (fun p => sumN z fun t => if decide ((t : Int) ∈ S) = true then cell F t p else 0) ≤ sumN z (fun p => if (S.any fun t => decide (1 ≤ cell F t.toNat p)) = true then c else 0) := by
      refine sumN_le fun p hp => ?_
      by_cases hm : (S.any fun t => decide (1 ≤ cell F t.toNat p)) = true
      · rw [if_pos hm, ← h.cols p hp]
        refine sumN_le fun t ht => ?_
        split
        · exact Int.le_refl _
        · exact h.nn t p ht hp
      · rw [if_neg hm, sumN_zero fun t ht => ?_]
        · exact Int.le_refl _
        · split
          · rename_i hd
            have hn := h.nn t p ht hp
            have : ¬ 1 ≤ cell F t p := fun hle => hm (List.any_eq_true.mpr ⟨(t : Int), of_decide_eq_true hd, decide_eq_true hle⟩)
            omega
          · rfl
    rw [← sumN_swap, ← h1, sumN_count, sumN_count] at h2
    have h3 : (((List.range z).filter fun (t : Nat) => decide ((t : Int) ∈ S)).length : Int) ≤ ((someP F z S 1).length : Int) := Int.le_of_mul_le_mul_right h2 hc
    omega
end Lh

namespace Lh
open PySem PySem.Spec PyProof.Rows L2 Evl
/-! ### the module's names -/
structure Mg (mg : Str → Option Value) : Prop where
  len : mg "len" = none
  isinstance : mg "isinstance" = none
  all : mg "all" = none
  sum : mg "sum" = none
  range : mg "range" = none
  max : mg "max" = none
  min : mg "min" = none
  enumerate : mg "enumerate" = none
  sorted : mg "sorted" = none
  any : mg "any" = none
  zip : mg "zip" = none
  abs : mg "abs" = none
  int_ : mg "int" = none
  bool_ : mg "bool" = none
  list_ : mg "list" = none
  tuple_ : mg "tuple" = none
  set_ : mg "set" = none
  MOST : ∃ t, mg "MOST" = some (.int 20 t)
theorem pe_globI {X : Cx} {x : Str} {i : Int} {pos : Pos} (hg : Gl X x) (hm : ∃ t, X.mg x = some (.int i t)) (hd : (x == ("__debug__" : Str)) = false := by decide) : PE X (.Name x pos) (tC (.int i)) := by
  obtain ⟨t, h⟩ := hm
  exact pe_glob hg h ⟨t, rfl⟩ hd
/-! ### types, growing heaps -/
theorem tyx_mono {K : PySem.W.Frag} {H H' : Hp} {x : V} {t : Value} (e : Ex H H') (h : TyX K H x t) : TyX K H' x t := by
  cases h with
  | base b =>
    refine .base ?_
    cases b with
    | non => exact .non
    | bl y => exact .bl y
    | int i => exact .int i
    | str y => exact .str y
    | flt y => exact .flt y
    | lst h => exact .lst (e _ _ h)
    | frz h => exact .frz (e _ _ h)
    | tup h => exact .tup (e _ _ h)
    | dK h => exact .dK (e _ _ h)
    | dT h => exact .dT (e _ _ h)
    | ins h a b c d f => exact .ins (e _ _ h) a b c d f
  | byt b => exact .byt b
  | set h => exact .set (e _ _ h)
  | kList h c => exact .kList h c
  | kTuple h c => exact .kTuple h c
  | kDict h c => exact .kDict h c
  | fTuple h => exact .fTuple (e _ _ h)
  | fDict h => exact .fDict (e _ _ h)
/-! ### xs.index(y) -/
theorem idx_before : ∀ {ns : List Int} {y : Int} {m : Nat} {z : Int}, m < ns.idxOf y → ns[m]? = some z → z ≠ y
  | [], y, m, z, h, hz => by simp at hz
  | a :: r, y, m, z, h, hz => by
    rw [List.idxOf_cons] at h
    by_cases e : a = y
    · subst e
      simp at h
    · have e2 : (a == y) = false := by simp [e]
      rw [e2] at h
      cases m with
      | zero =>
        have : a = z := Option.some.inj hz
        rw [← this]
        exact e
      | succ m => exact idx_before (ns := r) (by simpa using h) (by simpa using hz)
theorem ev_index {K : PySem.W.Frag} {σ : L2.St} {H : Hp} {ta tb : TE} {a : Addr} {ns : List Int} {y : Int} (ha : Ev ta σ H (.ref a)) (hb : Ev tb σ H (.int y)) (hs : SqL K H a (ns.map V.int)) (hy : y ∈ ns) : Ev (tBM K "list" (rIndex K) ta (tCons tb tNil)) σ H (.int (ns.idxOf y : Nat)) := fun H1 e Q q =>
  ha H1 e _ fun H2 e2 => ⟨Or.inl ⟨rfl, _, ex_l (e.trans e2) hs⟩, hb H2 (e.trans e2) _ fun H3 e3 => by
    have hl : ns.idxOf y < ns.length := List.idxOf_lt_length_of_mem hy
    refine ⟨a, ns.map V.int, .int y, ns.idxOf y, .int y, rfl, rfl, ex_l ((e.trans e2).trans e3) hs, rfl, by simp [flatV], ?_, ?_, ?_, q H3 (e2.trans e3)⟩
    · rw [List.getElem?_map, List.getElem?_eq_getElem hl, List.getElem_idxOf]
      rfl
    · simp [eqV]
    · intro m z' hm hz
      rw [List.getElem?_map, List.getElem?_eq_getElem (by omega)] at hz
      cases hz
      have h := idx_before (z := ns[m]) hm (List.getElem?_eq_getElem (by omega))
      simp [eqV, h]⟩

/-! ### the fullest -/
def fullM (T : List (List Int)) (m : Nat) : Int := max (maxI (rowSums T)) (maxI (colSums T m))
def fullB (T : List (List Int)) (m : Nat) : Bool := decide (maxI (colSums T m) ≤ maxI (rowSums T))
def fullW (T : List (List Int)) (m : Nat) : Str := if fullB T m = true then "teacher" else "class"
def fullI (T : List (List Int)) (m : Nat) : Int := if fullB T m = true then ((rowSums T).idxOf (maxI (rowSums T)) : Nat) else ((colSums T m).idxOf (maxI (colSums T m)) : Nat)
abbrev NewFull (T : List (List Int)) (m : Nat) : Hp → V → Hp → Prop := fun _ v H2 => ∃ p q, v = .ref p ∧ H2 p = some (.tup [.int (fullM T m), .ref q]) ∧ H2 q = some (.tup [.str (fullW T m), .int (fullI T m)])

/-! ### promises -/
def sp_is_number (K : PySem.W.Frag) : Sp := fun vs H Q _ => ∃ (x : V) (T : String) (b1 b2 : Bool), vs = [x] ∧ TyX K H x (.type T) ∧ kitB T "int" = some b1 ∧ kitB T "bool" = some b2 ∧ Ret (IsV (.bl (b1 && !b2))) H Q
def sp_asked_table (K : PySem.W.Frag) : Sp := fun vs H Q _ => ∃ a rs T n m, vs = [.ref a] ∧ Tab H a rs T ∧ Good T n m ∧ Ret (IsV .non) H Q
def sp_column_sums (K : PySem.W.Frag) : Sp := fun vs H Q _ => ∃ a rs T n m, vs = [.ref a] ∧ Tab H a rs T ∧ Rect T n m ∧ 1 ≤ n ∧ n ≤ 1000 ∧ m ≤ 1000 ∧ Ret (NewL ((colSums T m).map V.int)) H Q
def sp_fullest_of (K : PySem.W.Frag) : Sp := fun vs H Q _ => ∃ a rs T n m, vs = [.ref a] ∧ Tab H a rs T ∧ Rect T n m ∧ 1 ≤ n ∧ n ≤ 1000 ∧ 1 ≤ m ∧ m ≤ 1000 ∧ Ret (NewFull T m) H Q
def sp_fullest (K : PySem.W.Frag) : Sp := fun vs H Q _ => ∃ a rs T n m, vs = [.ref a] ∧ Tab H a rs T ∧ Good T n m ∧ Ret (NewFull T m) H Q
def sp_raised_of (K : PySem.W.Frag) : Sp := fun vs H Q _ => ∃ a rs T n m h, vs = [.ref a, .int h] ∧ Tab H a rs T ∧ Rect T n m ∧ 1 ≤ n ∧ n ≤ 1000 ∧ 1 ≤ m ∧ m ≤ 1000 ∧ (∀ u ∈ T, u.sum ≤ h) ∧ (∀ j, j < m → colAt T j ≤ h) ∧ 0 ≤ h ∧ ∀ F, Raised T n m h F → Ret (NewT F) H Q
def sp_raised (K : PySem.W.Frag) : Sp := fun vs H Q _ => ∃ a rs T n m h, vs = [.ref a, .int h] ∧ Tab H a rs T ∧ Good T n m ∧ fullM T m ≤ h ∧ ∀ F, Raised T n m h F → Ret (NewT F) H Q
def sp__law_number (K : PySem.W.Frag) : Sp := fun vs H Q _ => ∃ c a w, vs = [.int c, .int a, .int w] ∧ 0 ≤ a ∧ a ≤ 1000 ∧ Builtin.Int.intBits c ≤ 1048576 ∧ Ret IsI H Q
def sp__law_table (K : PySem.W.Frag) : Sp := fun vs H Q _ => ∃ (a : Addr) (ns : List Int) (r c : Nat), vs = [.ref a, .int r, .int c] ∧ SqL K H a (ns.map V.int) ∧ ns.length ≤ 63 ∧ (∀ z ∈ ns, Builtin.Int.intBits z ≤ 1048576) ∧ 1 ≤ r ∧ r ≤ 20 ∧ 1 ≤ c ∧ c ≤ 20 ∧ ∀ T, Good T r c → Ret (NewT T) H Q
def sp__law_sums (K : PySem.W.Frag) : Sp := fun vs H Q _ => ∃ a rs T n m, vs = [.ref a] ∧ Tab H a rs T ∧ Rect T n m ∧ 1 ≤ n ∧ n ≤ 1000 ∧ m ≤ 1000 ∧ Ret (NewL ((rowSums T ++ colSums T m).map V.int)) H Q
def sp__law_sizes (K : PySem.W.Frag) : Sp := fun vs H Q _ => ∃ (a : Addr) (ns : List Int), vs = [.ref a] ∧ SqL K H a (ns.map V.int) ∧ ∀ r c : Nat, 1 ≤ r → r ≤ 20 → 1 ≤ c → c ≤ 20 → Ret (NewU [.int r, .int c]) H Q
def sp__law_whole (K : PySem.W.Frag) : Sp := sp_is_number K
def sp__law_raised_right (K : PySem.W.Frag) : Sp := fun vs H Q _ => ∃ a rs T n m h, vs = [.ref a, .int h] ∧ Tab H a rs T ∧ Good T n m ∧ fullM T m ≤ h ∧ Ret (IsV (.bl true)) H Q
def sp_law (K : PySem.W.Frag) : Sp := fun vs H Q _ => ∃ (a : Addr) (ns : List Int), vs = [.ref a] ∧ SqL K H a (ns.map V.int) ∧ ns.length ≤ 63 ∧ (∀ z ∈ ns, Builtin.Int.intBits z ≤ 1048576) ∧ ∀ H', Q (.bl true) H'
end Lh

namespace Lh
open L2 Evl
/-! ### parts of a plan, taken off a table -/
abbrev Prs := List (Int × Int)
def sub1 (T : List (List Int)) (t p : Nat) (h : Int) : List (List Int) := T.set t ((T.getD t []).set p (cell T t p - h))
def subP (T : List (List Int)) (prs : Prs) (h : Int) : List (List Int) := prs.foldl (fun T pr => sub1 T pr.1.toNat pr.2.toNat h) T
def subAll (T : List (List Int)) (parts : List (Prs × Int)) : List (List Int) := parts.foldl (fun T pt => subP T pt.1 pt.2) T
def okPart (n m : Nat) (pt : Prs × Int) : Bool := decide (1 ≤ pt.2) && ((decide (pt.1.map (·.1)).Nodup && inRange n (pt.1.map (·.1))) && (decide (pt.1.map (·.2)).Nodup && inRange m (pt.1.map (·.2))))
def total (parts : List (Prs × Int)) : Int := (parts.map (·.2)).sum
def zeroT (T : List (List Int)) : Bool := T.all fun u => u.all fun x => decide (x = 0)
def planB (T : List (List Int)) (n m : Nat) (parts : List (Prs × Int)) : Bool := parts.all (okPart n m) && (decide (total parts = fullM T m) && zeroT (subAll T parts))
theorem sub1_rect {T : List (List Int)} {n m t p : Nat} {h : Int} (hR : Rect T n m) (ht : t < n) : Rect (sub1 T t p h) n m := by
  obtain ⟨u, hu, hl⟩ := hR.lt ht
  refine hR.set ?_
  rw [List.length_set]
  have e : T.getD t [] = u := by simp [List.getD, hu]
  rw [e]
  exact hl
theorem cell_sub1 {T : List (List Int)} {n m t p : Nat} {h : Int} (hR : Rect T n m) (ht : t < n) (hp : p < m) (t' p' : Nat) : cell (sub1 T t p h) t' p' = cell T t' p' - (if t' = t ∧ p' = p then h else 0) := by
  obtain ⟨u, x, hu, hl, hx⟩ := hR.cell ht hp
  have e : T.getD t [] = u := by simp [List.getD, hu]
  have htl : t < T.length := (List.getElem?_eq_some_iff.mp hu).1
  have hpl : p < u.length := (List.getElem?_eq_some_iff.mp hx).1
  unfold sub1 cell
  rw [e]
  by_cases h1 : t' = t
  · subst h1
    have e2 : (T.set t' (u.set p (u.getD p 0 - h))).getD t' [] = u.set p (u.getD p 0 - h) := by simp [List.getD, htl]
    rw [e2, e]
    by_cases h2 : p' = p
    · subst h2
      have e3 : (u.set p' (u.getD p' 0 - h)).getD p' 0 = u.getD p' 0 - h := by simp [List.getD, hpl]
      rw [e3, if_pos ⟨rfl, rfl⟩]
    · have e3 : (u.set p (u.getD p 0 - h)).getD p' 0 = u.getD p' 0 := by
        unfold List.getD
        rw [List.getElem?_set_ne (Ne.symm h2)]
      rw [e3, if_neg (fun z => h2 z.2)]
      omega
  · have e2 : (T.set t (u.set p (u.getD p 0 - h))).getD t' [] = T.getD t' [] := by
      unfold List.getD
      rw [List.getElem?_set_ne (Ne.symm h1)]
    rw [e2, if_neg (fun z => h1 z.1)]
    omega
/-- in range -/
def InR (n m : Nat) (prs : Prs) : Prop := ∀ pr ∈ prs, 0 ≤ pr.1 ∧ pr.1 < (n : Int) ∧ 0 ≤ pr.2 ∧ pr.2 < (m : Int)
theorem subP_rect {n m : Nat} {h : Int} : ∀ {prs : Prs} {T : List (List Int)}, Rect T n m → InR n m prs → Rect (subP T prs h) n m
  | [], T, hR, _ => hR
  | pr :: prs, T, hR, hi => by
    have a := hi pr List.mem_cons_self
    exact subP_rect (prs := prs) (sub1_rect hR (by omega)) fun q hq => hi q (List.mem_cons_of_mem _ hq)
theorem cell_subP {n m : Nat} {h : Int} : ∀ {prs : Prs} {T : List (List Int)}, Rect T n m → InR n m prs → (prs.map (·.1)).Nodup → ∀ t p : Nat, cell (subP T prs h) t p = cell T t p - (if ((t : Int), (p : Int)) ∈ prs then h else 0)
  | [], T, hR, _, _, t, p => by
    show cell T t p = _
    simp
  | pr :: prs, T, hR, hi, nd, t, p => by
    have a := hi pr List.mem_cons_self
    obtain ⟨n1, n2⟩ := List.nodup_cons.mp nd
    show cell (subP (sub1 T pr.1.toNat pr.2.toNat h) prs h) t p = _
    rw [cell_subP (prs := prs) (sub1_rect hR (by omega)) (fun q hq => hi q (List.mem_cons_of_mem _ hq)) n2 t p, cell_sub1 hR (by omega) (show pr.2.toNat < m by omega)]
    by_cases h1 : t = pr.1.toNat ∧ p = pr.2.toNat
    · have e : ((t : Int), (p : Int)) = pr := by
        obtain ⟨e1, e2⟩ := h1
        refine Prod.ext ?_ ?_
        · show (t : Int) = pr.1
          omega
        · show (p : Int) = pr.2
          omega
      have hni : ((t : Int), (p : Int)) ∉ prs := fun z => n1 (List.mem_map.mpr ⟨_, z, by rw [e]⟩)
      rw [if_pos h1, if_neg hni, if_pos (by rw [e]; exact List.mem_cons_self)]
      omega
    · have hne : ((t : Int), (p : Int)) ≠ pr := fun z => h1 (by
        rw [← z]
        exact ⟨by simp, by simp⟩)
      rw [if_neg h1]
      by_cases h2 : ((t : Int), (p : Int)) ∈ prs
      · rw [if_pos h2, if_pos (List.mem_cons_of_mem _ h2)]
        omega
      · rw [if_neg h2, if_neg (fun z => (List.mem_cons.mp z).elim hne h2)]
        omega
/-- each teacher with the class chosen -/
def enumL (L : List Nat) : Prs := (List.range L.length).map fun (t : Nat) => ((t : Int), ((L.getD t 0 : Nat) : Int))
theorem mem_enumL {L : List Nat} {pr : Int × Int} : pr ∈ enumL L ↔ ∃ t p : Nat, L[t]? = some p ∧ pr = ((t : Int), (p : Int)) := by
  unfold enumL
  rw [List.mem_map]
  constructor
  · rintro ⟨t, ht, rfl⟩
    have ht2 := List.mem_range.mp ht
    exact ⟨t, L[t], by simp [ht2], by simp [List.getD, ht2]⟩
  · rintro ⟨t, p, hp, rfl⟩
    have ht2 := (List.getElem?_eq_some_iff.mp hp).1
    exact ⟨t, List.mem_range.mpr ht2, by simp [List.getD, hp]⟩
theorem enumL_fst (L : List Nat) : ((enumL L).map (·.1)).Nodup := by
  unfold enumL
  rw [List.map_map]
  exact nodup_map _ List.nodup_range fun x _ y _ e => by
    have : (x : Int) = (y : Int) := e
    omega
theorem enumL_snd {L : List Nat} (nd : L.Nodup) : ((enumL L).map (·.2)).Nodup := by
  unfold enumL
  rw [List.map_map]
  refine nodup_map _ List.nodup_range fun x hx y hy e => ?_
  have hx2 := List.mem_range.mp hx
  have hy2 := List.mem_range.mp hy
  have e : ((L.getD x 0 : Nat) : Int) = ((L.getD y 0 : Nat) : Int) := e
  have ex : L.getD x 0 = L[x] := by simp [List.getD, hx2]
  have ey : L.getD y 0 = L[y] := by simp [List.getD, hy2]
  exact nodup_at nd (x := L[x]) (by simp [hx2]) (by rw [List.getElem?_eq_getElem hy2]; congr 1; omega)
/-- every class is chosen by one -/
theorem choice_onto {F : List (List Int)} {z : Nat} {l : Int} {L : List Nat} (h : Choice F z z l L) {p : Nat} (hp : p < z) : ∃ t, t < z ∧ L[t]? = some p := by
  have hm : p ∈ L := by
    refine Decidable.byContradiction fun hn => ?_
    have := phpN (l := p :: L) (m := List.range z) (List.nodup_cons.mpr ⟨hn, h.nd⟩) fun q hq => by
      rcases List.mem_cons.mp hq with e | e
      · rw [e]; exact List.mem_range.mpr hp
      · obtain ⟨t, ht⟩ := List.getElem?_of_mem e
        exact List.mem_range.mpr (h.adj t q ht).2.1
    rw [List.length_cons, h.len, List.length_range] at this
    omega
  obtain ⟨t, ht⟩ := List.getElem?_of_mem hm
  exact ⟨t, (h.adj t p ht).1, ht⟩
theorem Reg.sub {F : List (List Int)} {z : Nat} {c h : Int} {L : List Nat} (r : Reg F z c) (hL : Choice F z z 1 L) (hle : ∀ t p, L[t]? = some p → h ≤ cell F t p) : Reg (subP F (enumL L) h) z (c - h) := by
  have hin : InR z z (enumL L) := fun pr hpr => by
    obtain ⟨t, p, htp, rfl⟩ := mem_enumL.mp hpr
    have a := hL.adj t p htp
    have a1 := a.1
    have a2 := a.2.1
    exact ⟨by show (0 : Int) ≤ (t : Int); omega, by show (t : Int) < (z : Int); omega, by show (0 : Int) ≤ (p : Int); omega, by show (p : Int) < (z : Int); omega⟩
  have hc := cell_subP (h := h) r.rect hin (enumL_fst L)
  have hiff : ∀ t p : Nat, ((t : Int), (p : Int)) ∈ enumL L ↔ L[t]? = some p := fun t p => by
    rw [mem_enumL]
    constructor
    · rintro ⟨t', p', h1, e⟩
      have e1 : (t : Int) = (t' : Int) := congrArg Prod.fst e
      have e2 : (p : Int) = (p' : Int) := congrArg Prod.snd e
      have : t = t' := by omega
      have : p = p' := by omega
      subst_vars
      exact h1
    · intro h1
      exact ⟨t, p, h1, rfl⟩
  refine ⟨subP_rect r.rect hin, fun t p ht hp => ?_, fun t ht => ?_, fun p hp => ?_⟩
  · rw [hc]
    split
    · rename_i hm
      have := hle t p ((hiff t p).mp hm)
      omega
    · have := r.nn t p ht hp
      omega
  · have ht2 : t < L.length := by rw [hL.len]; exact ht
    have hLt : L[t]? = some L[t] := by simp [ht2]
    have hLz := (hL.adj t _ hLt).2.1
    rw [sumN_congr (g := fun p => cell F t p - (if p = L[t] then h else 0)) fun p _ => by
      rw [hc]
      congr 1
      by_cases e : p = L[t]
      · rw [if_pos e, if_pos ((hiff t p).mpr (by rw [e]; exact hLt))]
      · rw [if_neg e, if_neg fun z => e (Option.some.inj (((hiff t p).mp z).symm.trans hLt))], sumN_sub, r.rows t ht, sumN_single hLz]
  · obtain ⟨t0, ht0, hL0⟩ := choice_onto hL hp
    rw [sumN_congr (g := fun t => cell F t p - (if t = t0 then h else 0)) fun t _ => by
      rw [hc]
      congr 1
      by_cases e : t = t0
      · rw [if_pos e, if_pos ((hiff t p).mpr (by rw [e]; exact hL0))]
      · rw [if_neg e, if_neg fun z => e (nodup_at hL.nd ((hiff t p).mp z) hL0)], sumN_sub, r.cols p hp, sumN_single ht0]
/-! ### how many hours are left at all -/
def nnz (T : List (List Int)) (n m : Nat) : Int := sumN n fun t => sumN m fun p => if cell T t p = 0 then 0 else 1
theorem nnz_nonneg (T : List (List Int)) (n m : Nat) : 0 ≤ nnz T n m := sumN_nonneg fun t _ => sumN_nonneg fun p _ => by split <;> omega
theorem nnz_le (T : List (List Int)) (n m : Nat) : nnz T n m ≤ (n : Int) * m := by
  have : nnz T n m ≤ sumN n fun t => sumN m fun p => 1 := sumN_le fun t _ => sumN_le fun p _ => by split <;> omega
  rw [sumN_congr (g := fun _ => (m : Int)) fun t _ => by rw [sumN_const]; omega, sumN_const] at this
  exact this
theorem nnz_mono {T U : List (List Int)} {n m : Nat} (h : ∀ t p, t < n → p < m → cell T t p = 0 → cell U t p = 0) : nnz U n m ≤ nnz T n m := sumN_le fun t ht => sumN_le fun p hp => by
  by_cases e : cell T t p = 0
  · rw [if_pos e, if_pos (h t p ht hp e)]
    exact Int.le_refl _
  · rw [if_neg e]
    split <;> omega
theorem nnz_less {T U : List (List Int)} {n m t p : Nat} (h : ∀ t p, t < n → p < m → cell T t p = 0 → cell U t p = 0) (ht : t < n) (hp : p < m) (h1 : cell T t p ≠ 0) (h2 : cell U t p = 0) : nnz U n m < nnz T n m := by
  have hle : ∀ t p, t < n → p < m → (if cell U t p = 0 then (0 : Int) else 1) ≤ (if cell T t p = 0 then 0 else 1) := fun t p ht hp => by
    by_cases e : cell T t p = 0
    · rw [if_pos e, if_pos (h t p ht hp e)]
      exact Int.le_refl _
    · rw [if_neg e]
      split <;> omega
  exact sumN_lt (fun t ht => sumN_le fun p hp => hle t p ht hp) ht (sumN_lt (i := p) (fun p hp => hle t p ht hp) hp (by rw [if_pos h2, if_neg h1]; omega))
/-! ### the planning's way -/
structure PlanI (T : List (List Int)) (n m : Nat) (M left : Int) (full mine : List (List Int)) (parts : List (Prs × Int)) : Prop where
  reg : Reg full (max n m) left
  rect : Rect mine n m
  nn : ∀ t p, t < n → p < m → 0 ≤ cell mine t p ∧ cell mine t p ≤ cell full t p
  ok : parts.all (okPart n m) = true
  tot : total parts = M - left
  mineIs : subAll T parts = mine
/-- the pairs of a part -/
def prsA (L : List Nat) (n m : Nat) : Prs := (enumL L).filter fun pr => decide (pr.1 < (n : Int)) && decide (pr.2 < (m : Int))
def prsOf (L : List Nat) (n m : Nat) (mine : List (List Int)) : Prs := (prsA L n m).filter fun pr => decide (0 < cell mine pr.1.toNat pr.2.toNat)
theorem mem_prsA {L : List Nat} {n m : Nat} {pr : Int × Int} : pr ∈ prsA L n m ↔ ∃ t p : Nat, L[t]? = some p ∧ pr = ((t : Int), (p : Int)) ∧ t < n ∧ p < m := by
  unfold prsA
  rw [List.mem_filter, mem_enumL]
  constructor
  · rintro ⟨⟨t, p, htp, rfl⟩, h1⟩
    simp only [Bool.and_eq_true, decide_eq_true_eq] at h1
    exact ⟨t, p, htp, rfl, by omega, by omega⟩
  · rintro ⟨t, p, htp, rfl, h1, h2⟩
    refine ⟨⟨t, p, htp, rfl⟩, ?_⟩
    simp
    omega
theorem mem_prsOf {L : List Nat} {n m : Nat} {mine : List (List Int)} {pr : Int × Int} : pr ∈ prsOf L n m mine ↔ ∃ t p : Nat, L[t]? = some p ∧ pr = ((t : Int), (p : Int)) ∧ t < n ∧ p < m ∧ 0 < cell mine t p := by
  unfold prsOf
  rw [List.mem_filter, mem_prsA]
  constructor
  · rintro ⟨⟨t, p, htp, rfl, a, b⟩, h2⟩
    have h2 := of_decide_eq_true h2
    exact ⟨t, p, htp, rfl, a, b, h2⟩
  · rintro ⟨t, p, htp, rfl, h1, h2, h3⟩
    exact ⟨⟨t, p, htp, rfl, h1, h2⟩, decide_eq_true h3⟩
theorem prsOf_sub {L : List Nat} {n m : Nat} {mine : List (List Int)} : (prsOf L n m mine).Sublist (enumL L) := List.filter_sublist.trans List.filter_sublist
theorem prs_okPart {L : List Nat} {n m : Nat} {mine : List (List Int)} {h : Int} (nd : L.Nodup) (h1 : 1 ≤ h) : okPart n m (prsOf L n m mine, h) = true := by
  unfold okPart
  simp only [Bool.and_eq_true, decide_eq_true_eq]
  refine ⟨h1, ⟨(enumL_fst L).sublist (prsOf_sub.map _), List.all_eq_true.mpr fun x hx => ?_⟩, (enumL_snd nd).sublist (prsOf_sub.map _), List.all_eq_true.mpr fun x hx => ?_⟩
  · obtain ⟨pr, hpr, rfl⟩ := List.mem_map.mp hx
    obtain ⟨t, p, _, rfl, a, b, _⟩ := mem_prsOf.mp hpr
    simp
    omega
  · obtain ⟨pr, hpr, rfl⟩ := List.mem_map.mp hx
    obtain ⟨t, p, _, rfl, a, b, _⟩ := mem_prsOf.mp hpr
    simp
    omega
theorem prsOf_inR {L : List Nat} {n m : Nat} {mine : List (List Int)} : InR n m (prsOf L n m mine) := fun pr hpr => by
  obtain ⟨t, p, _, rfl, a, b, _⟩ := mem_prsOf.mp hpr
  exact ⟨by show (0 : Int) ≤ (t : Int); omega, by show (t : Int) < (n : Int); omega, by show (0 : Int) ≤ (p : Int); omega, by show (p : Int) < (m : Int); omega⟩
theorem PlanI.step {T full mine : List (List Int)} {n m : Nat} {M left h : Int} {parts : List (Prs × Int)} {L : List Nat} (I : PlanI T n m M left full mine parts) (hL : Choice full (max n m) (max n m) 1 L) (h1 : 1 ≤ h) (hle : ∀ t p, L[t]? = some p → h ≤ cell full t p) (hle2 : ∀ t p : Nat, ((t : Int), (p : Int)) ∈ prsOf L n m mine → h ≤ cell mine t p)
    (hmin : (∃ t p, L[t]? = some p ∧ h = cell full t p) ∨ ∃ t p : Nat, ((t : Int), (p : Int)) ∈ prsOf L n m mine ∧ h = cell mine t p) :
    PlanI T n m M (left - h) (subP full (enumL L) h) (subP mine (prsOf L n m mine) h) (parts ++ [(prsOf L n m mine, h)]) ∧ nnz (subP full (enumL L) h) (max n m) (max n m) + nnz (subP mine (prsOf L n m mine) h) n m < nnz full (max n m) (max n m) + nnz mine n m := by
  have hinF : InR (max n m) (max n m) (enumL L) := fun pr hpr => by
    obtain ⟨t, p, htp, rfl⟩ := mem_enumL.mp hpr
    have a := hL.adj t p htp
    have a1 := a.1
    have a2 := a.2.1
    exact ⟨by show (0 : Int) ≤ (t : Int); omega, by show (t : Int) < ((max n m : Nat) : Int); omega, by show (0 : Int) ≤ (p : Int); omega, by show (p : Int) < ((max n m : Nat) : Int); omega⟩
  have hcF := cell_subP (h := h) I.reg.rect hinF (enumL_fst L)
  have hndM : ((prsOf L n m mine).map (·.1)).Nodup := (enumL_fst L).sublist (prsOf_sub.map _)
  have hcM := cell_subP (h := h) I.rect prsOf_inR hndM
  have hF : ∀ t p : Nat, ((t : Int), (p : Int)) ∈ enumL L → L[t]? = some p := fun t p hm => by
    obtain ⟨t', p', h1, e⟩ := mem_enumL.mp hm
    have e1 : (t : Int) = (t' : Int) := congrArg Prod.fst e
    have e2 : (p : Int) = (p' : Int) := congrArg Prod.snd e
    have : t = t' := by omega
    have : p = p' := by omega
    subst_vars
    exact h1
  have hM : ∀ t p : Nat, ((t : Int), (p : Int)) ∈ prsOf L n m mine → L[t]? = some p ∧ t < n ∧ p < m ∧ 0 < cell mine t p := fun t p hm => by
    obtain ⟨t', p', h1, e, h2⟩ := mem_prsOf.mp hm
    have e1 : (t : Int) = (t' : Int) := congrArg Prod.fst e
    have e2 : (p : Int) = (p' : Int) := congrArg Prod.snd e
    have : t = t' := by omega
    have : p = p' := by omega
    subst_vars
    exact ⟨h1, h2⟩
  refine ⟨⟨I.reg.sub hL hle, subP_rect I.rect prsOf_inR, fun t p ht hp => ?_, ?_, ?_, ?_⟩, ?_⟩
  · obtain ⟨a, b⟩ := I.nn t p ht hp
    rw [hcF, hcM]
    by_cases e : ((t : Int), (p : Int)) ∈ prsOf L n m mine
    · have e2 : ((t : Int), (p : Int)) ∈ enumL L := mem_enumL.mpr ⟨t, p, (hM t p e).1, rfl⟩
      have := hle2 t p e
      rw [if_pos e, if_pos e2]
      omega
    · rw [if_neg e]
      by_cases e2 : ((t : Int), (p : Int)) ∈ enumL L
      · have hl := hF t p e2
        have h3 := hle t p hl
        have : ¬ 0 < cell mine t p := fun z => e (mem_prsOf.mpr ⟨t, p, hl, rfl, ht, hp, z⟩)
        rw [if_pos e2]
        omega
      · rw [if_neg e2]
        omega
  · rw [List.all_append, I.ok]
    simp only [List.all_cons, List.all_nil, Bool.and_true, Bool.true_and]
    exact prs_okPart hL.nd h1
  · unfold total
    rw [List.map_append, List.sum_append]
    have := I.tot
    unfold total at this
    rw [this]
    simp
    omega
  · unfold subAll
    rw [List.foldl_append]
    have := I.mineIs
    unfold subAll at this
    rw [this]
    rfl
  · have mF : ∀ t p, t < max n m → p < max n m → cell full t p = 0 → cell (subP full (enumL L) h) t p = 0 := fun t p ht hp e => by
      rw [hcF]
      by_cases e2 : ((t : Int), (p : Int)) ∈ enumL L
      · have := (hL.adj t p (hF t p e2)).2.2
        omega
      · rw [if_neg e2]
        omega
    have mM : ∀ t p, t < n → p < m → cell mine t p = 0 → cell (subP mine (prsOf L n m mine) h) t p = 0 := fun t p ht hp e => by
      rw [hcM]
      by_cases e2 : ((t : Int), (p : Int)) ∈ prsOf L n m mine
      · have := (hM t p e2).2.2.2
        omega
      · rw [if_neg e2]
        omega
    rcases hmin with ⟨t, p, htp, e⟩ | ⟨t, p, htp, e⟩
    · have a := hL.adj t p htp
      have := nnz_less mF a.1 a.2.1 (by have := a.2.2; omega) (by rw [hcF, if_pos (mem_enumL.mpr ⟨t, p, htp, rfl⟩)]; omega)
      have := nnz_mono mM
      omega
    · obtain ⟨_, a, b, c⟩ := hM t p htp
      have := nnz_less mM a b (by omega) (by rw [hcM, if_pos htp]; omega)
      have := nnz_mono mF
      omega
theorem PlanI.nonneg {T full mine : List (List Int)} {n m : Nat} {M left : Int} {parts : List (Prs × Int)} (I : PlanI T n m M left full mine parts) (hn : 1 ≤ n) : 0 ≤ left := by
  have hz : 0 < max n m := by omega
  rw [← I.reg.rows 0 hz]
  exact sumN_nonneg fun p hp => I.reg.nn 0 p hz hp
theorem PlanI.done {T full mine : List (List Int)} {n m : Nat} {left : Int} {parts : List (Prs × Int)} (I : PlanI T n m (fullM T m) left full mine parts) (hn : 1 ≤ n) (h0 : ¬ 0 < left) : planB T n m parts = true := by
  have hl : left = 0 := by
    have := I.nonneg hn
    omega
  subst hl
  unfold planB
  rw [I.ok, I.tot, I.mineIs]
  simp only [Bool.true_and, Bool.and_eq_true, decide_eq_true_eq]
  refine ⟨by omega, List.all_eq_true.mpr fun u hu => List.all_eq_true.mpr fun x hx => decide_eq_true ?_⟩
  obtain ⟨t, ht⟩ := List.getElem?_of_mem hu
  obtain ⟨p, hp⟩ := List.getElem?_of_mem hx
  have ht2 : t < n := by
    have := (List.getElem?_eq_some_iff.mp ht).1
    rw [I.rect.len] at this
    exact this
  have hp2 : p < m := by
    have := (List.getElem?_eq_some_iff.mp hp).1
    rw [I.rect.row u hu] at this
    exact this
  have hc := cell_of ht hp
  obtain ⟨a, b⟩ := I.nn t p ht2 hp2
  have hz : t < max n m := by omega
  have hz2 : p < max n m := by omega
  have := sumN_one_le (f := fun p => cell full t p) (fun p hp => I.reg.nn t p hz hp) hz2
  rw [I.reg.rows t hz] at this
  have this : cell full t p ≤ 0 := this
  omega
theorem plan_start {T F : List (List Int)} {n m : Nat} (hG : Good T n m) (r : Raised T n m (fullM T m) F) : PlanI T n m (fullM T m) (fullM T m) F T [] := by
  refine ⟨r.reg hG, hG.toRect, fun t p ht hp => ⟨?_, r.le t p (by omega) (by omega)⟩, rfl, ?_, rfl⟩
  · obtain ⟨u, x, hu, _, hx⟩ := hG.toRect.cell ht hp
    rw [cell_of hu hx]
    exact hG.pos u (List.mem_of_getElem? hu) x (List.mem_of_getElem? hx)
  · unfold total
    simp
end Lh

namespace Lh
open PySem PySem.Spec PyProof.Rows L2 Evl
/-! ### either of two readings -/
def tEither (t u : TE) : TE := fun σ H Q => t σ H Q ∨ u σ H Q
theorem pe_either {X : Cx} {e : Expr} {t u : TE} (h1 : PE X e t) (h2 : PE X e u) : PE X e (tEither t u) := ⟨fun pins s σ H Q I h => h.elim (h1.run pins s σ H Q I) (h2.run pins s σ H Q I)⟩
theorem evp_left {t u : TE} {σ : L2.St} {H : Hp} {P : Hp → V → Hp → Prop} (h : EvP t σ H P) : EvP (tEither t u) σ H P := fun H1 e Q q => .inl (h H1 e Q q)
theorem evp_right {t u : TE} {σ : L2.St} {H : Hp} {P : Hp → V → Hp → Prop} (h : EvP u σ H P) : EvP (tEither t u) σ H P := fun H1 e Q q => .inr (h H1 e Q q)
theorem ev_left {t u : TE} {σ : L2.St} {H : Hp} {v : V} (h : Ev t σ H v) : Ev (tEither t u) σ H v := fun H1 e Q q => .inl (h H1 e Q q)
theorem ev_right {t u : TE} {σ : L2.St} {H : Hp} {v : V} (h : Ev u σ H v) : Ev (tEither t u) σ H v := fun H1 e Q q => .inr (h H1 e Q q)

/-! ### classes: their methods, their making -/
structure DefM (K : PySem.W.Frag) (C : Addr) (m qual : Str) (st : Stmt) (ps : List Str) : Prop where
  ex : ∃ (f : Addr) (fd : FuncData), Meth K C m f ∧ Fun K m qual st f fd ∧ Bnd fd ps
structure Mth (P : Program) (w : World) (K : PySem.W.Frag) (mg : Str → Option Value) (base : Heap) (k : Nat) (C : Addr) (m : Str) (ps : List Str) (sp : Sp) : Prop where
  ex : ∃ (f : Addr) (fd : FuncData), Meth K C m f ∧ Bnd fd ps ∧ FnOk P w K mg base CX0 k f fd ps sp
structure Mkr (P : Program) (w : World) (K : PySem.W.Frag) (mg : Str → Option Value) (base : Heap) (k : Nat) (x : Str) (C : Addr) (ps : List Str) (sp : Sp) : Prop where
  ex : ∃ (f : Addr) (fd : FuncData), mg x = some (.ref C) ∧ Mk K C f ∧ Bnd fd ps ∧ FnOk P w K mg base CX0 k f fd ps sp
theorem DefM.mth {P : Program} {w : World} {K : PySem.W.Frag} {mg : Str → Option Value} {base : Heap} {C : Addr} {m qual : Str} {st : Stmt} {N ps : List Str} {k : Nat} {sp : Sp} (D : DefM K C m qual st ps) (S : FnScope N ps (defScope st)) (len : ∀ vs H Q E, sp vs H Q E → vs.length = ps.length)
    (hbody : ∀ (f : Addr) (cdv : Value) (A : Around) (outer : List Env) (s : Shared) (H : Hp) (vs : List V) (Q : VK) (E : XK), Room k (A.deeper (envOfC qual (defScope st) s.heap.objs.size f cdv)) → sp vs H Q E →
      ∃ t, PSs (cxOf CX0 P w K mg base N qual (defScope st) f cdv A outer s H E).nox (defBody st) t ∧ t { nx := fun _ H' => Q .non H', rt := Q } (start N vs) H) : Mth P w K mg base (k + 1) C m ps sp := by
  obtain ⟨f, fd, hm, F, hb⟩ := D.ex
  exact ⟨f, fd, hm, hb, F.ok S len (hbody f)⟩
theorem defM_mk {K : PySem.W.Frag} {C : Addr} {m qual : Str} {st : Stmt} {ps : List Str} {f : Addr} {oc : Value} {od an : Option Addr} {osl : Array (Option Value)} {kV doc pm cdv ct : Value}
    (a : PySem.W.findIn K (.ref C) m = some (some (.ref f))) (i : PySem.W.isFn K (.ref f) = true) (l : K.lookup f = some ⟨oc, od, .func (PySem.W.fnOf m qual (defArgs st) (defBody st) (defScope st) .none kV doc pm an cdv ct), osl⟩) (c : PySem.W.codeIn K cdv qual = true) (k : PySem.W.keepIn K (.ref f) = true)
    (hb : ∀ (kV doc pm : Value) (an : Option Addr) (cdv ct : Value) (us : List Value), us.length = ps.length → bindArgs (PySem.W.fnOf m qual (defArgs st) (defBody st) (defScope st) .none kV doc pm an cdv ct) ⟨us, []⟩ = pure (ps.zip us)) : DefM K C m qual st ps :=
  ⟨f, _, ⟨a, i, k⟩, fun_mk (st := st) l c k, hb kV doc pm an cdv ct⟩
/-- an own class's facts -/
structure Kl (K : PySem.W.Frag) (mg : Str → Option Value) (x : Str) (C : Addr) : Prop where
  mgC : mg x = some (.ref C)
  cl : Cls K C
  kp : PySem.W.keepIn K (.ref C) = true
  mks : PySem.W.makesIn K C = true
  ha : PySem.W.findIn K (.ref C) "__class__" = some (some (.builtin "object.__class__"))
  hm : PySem.W.mroIn K C (.type "object") = some true
structure Kl0 (K : PySem.W.Frag) : Prop where
  hn : PySem.W.specialIn K (.builtin "object.__class__") "__get__" = some (some (.builtin "getset_descriptor.__get__"))
  htk : PySem.W.takesIn K (.builtin "object.__class__") = some true
theorem Mth.mkr {P : Program} {w : World} {K : PySem.W.Frag} {mg : Str → Option Value} {base : Heap} {x : Str} {C : Addr} {ps : List Str} {k : Nat} {sp : Sp} (G : Mth P w K mg base k C "__init__" ps sp) (c : Kl K mg x C) : Mkr P w K mg base k x C ps sp := by
  obtain ⟨f, fd, hm, hb, F⟩ := G.ex
  exact ⟨f, fd, c.mgC, ⟨c.mks, hm.at_, hm.fn, c.kp⟩, hb, F⟩
theorem pe_mak {X : Cx} {k j : Nat} {x : Str} {C : Addr} {ps : List Str} {sp : Sp} {p pos : Pos} {e : Expr} {es : List Expr} {t : TA} (G : Mkr X.prog X.w X.K X.mg X.base k x C ps sp) (hr : Room j X.A) (hg : Gl X x) (ha : PA X (e :: es) t)
    (hjk : k + 1 ≤ j := by decide) (hdb : (x == ("__debug__" : Str)) = false := by decide) (he : starEach (e :: es) X.env = (false, eval e X.env) :: starEach es X.env := by rfl) (hpl : (backTo pos (starEach es X.env)).any (·.1) = false := by rfl) :
    PE X (.Call (.Name x p) (e :: es) [] pos) (tMake C sp [] E0 t) := by
  obtain ⟨f, fd, hm, M, hb, F⟩ := G.ex
  exact pe_make M F (hr.mono hjk) hg hm (Binds.all hb) .nil pass0 ha hdb he hpl
theorem pe_mth {X : Cx} {k j : Nat} {m : Str} {C : Addr} {ps : List Str} {sp : Sp} {apos pos : Pos} {o e : Expr} {es : List Expr} {ta : TE} {t : TA} {pl : Sem Bool} (he : PE X o ta) (c : Cls X.K C) (G : Mth X.prog X.w X.K X.mg X.base k C m ps sp) (hr : Room j X.A) (ha : PA X (e :: es) t)
    (hjk : k ≤ j := by decide) (hst : starEach (e :: es) X.env = (false, eval e X.env) :: starEach es X.env := by rfl) (hpl : (backTo pos (starEach es X.env)).any (·.1) = false := by rfl)
    (ht : eval (.Call (.Attribute o m apos) (e :: es) [] pos) X.env = (do
      let ov ← eval o X.env
      standAt apos.atName
      let (f, first) ← holding [ov] (getMethod ov m pl)
      callWith pos f first (backTo pos (starEach (e :: es) X.env)) (backToKw pos (keywordEach [] X.env))) := by rfl) :
    PE X (.Call (.Attribute o m apos) (e :: es) [] pos) (tMeth C m sp [] E0 ta t) := by
  obtain ⟨f, fd, hm, hb, F⟩ := G.ex
  exact pe_meth (pl := pl) he c hm F (hr.mono hjk) (Binds.all hb) .nil pass0 ha hst hpl ht
section
variable {K : PySem.W.Frag} {σ : L2.St} {H : Hp} {te ta : TE} {P : Hp → V → Hp → Prop} {x v : V}
/-- o.f -/
theorem ev_fld {a C dx : Addr} {fs : List (Str × V)} {f : Str} (h : Ev ta σ H (.ref a)) (ho : H a = some (.ins C dx fs)) (hc : Cls K C) (hn : NoAttr K C f) (hl : fs.lookup f = some v) : Ev (tFld K ta f) σ H v := fun H1 e Q q =>
  h H1 e _ fun H2 e2 => ⟨a, C, dx, fs, v, rfl, e2 _ _ (e _ _ ho), hc, hn, hl, q H2 e2⟩
/-- o.m(..) -/
theorem evp_meth {a C dx : Addr} {fs : List (Str × V)} {m : Str} {sp : Sp} {E : XK} {tr : TA} {vs : List V} (h : Ev ta σ H (.ref a)) (ho : H a = some (.ins C dx fs)) (hl : fs.lookup m = none) (hr : EvA tr σ H vs) (hd : Down P) (hs : ∀ H1, Ex H H1 → ∀ Q : VK, Ret P H1 Q → sp (.ref a :: (vs ++ [])) H1 Q E) :
    EvP (tMeth C m sp [] E ta tr) σ H P := fun H1 e Q q =>
  h H1 e _ fun H2 e2 => ⟨a, dx, fs, rfl, e2 _ _ (e _ _ ho), hl, hr H2 (e.trans e2) _ fun H3 e3 => hs H3 ((e.trans e2).trans e3) Q fun u H4 e4 p => q u H4 ((e2.trans e3).trans e4) (hd _ _ _ _ (e2.trans e3) p)⟩
theorem ev_methV {a C dx : Addr} {fs : List (Str × V)} {m : Str} {sp : Sp} {E : XK} {tr : TA} {vs : List V} (h : Ev ta σ H (.ref a)) (ho : H a = some (.ins C dx fs)) (hl : fs.lookup m = none) (hr : EvA tr σ H vs) (hs : ∀ H1, Ex H H1 → ∀ Q : VK, Ret (IsV v) H1 Q → sp (.ref a :: (vs ++ [])) H1 Q E) :
    Ev (tMeth C m sp [] E ta tr) σ H v := ev_ofp (evp_meth h ho hl hr down_v hs)
/-- isinstance of an own instance -/
theorem isi_own {a C D dx : Addr} {fs : List (Str × V)} {x : Str} {k : Bool} {mg : Str → Option Value} (ha : Ev ta σ H (.ref a)) (ho : H a = some (.ins C dx fs)) (c : Kl K mg x C) (c0 : Kl0 K) (hk : PySem.W.kitOne K (.ref C) (.ref D) = some k) :
    Ev (tCB (rIsi K) (tCons ta (tCons (tC (.ref D)) tNil))) σ H (.bl k) := fun H1 e Q q =>
  ha H1 e _ fun H2 e2 => ⟨.ref a, .ref D, .ref C, .ref D, k, rfl, ClsV.own D, .base (.ins (e2 _ _ (e _ _ ho)) c.cl c.ha c0.hn c0.htk c.hm), hk, q H2 e2⟩
end

/-! ### dicts of classes taken, of classes tried -/
def dM (M : List (Nat × Nat)) : List (Key × V) := M.map fun q => (Sum.inl (q.1 : Int), V.int (q.2 : Int))
def dT (tt : List Nat) : List (Key × V) := tt.map fun (p : Nat) => (Sum.inl (p : Int), V.bl true)
theorem val_dM (p : Nat) : ∀ M : List (Nat × Nat), valV (dM M) (.inl (p : Int)) = (M.lookup p).map fun t => V.int (t : Int)
  | [] => rfl
  | (q, t) :: M => by
    show valV ((Sum.inl (q : Int), V.int (t : Int)) :: dM M) (.inl (p : Int)) = _
    rw [List.lookup_cons]
    by_cases h : q = p
    · subst h
      rw [valV_pos rfl]
      simp
    · rw [valV_neg (fun z => h (by have := Sum.inl.inj z; omega)), val_dM p M]
      have : (p == q) = false := by simp [Ne.symm h]
      rw [this]
theorem val_dT (p : Nat) : ∀ tt : List Nat, (valV (dT tt) (.inl (p : Int))).isSome = decide (p ∈ tt)
  | [] => rfl
  | q :: tt => by
    show (valV ((Sum.inl (q : Int), V.bl true) :: dT tt) (.inl (p : Int))).isSome = _
    by_cases h : q = p
    · subst h
      rw [valV_pos rfl]
      simp
    · rw [valV_neg (fun z => h (by have := Sum.inl.inj z; omega)), val_dT p tt]
      simp [Ne.symm h]
theorem put_dT {tt : List Nat} {p : Nat} (h : p ∉ tt) : putK (dT tt) (.inl (p : Int)) (.bl true) = dT (tt ++ [p]) := by
  have e : valV (dT tt) (.inl (p : Int)) = none := by
    have := val_dT p tt
    rw [decide_eq_false h] at this
    cases hv : valV (dT tt) (.inl (p : Int)) with
    | none => rfl
    | some v => rw [hv] at this; cases this
  rw [putK_new _ e]
  unfold dT
  rw [List.map_append]
  rfl
/-- a key stored -/
def putN (M : List (Nat × Nat)) (p t : Nat) : List (Nat × Nat) := if (M.lookup p).isSome then M.map (fun q => if q.1 = p then (q.1, t) else q) else M ++ [(p, t)]
theorem any_dM (p : Nat) (M : List (Nat × Nat)) : ((dM M).any fun kv => decide (kv.1 = Sum.inl (p : Int))) = (M.lookup p).isSome := by
  rw [valV_any, val_dM]
  cases M.lookup p <;> rfl
theorem put_dM (M : List (Nat × Nat)) (p t : Nat) : putK (dM M) (.inl (p : Int)) (.int (t : Int)) = dM (putN M p t) := by
  unfold putK putN
  rw [any_dM]
  by_cases h : (M.lookup p).isSome = true
  · rw [if_pos h, if_pos h]
    unfold dM
    rw [List.map_map, List.map_map]
    refine List.map_congr_left fun q _ => ?_
    by_cases hq : q.1 = p
    · simp [hq]
    · have : ¬ (Sum.inl (q.1 : Int) : Key) = Sum.inl (p : Int) := fun z => hq (by have := Sum.inl.inj z; omega)
      simp [hq, this]
  · rw [if_neg h, if_neg h]
    unfold dM
    rw [List.map_append]
    rfl
theorem lookup_map_put (p t q : Nat) : ∀ M : List (Nat × Nat), (M.map fun z => if z.1 = p then (z.1, t) else z).lookup q = if q = p then (M.lookup q).map (fun _ => t) else M.lookup q
  | [] => by simp
  | (a, b) :: M => by
    rw [List.map_cons]
    by_cases hqa : q = a
    · subst hqa
      by_cases hp : q = p
      · simp [hp, List.lookup_cons]
      · simp [hp, List.lookup_cons]
    · have e : (q == a) = false := by simp [hqa]
      have ih := lookup_map_put p t q M
      by_cases hap : a = p
      · simp only [hap, if_true, List.lookup_cons]
        subst hap
        rw [e]
        exact ih
      · simp only [hap, if_false, List.lookup_cons, e]
        exact ih
theorem lookup_append_ne {q p t : Nat} : ∀ {M : List (Nat × Nat)}, (M ++ [(p, t)]).lookup q = match M.lookup q with | some x => some x | none => if q = p then some t else none
  | [] => by
    by_cases h : q = p
    · simp [h, List.lookup_cons]
    · have : (q == p) = false := by simp [h]
      simp [List.lookup_cons, this, h]
  | (a, b) :: M => by
    show List.lookup q ((a, b) :: (M ++ [(p, t)])) = _
    rw [List.lookup_cons, List.lookup_cons]
    cases h : q == a with
    | true => rfl
    | false => exact lookup_append_ne
theorem lookup_putN (M : List (Nat × Nat)) (p t : Nat) : (fun q => (putN M p t).lookup q) = put (fun q => M.lookup q) p t := by
  funext q
  unfold putN put
  by_cases h : (M.lookup p).isSome = true
  · rw [if_pos h, lookup_map_put]
    by_cases hq : q = p
    · subst hq
      rw [if_pos rfl, if_pos rfl]
      cases hl : M.lookup q with
      | none => rw [hl] at h; cases h
      | some x => rfl
    · rw [if_neg hq, if_neg hq]
  · rw [if_neg h, lookup_append_ne]
    by_cases hq : q = p
    · subst hq
      rw [if_pos rfl]
      cases hl : M.lookup q with
      | none => simp
      | some x => rw [hl] at h; exact absurd rfl h
    · rw [if_neg hq]
      show (match M.lookup q with | some x => some x | none => none) = if q = p then some t else M.lookup q
      rw [if_neg hq]
      cases hl : M.lookup q <;> rfl
theorem keys_putN {M : List (Nat × Nat)} (p t : Nat) (nd : (M.map (·.1)).Nodup) : ((putN M p t).map (·.1)).Nodup := by
  unfold putN
  by_cases h : (M.lookup p).isSome = true
  · rw [if_pos h, List.map_map]
    have e : ((fun x => x.1) ∘ fun z : Nat × Nat => if z.1 = p then (z.1, t) else z) = fun x => x.1 := by
      funext z
      show (if z.1 = p then (z.1, t) else z).1 = z.1
      split <;> rfl
    rw [e]
    exact nd
  · rw [if_neg h, List.map_append]
    refine List.nodup_append.mpr ⟨nd, by simp, fun a ha b hb hab => h ?_⟩
    have hb : b = p := by simpa using hb
    subst hb
    subst hab
    obtain ⟨⟨x, y⟩, hz, rfl⟩ := List.mem_map.mp ha
    have : ∀ {M : List (Nat × Nat)}, (x, y) ∈ M → (M.lookup x).isSome = true := by
      intro M
      induction M with
      | nil => intro h; cases h
      | cons c M ih =>
        intro h
        rw [List.lookup_cons]
        cases hb : x == c.1 with
        | true => rfl
        | false =>
          rcases List.mem_cons.mp h with h | h
          · rw [← h] at hb
            simp at hb
          · exact ih h
    exact this hz
theorem mem_lookup {M : List (Nat × Nat)} (nd : (M.map (·.1)).Nodup) {p t : Nat} (h : (p, t) ∈ M) : M.lookup p = some t := by
  induction M with
  | nil => cases h
  | cons c M ih =>
    obtain ⟨n1, n2⟩ := List.nodup_cons.mp nd
    rw [List.lookup_cons]
    rcases List.mem_cons.mp h with h | h
    · rw [← h]
      simp
    · have : (p == c.1) = false := by
        have hne : p ≠ c.1 := fun z => n1 (by show c.1 ∈ _; rw [← z]; exact List.mem_map.mpr ⟨(p, t), h, rfl⟩)
        simp [hne]
      rw [this]
      exact ih n2 h
theorem lookup_mem : ∀ {M : List (Nat × Nat)} {p t : Nat}, M.lookup p = some t → (p, t) ∈ M
  | [], _, _, h => by simp at h
  | (a, b) :: M, p, t, h => by
    rw [List.lookup_cons] at h
    cases hb : p == a with
    | true =>
      rw [hb] at h
      have e1 : p = a := by simpa using hb
      have e2 : b = t := Option.some.inj h
      rw [e1, ← e2]
      exact List.mem_cons_self
    | false =>
      rw [hb] at h
      exact List.mem_cons_of_mem _ (lookup_mem h)
section
variable {σ : L2.St} {H : Hp} {td ty tv : TE} {D : Ends} {tz : TS} {a : Addr} {kvs : List (Key × V)} {k : Int} {v : V}
theorem et_dnotin (hy : Ev ty σ H (.int k)) (hd : Ev td σ H (.ref a)) (ha : H a = some (.dK kvs)) : EvT (tB (tDNotIn ty td)) σ H (!(valV kvs (.inl k)).isSome) := fun H1 e Q q =>
  hy H1 e _ fun H2 e2 => hd H2 (e.trans e2) _ fun H3 e3 => ⟨a, _, rfl, DGet.k (k := Sum.inl k) (((e.trans e2).trans e3) _ _ ha), _, rfl, q H3 (e2.trans e3)⟩
theorem ev_dget (hd : Ev td σ H (.ref a)) (hy : Ev ty σ H (.int k)) (ha : H a = some (.dK kvs)) (hv : valV kvs (.inl k) = some v) : Ev (tDGet td ty) σ H v := fun H1 e Q q =>
  hd H1 e _ fun H2 e2 => hy H2 (e.trans e2) _ fun H3 e3 => ⟨a, v, rfl, by
    have := DGet.k (k := Sum.inl k) (((e.trans e2).trans e3) _ _ ha)
    rw [hv] at this
    exact this, q H3 (e2.trans e3)⟩
theorem s_dput (h : Ev tv σ H v) (hd : Ev td σ H (.ref a)) (hy : Ev ty σ H (.int k)) (ha : H a = some (.dK kvs)) (hl : kvs.length < 100000) (q : ∀ H1, Ex H H1 → D.nx σ (upd H1 a (.dK (putK kvs (.inl k) v)))) : sDPut td ty tv D σ H :=
  h H (Ex.refl H) _ fun H1 e1 => hd H1 e1 _ fun H2 e2 => hy H2 (e1.trans e2) _ fun H3 e3 => ⟨a, _, rfl, DPut.k (k := Sum.inl k) (((e1.trans e2).trans e3) _ _ ha) (sz_lt hl), q H3 ((e1.trans e2).trans e3)⟩
theorem q_dput (h : Ev tv σ H v) (hd : Ev td σ H (.ref a)) (hy : Ev ty σ H (.int k)) (ha : H a = some (.dK kvs)) (hl : kvs.length < 100000) (q : ∀ H1, Ex H H1 → tz D σ (upd H1 a (.dK (putK kvs (.inl k) v)))) : tSeq (sDPut td ty tv) tz D σ H := s_dput (D := { D with nx := tz D }) h hd hy ha hl q
end
/-- all but two things stand -/
def ExB (a b : Addr) (H H' : Hp) : Prop := ∀ c o, c ≠ a → c ≠ b → H c = some o → H' c = some o
theorem ExB.of {a b : Addr} {H H' : Hp} (e : Ex H H') : ExB a b H H' := fun c o _ _ h => e c o h
theorem ExB.trans {a b : Addr} {H H1 H2 : Hp} (e : ExB a b H H1) (f : ExB a b H1 H2) : ExB a b H H2 := fun c o h1 h2 h => f c o h1 h2 (e c o h1 h2 h)
theorem ExB.updA {a b : Addr} {H H1 : Hp} {o : HO} (e : ExB a b H H1) : ExB a b H (upd H1 a o) := fun c u h1 h2 h => by rw [upd_ne h1]; exact e c u h1 h2 h
theorem ExB.updB {a b : Addr} {H H1 : Hp} {o : HO} (e : ExB a b H H1) : ExB a b H (upd H1 b o) := fun c u h1 h2 h => by rw [upd_ne h2]; exact e c u h1 h2 h
theorem tab_exB {a b c : Addr} {H H' : Hp} {rs : List Addr} {T : List (List Int)} (h : Tab H c rs T) (e : ExB a b H H') (ha : ∃ ka, H a = some (.dK ka)) (hb : ∃ kb, H b = some (.dK kb)) : Tab H' c rs T := by
  have ne : ∀ {d : Addr} {xs : List V}, H d = some (.lst xs) → d ≠ a ∧ d ≠ b := fun {d xs} hd => by
    obtain ⟨ka, ha⟩ := ha
    obtain ⟨kb, hb⟩ := hb
    exact ⟨ne_of hd ha (fun z => nomatch z), ne_of hd hb (fun z => nomatch z)⟩
  refine ⟨e _ _ (ne h.top).1 (ne h.top).2 h.top, h.len, fun i r u hr hu => ?_⟩
  have := h.row i r u hr hu
  exact e _ _ (ne this).1 (ne this).2 this

/-! ### comprehensions over ints, sets, sorting -/
section
variable {K : PySem.W.Frag} {w : World} {σ : L2.St} {H : Hp} {te tl ta tb : TE} {a : Addr} {ns : List Int} {j : Nat} {vs : List Nat} {P : Hp → V → Hp → Prop}
theorem el_lcI {v : Int → V} (h : Ev tl σ H (.ref a)) (hx : SqL K H a (ns.map V.int)) (hz : ns.length ≤ 40000) (hw : ∀ x, wipe ((wipe σ vs).set j (some x)) vs = wipe σ vs)
    (he : ∀ y, y ∈ ns → ∀ H1, Ex H H1 → Ev te ((wipe σ vs).set j (some (.int y))) H1 (v y)) : EvL (tLc (iList K tl) (gName j) tYes te vs) σ H (ns.map v) := by
  have hg : ns.map v = given (ns.map V.int).length (fun _ => true) (fun i => v (ns.getD i 0)) := by
    refine (given_all (by simp) fun i x hx => ?_).symm
    rw [List.getElem?_map] at hx
    cases hq : ns[i]? with
    | none => rw [hq] at hx; cases hx
    | some y =>
      rw [hq] at hx
      rw [getD_of hq]
      exact Option.some.inj hx
  rw [hg]
  refine el_lcL _ _ h hx (by rw [List.length_map]; exact hz) hw (fun z x H2 e2 hz => et_yes) (fun z x H2 e2 hz _ => ?_)
  rw [List.getElem?_map] at hz
  cases hq : ns[z]? with
  | none => rw [hq] at hz; cases hz
  | some y =>
    rw [hq] at hz
    have ey : V.int y = x := Option.some.inj hz
    subst ey
    rw [getD_of hq]
    exact he y (List.mem_of_getElem? hq) H2 e2
/-- all([b(x) for x in ns]) -/
theorem ev_allI {b : Int → Bool} (h : Ev tl σ H (.ref a)) (hx : SqL K H a (ns.map V.int)) (hz : ns.length ≤ 40000) (hw : ∀ x, wipe ((wipe σ vs).set j (some x)) vs = wipe σ vs)
    (he : ∀ y, y ∈ ns → ∀ H1, Ex H H1 → Ev te ((wipe σ vs).set j (some (.int y))) H1 (.bl (b y))) : Ev (tCB (rAll K) (tCons (tLc (iList K tl) (gName j) tYes te vs) tNil)) σ H (.bl (ns.all b)) := by
  have hl : EvL (tLc (iList K tl) (gName j) tYes te vs) σ H ((ns.map b).map V.bl) := by
    rw [List.map_map]
    exact el_lcI (v := fun y => V.bl (b y)) h hx hz hw he
  refine ev_is (ev_allL hl) ?_
  rw [List.all_map]
  rfl
/-- len(set(e)) == len(e) -/
theorem ev_lenSetEq (h : EvP te σ H P) (hp : ∀ H1 v H2, P H1 v H2 → ∃ a, v = .ref a ∧ SqL K H2 a (ns.map V.int)) (hl : ns.length ≤ 2000) (hb : Ev tb σ H (.int (ns.length : Nat))) :
    Ev (tOp rEq (tCB (rLenSet w) (tCons (tCB (rSetL K w) (tCons te tNil)) tNil)) tb) σ H (.bl (decide ns.Nodup)) := fun H1 e Q q =>
  evp_lenSet (w := w) h hp hl H1 e _ fun v H2 e2 ⟨l, hv, nd, hm⟩ => by
    subst hv
    refine hb H2 (e.trans e2) _ fun H3 e3 => ⟨rfl, ?_⟩
    have he : (decide ((V.int (l.length : Nat)) = V.int (ns.length : Nat))) = decide ns.Nodup := by
      refine decide_eq_decide.mpr ⟨fun z => ?_, fun z => ?_⟩
      · have := V.int.inj z
        exact (len_eq_iff nd hm).mp (by omega)
      · rw [(len_eq_iff nd hm).mpr z]
    rw [he]
    exact q H3 (e2.trans e3)
theorem ev_lenSetNe (h : EvP te σ H P) (hp : ∀ H1 v H2, P H1 v H2 → ∃ a, v = .ref a ∧ SqL K H2 a (ns.map V.int)) (hl : ns.length ≤ 2000) (hb : Ev tb σ H (.int (ns.length : Nat))) :
    Ev (tOp rNe (tCB (rLenSet w) (tCons (tCB (rSetL K w) (tCons te tNil)) tNil)) tb) σ H (.bl (!decide ns.Nodup)) := fun H1 e Q q =>
  evp_lenSet (w := w) h hp hl H1 e _ fun v H2 e2 ⟨l, hv, nd, hm⟩ => by
    subst hv
    refine hb H2 (e.trans e2) _ fun H3 e3 => ⟨rfl, ?_⟩
    have he : (decide ((V.int (l.length : Nat)) = V.int (ns.length : Nat))) = decide ns.Nodup := by
      refine decide_eq_decide.mpr ⟨fun z => ?_, fun z => ?_⟩
      · have := V.int.inj z
        exact (len_eq_iff nd hm).mp (by omega)
      · rw [(len_eq_iff nd hm).mpr z]
    rw [he]
    exact q H3 (e2.trans e3)
/-- sorted(e), of ints -/
abbrev SortedL (ns : List Int) : Hp → V → Hp → Prop := fun H1 v H2 => ∃ (p : Addr) (l : List Int), v = .ref p ∧ H1 p = none ∧ H2 p = some (.lst (l.map V.int)) ∧ l.Perm ns ∧ l.Pairwise (· ≤ ·)
theorem evp_sortL (h : EvP te σ H P) (hp : ∀ H1 v H2, P H1 v H2 → ∃ a, v = .ref a ∧ SqL K H2 a (ns.map V.int)) : EvP (tCB (rSortedI K) (tCons te tNil)) σ H (SortedL ns) := fun H1 e Q q =>
  h H1 e _ fun v H2 e2 hv => by
    obtain ⟨a, rfl, hs⟩ := hp H1 v H2 hv
    exact ⟨a, ns, rfl, hs, fun l p hpm hpw np => q _ _ (e2.trans (Ex.new np)) ⟨p, l, rfl, fresh_back e2 np, upd_same, hpm, hpw⟩⟩
/-- e != sorted(f) -/
theorem ev_neSort {d : PyData} (ha : EvP ta σ H (IsD K d)) (hb : EvP tb σ H (SortedL ns)) (sd : SeqAt.shaped d = true) {k : Bool} (hk : ∀ l : List Int, l.Perm ns → l.Pairwise (· ≤ ·) → (!PyData.eqv d (intsD l)) = k) : Ev (tOp (rNeD K) ta tb) σ H (.bl k) := by
  intro H1 e1 Q q
  exact ha H1 e1 _ fun v H2 e2 hv => hb H2 (e1.trans e2) _ fun u H3 e3 ⟨p, l, hu, _, h3, hpm, hpw⟩ => by
    subst hu
    refine ⟨d, intsD l, Dp.mono e3 _ _ hv, dp_ints h3, sd, shaped_ints l, ?_⟩
    rw [hk l hpm hpw]
    exact q H3 (e2.trans e3)
end

/-! ### promises -/
def sp_are_unlike (K : PySem.W.Frag) : Sp := fun vs H Q _ => ∃ (a : Addr) (ns : List Int) (n : Nat), vs = [.ref a, .int (n : Int)] ∧ SqL K H a (ns.map V.int) ∧ ns.length ≤ 2000 ∧ Ret (IsV (.bl (decide ns.Nodup && inRange n ns))) H Q
def sp_too_few (K : PySem.W.Frag) : Sp := fun vs H Q _ => ∃ (a b : Addr) (rs : List Addr) (T : List (List Int)) (n m : Nat) (S : List Int) (least : Int), vs = [.ref a, .ref b, .int least] ∧ Tab H a rs T ∧ Rect T n m ∧ 1 ≤ n ∧ n ≤ 1000 ∧ m ≤ 1000 ∧ H b = some (.lst (S.map V.int)) ∧ S.length ≤ 2000 ∧ Ret (IsV (.bl (tooFewB T n m S least))) H Q
def spF (K : PySem.W.Frag) (d : Nat) : Sp := fun vs H Q _ => ∃ (a tk tr : Addr) (rs : List Addr) (T : List (List Int)) (n m : Nat) (least : Int) (wh : Nat) (M : List (Nat × Nat)) (tt : List Nat),
  vs = [.ref a, .int least, .int (wh : Int), .ref tk, .ref tr] ∧ Tab H a rs T ∧ Rect T n m ∧ n ≤ 1000 ∧ m ≤ 1000 ∧ wh < n ∧ tk ≠ tr ∧ H tk = some (.dK (dM M)) ∧ (M.map (·.1)).Nodup ∧ M.length ≤ m ∧ H tr = some (.dK (dT tt)) ∧ tt.Nodup ∧ (∀ p ∈ tt, p < m) ∧ m ≤ tt.length + d ∧ Fit T n m least (fun p => M.lookup p) ∧
  (∀ H' M' tt', ExB tk tr H H' → H' tk = some (.dK (dM M')) → (M'.map (·.1)).Nodup → H' tr = some (.dK (dT tt')) → Won T n m least wh (fun p => M.lookup p) tt (fun p => M'.lookup p) → Q (.bl true) H') ∧
  (∀ H' tt', ExB tk tr H H' → H' tk = some (.dK (dM M)) → H' tr = some (.dK (dT tt')) → Lost T n m least wh (fun p => M.lookup p) tt tt' → (∀ p ∈ tt', p < m) → Q (.bl false) H')
def sp_freed (K : PySem.W.Frag) : Nat → Sp
  | 0 => fun _ _ _ _ => False
  | d + 1 => spF K d
abbrev NewChoice (L : List Nat) : Hp → V → Hp → Prop := fun H1 v H2 => ∃ p q, v = .ref p ∧ H1 q = none ∧ H2 p = some (.tup [.ref q, .non]) ∧ H2 q = some (.lst (L.map fun (x : Nat) => V.int (x : Int)))
abbrev NewShort (S : List Int) : Hp → V → Hp → Prop := fun H1 v H2 => ∃ p q, v = .ref p ∧ H1 q = none ∧ H2 p = some (.tup [.non, .ref q]) ∧ H2 q = some (.lst (S.map V.int))
def sp_chosen (K : PySem.W.Frag) : Sp := fun vs H Q _ => ∃ (a : Addr) (rs : List Addr) (T : List (List Int)) (n m : Nat) (least : Int), vs = [.ref a, .int least] ∧ Tab H a rs T ∧ Rect T n m ∧ n ≤ 1000 ∧ m ≤ 20 ∧
  (∀ L, Choice T n m least L → Ret (NewChoice L) H Q) ∧ (∀ S, tooFewB T n m S least = true → Ret (NewShort S) H Q)
end Lh

namespace Lh
open PySem PySem.Spec PyProof.Rows L2 Evl
/-! ### plain words: a choice of classes as the program and the law look at it -/
def chosenB (T : List (List Int)) (n m : Nat) (ns : List Int) : Bool := decide (ns.length = n) && (decide ns.Nodup && inRange m ns)
def dueB (T : List (List Int)) (n m : Nat) (ns : List Int) : Bool := chosenB T n m ns && (List.range n).all fun t => decide (0 < cell T t (ns.getD t 0).toNat)
theorem Choice.due {T : List (List Int)} {n m : Nat} {L : List Nat} (h : Choice T n m 1 L) : dueB T n m (L.map fun (x : Nat) => (x : Int)) = true := by
  unfold dueB chosenB
  simp only [Bool.and_eq_true, decide_eq_true_eq, List.all_eq_true]
  refine ⟨⟨by rw [List.length_map]; exact h.len, nodup_map _ h.nd fun x _ y _ e => by omega, ?_⟩, fun t ht => ?_⟩
  · refine List.all_eq_true.mpr fun x hx => ?_
    obtain ⟨p, hp, rfl⟩ := List.mem_map.mp hx
    obtain ⟨t, ht⟩ := List.getElem?_of_mem hp
    have := (h.adj t p ht).2.1
    simp
    omega
  · have ht2 : t < L.length := by rw [h.len]; exact List.mem_range.mp ht
    have ha := (h.adj t L[t] (by simp [ht2])).2.2
    have e : (L.map fun (x : Nat) => (x : Int)).getD t 0 = (L[t] : Int) := by simp [List.getD, ht2]
    rw [e]
    have : ((L[t] : Nat) : Int).toNat = L[t] := by omega
    rw [this]
    omega
theorem due_more {T : List (List Int)} {n m : Nat} {ns : List Int} (h : dueB T n m ns = true) : dueB T n m (ns ++ [-1]) = false := by
  unfold dueB chosenB at h
  simp only [Bool.and_eq_true, decide_eq_true_eq] at h
  unfold dueB chosenB
  have : ¬ (ns ++ [-1]).length = n := by rw [List.length_append, List.length_singleton]; omega
  rw [decide_eq_false this]
  rfl
theorem few_more {T : List (List Int)} {n m : Nat} {ns : List Int} {l : Int} : tooFewB T n m (ns ++ [-1]) l = false := by
  unfold tooFewB
  have : inRange n (ns ++ [-1]) = false := by
    unfold inRange
    rw [List.all_append]
    simp
  rw [this]
  simp
theorem few_len {T : List (List Int)} {n m : Nat} {S : List Int} {l : Int} (h : tooFewB T n m S l = true) : S.length ≤ n := by
  unfold tooFewB at h
  simp only [Bool.and_eq_true, decide_eq_true_eq] at h
  have := phpN (l := S.map Int.toNat) (m := List.range n) (nodup_map _ (rising_nodup h.1.1.2) fun x hx y hy e => by
    have a := mem_range_of h.1.2 hx
    have b := mem_range_of h.1.2 hy
    omega) fun p hp => by
    obtain ⟨t, ht, rfl⟩ := List.mem_map.mp hp
    have a := mem_range_of h.1.2 ht
    exact List.mem_range.mpr (by omega)
  rw [List.length_map, List.length_range] at this
  exact this
/-! ### sets of teachers by number -/
def bitsL (n k : Nat) : List Int := ((List.range n).filter fun w => Nat.testBit k w).map fun (w : Nat) => (w : Int)
theorem ex_bits (p : Nat → Bool) : ∀ n, ∃ k, k < 2 ^ n ∧ ∀ w, w < n → Nat.testBit k w = p w
  | 0 => ⟨0, by simp, fun w h => by omega⟩
  | n + 1 => by
    obtain ⟨k, hk, hw⟩ := ex_bits p n
    cases hp : p n with
    | false =>
      refine ⟨k, by rw [Nat.pow_succ]; omega, fun w h => ?_⟩
      by_cases e : w = n
      · subst e
        rw [hp]
        exact Nat.testBit_lt_two_pow hk
      · exact hw w (by omega)
    | true =>
      refine ⟨2 ^ n + k, by rw [Nat.pow_succ]; omega, fun w h => ?_⟩
      by_cases e : w = n
      · subst e
        rw [hp, Nat.testBit_two_pow_add_eq, Nat.testBit_lt_two_pow hk]
        rfl
      · rw [Nat.testBit_two_pow_add_gt (by omega)]
        exact hw w (by omega)
theorem bitsL_rising (n k : Nat) : (bitsL n k).Pairwise (· < ·) := by
  unfold bitsL
  rw [List.pairwise_map]
  refine (List.Pairwise.sublist List.filter_sublist (List.pairwise_lt_range (n := n))).imp fun {a b} h => by omega
theorem ex_bitsL {n : Nat} {S : List Int} (h1 : S.Pairwise (· < ·)) (h2 : inRange n S = true) : ∃ k, k < 2 ^ n ∧ bitsL n k = S := by
  obtain ⟨k, hk, hw⟩ := ex_bits (fun w => decide ((w : Int) ∈ S)) n
  refine ⟨k, hk, rising_eq (bitsL_rising n k) h1 fun x => ?_⟩
  unfold bitsL
  constructor
  · intro hx
    obtain ⟨w, hw2, rfl⟩ := List.mem_map.mp hx
    obtain ⟨a, b⟩ := List.mem_filter.mp hw2
    rw [hw w (List.mem_range.mp a)] at b
    exact of_decide_eq_true b
  · intro hx
    obtain ⟨x0, x1⟩ := mem_range_of h2 hx
    refine List.mem_map.mpr ⟨x.toNat, List.mem_filter.mpr ⟨List.mem_range.mpr (by omega), ?_⟩, by omega⟩
    rw [hw _ (by omega)]
    have : ((x.toNat : Nat) : Int) = x := by omega
    rw [this]
    exact decide_eq_true hx
def barredB (T : List (List Int)) (n m : Nat) : Bool := (List.range (2 ^ n)).any fun k => tooFewB T n m (bitsL n k) 1
theorem barred_of {T : List (List Int)} {n m : Nat} {S : List Int} (h : tooFewB T n m S 1 = true) : barredB T n m = true := by
  have h0 := h
  unfold tooFewB at h
  simp only [Bool.and_eq_true, decide_eq_true_eq] at h
  obtain ⟨k, hk, e⟩ := ex_bitsL h.1.1.2 h.1.2
  exact List.any_eq_true.mpr ⟨k, List.mem_range.mpr hk, by rw [e]; exact h0⟩
theorem barred_not {T : List (List Int)} {n m : Nat} {L : List Nat} (h : Choice T n m 1 L) : barredB T n m = false := by
  unfold barredB
  rw [List.any_eq_false]
  intro k _
  rw [h.enough]
  exact Bool.false_ne_true
/-! ### classes with one list -/
def spInit1 (K : PySem.W.Frag) (C : Addr) (f : Str) : Sp := fun vs H Q _ => ∃ (x a dx : Addr) (xs : List V), vs = [.ref x, .ref a] ∧ H x = some (.ins C dx []) ∧ SqL K H a xs ∧ ∀ p H1, Ex H H1 → H p = none → H1 p = some (.lst xs) → Q .non (upd H1 x (.ins C dx [(f, .ref p)]))
abbrev NewIns1 (C : Addr) (f : Str) (xs : List V) : Hp → V → Hp → Prop := fun H1 v H2 => ∃ x dx p, v = .ref x ∧ H1 x = none ∧ H1 p = none ∧ p ≠ x ∧ H2 x = some (.ins C dx [(f, .ref p)]) ∧ H2 p = some (.lst xs)
theorem down_ins1 {C : Addr} {f : Str} {xs : List V} : Down (NewIns1 C f xs) := fun _ _ _ _ e ⟨x, dx, p, a, b, c, d, g, h⟩ => ⟨x, dx, p, a, fresh_back e b, fresh_back e c, d, g, h⟩
theorem evp_make1 {K : PySem.W.Frag} {σ : L2.St} {H : Hp} {C a : Addr} {f : Str} {xs : List V} {t : TA} {E : XK} (h : EvA t σ H [.ref a]) (hs : SqL K H a xs) : EvP (tMake C (spInit1 K C f) [] E t) σ H (NewIns1 C f xs) := fun H1 e Q q =>
  h H1 e _ fun H2 e2 x dx nx nd hne => by
    have e3 : Ex H2 (upd (upd H2 dx (.own x)) x (.ins C dx [])) := (Ex.new nd).trans (Ex.new (by rw [upd_ne (Ne.symm hne)]; exact nx))
    have hx : upd (upd H2 dx (.own x)) x (.ins C dx []) x = some (.ins C dx []) := upd_same
    generalize upd (upd H2 dx (.own x)) x (.ins C dx []) = H3 at e3 hx
    refine ⟨x, a, dx, xs, rfl, hx, ex_l ((e.trans e2).trans e3) hs, fun p H4 e4 np h4 => ⟨rfl, ?_⟩⟩
    have hpx : p ≠ x := fun z => by rw [z, hx] at np; cases np
    exact q _ _ (Ex.mut (e2.trans (e3.trans e4)) (fresh_back e2 nx)) ⟨x, dx, p, rfl, fresh_back e2 nx, fresh_back (e2.trans e3) np, hpx, upd_same, by rw [upd_ne hpx]; exact h4⟩
/-- self.f = list(x) -/
theorem s_init1 {K : PySem.W.Frag} {σ : L2.St} {H : Hp} {C x a dx : Addr} {f : Str} {xs : List V} {D : Ends} (hc : Cls K C) (hn : NoAttr K C f) (h0 : σ[0]? = some (some (.ref x))) (h1 : σ[1]? = some (some (.ref a))) (hx : H x = some (.ins C dx [])) (hs : SqL K H a xs)
    (k : ∀ p H1, Ex H H1 → H p = none → H1 p = some (.lst xs) → D.nx σ (upd H1 x (.ins C dx [(f, .ref p)]))) : sFld K (tVar 0) (tCB (rListS K) (tCons (tVar 1) tNil)) f D σ H :=
  el_list (ev_var h1) hs H (Ex.refl H) _ fun p H1 np e1 hp => ⟨.ref x, h0, x, C, dx, [], rfl, e1 _ _ hx, hc, hn, by decide, k p H1 e1 np hp⟩
/-! ### a found answer -/
def FldOf (k : Bool) : Str := if k = true then "classes" else "teachers"
def IsFound (CE CS : Addr) (H : Hp) (x q : Addr) (k : Bool) (ns : List Int) : Prop := ns.length ≤ 2000 ∧ H q = some (.lst (ns.map V.int)) ∧ ∃ dx, (k = true ∧ H x = some (.ins CE dx [("classes", .ref q)])) ∨ (k = false ∧ H x = some (.ins CS dx [("teachers", .ref q)]))
theorem IsFound.mono {CE CS : Addr} {H H' : Hp} {x q : Addr} {k : Bool} {ns : List Int} (h : IsFound CE CS H x q k ns) (e : Ex H H') : IsFound CE CS H' x q k ns := ⟨h.1, e _ _ h.2.1, h.2.2.imp fun dx z => z.imp (fun y => ⟨y.1, e _ _ y.2⟩) (fun y => ⟨y.1, e _ _ y.2⟩)⟩
def verdict (T : List (List Int)) (n m : Nat) (k : Bool) (ns : List Int) : Bool := if k = true then dueB T n m ns else tooFewB T n m ns 1
/-- facts of the text's classes -/
structure Cs (K : PySem.W.Frag) (mg : Str → Option Value) (CA CP CE CS CL : Addr) : Prop where
  k0 : Kl0 K
  E : Kl K mg "Each" CE
  S : Kl K mg "Short" CS
  gA : mg "Answer" = some (.ref CA)
  gP : mg "Plan" = some (.ref CP)
  gL : mg "Lasting" = some (.ref CL)
  nE : PySem.W.findIn K (.ref CE) "classes" = some none
  nS : PySem.W.findIn K (.ref CS) "teachers" = some none
  EA : PySem.W.kitOne K (.ref CE) (.ref CA) = some true
  EE : PySem.W.kitOne K (.ref CE) (.ref CE) = some true
  ES : PySem.W.kitOne K (.ref CE) (.ref CS) = some false
  EP : PySem.W.kitOne K (.ref CE) (.ref CP) = some false
  EL : PySem.W.kitOne K (.ref CE) (.ref CL) = some false
  SA : PySem.W.kitOne K (.ref CS) (.ref CA) = some true
  SE : PySem.W.kitOne K (.ref CS) (.ref CE) = some false
  SS : PySem.W.kitOne K (.ref CS) (.ref CS) = some true
  SP : PySem.W.kitOne K (.ref CS) (.ref CP) = some false
  SL : PySem.W.kitOne K (.ref CS) (.ref CL) = some false
/-! ### promises -/
def sp_Each_shows (K : PySem.W.Frag) (CE : Addr) : Sp := fun vs H Q _ => ∃ (x b q dx : Addr) (rs : List Addr) (T : List (List Int)) (n m : Nat) (ns : List Int), vs = [.ref x, .ref b] ∧ H x = some (.ins CE dx [("classes", .ref q)]) ∧ H q = some (.lst (ns.map V.int)) ∧ ns.length ≤ 2000 ∧ Tab H b rs T ∧ Rect T n m ∧ 1 ≤ n ∧ n ≤ 1000 ∧ m ≤ 1000 ∧ Ret (IsV (.bl (dueB T n m ns))) H Q
def sp_Short_shows (K : PySem.W.Frag) (CS : Addr) : Sp := fun vs H Q _ => ∃ (x b q dx : Addr) (rs : List Addr) (T : List (List Int)) (n m : Nat) (ns : List Int), vs = [.ref x, .ref b] ∧ H x = some (.ins CS dx [("teachers", .ref q)]) ∧ H q = some (.lst (ns.map V.int)) ∧ ns.length ≤ 2000 ∧ Tab H b rs T ∧ Rect T n m ∧ 1 ≤ n ∧ n ≤ 1000 ∧ m ≤ 1000 ∧ Ret (IsV (.bl (tooFewB T n m ns 1))) H Q
def sp_each (K : PySem.W.Frag) (CE CS : Addr) : Sp := fun vs H Q _ => ∃ (a : Addr) (rs : List Addr) (T : List (List Int)) (n m : Nat), vs = [.ref a] ∧ Tab H a rs T ∧ Good T n m ∧
  (∀ L, Choice T n m 1 L → Ret (NewIns1 CE "classes" ((L.map fun (x : Nat) => (x : Int)).map V.int)) H Q) ∧ (∀ S, tooFewB T n m S 1 = true → Ret (NewIns1 CS "teachers" (S.map V.int)) H Q)
def sp__law_too_few (K : PySem.W.Frag) : Sp := sp_too_few K
def sp__law_chosen (K : PySem.W.Frag) : Sp := fun vs H Q _ => ∃ (a b : Addr) (rs : List Addr) (T : List (List Int)) (n m : Nat) (ns : List Int), vs = [.ref a, .ref b] ∧ Tab H a rs T ∧ Rect T n m ∧ 1 ≤ n ∧ n ≤ 1000 ∧ m ≤ 1000 ∧ H b = some (.lst (ns.map V.int)) ∧ ns.length ≤ 2000 ∧ Ret (IsV (.bl (chosenB T n m ns))) H Q
def sp__law_due (K : PySem.W.Frag) (CE CS : Addr) : Sp := fun vs H Q _ => ∃ (a x q : Addr) (rs : List Addr) (T : List (List Int)) (n m : Nat) (k : Bool) (ns : List Int), vs = [.ref a, .ref x] ∧ Tab H a rs T ∧ Rect T n m ∧ 1 ≤ n ∧ n ≤ 1000 ∧ m ≤ 1000 ∧ IsFound CE CS H x q k ns ∧ Ret (IsV (.bl (verdict T n m k ns))) H Q
def sp__law_barred (K : PySem.W.Frag) : Sp := fun vs H Q _ => ∃ (a : Addr) (rs : List Addr) (T : List (List Int)) (n m : Nat), vs = [.ref a] ∧ Tab H a rs T ∧ Rect T n m ∧ 1 ≤ n ∧ n ≤ 6 ∧ m ≤ 1000 ∧ Ret (IsV (.bl (barredB T n m))) H Q
def IsTab (H : Hp) (v : V) : Prop := ∃ (a : Addr) (rs : List Addr) (T : List (List Int)) (n m : Nat), v = .ref a ∧ Tab H a rs T ∧ Rect T n m ∧ 1 ≤ n ∧ n ≤ 1000 ∧ m ≤ 1000
theorem IsTab.mono {H H' : Hp} {v : V} (h : IsTab H v) (e : Ex H H') : IsTab H' v := by
  obtain ⟨a, rs, T, n, m, b, c, d⟩ := h
  exact ⟨a, rs, T, n, m, b, c.mono e, d⟩
def sp__law_right_each (K : PySem.W.Frag) : Sp := fun vs H Q _ => ∃ (a os : Addr) (rs : List Addr) (T : List (List Int)) (n m : Nat) (ts : List V), vs = [.ref a, .ref os] ∧ Tab H a rs T ∧ Good T n m ∧ H os = some (.lst ts) ∧ (∀ v ∈ ts, IsTab H v) ∧ Ret (IsV (.bl true)) H Q
end Lh

namespace Lh
open PySem PySem.Spec PyProof.Rows L2 Evl
theorem good_of {T : List (List Int)} {n m : Nat} (hb : (T.length == n && T.all (fun u => u.length == m && u.all fun x => decide (0 ≤ x)) && decide (1 ≤ n) && decide (n ≤ 20) && decide (1 ≤ m) && decide (m ≤ 20)) = true) : Good T n m := by
  simp only [Bool.and_eq_true, beq_iff_eq, List.all_eq_true, decide_eq_true_eq] at hb
  obtain ⟨⟨⟨⟨⟨h1, h2⟩, h3⟩, h4⟩, h5⟩, h6⟩ := hb
  exact ⟨⟨h1, fun u hu => (h2 u hu).1⟩, fun u hu x hx => (h2 u hu).2 x hx, h3, h4, h5, h6⟩
theorem good_map {T : List (List Int)} {n m m' : Nat} {g : List Int → List Int} (hG : Good T n m) (hl : ∀ u ∈ T, (g u).length = m') (hp : ∀ u ∈ T, ∀ x ∈ g u, 0 ≤ x) (h1 : 1 ≤ m') (h2 : m' ≤ 20) : Good (T.map g) n m' := by
  refine ⟨⟨by rw [List.length_map]; exact hG.len, fun u hu => ?_⟩, fun u hu x hx => ?_, hG.n1, hG.n20, h1, h2⟩
  · obtain ⟨v, hv, rfl⟩ := List.mem_map.mp hu
    exact hl v hv
  · obtain ⟨v, hv, rfl⟩ := List.mem_map.mp hu
    exact hp v hv x hx
theorem good_snoc {T : List (List Int)} {n m : Nat} {u : List Int} (hG : Good T n m) (hu : u ∈ T) (h : n < 20) : Good (T ++ [u]) (n + 1) m := by
  have b := hG.n1
  refine ⟨⟨by rw [List.length_append, hG.len]; rfl, fun v hv => ?_⟩, fun v hv x hx => ?_, by omega, by omega, hG.m1, hG.m20⟩
  · rcases List.mem_append.mp hv with h | h
    · exact hG.row v h
    · have : v = u := by simpa using h
      rw [this]
      exact hG.row u hu
  · rcases List.mem_append.mp hv with h | h
    · exact hG.pos v h x hx
    · have : v = u := by simpa using h
      rw [this] at hx
      exact hG.pos u hu x hx
section
variable {K : PySem.W.Frag} {σ : L2.St} {H : Hp} {te tl ta tb : TE} {a : Addr} {rs : List Addr} {T U : List (List Int)} {j : Nat} {vs : List Nat} {P : Hp → V → Hp → Prop}
/-- [.. for row in table], each a new row -/
theorem evp_tabL {g : List Int → List Int} (h : Ev tl σ H (.ref a)) (hT : Tab H a rs T) (hz : T.length ≤ 40000) (hw : ∀ x, wipe ((wipe σ vs).set j (some x)) vs = wipe σ vs)
    (he : ∀ u r H1, Ex H H1 → u ∈ T → H1 r = some (.lst (u.map V.int)) → EvL te ((wipe σ vs).set j (some (.ref r))) H1 ((g u).map V.int)) : EvP (tLc (iList K tl) (gName j) tYes te vs) σ H (NewT (T.map g)) := by
  refine (evp_rowsL (K := K) (fun i => ((T.map g).getD i []).map V.int) h hT.sq (by rw [List.length_map, hT.len]; exact hz) hw (fun i x H1 e1 hx => ?_)).imp fun H1 v H2 _ _ hv => newT_of (by rw [List.length_map, List.length_map, hT.len]) hv
  rw [List.getElem?_map] at hx
  cases hr : rs[i]? with
  | none => rw [hr] at hx; cases hx
  | some r =>
    rw [hr] at hx
    have ex : V.ref r = x := Option.some.inj hx
    subst ex
    obtain ⟨u, hu, h2⟩ := hT.ref hr
    have e : (T.map g).getD i [] = g u := by simp [List.getD, hu]
    rw [e]
    exact he u r H1 e1 (List.mem_of_getElem? hu) (e1 _ _ h2)
/-- table + [row] -/
theorem evp_catT (h : Ev ta σ H (.ref a)) (hT : Tab H a rs T) (hb : EvP tb σ H (NewT U)) (hl : T.length + U.length ≤ 100000) : EvP (tOp rCat ta tb) σ H (fun H1 v H2 => ∃ p rs, v = .ref p ∧ H1 p = none ∧ Tab H2 p rs (T ++ U)) := fun H1 e Q q =>
  h H1 e _ fun H2 e2 => hb H2 (e.trans e2) _ fun v H3 e3 ⟨p, us, hv, np, nd, fr, hU⟩ => by
    subst hv
    have hT3 := hT.mono ((e.trans e2).trans e3)
    refine ⟨a, p, _, _, rfl, rfl, hT3.top, hU.top, sz_of (by rw [List.length_map, List.length_map, hT.len, hU.len]; exact hl), fun r nr => ?_⟩
    have ex := Ex.new (o := .lst (rs.map V.ref ++ us.map V.ref)) nr
    refine q _ _ ((e2.trans e3).trans ex) ⟨r, rs ++ us, rfl, fresh_back (e2.trans e3) nr, ?_, by rw [List.length_append, List.length_append, hT.len, hU.len], fun i s u hs hu => ?_⟩
    · rw [upd_same, List.map_append]
    · by_cases hi : i < rs.length
      · rw [List.getElem?_append_left hi] at hs
        rw [List.getElem?_append_left (by rw [← hT.len]; exact hi)] at hu
        exact ex _ _ (hT3.row i s u hs hu)
      · rw [List.getElem?_append_right (by omega)] at hs
        rw [List.getElem?_append_right (by rw [← hT.len]; omega), ← hT.len] at hu
        exact ex _ _ (hU.row _ s u hs hu)
/-- list(row): a row of its own, in a list -/
theorem er_one {u : List Int} {r : Addr} (h : Ev te σ H (.ref r)) (hr : SqL K H r (u.map V.int)) : EvP (tLst (tCons (tCB (rListS K) (tCons te tNil)) tNil)) σ H (NewT [u]) := evp_dispT (er_cons (el_list h hr) er_nil) (by show 1 ≤ 100000; decide)
theorem el_if {t : TT} {b : Bool} {xs : List V} (h : EvT t σ H b) (h1 : b = true → EvL ta σ H xs) (h2 : b = false → EvL tb σ H xs) : EvL (tIf t ta tb) σ H xs := el_ofp (evp_if h (fun z => evp_l (h1 z)) (fun z => evp_l (h2 z)) down_l)
/-- e.f of what was just made -/
theorem evp_fldP {P' : Hp → V → Hp → Prop} {f : Str} (h : EvP ta σ H P) (hp : ∀ H1 v H2, P H1 v H2 → ∃ a C dx fs u, v = .ref a ∧ H2 a = some (.ins C dx fs) ∧ Cls K C ∧ NoAttr K C f ∧ fs.lookup f = some u ∧ P' H1 u H2) : EvP (tFld K ta f) σ H P' := fun H1 e Q q =>
  h H1 e _ fun v H2 e2 hv => by
    obtain ⟨a, C, dx, fs, u, z1, z2, z3, z4, z5, z6⟩ := hp H1 v H2 hv
    exact ⟨a, C, dx, fs, u, z1, z2, z3, z4, z5, q u H2 e2 z6⟩
end
def IsGood (H : Hp) (v : V) : Prop := ∃ (a : Addr) (rs : List Addr) (T : List (List Int)) (n m : Nat), v = .ref a ∧ Tab H a rs T ∧ Good T n m
theorem IsGood.mono {H H' : Hp} {v : V} (h : IsGood H v) (e : Ex H H') : IsGood H' v := by
  obtain ⟨a, rs, T, n, m, b, c, d⟩ := h
  exact ⟨a, rs, T, n, m, b, c.mono e, d⟩
theorem IsGood.tab {H : Hp} {v : V} (h : IsGood H v) : IsTab H v := by
  obtain ⟨a, rs, T, n, m, b, c, d⟩ := h
  have b2 := d.n20
  have b3 := d.m20
  exact ⟨a, rs, T, n, m, b, c, d.toRect, d.n1, by omega, by omega⟩
end Lh

namespace Lh
open PySem PySem.Spec PyProof.Rows L2 Evl
/-! ### the lasting choice, in plain words -/
def cellsOf (T : List (List Int)) (n : Nat) (ns : List Int) : List Int := (List.range n).map fun t => cell T t (ns.getD t 0).toNat
def lastB (T : List (List Int)) (n m : Nat) (h : Int) (ns S : List Int) : Bool := chosenB T n m ns && (decide (minI (cellsOf T n ns) = h) && tooFewB T n m S (h + 1))
structure LastOf (T : List (List Int)) (n m : Nat) (h : Int) (L : List Nat) (S : List Int) : Prop where
  ch : Choice T n m h L
  mn : minI (cellsOf T n (L.map fun (x : Nat) => (x : Int))) = h
  few : tooFewB T n m S (h + 1) = true
theorem Choice.mono {T : List (List Int)} {n m : Nat} {a b : Int} {L : List Nat} (h : Choice T n m a L) (hb : b ≤ a) : Choice T n m b L := ⟨h.len, h.nd, fun t p z => ⟨(h.adj t p z).1, (h.adj t p z).2.1, Int.le_trans hb (h.adj t p z).2.2⟩⟩
theorem Choice.isB {T : List (List Int)} {n m : Nat} {a : Int} {L : List Nat} (h : Choice T n m a L) : chosenB T n m (L.map fun (x : Nat) => (x : Int)) = true := by
  unfold chosenB
  simp only [Bool.and_eq_true, decide_eq_true_eq]
  refine ⟨by rw [List.length_map]; exact h.len, nodup_map _ h.nd fun x _ y _ e => by omega, ?_⟩
  refine List.all_eq_true.mpr fun x hx => ?_
  obtain ⟨p, hp, rfl⟩ := List.mem_map.mp hx
  obtain ⟨t, ht⟩ := List.getElem?_of_mem hp
  have := (h.adj t p ht).2.1
  simp
  omega
theorem LastOf.isB {T : List (List Int)} {n m : Nat} {h : Int} {L : List Nat} {S : List Int} (z : LastOf T n m h L S) : lastB T n m h (L.map fun (x : Nat) => (x : Int)) S = true := by
  unfold lastB
  rw [z.ch.isB, z.mn, z.few]
  simp
theorem last_few {T : List (List Int)} {n m : Nat} {h : Int} {ns S : List Int} : lastB T n m h ns (S ++ [-1]) = false := by
  unfold lastB
  rw [few_more]
  simp
theorem last_more {T : List (List Int)} {n m : Nat} {h : Int} {ns S : List Int} (hl : ns.length = n) (x : Int) : lastB T n m h (ns ++ [x]) S = false := by
  unfold lastB chosenB
  have : ¬ (ns ++ [x]).length = n := by rw [List.length_append, List.length_singleton]; omega
  rw [decide_eq_false this]
  rfl
theorem mem_cellsOf {T : List (List Int)} {n m : Nat} {a : Int} {L : List Nat} (h : Choice T n m a L) {c : Int} : c ∈ cellsOf T n (L.map fun (x : Nat) => (x : Int)) ↔ ∃ t p, L[t]? = some p ∧ c = cell T t p := by
  unfold cellsOf
  rw [List.mem_map]
  constructor
  · rintro ⟨t, ht, rfl⟩
    have ht2 : t < L.length := by rw [h.len]; exact List.mem_range.mp ht
    refine ⟨t, L[t], by simp [ht2], ?_⟩
    have e : (L.map fun (x : Nat) => (x : Int)).getD t 0 = (L[t] : Int) := by simp [List.getD, ht2]
    rw [e]
    rfl
  · rintro ⟨t, p, hp, rfl⟩
    have ht2 := (List.getElem?_eq_some_iff.mp hp).1
    refine ⟨t, List.mem_range.mpr (by rw [← h.len]; exact ht2), ?_⟩
    have e : (L.map fun (x : Nat) => (x : Int)).getD t 0 = (p : Int) := by simp [List.getD, hp]
    rw [e]
    rfl
theorem cells_ne {T : List (List Int)} {n : Nat} {ns : List Int} (hn : 1 ≤ n) : cellsOf T n ns ≠ [] := fun z => by
  have := congrArg List.length z
  unfold cellsOf at this
  simp at this
  omega
theorem choice_zero {T : List (List Int)} {n m : Nat} (hG : Good T n m) (hnm : n ≤ m) : Choice T n m 0 (List.range n) := ⟨List.length_range, List.nodup_range, fun t p h => by
  have ht : t < n := by
    have := (List.getElem?_eq_some_iff.mp h).1
    rw [List.length_range] at this
    exact this
  rw [List.getElem?_range ht] at h
  have : t = p := Option.some.inj h
  subst this
  obtain ⟨u, x, hu, _, hx⟩ := hG.toRect.cell ht (show t < m by omega)
  refine ⟨ht, by omega, ?_⟩
  rw [cell_of hu hx]
  exact hG.pos u (List.mem_of_getElem? hu) x (List.mem_of_getElem? hx)⟩
/-- none are too few for no hours -/
theorem few_zero {T : List (List Int)} {n m : Nat} (hG : Good T n m) (hnm : n ≤ m) (S : List Int) : tooFewB T n m S 0 = false := by
  cases hb : tooFewB T n m S 0 with
  | false => rfl
  | true =>
    exfalso
    have hl := few_len hb
    unfold tooFewB at hb
    simp only [Bool.and_eq_true, decide_eq_true_eq] at hb
    obtain ⟨⟨⟨hne, _⟩, hin⟩, hlt⟩ := hb
    have : (someP T m S 0).length = m := by
      unfold someP
      rw [List.filter_eq_self.mpr, List.length_range]
      intro p hp
      obtain ⟨t, ht⟩ := List.exists_mem_of_ne_nil S hne
      refine List.any_eq_true.mpr ⟨t, ht, decide_eq_true ?_⟩
      obtain ⟨t0, t1⟩ := mem_range_of hin ht
      obtain ⟨u, x, hu, _, hx⟩ := hG.toRect.cell (show t.toNat < n by omega) (List.mem_range.mp hp)
      rw [cell_of hu hx]
      exact hG.pos u (List.mem_of_getElem? hu) x (List.mem_of_getElem? hx)
    omega
theorem few_le {T : List (List Int)} {n m : Nat} {S : List Int} {a b : Int} (h : tooFewB T n m S a = true) (hab : ∀ t p, t < n → p < m → b ≤ cell T t p → a ≤ cell T t p) : tooFewB T n m S b = true := by
  unfold tooFewB at h ⊢
  simp only [Bool.and_eq_true, decide_eq_true_eq] at h ⊢
  refine ⟨h.1, Nat.lt_of_le_of_lt ?_ h.2⟩
  refine phpN (List.Nodup.sublist List.filter_sublist List.nodup_range) fun p hp => ?_
  obtain ⟨h1, h2⟩ := List.mem_filter.mp hp
  obtain ⟨t, ht, h3⟩ := List.any_eq_true.mp h2
  obtain ⟨t0, t1⟩ := mem_range_of h.1.2 ht
  exact List.mem_filter.mpr ⟨h1, List.any_eq_true.mpr ⟨t, ht, decide_eq_true (hab t.toNat p (by omega) (List.mem_range.mp h1) (of_decide_eq_true h3))⟩⟩
theorem few_top {T : List (List Int)} {n m : Nat} {b : Int} (hn : 1 ≤ n) (h : ∀ t p, t < n → p < m → cell T t p < b) : tooFewB T n m [0] b = true := by
  unfold tooFewB
  simp only [Bool.and_eq_true, decide_eq_true_eq]
  refine ⟨⟨⟨by simp, by simp⟩, List.all_eq_true.mpr fun t ht => ?_⟩, ?_⟩
  · have : t = 0 := by simpa using ht
    subst this
    simp
    omega
  · have : someP T m [0] b = [] := by
      unfold someP
      rw [List.filter_eq_nil_iff]
      intro p hp
      have := h 0 p (by omega) (List.mem_range.mp hp)
      simp
      omega
    rw [this]
    simp
theorem rising_le {V : List Int} (h : V.Pairwise (· < ·)) {i j : Nat} {a b : Int} (ha : V[i]? = some a) (hb : V[j]? = some b) (hij : i ≤ j) : a ≤ b := by
  obtain ⟨h1, e1⟩ := List.getElem?_eq_some_iff.mp ha
  obtain ⟨h2, e2⟩ := List.getElem?_eq_some_iff.mp hb
  by_cases e : i = j
  · subst e
    rw [e1] at e2
    omega
  · have := List.pairwise_iff_getElem.mp h i j h1 h2 (by omega)
    omega
theorem cell_in {T : List (List Int)} {n m : Nat} (hR : Rect T n m) {V : List Int} (hmem : ∀ c, c ∈ V ↔ c = 0 ∨ ∃ u ∈ T, c ∈ u) {t p : Nat} (ht : t < n) (hp : p < m) : cell T t p ∈ V := by
  obtain ⟨u, x, hu, _, hx⟩ := hR.cell ht hp
  rw [cell_of hu hx]
  exact (hmem x).mpr (.inr ⟨u, List.mem_of_getElem? hu, List.mem_of_getElem? hx⟩)
/-- the search's end -/
theorem last_of {T : List (List Int)} {n m : Nat} {V : List Int} {low : Nat} {v : Int} {L : List Nat} {S : List Int} (hG : Good T n m) (hV : V.Pairwise (· < ·)) (hmem : ∀ c, c ∈ V ↔ c = 0 ∨ ∃ u ∈ T, c ∈ u) (hlow : V[low]? = some v) (hL : Choice T n m v L)
    (hi : (low + 1 = V.length ∧ S = [0]) ∨ ∃ v', V[low + 1]? = some v' ∧ tooFewB T n m S v' = true) : LastOf T n m v L S := by
  have b1 := hG.n1
  have gap : ∀ c, c ∈ V → c ≤ v ∨ ∃ v', V[low + 1]? = some v' ∧ v' ≤ c := fun c hc => by
    obtain ⟨i, hi⟩ := List.getElem?_of_mem hc
    by_cases hil : i ≤ low
    · exact .inl (rising_le hV hi hlow hil)
    · have hil2 : low + 1 < V.length ∨ low + 1 = V.length := by
        have := (List.getElem?_eq_some_iff.mp hi).1
        omega
      rcases hil2 with h | h
      · exact .inr ⟨V[low + 1], by simp [h], rising_le hV (show V[low + 1]? = some V[low + 1] by simp [h]) hi (by omega)⟩
      · have := (List.getElem?_eq_some_iff.mp hi).1
        omega
  refine ⟨hL, ?_, ?_⟩
  · have hmm := minI_mem (cells_ne (T := T) (ns := L.map fun (x : Nat) => (x : Int)) b1)
    obtain ⟨t, p, htp, hc⟩ := (mem_cellsOf hL).mp hmm
    have hadj := hL.adj t p htp
    have hge : v ≤ minI (cellsOf T n (L.map fun (x : Nat) => (x : Int))) := by rw [hc]; exact hadj.2.2
    refine Decidable.byContradiction fun hne => ?_
    have hin : minI (cellsOf T n (L.map fun (x : Nat) => (x : Int))) ∈ V := by rw [hc]; exact cell_in hG.toRect hmem hadj.1 hadj.2.1
    have hch : Choice T n m (minI (cellsOf T n (L.map fun (x : Nat) => (x : Int)))) L := ⟨hL.len, hL.nd, fun t p z => ⟨(hL.adj t p z).1, (hL.adj t p z).2.1, minI_le ((mem_cellsOf hL).mpr ⟨t, p, z, rfl⟩)⟩⟩
    rcases gap _ hin with h | ⟨v', hv', hle⟩
    · omega
    · rcases hi with ⟨h1, _⟩ | ⟨v2, hv2, hfew⟩
      · have := (List.getElem?_eq_some_iff.mp hv').1
        omega
      · have : v' = v2 := Option.some.inj (hv'.symm.trans hv2)
        subst this
        rw [(hch.mono hle).enough] at hfew
        cases hfew
  · rcases hi with ⟨h1, rfl⟩ | ⟨v2, hv2, hfew⟩
    · refine few_top b1 fun t p ht hp => ?_
      rcases gap _ (cell_in hG.toRect hmem ht hp) with h | ⟨v', hv', _⟩
      · omega
      · have := (List.getElem?_eq_some_iff.mp hv').1
        omega
    · refine few_le hfew fun t p ht hp hle => ?_
      rcases gap _ (cell_in hG.toRect hmem ht hp) with h | ⟨v', hv', hle2⟩
      · omega
      · have : v' = v2 := Option.some.inj (hv'.symm.trans hv2)
        omega
/-- no hours more can last -/
theorem LastOf.top {T : List (List Int)} {n m : Nat} {h a : Int} {L L' : List Nat} {S : List Int} (z : LastOf T n m h L S) (hc : Choice T n m a L') : a ≤ h := by
  refine Decidable.byContradiction fun hn => ?_
  have := (hc.mono (show h + 1 ≤ a by omega)).enough S
  rw [z.few] at this
  cases this
/-! ### more statements -/
section
variable {K : PySem.W.Frag} {σ : L2.St} {H : Hp} {ta tb te : TE} {D : Ends} {tu tz : TS} {P : Hp → V → Hp → Prop} {r : R2}
/-- xs.extend(e) -/
theorem sP_ext {l : Addr} {xs : List V} (hl : H l = some (.lst xs)) (ha : Ev ta σ H (.ref l)) (h : EvP te σ H P) (hd : Down P) (k : ∀ v H1, Ex H H1 → P H v H1 → ∃ b zs, v = .ref b ∧ H1 b = some (.lst zs) ∧ xs.length + zs.length ≤ 100000 ∧ D.nx σ (upd H1 l (.lst (xs ++ zs)))) :
    tDrop (tBM K "list" rExtend ta (tCons te tNil)) D σ H := ha H (Ex.refl H) _ fun H1 e1 =>
  ⟨Or.inl ⟨rfl, xs, sq_of (e1 l _ hl)⟩, h H1 e1 _ fun v H2 e2 p => by
    obtain ⟨b, zs, rfl, hb, hz, q⟩ := k v H2 (e1.trans e2) (hd _ _ _ _ e1 p)
    exact ⟨l, b, xs, zs, rfl, rfl, e2 l _ (e1 l _ hl), hb, sz_of hz, q⟩⟩
/-- for x in e, a list just made -/
theorem q_forP {tl : TE} {j : Nat} (h : EvP tl σ H P) (k : ∀ v H1, Ex H H1 → P H v H1 → ∃ (p : Addr) (xs : List V), v = .ref p ∧ SqL K H1 p xs ∧ ∃ Pv : Nat → L2.St → Hp → Prop, Pv 0 σ H1 ∧ (∀ i σ' H', i ≤ xs.length → Pv i σ' H' → SqL K H' p xs) ∧
      (∀ (i : Nat) x σ' H', xs[i]? = some x → Pv i σ' H' → tu { D with nx := Pv (i + 1), ct := Pv (i + 1), bk := tz D } (σ'.set j (some x)) H') ∧ (∀ σ' H', Pv xs.length σ' H' → tz D σ' H')) : tSeq (tFor (iList K tl) (gName j) tu) tz D σ H := h H (Ex.refl H) _ fun v H1 e1 hv => by
  obtain ⟨p, xs, rfl, hs, Pv, h0, hl, hb, hd⟩ := k v H1 e1 hv
  exact ⟨p, rfl, ⟨xs, hs⟩, for_it (walk_list (K := K) (a := p) (xs := xs)) Pv h0 hl (fun i x σ' Ha Hb hi pv y => by
    obtain ⟨e, hx⟩ := y
    subst e
    exact hb i x σ' Hb hx pv) hd⟩
/-- all([b(x) for x in e]), a list of ints just made -/
theorem ev_allNI {tl : TE} {ns : List Int} {b : Int → Bool} {j : Nat} {vs : List Nat} (h : EvL tl σ H (ns.map V.int)) (hz : ns.length ≤ 40000) (hw : ∀ x, wipe ((wipe σ vs).set j (some x)) vs = wipe σ vs)
    (he : ∀ y, y ∈ ns → ∀ H1, Ex H H1 → Ev te ((wipe σ vs).set j (some (.int y))) H1 (.bl (b y))) : Ev (tCB (rAll K) (tCons (tLc (iList K tl) (gName j) tYes te vs) tNil)) σ H (.bl (ns.all b)) := by
  have hl : EvL (tLc (iList K tl) (gName j) tYes te vs) σ H ((ns.map b).map V.bl) := by
    have hg : (ns.map b).map V.bl = given (ns.map V.int).length (fun _ => true) (fun i => V.bl (b (ns.getD i 0))) := by
      refine (given_all (by simp) fun i x hx => ?_).symm
      rw [List.map_map, List.getElem?_map] at hx
      cases hq : ns[i]? with
      | none => rw [hq] at hx; cases hx
      | some y =>
        rw [hq] at hx
        rw [getD_of hq]
        exact Option.some.inj hx
    rw [hg]
    refine el_lcNL _ _ h (by rw [List.length_map]; exact hz) hw (fun z x H2 e2 hz => et_yes) (fun z x H2 e2 hz _ => ?_)
    rw [List.getElem?_map] at hz
    cases hq : ns[z]? with
    | none => rw [hq] at hz; cases hz
    | some y =>
      rw [hq] at hz
      have ey : V.int y = x := Option.some.inj hz
      subst ey
      rw [getD_of hq]
      exact he y (List.mem_of_getElem? hq) H2 e2
  refine ev_is (ev_allL hl) ?_
  rw [List.all_map]
  rfl
theorem r_make {C : Addr} {sp : Sp} {E : XK} {t : TA} (h : t σ H fun vs H1 => ∀ x dx, H1 x = none → H1 dx = none → dx ≠ x → sp (.ref x :: (vs ++ [])) (upd (upd H1 dx (.own x)) x (.ins C dx [])) (fun v H2 => v = .non ∧ D.rt (.ref x) H2) E) : tRet (tMake C sp [] E t) D σ H := h
end
/-! ### class Lasting -/
structure CsL (K : PySem.W.Frag) (mg : Str → Option Value) (CA CP CE CS CL : Addr) : Prop where
  k0 : Kl0 K
  L : Kl K mg "Lasting" CL
  gA : mg "Answer" = some (.ref CA)
  gP : mg "Plan" = some (.ref CP)
  gE : mg "Each" = some (.ref CE)
  gS : mg "Short" = some (.ref CS)
  nh : PySem.W.findIn K (.ref CL) "hours" = some none
  nc : PySem.W.findIn K (.ref CL) "classes" = some none
  nt : PySem.W.findIn K (.ref CL) "teachers" = some none
  LA : PySem.W.kitOne K (.ref CL) (.ref CA) = some true
  LE : PySem.W.kitOne K (.ref CL) (.ref CE) = some false
  LS : PySem.W.kitOne K (.ref CL) (.ref CS) = some false
  LP : PySem.W.kitOne K (.ref CL) (.ref CP) = some false
  LL : PySem.W.kitOne K (.ref CL) (.ref CL) = some true
abbrev fldL (h : Int) (q1 q2 : Addr) : List (Str × V) := [("hours", .int h), ("classes", .ref q1), ("teachers", .ref q2)]
def IsLast (CL : Addr) (H : Hp) (x q1 q2 : Addr) (h : Int) (ns S : List Int) : Prop := ns.length ≤ 2000 ∧ S.length ≤ 2000 ∧ H q1 = some (.lst (ns.map V.int)) ∧ H q2 = some (.lst (S.map V.int)) ∧ ∃ dx, H x = some (.ins CL dx (fldL h q1 q2))
theorem IsLast.mono {CL : Addr} {H H' : Hp} {x q1 q2 : Addr} {h : Int} {ns S : List Int} (z : IsLast CL H x q1 q2 h ns S) (e : Ex H H') : IsLast CL H' x q1 q2 h ns S := ⟨z.1, z.2.1, e _ _ z.2.2.1, e _ _ z.2.2.2.1, z.2.2.2.2.imp fun dx y => e _ _ y⟩
def spInit3 (K : PySem.W.Frag) (C : Addr) : Sp := fun vs H Q _ => ∃ (x a b dx : Addr) (h : Int) (xs ys : List V), vs = [.ref x, .int h, .ref a, .ref b] ∧ H x = some (.ins C dx []) ∧ SqL K H a xs ∧ SqL K H b ys ∧ ∀ p1 p2 H1, (∀ c o, c ≠ x → H c = some o → H1 c = some o) → H p1 = none → H p2 = none → p1 ≠ p2 → p1 ≠ x → p2 ≠ x → H1 p1 = some (.lst xs) → H1 p2 = some (.lst ys) → H1 x = some (.ins C dx (fldL h p1 p2)) → Q .non H1
abbrev NewLast (C : Addr) (h : Int) (xs ys : List V) : Hp → V → Hp → Prop := fun H1 v H2 => ∃ x dx p1 p2, v = .ref x ∧ H1 x = none ∧ H1 p1 = none ∧ H1 p2 = none ∧ p1 ≠ p2 ∧ p1 ≠ x ∧ p2 ≠ x ∧ H2 x = some (.ins C dx (fldL h p1 p2)) ∧ H2 p1 = some (.lst xs) ∧ H2 p2 = some (.lst ys)
theorem down_last {C : Addr} {h : Int} {xs ys : List V} : Down (NewLast C h xs ys) := fun _ _ _ _ e ⟨x, dx, p1, p2, a, b, c, d, z⟩ => ⟨x, dx, p1, p2, a, fresh_back e b, fresh_back e c, fresh_back e d, z⟩
theorem sq_keep {K : PySem.W.Frag} {H H1 : Hp} {a x C dx : Addr} {xs : List V} {fs : List (Str × V)} (hs : SqL K H a xs) (hx : H x = some (.ins C dx fs)) (hk : ∀ c o, c ≠ x → H c = some o → H1 c = some o) : SqL K H1 a xs := by
  rcases hs with hs | hs
  · refine .inl ?_
    rcases hs with hs | ⟨o, hs⟩
    · exact .inl (hk a _ (fun z => by rw [z, hx] at hs; cases hs) hs)
    · exact .inr ⟨o, hk a _ (fun z => by rw [z, hx] at hs; cases hs) hs⟩
  · exact .inr hs
/-- a promise that makes three fields, called by the class -/
theorem make3 {K : PySem.W.Frag} {H : Hp} {C a b x dx : Addr} {h : Int} {xs ys : List V} {Q : VK} {E : XK} (nx : H x = none) (nd : H dx = none) (hne : dx ≠ x) (ha : SqL K H a xs) (hb : SqL K H b ys) (q : ∀ v H2, Ex H H2 → NewLast C h xs ys H v H2 → Q v H2) :
    spInit3 K C (.ref x :: ([.int h, .ref a, .ref b] ++ [])) (upd (upd H dx (.own x)) x (.ins C dx [])) (fun v H2 => v = .non ∧ Q (.ref x) H2) E := by
  have e3 : Ex H (upd (upd H dx (.own x)) x (.ins C dx [])) := (Ex.new nd).trans (Ex.new (by rw [upd_ne (Ne.symm hne)]; exact nx))
  have hx : upd (upd H dx (.own x)) x (.ins C dx []) x = some (.ins C dx []) := upd_same
  generalize upd (upd H dx (.own x)) x (.ins C dx []) = H3 at e3 hx
  refine ⟨x, a, b, dx, h, xs, ys, rfl, hx, ex_l e3 ha, ex_l e3 hb, fun p1 p2 H4 hk n1 n2 h12 h1x h2x g1 g2 gx => ⟨rfl, ?_⟩⟩
  exact q _ _ (fun c o hc => hk c o (fun z => by rw [z, nx] at hc; cases hc) (e3 _ _ hc)) ⟨x, dx, p1, p2, rfl, nx, fresh_back e3 n1, fresh_back e3 n2, h12, h1x, h2x, gx, g1, g2⟩
def sp_Lasting_shows (K : PySem.W.Frag) (CL : Addr) : Sp := fun vs H Q _ => ∃ (x b q1 q2 : Addr) (rs : List Addr) (T : List (List Int)) (n m : Nat) (h : Int) (ns S : List Int), vs = [.ref x, .ref b] ∧ IsLast CL H x q1 q2 h ns S ∧ Tab H b rs T ∧ Rect T n m ∧ 1 ≤ n ∧ n ≤ 1000 ∧ m ≤ 1000 ∧ Ret (IsV (.bl (lastB T n m h ns S))) H Q
def sp_lasting (K : PySem.W.Frag) (CL : Addr) : Sp := fun vs H Q _ => ∃ (a : Addr) (rs : List Addr) (T : List (List Int)) (n m : Nat), vs = [.ref a] ∧ Tab H a rs T ∧ Good T n m ∧ n ≤ m ∧ ∀ h L S, LastOf T n m h L S → Ret (NewLast CL h ((L.map fun (x : Nat) => (x : Int)).map V.int) (S.map V.int)) H Q
def sp__law_due_last (K : PySem.W.Frag) (CL : Addr) : Sp := fun vs H Q _ => ∃ (a x q1 q2 : Addr) (rs : List Addr) (T : List (List Int)) (n m : Nat) (h : Int) (ns S : List Int), vs = [.ref a, .ref x] ∧ Tab H a rs T ∧ Rect T n m ∧ 1 ≤ n ∧ n ≤ 1000 ∧ m ≤ 1000 ∧ IsLast CL H x q1 q2 h ns S ∧ Ret (IsV (.bl (lastB T n m h ns S))) H Q
def sp__law_right_last (K : PySem.W.Frag) : Sp := fun vs H Q _ => ∃ (a os : Addr) (rs : List Addr) (T : List (List Int)) (n m : Nat) (ts : List V), vs = [.ref a, .ref os] ∧ Tab H a rs T ∧ Good T n m ∧ n ≤ m ∧ H os = some (.lst ts) ∧ (∀ v ∈ ts, IsTab H v) ∧ Ret (IsV (.bl true)) H Q
end Lh

namespace Lh
open PySem PySem.Spec PyProof.Rows L2 Evl
/-! ### pairs and parts in the heap -/
structure PrsAt (H : Hp) (l : Addr) (qs : List Addr) (prs : Prs) : Prop where
  top : H l = some (.lst (qs.map V.ref))
  len : qs.length = prs.length
  tup : ∀ (i : Nat) q pr, qs[i]? = some q → prs[i]? = some pr → H q = some (.tup [.int pr.1, .int pr.2])
structure PartsAt (H : Hp) (a : Addr) (ts ls : List Addr) (parts : List (Prs × Int)) : Prop where
  top : H a = some (.lst (ts.map V.ref))
  lt : ts.length = parts.length
  ll : ls.length = parts.length
  tup : ∀ (i : Nat) t l pt, ts[i]? = some t → ls[i]? = some l → parts[i]? = some pt → H t = some (.tup [.ref l, .int pt.2]) ∧ ∃ qs, PrsAt H l qs pt.1
section
variable {H H' : Hp} {a l : Addr} {qs ts ls : List Addr} {prs : Prs} {parts : List (Prs × Int)}
theorem PrsAt.mono (h : PrsAt H l qs prs) (e : Ex H H') : PrsAt H' l qs prs := ⟨e _ _ h.top, h.len, fun i q pr a b => e _ _ (h.tup i q pr a b)⟩
theorem PartsAt.mono (h : PartsAt H a ts ls parts) (e : Ex H H') : PartsAt H' a ts ls parts := ⟨e _ _ h.top, h.lt, h.ll, fun i t l pt a b c => ⟨e _ _ (h.tup i t l pt a b c).1, (h.tup i t l pt a b c).2.imp fun qs z => z.mono e⟩⟩
theorem PrsAt.nil (h : H l = some (.lst [])) : PrsAt H l [] [] := ⟨h, rfl, fun i q pr a => by simp at a⟩
/-- a list changes: the tuples stay -/
theorem tup_keep {c d : Addr} {xs ys zs : List V} (hc : H c = some (.tup xs)) (hd : H d = some (.lst ys)) : upd H d (.lst zs) c = some (.tup xs) := by
  have : c ≠ d := fun z => by rw [z, hd] at hc; cases hc
  rw [upd_ne this]
  exact hc
theorem PrsAt.snoc (h : PrsAt H l qs prs) {q : Addr} {pr : Int × Int} (hq : H q = some (.tup [.int pr.1, .int pr.2])) : PrsAt (upd H l (.lst (qs.map V.ref ++ [.ref q]))) l (qs ++ [q]) (prs ++ [pr]) := by
  refine ⟨by rw [upd_same, List.map_append]; rfl, by rw [List.length_append, List.length_append, h.len]; rfl, fun i q' pr' h1 h2 => ?_⟩
  by_cases hi : i < qs.length
  · rw [List.getElem?_append_left hi] at h1
    rw [List.getElem?_append_left (by rw [← h.len]; exact hi)] at h2
    exact tup_keep (h.tup i q' pr' h1 h2) h.top
  · have hl2 := (List.getElem?_eq_some_iff.mp h1).1
    rw [List.length_append, List.length_singleton] at hl2
    have e : i = qs.length := by omega
    subst e
    rw [List.getElem?_append_right (Nat.le_refl _), Nat.sub_self] at h1
    rw [h.len, List.getElem?_append_right (Nat.le_refl _), Nat.sub_self] at h2
    have e1 : q = q' := Option.some.inj h1
    have e2 : pr = pr' := Option.some.inj h2
    subst e1
    subst e2
    exact tup_keep hq h.top
/-- another list changes -/
theorem PrsAt.keep (h : PrsAt H l qs prs) {d : Addr} {ys zs : List V} (hd : H d = some (.lst ys)) (hne : l ≠ d) : PrsAt (upd H d (.lst zs)) l qs prs := ⟨by rw [upd_ne hne]; exact h.top, h.len, fun i q pr a b => tup_keep (h.tup i q pr a b) hd⟩
theorem PrsAt.at (h : PrsAt H l qs prs) {i : Nat} {pr : Int × Int} (hp : prs[i]? = some pr) : ∃ q, qs[i]? = some q ∧ H q = some (.tup [.int pr.1, .int pr.2]) := by
  have hi : i < qs.length := by
    have := (List.getElem?_eq_some_iff.mp hp).1
    rw [h.len]
    exact this
  exact ⟨qs[i], by simp [hi], h.tup i _ pr (by simp [hi]) hp⟩
theorem PartsAt.at (h : PartsAt H a ts ls parts) {i : Nat} {pt : Prs × Int} (hp : parts[i]? = some pt) : ∃ t l, ts[i]? = some t ∧ ls[i]? = some l ∧ H t = some (.tup [.ref l, .int pt.2]) ∧ ∃ qs, PrsAt H l qs pt.1 := by
  have hi := (List.getElem?_eq_some_iff.mp hp).1
  have h1 : i < ts.length := by rw [h.lt]; exact hi
  have h2 : i < ls.length := by rw [h.ll]; exact hi
  exact ⟨ts[i], ls[i], by simp [h1], by simp [h2], h.tup i _ _ pt (by simp [h1]) (by simp [h2]) hp⟩
end
/-! data -/
def prD (pr : Int × Int) : PyData := .tuple [.int pr.1, .int pr.2]
def prsD (prs : Prs) : PyData := .list (prs.map prD)
def partD (pt : Prs × Int) : PyData := .tuple [prsD pt.1, .int pt.2]
def partsD (parts : List (Prs × Int)) : PyData := .list (parts.map partD)
theorem PrsAt.dp {K : PySem.W.Frag} {H : Hp} {l : Addr} {qs : List Addr} {prs : Prs} (h : PrsAt H l qs prs) : Dp K H (.ref l) (prsD prs) := .lst (sq_of h.top) (dpa_of (by rw [List.length_map, List.length_map, h.len]) fun i v d hv hd => by
  rw [List.getElem?_map] at hv hd
  cases hq : qs[i]? with
  | none => rw [hq] at hv; cases hv
  | some q =>
    cases hp : prs[i]? with
    | none => rw [hp] at hd; cases hd
    | some pr =>
      rw [hq] at hv
      rw [hp] at hd
      have e1 : V.ref q = v := Option.some.inj hv
      have e2 : prD pr = d := Option.some.inj hd
      subst e1
      subst e2
      exact .tup (st_of (h.tup i q pr hq hp)) (.cons (.int _) (.cons (.int _) .nil)))
theorem PartsAt.dp {K : PySem.W.Frag} {H : Hp} {a : Addr} {ts ls : List Addr} {parts : List (Prs × Int)} (h : PartsAt H a ts ls parts) : Dp K H (.ref a) (partsD parts) := .lst (sq_of h.top) (dpa_of (by rw [List.length_map, List.length_map, h.lt]) fun i v d hv hd => by
  rw [List.getElem?_map] at hv hd
  cases hp : parts[i]? with
  | none => rw [hp] at hd; cases hd
  | some pt =>
    obtain ⟨t, l, ht, hl, htup, qs, hqs⟩ := h.at hp
    rw [ht] at hv
    rw [hp] at hd
    have e1 : V.ref t = v := Option.some.inj hv
    have e2 : partD pt = d := Option.some.inj hd
    subst e1
    subst e2
    exact .tup (st_of htup) (.cons hqs.dp (.cons (.int _) .nil)))
theorem canLay_map {α : Type} {g : α → PyData} (h : ∀ x, PyData.canLay0 (g x) = true) : ∀ xs : List α, PyData.canLayAll0 (xs.map g) = true
  | [] => rfl
  | x :: xs => by
    show (PyData.canLay0 (g x) && PyData.canLayAll0 (xs.map g)) = true
    rw [canLay_map h xs, h x]
    rfl
theorem depth_map {α : Type} {g : α → PyData} {k : Nat} (h : ∀ x, PyData.depth (g x) ≤ k) : ∀ xs : List α, PyData.depthAll (xs.map g) ≤ k
  | [] => Nat.zero_le _
  | x :: xs => by
    show max (PyData.depth (g x)) (PyData.depthAll (xs.map g)) ≤ k
    have a := depth_map h xs
    have b := h x
    omega
theorem prD_lay (pr : Int × Int) : PyData.canLay0 (prD pr) = true := rfl
theorem prD_depth (pr : Int × Int) : PyData.depth (prD pr) ≤ 1 := by
  show max 0 (max 0 0) + 1 ≤ 1
  decide
theorem prsD_lay (prs : Prs) : PyData.canLay0 (prsD prs) = true := canLay_map prD_lay prs
theorem prsD_depth (prs : Prs) : PyData.depth (prsD prs) ≤ 2 := by
  show PyData.depthAll (prs.map prD) + 1 ≤ 2
  have := depth_map prD_depth prs
  omega
theorem partD_lay (pt : Prs × Int) : PyData.canLay0 (partD pt) = true := by
  show (PyData.canLay0 (prsD pt.1) && (true && true)) = true
  rw [prsD_lay]
  rfl
theorem partD_depth (pt : Prs × Int) : PyData.depth (partD pt) ≤ 3 := by
  show max (PyData.depth (prsD pt.1)) (max 0 0) + 1 ≤ 3
  have := prsD_depth pt.1
  omega
theorem shaped_prs (prs : Prs) : SeqAt.shaped (prsD prs) = true := by
  unfold SeqAt.shaped
  rw [Bool.and_eq_true]
  exact ⟨prsD_lay prs, decide_eq_true (by have := prsD_depth prs; omega)⟩
theorem shaped_parts (parts : List (Prs × Int)) : SeqAt.shaped (partsD parts) = true := by
  unfold SeqAt.shaped
  rw [Bool.and_eq_true]
  refine ⟨canLay_map partD_lay parts, decide_eq_true ?_⟩
  show PyData.depthAll (parts.map partD) + 1 ≤ 64
  have := depth_map partD_depth parts
  omega
theorem shaped_prss (ps : List Prs) : SeqAt.shaped (.list (ps.map prsD)) = true := by
  unfold SeqAt.shaped
  rw [Bool.and_eq_true]
  refine ⟨canLay_map prsD_lay ps, decide_eq_true ?_⟩
  show PyData.depthAll (ps.map prsD) + 1 ≤ 64
  have := depth_map prsD_depth ps
  omega
theorem eqv_same {d : PyData} (h : SeqAt.shaped d = true) : PyData.eqv d d = true := SeqAt.eqv_refl _ (SeqAt.canLay_of_shaped h)
/-! ### walks over pairs -/
section
variable {K : PySem.W.Frag} {σ : L2.St} {H : Hp} {te tl : TE} {t : TT} {tu tz : TS} {D : Ends} {a l : Addr} {qs : List Addr} {prs : Prs} {j k : Nat} {vs : List Nat} {xs : List V}
/-- for x, y in e: a list of pairs -/
theorem goPr (Pv : Nat → L2.St → Hp → Prop) (f g : Nat → V) (h0 : Pv 0 σ H) (hl : ∀ i σ' H', i ≤ xs.length → Pv i σ' H' → SqL K H' a xs) (hp : ∀ (i : Nat) σ' H' x, Pv i σ' H' → xs[i]? = some x → ∃ T, x = .ref T ∧ SqT K H' T [f i, g i])
    (hs : ∀ (i : Nat) σ' H', i < xs.length → Pv i σ' H' → tu { D with nx := Pv (i + 1), ct := Pv (i + 1), bk := D.nx } ((σ'.set j (some (f i))).set k (some (g i))) H') (hd : ∀ σ' H', Pv xs.length σ' H' → D.nx σ' H') :
    ∃ W : Nat → Nat → L2.St → Hp → Prop, (∃ m, W 0 m σ H) ∧ ∀ i m σ H, W i m σ H →
      ((Itl K a).stop i H ∧ D.nx σ H) ∨ ((Itl K a).go i H ∧ ∃ N : L2.St → Hp → Prop, (∀ σ' H', N σ' H' → ∃ m', m' < m ∧ W (i + 1) m' σ' H') ∧ ∀ x H', (Itl K a).yld i H x H' → gTup K 2 (gCons (gName j) (gCons (gName k) gNil)) x σ H' fun σ2 H2 => tu { D with nx := N, ct := N, bk := D.nx } σ2 H2) := by
  refine for_it (walk_list (K := K) (a := a) (xs := xs)) Pv h0 hl (fun i x σ' H1 H2 hi p y => ?_) hd
  obtain ⟨e, hx⟩ := y
  subst e
  obtain ⟨T, rfl, hT⟩ := hp i σ' H2 x p hx
  exact gpair hT (hs i σ' H2 hi p)
theorem s_forPr (f g : Nat → V) (h : Ev tl σ H (.ref a)) (hx : SqL K H a xs) (Pv : Nat → L2.St → Hp → Prop) (h0 : ∀ H1, Ex H H1 → Pv 0 σ H1) (hl : ∀ i σ' H', i ≤ xs.length → Pv i σ' H' → SqL K H' a xs) (hp : ∀ (i : Nat) σ' H' x, Pv i σ' H' → xs[i]? = some x → ∃ T, x = .ref T ∧ SqT K H' T [f i, g i])
    (hs : ∀ (i : Nat) σ' H', i < xs.length → Pv i σ' H' → tu { D with nx := Pv (i + 1), ct := Pv (i + 1), bk := D.nx } ((σ'.set j (some (f i))).set k (some (g i))) H') (hd : ∀ σ' H', Pv xs.length σ' H' → D.nx σ' H') :
    tFor (iList K tl) (gTup K 2 (gCons (gName j) (gCons (gName k) gNil))) tu D σ H := h H (Ex.refl H) _ fun H1 e => ⟨a, rfl, ⟨xs, ex_l e hx⟩, goPr Pv f g (h0 H1 e) hl hp hs hd⟩
theorem q_forPr (f g : Nat → V) (h : Ev tl σ H (.ref a)) (hx : SqL K H a xs) (Pv : Nat → L2.St → Hp → Prop) (h0 : ∀ H1, Ex H H1 → Pv 0 σ H1) (hl : ∀ i σ' H', i ≤ xs.length → Pv i σ' H' → SqL K H' a xs) (hp : ∀ (i : Nat) σ' H' x, Pv i σ' H' → xs[i]? = some x → ∃ T, x = .ref T ∧ SqT K H' T [f i, g i])
    (hs : ∀ (i : Nat) σ' H', i < xs.length → Pv i σ' H' → tu { D with nx := Pv (i + 1), ct := Pv (i + 1), bk := tz D } ((σ'.set j (some (f i))).set k (some (g i))) H') (hd : ∀ σ' H', Pv xs.length σ' H' → tz D σ' H') :
    tSeq (tFor (iList K tl) (gTup K 2 (gCons (gName j) (gCons (gName k) gNil))) tu) tz D σ H := s_forPr (D := { D with nx := tz D }) f g h hx Pv h0 hl hp hs hd
/-- [x for x, y in pairs], [y for x, y in pairs] -/
theorem el_pairs {g : Int × Int → Int} (h : Ev tl σ H (.ref l)) (hp : PrsAt H l qs prs) (hz : prs.length ≤ 40000) (hw : ∀ x y, wipe (((wipe σ vs).set j (some x)).set k (some y)) vs = wipe σ vs)
    (he : ∀ pr H1, pr ∈ prs → Ex H H1 → Ev te (((wipe σ vs).set j (some (.int pr.1))).set k (some (.int pr.2))) H1 (.int (g pr))) : EvL (tLc (iList K tl) (gTup K 2 (gCons (gName j) (gCons (gName k) gNil))) tYes te vs) σ H ((prs.map g).map V.int) := by
  have hg : (prs.map g).map V.int = given (qs.map V.ref).length (fun _ => true) (fun i => .int (g (prs.getD i (0, 0)))) := by
    refine (given_all (by rw [List.length_map, List.length_map, List.length_map, hp.len]) fun i x hx => ?_).symm
    rw [List.map_map, List.getElem?_map] at hx
    cases hq : prs[i]? with
    | none => rw [hq] at hx; cases hx
    | some pr =>
      rw [hq] at hx
      have e : prs.getD i (0, 0) = pr := by simp [List.getD, hq]
      rw [e]
      exact Option.some.inj hx
  rw [hg]
  have at_ : ∀ i, i < (qs.map V.ref).length → ∃ pr, prs[i]? = some pr ∧ prs.getD i (0, 0) = pr := fun i hi => by
    rw [List.length_map, hp.len] at hi
    exact ⟨prs[i], by simp [hi], by simp [List.getD, hi]⟩
  refine el_lcP (p := fun i => .int (prs.getD i (0, 0)).1) (q := fun i => .int (prs.getD i (0, 0)).2) _ _ h (sq_of hp.top) (fun i x hx => ?_) (by rw [List.length_map, hp.len]; exact hz) hw (fun i H1 e1 hi => et_yes) (fun i H1 e1 hi _ => ?_)
  · obtain ⟨pr, h1, h2⟩ := at_ i (List.getElem?_eq_some_iff.mp hx).1
    obtain ⟨q, hq, hq2⟩ := hp.at h1
    rw [List.getElem?_map, hq] at hx
    have e : V.ref q = x := Option.some.inj hx
    rw [h2]
    exact ⟨q, e.symm, st_of hq2⟩
  · obtain ⟨pr, h1, h2⟩ := at_ i hi
    rw [h2]
    exact he pr H1 (List.mem_of_getElem? h1) e1
end
/-! ### new lists of pairs -/
abbrev NewPrs (prs : Prs) : Hp → V → Hp → Prop := fun H1 v H2 => ∃ l qs, v = .ref l ∧ H1 l = none ∧ PrsAt H2 l qs prs
theorem down_prs {prs : Prs} : Down (NewPrs prs) := fun _ _ _ _ e ⟨l, qs, a, b, c⟩ => ⟨l, qs, a, fresh_back e b, c⟩
theorem lc_prs {J : It} {n : Nat} {g : TG} {tt : TT} {te : TE} {vs : List Nat} {σ : L2.St} {H1 : Hp} {Q : VK} {sg : Nat → L2.St} (f : Nat → Bool) (pr : Nat → Int × Int) (T : Turns J n g (wipe σ vs) H1 sg) (hw : ∀ i, i < n → wipe (sg i) vs = wipe σ vs) (hn : n ≤ 40000) (ht : ∀ i H', i < n → Ex H1 H' → EvT tt (sg i) H' (f i))
    (he : ∀ i H', i < n → Ex H1 H' → f i = true → EvU te (sg i) H' [.int (pr i).1, .int (pr i).2]) (hq : ∀ D H2 qs, H1 D = none → Ex H1 H2 → PrsAt H2 D qs (((List.range n).filter f).map pr) → Q (.ref D) H2) : LcGo J g tt te vs σ H1 Q := by
  refine lc_go T hw (fun D i H => Ex H1 H ∧ ∃ qs, PrsAt H D qs (((List.range i).filter f).map pr)) (fun D hD => ⟨Ex.new hD, [], PrsAt.nil upd_same⟩) (fun D i H _ p => p.1) (fun D i H hD hi p H2 e2 => ?_) (fun D H hD p => ?_)
  · obtain ⟨e1, qs, hqs⟩ := p
    refine ht i H2 hi (e1.trans e2) H2 (Ex.refl _) _ fun H3 e3 => ?_
    cases hf : f i with
    | false =>
      rw [if_neg Bool.false_ne_true]
      refine ⟨(e1.trans e2).trans e3, qs, ?_⟩
      rw [List.range_succ, List.filter_append, List.filter_cons, hf]
      simp only [Bool.false_eq_true, if_false, List.filter_nil, List.append_nil]
      exact hqs.mono (e2.trans e3)
    | true =>
      rw [if_pos rfl]
      refine he i H3 hi ((e1.trans e2).trans e3) hf H3 (Ex.refl _) _ fun q H4 nq e4 h4 => ?_
      have hqs4 := hqs.mono ((e2.trans e3).trans e4)
      refine ⟨_, hqs4.top, ?_, Ex.mut (((e1.trans e2).trans e3).trans e4) hD, qs ++ [q], ?_⟩
      · rw [List.length_map, hqs.len, List.length_map]
        have := List.length_filter_le f (List.range i)
        rw [List.length_range] at this
        exact sz_lt (by omega)
      · rw [List.range_succ, List.filter_append, List.filter_cons, hf]
        simp only [if_true, List.filter_nil, List.map_append, List.map_cons, List.map_nil]
        exact hqs4.snoc h4
  · obtain ⟨e1, qs, hqs⟩ := p
    exact hq D H qs hD e1 hqs
/-! ### class Plan -/
structure CsP (K : PySem.W.Frag) (mg : Str → Option Value) (CA CP CE CS CL : Addr) : Prop where
  k0 : Kl0 K
  P : Kl K mg "Plan" CP
  gA : mg "Answer" = some (.ref CA)
  gE : mg "Each" = some (.ref CE)
  gS : mg "Short" = some (.ref CS)
  gL : mg "Lasting" = some (.ref CL)
  np : PySem.W.findIn K (.ref CP) "parts" = some none
  PA : PySem.W.kitOne K (.ref CP) (.ref CA) = some true
  PE : PySem.W.kitOne K (.ref CP) (.ref CE) = some false
  PS : PySem.W.kitOne K (.ref CP) (.ref CS) = some false
  PP : PySem.W.kitOne K (.ref CP) (.ref CP) = some true
  PL : PySem.W.kitOne K (.ref CP) (.ref CL) = some false
/-! ### promises -/
def sp_Plan_init (K : PySem.W.Frag) (C : Addr) : Sp := fun vs H Q _ => ∃ (x a dx : Addr) (ts ls : List Addr) (parts : List (Prs × Int)), vs = [.ref x, .ref a] ∧ H x = some (.ins C dx []) ∧ PartsAt H a ts ls parts ∧ parts.length ≤ 2000 ∧
  ∀ (a' : Addr) (ts' ls' : List Addr) H1, (∀ c o, c ≠ x → H c = some o → H1 c = some o) → H a' = none → a' ≠ x → ls'.Nodup → (∀ l ∈ ls', H l = none ∧ l ≠ x ∧ l ≠ a') → PartsAt H1 a' ts' ls' parts → H1 x = some (.ins C dx [("parts", .ref a')]) → Q .non H1
abbrev NewPlan (C : Addr) (parts : List (Prs × Int)) : Hp → V → Hp → Prop := fun H1 v H2 => ∃ (x dx a : Addr) (ts ls : List Addr), v = .ref x ∧ H1 x = none ∧ H1 a = none ∧ a ≠ x ∧ ls.Nodup ∧ (∀ l ∈ ls, H1 l = none ∧ l ≠ x ∧ l ≠ a) ∧ PartsAt H2 a ts ls parts ∧ H2 x = some (.ins C dx [("parts", .ref a)])
theorem down_plan {C : Addr} {parts : List (Prs × Int)} : Down (NewPlan C parts) := fun _ _ _ _ e ⟨x, dx, a, ts, ls, z1, z2, z3, z4, z5, z6, z7⟩ => ⟨x, dx, a, ts, ls, z1, fresh_back e z2, fresh_back e z3, z4, z5, fun l hl => ⟨fresh_back e (z6 l hl).1, (z6 l hl).2⟩, z7⟩
theorem makeP {K : PySem.W.Frag} {H : Hp} {C a x dx : Addr} {ts ls : List Addr} {parts : List (Prs × Int)} {Q : VK} {E : XK} (nx : H x = none) (nd : H dx = none) (hne : dx ≠ x) (ha : PartsAt H a ts ls parts) (hl : parts.length ≤ 2000) (q : ∀ v H2, Ex H H2 → NewPlan C parts H v H2 → Q v H2) :
    sp_Plan_init K C (.ref x :: ([.ref a] ++ [])) (upd (upd H dx (.own x)) x (.ins C dx [])) (fun v H2 => v = .non ∧ Q (.ref x) H2) E := by
  have e3 : Ex H (upd (upd H dx (.own x)) x (.ins C dx [])) := (Ex.new nd).trans (Ex.new (by rw [upd_ne (Ne.symm hne)]; exact nx))
  have hx : upd (upd H dx (.own x)) x (.ins C dx []) x = some (.ins C dx []) := upd_same
  generalize upd (upd H dx (.own x)) x (.ins C dx []) = H3 at e3 hx
  refine ⟨x, a, dx, ts, ls, parts, rfl, hx, ha.mono e3, hl, fun a' ts' ls' H4 hk na hax hnd hfr hp gx => ⟨rfl, ?_⟩⟩
  exact q _ _ (fun c o hc => hk c o (fun z => by rw [z, nx] at hc; cases hc) (e3 _ _ hc)) ⟨x, dx, a', ts', ls', rfl, nx, fresh_back e3 na, hax, hnd, fun l hl => ⟨fresh_back e3 (hfr l hl).1, (hfr l hl).2⟩, hp, gx⟩
theorem evp_makeP {K : PySem.W.Frag} {σ : L2.St} {H : Hp} {C a : Addr} {ts ls : List Addr} {parts : List (Prs × Int)} {t : TA} {E : XK} (h : EvA t σ H [.ref a]) (ha : PartsAt H a ts ls parts) (hl : parts.length ≤ 2000) : EvP (tMake C (sp_Plan_init K C) [] E t) σ H (NewPlan C parts) := fun H1 e Q q =>
  h H1 e _ fun H2 e2 x dx nx nd hne => makeP nx nd hne (ha.mono (e.trans e2)) hl fun v H3 e3 hv => q v H3 (e2.trans e3) (down_plan _ _ _ _ e2 hv)
def IsPlan (CP : Addr) (H : Hp) (x a : Addr) (ts ls : List Addr) (parts : List (Prs × Int)) : Prop := parts.length ≤ 2000 ∧ (∀ pt ∈ parts, pt.1.length ≤ 2000) ∧ PartsAt H a ts ls parts ∧ ∃ dx, H x = some (.ins CP dx [("parts", .ref a)])
theorem IsPlan.mono {CP : Addr} {H H' : Hp} {x a : Addr} {ts ls : List Addr} {parts : List (Prs × Int)} (h : IsPlan CP H x a ts ls parts) (e : Ex H H') : IsPlan CP H' x a ts ls parts := ⟨h.1, h.2.1, h.2.2.1.mono e, h.2.2.2.imp fun dx z => e _ _ z⟩
def sp_Plan_shows (K : PySem.W.Frag) (CP : Addr) : Sp := fun vs H Q _ => ∃ (x b a : Addr) (ts ls rs : List Addr) (parts : List (Prs × Int)) (T : List (List Int)) (n m : Nat), vs = [.ref x, .ref b] ∧ IsPlan CP H x a ts ls parts ∧ Tab H b rs T ∧ Rect T n m ∧ 1 ≤ n ∧ n ≤ 1000 ∧ 1 ≤ m ∧ m ≤ 1000 ∧ Ret (IsV (.bl (planB T n m parts))) H Q
structure PlanOf (T : List (List Int)) (n m : Nat) (parts : List (Prs × Int)) : Prop where
  ok : planB T n m parts = true
  len : parts.length ≤ 800
def sp_plan (K : PySem.W.Frag) (CP : Addr) : Sp := fun vs H Q _ => ∃ (a : Addr) (rs : List Addr) (T : List (List Int)) (n m : Nat), vs = [.ref a] ∧ Tab H a rs T ∧ Good T n m ∧ ∀ parts, PlanOf T n m parts → Ret (NewPlan CP parts) H Q
def sp__law_plan_due (K : PySem.W.Frag) : Sp := fun vs H Q _ => ∃ (a b : Addr) (ts ls rs : List Addr) (parts : List (Prs × Int)) (T : List (List Int)) (n m : Nat), vs = [.ref b, .ref a] ∧ PartsAt H a ts ls parts ∧ parts.length ≤ 2000 ∧ (∀ pt ∈ parts, pt.1.length ≤ 2000) ∧ Tab H b rs T ∧ Rect T n m ∧ 1 ≤ n ∧ n ≤ 1000 ∧ 1 ≤ m ∧ m ≤ 1000 ∧ Ret (IsV (.bl (planB T n m parts))) H Q
def sp__law_parts_right (K : PySem.W.Frag) : Sp := fun vs H Q _ => ∃ (a : Addr) (ts ls : List Addr) (parts : List (Prs × Int)), vs = [.ref a] ∧ PartsAt H a ts ls parts ∧ Ret (IsV (.bl true)) H Q
def IsTab1 (H : Hp) (v : V) : Prop := ∃ (a : Addr) (rs : List Addr) (T : List (List Int)) (n m : Nat), v = .ref a ∧ Tab H a rs T ∧ Rect T n m ∧ 1 ≤ n ∧ n ≤ 1000 ∧ 1 ≤ m ∧ m ≤ 1000
theorem IsTab1.mono {H H' : Hp} {v : V} (h : IsTab1 H v) (e : Ex H H') : IsTab1 H' v := by
  obtain ⟨a, rs, T, n, m, b, c, d⟩ := h
  exact ⟨a, rs, T, n, m, b, c.mono e, d⟩
def sp__law_right_plan (K : PySem.W.Frag) : Sp := fun vs H Q _ => ∃ (a os : Addr) (rs : List Addr) (T : List (List Int)) (n m : Nat) (ts : List V), vs = [.ref a, .ref os] ∧ Tab H a rs T ∧ Good T n m ∧ H os = some (.lst ts) ∧ (∀ v ∈ ts, IsTab1 H v) ∧ Ret (IsV (.bl true)) H Q
end Lh

namespace Lh
open PySem PySem.Spec PyProof.Rows L2 Evl
theorem ok_inR {n m : Nat} {pt : Prs × Int} (h : okPart n m pt = true) : InR n m pt.1 := fun pr hpr => by
  unfold okPart at h
  simp only [Bool.and_eq_true, decide_eq_true_eq] at h
  have a := mem_range_of h.2.1.2 (List.mem_map.mpr ⟨pr, hpr, rfl⟩)
  have b := mem_range_of h.2.2.2 (List.mem_map.mpr ⟨pr, hpr, rfl⟩)
  exact ⟨a.1, a.2, b.1, b.2⟩
theorem subAll_rect {n m : Nat} : ∀ {parts : List (Prs × Int)} {T : List (List Int)}, Rect T n m → parts.all (okPart n m) = true → Rect (subAll T parts) n m
  | [], T, hR, _ => hR
  | pt :: parts, T, hR, h => by
    rw [List.all_cons, Bool.and_eq_true] at h
    exact subAll_rect (parts := parts) (subP_rect hR (ok_inR h.1)) h.2
theorem max_min_zero {u : List Int} (h : u ≠ []) : (!decide (maxI u = 0) || !decide (minI u = 0)) = !(u.all fun x => decide (x = 0)) := by
  rw [Bool.eq_iff_iff]
  simp only [Bool.or_eq_true, Bool.not_eq_true', decide_eq_false_iff_not, List.all_eq_false, decide_eq_true_eq]
  constructor
  · rintro (h1 | h1)
    · exact ⟨maxI u, maxI_mem h, h1⟩
    · exact ⟨minI u, minI_mem h, h1⟩
  · rintro ⟨x, hx, h1⟩
    have a := maxI_le hx
    have b := minI_le hx
    by_cases h2 : maxI u = 0
    · exact .inr (by omega)
    · exact .inl h2
theorem plan_stop {T : List (List Int)} {n m i : Nat} {parts : List (Prs × Int)} {pt : Prs × Int} (h : parts[i]? = some pt) (hk : okPart n m pt = false) : planB T n m parts = false := by
  unfold planB
  have : parts.all (okPart n m) = false := by
    rw [List.all_eq_false]
    exact ⟨pt, List.mem_of_getElem? h, by rw [hk]; exact Bool.false_ne_true⟩
  rw [this]
  rfl
theorem sub1_is {T : List (List Int)} {t p : Nat} {u : List Int} {x h : Int} (hu : T[t]? = some u) (hx : u[p]? = some x) : sub1 T t p h = T.set t (u.set p (x - h)) := by
  unfold sub1
  rw [cell_of hu hx]
  have e : T.getD t [] = u := by simp [List.getD, hu]
  rw [e]
theorem subP_snoc (T : List (List Int)) (prs : Prs) (pr : Int × Int) (h : Int) : subP T (prs ++ [pr]) h = sub1 (subP T prs h) pr.1.toNat pr.2.toNat h := by
  unfold subP
  rw [List.foldl_append]
  rfl
theorem subAll_snoc (T : List (List Int)) (parts : List (Prs × Int)) (pt : Prs × Int) : subAll T (parts ++ [pt]) = subP (subAll T parts) pt.1 pt.2 := by
  unfold subAll
  rw [List.foldl_append]
  rfl
theorem total_snoc (parts : List (Prs × Int)) (pt : Prs × Int) : total (parts ++ [pt]) = total parts + pt.2 := by
  unfold total
  rw [List.map_append, List.sum_append]
  simp
theorem take_snoc {α : Type} {l : List α} {i : Nat} {x : α} (h : l[i]? = some x) : l.take (i + 1) = l.take i ++ [x] := by rw [List.take_add_one, h]; rfl
/-! ### only the rows of a table change -/
def ExR (rl : List Addr) (H H' : Hp) : Prop := ∀ c o, c ∉ rl → H c = some o → H' c = some o
theorem ExR.refl {rl : List Addr} {H : Hp} : ExR rl H H := fun _ _ _ h => h
theorem ExR.of {rl : List Addr} {H H' : Hp} (e : Ex H H') : ExR rl H H' := fun c o _ h => e c o h
theorem ExR.trans {rl : List Addr} {H H1 H2 : Hp} (a : ExR rl H H1) (b : ExR rl H1 H2) : ExR rl H H2 := fun c o n h => b c o n (a c o n h)
theorem ExR.upd {rl : List Addr} {H H1 : Hp} {r : Addr} {o : HO} (a : ExR rl H H1) (h : r ∈ rl) : ExR rl H (upd H1 r o) := fun c u n hc => by
  rw [upd_ne (fun z : c = r => n (by rw [z]; exact h))]
  exact a c u n hc
theorem ExR.ex {rl : List Addr} {H0 H H1 : Hp} (e : Ex H0 H) (a : ExR rl H H1) (fr : ∀ r ∈ rl, H0 r = none) : Ex H0 H1 := fun c o h => a c o (fun z => by rw [fr c z] at h; cases h) (e c o h)
theorem Tab.rowLst {H : Hp} {pl r : Addr} {rl : List Addr} {U : List (List Int)} (h : Tab H pl rl U) (hr : r ∈ rl) : ∃ xs, H r = some (.lst xs) := by
  obtain ⟨i, hi⟩ := List.getElem?_of_mem hr
  obtain ⟨u, _, hu⟩ := h.ref hi
  exact ⟨_, hu⟩
theorem PrsAt.exR {H H1 : Hp} {l pl : Addr} {qs rl : List Addr} {prs : Prs} {U : List (List Int)} (h : PrsAt H l qs prs) (hT : Tab H pl rl U) (a : ExR rl H H1) (hl : l ∉ rl) : PrsAt H1 l qs prs := by
  refine ⟨a _ _ hl h.top, h.len, fun i q pr b c => ?_⟩
  have hq := h.tup i q pr b c
  refine a _ _ (fun z => ?_) hq
  obtain ⟨xs, hx⟩ := hT.rowLst z
  rw [hx] at hq
  cases hq
theorem Tab.other {H H1 : Hp} {pl pm : Addr} {rl rm : List Addr} {U W : List (List Int)} (h : Tab H pm rm W) (a : ExR rl H H1) (h1 : pm ∉ rl) (h2 : ∀ r ∈ rm, r ∉ rl) : Tab H1 pm rm W := ⟨a _ _ h1 h.top, h.len, fun i r u b c => a _ _ (h2 r (List.mem_of_getElem? b)) (h.row i r u b c)⟩
section
variable {K : PySem.W.Frag} {D : Ends} {σ : L2.St} {H : Hp} {pl l : Addr} {rl qs : List Addr} {U : List (List Int)} {n m : Nat} {h : Int}
/-- table[who][place] = table[who][place] - hours -/
theorem s_subcell {tt tw tp th : TE} {t p : Nat} (h1 : Ev tt σ H (.ref pl)) (hw : Ev tw σ H (.int (t : Int))) (hp : Ev tp σ H (.int (p : Int))) (hh : Ev th σ H (.int h)) (hT : Tab H pl rl U) (nd : rl.Nodup) (hR : Rect U n m) (ht : t < n) (hpm : p < m) (k : ∀ H1, ExR rl H H1 → Tab H1 pl rl (sub1 U t p h) → D.nx σ H1) :
    tAsg (tOp (rI0 fun i j => .int (i - j)) (tOp (rIxL K) (tOp (rIxL K) tt tw) tp) th) (gSub (tOp (rIxL K) tt tw) tp L2.rSetL) D σ H := by
  obtain ⟨u, x, hu, hul, hx⟩ := hR.cell ht hpm
  obtain ⟨r, hr, hrow⟩ := hT.at hu
  refine s_setL (v := .int (x - h)) (j := p) hrow (ev_sub (ev_cell h1 hw hp hT hu hx) hh) (ev_row h1 hw hT hr) hp (by rw [List.length_map, hul]; exact hpm) fun H1 e1 => ?_
  rw [map_set_int]
  refine k _ ((ExR.of e1).upd (List.mem_of_getElem? hr)) ?_
  rw [sub1_is hu hx]
  exact (hT.mono e1).set nd hr hu
theorem set2_self {i j : Nat} (h1 : i < σ.length) (h2 : j < σ.length) : ∃ x y, σ = (σ.set i x).set j y := by
  refine ⟨σ[i], σ[j], ?_⟩
  rw [List.set_getElem_self, List.set_getElem_self]
theorem set2_set2 {i j : Nat} (x y v w : Option V) (hij : i ≠ j) : (((σ.set i x).set j y).set i v).set j w = (σ.set i v).set j w := by
  rw [List.set_comm y v (Ne.symm hij), List.set_set, List.set_set]
theorem set2_ne {i j k : Nat} (x y : Option V) (h1 : i ≠ k) (h2 : j ≠ k) : ((σ.set i x).set j y)[k]? = σ[k]? := by
  rw [List.getElem?_set_ne h2, List.getElem?_set_ne h1]
theorem set2_fst {i j : Nat} (x y : Option V) (hij : i ≠ j) (h1 : i < σ.length) : ((σ.set i x).set j y)[i]? = some x := by
  rw [List.getElem?_set_ne (Ne.symm hij), List.getElem?_set_self h1]
theorem set2_snd {i j : Nat} (x y : Option V) (h1 : j < σ.length) : ((σ.set i x).set j y)[j]? = some y := by
  rw [List.getElem?_set_self (by rw [List.length_set]; exact h1)]
/-- for who, place in pairs: table[who][place] = table[who][place] - hours -/
theorem s_subs {tl : TE} {prs : Prs} {it iw ip ih : Nat} (hl : Ev tl σ H (.ref l)) (hp : PrsAt H l qs prs) (hit : σ[it]? = some (some (.ref pl))) (hih : σ[ih]? = some (some (.int h))) (hwl : iw < σ.length) (hpl : ip < σ.length) (hne : iw ≠ ip ∧ iw ≠ it ∧ ip ≠ it ∧ iw ≠ ih ∧ ip ≠ ih) (hin : InR n m prs) (hR : Rect U n m) (nd : rl.Nodup) (hT : Tab H pl rl U) (hlr : l ∉ rl)
    (k : ∀ H1 x y, ExR rl H H1 → Tab H1 pl rl (subP U prs h) → D.nx ((σ.set iw x).set ip y) H1) :
    tFor (iList K tl) (gTup K 2 (gCons (gName iw) (gCons (gName ip) gNil))) (tAsg (tOp (rI0 fun i j => .int (i - j)) (tOp (rIxL K) (tOp (rIxL K) (tVar it) (tVar iw)) (tVar ip)) (tVar ih)) (gSub (tOp (rIxL K) (tVar it) (tVar iw)) (tVar ip) L2.rSetL)) D σ H := by
  obtain ⟨n1, n2, n3, n4, n5⟩ := hne
  have at_ : ∀ i, i < prs.length → ∃ pr, prs[i]? = some pr ∧ prs.getD i (0, 0) = pr := fun i hi => ⟨prs[i], by simp [hi], by simp [List.getD, hi]⟩
  have hlen : (qs.map V.ref).length = prs.length := by rw [List.length_map, hp.len]
  refine s_forPr (fun i => .int (prs.getD i (0, 0)).1) (fun i => .int (prs.getD i (0, 0)).2) hl (sq_of hp.top) (fun i σ' H' => (∃ x y, σ' = (σ.set iw x).set ip y) ∧ ExR rl H H' ∧ Tab H' pl rl (subP U (prs.take i) h))
    (fun H1 e1 => ⟨set2_self hwl hpl, ExR.of e1, hT.mono e1⟩) (fun i σ' H' _ z => sq_of (hp.exR hT z.2.1 hlr).top) (fun i σ' H' x z hx => ?_) (fun i σ' H' hi z => ?_) (fun σ' H' z => ?_)
  · have hi : i < prs.length := by
      rw [← hlen]
      exact (List.getElem?_eq_some_iff.mp hx).1
    obtain ⟨pr, h1, h2⟩ := at_ i hi
    obtain ⟨q, hq, hq2⟩ := (hp.exR hT z.2.1 hlr).at h1
    rw [List.getElem?_map, hq] at hx
    rw [h2]
    exact ⟨q, (Option.some.inj hx).symm, st_of hq2⟩
  · obtain ⟨⟨x, y, rfl⟩, ex, hT'⟩ := z
    rw [hlen] at hi
    obtain ⟨pr, h1, h2⟩ := at_ i hi
    have a := hin pr (List.mem_of_getElem? h1)
    have hR' : Rect (subP U (prs.take i) h) n m := subP_rect hR fun q hq => hin q (List.mem_of_mem_take hq)
    rw [h2, set2_set2 _ _ _ _ n1]
    refine s_subcell (t := pr.1.toNat) (p := pr.2.toNat) (ev_var (by rw [set2_ne _ _ n2 n3]; exact hit)) (ev_is (ev_var (set2_fst _ _ n1 hwl)) (by congr 1; omega)) (ev_is (ev_var (set2_snd _ _ hpl)) (by congr 1; omega)) (ev_var (by rw [set2_ne _ _ n4 n5]; exact hih)) hT' nd hR' (by omega) (by omega) fun H1 e1 hT1 => ⟨⟨_, _, rfl⟩, ex.trans e1, ?_⟩
    rw [take_snoc h1, subP_snoc]
    exact hT1
  · obtain ⟨⟨x, y, rfl⟩, ex, hT'⟩ := z
    rw [hlen, List.take_of_length_le (Nat.le_refl _)] at hT'
    exact k H' x y ex hT'
/-- for who, place in enumerate(classes): .. -/
theorem s_subsE {tl : TE} {L : List Nat} {it iw ip ih : Nat} (hl : Ev tl σ H (.ref l)) (hp : H l = some (.lst (L.map fun (x : Nat) => V.int (x : Int)))) (hit : σ[it]? = some (some (.ref pl))) (hih : σ[ih]? = some (some (.int h))) (hwl : iw < σ.length) (hpl : ip < σ.length) (hne : iw ≠ ip ∧ iw ≠ it ∧ ip ≠ it ∧ iw ≠ ih ∧ ip ≠ ih) (hin : InR n m (enumL L)) (hR : Rect U n m) (nd : rl.Nodup) (hT : Tab H pl rl U) (hlr : l ∉ rl)
    (k : ∀ H1 x y, ExR rl H H1 → Tab H1 pl rl (subP U (enumL L) h) → D.nx ((σ.set iw x).set ip y) H1) :
    tFor (iEnum K (tCons tl tNil)) (gTup K 2 (gCons (gName iw) (gCons (gName ip) gNil))) (tAsg (tOp (rI0 fun i j => .int (i - j)) (tOp (rIxL K) (tOp (rIxL K) (tVar it) (tVar iw)) (tVar ip)) (tVar ih)) (gSub (tOp (rIxL K) (tVar it) (tVar iw)) (tVar ip) L2.rSetL)) D σ H := by
  obtain ⟨n1, n2, n3, n4, n5⟩ := hne
  have hlen : (L.map fun (x : Nat) => V.int (x : Int)).length = L.length := List.length_map ..
  have hlen2 : (enumL L).length = L.length := by unfold enumL; simp
  have at_ : ∀ (i p : Nat), L[i]? = some p → (enumL L)[i]? = some ((i : Int), (p : Int)) := fun i p hi => by
    unfold enumL
    have hi2 := (List.getElem?_eq_some_iff.mp hi).1
    rw [List.getElem?_map, List.getElem?_range hi2]
    simp [List.getD, hi]
  refine s_forE hl (sq_of hp) (fun i σ' H' => (∃ x y, σ' = (σ.set iw x).set ip y) ∧ ExR rl H H' ∧ Tab H' pl rl (subP U ((enumL L).take i) h))
    (fun H1 e1 => ⟨set2_self hwl hpl, ExR.of e1, hT.mono e1⟩) (fun i σ' H' _ z => sq_of (z.2.1 _ _ hlr hp)) (fun i x σ' H' hx z H2 e2 => ?_) (fun σ' H' z => ?_)
  · obtain ⟨⟨x', y', rfl⟩, ex, hT'⟩ := z
    rw [List.getElem?_map] at hx
    cases hp' : L[i]? with
    | none => rw [hp'] at hx; cases hx
    | some p =>
      rw [hp'] at hx
      have ex' : V.int (p : Int) = x := Option.some.inj hx
      subst ex'
      have h1 := at_ i p hp'
      have a := hin _ (List.mem_of_getElem? h1)
      dsimp only at a
      have hR' : Rect (subP U ((enumL L).take i) h) n m := subP_rect hR fun q hq => hin q (List.mem_of_mem_take hq)
      rw [set2_set2 _ _ _ _ n1]
      refine s_subcell (t := i) (p := p) (ev_var (by rw [set2_ne _ _ n2 n3]; exact hit)) (ev_var (set2_fst _ _ n1 hwl)) (ev_var (set2_snd _ _ hpl)) (ev_var (by rw [set2_ne _ _ n4 n5]; exact hih)) (hT'.mono e2) nd hR' (by omega) (by omega) fun H1 e1 hT1 => ⟨⟨_, _, rfl⟩, (ex.trans (ExR.of e2)).trans e1, ?_⟩
      rw [take_snoc h1, subP_snoc]
      exact hT1
  · obtain ⟨⟨x, y, rfl⟩, ex, hT'⟩ := z
    rw [hlen, ← hlen2, List.take_of_length_le (Nat.le_refl _)] at hT'
    exact k H' x y ex hT'
end
/-! ### comprehensions over a table's rows -/
section
variable {K : PySem.W.Frag} {σ : L2.St} {H : Hp} {te tl ta tb : TE} {a : Addr} {rs : List Addr} {T : List (List Int)} {j : Nat} {vs : List Nat}
theorem el_lcT {v : List Int → V} (h : Ev tl σ H (.ref a)) (hT : Tab H a rs T) (hz : T.length ≤ 40000) (hw : ∀ x, wipe ((wipe σ vs).set j (some x)) vs = wipe σ vs)
    (he : ∀ u r H1, u ∈ T → Ex H H1 → H1 r = some (.lst (u.map V.int)) → Ev te ((wipe σ vs).set j (some (.ref r))) H1 (v u)) : EvL (tLc (iList K tl) (gName j) tYes te vs) σ H (T.map v) := by
  have hg : T.map v = given (rs.map V.ref).length (fun _ => true) (fun i => v (T.getD i [])) := by
    refine (given_all (by rw [List.length_map, List.length_map, hT.len]) fun i x hx => ?_).symm
    rw [List.getElem?_map] at hx
    cases hq : T[i]? with
    | none => rw [hq] at hx; cases hx
    | some u =>
      rw [hq] at hx
      have e : T.getD i [] = u := by simp [List.getD, hq]
      rw [e]
      exact Option.some.inj hx
  rw [hg]
  refine el_lcL _ _ h hT.sq (by rw [List.length_map, hT.len]; exact hz) hw (fun z x H2 e2 hz => et_yes) (fun z x H2 e2 hz _ => ?_)
  rw [List.getElem?_map] at hz
  cases hq : rs[z]? with
  | none => rw [hq] at hz; cases hz
  | some r =>
    rw [hq] at hz
    have ey : V.ref r = x := Option.some.inj hz
    subst ey
    obtain ⟨u, hu, hr⟩ := (hT.mono e2).ref hq
    have e : T.getD z [] = u := by simp [List.getD, hu]
    rw [e]
    exact he u r H2 (List.mem_of_getElem? hu) e2 hr
theorem ev_anyT {b : List Int → Bool} (h : Ev tl σ H (.ref a)) (hT : Tab H a rs T) (hz : T.length ≤ 40000) (hw : ∀ x, wipe ((wipe σ vs).set j (some x)) vs = wipe σ vs)
    (he : ∀ u r H1, u ∈ T → Ex H H1 → H1 r = some (.lst (u.map V.int)) → Ev te ((wipe σ vs).set j (some (.ref r))) H1 (.bl (b u))) : Ev (tCB (rAny K) (tCons (tLc (iList K tl) (gName j) tYes te vs) tNil)) σ H (.bl (T.any b)) := by
  refine ev_is (ev_anyL (bs := T.map b) (by rw [List.map_map]; exact el_lcT h hT hz hw he)) ?_
  rw [List.any_map]
  rfl
theorem ev_allT {b : List Int → Bool} (h : Ev tl σ H (.ref a)) (hT : Tab H a rs T) (hz : T.length ≤ 40000) (hw : ∀ x, wipe ((wipe σ vs).set j (some x)) vs = wipe σ vs)
    (he : ∀ u r H1, u ∈ T → Ex H H1 → H1 r = some (.lst (u.map V.int)) → Ev te ((wipe σ vs).set j (some (.ref r))) H1 (.bl (b u))) : Ev (tCB (rAll K) (tCons (tLc (iList K tl) (gName j) tYes te vs) tNil)) σ H (.bl (T.all b)) := by
  refine ev_is (ev_allL (bs := T.map b) (by rw [List.map_map]; exact el_lcT h hT hz hw he)) ?_
  rw [List.all_map]
  rfl
end
/-! ### chosen -/
section
variable {K : PySem.W.Frag} {σ : L2.St} {H : Hp} {ta tb te : TE} {tr : TA} {a : Addr} {rs : List Addr} {T : List (List Int)} {n m : Nat} {v : Int} {P P' : Hp → V → Hp → Prop} {E : XK}
/-- an item of a tuple that a call hands back -/
theorem evp_ixPT {i : Int} (ha : EvP ta σ H P) (hb : Ev tb σ H (.int i)) (hp : ∀ H1 u H2, P H1 u H2 → ∃ p xs v, u = .ref p ∧ SqT K H2 p xs ∧ atI xs i = some v ∧ P' H1 v H2) (hup : ∀ H1 v H2 H3, Ex H2 H3 → P' H1 v H2 → P' H1 v H3) : EvP (tOp (rIxT K) ta tb) σ H P' := fun H1 e Q q =>
  ha H1 e _ fun u H2 e2 hu => by
    obtain ⟨p, xs, v, rfl, hs, hv, hp'⟩ := hp H1 u H2 hu
    exact hb H2 (e.trans e2) _ fun H3 e3 => ⟨p, xs, i, v, rfl, rfl, ex_t e3 hs, hv, q v H3 (e2.trans e3) (hup _ _ _ _ e3 hp')⟩
theorem evp_chosenC (hc : ∃ L, Choice T n m v L) (h : EvA tr σ H [.ref a, .int v]) (hT : Tab H a rs T) (hR : Rect T n m) (hn2 : n ≤ 1000) (hm2 : m ≤ 20) : EvP (tCall (sp_chosen K) [] E tr) σ H (fun H1 u H2 => ∃ L, Choice T n m v L ∧ NewChoice L H1 u H2) :=
  evp_call h (fun H1 H2 u H3 e ⟨L, hL, p, q, a, b, c⟩ => ⟨L, hL, p, q, a, fresh_back e b, c⟩) fun H1 e1 Q q => ⟨a, rs, T, n, m, v, rfl, hT.mono e1, hR, hn2, hm2, fun L hL u H2 e2 hu => q u H2 e2 ⟨L, hL, hu⟩, fun S hS => by
    obtain ⟨L, hL⟩ := hc
    rw [hL.enough] at hS
    cases hS⟩
theorem evp_chosenS (hc : ¬ ∃ L, Choice T n m v L) (h : EvA tr σ H [.ref a, .int v]) (hT : Tab H a rs T) (hR : Rect T n m) (hn2 : n ≤ 1000) (hm2 : m ≤ 20) : EvP (tCall (sp_chosen K) [] E tr) σ H (fun H1 u H2 => ∃ S, tooFewB T n m S v = true ∧ NewShort S H1 u H2) :=
  evp_call h (fun H1 H2 u H3 e ⟨L, hL, p, q, a, b, c⟩ => ⟨L, hL, p, q, a, fresh_back e b, c⟩) fun H1 e1 Q q => ⟨a, rs, T, n, m, v, rfl, hT.mono e1, hR, hn2, hm2, fun L hL => absurd ⟨L, hL⟩ hc, fun S hS u H2 e2 hu => q u H2 e2 ⟨S, hS, hu⟩⟩
/-- chosen(table, v)[1] -/
theorem ev_chosen1 (hc : ∃ L, Choice T n m v L) (h : EvA tr σ H [.ref a, .int v]) (hT : Tab H a rs T) (hR : Rect T n m) (hn2 : n ≤ 1000) (hm2 : m ≤ 20) : Ev (tOp (rIxT K) (tCall (sp_chosen K) [] E tr) (tC (.int 1))) σ H .non :=
  ev_ixPT (evp_chosenC hc h hT hR hn2 hm2) (fun H1 e1 => ev_c) fun H1 u H2 ⟨L, hL, p, q, hu, _, hp, _⟩ => ⟨p, _, hu, st_of hp, atI_of (j := 1) rfl rfl⟩
/-- chosen(table, v)[1] is None -/
theorem et_isNone {b : Bool} (hb : b = true ↔ ∃ L, Choice T n m v L) (h : EvA tr σ H [.ref a, .int v]) (hT : Tab H a rs T) (hR : Rect T n m) (hn2 : n ≤ 1000) (hm2 : m ≤ 20) : EvT (tTest (tOp (fun x y H Q => y = .non ∧ Q (.bl (decide (x = .non))) H) (tOp (rIxT K) (tCall (sp_chosen K) [] E tr) (tC (.int 1))) (tC .non))) σ H b := by
  cases b with
  | true =>
    exact et_test (ev_op (z := .bl true) (ev_chosen1 (hb.mp rfl) h hT hR hn2 hm2) ev_c fun H1 e1 Q q => ⟨rfl, q H1 (Ex.refl _)⟩)
  | false =>
    have hc : ¬ ∃ L, Choice T n m v L := fun z => by
      have := hb.mpr z
      cases this
    refine et_test fun H1 e1 Q q => (evp_ixPT (P' := fun H1 v H2 => ∃ p, v = .ref p) (evp_chosenS hc h hT hR hn2 hm2) ev_c (fun H1 u H2 ⟨S, hS, p, q, hu, _, hp, _⟩ => ⟨p, _, .ref q, hu, st_of hp, atI_of (j := 1) rfl rfl, q, rfl⟩) fun H1 v H2 H3 e z => z) H1 e1 _ fun v H2 e2 ⟨p, hv⟩ => ?_
    subst hv
    exact ⟨rfl, q H2 e2⟩
end
end Lh

namespace Lh
open PySem PySem.Spec PyProof.Rows L2 Evl
theorem full_rows {T : List (List Int)} {m : Nat} {h : Int} (hh : fullM T m ≤ h) : ∀ u ∈ T, u.sum ≤ h := fun u hu => by
  have h1 : u.sum ∈ rowSums T := List.mem_map.mpr ⟨u, hu, rfl⟩
  have h2 := maxI_le h1
  unfold fullM at hh
  omega
theorem full_cols {T : List (List Int)} {m : Nat} {h : Int} (hh : fullM T m ≤ h) : ∀ j, j < m → colAt T j ≤ h := fun j hj => by
  have h1 : colAt T j ∈ colSums T m := List.mem_map.mpr ⟨j, List.mem_range.mpr hj, rfl⟩
  have h2 := maxI_le h1
  unfold fullM at hh
  omega
theorem full_nn {T : List (List Int)} {n m : Nat} (hG : Good T n m) : 0 ≤ fullM T m := by
  have b1 := hG.n1
  obtain ⟨u, hu, _⟩ := hG.toRect.lt (show 0 < n by omega)
  have hm := List.mem_of_getElem? hu
  have h1 := full_rows (Int.le_refl (fullM T m)) u hm
  have h2 := sum_nonneg (hG.pos u hm)
  omega
theorem filter_range {α : Type} (l : List α) (d : α) (g : α → Bool) : ((List.range l.length).filter fun i => g (l.getD i d)).map (fun i => l.getD i d) = l.filter g := by
  have e : (List.range l.length).map (fun i => l.getD i d) = l := by
    refine List.ext_getElem? fun i => ?_
    rw [List.getElem?_map]
    by_cases hi : i < l.length
    · rw [List.getElem?_range hi]
      simp [List.getD, hi]
    · rw [List.getElem?_eq_none (by simp; omega), List.getElem?_eq_none (by omega)]
      rfl
  conv => rhs; rw [← e]
  rw [List.filter_map]
  rfl
/-! ### parts change their place in the heap -/
theorem PartsAt.exR {H H1 : Hp} {a pl : Addr} {ts ls rl : List Addr} {parts : List (Prs × Int)} {U : List (List Int)} (h : PartsAt H a ts ls parts) (hT : Tab H pl rl U) (x : ExR rl H H1) (ha : a ∉ rl) (hl : ∀ l ∈ ls, l ∉ rl) : PartsAt H1 a ts ls parts := by
  refine ⟨x _ _ ha h.top, h.lt, h.ll, fun i t l pt h1 h2 h3 => ?_⟩
  obtain ⟨a1, qs, a2⟩ := h.tup i t l pt h1 h2 h3
  refine ⟨x _ _ (fun z => ?_) a1, qs, a2.exR hT x (hl l (List.mem_of_getElem? h2))⟩
  obtain ⟨xs, hx⟩ := hT.rowLst z
  rw [hx] at a1
  cases a1
theorem PartsAt.nil {H : Hp} {a : Addr} (h : H a = some (.lst [])) : PartsAt H a [] [] [] := ⟨h, rfl, rfl, fun i t l pt h => by simp at h⟩
theorem PartsAt.snoc {H : Hp} {a t l : Addr} {ts ls qs : List Addr} {parts : List (Prs × Int)} {prs : Prs} {h : Int} (hP : PartsAt H a ts ls parts) (ht : H t = some (.tup [.ref l, .int h])) (hl : PrsAt H l qs prs) (hla : l ≠ a) (hls : ∀ l ∈ ls, l ≠ a) :
    PartsAt (upd H a (.lst (ts.map V.ref ++ [.ref t]))) a (ts ++ [t]) (ls ++ [l]) (parts ++ [(prs, h)]) := by
  refine ⟨by rw [upd_same, List.map_append]; rfl, by rw [List.length_append, List.length_append, hP.lt]; rfl, by rw [List.length_append, List.length_append, hP.ll]; rfl, fun z tz lz ptz h1 h2 h3' => ?_⟩
  by_cases hz : z < parts.length
  · rw [List.getElem?_append_left (by rw [hP.lt]; exact hz)] at h1
    rw [List.getElem?_append_left (by rw [hP.ll]; exact hz)] at h2
    rw [List.getElem?_append_left hz] at h3'
    obtain ⟨a1, qz, a2⟩ := hP.tup z tz lz ptz h1 h2 h3'
    exact ⟨tup_keep a1 hP.top, qz, a2.keep hP.top (hls lz (List.mem_of_getElem? h2))⟩
  · have hz2 := (List.getElem?_eq_some_iff.mp h3').1
    rw [List.length_append, List.length_singleton] at hz2
    have ez : z = parts.length := by omega
    rw [ez, ← hP.lt, List.getElem?_append_right (Nat.le_refl _), Nat.sub_self] at h1
    rw [ez, ← hP.ll, List.getElem?_append_right (Nat.le_refl _), Nat.sub_self] at h2
    rw [ez, List.getElem?_append_right (Nat.le_refl _), Nat.sub_self] at h3'
    have e1 : t = tz := Option.some.inj h1
    have e2 : l = lz := Option.some.inj h2
    have e3 : (prs, h) = ptz := Option.some.inj h3'
    subst e1
    subst e2
    subst e3
    exact ⟨tup_keep ht hP.top, qs, hl.keep hP.top hla⟩
/-! ### pairs made -/
section
variable {K : PySem.W.Frag} {σ : L2.St} {H : Hp} {te tl : TE} {tt : TT} {l : Addr} {qs : List Addr} {prs : Prs} {L : List Nat} {j k : Nat} {vs : List Nat}
theorem enumL_at {L : List Nat} {i p : Nat} (h : L[i]? = some p) : (enumL L)[i]? = some ((i : Int), (p : Int)) := by
  unfold enumL
  have hi2 := (List.getElem?_eq_some_iff.mp h).1
  rw [List.getElem?_map, List.getElem?_range hi2]
  simp [List.getD, h]
theorem enumL_len (L : List Nat) : (enumL L).length = L.length := by unfold enumL; simp
/-- [(who, place) for who, place in enumerate(classes) if ..] -/
theorem evp_prsE (g : Int × Int → Bool) (h : Ev tl σ H (.ref l)) (hl : H l = some (.lst (L.map fun (x : Nat) => V.int (x : Int)))) (hz : L.length ≤ 40000) (hw : ∀ x y, wipe (((wipe σ vs).set j (some x)).set k (some y)) vs = wipe σ vs) (hj : ∀ x y, ((((wipe σ vs).set j (some x)).set k (some y)) : L2.St)[j]? = some (some x)) (hk : ∀ x y, ((((wipe σ vs).set j (some x)).set k (some y)) : L2.St)[k]? = some (some y))
    (ht : ∀ (t p : Nat) H1, Ex H H1 → L[t]? = some p → EvT tt (((wipe σ vs).set j (some (.int (t : Int)))).set k (some (.int (p : Int)))) H1 (g ((t : Int), (p : Int)))) :
    EvP (tLc (iEnum K (tCons tl tNil)) (gTup K 2 (gCons (gName j) (gCons (gName k) gNil))) tt (tTup (tCons (tVar j) (tCons (tVar k) tNil))) vs) σ H (NewPrs ((enumL L).filter g)) := by
  refine evp_lcE h (sq_of hl) down_prs fun H1 e1 Q q => ?_
  have hT := turns_enum (K := K) (j := j) (k := k) (σ0 := wipe σ vs) (sq_of (K := K) (e1 _ _ hl))
  rw [List.length_map] at hT
  have ga : ∀ i, i < L.length → (L.map fun (x : Nat) => V.int (x : Int))[i]? = some (.int ((L.getD i 0 : Nat) : Int)) := fun i hi => by simp [List.getD, hi]
  have gb : ∀ i, i < L.length → L[i]? = some (L.getD i 0) := fun i hi => by simp [List.getD, hi]
  refine lc_prs (fun i => g ((i : Int), ((L.getD i 0 : Nat) : Int))) (fun i => ((i : Int), ((L.getD i 0 : Nat) : Int))) hT (fun i hi => by rw [ga i hi]; exact hw _ _) hz (fun i H' hi e' => ?_) (fun i H' hi e' hf => ?_) (fun D H2 qs hD e2 hq => q _ H2 e2 ⟨D, qs, rfl, hD, ?_⟩)
  · show EvT tt (((wipe σ vs).set j (some (.int ((i : Nat) : Int)))).set k (L.map fun (x : Nat) => V.int (x : Int))[i]?) H' (g ((i : Int), ((L.getD i 0 : Nat) : Int)))
    rw [ga i hi]
    exact ht i _ H' (e1.trans e') (gb i hi)
  · dsimp only
    rw [ga i hi]
    exact eu_tup (ea_cons (ev_var (hj _ _)) (ea_cons (ev_var (hk _ _)) ea_nil)) (by show 2 ≤ 100000; decide)
  · have e : (enumL L).filter g = ((List.range L.length).filter fun (i : Nat) => g ((i : Int), ((L.getD i 0 : Nat) : Int))).map fun (i : Nat) => ((i : Int), ((L.getD i 0 : Nat) : Int)) := by
      unfold enumL
      rw [List.filter_map]
      rfl
    rw [e]
    exact hq
/-- [(who, place) for who, place in pairs if ..] -/
theorem evp_prsP (g : Int × Int → Bool) (h : Ev tl σ H (.ref l)) (hp : PrsAt H l qs prs) (hz : prs.length ≤ 40000) (hw : ∀ x y, wipe (((wipe σ vs).set j (some x)).set k (some y)) vs = wipe σ vs) (hj : ∀ x y, ((((wipe σ vs).set j (some x)).set k (some y)) : L2.St)[j]? = some (some x)) (hk : ∀ x y, ((((wipe σ vs).set j (some x)).set k (some y)) : L2.St)[k]? = some (some y))
    (ht : ∀ pr H1, Ex H H1 → pr ∈ prs → EvT tt (((wipe σ vs).set j (some (.int pr.1))).set k (some (.int pr.2))) H1 (g pr)) :
    EvP (tLc (iList K tl) (gTup K 2 (gCons (gName j) (gCons (gName k) gNil))) tt (tTup (tCons (tVar j) (tCons (tVar k) tNil))) vs) σ H (NewPrs (prs.filter g)) := by
  refine evp_lcL h (sq_of hp.top) down_prs fun H1 e1 Q q => ?_
  have hp1 := hp.mono e1
  have at_ : ∀ i, i < prs.length → ∃ pr, prs[i]? = some pr ∧ prs.getD i (0, 0) = pr := fun i hi => ⟨prs[i], by simp [hi], by simp [List.getD, hi]⟩
  have hlen : (qs.map V.ref).length = prs.length := by rw [List.length_map, hp.len]
  have hT := turns_pairs (K := K) (j := j) (k := k) (σ0 := wipe σ vs) (f := fun i => .int (prs.getD i (0, 0)).1) (g := fun i => .int (prs.getD i (0, 0)).2) (sq_of (K := K) hp1.top) fun i x hx => by
    obtain ⟨pr, h1, h2⟩ := at_ i (by rw [← hlen]; exact (List.getElem?_eq_some_iff.mp hx).1)
    obtain ⟨q, hq, hq2⟩ := hp1.at h1
    rw [List.getElem?_map, hq] at hx
    have e : V.ref q = x := Option.some.inj hx
    rw [h2]
    exact ⟨q, e.symm, st_of hq2⟩
  rw [hlen] at hT
  refine lc_prs (fun i => g (prs.getD i (0, 0))) (fun i => prs.getD i (0, 0)) hT (fun i hi => hw _ _) hz (fun i H' hi e' => ?_) (fun i H' hi e' hf => ?_) (fun D H2 qs hD e2 hq => q _ H2 e2 ⟨D, qs, rfl, hD, ?_⟩)
  · obtain ⟨pr, h1, h2⟩ := at_ i hi
    rw [h2]
    exact ht pr H' (e1.trans e') (List.mem_of_getElem? h1)
  · exact eu_tup (ea_cons (ev_var (hj _ _)) (ea_cons (ev_var (hk _ _)) ea_nil)) (by show 2 ≤ 100000; decide)
  · rw [filter_range] at hq
    exact hq
/-- [.. for who, place in enumerate(classes)], ints -/
theorem el_enumI (g : Int × Int → Int) (h : Ev tl σ H (.ref l)) (hl : H l = some (.lst (L.map fun (x : Nat) => V.int (x : Int)))) (hz : L.length ≤ 40000) (hw : ∀ x y, wipe (((wipe σ vs).set j (some x)).set k (some y)) vs = wipe σ vs)
    (he : ∀ (t p : Nat) H1, Ex H H1 → L[t]? = some p → Ev te (((wipe σ vs).set j (some (.int (t : Int)))).set k (some (.int (p : Int)))) H1 (.int (g ((t : Int), (p : Int))))) :
    EvL (tLc (iEnum K (tCons tl tNil)) (gTup K 2 (gCons (gName j) (gCons (gName k) gNil))) tYes te vs) σ H (((enumL L).map g).map V.int) := by
  have hg : ((enumL L).map g).map V.int = given (L.map fun (x : Nat) => V.int (x : Int)).length (fun _ => true) (fun i => .int (g ((i : Int), ((L.getD i 0 : Nat) : Int)))) := by
    refine (given_all (by rw [List.length_map, List.length_map, List.length_map, enumL_len]) fun i x hx => ?_).symm
    rw [List.map_map, List.getElem?_map] at hx
    cases hq : L[i]? with
    | none =>
      rw [List.getElem?_eq_none (by rw [enumL_len]; exact List.getElem?_eq_none_iff.mp hq)] at hx
      cases hx
    | some p =>
      rw [enumL_at hq] at hx
      have e : L.getD i 0 = p := by simp [List.getD, hq]
      rw [e]
      exact Option.some.inj hx
  rw [hg]
  refine el_lcE _ _ h (sq_of hl) (by rw [List.length_map]; exact hz) hw (fun i x H1 e1 hx => et_yes) (fun i x H1 e1 hx _ => ?_)
  rw [List.getElem?_map] at hx
  cases hq : L[i]? with
  | none => rw [hq] at hx; cases hx
  | some p =>
    rw [hq] at hx
    have ex : V.int (p : Int) = x := Option.some.inj hx
    subst ex
    have e : L.getD i 0 = p := by simp [List.getD, hq]
    rw [e]
    exact he i p H1 e1 hq
end
/-! ### how long a part lasts -/
def cellP (F : List (List Int)) (pr : Int × Int) : Int := cell F pr.1.toNat pr.2.toNat
theorem hours_ok {full mine : List (List Int)} {n m z : Nat} {L : List Nat} (hL : Choice full z z 1 L) (hz : 1 ≤ z) {h : Int} (hh : h = minI (minI ((enumL L).map (cellP full)) :: (prsOf L n m mine).map (cellP mine))) :
    1 ≤ h ∧ (∀ t p, L[t]? = some p → h ≤ cell full t p) ∧ (∀ t p : Nat, ((t : Int), (p : Int)) ∈ prsOf L n m mine → h ≤ cell mine t p) ∧ ((∃ t p, L[t]? = some p ∧ h = cell full t p) ∨ ∃ t p : Nat, ((t : Int), (p : Int)) ∈ prsOf L n m mine ∧ h = cell mine t p) := by
  have hc : ∀ (F : List (List Int)) (t p : Nat), cellP F ((t : Int), (p : Int)) = cell F t p := fun F t p => by
    unfold cellP
    simp
  have hne : (enumL L).map (cellP full) ≠ [] := fun e => by
    have : ((enumL L).map (cellP full)).length = 0 := by rw [e]; rfl
    rw [List.length_map, enumL_len, hL.len] at this
    omega
  have hne2 : (minI ((enumL L).map (cellP full)) :: (prsOf L n m mine).map (cellP mine)) ≠ [] := fun e => nomatch e
  have m1 := minI_mem hne2
  rw [← hh] at m1
  obtain ⟨pr, hpr, he⟩ := List.mem_map.mp (minI_mem hne)
  obtain ⟨t0, p0, h0, rfl⟩ := mem_enumL.mp hpr
  rw [hc] at he
  have l1 : h ≤ minI ((enumL L).map (cellP full)) := by
    rw [hh]
    exact minI_le List.mem_cons_self
  have l2 : ∀ t p, L[t]? = some p → h ≤ cell full t p := fun t p htp => by
    have : cell full t p ∈ (enumL L).map (cellP full) := List.mem_map.mpr ⟨_, mem_enumL.mpr ⟨t, p, htp, rfl⟩, hc _ _ _⟩
    have := minI_le this
    omega
  have l3 : ∀ t p : Nat, ((t : Int), (p : Int)) ∈ prsOf L n m mine → h ≤ cell mine t p := fun t p hm => by
    rw [hh]
    exact minI_le (List.mem_cons_of_mem _ (List.mem_map.mpr ⟨_, hm, hc _ _ _⟩))
  rcases List.mem_cons.mp m1 with e | e
  · rw [← he] at e
    refine ⟨?_, l2, l3, .inl ⟨t0, p0, h0, e⟩⟩
    have := (hL.adj t0 p0 h0).2.2
    omega
  · obtain ⟨pr, hpr2, he2⟩ := List.mem_map.mp e
    obtain ⟨t, p, htp, rfl, hx⟩ := mem_prsOf.mp hpr2
    rw [hc] at he2
    refine ⟨?_, l2, l3, .inr ⟨t, p, hpr2, he2.symm⟩⟩
    have := hx.2.2
    omega
theorem nnz_400 {T : List (List Int)} {n m : Nat} (hn : n ≤ 20) (hm : m ≤ 20) : nnz T n m ≤ 400 := by
  have h1 := nnz_le T n m
  have h2 : n * m ≤ 20 * 20 := Nat.mul_le_mul hn hm
  have h3 : (n : Int) * (m : Int) = ((n * m : Nat) : Int) := by rw [Int.natCast_mul]
  omega
/-- chosen, where none have too few -/
theorem evp_chosenR {K : PySem.W.Frag} {σ : L2.St} {H : Hp} {tr : TA} {a : Addr} {rs : List Addr} {T : List (List Int)} {n m : Nat} {v : Int} {E : XK} (hc : ∀ S, tooFewB T n m S v = false) (h : EvA tr σ H [.ref a, .int v]) (hT : Tab H a rs T) (hR : Rect T n m) (hn2 : n ≤ 1000) (hm2 : m ≤ 20) : EvP (tCall (sp_chosen K) [] E tr) σ H (fun H1 u H2 => ∃ L, Choice T n m v L ∧ NewChoice L H1 u H2) :=
  evp_call h (fun H1 H2 u H3 e ⟨L, hL, p, q, a, b, c⟩ => ⟨L, hL, p, q, a, fresh_back e b, c⟩) fun H1 e1 Q q => ⟨a, rs, T, n, m, v, rfl, hT.mono e1, hR, hn2, hm2, fun L hL u H2 e2 hu => q u H2 e2 ⟨L, hL, hu⟩, fun S hS => by
    rw [hc S] at hS
    cases hS⟩
theorem maxI_append {A B : List Int} (ha : A ≠ []) (hb : B ≠ []) : maxI (A ++ B) = max (maxI A) (maxI B) := by
  refine (maxI_is ?_ fun y hy => ?_).symm
  · by_cases h : maxI A ≤ maxI B
    · rw [Int.max_eq_right h]
      exact List.mem_append_right _ (maxI_mem hb)
    · rw [Int.max_eq_left (by omega)]
      exact List.mem_append_left _ (maxI_mem ha)
  · rcases List.mem_append.mp hy with hy | hy
    · have := maxI_le hy
      omega
    · have := maxI_le hy
      omega
theorem sums_max {T : List (List Int)} {n m : Nat} (hR : Rect T n m) (hn : 1 ≤ n) (hm : 1 ≤ m) : maxI (rowSums T ++ colSums T m) = fullM T m := by
  refine maxI_append (fun z => ?_) (fun z => ?_)
  · have := rowSums_len T
    rw [z, hR.len] at this
    simp at this
    omega
  · have := colSums_len T m
    rw [z] at this
    simp at this
    omega
theorem sums_ne {T : List (List Int)} {n m : Nat} (hR : Rect T n m) (hn : 1 ≤ n) : rowSums T ++ colSums T m ≠ [] := fun z => by
  have := rowSums_len T
  rw [(List.append_eq_nil_iff.mp z).1, hR.len] at this
  simp at this
  omega
/-! ### a tuple's length, a whole number -/
section
variable {K : PySem.W.Frag} {σ : L2.St} {H : Hp} {ta : TE}
theorem ev_lenT {p : Addr} {xs : List V} (ha : Ev ta σ H (.ref p)) (h : SqT K H p xs) : Ev (tCB (rLenS K) (tCons ta tNil)) σ H (.int (xs.length : Int)) := fun H1 e Q q =>
  ha H1 e _ fun H2 e2 => ⟨p, xs, rfl, Or.inr (ex_t (e.trans e2) h), q H2 e2⟩
theorem ev_whole {i : Int} {E : XK} (ha : Ev ta σ H (.int i)) : Ev (tCall (sp__law_whole K) [] E (tCons ta tNil)) σ H (.bl true) :=
  ev_callV (ea_cons ha ea_nil) fun H1 e Q k => ⟨.int i, "int", true, false, rfl, tx_int, by decide +kernel, by decide +kernel, k⟩
theorem ev_number {i : Int} {E : XK} (ha : Ev ta σ H (.int i)) : Ev (tCall (sp_is_number K) [] E (tCons ta tNil)) σ H (.bl true) :=
  ev_callV (ea_cons ha ea_nil) fun H1 e Q k => ⟨.int i, "int", true, false, rfl, tx_int, by decide +kernel, by decide +kernel, k⟩
end
theorem zero_row : ∀ u : List Int, decide (u = List.replicate u.length 0) = u.all fun x => decide (x = 0)
  | [] => rfl
  | x :: u => by
    have ih := zero_row u
    rw [List.length_cons, List.replicate_succ, List.all_cons, ← ih]
    have e : (x :: u = 0 :: List.replicate u.length 0) ↔ (x = 0 ∧ u = List.replicate u.length 0) := ⟨fun z => List.cons.inj z, fun z => by
      rw [z.1]
      exact congrArg (List.cons 0) z.2⟩
    rw [decide_eq_decide.mpr e, Bool.decide_and]
theorem ev_eqDL {K : PySem.W.Frag} {σ : L2.St} {H : Hp} {ta tb : TE} {x : V} {xs : List V} {d e : PyData} (ha : Ev ta σ H x) (hb : EvL tb σ H xs) (hd : ∀ H1, Ex H H1 → Dp K H1 x d) (he : ∀ p H1, Ex H H1 → H1 p = some (.lst xs) → Dp K H1 (.ref p) e) (sd : SeqAt.shaped d = true) (se : SeqAt.shaped e = true) : Ev (tOp (rEqD K) ta tb) σ H (.bl (PyData.eqv d e)) :=
  ev_opL ha hb fun p H1 hp e1 => rv_val fun H2 e2 Q q => ⟨d, e, hd H2 (e1.trans e2), he p H2 (e1.trans e2) (e2 _ _ hp), sd, se, q⟩
end Lh

namespace Lh
open PySem PySem.Spec PyProof.Rows L2 Evl
theorem good_set {T : List (List Int)} {n m i j : Nat} {u : List Int} {x : Int} (hG : Good T n m) (hu : T[i]? = some u) (hx : 0 ≤ x) : Good (T.set i (u.set j x)) n m := by
  refine ⟨hG.toRect.set (by rw [List.length_set]; exact hG.row u (List.mem_of_getElem? hu)), fun v hv y hy => ?_, hG.n1, hG.n20, hG.m1, hG.m20⟩
  rcases List.mem_or_eq_of_mem_set hv with h | h
  · exact hG.pos v h y hy
  · subst h
    rcases List.mem_or_eq_of_mem_set hy with h | h
    · exact hG.pos u (List.mem_of_getElem? hu) y h
    · rw [h]
      exact hx
section
variable {K : PySem.W.Frag} {σ : L2.St} {H : Hp} {ta : TE} {tr : TA} {E : XK}
theorem ev_methPL {P : Hp → V → Hp → Prop} {C : Addr} {mt : Str} {sp : Sp} {vs : List V} {z : V} (h : EvP ta σ H P) (hp : ∀ H1 v H2, P H1 v H2 → ∃ a dx fs, v = .ref a ∧ H2 a = some (.ins C dx fs) ∧ fs.lookup mt = none) (hr : EvA tr σ H vs)
    (hs : ∀ H1 v H2 H3, Ex H H1 → Ex H1 H2 → Ex H2 H3 → P H1 v H2 → ∀ Q : VK, Ret (IsV z) H3 Q → sp (v :: (vs ++ [])) H3 Q E) : Ev (tMeth C mt sp [] E ta tr) σ H z := fun H1 e Q q =>
  h H1 e _ fun v H2 e2 hv => by
    obtain ⟨a, dx, fs, rfl, ha, hl⟩ := hp H1 v H2 hv
    exact ⟨a, dx, fs, rfl, ha, hl, hr H2 (e.trans e2) _ fun H3 e3 => hs H1 _ H2 H3 e e2 e3 hv Q fun u H4 e4 hu => by
      rw [hu]
      exact q H4 ((e2.trans e3).trans e4)⟩
end
/-! ### parts: how many pairs, what is left -/
theorem ok_len {n m : Nat} {pt : Prs × Int} (h : okPart n m pt = true) : pt.1.length ≤ n := by
  unfold okPart at h
  simp only [Bool.and_eq_true, decide_eq_true_eq] at h
  have := phpN (l := (pt.1.map (·.1)).map Int.toNat) (m := List.range n) (nodup_map _ h.2.1.1 fun x hx y hy e => by
    have a := mem_range_of h.2.1.2 hx
    have b := mem_range_of h.2.1.2 hy
    omega) fun p hp => by
    obtain ⟨t, ht, rfl⟩ := List.mem_map.mp hp
    have a := mem_range_of h.2.1.2 ht
    exact List.mem_range.mpr (by omega)
  rw [List.length_map, List.length_map, List.length_range] at this
  exact this
theorem PlanOf.all {T : List (List Int)} {n m : Nat} {parts : List (Prs × Int)} (h : PlanOf T n m parts) : parts.all (okPart n m) = true ∧ total parts = fullM T m ∧ zeroT (subAll T parts) = true := by
  have := h.ok
  unfold planB at this
  simp only [Bool.and_eq_true, decide_eq_true_eq] at this
  exact this
theorem PlanOf.small {T : List (List Int)} {n m : Nat} {parts : List (Prs × Int)} (h : PlanOf T n m parts) (hn : n ≤ 20) : ∀ pt ∈ parts, pt.1.length ≤ 20 := fun pt hpt => by
  have := ok_len (List.all_eq_true.mp h.all.1 pt hpt)
  omega
def inPart (t p : Nat) (pt : Prs × Int) : Int := if ((t : Int), (p : Int)) ∈ pt.1 then pt.2 else 0
theorem cell_subAll {n m : Nat} : ∀ {parts : List (Prs × Int)} {T : List (List Int)}, Rect T n m → parts.all (okPart n m) = true → ∀ t p : Nat, cell (subAll T parts) t p = cell T t p - (parts.map (inPart t p)).sum
  | [], T, _, _, t, p => by
    show cell T t p = cell T t p - 0
    omega
  | pt :: parts, T, hR, h, t, p => by
    rw [List.all_cons, Bool.and_eq_true] at h
    have hin := ok_inR h.1
    have hnd : (pt.1.map (·.1)).Nodup := by
      have := h.1
      unfold okPart at this
      simp only [Bool.and_eq_true, decide_eq_true_eq] at this
      exact this.2.1.1
    have ih := cell_subAll (parts := parts) (subP_rect (h := pt.2) hR hin) h.2 t p
    show cell (subAll (subP T pt.1 pt.2) parts) t p = _
    rw [ih, cell_subP hR hin hnd, List.map_cons, List.sum_cons]
    unfold inPart
    omega
/-- all is taught just so long -/
theorem PlanOf.cells {T : List (List Int)} {n m : Nat} {parts : List (Prs × Int)} (h : PlanOf T n m parts) (hR : Rect T n m) {t p : Nat} (ht : t < n) (hp : p < m) : (parts.map (inPart t p)).sum = cell T t p := by
  obtain ⟨h1, _, h3⟩ := h.all
  have hc := cell_subAll hR h1 t p
  have hR2 := subAll_rect hR h1
  obtain ⟨u, x, hu, _, hx⟩ := hR2.cell ht hp
  have := List.all_eq_true.mp (List.all_eq_true.mp h3 u (List.mem_of_getElem? hu)) x (List.mem_of_getElem? hx)
  have := of_decide_eq_true this
  rw [cell_of hu hx] at hc
  omega
theorem ok_hours {n m : Nat} {pt : Prs × Int} (h : okPart n m pt = true) : 1 ≤ pt.2 := by
  unfold okPart at h
  simp only [Bool.and_eq_true, decide_eq_true_eq] at h
  exact h.1
theorem plan_more {T : List (List Int)} {n m : Nat} {parts : List (Prs × Int)} {h : Int} (ht : total parts = fullM T m) (hh : 1 ≤ h) (prs : Prs) : planB T n m (parts ++ [(prs, h)]) = false := by
  unfold planB
  rw [total_snoc, ht]
  have : decide (fullM T m + h = fullM T m) = false := decide_eq_false (by omega)
  rw [this]
  simp
/-! ### parts in the heap: a piece of them, one list longer -/
theorem PartsAt.drop {H : Hp} {a b : Addr} {ts ls : List Addr} {parts : List (Prs × Int)} (h : PartsAt H a ts ls parts) (k : Nat) (hb : H b = some (.lst ((ts.map V.ref).drop k))) : PartsAt H b (ts.drop k) (ls.drop k) (parts.drop k) :=
  ⟨by rw [hb, List.map_drop], by rw [List.length_drop, List.length_drop, h.lt], by rw [List.length_drop, List.length_drop, h.ll], fun i t l pt h1 h2 h3 => by
    rw [List.getElem?_drop] at h1 h2 h3
    exact h.tup _ t l pt h1 h2 h3⟩
theorem PartsAt.take {H : Hp} {a b : Addr} {ts ls : List Addr} {parts : List (Prs × Int)} (h : PartsAt H a ts ls parts) (k : Nat) (hb : H b = some (.lst ((ts.map V.ref).take k))) : PartsAt H b (ts.take k) (ls.take k) (parts.take k) :=
  ⟨by rw [hb, List.map_take], by rw [List.length_take, List.length_take, h.lt], by rw [List.length_take, List.length_take, h.ll], fun i t l pt h1 h2 h3 => by
    have hi : i < k := by
      have := (List.getElem?_eq_some_iff.mp h1).1
      rw [List.length_take] at this
      omega
    rw [List.getElem?_take_of_lt hi] at h1 h2 h3
    exact h.tup _ t l pt h1 h2 h3⟩
/-- another list changes -/
theorem PartsAt.keep {H : Hp} {a d : Addr} {ts ls : List Addr} {parts : List (Prs × Int)} {ys zs : List V} (h : PartsAt H a ts ls parts) (hd : H d = some (.lst ys)) (ha : a ≠ d) (hl : ∀ l ∈ ls, l ≠ d) : PartsAt (upd H d (.lst zs)) a ts ls parts :=
  ⟨by rw [upd_ne ha]; exact h.top, h.lt, h.ll, fun i t l pt h1 h2 h3 => by
    obtain ⟨a1, qs, a2⟩ := h.tup i t l pt h1 h2 h3
    exact ⟨tup_keep a1 hd, qs, a2.keep hd (hl l (List.mem_of_getElem? h2))⟩⟩
/-- the first part's list one pair longer -/
theorem PartsAt.head {H : Hp} {a t l q : Addr} {ts ls qs : List Addr} {pr : Int × Int} {prs : Prs} {h : Int} {parts : List (Prs × Int)} (hP : PartsAt H a (t :: ts) (l :: ls) ((prs, h) :: parts)) (hl : PrsAt H l qs prs) (hq : H q = some (.tup [.int pr.1, .int pr.2])) (hla : l ≠ a) (hnl : l ∉ ls) :
    PartsAt (upd H l (.lst (qs.map V.ref ++ [.ref q]))) a (t :: ts) (l :: ls) ((prs ++ [pr], h) :: parts) := by
  refine ⟨by rw [upd_ne (Ne.symm hla)]; exact hP.top, by have := hP.lt; simpa using this, by have := hP.ll; simpa using this, fun i t' l' pt' h1 h2 h3 => ?_⟩
  cases i with
  | zero =>
    have e1 : t = t' := Option.some.inj h1
    have e2 : l = l' := Option.some.inj h2
    have e3 : (prs ++ [pr], h) = pt' := Option.some.inj h3
    subst e1
    subst e2
    subst e3
    obtain ⟨a1, _⟩ := hP.tup 0 t l (prs, h) rfl rfl rfl
    exact ⟨tup_keep a1 hl.top, _, hl.snoc hq⟩
  | succ i =>
    have h1 : ts[i]? = some t' := by simpa using h1
    have h2 : ls[i]? = some l' := by simpa using h2
    have h3 : parts[i]? = some pt' := by simpa using h3
    obtain ⟨a1, qs', a2⟩ := hP.tup (i + 1) t' l' pt' (by simpa using h1) (by simpa using h2) (by simpa using h3)
    exact ⟨tup_keep a1 hl.top, qs', a2.keep hl.top fun z => hnl (z ▸ List.mem_of_getElem? h2)⟩
/-! ### lists of lists of pairs -/
structure PrssAt (H : Hp) (a : Addr) (ls : List Addr) (ps : List Prs) : Prop where
  top : H a = some (.lst (ls.map V.ref))
  len : ls.length = ps.length
  at_ : ∀ (i : Nat) l prs, ls[i]? = some l → ps[i]? = some prs → ∃ qs, PrsAt H l qs prs
theorem PrssAt.mono {H H' : Hp} {a : Addr} {ls : List Addr} {ps : List Prs} (h : PrssAt H a ls ps) (e : Ex H H') : PrssAt H' a ls ps := ⟨e _ _ h.top, h.len, fun i l prs h1 h2 => (h.at_ i l prs h1 h2).imp fun qs z => z.mono e⟩
theorem PrssAt.keep {H : Hp} {a d : Addr} {ls : List Addr} {ps : List Prs} {ys zs : List V} (h : PrssAt H a ls ps) (hd : H d = some (.lst ys)) (ha : a ≠ d) (hl : ∀ l ∈ ls, l ≠ d) : PrssAt (upd H d (.lst zs)) a ls ps :=
  ⟨by rw [upd_ne ha]; exact h.top, h.len, fun i l prs h1 h2 => (h.at_ i l prs h1 h2).imp fun qs z => z.keep hd (hl l (List.mem_of_getElem? h1))⟩
theorem PrssAt.dp {K : PySem.W.Frag} {H : Hp} {a : Addr} {ls : List Addr} {ps : List Prs} (h : PrssAt H a ls ps) : Dp K H (.ref a) (.list (ps.map prsD)) := .lst (sq_of h.top) (dpa_of (by rw [List.length_map, List.length_map, h.len]) fun i v d hv hd => by
  rw [List.getElem?_map] at hv hd
  cases hq : ls[i]? with
  | none => rw [hq] at hv; cases hv
  | some q =>
    cases hp : ps[i]? with
    | none => rw [hp] at hd; cases hd
    | some pr =>
      rw [hq] at hv
      rw [hp] at hd
      have e1 : V.ref q = v := Option.some.inj hv
      have e2 : prsD pr = d := Option.some.inj hd
      subst e1
      subst e2
      obtain ⟨qs, hqs⟩ := h.at_ i q pr hq hp
      exact hqs.dp)
section
variable {K : PySem.W.Frag} {σ : L2.St} {H : Hp} {te tl : TE} {t : TT} {tu tz : TS} {D : Ends} {a l : Addr} {ts ls : List Addr} {parts : List (Prs × Int)} {j k : Nat} {vs : List Nat} {xs : List V}
theorem parts_turns (hp : PartsAt H a ts ls parts) : ∀ i x, (ts.map V.ref)[i]? = some x → ∃ T, x = .ref T ∧ SqT K H T [.ref (ls.getD i 0), .int (parts.getD i ([], 0)).2] := fun i x hx => by
  have hi : i < parts.length := by
    have := (List.getElem?_eq_some_iff.mp hx).1
    rw [List.length_map, hp.lt] at this
    exact this
  obtain ⟨t, l, ht, hl, htup, _⟩ := hp.at (List.getElem?_eq_getElem hi)
  rw [List.getElem?_map, ht] at hx
  have e1 : ls.getD i 0 = l := by simp [List.getD, hl]
  have e2 : parts.getD i ([], 0) = parts[i] := by simp [List.getD, hi]
  rw [e1, e2]
  exact ⟨t, (Option.some.inj hx).symm, st_of htup⟩
/-- [list(pairs) for pairs, hours in e] -/
abbrev NewPrss (ps : List Prs) : Hp → V → Hp → Prop := fun H1 v H2 => ∃ (p : Addr) (ls : List Addr), v = .ref p ∧ H1 p = none ∧ (∀ l ∈ ls, H1 l = none) ∧ PrssAt H2 p ls ps
theorem down_prss {ps : List Prs} : Down (NewPrss ps) := fun _ _ _ _ e ⟨p, ls, a, b, c, d⟩ => ⟨p, ls, a, fresh_back e b, fun l hl => fresh_back e (c l hl), d⟩
theorem lc_prss {H1 : Hp} {Q : VK} (hp : PartsAt H1 a ts ls parts) (hn : parts.length ≤ 2000) (hw : ∀ x y, wipe (((wipe σ vs).set j (some x)).set k (some y)) vs = wipe σ vs) (hj : ∀ x y, ((((wipe σ vs).set j (some x)).set k (some y)) : L2.St)[j]? = some (some x))
    (q : ∀ v H2, Ex H1 H2 → NewPrss (parts.map (·.1)) H1 v H2 → Q v H2) : LcGo (Itl K a) (gTup K 2 (gCons (gName j) (gCons (gName k) gNil))) tYes (tCB (rListS K) (tCons (tVar j) tNil)) vs σ H1 Q := by
  have hT := turns_pairs (K := K) (j := j) (k := k) (σ0 := wipe σ vs) (f := fun i => .ref (ls.getD i 0)) (g := fun i => .int (parts.getD i ([], 0)).2) (sq_of (K := K) hp.top) (parts_turns hp)
  have hlen : (ts.map V.ref).length = parts.length := by rw [List.length_map, hp.lt]
  rw [hlen] at hT
  refine lc_objs (fun D i u H => ∃ p qs, u = .ref p ∧ p ≠ D ∧ (∀ z ∈ qs, z ≠ D) ∧ PrsAt H p qs (parts.getD i ([], 0)).1) (fun D i u H H' h ⟨p, qs, a1, a2, a3, a4⟩ => ⟨p, qs, a1, a2, a3, h _ _ a2 a4.top, a4.len, fun i q pr b c => h _ _ (a3 q (List.mem_of_getElem? b)) (a4.tup i q pr b c)⟩) hT (fun i hi => hw _ _) (by omega) (fun i H' hi e' => et_yes) (fun D i H' acc hi hD e' hacc => ?_) (fun D H2 ps a1 a2 a3 a4 a5 a6 a7 => q _ H2 a2 ⟨D, ps, rfl, a1, fun l hl => (a5 l hl).1, a6, by rw [a3, List.length_map], fun i l prs h1 h2 => ?_⟩)
  · obtain ⟨t, l, ht, hl, htup, qs, hqs⟩ := hp.at (List.getElem?_eq_getElem hi)
    have e1 : ls.getD i 0 = l := by simp [List.getD, hl]
    have e2 : parts.getD i ([], 0) = parts[i] := by simp [List.getD, hi]
    refine (evp_l (el_list (ev_var (hj _ _)) (by rw [e1]; exact sq_of (e' _ _ hqs.top)))).imp fun H2 v H3 x2 x3 ⟨p, hv, np, h3⟩ => ⟨p, hv, np, ⟨_, h3⟩, p, qs, hv, fun z => ?_, fun z hz zD => ?_, h3, ?_, fun i q pr b c => ?_⟩
    · rw [z, x2 _ _ hacc] at np
      cases np
    · obtain ⟨y, hy⟩ := List.getElem?_of_mem hz
      have hy2 := (List.getElem?_eq_some_iff.mp hy).1
      rw [hqs.len] at hy2
      have := hqs.tup y z _ hy (List.getElem?_eq_getElem hy2)
      rw [zD, hD] at this
      cases this
    · rw [e2]
      exact hqs.len
    · rw [e2] at c
      exact x3 _ _ (x2 _ _ (e' _ _ (hqs.tup i q pr b c)))
  · obtain ⟨p, qs, b1, b2, b3, b4⟩ := a7 i l h1
    cases b1
    rw [List.getElem?_map] at h2
    cases hq : parts[i]? with
    | none => rw [hq] at h2; cases h2
    | some pt =>
      rw [hq] at h2
      have e : pt.1 = prs := Option.some.inj h2
      have e2 : parts.getD i ([], 0) = pt := by simp [List.getD, hq]
      rw [e2, e] at b4
      exact ⟨qs, b4⟩
/-- [pairs for pairs, hours in e] -/
theorem lc_lists {H1 : Hp} {Q : VK} (hp : PartsAt H1 a ts ls parts) (hn : parts.length ≤ 2000) (hw : ∀ x y, wipe (((wipe σ vs).set j (some x)).set k (some y)) vs = wipe σ vs) (hj : ∀ x y, ((((wipe σ vs).set j (some x)).set k (some y)) : L2.St)[j]? = some (some x))
    (q : ∀ p H2, Ex H1 H2 → H1 p = none → PrssAt H2 p ls (parts.map (·.1)) → Q (.ref p) H2) : LcGo (Itl K a) (gTup K 2 (gCons (gName j) (gCons (gName k) gNil))) tYes (tVar j) vs σ H1 Q := by
  have hT := turns_pairs (K := K) (j := j) (k := k) (σ0 := wipe σ vs) (f := fun i => .ref (ls.getD i 0)) (g := fun i => .int (parts.getD i ([], 0)).2) (sq_of (K := K) hp.top) (parts_turns hp)
  have hlen : (ts.map V.ref).length = parts.length := by rw [List.length_map, hp.lt]
  rw [hlen] at hT
  refine lc_vals (fun _ => true) (fun i => .ref (ls.getD i 0)) hT (fun i hi => hw _ _) (by omega) (fun i H' hi e' => et_yes) (fun i H' hi e' _ => ev_var (hj _ _)) (fun D H2 hD e2 h2 => q D H2 e2 hD ⟨?_, by rw [hp.ll, List.length_map], fun i l prs h1 h2 => ?_⟩)
  · rw [h2]
    congr 2
    refine given_all (by rw [List.length_map, hp.ll]) fun i x hx => ?_
    rw [List.getElem?_map] at hx
    cases hl : ls[i]? with
    | none => rw [hl] at hx; cases hx
    | some l =>
      rw [hl] at hx
      have e1 : ls.getD i 0 = l := by simp [List.getD, hl]
      rw [e1]
      exact Option.some.inj hx
  · rw [List.getElem?_map] at h2
    cases hq : parts[i]? with
    | none => rw [hq] at h2; cases h2
    | some pt =>
      rw [hq] at h2
      have e : pt.1 = prs := Option.some.inj h2
      obtain ⟨t, l', ht, hl, htup, qs, hqs⟩ := (hp.mono e2).at hq
      have : l' = l := Option.some.inj (hl.symm.trans h1)
      rw [← this, ← e]
      exact ⟨qs, hqs⟩
/-- for x, y in e: a new list of pairs -/
theorem s_forPrN (f g : Nat → V) (h : EvL tl σ H xs) (Pv : Addr → Nat → L2.St → Hp → Prop) (h0 : ∀ p H1, H p = none → Ex H H1 → H1 p = some (.lst xs) → Pv p 0 σ H1) (hl : ∀ p i σ' H', i ≤ xs.length → Pv p i σ' H' → SqL K H' p xs) (hp : ∀ p (i : Nat) σ' H' x, Pv p i σ' H' → xs[i]? = some x → ∃ T, x = .ref T ∧ SqT K H' T [f i, g i])
    (hs : ∀ p (i : Nat) σ' H', i < xs.length → Pv p i σ' H' → tu { D with nx := Pv p (i + 1), ct := Pv p (i + 1), bk := D.nx } ((σ'.set j (some (f i))).set k (some (g i))) H') (hd : ∀ p σ' H', Pv p xs.length σ' H' → D.nx σ' H') :
    tFor (iList K tl) (gTup K 2 (gCons (gName j) (gCons (gName k) gNil))) tu D σ H := h H (Ex.refl H) _ fun p H1 np e h1 => ⟨p, rfl, ⟨xs, sq_of h1⟩, goPr (Pv p) f g (h0 p H1 np e h1) (hl p) (hp p) (hs p) (hd p)⟩
theorem q_forPrN (f g : Nat → V) (h : EvL tl σ H xs) (Pv : Addr → Nat → L2.St → Hp → Prop) (h0 : ∀ p H1, H p = none → Ex H H1 → H1 p = some (.lst xs) → Pv p 0 σ H1) (hl : ∀ p i σ' H', i ≤ xs.length → Pv p i σ' H' → SqL K H' p xs) (hp : ∀ p (i : Nat) σ' H' x, Pv p i σ' H' → xs[i]? = some x → ∃ T, x = .ref T ∧ SqT K H' T [f i, g i])
    (hs : ∀ p (i : Nat) σ' H', i < xs.length → Pv p i σ' H' → tu { D with nx := Pv p (i + 1), ct := Pv p (i + 1), bk := tz D } ((σ'.set j (some (f i))).set k (some (g i))) H') (hd : ∀ p σ' H', Pv p xs.length σ' H' → tz D σ' H') :
    tSeq (tFor (iList K tl) (gTup K 2 (gCons (gName j) (gCons (gName k) gNil))) tu) tz D σ H := s_forPrN (D := { D with nx := tz D }) f g h Pv h0 hl hp hs hd
end
theorem cut_take {α : Type} (xs : List V) (k : Nat) : cutV xs none (some (k : Int)) = xs.take k := by
  unfold cutV
  rw [HT.sIx_none, HT.sIx_nat, List.drop_zero, Nat.sub_zero]
  by_cases h : k ≤ xs.length
  · rw [Nat.min_eq_left h]
  · rw [Nat.min_eq_right (by omega), List.take_of_length_le (Nat.le_refl _), List.take_of_length_le (by omega)]
theorem cut_takeV (xs : List V) (k : Nat) : cutV xs none (some (k : Int)) = xs.take k := cut_take (α := V) xs k
/-! ### what plan hands back -/
abbrev PlanFound (CP : Addr) (T : List (List Int)) (n m : Nat) : Hp → V → Hp → Prop := fun H1 v H2 => ∃ parts, PlanOf T n m parts ∧ NewPlan CP parts H1 v H2
theorem down_pf {CP : Addr} {T : List (List Int)} {n m : Nat} : Down (PlanFound CP T n m) := fun H1 H2 v H3 e ⟨parts, a, b⟩ => ⟨parts, a, down_plan _ _ _ _ e b⟩
theorem plan_gives {K : PySem.W.Frag} {H : Hp} {CP a : Addr} {rs : List Addr} {T : List (List Int)} {n m : Nat} {E : XK} (hT : Tab H a rs T) (hG : Good T n m) {Q : VK} (q : Ret (PlanFound CP T n m) H Q) : sp_plan K CP [.ref a] H Q E := ⟨a, rs, T, n, m, rfl, hT, hG, fun parts hp v H2 e2 hv => q v H2 e2 ⟨parts, hp, hv⟩⟩
theorem evp_plan {K : PySem.W.Frag} {σ : L2.St} {H : Hp} {CP a : Addr} {ta : TE} {rs : List Addr} {T : List (List Int)} {n m : Nat} {E : XK} (ho : Ev ta σ H (.ref a)) (hT : Tab H a rs T) (hG : Good T n m) : EvP (tCall (sp_plan K CP) [] E (tCons ta tNil)) σ H (PlanFound CP T n m) :=
  evp_call (ea_cons ho ea_nil) down_pf fun H1 e1 Q q => plan_gives (hT.mono e1) hG q
theorem PlanOf.isPlan {CP : Addr} {T : List (List Int)} {n m : Nat} {parts : List (Prs × Int)} {H : Hp} {x dx a : Addr} {ts ls : List Addr} (h : PlanOf T n m parts) (hn : n ≤ 20) (hP : PartsAt H a ts ls parts) (hx : H x = some (.ins CP dx [("parts", .ref a)])) : IsPlan CP H x a ts ls parts := ⟨by have := h.len; omega, fun pt hpt => by have := h.small hn pt hpt; omega, hP, dx, hx⟩
section
variable {K : PySem.W.Frag} {mg : Str → Option Value} {σ : L2.St} {H : Hp} {ta : TE} {tr : TA} {CA CP CE CS CL x a b : Addr} {ts ls rs : List Addr} {parts : List (Prs × Int)} {T : List (List Int)} {n m : Nat} {E : XK}
theorem ev_showsP (ho : Ev ta σ H (.ref x)) (hf : IsPlan CP H x a ts ls parts) (hr : EvA tr σ H [.ref b]) (hT : Tab H b rs T) (hR : Rect T n m) (hn : 1 ≤ n) (hn2 : n ≤ 1000) (hm : 1 ≤ m) (hm2 : m ≤ 1000) : Ev (tMeth CP "shows" (sp_Plan_shows K CP) [] E ta tr) σ H (.bl (planB T n m parts)) := by
  obtain ⟨dx, hx⟩ := hf.2.2.2
  exact ev_methV ho hx rfl hr fun H1 e1 Q q => ⟨x, b, a, ts, ls, rs, parts, T, n, m, rfl, hf.mono e1, hT.mono e1, hR, hn, hn2, hm, hm2, q⟩
theorem isi_plan {D : Addr} {bL : Bool} (ho : Ev ta σ H (.ref x)) (hf : IsPlan CP H x a ts ls parts) (cp : CsP K mg CA CP CE CS CL) (hL : PySem.W.kitOne K (.ref CP) (.ref D) = some bL) : Ev (tCB (rIsi K) (tCons ta (tCons (tC (.ref D)) tNil))) σ H (.bl bL) := by
  obtain ⟨dx, hx⟩ := hf.2.2.2
  exact isi_own ho hx cp.P cp.k0 hL
theorem ev_parts (ho : Ev ta σ H (.ref x)) (hf : IsPlan CP H x a ts ls parts) (cp : CsP K mg CA CP CE CS CL) : Ev (tFld K ta "parts") σ H (.ref a) := by
  obtain ⟨dx, hx⟩ := hf.2.2.2
  exact ev_fld ho hx cp.P.cl cp.np rfl
/-- plan(table).shows(table) -/
theorem ev_planShows {c : Addr} {ra : List Addr} (ho : Ev ta σ H (.ref c)) (hTa : Tab H c ra T) (hG : Good T n m) (hr : EvA tr σ H [.ref b]) (hT : Tab H b rs T) : Ev (tMeth CP "shows" (sp_Plan_shows K CP) [] E (tCall (sp_plan K CP) [] E0 (tCons ta tNil)) tr) σ H (.bl true) := by
  have b1 := hG.n1
  have b2 := hG.n20
  have b3 := hG.m1
  have b4 := hG.m20
  refine ev_methPL (evp_plan ho hTa hG) (fun H1 v H2 ⟨parts, hp, x, dx, a, ts, ls, hv, _, _, _, _, _, _, hx⟩ => ⟨x, dx, _, hv, hx, rfl⟩) hr fun H1 v H2 H3 e1 e2 e3 ⟨parts, hp, x, dx, a, ts, ls, hv, _, _, _, _, _, hP, hx⟩ Q q => ?_
  subst hv
  refine ⟨x, b, a, ts, ls, rs, parts, T, n, m, rfl, (hp.isPlan b2 hP hx).mono e3, hT.mono ((e1.trans e2).trans e3), hG.toRect, b1, by omega, b3, by omega, ?_⟩
  rw [hp.ok]
  exact q
end
/-! ### the last item, what a call hands back, an if that may change slots -/
theorem atI_end {α : Type} {xs : List α} {v : α} (h : xs[xs.length - 1]? = some v) : atI xs (-1) = some v := by
  have hl : xs.length - 1 < xs.length := (List.getElem?_eq_some_iff.mp h).1
  obtain ⟨ys, y, rfl⟩ : ∃ ys y, xs = ys ++ [y] := ⟨xs.dropLast, xs.getLast (fun z => by rw [z] at hl; simp at hl), (List.dropLast_concat_getLast _).symm⟩
  have : y = v := by
    rw [List.length_append, List.length_singleton, Nat.add_sub_cancel, List.getElem?_append_right (Nat.le_refl _), Nat.sub_self] at h
    exact Option.some.inj h
  rw [← this]
  exact atI_last ys y
section
variable {K : PySem.W.Frag} {σ : L2.St} {H : Hp} {ta tb : TE} {P P' : Hp → V → Hp → Prop} {t : TT} {tu tz : TS} {D : Ends}
theorem evp_ixPL {i : Int} (ha : EvP ta σ H P) (hb : ∀ H1, Ex H H1 → Ev tb σ H1 (.int i)) (hp : ∀ H1 u H2, P H1 u H2 → ∃ p xs v, u = .ref p ∧ SqL K H2 p xs ∧ atI xs i = some v ∧ P' H1 v H2) (hup : ∀ H1 v H2 H3, Ex H2 H3 → P' H1 v H2 → P' H1 v H3) : EvP (tOp (rIxL K) ta tb) σ H P' := fun H1 e Q q =>
  ha H1 e _ fun u H2 e2 hu => by
    obtain ⟨p, xs, v, rfl, hs, hv, hp'⟩ := hp H1 u H2 hu
    exact hb H2 (e.trans e2) H2 (Ex.refl _) _ fun H3 e3 => ⟨p, xs, i, v, rfl, rfl, ex_l e3 hs, hv, q v H3 (e2.trans e3) (hup _ _ _ _ e3 hp')⟩
theorem evp_ixPT2 {i : Int} (ha : EvP ta σ H P) (hb : ∀ H1, Ex H H1 → Ev tb σ H1 (.int i)) (hp : ∀ H1 u H2, P H1 u H2 → ∃ p xs v, u = .ref p ∧ SqT K H2 p xs ∧ atI xs i = some v ∧ P' H1 v H2) (hup : ∀ H1 v H2 H3, Ex H2 H3 → P' H1 v H2 → P' H1 v H3) : EvP (tOp (rIxT K) ta tb) σ H P' := fun H1 e Q q =>
  ha H1 e _ fun u H2 e2 hu => by
    obtain ⟨p, xs, v, rfl, hs, hv, hp'⟩ := hp H1 u H2 hu
    exact hb H2 (e.trans e2) H2 (Ex.refl _) _ fun H3 e3 => ⟨p, xs, i, v, rfl, rfl, ex_t e3 hs, hv, q v H3 (e2.trans e3) (hup _ _ _ _ e3 hp')⟩
theorem ev_lenP {n : Int} (ha : EvP ta σ H P) (hp : ∀ H1 u H2, P H1 u H2 → ∃ p xs, u = .ref p ∧ SqL K H2 p xs ∧ (xs.length : Int) = n) : Ev (tCB (rLenS K) (tCons ta tNil)) σ H (.int n) := fun H1 e Q q =>
  ha H1 e _ fun u H2 e2 hu => by
    obtain ⟨p, xs, rfl, hs, hn⟩ := hp H1 u H2 hu
    subst hn
    exact ⟨p, xs, rfl, Or.inl hs, q H2 e2⟩
theorem q_whenR {b : Bool} (S : L2.St → Hp → Prop) (h : EvT t σ H b) (k : ∀ σ' H', S σ' H' → tz D σ' H') (h1 : b = true → ∀ H1, Ex H H1 → ∀ N : L2.St → Hp → Prop, (∀ σ' H', S σ' H' → N σ' H') → tu { D with nx := N } σ H1) (h0 : b = false → ∀ H1, Ex H H1 → S σ H1) : tSeq (tIfS t tu tNext) tz D σ H :=
  q_when h (fun hb H1 e1 => h1 hb H1 e1 (tz D) k) (fun hb H1 e1 => k _ _ (h0 hb H1 e1))
end
/-! ### plans of small tables -/
theorem inPart_le {n m : Nat} {pt : Prs × Int} (h : okPart n m pt = true) (t p : Nat) : inPart t p pt ≤ pt.2 := by
  have := ok_hours h
  unfold inPart
  split <;> omega
theorem inPart_nn {n m : Nat} {pt : Prs × Int} (h : okPart n m pt = true) (t p : Nat) : 0 ≤ inPart t p pt := by
  have := ok_hours h
  unfold inPart
  split <;> omega
theorem sum_inPart_le {n m : Nat} (t p : Nat) : ∀ {parts : List (Prs × Int)}, parts.all (okPart n m) = true → (parts.map (inPart t p)).sum ≤ total parts
  | [], _ => Int.le_refl _
  | pt :: parts, h => by
    rw [List.all_cons, Bool.and_eq_true] at h
    have := inPart_le h.1 t p
    have := sum_inPart_le t p h.2
    unfold total at this ⊢
    rw [List.map_cons, List.map_cons, List.sum_cons, List.sum_cons]
    omega
theorem total_ge {n m : Nat} : ∀ {parts : List (Prs × Int)}, parts.all (okPart n m) = true → (parts.length : Int) ≤ total parts
  | [], _ => by decide
  | pt :: parts, h => by
    rw [List.all_cons, Bool.and_eq_true] at h
    have := ok_hours h.1
    have := total_ge h.2
    unfold total at this ⊢
    rw [List.map_cons, List.sum_cons, List.length_cons]
    omega
theorem plan_none {T : List (List Int)} {n m : Nat} {parts : List (Prs × Int)} (h : PlanOf T n m parts) (h0 : fullM T m = 0) : parts = [] := by
  have h1 := total_ge h.all.1
  rw [h.all.2.1, h0] at h1
  exact List.length_eq_zero_iff.mp (by omega)
/-- one number: one pair in each part -/
theorem plan_one {x : Int} {parts : List (Prs × Int)} (h : PlanOf [[x]] 1 1 parts) : ∀ pt ∈ parts, pt.1 = [(0, 0)] := by
  have hR : Rect [[x]] 1 1 := ⟨rfl, fun u hu => by
    have : u = [x] := by simpa using hu
    rw [this]
    rfl⟩
  obtain ⟨h1, h2, _⟩ := h.all
  have hc := h.cells hR (t := 0) (p := 0) (by decide) (by decide)
  have hx : fullM [[x]] 1 = x := by
    unfold fullM rowSums colSums colAt
    simp [maxI, List.range, List.range.loop]
  have hc2 : cell [[x]] 0 0 = x := rfl
  rw [hx] at h2
  rw [hc2, ← h2] at hc
  clear h2 hx hc2 h
  have key : ∀ {parts : List (Prs × Int)}, parts.all (okPart 1 1) = true → (parts.map (inPart 0 0)).sum = total parts → ∀ pt ∈ parts, pt.1 = [(0, 0)] := by
    intro parts
    induction parts with
    | nil => intro _ _ pt hpt; cases hpt
    | cons pt parts ih =>
      intro ha hs q hq
      have ha0 := ha
      rw [List.all_cons, Bool.and_eq_true] at ha
      have l1 := inPart_le ha.1 0 0
      have l2 := sum_inPart_le 0 0 ha.2
      have l3 := ok_hours ha.1
      unfold total at hs l2
      rw [List.map_cons, List.map_cons, List.sum_cons, List.sum_cons] at hs
      rcases List.mem_cons.mp hq with e | e
      · subst e
        have l4 : inPart 0 0 q = q.2 := by omega
        have hlen := ok_len ha.1
        have hin := ok_inR ha.1
        match hq1 : q.1, hlen with
        | [], _ =>
          unfold inPart at l4
          rw [hq1] at l4
          simp at l4
          omega
        | [pr], _ =>
          have := hin pr (by rw [hq1]; exact List.mem_cons_self)
          have e1 : pr.1 = 0 := by omega
          have e2 : pr.2 = 0 := by omega
          rw [← e1]
          have : pr = (pr.1, pr.2) := rfl
          rw [this, e2]
          simp [e1]
      · exact ih ha.2 (by unfold total; omega) q e
  exact key h1 hc
theorem plan_two {parts : List (Prs × Int)} (h : PlanOf [[1, 1]] 1 2 parts) : parts.length = 2 := by
  have hR : Rect [[1, 1]] 1 2 := ⟨rfl, fun u hu => by
    have : u = [1, 1] := by simpa using hu
    rw [this]
    rfl⟩
  obtain ⟨h1, h2, _⟩ := h.all
  have hc := h.cells hR (t := 0) (p := 0) (by decide) (by decide)
  have hx : fullM [[1, 1]] 2 = 2 := by decide
  have hc2 : cell [[1, 1]] 0 0 = 1 := rfl
  rw [hx] at h2
  rw [hc2] at hc
  have l := total_ge h1
  match parts, l, h2, hc with
  | [], _, h2, _ =>
    have : total [] = 0 := rfl
    omega
  | [pt], _, h2, hc =>
    have h2 : pt.2 + 0 = 2 := h2
    have hc : inPart 0 0 pt + 0 = 1 := hc
    unfold inPart at hc
    split at hc <;> omega
  | [_, _], _, _, _ => rfl
  | _ :: _ :: _ :: r, l, h2, _ =>
    rw [h2] at l
    simp only [List.length_cons] at l
    omega
end Lh

namespace Lh
open PySem PySem.Spec PyProof.Rows L2 Evl
theorem getD_hours (parts : List (Prs × Int)) (i : Nat) : (parts.getD i ([], 0)).2 = (parts.map (·.2)).getD i 0 := by
  simp only [List.getD, List.getElem?_map]
  cases parts[i]? <;> rfl
abbrev NewPart (xs : List V) (h : Int) : Hp → V → Hp → Prop := fun H1 v H2 => ∃ t l, v = .ref t ∧ H1 l = none ∧ H1 t = none ∧ H2 t = some (.tup [.ref l, .int h]) ∧ H2 l = some (.lst xs)
theorem down_part {xs : List V} {h : Int} : Down (NewPart xs h) := fun _ _ _ _ e ⟨t, l, a, b, c, d⟩ => ⟨t, l, a, fresh_back e b, fresh_back e c, d⟩
theorem evp_part {σ : L2.St} {H : Hp} {te tb : TE} {xs : List V} {h : Int} (ha : EvL te σ H xs) (hb : ∀ H1, Ex H H1 → Ev tb σ H1 (.int h)) : EvP (tTup (tCons te (tCons tb tNil))) σ H (NewPart xs h) := fun H1 e Q q =>
  ha H1 e _ fun l H2 nl e2 h2 => hb H2 (e.trans e2) H2 (Ex.refl _) _ fun H3 e3 => ⟨sz_of (by show 2 ≤ 100000; decide), fun t nt => q _ _ ((e2.trans e3).trans (Ex.new nt)) ⟨t, l, rfl, nl, fresh_back (e2.trans e3) nt, upd_same, Ex.new nt _ _ (e3 _ _ h2)⟩⟩
/-! ### parts of any make: their lists are none of N -/
def IsPart (N : List Addr) (H : Hp) (v : V) : Prop := ∃ (t l : Addr) (qs : List Addr) (prs : Prs) (h : Int), v = .ref t ∧ H t = some (.tup [.ref l, .int h]) ∧ PrsAt H l qs prs ∧ prs.length ≤ 500 ∧ l ∉ N
def IsPartsX (N : List Addr) (k : Nat) (H : Hp) (v : V) : Prop := ∃ (a : Addr) (xs : List V), v = .ref a ∧ H a = some (.lst xs) ∧ a ∉ N ∧ xs.length ≤ k ∧ ∀ u ∈ xs, IsPart N H u
abbrev PX (N : List Addr) (k : Nat) : Hp → V → Hp → Prop := fun _ v H2 => IsPartsX N k H2 v
def Held (H : Hp) (N : List Addr) : Prop := ∀ d ∈ N, ∃ o, H d = some o
theorem Held.mono {H H' : Hp} {N : List Addr} (h : Held H N) (e : Ex H H') : Held H' N := fun d hd => (h d hd).imp fun o z => e _ _ z
theorem Held.nil {H : Hp} : Held H [] := fun d hd => nomatch hd
theorem Held.new {H : Hp} {N : List Addr} {p : Addr} (h : Held H N) (np : H p = none) : p ∉ N := fun z => by
  obtain ⟨o, ho⟩ := h p z
  rw [np] at ho
  cases ho
section
variable {N N' : List Addr} {H H' : Hp} {v : V} {d : Addr} {k k' : Nat}
theorem IsPart.mono (h : IsPart N H v) (e : Ex H H') : IsPart N H' v := by
  obtain ⟨t, l, qs, prs, hh, a, b, c, z⟩ := h
  exact ⟨t, l, qs, prs, hh, a, e _ _ b, c.mono e, z⟩
theorem IsPart.keep {ys zs : List V} (h : IsPart N H v) (hd : d ∈ N) (hl : H d = some (.lst ys)) : IsPart N (upd H d (.lst zs)) v := by
  obtain ⟨t, l, qs, prs, hh, a, b, c, z, y⟩ := h
  exact ⟨t, l, qs, prs, hh, a, tup_keep b hl, c.keep hl (fun e => y (by rw [e]; exact hd)), z, y⟩
theorem IsPart.less (h : IsPart N H v) (hs : ∀ d ∈ N', d ∈ N) : IsPart N' H v := by
  obtain ⟨t, l, qs, prs, hh, a, b, c, z, y⟩ := h
  exact ⟨t, l, qs, prs, hh, a, b, c, z, fun w => y (hs _ w)⟩
theorem IsPart.more (h : IsPart N H v) (hd : H d = none) : IsPart (d :: N) H v := by
  obtain ⟨t, l, qs, prs, hh, a, b, c, z, y⟩ := h
  refine ⟨t, l, qs, prs, hh, a, b, c, z, fun w => ?_⟩
  rcases List.mem_cons.mp w with e | e
  · rw [← e, c.top] at hd
    cases hd
  · exact y e
theorem IsPartsX.mono (h : IsPartsX N k H v) (e : Ex H H') : IsPartsX N k H' v := by
  obtain ⟨a, xs, b, c, z, y, w⟩ := h
  exact ⟨a, xs, b, e _ _ c, z, y, fun u hu => (w u hu).mono e⟩
theorem IsPartsX.keep {ys zs : List V} (h : IsPartsX N k H v) (hd : d ∈ N) (hl : H d = some (.lst ys)) : IsPartsX N k (upd H d (.lst zs)) v := by
  obtain ⟨a, xs, b, c, z, y, w⟩ := h
  exact ⟨a, xs, b, by rw [upd_ne (fun e => z (by rw [e]; exact hd))]; exact c, z, y, fun u hu => (w u hu).keep hd hl⟩
theorem IsPartsX.less (h : IsPartsX N k H v) (hs : ∀ d ∈ N', d ∈ N) (hk : k ≤ k') : IsPartsX N' k' H v := by
  obtain ⟨a, xs, b, c, z, y, w⟩ := h
  exact ⟨a, xs, b, c, fun e => z (hs _ e), by omega, fun u hu => (w u hu).less hs⟩
theorem IsPartsX.more (h : IsPartsX N k H v) (hd : H d = none) : IsPartsX (d :: N) k H v := by
  obtain ⟨a, xs, b, c, z, y, w⟩ := h
  refine ⟨a, xs, b, c, fun e => ?_, y, fun u hu => (w u hu).more hd⟩
  rcases List.mem_cons.mp e with e | e
  · rw [← e, c] at hd
    cases hd
  · exact z e
end
theorem parts_of {N : List Addr} {H : Hp} : ∀ {xs : List V}, (∀ u ∈ xs, IsPart N H u) → ∃ (ts ls : List Addr) (parts : List (Prs × Int)), xs = ts.map V.ref ∧ ts.length = parts.length ∧ ls.length = parts.length ∧ (∀ (i : Nat) t l pt, ts[i]? = some t → ls[i]? = some l → parts[i]? = some pt → H t = some (.tup [.ref l, .int pt.2]) ∧ ∃ qs, PrsAt H l qs pt.1) ∧ ∀ pt ∈ parts, pt.1.length ≤ 500
  | [], _ => ⟨[], [], [], rfl, rfl, rfl, fun i t l pt h => by simp at h, fun pt h => nomatch h⟩
  | x :: xs, h => by
    obtain ⟨ts, ls, parts, e1, e2, e3, e4, e5⟩ := parts_of (xs := xs) fun u hu => h u (List.mem_cons_of_mem _ hu)
    obtain ⟨t, l, qs, prs, hh, a, b, c, z, y⟩ := h x List.mem_cons_self
    refine ⟨t :: ts, l :: ls, (prs, hh) :: parts, by rw [a, e1]; rfl, by simp [e2], by simp [e3], fun i t' l' pt' h1 h2 h3 => ?_, fun pt hpt => ?_⟩
    · cases i with
      | zero =>
        have q1 : t = t' := Option.some.inj h1
        have q2 : l = l' := Option.some.inj h2
        have q3 : (prs, hh) = pt' := Option.some.inj h3
        subst q1
        subst q2
        subst q3
        exact ⟨b, qs, c⟩
      | succ i => exact e4 i t' l' pt' (by simpa using h1) (by simpa using h2) (by simpa using h3)
    · rcases List.mem_cons.mp hpt with e | e
      · rw [e]
        exact z
      · exact e5 pt e
theorem IsPartsX.partsAt {N : List Addr} {k : Nat} {H : Hp} {v : V} (h : IsPartsX N k H v) : ∃ (a : Addr) (ts ls : List Addr) (parts : List (Prs × Int)), v = .ref a ∧ PartsAt H a ts ls parts ∧ parts.length ≤ k ∧ ∀ pt ∈ parts, pt.1.length ≤ 500 := by
  obtain ⟨a, xs, b, c, z, y, w⟩ := h
  obtain ⟨ts, ls, parts, e1, e2, e3, e4, e5⟩ := parts_of w
  exact ⟨a, ts, ls, parts, b, ⟨by rw [c, e1], e2, e3, e4⟩, by rw [e1, List.length_map] at y; omega, e5⟩
theorem PartsAt.isParts {H : Hp} {a : Addr} {ts ls : List Addr} {parts : List (Prs × Int)} {k : Nat} (h : PartsAt H a ts ls parts) (hs : ∀ pt ∈ parts, pt.1.length ≤ 500) (hk : parts.length ≤ k) : IsPartsX [] k H (.ref a) := by
  refine ⟨a, _, rfl, h.top, (fun z => nomatch z), by rw [List.length_map, h.lt]; exact hk, fun u hu => ?_⟩
  obtain ⟨t, ht, rfl⟩ := List.mem_map.mp hu
  obtain ⟨i, hi⟩ := List.getElem?_of_mem ht
  have hi2 := (List.getElem?_eq_some_iff.mp hi).1
  rw [h.lt] at hi2
  obtain ⟨t', l, ht', hl, htup, qs, hqs⟩ := h.at (List.getElem?_eq_getElem hi2)
  have : t' = t := Option.some.inj (ht'.symm.trans hi)
  rw [← this]
  exact ⟨t', l, qs, _, _, rfl, htup, hqs, hs _ (List.getElem_mem hi2), fun z => nomatch z⟩
theorem cut_mem {xs : List V} {lo hi : Option Int} {v : V} (h : v ∈ cutV xs lo hi) : v ∈ xs := by
  unfold cutV at h
  exact List.mem_of_mem_drop (List.mem_of_mem_take h)
theorem cut_len (xs : List V) (lo hi : Option Int) : (cutV xs lo hi).length ≤ xs.length := by
  unfold cutV
  rw [List.length_take, List.length_drop]
  omega
section
variable {K : PySem.W.Frag} {σ : L2.St} {H : Hp} {te ta tb : TE} {N : List Addr} {k k1 k2 : Nat} {a : Addr}
theorem epx_of {v : V} (h : Ev te σ H v) (hp : IsPartsX N k H v) : EvP te σ H (PX N k) := fun H1 e Q q => h H1 e _ fun H2 e2 => q v H2 e2 (hp.mono (e.trans e2))
theorem epx_sl {tl th : TO} {lo hi : Option Int} (h : Ev te σ H (.ref a)) (hp : IsPartsX N k H (.ref a)) (h1 : EvO tl σ H lo) (h2 : EvO th σ H hi) (hN : Held H N) : EvP (tSl (rSlL K) te tl th) σ H (PX N k) := fun H1 e Q q => by
  obtain ⟨a', xs, ea, hx, ha, hl, hu⟩ := hp
  cases ea
  exact el_sl h h1 h2 (sq_of hx) H1 e Q fun p H2 np e2 h2' => q _ H2 e2 ⟨p, _, rfl, h2', (hN.mono e).new np, Nat.le_trans (cut_len _ _ _) hl, fun u z => (hu u (cut_mem z)).mono (e.trans e2)⟩
theorem epx_sl' {tl th : TO} {lo hi : Option Int} {xs : List V} (h : Ev te σ H (.ref a)) (hp : IsPartsX N k1 H (.ref a)) (hx' : H a = some (.lst xs)) (hk : (cutV xs lo hi).length ≤ k) (h1 : EvO tl σ H lo) (h2 : EvO th σ H hi) (hN : Held H N) : EvP (tSl (rSlL K) te tl th) σ H (PX N k) := fun H1 e Q q => by
  obtain ⟨a', xs', ea, hx, ha, hl, hu⟩ := hp
  cases ea
  rw [hx'] at hx
  cases hx
  exact el_sl h h1 h2 (sq_of hx') H1 e Q fun p H2 np e2 h2' => q _ H2 e2 ⟨p, _, rfl, h2', (hN.mono e).new np, hk, fun u z => (hu u (cut_mem z)).mono (e.trans e2)⟩
theorem el_revL {xs : List V} (h : Ev te σ H (.ref a)) (hs : SqL K H a xs) : EvL (tRevL K te) σ H xs.reverse := fun H1 e Q q =>
  h H1 e _ fun H2 e2 => ⟨a, xs, rfl, ex_l (e.trans e2) hs, fun p np => q p _ (fresh_back e2 np) (e2.trans (Ex.new np)) upd_same⟩
theorem epx_rev (h : Ev te σ H (.ref a)) (hp : IsPartsX N k H (.ref a)) (hN : Held H N) : EvP (tRevL K te) σ H (PX N k) := fun H1 e Q q => by
  obtain ⟨a', xs, ea, hx, ha, hl, hu⟩ := hp
  cases ea
  exact el_revL h (sq_of hx) H1 e Q fun p H2 np e2 h2' => q _ H2 e2 ⟨p, _, rfl, h2', (hN.mono e).new np, by rw [List.length_reverse]; exact hl, fun u z => (hu u (List.mem_reverse.mp z)).mono (e.trans e2)⟩
theorem epx_cat (ha : EvP ta σ H (PX N k1)) (hb : EvP tb σ H (PX N k2)) (hN : Held H N) (hk : k1 + k2 ≤ 100000) : EvP (tOp rCat ta tb) σ H (PX N (k1 + k2)) := fun H1 e Q q =>
  ha H1 e _ fun v H2 e2 hv => hb H2 (e.trans e2) _ fun w H3 e3 hw => by
    obtain ⟨a, xs, rfl, hx, ha, hl, hu⟩ := hv
    obtain ⟨b, ys, rfl, hy, hb, hl2, hu2⟩ := hw
    refine ⟨a, b, xs, ys, rfl, rfl, e3 _ _ hx, hy, sz_of (by omega), fun p np => ?_⟩
    have en := Ex.new (o := .lst (xs ++ ys)) np
    refine q _ _ ((e2.trans e3).trans en) ⟨p, _, rfl, upd_same, (hN.mono ((e.trans e2).trans e3)).new np, by rw [List.length_append]; omega, fun u z => ?_⟩
    rcases List.mem_append.mp z with z | z
    · exact (hu u z).mono (e3.trans en)
    · exact (hu2 u z).mono en
theorem epx_one (h : EvP te σ H (fun _ v H2 => IsPart N H2 v)) (hN : Held H N) : EvP (tLst (tCons te tNil)) σ H (PX N 1) := fun H1 e Q q =>
  h H1 e _ fun v H2 e2 hv => ⟨sz_of (by show 1 ≤ 100000; decide), fun p np => q _ _ (e2.trans (Ex.new np)) ⟨p, _, rfl, upd_same, (hN.mono (e.trans e2)).new np, Nat.le_refl _, fun u hu => by
    have : u = v := by simpa using hu
    rw [this]
    exact hv.mono (Ex.new np)⟩⟩
/-- (pairs, hours) -/
theorem ep_part {prs : Prs} {hh : Int} (ha : EvP ta σ H (NewPrs prs)) (hs : prs.length ≤ 500) (hb : ∀ H1, Ex H H1 → Ev tb σ H1 (.int hh)) (hN : Held H N) : EvP (tTup (tCons ta (tCons tb tNil))) σ H (fun _ v H2 => IsPart N H2 v) := fun H1 e Q q =>
  ha H1 e _ fun v H2 e2 ⟨l, qs, hv, nl, hP⟩ => hb H2 (e.trans e2) H2 (Ex.refl _) _ fun H3 e3 => ⟨sz_of (by show 2 ≤ 100000; decide), fun t nt => by
    subst hv
    exact q _ _ ((e2.trans e3).trans (Ex.new nt)) ⟨t, l, qs, prs, hh, rfl, upd_same, hP.mono (e3.trans (Ex.new nt)), hs, (hN.mono e).new nl⟩⟩
theorem ep_partV {prs : Prs} {hh : Int} {l : Addr} {qs : List Addr} (ha : Ev ta σ H (.ref l)) (hP : PrsAt H l qs prs) (hl : l ∉ N) (hs : prs.length ≤ 500) (hb : Ev tb σ H (.int hh)) : EvP (tTup (tCons ta (tCons tb tNil))) σ H (fun _ v H2 => IsPart N H2 v) := fun H1 e Q q =>
  ha H1 e _ fun H2 e2 => hb H2 (e.trans e2) _ fun H3 e3 => ⟨sz_of (by show 2 ≤ 100000; decide), fun t nt =>
    q _ _ ((e2.trans e3).trans (Ex.new nt)) ⟨t, l, qs, prs, hh, rfl, upd_same, hP.mono (((e.trans e2).trans e3).trans (Ex.new nt)), hs, hl⟩⟩
theorem e_prs0 : EvP (tLst tNil) σ H (NewPrs []) := (evp_l (el_lst (vs := []) ea_nil (by decide))).imp fun H1 v H2 _ _ ⟨p, hv, np, h2⟩ => ⟨p, [], hv, np, PrsAt.nil h2⟩
theorem e_prs1U {i j : Int} (h : EvU te σ H [.int i, .int j]) : EvP (tLst (tCons te tNil)) σ H (NewPrs [(i, j)]) := fun H1 e Q q =>
  h H1 e _ fun t H2 nt e2 h2 => ⟨sz_of (by show 1 ≤ 100000; decide), fun p np => q _ _ (e2.trans (Ex.new np)) ⟨p, [t], rfl, fresh_back e2 np, upd_same, rfl, fun i' t' pr h1 h3 => by
    cases i' with
    | zero =>
      have q1 : t = t' := Option.some.inj h1
      have q3 : (i, j) = pr := Option.some.inj h3
      subst q1
      subst q3
      exact Ex.new np _ _ h2
    | succ i' => simp at h1⟩⟩
theorem e_prs1 {i j : Int} (ha : Ev ta σ H (.int i)) (hb : Ev tb σ H (.int j)) : EvP (tLst (tCons (tTup (tCons ta (tCons tb tNil))) tNil)) σ H (NewPrs [(i, j)]) := e_prs1U (eu_tup (ea_cons ha (ea_cons hb ea_nil)) (by show 2 ≤ 100000; decide))
/-- pairs[::-1], pairs + pairs[:1] -/
theorem e_prsRev {l : Addr} {qs : List Addr} {prs : Prs} (h : Ev te σ H (.ref l)) (hP : PrsAt H l qs prs) : EvP (tRevL K te) σ H (NewPrs prs.reverse) := (evp_l (el_revL (K := K) h (sq_of hP.top))).imp fun H1 v H2 e1 e2 ⟨p, hv, np, h2⟩ => ⟨p, qs.reverse, hv, np, by rw [h2, List.map_reverse], by rw [List.length_reverse, List.length_reverse, hP.len], fun i q pr h3 h4 => by
    have hi := (List.getElem?_eq_some_iff.mp h3).1
    rw [List.length_reverse] at hi
    rw [List.getElem?_reverse hi] at h3
    rw [List.getElem?_reverse (by rw [← hP.len]; exact hi), ← hP.len] at h4
    exact (e1.trans e2) _ _ (hP.tup _ q pr h3 h4)⟩
theorem e_prsTwice {l : Addr} {qs : List Addr} {prs : Prs} {ti : TE} (h : Ev te σ H (.ref l)) (hi : Ev ti σ H (.int 1)) (hP : PrsAt H l qs prs) (hs : prs.length ≤ 1000) : EvP (tOp rCat te (tSl (rSlL K) te tNoPart (tPart ti))) σ H (NewPrs (prs ++ prs.take 1)) := by
  have hc : cutV (qs.map V.ref) none (some 1) = (qs.map V.ref).take 1 := cut_takeV _ 1
  refine (evp_l (xs := qs.map V.ref ++ (qs.map V.ref).take 1) (el_catN h (by rw [← hc]; exact el_sl h eo_none (eo_some hi) (sq_of hP.top)) hP.top (by rw [List.length_take, List.length_map, hP.len]; omega))).imp fun H1 v H2 e1 e2 ⟨p, hv, np, h2⟩ => ⟨p, qs ++ qs.take 1, hv, np, by rw [h2, List.map_append, List.map_take], by rw [List.length_append, List.length_append, List.length_take, List.length_take, hP.len], fun i q pr h3 h4 => ?_⟩
  by_cases hi : i < qs.length
  · rw [List.getElem?_append_left hi] at h3
    rw [List.getElem?_append_left (by rw [← hP.len]; exact hi)] at h4
    exact (e1.trans e2) _ _ (hP.tup _ q pr h3 h4)
  · rw [List.getElem?_append_right (by omega)] at h3
    rw [List.getElem?_append_right (by rw [← hP.len]; omega), ← hP.len] at h4
    have hi1 : i - qs.length < 1 := by
      have := (List.getElem?_eq_some_iff.mp h3).1
      rw [List.length_take] at this
      omega
    rw [List.getElem?_take_of_lt hi1] at h3 h4
    exact (e1.trans e2) _ _ (hP.tup _ q pr h3 h4)
end
/-- a comprehension that gives parts -/
theorem lc_px {J : It} {n : Nat} {g : TG} {tt : TT} {te : TE} {vs : List Nat} {σ : L2.St} {H1 : Hp} {Q : VK} {sg : Nat → L2.St} {N : List Addr} (T : Turns J n g (wipe σ vs) H1 sg) (hw : ∀ i, i < n → wipe (sg i) vs = wipe σ vs) (hn : n ≤ 40000) (hN : Held H1 N) (ht : ∀ i H', i < n → Ex H1 H' → ∃ b, EvT tt (sg i) H' b)
    (he : ∀ D i H', i < n → H1 D = none → Ex H1 H' → (∃ o, H' D = some o) → EvP te (sg i) H' (fun _ v H2 => IsPart (D :: N) H2 v)) (hq : ∀ p H2, H1 p = none → Ex H1 H2 → IsPartsX N n H2 (.ref p) → Q (.ref p) H2) : LcGo J g tt te vs σ H1 Q := by
  refine lc_go T hw (fun D i H => Ex H1 H ∧ ∃ xs, H D = some (.lst xs) ∧ xs.length ≤ i ∧ ∀ u ∈ xs, IsPart (D :: N) H u) (fun D hD => ⟨Ex.new hD, [], upd_same, Nat.le_refl _, fun u hu => nomatch hu⟩) (fun D i H _ p => p.1) (fun D i H hD hi p H2 e2 => ?_) (fun D H hD p => ?_)
  · obtain ⟨e1, xs, hx, hl, hu⟩ := p
    obtain ⟨b, hb⟩ := ht i H2 hi (e1.trans e2)
    refine hb H2 (Ex.refl _) _ fun H3 e3 => ?_
    cases b with
    | false =>
      rw [if_neg Bool.false_ne_true]
      exact ⟨(e1.trans e2).trans e3, xs, e3 _ _ (e2 _ _ hx), by omega, fun u z => (hu u z).mono (e2.trans e3)⟩
    | true =>
      rw [if_pos rfl]
      refine he D i H3 hi hD ((e1.trans e2).trans e3) ⟨_, e3 _ _ (e2 _ _ hx)⟩ H3 (Ex.refl _) _ fun v H4 e4 hv => ?_
      have hx4 := e4 _ _ (e3 _ _ (e2 _ _ hx))
      refine ⟨xs, hx4, sz_lt (by omega), Ex.mut (((e1.trans e2).trans e3).trans e4) hD, xs ++ [v], upd_same, by rw [List.length_append, List.length_singleton]; omega, fun u z => ?_⟩
      rcases List.mem_append.mp z with z | z
      · exact ((hu u z).mono ((e2.trans e3).trans e4)).keep List.mem_cons_self hx4
      · have : u = v := by simpa using z
        rw [this]
        exact hv.keep List.mem_cons_self hx4
  · obtain ⟨e1, xs, hx, hl, hu⟩ := p
    exact hq D H hD e1 ⟨D, xs, rfl, hx, hN.new hD, hl, fun u z => (hu u z).less fun d hd => List.mem_cons_of_mem _ hd⟩
/-- [.. for pairs, hours in parts] -/
theorem evp_lcpx {K : PySem.W.Frag} {σ : L2.St} {H : Hp} {te tl : TE} {a : Addr} {ts ls : List Addr} {parts : List (Prs × Int)} {j k : Nat} {vs : List Nat} {N : List Addr} (h : Ev tl σ H (.ref a)) (hp : PartsAt H a ts ls parts) (hn : parts.length ≤ 2000) (hw : ∀ x y, wipe (((wipe σ vs).set j (some x)).set k (some y)) vs = wipe σ vs) (hN : Held H N)
    (he : ∀ D l qs pt H1, Ex H H1 → H D = none → (∃ o, H1 D = some o) → l ∈ ls → pt ∈ parts → PrsAt H l qs pt.1 → EvP te (((wipe σ vs).set j (some (.ref l))).set k (some (.int pt.2))) H1 (fun _ v H2 => IsPart (D :: N) H2 v)) :
    EvP (tLc (iList K tl) (gTup K 2 (gCons (gName j) (gCons (gName k) gNil))) tYes te vs) σ H (PX N parts.length) := by
  refine evp_lcL h (sq_of hp.top) down_c fun H1 e1 Q q => ?_
  have hT := turns_pairs (K := K) (j := j) (k := k) (σ0 := wipe σ vs) (f := fun i => .ref (ls.getD i 0)) (g := fun i => .int (parts.getD i ([], 0)).2) (sq_of (K := K) (hp.mono e1).top) (parts_turns (hp.mono e1))
  have hlen : (ts.map V.ref).length = parts.length := by rw [List.length_map, hp.lt]
  rw [hlen] at hT
  refine lc_px hT (fun i hi => hw _ _) (by omega) (hN.mono e1) (fun i H' hi e' => ⟨true, et_yes⟩) (fun D i H' hi hD e' ho => ?_) (fun p H2 np e2 z => q _ H2 e2 z)
  obtain ⟨t, l, ht, hl, htup, qs, hqs⟩ := hp.at (List.getElem?_eq_getElem hi)
  have e1' : ls.getD i 0 = l := by simp [List.getD, hl]
  have e2' : parts.getD i ([], 0) = parts[i] := by simp [List.getD, hi]
  show EvP te (((wipe σ vs).set j (some (.ref (ls.getD i 0)))).set k (some (.int (parts.getD i ([], 0)).2))) H' _
  rw [e1', e2']
  exact he D l qs parts[i] H' (e1.trans e') (fresh_back e1 hD) ho (List.mem_of_getElem? hl) (List.getElem_mem hi) hqs
/-! ### all classes at once -/
structure CsAll (K : PySem.W.Frag) (mg : Str → Option Value) (CA CP CE CS CL : Addr) : Prop where
  cs : Cs K mg CA CP CE CS CL
  cl : CsL K mg CA CP CE CS CL
  cp : CsP K mg CA CP CE CS CL
/-! ### promises -/
def sp__law_says (K : PySem.W.Frag) : Sp := fun vs H Q _ => ∃ b c : Bool, vs = [.bl b, .bl c] ∧ Ret (IsV (.bl (decide (b = c)))) H Q
def sp__law_plan_right (K : PySem.W.Frag) : Sp := fun vs H Q _ => ∃ (a b : Addr) (ts ls rs : List Addr) (parts : List (Prs × Int)) (T : List (List Int)) (n m : Nat), vs = [.ref b, .ref a] ∧ PartsAt H a ts ls parts ∧ parts.length ≤ 2000 ∧ (∀ pt ∈ parts, pt.1.length ≤ 500) ∧ Tab H b rs T ∧ Rect T n m ∧ 1 ≤ n ∧ n ≤ 1000 ∧ 1 ≤ m ∧ m ≤ 1000 ∧ Ret (IsV (.bl true)) H Q
def sp__law_tabcell (K : PySem.W.Frag) : Sp := fun vs H Q _ => ∃ (b : Addr) (rs : List Addr) (T : List (List Int)) (n m : Nat) (c : Int), vs = [.ref b, .int c] ∧ Tab H b rs T ∧ Good T n m ∧ Ret (IsV (.bl true)) H Q
end Lh

namespace Lh
open PySem PySem.Spec PyProof.Rows L2 Evl
section
variable {K : PySem.W.Frag} {mg : Str → Option Value} {σ : L2.St} {H : Hp} {ta : TE} {tr : TA} {CA CP CE CS CL x q b : Addr} {rs : List Addr} {T : List (List Int)} {n m : Nat} {k : Bool} {ns : List Int} {E : XK}
theorem ev_shows (h : Ev ta σ H (.ref x)) (hf : IsFound CE CS H x q k ns) (hr : EvA tr σ H [.ref b]) (hT : Tab H b rs T) (hR : Rect T n m) (hn : 1 ≤ n) (hn2 : n ≤ 1000) (hm2 : m ≤ 1000) :
    Ev (tEither (tMeth CE "shows" (sp_Each_shows K CE) [] E ta tr) (tMeth CS "shows" (sp_Short_shows K CS) [] E ta tr)) σ H (.bl (verdict T n m k ns)) := by
  obtain ⟨hl, hq, dx, ⟨rfl, hx⟩ | ⟨rfl, hx⟩⟩ := hf
  · exact ev_left (ev_methV h hx rfl hr fun H1 e1 Q q1 => ⟨x, b, q, dx, rs, T, n, m, ns, rfl, e1 _ _ hx, e1 _ _ hq, hl, hT.mono e1, hR, hn, hn2, hm2, q1⟩)
  · exact ev_right (ev_methV h hx rfl hr fun H1 e1 Q q1 => ⟨x, b, q, dx, rs, T, n, m, ns, rfl, e1 _ _ hx, e1 _ _ hq, hl, hT.mono e1, hR, hn, hn2, hm2, q1⟩)
theorem isi_found {D : Addr} {bE bS : Bool} (h : Ev ta σ H (.ref x)) (hf : IsFound CE CS H x q k ns) (cs : Cs K mg CA CP CE CS CL) (hE : PySem.W.kitOne K (.ref CE) (.ref D) = some bE) (hS : PySem.W.kitOne K (.ref CS) (.ref D) = some bS) :
    Ev (tCB (rIsi K) (tCons ta (tCons (tC (.ref D)) tNil))) σ H (.bl (if k = true then bE else bS)) := by
  obtain ⟨hl, hq, dx, ⟨rfl, hx⟩ | ⟨rfl, hx⟩⟩ := hf
  · exact isi_own h hx cs.E cs.k0 hE
  · exact isi_own h hx cs.S cs.k0 hS
/-- what each hands back -/
abbrev FoundOf (CE CS : Addr) (T : List (List Int)) (n m : Nat) : Hp → V → Hp → Prop := fun H1 v H2 => ∃ (x q : Addr) (k : Bool) (ns : List Int), v = .ref x ∧ H1 x = none ∧ H1 q = none ∧ q ≠ x ∧ IsFound CE CS H2 x q k ns ∧ ns.length ≤ 20 ∧ (k = true → ∃ L, Choice T n m 1 L ∧ ns = L.map fun (x : Nat) => (x : Int)) ∧ (k = false → tooFewB T n m ns 1 = true)
theorem each_gives {a : Addr} (hT : Tab H a rs T) (hG : Good T n m) {Q : VK} (q1 : Ret (FoundOf CE CS T n m) H Q) : sp_each K CE CS [.ref a] H Q E := ⟨a, rs, T, n, m, rfl, hT, hG, fun L hL v H2 e2 ⟨x, dx, p, hv, nx, np, hne, hx, hp⟩ => by
    have hb := hG.n20
    have hlen : (L.map fun (x : Nat) => (x : Int)).length ≤ 20 := by rw [List.length_map, hL.len]; exact hb
    exact q1 v H2 e2 ⟨x, p, true, L.map fun (x : Nat) => (x : Int), hv, nx, np, hne, ⟨by omega, hp, dx, .inl ⟨rfl, hx⟩⟩, hlen, fun _ => ⟨L, hL, rfl⟩, fun h => nomatch h⟩, fun S hS v H2 e2 ⟨x, dx, p, hv, nx, np, hne, hx, hp⟩ => by
    have hb := hG.n20
    have hlen := few_len hS
    exact q1 v H2 e2 ⟨x, p, false, S, hv, nx, np, hne, ⟨by omega, hp, dx, .inr ⟨rfl, hx⟩⟩, by omega, (fun h => nomatch h), fun _ => hS⟩⟩
theorem evp_each {a : Addr} (h : Ev ta σ H (.ref a)) (hT : Tab H a rs T) (hG : Good T n m) : EvP (tCall (sp_each K CE CS) [] E (tCons ta tNil)) σ H (FoundOf CE CS T n m) :=
  evp_call (ea_cons h ea_nil) (fun H1 H2 v H3 e ⟨x, q, k, ns, z1, z2, z3, z4⟩ => ⟨x, q, k, ns, z1, fresh_back e z2, fresh_back e z3, z4⟩) fun H1 e1 Q q1 => each_gives (hT.mono e1) hG q1
end
section
variable {K : PySem.W.Frag} {mg : Str → Option Value} {σ : L2.St} {H : Hp} {ta : TE} {tr : TA} {CA CP CE CS CL x q1 q2 b : Addr} {rs : List Addr} {T : List (List Int)} {n m : Nat} {h : Int} {ns S : List Int} {E : XK}
theorem ev_showsL (ho : Ev ta σ H (.ref x)) (hf : IsLast CL H x q1 q2 h ns S) (hr : EvA tr σ H [.ref b]) (hT : Tab H b rs T) (hR : Rect T n m) (hn : 1 ≤ n) (hn2 : n ≤ 1000) (hm2 : m ≤ 1000) : Ev (tMeth CL "shows" (sp_Lasting_shows K CL) [] E ta tr) σ H (.bl (lastB T n m h ns S)) := by
  obtain ⟨dx, hx⟩ := hf.2.2.2.2
  exact ev_methV ho hx rfl hr fun H1 e1 Q q => ⟨x, b, q1, q2, rs, T, n, m, h, ns, S, rfl, hf.mono e1, hT.mono e1, hR, hn, hn2, hm2, q⟩
theorem isi_last {D : Addr} {bL : Bool} (ho : Ev ta σ H (.ref x)) (hf : IsLast CL H x q1 q2 h ns S) (cl : CsL K mg CA CP CE CS CL) (hL : PySem.W.kitOne K (.ref CL) (.ref D) = some bL) : Ev (tCB (rIsi K) (tCons ta (tCons (tC (.ref D)) tNil))) σ H (.bl bL) := by
  obtain ⟨dx, hx⟩ := hf.2.2.2.2
  exact isi_own ho hx cl.L cl.k0 hL
/-- what lasting hands back -/
abbrev LastFound (CL : Addr) (T : List (List Int)) (n m : Nat) : Hp → V → Hp → Prop := fun H1 v H2 => ∃ (x q1 q2 : Addr) (h : Int) (L : List Nat) (S : List Int), v = .ref x ∧ H1 x = none ∧ H1 q1 = none ∧ H1 q2 = none ∧ q1 ≠ q2 ∧ q1 ≠ x ∧ q2 ≠ x ∧ IsLast CL H2 x q1 q2 h (L.map fun (x : Nat) => (x : Int)) S ∧ L.length ≤ 20 ∧ S.length ≤ 20 ∧ LastOf T n m h L S
theorem down_lf : Down (LastFound CL T n m) := fun H1 H2 v H3 e ⟨x, q1, q2, h, L, S, z1, z2, z3, z4, z5⟩ => ⟨x, q1, q2, h, L, S, z1, fresh_back e z2, fresh_back e z3, fresh_back e z4, z5⟩
theorem lasting_gives {a : Addr} (hT : Tab H a rs T) (hG : Good T n m) (hnm : n ≤ m) {Q : VK} (q : Ret (LastFound CL T n m) H Q) : sp_lasting K CL [.ref a] H Q E := ⟨a, rs, T, n, m, rfl, hT, hG, hnm, fun h L S hL v H2 e2 ⟨x, dx, p1, p2, hv, nx, n1, n2, h12, h1x, h2x, gx, g1, g2⟩ => by
    have b := hG.n20
    have hl1 : L.length ≤ 20 := by rw [hL.ch.len]; exact b
    have hl2 := few_len hL.few
    exact q v H2 e2 ⟨x, p1, p2, h, L, S, hv, nx, n1, n2, h12, h1x, h2x, ⟨by rw [List.length_map]; omega, by omega, g1, g2, dx, gx⟩, hl1, by omega, hL⟩⟩
theorem evp_lasting {a : Addr} (ho : Ev ta σ H (.ref a)) (hT : Tab H a rs T) (hG : Good T n m) (hnm : n ≤ m) : EvP (tCall (sp_lasting K CL) [] E (tCons ta tNil)) σ H (LastFound CL T n m) :=
  evp_call (ea_cons ho ea_nil) down_lf fun H1 e1 Q q => lasting_gives (hT.mono e1) hG hnm q
end
/-! ### an answer of one of the three classes -/
inductive Ans | ea (ns : List Int) | sh (S : List Int) | la (h : Int) (ns S : List Int)
def Ans.word (T : List (List Int)) (n m : Nat) : Ans → Bool
  | .ea ns => dueB T n m ns
  | .sh S => tooFewB T n m S 1
  | .la h ns S => lastB T n m h ns S
def IsAns (CE CS CL : Addr) (H : Hp) (v : V) : Ans → Prop
  | .ea ns => ∃ x q dx, v = .ref x ∧ ns.length ≤ 2000 ∧ H q = some (.lst (ns.map V.int)) ∧ H x = some (.ins CE dx [("classes", .ref q)])
  | .sh ns => ∃ x q dx, v = .ref x ∧ ns.length ≤ 2000 ∧ H q = some (.lst (ns.map V.int)) ∧ H x = some (.ins CS dx [("teachers", .ref q)])
  | .la h ns S => ∃ x q1 q2, v = .ref x ∧ IsLast CL H x q1 q2 h ns S
theorem IsAns.mono {CE CS CL : Addr} {H H' : Hp} {v : V} {a : Ans} (h : IsAns CE CS CL H v a) (e : Ex H H') : IsAns CE CS CL H' v a := by
  cases a with
  | ea ns =>
    obtain ⟨x, q, dx, a, b, c, d⟩ := h
    exact ⟨x, q, dx, a, b, e _ _ c, e _ _ d⟩
  | sh ns =>
    obtain ⟨x, q, dx, a, b, c, d⟩ := h
    exact ⟨x, q, dx, a, b, e _ _ c, e _ _ d⟩
  | la hh ns S =>
    obtain ⟨x, q1, q2, a, b⟩ := h
    exact ⟨x, q1, q2, a, b.mono e⟩
section
variable {K : PySem.W.Frag} {mg : Str → Option Value} {σ : L2.St} {H : Hp} {ta : TE} {tr : TA} {CE CS CL b : Addr} {v : V} {rs : List Addr} {T : List (List Int)} {n m : Nat} {E : XK} {a : Ans}
theorem ev_word (ho : Ev ta σ H v) (hf : IsAns CE CS CL H v a) (hr : EvA tr σ H [.ref b]) (hT : Tab H b rs T) (hR : Rect T n m) (hn : 1 ≤ n) (hn2 : n ≤ 1000) (hm2 : m ≤ 1000) :
    Ev (tEither (tMeth CE "shows" (sp_Each_shows K CE) [] E ta tr) (tEither (tMeth CS "shows" (sp_Short_shows K CS) [] E ta tr) (tMeth CL "shows" (sp_Lasting_shows K CL) [] E ta tr))) σ H (.bl (a.word T n m)) := by
  cases a with
  | ea ns =>
    obtain ⟨x, q, dx, rfl, hl, hq, hx⟩ := hf
    exact ev_left (ev_methV ho hx rfl hr fun H1 e1 Q q1 => ⟨x, b, q, dx, rs, T, n, m, ns, rfl, e1 _ _ hx, e1 _ _ hq, hl, hT.mono e1, hR, hn, hn2, hm2, q1⟩)
  | sh ns =>
    obtain ⟨x, q, dx, rfl, hl, hq, hx⟩ := hf
    exact ev_right (ev_left (ev_methV ho hx rfl hr fun H1 e1 Q q1 => ⟨x, b, q, dx, rs, T, n, m, ns, rfl, e1 _ _ hx, e1 _ _ hq, hl, hT.mono e1, hR, hn, hn2, hm2, q1⟩))
  | la hh ns S =>
    obtain ⟨x, q1, q2, rfl, hf⟩ := hf
    exact ev_right (ev_right (ev_showsL ho hf hr hT hR hn hn2 hm2))
/-- Lasting(hours, classes, teachers) -/
theorem evp_make3 {a c : Addr} {h : Int} {xs ys : List V} {t : TA} (hv : EvA t σ H [.int h, .ref a, .ref c]) (ha : SqL K H a xs) (hc : SqL K H c ys) : EvP (tMake CL (spInit3 K CL) [] E t) σ H (NewLast CL h xs ys) := fun H1 e Q q =>
  hv H1 e _ fun H2 e2 x dx nx nd hne => make3 nx nd hne (ex_l (e.trans e2) ha) (ex_l (e.trans e2) hc) fun v H3 e3 hv => q v H3 (e2.trans e3) (down_last _ _ _ _ e2 hv)
theorem evp_make3N {h : Int} {xs ys : List V} {te tb tc : TE} (h1 : Ev te σ H (.int h)) (h2 : EvL tb σ H xs) (h3 : EvL tc σ H ys) : EvP (tMake CL (spInit3 K CL) [] E (tCons te (tCons tb (tCons tc tNil)))) σ H (NewLast CL h xs ys) := fun H1 e Q q =>
  h1 H1 e _ fun H2 e2 => h2 H2 (e.trans e2) _ fun a H3 _ e3 ha => h3 H3 ((e.trans e2).trans e3) _ fun c H4 _ e4 hc x dx nx nd hne => make3 nx nd hne (sq_of (e4 _ _ ha)) (sq_of hc) fun v H5 e5 hv => q v H5 (((e2.trans e3).trans e4).trans e5) (down_last _ _ _ _ ((e2.trans e3).trans e4) hv)
theorem evp_make1N {C : Addr} {f : Str} {xs : List V} {te : TE} (h : EvL te σ H xs) : EvP (tMake C (spInit1 K C f) [] E (tCons te tNil)) σ H (NewIns1 C f xs) := fun H1 e Q q =>
  h H1 e _ fun a H2 _ e2 ha x dx nx nd hne => by
    have e3 : Ex H2 (upd (upd H2 dx (.own x)) x (.ins C dx [])) := (Ex.new nd).trans (Ex.new (by rw [upd_ne (Ne.symm hne)]; exact nx))
    have hx : upd (upd H2 dx (.own x)) x (.ins C dx []) x = some (.ins C dx []) := upd_same
    generalize upd (upd H2 dx (.own x)) x (.ins C dx []) = H3 at e3 hx
    refine ⟨x, a, dx, xs, rfl, hx, sq_of (e3 _ _ ha), fun p H4 e4 np h4 => ⟨rfl, ?_⟩⟩
    have hpx : p ≠ x := fun z => by rw [z, hx] at np; cases np
    exact q _ _ (Ex.mut (e2.trans (e3.trans e4)) (fresh_back e2 nx)) ⟨x, dx, p, rfl, fresh_back e2 nx, fresh_back (e2.trans e3) np, hpx, upd_same, by rw [upd_ne hpx]; exact h4⟩
end
/-! ### plain: what is due of choices -/
theorem due_min {T : List (List Int)} {n m : Nat} {ns : List Int} (hn : 1 ≤ n) : dueB T n m ns = (chosenB T n m ns && decide (0 < minI (cellsOf T n ns))) := by
  unfold dueB
  congr 1
  rw [Bool.eq_iff_iff, List.all_eq_true, decide_eq_true_eq]
  have hne : cellsOf T n ns ≠ [] := cells_ne hn
  constructor
  · intro h
    have := minI_mem hne
    unfold cellsOf at this
    obtain ⟨t, ht, e⟩ := List.mem_map.mp this
    have h2 := of_decide_eq_true (h t ht)
    unfold cellsOf
    omega
  · intro h t ht
    refine decide_eq_true ?_
    have : cell T t (ns.getD t 0).toNat ∈ cellsOf T n ns := List.mem_map.mpr ⟨t, ht, rfl⟩
    have := minI_le this
    omega
structure WideOk (T : List (List Int)) (n m : Nat) (h : Int) (ns S : List Int) : Prop where
  min : chosenB T n m ns = true → minI (cellsOf T n ns) = h
  all : ∀ x, lastB T n m x ns S = (chosenB T n m ns && decide (x = h))
theorem LastOf.wide {T : List (List Int)} {n m : Nat} {h : Int} {L : List Nat} {S : List Int} (z : LastOf T n m h L S) : WideOk T n m h (L.map fun (x : Nat) => (x : Int)) S := by
  have hb := z.isB
  unfold lastB at hb
  simp only [Bool.and_eq_true, decide_eq_true_eq] at hb
  refine ⟨fun _ => hb.2.1, fun x => ?_⟩
  unfold lastB
  rw [hb.1, hb.2.1]
  by_cases e : x = h
  · subst e
    rw [hb.2.2]
    simp
  · have e2 : ¬ h = x := fun z => e z.symm
    simp [e, e2]
theorem wide_none {T : List (List Int)} {n m : Nat} (hn : 1 ≤ n) : WideOk T n m 0 [] [] := by
  have hc : chosenB T n m [] = false := by
    unfold chosenB
    have : ¬ ([] : List Int).length = n := by
      show ¬ 0 = n
      omega
    rw [decide_eq_false this]
    rfl
  refine ⟨fun h => ?_, fun x => ?_⟩
  · rw [hc] at h
    cases h
  · unfold lastB
    rw [hc]
    rfl
/-! ### lists of ints, an if with both ways -/
def IsInts (H : Hp) (v : V) : Prop := ∃ (a : Addr) (ns : List Int), v = .ref a ∧ H a = some (.lst (ns.map V.int)) ∧ ns.length ≤ 100
theorem IsInts.mono {H H' : Hp} {v : V} (h : IsInts H v) (e : Ex H H') : IsInts H' v := by
  obtain ⟨a, ns, b, c, d⟩ := h
  exact ⟨a, ns, b, e _ _ c, d⟩
theorem IsInts.upd {H : Hp} {v : V} {d : Addr} {o : HO} (h : IsInts H v) (hd : v ≠ .ref d) : IsInts (upd H d o) v := by
  obtain ⟨a, ns, rfl, c, z⟩ := h
  exact ⟨a, ns, rfl, by rw [upd_ne (fun e => hd (by rw [e]))]; exact c, z⟩
section
variable {K : PySem.W.Frag} {σ : L2.St} {H : Hp} {te ta tb : TE} {t : TT} {tu tw tz : TS} {D : Ends}
theorem ei_of {ns : List Int} (h : EvL te σ H (ns.map V.int)) (hl : ns.length ≤ 100) : EvP te σ H (fun _ v H2 => IsInts H2 v) := (evp_l h).imp fun _ v H2 _ _ ⟨p, hv, _, h2⟩ => ⟨p, ns, hv, h2, hl⟩
theorem q_ifR {b : Bool} (S : L2.St → Hp → Prop) (h : EvT t σ H b) (k : ∀ σ' H', S σ' H' → tz D σ' H') (h1 : b = true → ∀ H1, Ex H H1 → ∀ N : L2.St → Hp → Prop, (∀ σ' H', S σ' H' → N σ' H') → tu { D with nx := N } σ H1) (h2 : b = false → ∀ H1, Ex H H1 → ∀ N : L2.St → Hp → Prop, (∀ σ' H', S σ' H' → N σ' H') → tw { D with nx := N } σ H1) : tSeq (tIfS t tu tw) tz D σ H :=
  q_if h (fun hb H1 e1 => h1 hb H1 e1 (tz D) k) (fun hb H1 e1 => h2 hb H1 e1 (tz D) k)
theorem rg_ints (k : Nat) : rgV 0 (k : Int) = ((List.range k).map fun (i : Nat) => (i : Int)).map V.int := by
  unfold rgV
  rw [List.map_map]
  have : ((k : Int) - 0).toNat = k := by omega
  rw [this]
  refine List.map_congr_left fun i _ => ?_
  show V.int (0 + (i : Int)) = V.int (i : Int)
  rw [Int.zero_add]
theorem el_rg {k : Nat} (h : Ev te σ H (.int (k : Int))) (hk : k ≤ 1000) : EvL (tLstRg (tRg1 te)) σ H (((List.range k).map fun (i : Nat) => (i : Int)).map V.int) := fun H1 e Q q =>
  h H1 e _ fun H2 e2 => ⟨(k : Int), rfl, RgOk.of_le (by omega) (by omega) (by omega) (by omega), fun p np => by
    rw [rg_ints]
    exact q p _ (fresh_back e2 np) (e2.trans (Ex.new np)) upd_same⟩
/-- xs * 2 -/
theorem el_rep2 {a : Addr} {xs : List V} (ha : Ev ta σ H (.ref a)) (h1 : H a = some (.lst xs)) (hb : Ev tb σ H (.int 2)) (hl : xs.length ≤ 1000) : EvL (tOp rRep ta tb) σ H (xs ++ xs) := fun H1 e Q q =>
  ha H1 e _ fun H2 e2 => hb H2 (e.trans e2) _ fun H3 e3 => ⟨a, 2, xs, rfl, rfl, ((e.trans e2).trans e3) _ _ h1, by decide, by decide, sz_of (by show xs.length * 2 ≤ 100000; omega), fun p np => by
    have : (List.replicate (2 : Int).toNat xs).flatten = xs ++ xs := by
      show (List.replicate 2 xs).flatten = xs ++ xs
      simp [List.replicate]
    rw [this]
    exact q p _ (fresh_back (e2.trans e3) np) ((e2.trans e3).trans (Ex.new np)) upd_same⟩
/-- some + [..]: lists of ints -/
theorem evp_catInts {a : Addr} {xs : List V} {tr : TA} (ha : Ev ta σ H (.ref a)) (h1 : H a = some (.lst xs)) (hx : ∀ v ∈ xs, IsInts H v) (hr : EvAP tr σ H (fun _ vs H2 => vs.length ≤ 10 ∧ ∀ v ∈ vs, IsInts H2 v)) (hl : xs.length ≤ 1000) : EvP (tOp rCat ta (tLst tr)) σ H (fun _ v H2 => ∃ p ys, v = .ref p ∧ H2 p = some (.lst ys) ∧ ys.length ≤ xs.length + 10 ∧ ∀ v ∈ ys, IsInts H2 v) := fun H1 e Q q =>
  ha H1 e _ fun H2 e2 => hr H2 (e.trans e2) _ fun vs H3 e3 ⟨hv, hvs⟩ => ⟨sz_of (by omega), fun b nb => ⟨a, b, xs, vs, rfl, rfl, (((e.trans e2).trans e3).trans (Ex.new nb)) _ _ h1, upd_same, sz_of (by omega), fun p np => q _ _ (((e2.trans e3).trans (Ex.new nb)).trans (Ex.new np)) ⟨p, _, rfl, upd_same, by rw [List.length_append]; omega, fun v hv => by
    rcases List.mem_append.mp hv with z | z
    · exact (hx v z).mono ((((e.trans e2).trans e3).trans (Ex.new nb)).trans (Ex.new np))
    · exact (hvs v z).mono ((Ex.new nb).trans (Ex.new np))⟩⟩⟩
theorem eap_nil : EvAP tNil σ H (fun _ vs H2 => vs.length ≤ 0 ∧ ∀ v ∈ vs, IsInts H2 v) := fun H1 _ Q q => q [] H1 (Ex.refl _) ⟨Nat.le_refl _, fun v hv => nomatch hv⟩
theorem eap_cons {k : Nat} {tr : TA} (h : EvP te σ H (fun _ v H2 => IsInts H2 v)) (hr : EvAP tr σ H (fun _ vs H2 => vs.length ≤ k ∧ ∀ v ∈ vs, IsInts H2 v)) : EvAP (tCons te tr) σ H (fun _ vs H2 => vs.length ≤ k + 1 ∧ ∀ v ∈ vs, IsInts H2 v) := fun H1 e Q q =>
  h H1 e _ fun v H2 e2 hv => hr H2 (e.trans e2) _ fun vs H3 e3 ⟨hl, hvs⟩ => q (v :: vs) H3 (e2.trans e3) ⟨by rw [List.length_cons]; omega, fun u hu => by
    rcases List.mem_cons.mp hu with z | z
    · rw [z]
      exact hv.mono e3
    · exact hvs u z⟩
theorem eap_up {k k' : Nat} {tr : TA} (h : EvAP tr σ H (fun _ vs H2 => vs.length ≤ k ∧ ∀ v ∈ vs, IsInts H2 v)) (hk : k ≤ k') : EvAP tr σ H (fun _ vs H2 => vs.length ≤ k' ∧ ∀ v ∈ vs, IsInts H2 v) := fun H1 e Q q => h H1 e Q fun vs H2 e2 z => q vs H2 e2 ⟨by omega, z.2⟩
theorem ei_var {v : V} (h : Ev te σ H v) (hv : IsInts H v) : EvP te σ H (fun _ v H2 => IsInts H2 v) := fun H1 e Q q => h H1 e _ fun H2 e2 => q v H2 e2 (hv.mono (e.trans e2))
end
/-! ### answers whose places are none of N -/
def IsAnsN (N : List Addr) (CE CS CL : Addr) (H : Hp) (v : V) : Ans → Prop
  | .ea ns => ∃ x q dx, v = .ref x ∧ ns.length ≤ 2000 ∧ H q = some (.lst (ns.map V.int)) ∧ H x = some (.ins CE dx [("classes", .ref q)]) ∧ x ∉ N ∧ q ∉ N
  | .sh ns => ∃ x q dx, v = .ref x ∧ ns.length ≤ 2000 ∧ H q = some (.lst (ns.map V.int)) ∧ H x = some (.ins CS dx [("teachers", .ref q)]) ∧ x ∉ N ∧ q ∉ N
  | .la h ns S => ∃ x q1 q2, v = .ref x ∧ IsLast CL H x q1 q2 h ns S ∧ x ∉ N ∧ q1 ∉ N ∧ q2 ∉ N
section
variable {N : List Addr} {CE CS CL d : Addr} {H H' : Hp} {v : V} {a : Ans}
theorem IsAnsN.ans (h : IsAnsN N CE CS CL H v a) : IsAns CE CS CL H v a := by
  cases a with
  | ea ns =>
    obtain ⟨x, q, dx, a, b, c, d, _⟩ := h
    exact ⟨x, q, dx, a, b, c, d⟩
  | sh ns =>
    obtain ⟨x, q, dx, a, b, c, d, _⟩ := h
    exact ⟨x, q, dx, a, b, c, d⟩
  | la hh ns S =>
    obtain ⟨x, q1, q2, a, b, _⟩ := h
    exact ⟨x, q1, q2, a, b⟩
theorem IsAnsN.mono (h : IsAnsN N CE CS CL H v a) (e : Ex H H') : IsAnsN N CE CS CL H' v a := by
  cases a with
  | ea ns =>
    obtain ⟨x, q, dx, a, b, c, d, z⟩ := h
    exact ⟨x, q, dx, a, b, e _ _ c, e _ _ d, z⟩
  | sh ns =>
    obtain ⟨x, q, dx, a, b, c, d, z⟩ := h
    exact ⟨x, q, dx, a, b, e _ _ c, e _ _ d, z⟩
  | la hh ns S =>
    obtain ⟨x, q1, q2, a, b, z⟩ := h
    exact ⟨x, q1, q2, a, b.mono e, z⟩
theorem IsAnsN.keep {o : HO} (h : IsAnsN N CE CS CL H v a) (hd : d ∈ N) : IsAnsN N CE CS CL (upd H d o) v a := by
  have ne : ∀ {c : Addr}, c ∉ N → c ≠ d := fun hc z => hc (by rw [z]; exact hd)
  cases a with
  | ea ns =>
    obtain ⟨x, q, dx, a, b, c, d, z1, z2⟩ := h
    exact ⟨x, q, dx, a, b, by rw [upd_ne (ne z2)]; exact c, by rw [upd_ne (ne z1)]; exact d, z1, z2⟩
  | sh ns =>
    obtain ⟨x, q, dx, a, b, c, d, z1, z2⟩ := h
    exact ⟨x, q, dx, a, b, by rw [upd_ne (ne z2)]; exact c, by rw [upd_ne (ne z1)]; exact d, z1, z2⟩
  | la hh ns S =>
    obtain ⟨x, q1, q2, a, ⟨c1, c2, c3, c4, dx, c5⟩, z1, z2, z3⟩ := h
    exact ⟨x, q1, q2, a, ⟨c1, c2, by rw [upd_ne (ne z2)]; exact c3, by rw [upd_ne (ne z3)]; exact c4, dx, by rw [upd_ne (ne z1)]; exact c5⟩, z1, z2, z3⟩
theorem IsAnsN.more (h : IsAnsN N CE CS CL H v a) (hd : H d = none) : IsAnsN (d :: N) CE CS CL H v a := by
  have ne : ∀ {c : Addr} {o : HO}, H c = some o → c ∉ N → c ∉ d :: N := fun hc hn z => by
    rcases List.mem_cons.mp z with e | e
    · rw [e, hd] at hc
      cases hc
    · exact hn e
  cases a with
  | ea ns =>
    obtain ⟨x, q, dx, a, b, c, d, z1, z2⟩ := h
    exact ⟨x, q, dx, a, b, c, d, ne d z1, ne c z2⟩
  | sh ns =>
    obtain ⟨x, q, dx, a, b, c, d, z1, z2⟩ := h
    exact ⟨x, q, dx, a, b, c, d, ne d z1, ne c z2⟩
  | la hh ns S =>
    obtain ⟨x, q1, q2, a, ⟨c1, c2, c3, c4, dx, c5⟩, z1, z2, z3⟩ := h
    exact ⟨x, q1, q2, a, ⟨c1, c2, c3, c4, dx, c5⟩, ne c5 z1, ne c3 z2, ne c4 z3⟩
theorem ans_ea {ns : List Int} (hN : Held H N) (h : NewIns1 CE "classes" (ns.map V.int) H v H') (hl : ns.length ≤ 2000) : IsAnsN N CE CS CL H' v (.ea ns) := by
  obtain ⟨x, dx, p, z1, z2, z3, z4, z5, z6⟩ := h
  exact ⟨x, p, dx, z1, hl, z6, z5, hN.new z2, hN.new z3⟩
theorem ans_sh {ns : List Int} (hN : Held H N) (h : NewIns1 CS "teachers" (ns.map V.int) H v H') (hl : ns.length ≤ 2000) : IsAnsN N CE CS CL H' v (.sh ns) := by
  obtain ⟨x, dx, p, z1, z2, z3, z4, z5, z6⟩ := h
  exact ⟨x, p, dx, z1, hl, z6, z5, hN.new z2, hN.new z3⟩
theorem ans_la {hh : Int} {ns S : List Int} (hN : Held H N) (h : NewLast CL hh (ns.map V.int) (S.map V.int) H v H') (hl : ns.length ≤ 2000) (hl2 : S.length ≤ 2000) : IsAnsN N CE CS CL H' v (.la hh ns S) := by
  obtain ⟨x, dx, p1, p2, z1, z2, z3, z4, _, _, _, z5, z6, z7⟩ := h
  exact ⟨x, p1, p2, z1, ⟨hl, hl2, z6, z7, dx, z5⟩, hN.new z2, hN.new z3, hN.new z4⟩
end
/-- [.., ..]: lists of ints -/
theorem evp_dispInts {σ : L2.St} {H : Hp} {k : Nat} {tr : TA} (hr : EvAP tr σ H (fun _ vs H2 => vs.length ≤ k ∧ ∀ v ∈ vs, IsInts H2 v)) (hk : k ≤ 1000) : EvP (tLst tr) σ H (fun H1 v H2 => ∃ p ys, v = .ref p ∧ H1 p = none ∧ H2 p = some (.lst ys) ∧ ys.length ≤ k ∧ ∀ v ∈ ys, IsInts H2 v ∧ v ≠ .ref p) := fun H1 e Q q =>
  hr H1 e _ fun vs H2 e2 ⟨hv, hvs⟩ => ⟨sz_of (by omega), fun p np => q _ _ (e2.trans (Ex.new np)) ⟨p, _, rfl, fresh_back e2 np, upd_same, hv, fun v hv => ⟨(hvs v hv).mono (Ex.new np), fun z => by
    obtain ⟨a, ns, rfl, h2, _⟩ := hvs v hv
    have : a = p := V.ref.inj z
    rw [this, np] at h2
    cases h2⟩⟩⟩
end Lh

namespace Lh
open PySem PySem.Spec PyProof.Rows L2 Evl
/-- Plan(parts), the parts just made -/
theorem evp_makePN {K : PySem.W.Frag} {σ : L2.St} {H : Hp} {C : Addr} {te : TE} {parts : List (Prs × Int)} {E : XK} (h : EvP te σ H (fun _ v H2 => ∃ a ts ls, v = .ref a ∧ PartsAt H2 a ts ls parts)) (hl : parts.length ≤ 2000) : EvP (tMake C (sp_Plan_init K C) [] E (tCons te tNil)) σ H (NewPlan C parts) := fun H1 e Q q =>
  h H1 e _ fun v H2 e2 ⟨a, ts, ls, hv, hP⟩ x dx nx nd hne => by
    subst hv
    exact makeP nx nd hne hP hl fun v H3 e3 hv => q v H3 (e2.trans e3) (down_plan _ _ _ _ e2 hv)
theorem ep_none {σ : L2.St} {H : Hp} : EvP (tLst tNil) σ H (fun _ v H2 => ∃ a ts ls, v = .ref a ∧ PartsAt H2 a ts ls []) := (evp_l (el_lst (vs := []) ea_nil (by decide))).imp fun H1 v H2 _ _ ⟨p, hv, _, h2⟩ => ⟨p, [], [], hv, PartsAt.nil h2⟩
end Lh

namespace Lh
open PySem PySem.Spec PyProof.Rows L2 Evl
/-! ### defs that raise -/
structure CalX (P : Program) (w : World) (K : PySem.W.Frag) (mg : Str → Option Value) (base : Heap) (k : Nat) (x : Str) (ps : List Str) (sp : Sp) : Prop where
  ex : ∃ (f : Addr) (fd : FuncData), mg x = some (.ref f) ∧ PySem.W.keepIn K (.ref f) = true ∧ Bnd fd ps ∧ FnOk P w K mg base (L2.CX P w) k f fd ps sp
theorem Def.calX {P : Program} {w : World} {K : PySem.W.Frag} {mg : Str → Option Value} {base : Heap} {x : Str} {st : Stmt} {N ps : List Str} {k : Nat} {sp : Sp} (D : Def K mg x st ps) (S : FnScope N ps (defScope st)) (len : ∀ vs H Q E, sp vs H Q E → vs.length = ps.length)
    (hbody : ∀ (f : Addr) (cdv : Value) (A : Around) (outer : List Env) (s : Shared) (H : Hp) (vs : List V) (Q : VK) (E : XK), Room k (A.deeper (envOfC x (defScope st) s.heap.objs.size f cdv)) → sp vs H Q E →
      ∃ t, PSs (cxOf (L2.CX P w) P w K mg base N x (defScope st) f cdv A outer s H E) (defBody st) t ∧ t { nx := fun _ H' => Q .non H', rt := Q } (start N vs) H) : CalX P w K mg base (k + 1) x ps sp := by
  obtain ⟨f, fd, hm, F, hb⟩ := D.ex
  exact ⟨f, fd, hm, F.kp, hb, F.okX S len (hbody f)⟩
theorem pe_calX {X : Cx} {E : XK} {k j : Nat} {x : Str} {ps : List Str} {sp : Sp} {p pos : Pos} {e : Expr} {es : List Expr} {t : TA} (C : CalX X.prog X.w X.K X.mg X.base k x ps sp) (hr : Room j X.A) (hg : Gl X x) (hx : Passes (L2.CX X.prog X.w) X E) (ha : PA X (e :: es) t)
    (hjk : k ≤ j := by decide) (hdb : (x == ("__debug__" : Str)) = false := by decide) (he : starEach (e :: es) X.env = (false, eval e X.env) :: starEach es X.env := by rfl) (hpl : (backTo pos (starEach es X.env)).any (·.1) = false := by rfl) :
    PE X (.Call (.Name x p) (e :: es) [] pos) (tCall sp [] E t) := by
  obtain ⟨f, fd, hm, hk, hb, F⟩ := C.ex
  exact pe_call F (hr.mono hjk) hg hm hk (Binds.all hb) .nil hx ha hdb he hpl
theorem pe_calS {X : Cx} {W : WX} {k j : Nat} {x : Str} {ps : List Str} {sp : Sp} {p pos : Pos} {e : Expr} {es : List Expr} {t : TA} (C : CalX X.prog X.w X.K X.mg X.base k x ps sp) (hr : Room j X.A) (hg : Gl X x) (tk : Takes X W) (ha : PA X (e :: es) t)
    (hjk : k ≤ j := by decide) (hdb : (x == ("__debug__" : Str)) = false := by decide) (he : starEach (e :: es) X.env = (false, eval e X.env) :: starEach es X.env := by rfl) (hpl : (backTo pos (starEach es X.env)).any (·.1) = false := by rfl) :
    PE X (.Call (.Name x p) (e :: es) [] pos) (tCallS sp (WE W) t) := by
  obtain ⟨f, fd, hm, hk, hb, F⟩ := C.ex
  exact pe_callS F (hr.mono hjk) hg hm hk (Binds.all hb) (fun σ => passAt tk σ) ha hdb he hpl
theorem pss_exc {X : Cx} {st : List Stmt} {cls : Value} {d : Option Addr} {K : PySem.W.Frag} {t : Addr → TS} (h : ∀ Dc, cls = .ref Dc → d = none → ExcC K Dc → PSs X st (t Dc)) : PSs X st (fun D σ H => ∃ Dc, cls = .ref Dc ∧ d = none ∧ ExcC K Dc ∧ t Dc D σ H) :=
  ⟨fun pins s σ H D I hw => by
    obtain ⟨Dc, h1, h2, h3, h4⟩ := hw
    exact (h Dc h1 h2 h3).run pins s σ H D I h4⟩
theorem zc_of {cls : Value} {d : Option Addr} {Dc : Addr} {oe : Obj} (h1 : cls = .ref Dc) (h2 : d = none) (hz : Zc cls d oe) : Zc (.ref Dc) none oe := by
  subst h1
  subst h2
  exact hz
theorem ev_isE {K : PySem.W.Frag} {σ : L2.St} {H : Hp} {ta : TE} {D a : Addr} {c : V} {cv : Value} {b : Bool} (h : Ev ta σ H (.ref a)) (hc : ∀ u, RelV c u → u = cv) (hk : PySem.W.kitOne K (.ref D) cv = some b) : Ev (tCB (rIsE K D a) (tCons ta (tCons (tC c) tNil))) σ H (.bl b) := fun H1 e Q q =>
  h H1 e _ fun H2 e2 => ⟨c, cv, b, rfl, hc, hk, q H2 e2⟩
/-! ### the errors -/
structure Err (K : PySem.W.Frag) (mg : Str → Option Value) (x : Str) (C CH : Addr) : Prop where
  g : mg x = some (.ref C)
  x : PySem.W.excIn K C [.type "ValueError", .type "Exception", .type "BaseException", .type "object"] "ValueError.__new__" = true
  k : PySem.W.keepIn K (.ref C) = true
  b : PySem.W.subIn K (.ref C) (.type "BaseException") = some true
  t : PySem.W.typeIn K (.ref C) = some (.type "type")
  s : PySem.W.subIn K (.ref C) (.ref CH) = some true
  c : ExcC K C
structure CsX (K : PySem.W.Frag) (mg : Str → Option Value) (CT CB CH : Addr) : Prop where
  T : Err K mg "BadTable" CT CH
  B : Err K mg "BadHours" CB CH
  gH : mg "HourError" = some (.ref CH)
  bH : PySem.W.subIn K (.ref CH) (.type "BaseException") = some true
  dH : PySem.W.hasDictIn K CH = true
  tH : PySem.W.typeIn K (.ref CH) = some (.type "type")
  gV : mg "ValueError" = none
  TT : PySem.W.kitOne K (.ref CT) (.ref CT) = some true
  TB : PySem.W.kitOne K (.ref CT) (.ref CB) = some false
  TV : PySem.W.kitOne K (.ref CT) (.type "ValueError") = some true
  BT : PySem.W.kitOne K (.ref CB) (.ref CT) = some false
  BB : PySem.W.kitOne K (.ref CB) (.ref CB) = some true
  BV : PySem.W.kitOne K (.ref CB) (.type "ValueError") = some true
theorem CsX.eT {K : PySem.W.Frag} {mg : Str → Option Value} {CT CB CH : Addr} (c : CsX K mg CT CB CH) : PySem.W.exmOne K (.ref CT) (.ref CH) = some true := PySem.W.exm_ref c.bH c.dH c.tH c.T.s
theorem CsX.eB {K : PySem.W.Frag} {mg : Str → Option Value} {CT CB CH : Addr} (c : CsX K mg CT CB CH) : PySem.W.exmOne K (.ref CB) (.ref CH) = some true := PySem.W.exm_ref c.bH c.dH c.tH c.B.s
/-! ### what is no table -/
def NotL (K : PySem.W.Frag) (H : Hp) (v : V) : Prop := ∃ T, TyX K H v (.type T) ∧ kitB T "list" = some false
def NumOk (v : V) : Prop := ∃ i : Int, 0 ≤ i ∧ v = .int i
def NumBad (K : PySem.W.Frag) (H : Hp) (v : V) : Prop := (∃ i : Int, i < 0 ∧ v = .int i) ∨ ∃ (T : String) (b1 b2 : Bool), TyX K H v (.type T) ∧ kitB T "int" = some b1 ∧ kitB T "bool" = some b2 ∧ (b1 && !b2) = false
def BadRow (K : PySem.W.Frag) (H : Hp) (m : Nat) (v : V) : Prop := NotL K H v ∨ ∃ a zs, v = .ref a ∧ H a = some (.lst zs) ∧ zs.length ≤ 100 ∧ (zs.length ≠ m ∨ (zs.length = m ∧ (∀ z ∈ zs, NumOk z ∨ NumBad K H z) ∧ ∃ z ∈ zs, NumBad K H z))
def GoodRow (H : Hp) (m : Nat) (v : V) : Prop := ∃ a zs, v = .ref a ∧ H a = some (.lst zs) ∧ zs.length = m ∧ ∀ z ∈ zs, NumOk z
def BadRows (K : PySem.W.Frag) (H : Hp) (xs : List V) : Prop := (xs = [] ∨ 20 < xs.length) ∨ ∃ x, xs[0]? = some x ∧ xs.length ≤ 20 ∧ (NotL K H x ∨ ∃ a0 ys, x = .ref a0 ∧ H a0 = some (.lst ys) ∧ (ys = [] ∨ 20 < ys.length ∨ (1 ≤ ys.length ∧ ys.length ≤ 20 ∧ ∃ i : Nat, (∃ u, xs[i]? = some u ∧ BadRow K H ys.length u) ∧ ∀ j u, j < i → xs[j]? = some u → GoodRow H ys.length u)))
def BadTab (K : PySem.W.Frag) (H : Hp) (v : V) : Prop := NotL K H v ∨ ∃ a xs, v = .ref a ∧ H a = some (.lst xs) ∧ BadRows K H xs
section
variable {K : PySem.W.Frag} {H H' : Hp} {v : V} {m : Nat}
theorem NotL.mono (h : NotL K H v) (e : Ex H H') : NotL K H' v := by
  obtain ⟨T, a, b⟩ := h
  exact ⟨T, tyx_mono e a, b⟩
theorem NumBad.mono (h : NumBad K H v) (e : Ex H H') : NumBad K H' v := by
  rcases h with h | ⟨T, b1, b2, a, b⟩
  · exact .inl h
  · exact .inr ⟨T, b1, b2, tyx_mono e a, b⟩
theorem BadRow.mono (h : BadRow K H m v) (e : Ex H H') : BadRow K H' m v := by
  rcases h with h | ⟨a, zs, h1, h2, h3, h4⟩
  · exact .inl (h.mono e)
  · refine .inr ⟨a, zs, h1, e _ _ h2, h3, ?_⟩
    rcases h4 with h4 | ⟨h4, h5, z, hz, h6⟩
    · exact .inl h4
    · exact .inr ⟨h4, fun z hz => (h5 z hz).imp id fun y => y.mono e, z, hz, h6.mono e⟩
theorem GoodRow.mono (h : GoodRow H m v) (e : Ex H H') : GoodRow H' m v := by
  obtain ⟨a, zs, h1, h2, h3⟩ := h
  exact ⟨a, zs, h1, e _ _ h2, h3⟩
theorem BadRows.mono {xs : List V} (h : BadRows K H xs) (e : Ex H H') : BadRows K H' xs := by
  rcases h with h | ⟨x, h1, h2, h3⟩
  · exact .inl h
  · refine .inr ⟨x, h1, h2, ?_⟩
    rcases h3 with h3 | ⟨a0, ys, h4, h5, h6⟩
    · exact .inl (h3.mono e)
    · refine .inr ⟨a0, ys, h4, e _ _ h5, ?_⟩
      rcases h6 with h6 | h6 | ⟨h7, h8, i, ⟨u, hu, hb⟩, hj⟩
      · exact .inl h6
      · exact .inr (.inl h6)
      · exact .inr (.inr ⟨h7, h8, i, ⟨u, hu, hb.mono e⟩, fun j u a b => (hj j u a b).mono e⟩)
theorem BadTab.mono (h : BadTab K H v) (e : Ex H H') : BadTab K H' v := by
  rcases h with h | ⟨a, xs, h1, h2, h3⟩
  · exact .inl (h.mono e)
  · exact .inr ⟨a, xs, h1, e _ _ h2, h3.mono e⟩
end
/-! ### promises -/
/-- raises, whatever stands behind -/
def Out (C : Addr) (H : Hp) (E : XK) : Prop := ∀ H', Ex H H' → E (.ref C) none H'
theorem Out.mono {C : Addr} {H H' : Hp} {E : XK} (h : Out C H E) (e : Ex H H') : Out C H' E := fun H2 e2 => h H2 (e.trans e2)
def sp_bad1 (K : PySem.W.Frag) (CT : Addr) : Sp := fun vs H _ E => ∃ v, vs = [v] ∧ BadTab K H v ∧ Out CT H E
def sp_bad2 (K : PySem.W.Frag) (CT : Addr) : Sp := fun vs H _ E => ∃ v x, vs = [v, x] ∧ BadTab K H v ∧ Out CT H E
/-- no hours, or too few -/
def BadHrs (K : PySem.W.Frag) (H : Hp) (M : Int) (v : V) : Prop := (∃ i : Int, i < M ∧ v = .int i) ∨ ∃ (T : String) (b1 b2 : Bool), TyX K H v (.type T) ∧ kitB T "int" = some b1 ∧ kitB T "bool" = some b2 ∧ (b1 && !b2) = false
def sp_raised_hrs (K : PySem.W.Frag) (CB : Addr) : Sp := fun vs H _ E => ∃ a rs T n m v, vs = [.ref a, v] ∧ Tab H a rs T ∧ Good T n m ∧ BadHrs K H (fullM T m) v ∧ Out CB H E
def sp_lasting_few (K : PySem.W.Frag) (CT : Addr) : Sp := fun vs H _ E => ∃ a rs T n m, vs = [.ref a] ∧ Tab H a rs T ∧ Good T n m ∧ m < n ∧ Out CT H E
/-- more teachers than classes: none can have one each -/
theorem few_none {T : List (List Int)} {n m : Nat} {l : Int} {L : List Nat} (h : Choice T n m l L) (hnm : m < n) : False := by
  have := phpN (l := L) (m := List.range m) h.nd fun p hp => by
    obtain ⟨t, ht⟩ := List.getElem?_of_mem hp
    exact List.mem_range.mpr (h.adj t p ht).2.1
  rw [h.len, List.length_range] at this
  omega
/-! ### bad things made -/
section
variable {K : PySem.W.Frag} {σ : L2.St} {H : Hp} {te : TE} {tr : TA}
abbrev PB (K : PySem.W.Frag) : Hp → V → Hp → Prop := fun _ v H2 => BadTab K H2 v
theorem eb_nil : EvAP tNil σ H (fun _ vs H2 => vs.length = 0 ∧ ∀ v ∈ vs, BadTab K H2 v) := fun H1 _ Q q => q [] H1 (Ex.refl _) ⟨rfl, fun v hv => nomatch hv⟩
theorem eb_cons {k : Nat} (h : EvP te σ H (PB K)) (hr : EvAP tr σ H (fun _ vs H2 => vs.length = k ∧ ∀ v ∈ vs, BadTab K H2 v)) : EvAP (tCons te tr) σ H (fun _ vs H2 => vs.length = k + 1 ∧ ∀ v ∈ vs, BadTab K H2 v) := fun H1 e Q q =>
  h H1 e _ fun v H2 e2 hv => hr H2 (e.trans e2) _ fun vs H3 e3 ⟨hl, hvs⟩ => q (v :: vs) H3 (e2.trans e3) ⟨by rw [List.length_cons, hl], fun u hu => by
    rcases List.mem_cons.mp hu with z | z
    · rw [z]
      exact hv.mono e3
    · exact hvs u z⟩
abbrev NewBad (K : PySem.W.Frag) (k : Nat) : Hp → V → Hp → Prop := fun _ v H2 => ∃ p vs, v = .ref p ∧ H2 p = some (.lst vs) ∧ vs.length = k ∧ ∀ u ∈ vs, BadTab K H2 u
theorem eb_disp {k : Nat} (h : EvAP tr σ H (fun _ vs H2 => vs.length = k ∧ ∀ v ∈ vs, BadTab K H2 v)) (hk : k ≤ 1000) : EvP (tLst tr) σ H (NewBad K k) := fun H1 e Q q =>
  h H1 e _ fun vs H2 e2 ⟨hl, hvs⟩ => ⟨sz_of (by omega), fun p np => q _ _ (e2.trans (Ex.new np)) ⟨p, vs, rfl, upd_same, hl, fun u hu => (hvs u hu).mono (Ex.new np)⟩⟩
theorem eb_ty {v : V} {T : String} (h : Ev te σ H v) (ty : ∀ H1, Ex H H1 → TyX K H1 v (.type T)) (hk : kitB T "list" = some false) : EvP te σ H (PB K) := fun H1 e Q q => h H1 e _ fun H2 e2 => q v H2 e2 (.inl ⟨T, ty H2 (e.trans e2), hk⟩)
theorem eb_tup {xs : List V} (h : EvU te σ H xs) : EvP te σ H (PB K) := (evp_u h).imp fun H1 v H2 _ _ ⟨p, hv, _, h2⟩ => .inl ⟨"tuple", by rw [hv]; exact tx_tup h2, by decide +kernel⟩
/-- a list, by what it holds -/
theorem eb_lst {P : Hp → List V → Hp → Prop} (h : EvAP tr σ H P) (hp : ∀ H1 vs H2, P H1 vs H2 → vs.length ≤ 1000 ∧ BadRows K H2 vs) : EvP (tLst tr) σ H (PB K) := fun H1 e Q q =>
  h H1 e _ fun vs H2 e2 hv => ⟨sz_of (by have := (hp H1 vs H2 hv).1; omega), fun p np => q _ _ (e2.trans (Ex.new np)) (.inr ⟨p, vs, rfl, upd_same, (hp H1 vs H2 hv).2.mono (Ex.new np)⟩)⟩
end
/-! ### ways that only raise -/
def Rz (te : TE) (σ : L2.St) (H : Hp) : Prop := ∀ H1, Ex H H1 → ∀ Q, te σ H1 Q
section
variable {K : PySem.W.Frag} {σ : L2.St} {H : Hp} {te ta tb tx : TE} {t u : TT} {D : Ends} {tz tu : TS} {sp : Sp} {E : XK} {v x : V} {CT CB : Addr}
theorem q_rz (h : Rz te σ H) : tSeq (tDrop te) tz D σ H := h H (Ex.refl H) _
theorem s_rz (h : Rz te σ H) : tDrop te D σ H := h H (Ex.refl H) _
theorem r_rz (h : Rz te σ H) : tRet te D σ H := h H (Ex.refl H) _
theorem rz_if {b : Bool} (h : EvT t σ H b) (h1 : b = true → Rz ta σ H) (h2 : b = false → Rz tb σ H) : Rz (tIf t ta tb) σ H := fun H1 e Q => h H1 e _ fun H2 e2 => by
  cases b with
  | true =>
    show ta σ H2 Q
    exact h1 rfl H2 (e.trans e2) Q
  | false =>
    show tb σ H2 Q
    exact h2 rfl H2 (e.trans e2) Q
theorem rz_bad1 (h : Ev te σ H v) (hB : BadTab K H v) (hO : Out CT H E) : Rz (tCall (sp_bad1 K CT) [] E (tCons te tNil)) σ H := fun H1 e Q =>
  h H1 e _ fun H2 e2 => ⟨v, rfl, hB.mono (e.trans e2), hO.mono (e.trans e2)⟩
theorem rz_bad2 (h : Ev te σ H v) (hx : Ev tx σ H x) (hB : BadTab K H v) (hO : Out CT H E) : Rz (tCall (sp_bad2 K CT) [] E (tCons te (tCons tx tNil))) σ H := fun H1 e Q =>
  h H1 e _ fun H2 e2 => hx H2 (e.trans e2) _ fun H3 e3 => ⟨v, x, rfl, hB.mono ((e.trans e2).trans e3), hO.mono ((e.trans e2).trans e3)⟩
theorem et_orT (h : EvT t σ H true) : EvT (tOr t u) σ H true := et_or (b := true) h fun z => nomatch z
theorem et_orF {b : Bool} (h : EvT t σ H false) (h2 : EvT u σ H b) : EvT (tOr t u) σ H b := et_is (et_or h fun _ => h2) (Bool.false_or b)
end
/-! ### numbers, looked at -/
open Classical in
noncomputable def numB (v : V) : Bool := decide (NumOk v)
theorem num_excl {K : PySem.W.Frag} {H : Hp} {v : V} (h : NumBad K H v) : ¬ NumOk v := by
  rintro ⟨i, hi, rfl⟩
  rcases h with ⟨j, hj, e⟩ | ⟨T, b1, b2, ty, h1, h2, h3⟩
  · cases e
    omega
  · have hT : T = "int" := by
      cases ty with
      | base b => cases b; rfl
    subst hT
    have e1 : kitB "int" "int" = some true := by decide +kernel
    have e2 : kitB "int" "bool" = some false := by decide +kernel
    rw [e1] at h1
    rw [e2] at h2
    cases h1
    cases h2
    cases h3
theorem numB_ok {v : V} (h : NumOk v) : numB v = true := by
  unfold numB
  exact @decide_eq_true _ (Classical.propDecidable _) h
theorem numB_bad {K : PySem.W.Frag} {H : Hp} {v : V} (h : NumBad K H v) : numB v = false := by
  unfold numB
  exact @decide_eq_false _ (Classical.propDecidable _) (num_excl h)
/-- is_number(hours) and hours >= 0 -/
theorem ev_num {K : PySem.W.Frag} {σ : L2.St} {H : Hp} {te : TE} {v : V} {E : XK} (h : Ev te σ H v) (hn : NumOk v ∨ NumBad K H v) : Ev (tAndV (tCall (sp_is_number K) [] E (tCons te tNil)) (tOp (rI0 fun i j => .bl (decide (j ≤ i))) te (tC (.int 0)))) σ H (.bl (numB v)) := by
  rcases hn with hn | hn
  · rw [numB_ok hn]
    obtain ⟨i, hi, rfl⟩ := hn
    exact ev_is (ev_andV (a := true) (b := true) (ev_number h) fun _ => ev_is (ev_ge h ev_c) (by rw [decide_eq_true hi])) rfl
  · rw [numB_bad hn]
    rcases hn with ⟨i, hi, rfl⟩ | ⟨T, b1, b2, ty, h1, h2, h3⟩
    · exact ev_is (ev_andV (a := true) (b := false) (ev_number h) fun _ => ev_is (ev_ge h ev_c) (by rw [decide_eq_false (by omega)])) rfl
    · exact ev_is (ev_andV (a := false) (b := false) (ev_callV (ea_cons h ea_nil) fun H1 e Q k => ⟨v, T, b1, b2, rfl, tyx_mono e ty, h1, h2, by rw [h3]; exact k⟩) fun z => nomatch z) rfl
/-- all([is_number(hours) and hours >= 0 for hours in row]) -/
theorem ev_allNum {K : PySem.W.Frag} {σ : L2.St} {H : Hp} {tl te : TE} {a : Addr} {zs : List V} {j : Nat} {vs : List Nat} {E : XK} (h : Ev tl σ H (.ref a)) (hx : H a = some (.lst zs)) (hz : zs.length ≤ 1000) (hn : ∀ z ∈ zs, NumOk z ∨ NumBad K H z) (hw : ∀ x, wipe ((wipe σ vs).set j (some x)) vs = wipe σ vs) (hj : ∀ x H1, Ev te ((wipe σ vs).set j (some x)) H1 x) :
    Ev (tCB (rAll K) (tCons (tLc (iList K tl) (gName j) tYes (tAndV (tCall (sp_is_number K) [] E (tCons te tNil)) (tOp (rI0 fun i j => .bl (decide (j ≤ i))) te (tC (.int 0)))) vs) tNil)) σ H (.bl (zs.all numB)) := by
  refine ev_is (ev_allL (bs := zs.map numB) ?_) (by rw [List.all_map]; rfl)
  have hg : (zs.map numB).map V.bl = given zs.length (fun _ => true) (fun i => .bl (numB (zs.getD i .non))) := by
    refine (given_all (by simp) fun i x hx => ?_).symm
    rw [List.map_map, List.getElem?_map] at hx
    cases hq : zs[i]? with
    | none => rw [hq] at hx; cases hx
    | some z =>
      rw [hq] at hx
      have e : zs.getD i .non = z := by simp [List.getD, hq]
      rw [e]
      exact Option.some.inj hx
  rw [hg]
  refine el_lcL _ _ h (sq_of hx) (by omega) hw (fun i x H1 e1 hi => et_yes) (fun i x H1 e1 hi _ => ?_)
  have e : zs.getD i .non = x := by simp [List.getD, hi]
  rw [e]
  exact ev_num (hj x H1) ((hn x (List.mem_of_getElem? hi)).imp id fun y => y.mono e1)
/-! ### displays of things of all sorts -/
def Mo (I : Hp → V → Prop) : Prop := ∀ H H' v, Ex H H' → I H v → I H' v
def isC (x : V) : Hp → V → Prop := fun _ v => v = x
def isL (xs : List V) : Hp → V → Prop := fun H v => ∃ p, v = .ref p ∧ H p = some (.lst xs)
def isU (xs : List V) : Hp → V → Prop := fun H v => ∃ p, v = .ref p ∧ H p = some (.tup xs)
def isDN : Hp → V → Prop := fun H v => ∃ p, v = .ref p ∧ H p = some (.dK [])
theorem mo_c {x : V} : Mo (isC x) := fun _ _ _ _ h => h
theorem mo_l {xs : List V} : Mo (isL xs) := fun _ _ _ e ⟨p, a, b⟩ => ⟨p, a, e _ _ b⟩
theorem mo_u {xs : List V} : Mo (isU xs) := fun _ _ _ e ⟨p, a, b⟩ => ⟨p, a, e _ _ b⟩
theorem mo_d : Mo isDN := fun _ _ _ e ⟨p, a, b⟩ => ⟨p, a, e _ _ b⟩
def Its (H : Hp) : List V → List (Hp → V → Prop) → Prop
  | [], [] => True
  | v :: vs, I :: Is => I H v ∧ Its H vs Is
  | _, _ => False
section
variable {K : PySem.W.Frag} {σ : L2.St} {H : Hp} {te ta tb : TE} {tr : TA} {I : Hp → V → Prop} {Is : List (Hp → V → Prop)}
theorem it_c {x : V} (h : Ev te σ H x) : EvP te σ H (fun _ v H2 => isC x H2 v) := (evp_of h).imp fun _ _ _ _ _ z => z
theorem it_l {xs : List V} (h : EvL te σ H xs) : EvP te σ H (fun _ v H2 => isL xs H2 v) := (evp_l h).imp fun _ _ _ _ _ ⟨p, a, _, c⟩ => ⟨p, a, c⟩
theorem it_u {xs : List V} (h : EvU te σ H xs) : EvP te σ H (fun _ v H2 => isU xs H2 v) := (evp_u h).imp fun _ _ _ _ _ ⟨p, a, _, c⟩ => ⟨p, a, c⟩
theorem it_d : EvP tDNewK σ H (fun _ v H2 => isDN H2 v) := fun H1 _ Q q => fun p np => q _ _ (Ex.new np) ⟨p, rfl, upd_same⟩
theorem its_nil : EvAP tNil σ H (fun _ vs H2 => Its H2 vs []) := fun H1 _ Q q => q [] H1 (Ex.refl _) trivial
theorem its_cons (m : Mo I) (h : EvP te σ H (fun _ v H2 => I H2 v)) (hr : EvAP tr σ H (fun _ vs H2 => Its H2 vs Is)) : EvAP (tCons te tr) σ H (fun _ vs H2 => Its H2 vs (I :: Is)) := fun H1 e Q q =>
  h H1 e _ fun v H2 e2 hv => hr H2 (e.trans e2) _ fun vs H3 e3 hs => q (v :: vs) H3 (e2.trans e3) ⟨m _ _ _ e3 hv, hs⟩
/-- all of one sort -/
theorem all_nil : EvAP tNil σ H (fun _ vs H2 => vs.length = 0 ∧ ∀ v ∈ vs, I H2 v) := fun H1 _ Q q => q [] H1 (Ex.refl _) ⟨rfl, fun v hv => nomatch hv⟩
theorem all_cons {k : Nat} (m : Mo I) (h : EvP te σ H (fun _ v H2 => I H2 v)) (hr : EvAP tr σ H (fun _ vs H2 => vs.length = k ∧ ∀ v ∈ vs, I H2 v)) : EvAP (tCons te tr) σ H (fun _ vs H2 => vs.length = k + 1 ∧ ∀ v ∈ vs, I H2 v) := fun H1 e Q q =>
  h H1 e _ fun v H2 e2 hv => hr H2 (e.trans e2) _ fun vs H3 e3 ⟨hl, hvs⟩ => q (v :: vs) H3 (e2.trans e3) ⟨by rw [List.length_cons, hl], fun u hu => by
    rcases List.mem_cons.mp hu with z | z
    · rw [z]
      exact m _ _ _ e3 hv
    · exact hvs u z⟩
theorem all_disp {k : Nat} (m : Mo I) (h : EvAP tr σ H (fun _ vs H2 => vs.length = k ∧ ∀ v ∈ vs, I H2 v)) (hk : k ≤ 1000) : EvP (tLst tr) σ H (fun _ v H2 => ∃ p vs, v = .ref p ∧ H2 p = some (.lst vs) ∧ vs.length = k ∧ ∀ u ∈ vs, I H2 u) := fun H1 e Q q =>
  h H1 e _ fun vs H2 e2 ⟨hl, hvs⟩ => ⟨sz_of (by omega), fun p np => q _ _ (e2.trans (Ex.new np)) ⟨p, vs, rfl, upd_same, hl, fun u hu => m _ _ _ (Ex.new np) (hvs u hu)⟩⟩
/-- xs[i] of such a display -/
theorem all_ix {k : Nat} {i : Int} (m : Mo I) (h : EvP ta σ H (fun _ v H2 => ∃ p vs, v = .ref p ∧ H2 p = some (.lst vs) ∧ vs.length = k ∧ ∀ u ∈ vs, I H2 u)) (hi : Ev tb σ H (.int i)) (h0 : 0 ≤ i) (h1 : i < (k : Int)) : EvP (tOp (rIxL K) ta tb) σ H (fun _ v H2 => I H2 v) :=
  evp_ixPL h (fun H1 e1 => hi.mono e1) (fun H1 u H2 ⟨p, vs, hu, hp, hl, hv⟩ => by
    have hk : i.toNat < vs.length := by omega
    exact ⟨p, vs, vs[i.toNat], hu, sq_of hp, atI_of (j := i.toNat) (by omega) (by simp [hk]), hv _ (List.getElem_mem hk)⟩) fun H1 v H2 H3 e z => m _ _ _ e z
theorem mo_bt : Mo (BadTab K) := fun _ _ _ e h => h.mono e
theorem mo_nb : Mo (NumBad K) := fun _ _ _ e h => h.mono e
theorem mo_bh {x : Int} : Mo (fun H v => BadHrs K H x v) := fun _ _ _ e h => by
  rcases h with h | ⟨T, b1, b2, a, b⟩
  · exact .inl h
  · exact .inr ⟨T, b1, b2, tyx_mono e a, b⟩
theorem it_sub {I' : Hp → V → Prop} (h : EvP te σ H (fun _ v H2 => I H2 v)) (hs : ∀ H v, I H v → I' H v) : EvP te σ H (fun _ v H2 => I' H2 v) := h.imp fun _ v H2 _ _ z => hs H2 v z
/-- a list of such items is no table -/
theorem bt_its (h : EvAP tr σ H (fun _ vs H2 => Its H2 vs Is)) (hp : ∀ H2 vs, Its H2 vs Is → vs.length ≤ 1000 ∧ BadRows K H2 vs) : EvP (tLst tr) σ H (PB K) := eb_lst h fun H1 vs H2 hv => hp H2 vs hv
end
theorem nl_int {K : PySem.W.Frag} {H : Hp} {i : Int} : NotL K H (.int i) := ⟨"int", tx_int, by decide +kernel⟩
theorem nl_str {K : PySem.W.Frag} {H : Hp} {x : Str} : NotL K H (.str x) := ⟨"str", .base (.str x), by decide +kernel⟩
theorem nl_non {K : PySem.W.Frag} {H : Hp} : NotL K H .non := ⟨"NoneType", .base .non, by decide +kernel⟩
theorem nl_tup {K : PySem.W.Frag} {H : Hp} {v : V} {xs : List V} (h : isU xs H v) : NotL K H v := by
  obtain ⟨p, rfl, hp⟩ := h
  exact ⟨"tuple", tx_tup hp, by decide +kernel⟩
theorem nl_dict {K : PySem.W.Frag} {H : Hp} {v : V} (h : isDN H v) : NotL K H v := by
  obtain ⟨p, rfl, hp⟩ := h
  exact ⟨"dict", .base (.dK hp), by decide +kernel⟩
theorem nb_non {K : PySem.W.Frag} {H : Hp} : NumBad K H .non := .inr ⟨"NoneType", false, false, .base .non, by decide +kernel, by decide +kernel, rfl⟩
theorem nb_str {K : PySem.W.Frag} {H : Hp} {x : Str} : NumBad K H (.str x) := .inr ⟨"str", false, false, .base (.str x), by decide +kernel, by decide +kernel, rfl⟩
theorem nb_bl {K : PySem.W.Frag} {H : Hp} {b : Bool} : NumBad K H (.bl b) := .inr ⟨"bool", true, true, .base (.bl b), by decide +kernel, by decide +kernel, rfl⟩
theorem nb_lst {K : PySem.W.Frag} {H : Hp} {v : V} {xs : List V} (h : isL xs H v) : NumBad K H v := by
  obtain ⟨p, rfl, hp⟩ := h
  exact .inr ⟨"list", false, false, tx_lst hp, by decide +kernel, by decide +kernel, rfl⟩
theorem nb_tup {K : PySem.W.Frag} {H : Hp} {v : V} {xs : List V} (h : isU xs H v) : NumBad K H v := by
  obtain ⟨p, rfl, hp⟩ := h
  exact .inr ⟨"tuple", false, false, tx_tup hp, by decide +kernel, by decide +kernel, rfl⟩
theorem nb_dict {K : PySem.W.Frag} {H : Hp} {v : V} (h : isDN H v) : NumBad K H v := by
  obtain ⟨p, rfl, hp⟩ := h
  exact .inr ⟨"dict", false, false, .base (.dK hp), by decide +kernel, by decide +kernel, rfl⟩
theorem bh_of {K : PySem.W.Frag} {H : Hp} {v : V} {x : Int} (h : NumBad K H v) (hx : 0 ≤ x) : BadHrs K H x v := by
  rcases h with ⟨i, hi, e⟩ | h
  · exact .inl ⟨i, by omega, e⟩
  · exact .inr h
/-- the first row a list; then it is the second that is wrong -/
theorem br_two {K : PySem.W.Frag} {H : Hp} {a b : V} {ns : List Int} (h1 : isL (ns.map V.int) H a) (hn : 1 ≤ ns.length ∧ ns.length ≤ 20) (hp : ∀ x ∈ ns, 0 ≤ x) (h2 : BadRow K H ns.length b) : BadRows K H [a, b] := by
  obtain ⟨p, rfl, hp1⟩ := h1
  refine .inr ⟨.ref p, rfl, by show 2 ≤ 20; decide, .inr ⟨p, _, rfl, hp1, .inr (.inr ⟨by rw [List.length_map]; exact hn.1, by rw [List.length_map]; exact hn.2, 1, ⟨b, rfl, by rw [List.length_map]; exact h2⟩, fun j u hj hu => ?_⟩)⟩⟩
  have : j = 0 := by omega
  subst this
  have e : V.ref p = u := Option.some.inj hu
  subst e
  refine ⟨p, _, rfl, hp1, rfl, fun z hz => ?_⟩
  obtain ⟨i, hi, rfl⟩ := List.mem_map.mp hz
  exact ⟨i, hp i hi, rfl⟩
theorem brow_len {K : PySem.W.Frag} {H : Hp} {b : V} {zs : List V} {m : Nat} (h : isL zs H b) (hl : zs.length ≤ 100) (hm : zs.length ≠ m) : BadRow K H m b := by
  obtain ⟨p, rfl, hp⟩ := h
  exact .inr ⟨p, zs, rfl, hp, hl, .inl hm⟩
/-! ### what the law's except says -/
theorem s_told {K : PySem.W.Frag} {σ : L2.St} {H : Hp} {D : Ends} {C CT CB a : Addr} {b1 b2 b3 : Bool} (hi : ∀ x, (σ.set 6 x)[5]? = some (some (.ref a))) (h6 : ∀ x, (σ.set 6 x)[6]? = some x) (hi0 : σ[5]? = some (some (.ref a))) (k1 : PySem.W.kitOne K (.ref C) (.ref CT) = some b1) (k2 : PySem.W.kitOne K (.ref C) (.ref CB) = some b2) (k3 : PySem.W.kitOne K (.ref C) (.type "ValueError") = some b3)
    (k : ∀ p H', Ex H H' → H' p = some (.lst [.bl b1, .bl b2, .bl b3]) → D.rt (.ref p) H') :
    tSeq (tAsg (tLst (tCons (tCB (rIsE K C a) (tCons (tVar 5) (tCons (tC (.ref CT)) tNil))) (tCons (tCB (rIsE K C a) (tCons (tVar 5) (tCons (tC (.ref CB)) tNil))) tNil))) (gName 6)) (tRet (tOp rCat (tVar 6) (tLst (tCons (tCB (rIsE K C a) (tCons (tVar 5) (tCons (tC (.ty "ValueError")) tNil))) tNil)))) D σ H := by
  refine q_asgL (xs := [.bl b1, .bl b2]) (el_lst (ea_cons (ev_isE (ev_var hi0) (fun u r => by cases r; rfl) k1) (ea_cons (ev_isE (ev_var hi0) (fun u r => by cases r; rfl) k2) ea_nil)) (by show 2 ≤ 100000; decide)) fun p H1 np e1 h1 => ?_
  refine sp_ret (evp_l (el_catN (ev_var (h6 _)) (el_lst (ea_cons (ev_isE (ev_var (hi _)) (fun u r => by cases r; rfl) k3) ea_nil) (by show 1 ≤ 100000; decide)) h1 (by show 2 + 1 ≤ 100000; decide))) fun v H2 e2 ⟨q, hv, _, h2⟩ => ?_
  subst hv
  exact k q H2 (e1.trans e2) h2
end Lh

namespace Lh
open PySem PySem.Spec PyProof.Rows L2 Evl
/-! ### lists of cases -/
section
variable {K : PySem.W.Frag} {σ : L2.St} {H : Hp} {te ta tb tc td tl : TE} {tr : TA} {I : Hp → V → Prop} {D : Ends} {tu tz : TS} {g : TG} {a : Addr} {xs : List V}
theorem all_cat {k : Nat} (m : Mo I) (ha : Ev ta σ H (.ref a)) (hx : H a = some (.lst xs)) (hl : xs.length ≤ 1000) (hxs : ∀ v ∈ xs, I H v) (hb : EvP tb σ H (fun _ v H2 => ∃ p vs, v = .ref p ∧ H2 p = some (.lst vs) ∧ vs.length = k ∧ ∀ u ∈ vs, I H2 u)) (hk : k ≤ 1000) : EvP (tOp rCat ta tb) σ H (fun _ v H2 => ∃ p vs, v = .ref p ∧ H2 p = some (.lst vs) ∧ vs.length = xs.length + k ∧ ∀ u ∈ vs, I H2 u) := fun H1 e Q q =>
  ha H1 e _ fun H2 e2 => hb H2 (e.trans e2) _ fun v H3 e3 ⟨b, ys, hv, hb3, hyl, hys⟩ => ⟨a, b, xs, ys, rfl, hv, ((e.trans e2).trans e3) _ _ hx, hb3, sz_of (by omega), fun p np => q _ _ ((e2.trans e3).trans (Ex.new np)) ⟨p, _, rfl, upd_same, by rw [List.length_append, hyl], fun u hu => by
    rcases List.mem_append.mp hu with z | z
    · exact m _ _ _ (((e.trans e2).trans e3).trans (Ex.new np)) (hxs u z)
    · exact m _ _ _ (Ex.new np) (hys u z)⟩⟩
theorem q_forAll (h : Ev tl σ H (.ref a)) (hx : H a = some (.lst xs)) (m : Mo I) (hI : ∀ v ∈ xs, I H v) (Sh : L2.St → Prop) (h0 : Sh σ) (hs : ∀ v σ' H', Sh σ' → Ex H H' → I H' v → g v σ' H' fun σ2 H2 => tu { D with nx := fun σ' H' => Sh σ' ∧ Ex H H', ct := fun σ' H' => Sh σ' ∧ Ex H H', bk := tz D } σ2 H2) (hd : ∀ σ' H', Sh σ' → Ex H H' → tz D σ' H') : tSeq (tFor (iList K tl) g tu) tz D σ H :=
  q_forL h (sq_of hx) (fun _ σ' H' => Sh σ' ∧ Ex H H') (fun H1 e1 => ⟨h0, e1⟩) (fun i σ' H' _ z => sq_of (z.2 _ _ hx)) (fun i x σ' H' hx z => hs x σ' H' z.1 z.2 (m _ _ _ z.2 (hI x (List.mem_of_getElem? hx)))) fun σ' H' z => hd σ' H' z.1 z.2
theorem gthree {x y z : V} {i j k : Nat} {T : Addr} {H' : Hp} {σ0 : L2.St} {Q : L2.St → Hp → Prop} (hT : SqT K H' T [x, y, z]) (q : Q (((σ0.set i (some x)).set j (some y)).set k (some z)) H') : gTup K 3 (gCons (gName i) (gCons (gName j) (gCons (gName k) gNil))) (.ref T) σ0 H' Q :=
  ⟨T, [x, y, z], rfl, hT, rfl, x, [y, z], rfl, y, [z], rfl, z, [], rfl, rfl, q⟩
theorem gfive {x y z u v : V} {i j k l n : Nat} {T : Addr} {H' : Hp} {σ0 : L2.St} {Q : L2.St → Hp → Prop} (hT : SqT K H' T [x, y, z, u, v]) (q : Q (((((σ0.set i (some x)).set j (some y)).set k (some z)).set l (some u)).set n (some v)) H') : gTup K 5 (gCons (gName i) (gCons (gName j) (gCons (gName k) (gCons (gName l) (gCons (gName n) gNil))))) (.ref T) σ0 H' Q :=
  ⟨T, [x, y, z, u, v], rfl, hT, rfl, x, [y, z, u, v], rfl, y, [z, u, v], rfl, z, [u, v], rfl, u, [v], rfl, v, [], rfl, rfl, q⟩
/-! a case: ints, a table, what is due -/
def IsTb (H : Hp) (v : V) (T : List (List Int)) (n m : Nat) : Prop := Good T n m ∧ ∃ (b : Addr) (rs : List Addr), v = .ref b ∧ Tab H b rs T
theorem IsTb.mono {H H' : Hp} {v : V} {T : List (List Int)} {n m : Nat} (h : IsTb H v T n m) (e : Ex H H') : IsTb H' v T n m := by
  obtain ⟨a, b, rs, c, d⟩ := h
  exact ⟨a, b, rs, c, d.mono e⟩
def IsC3 (word : List (List Int) → Nat → Nat → List Int → Bool) (H : Hp) (v : V) : Prop := ∃ (t a : Addr) (x : V) (ns : List Int) (T : List (List Int)) (n m : Nat), v = .ref t ∧ H t = some (.tup [.ref a, x, .bl (word T n m ns)]) ∧ H a = some (.lst (ns.map V.int)) ∧ ns.length ≤ 100 ∧ IsTb H x T n m
theorem mo_c3 {word : List (List Int) → Nat → Nat → List Int → Bool} : Mo (IsC3 word) := fun _ _ _ e ⟨t, a, x, ns, T, n, m, h1, h2, h3, h4, h5⟩ => ⟨t, a, x, ns, T, n, m, h1, e _ _ h2, e _ _ h3, h4, h5.mono e⟩
/-- (classes, table, due) -/
theorem ev_c3 {word : List (List Int) → Nat → Nat → List Int → Bool} {ns : List Int} {T : List (List Int)} {n m : Nat} {b : Bool} (h1 : EvL ta σ H (ns.map V.int)) (hl : ns.length ≤ 100) (h2 : EvP tb σ H (fun _ v H2 => IsTb H2 v T n m)) (hb : word T n m ns = b) : EvP (tTup (tCons ta (tCons tb (tCons (tC (.bl b)) tNil)))) σ H (fun _ v H2 => IsC3 word H2 v) := fun H1 e Q q =>
  h1 H1 e _ fun p H2 np e2 hp => h2 H2 (e.trans e2) _ fun x H3 e3 hx => ⟨sz_of (by show 3 ≤ 100000; decide), fun t nt => q _ _ ((e2.trans e3).trans (Ex.new nt)) ⟨t, p, x, ns, T, n, m, rfl, by rw [hb]; exact upd_same, Ex.new nt _ _ (e3 _ _ hp), hl, hx.mono (Ex.new nt)⟩⟩
theorem tb_new {T : List (List Int)} {n m : Nat} (h : EvP te σ H (NewT T)) (hG : Good T n m) : EvP te σ H (fun _ v H2 => IsTb H2 v T n m) := h.imp fun _ v H2 _ _ ⟨p, rs, hv, _, _, _, hT⟩ => ⟨hG, p, rs, hv, hT⟩
theorem tb_var {T : List (List Int)} {n m : Nat} {rs : List Addr} (h : Ev te σ H (.ref a)) (hT : Tab H a rs T) (hG : Good T n m) : EvP te σ H (fun _ v H2 => IsTb H2 v T n m) := fun H1 e Q q => h H1 e _ fun H2 e2 => q _ H2 e2 ⟨hG, a, rs, rfl, hT.mono (e.trans e2)⟩
/-! a case with hours: Lasting -/
def IsC5 (H : Hp) (v : V) : Prop := ∃ (t a c : Addr) (x : V) (h : Int) (ns S : List Int) (T : List (List Int)) (n m : Nat), v = .ref t ∧ H t = some (.tup [.int h, .ref a, .ref c, x, .bl (lastB T n m h ns S)]) ∧ H a = some (.lst (ns.map V.int)) ∧ H c = some (.lst (S.map V.int)) ∧ ns.length ≤ 100 ∧ S.length ≤ 100 ∧ IsTb H x T n m
theorem mo_c5 : Mo IsC5 := fun _ _ _ e ⟨t, a, c, x, h, ns, S, T, n, m, h1, h2, h3, h4, h5, h6, h7⟩ => ⟨t, a, c, x, h, ns, S, T, n, m, h1, e _ _ h2, e _ _ h3, e _ _ h4, h5, h6, h7.mono e⟩
theorem ev_c5 {h : Int} {ns S : List Int} {T : List (List Int)} {n m : Nat} {b : Bool} (h0 : Ev ta σ H (.int h)) (h1 : EvL tb σ H (ns.map V.int)) (hl : ns.length ≤ 100) (h2 : EvL tc σ H (S.map V.int)) (hl2 : S.length ≤ 100) (h3 : EvP td σ H (fun _ v H2 => IsTb H2 v T n m)) (hb : lastB T n m h ns S = b) : EvP (tTup (tCons ta (tCons tb (tCons tc (tCons td (tCons (tC (.bl b)) tNil)))))) σ H (fun _ v H2 => IsC5 H2 v) := fun H1 e Q q =>
  h0 H1 e _ fun H2 e2 => h1 H2 (e.trans e2) _ fun p H3 np e3 hp => h2 H3 ((e.trans e2).trans e3) _ fun r H4 nr e4 hr => h3 H4 (((e.trans e2).trans e3).trans e4) _ fun x H5 e5 hx => ⟨sz_of (by show 5 ≤ 100000; decide), fun t nt => q _ _ ((((e2.trans e3).trans e4).trans e5).trans (Ex.new nt)) ⟨t, p, r, x, h, ns, S, T, n, m, rfl, by rw [hb]; exact upd_same, ((e4.trans e5).trans (Ex.new nt)) _ _ hp, (e5.trans (Ex.new nt)) _ _ hr, hl, hl2, hx.mono (Ex.new nt)⟩⟩
end
theorem two_choice {T : List (List Int)} {h : Int} {L : List Nat} (z : Choice T 2 2 h L) : (L = [0, 1] ∧ h ≤ cell T 0 0 ∧ h ≤ cell T 1 1) ∨ (L = [1, 0] ∧ h ≤ cell T 0 1 ∧ h ≤ cell T 1 0) := by
  have hl := z.len
  match L, hl with
  | [x, y], _ =>
    have hx := z.adj 0 x rfl
    have hy := z.adj 1 y rfl
    have nd : ¬ x = y := by simpa using z.nd
    have x2 := hx.2.1
    have y2 := hy.2.1
    rcases (show (x = 0 ∧ y = 1) ∨ (x = 1 ∧ y = 0) by omega) with ⟨rfl, rfl⟩ | ⟨rfl, rfl⟩
    · exact .inl ⟨rfl, hx.2.2, hy.2.2⟩
    · exact .inr ⟨rfl, hx.2.2, hy.2.2⟩
theorem two_10 {T : List (List Int)} {h : Int} (a : h ≤ cell T 0 1) (b : h ≤ cell T 1 0) : Choice T 2 2 h [1, 0] := ⟨rfl, by decide, fun t p z => by
  match t, z with
  | 0, z =>
    have : 1 = p := Option.some.inj z
    subst this
    exact ⟨by omega, by omega, a⟩
  | 1, z =>
    have : 0 = p := Option.some.inj z
    subst this
    exact ⟨by omega, by omega, b⟩
  | t + 2, z => simp at z⟩
/-- isinstance of what a call hands back -/
theorem ev_isiP {K : PySem.W.Frag} {σ : L2.St} {H : Hp} {ta : TE} {P : Hp → V → Hp → Prop} {D : Addr} {k : Bool} (h : EvP ta σ H P) (hp : ∀ H1 v H2, P H1 v H2 → ∃ cv, TyX K H2 v cv ∧ PySem.W.kitOne K cv (.ref D) = some k) : Ev (tCB (rIsi K) (tCons ta (tCons (tC (.ref D)) tNil))) σ H (.bl k) := fun H1 e Q q =>
  h H1 e _ fun v H2 e2 hv => by
    obtain ⟨cv, ty, hk⟩ := hp H1 v H2 hv
    exact ⟨v, .ref D, cv, .ref D, k, rfl, ClsV.own D, ty, hk, q H2 e2⟩
theorem ty_own {K : PySem.W.Frag} {mg : Str → Option Value} {H : Hp} {a C dx : Addr} {fs : List (Str × V)} {x : Str} (ho : H a = some (.ins C dx fs)) (c : Kl K mg x C) (c0 : Kl0 K) : TyX K H (.ref a) (.ref C) := .base (.ins ho c.cl c.ha c0.hn c0.htk c.hm)
/-- each(table) where a choice is there; where none is -/
theorem found_each {CE CS : Addr} {T : List (List Int)} {n m : Nat} {H1 H2 : Hp} {v : V} {L : List Nat} (h : FoundOf CE CS T n m H1 v H2) (hL : Choice T n m 1 L) : ∃ (x q dx : Addr) (ns : List Int), v = .ref x ∧ H2 x = some (.ins CE dx [("classes", .ref q)]) ∧ H2 q = some (.lst (ns.map V.int)) ∧ ∃ L', Choice T n m 1 L' ∧ ns = L'.map fun (x : Nat) => (x : Int) := by
  obtain ⟨x, q, k, ns, hv, _, _, _, ⟨_, hq, dx, hx⟩, _, h1, h2⟩ := h
  cases k with
  | false =>
    have := h2 rfl
    rw [hL.enough] at this
    cases this
  | true =>
    rcases hx with ⟨_, hx⟩ | ⟨z, _⟩
    · exact ⟨x, q, dx, ns, hv, hx, hq, h1 rfl⟩
    · cases z
theorem found_short {CE CS : Addr} {T : List (List Int)} {n m : Nat} {H1 H2 : Hp} {v : V} (h : FoundOf CE CS T n m H1 v H2) (hn : ¬ ∃ L, Choice T n m 1 L) : ∃ (x q dx : Addr) (ns : List Int), v = .ref x ∧ H2 x = some (.ins CS dx [("teachers", .ref q)]) ∧ H2 q = some (.lst (ns.map V.int)) ∧ tooFewB T n m ns 1 = true := by
  obtain ⟨x, q, k, ns, hv, _, _, _, ⟨_, hq, dx, hx⟩, _, h1, h2⟩ := h
  cases k with
  | true =>
    obtain ⟨L, hL, _⟩ := h1 rfl
    exact absurd ⟨L, hL⟩ hn
  | false =>
    rcases hx with ⟨z, _⟩ | ⟨_, hx⟩
    · cases z
    · exact ⟨x, q, dx, ns, hv, hx, hq, h2 rfl⟩
/-- calls upon a table written out -/
theorem evp_eachN {K : PySem.W.Frag} {σ : L2.St} {H : Hp} {te : TE} {CE CS : Addr} {T : List (List Int)} {n m : Nat} {E : XK} (h : EvP te σ H (NewT T)) (hG : Good T n m) : EvP (tCall (sp_each K CE CS) [] E (tCons te tNil)) σ H (FoundOf CE CS T n m) :=
  evp_call1 h (fun H1 H2 v H3 e ⟨x, q, k, ns, z1, z2, z3, z4⟩ => ⟨x, q, k, ns, z1, fresh_back e z2, fresh_back e z3, z4⟩) fun v H1 H2 _ _ ⟨p, rs, hv, _, _, _, hT⟩ Q q => by
    subst hv
    exact each_gives hT hG q
theorem evp_lastingN {K : PySem.W.Frag} {σ : L2.St} {H : Hp} {te : TE} {CL : Addr} {T : List (List Int)} {n m : Nat} {E : XK} (h : EvP te σ H (NewT T)) (hG : Good T n m) (hnm : n ≤ m) : EvP (tCall (sp_lasting K CL) [] E (tCons te tNil)) σ H (LastFound CL T n m) :=
  evp_call1 h down_lf fun v H1 H2 _ _ ⟨p, rs, hv, _, _, _, hT⟩ Q q => by
    subst hv
    exact lasting_gives hT hG hnm q
end Lh

namespace Lh
open PySem PySem.Spec PyProof.Rows L2 Evl L2H
/-! ### a list comprehension in an except suite: the block keeps what is pinned -/
abbrev blkP (X : Cx) (s : Shared) (H : Hp) (sc : Scope) (ev : Env) (fp : List Addr) : Cx := { X.blk s H sc ev fp with pn := X.pn }
theorem inv_pn {Y : Cx} {pn pins : List (Addr × Obj)} {σ : L2.St} {H : Hp} {s : Shared} (J : Inv Y pins σ H s) (hp : ∀ p ∈ pn ++ pins, s.heap.get? p.1 = some p.2 ∧ H p.1 = none ∧ p.1 ≠ Y.env.locals ∧ p.1 ∉ Y.fs ∧ ∀ v, p.2.data ≠ .cell v) : Inv { Y with pn := pn } pins σ H s :=
  ⟨⟨J.ok.mod, J.ok.kind, J.ok.glob, J.ok.blt, J.ok.above, J.ok.inj, J.ok.has, J.ok.cab, J.ok.hd, J.ok.frames, J.ok.stk, J.ok.exf, J.ok.bs, J.ok.bsz, J.ok.noex, J.ok.exfs, J.ok.funs, J.ok.frf⟩, J.os, J.bare, J.base, J.loc, J.cell, J.free, J.freeC, hp, J.hok, J.len⟩
theorem pe_lcH {X : Cx} {elt tg iter : Expr} {sc : Scope} {own : List (Str × Nat)} {pos : Pos} {wi : TI} {g : TG} {te : TE} (hot : HotC X) (nd : X.N.Nodup) (hi : PIH X tg iter wi) (bk : BlkOk X.N X.env.scope sc own)
    (hg : ∀ (s : Shared) (H : Hp) (C : Addr) (cl : List (Str × Addr)) (fp : List Addr), PG (blkP X s H sc (compEnvC sc cl C X.env) fp) tg g) (he : ∀ (s : Shared) (H : Hp) (C : Addr) (cl : List (Str × Addr)) (fp : List Addr), PE (blkP X s H sc (compEnvC sc cl C X.env) fp) elt te)
    (hs : ∀ x, foldedSetIterable iter X.env x = pure x := by intro _; rfl) : PE X (.ListComp elt [⟨tg, iter, [], 0⟩] sc pos) (tLc wi g tYes te (own.map (·.2))) := by
  refine ⟨fun pins s σ H Q I h => ?_⟩
  rw [eval_ListComp]
  have cap : ∀ y ∈ sc.names, y.2 = .free → ∃ c, X.env.cells.lookup y.1 = some c := fun y hy e => (bk.free y hy e).elim (fun z => I.ok.has _ (.inl z)) fun z => I.ok.has _ (.inr z)
  refine wpAny_comprehension_free rfl hs (closure_ok cap) bk.kind (fun y hy e => by rw [bk.uniq y hy, e]) (thn (hi.run pins s σ H _ I h) fun v0 sa ha => thn ha fun v1 sb hb => ?_)
  obtain ⟨it, fp, tn, J, Hb, rfl, Ib, Tn, st, fo, q⟩ := hb
  refine wpAny_newObj_type (newEnv_comp ?_) (by show 0 ≤ sizeLine; decide)
  generalize eD : sb.heap.objs.size = D
  have nD : Hb D = none := Ib.hok.fresh (Nat.le_of_eq eD)
  obtain ⟨W, ⟨m0, w0⟩, turn⟩ := q D nD
  -- the list that is filled
  generalize es : ({ sb with heap := sb.heap.push { cls := .type "list", data := .seq ([] : List Value).toArray } } : Shared) = sl
  have hl : sl.heap = sb.heap.push { cls := .type "list", data := .seq ([] : List Value).toArray } := by rw [← es]
  have Il : Inv X pins σ (upd Hb D (.lst [])) sl := by
    rw [← es]
    exact Ib.laid (t' := sb.toks) (fun b o e => Heap.get?_push_of_some _ e) (Nat.le_of_eq eD) ⟨Nat.zero_le _, [], 0, .nil, by rw [← eD]; exact Heap.get?_push_size _ rfl⟩
  have flt : ∀ b ∈ fp, b < sb.heap.objs.size := fun b hb => (Tn.obj _ _ st b hb).elim fun o z => Heap.lt_size z.1
  have fl : ∀ b ∈ fp, FpOk X pins (upd Hb D (.lst [])) b ∧ b < sl.heap.objs.size := fun b hb => ⟨⟨by rw [upd_ne (by rw [← eD]; exact Nat.ne_of_lt (flt b hb))]; exact (fo b hb).1, (fo b hb).2⟩, by rw [hl, Heap.size_push]; exact Nat.lt_succ_of_lt (flt b hb)⟩
  have stl : tn 0 sl.heap := Tn.keep _ _ _ st fun b _ o e => by rw [hl]; exact Heap.get?_push_of_some _ e
  have Ic0 := block_start Il bk nd fl
  have kc : ∀ b o, sl.heap.get? b = some o → (pushCells (sl.heap.push { cls := .type "dict", data := .dict #[] }) sc.names).get? b = some o := fun b o e => pushCells_keeps _ _ _ _ (Heap.get?_push_of_some _ e)
  have Ic := inv_pn (pn := X.pn) Ic0 fun p hp => by
    obtain ⟨a1, a2, a3, a4, a5⟩ := Il.pin p (List.mem_append_left _ ((List.mem_append.mp hp).elim id fun z => nomatch z))
    exact ⟨kc _ _ a1, a2, Nat.ne_of_lt (Heap.lt_size a1), fun z => (List.mem_cons.mp (Il.stkSub _ z)).elim a3 a4, a5⟩
  have gp := hg sl (upd Hb D (.lst [])) sl.heap.objs.size (cellsFrom (sl.heap.objs.size + 1) sc.names (cloFrom X.env.cells sc.names [])) fp
  have ep := he sl (upd Hb D (.lst [])) sl.heap.objs.size (cellsFrom (sl.heap.objs.size + 1) sc.names (cloFrom X.env.cells sc.names [])) fp
  have hotB : HotC (blkP X sl (upd Hb D (.lst [])) sc (compEnvC sc (cellsFrom (sl.heap.objs.size + 1) sc.names (cloFrom X.env.cells sc.names [])) sl.heap.objs.size X.env) fp) := hot
  have pinX : ∀ b ∈ fp, ∀ p ∈ X.pn, p.1 ≠ b := fun b hb p hp => (fo b hb).2.2.2.2.2 p (List.mem_append_left _ hp)
  have stm : tn 0 (pushCells (sl.heap.push { cls := .type "dict", data := .dict #[] }) sc.names) := Tn.keep _ _ _ stl fun b _ o e => kc b o e
  have non0 : ∀ b ∈ fp, (upd Hb D (.lst [])) b = none := fun b hb => (fl b hb).1.1
  show codeAny _ _ (.compStart (.ListComp elt [⟨tg, iter, [], 0⟩] sc pos) 0 (.ref it) (.ref D) (compEnvC sc (cellsFrom (sl.heap.objs.size + 1) sc.names (cloFrom X.env.cells sc.names [])) sl.heap.objs.size X.env)) (compPost (model X.prog X.w) X.A X.xe none (EP X pins σ Q) (.ref D) sl.heap.objs.size) { sl with heap := pushCells (sl.heap.push { cls := .type "dict", data := .dict #[] }) sc.names }
  generalize eC : compEnvC sc (cellsFrom (sl.heap.objs.size + 1) sc.names (cloFrom X.env.cells sc.names [])) sl.heap.objs.size X.env = ce at Ic gp ep hotB ⊢
  have cl : ce.locals = sl.heap.objs.size := by rw [← eC]; rfl
  generalize eH : upd Hb D (.lst []) = Hl at Il Ic gp ep hotB w0 non0 fl
  generalize em : ({ sl with heap := pushCells (sl.heap.push { cls := .type "dict", data := .dict #[] }) sc.names } : Shared) = sm at Ic ⊢
  have stm' : tn 0 sm.heap := by rw [← em]; exact stm
  have foB : ∀ {σ' : L2.St} {H' : Hp} {s' : Shared}, Inv (blkP X sl Hl sc ce fp) [] σ' H' s' → (∀ b ∈ fp, H' b = none) → ∀ b ∈ fp, FpOk (blkP X sl Hl sc ce fp) [] H' b := fun {σ' H' s'} J' hn b hb =>
    ⟨hn b hb, (J'.ok.exf b hb).1, J'.ok.exfs b hb, .inl hb, fun x c e => (J'.ok.exf b hb).2 x c e, fun p hp => pinX b hb p ((List.mem_append.mp hp).elim id fun z => nomatch z)⟩
  have L : codeAny (model X.prog X.w) X.A (.compLoop (.ListComp elt [⟨tg, iter, [], 0⟩] sc pos) 0 (.ref it) (.ref D) ce) (compPost (model X.prog X.w) X.A X.xe none (EP X pins σ Q) (.ref D) sl.heap.objs.size) sm := by
    refine compLoop_any (fun n s' => ∃ j H', Inv (blkP X sl Hl sc ce fp) [] (wipe σ (own.map (·.2))) H' s' ∧ tn j s'.heap ∧ (∀ b ∈ fp, H' b = none) ∧ W j n H') (fun n s5 ⟨j, H5, I5, t5, n5, w5⟩ => ?_) m0 ⟨0, Hl, Ic, stm', non0, w0⟩
    rcases turn j n H5 w5 with ⟨stop, qq⟩ | ⟨go, Nx, nxt, step⟩
    · refine thnF (Tn.done (blkP X sl Hl sc ce fp) rfl rfl rfl hotB j [] s5 _ H5 (fun _ _ => False) I5 (foB I5 n5) t5 stop) fun r s6 ⟨er, I6⟩ => ?_
      subst er
      have Iz : Inv X pins σ H5 s6 := Il.call' (ch := fp) I6.os I6.base I6.hok I6.bare fun b hb => ⟨(fl b hb).1.2.2.2.1, (fl b hb).1.2.1, (fl b hb).1.2.2.2.2.1, (fl b hb).1.2.2.2.2.2⟩
      have nC : H5 sl.heap.objs.size = none := cl ▸ (show H5 ce.locals = none from I6.free)
      obtain ⟨m, hn, _⟩ := I6.loc
      have hn : s6.heap.Ns sl.heap.objs.size m := cl ▸ (show s6.heap.Ns ce.locals m from hn)
      obtain ⟨g0, g1, g2, g3, g4, g5⟩ := Il.fpOk (Nat.le_refl _) nC
      exact ⟨m, hn, fun h'' sb => ⟨.ref D, H5, Iz.turned (t' := s6.toks) (fun b o hb e => (sb.2 b hb).trans e) g0 g1 g3 g4 g5, rfl, qq⟩⟩
    · refine thnF (Tn.item (blkP X sl Hl sc ce fp) rfl rfl rfl hotB j [] s5 _ H5 (fun _ _ => False) I5 (foB I5 n5) t5 go) fun r s6 ⟨u, er, h6⟩ => ?_
      subst er
      refine thnF h6 fun _ s7 ⟨x, H7, I7, r7, y7, t7, n7⟩ => ?_
      refine thnF (gp.run _ s7 _ H7 x u _ (I7.pinned (foB I7 n7) (Tn.obj _ _ t7)) r7 (step x H7 y7)) fun _ s8 ⟨σ8, H8, I8, hw, q8⟩ => ?_
      refine wpAny_tests_nil ?_
      simp only [if_true]
      refine thnF (ep.run _ s8 σ8 H8 _ I8 q8) fun z s10 ⟨yv, H10, I10, r10, acc, hD10, hz10, nx⟩ => ?_
      refine app_ok (X := blkP X sl Hl sc ce fp) I10 hD10 hz10 r10 fun s' I' => ?_
      obtain ⟨m', hm, w'⟩ := nxt _ nx
      have pin' : ∀ b ∈ fp, ∀ o, s7.heap.get? b = some o → s'.heap.get? b = some o ∧ upd H10 D (.lst (acc ++ [yv])) b = none := fun b hb o e => (fun z => ⟨z.1, z.2.1⟩) (I'.pin (b, o) (List.mem_append_right _ (List.mem_append_right _ (mem_pinsAt hb e))))
      refine ⟨m', hm, j + 1, _, (I'.unpinned (pins := [])).weak (by rw [← hw, wipe_length]) (fun i v e => (wipe_some (hw.symm ▸ e)).1), Tn.keep _ _ _ t7 fun b hb o e => (pin' b hb o e).1, fun b hb => (Tn.obj _ _ t7 b hb).elim fun o e => (pin' b hb o e.1).2, w'⟩
  exact codeAny_compStart_list L (Tn.self X.A 0 _ _ _ stm' L)
/-! ### defs that raise, the exception's context kept in sight -/
structure CalN (P : Program) (w : World) (K : PySem.W.Frag) (mg : Str → Option Value) (base : Heap) (k : Nat) (x : Str) (ps : List Str) (sp : Sp) : Prop where
  ex : ∃ (f : Addr) (fd : FuncData), mg x = some (.ref f) ∧ PySem.W.keepIn K (.ref f) = true ∧ Bnd fd ps ∧ FnOk P w K mg base (L2N.CX P w) k f fd ps sp
theorem Def.calN {P : Program} {w : World} {K : PySem.W.Frag} {mg : Str → Option Value} {base : Heap} {x : Str} {st : Stmt} {N ps : List Str} {k : Nat} {sp : Sp} (D : Def K mg x st ps) (S : FnScope N ps (defScope st)) (len : ∀ vs H Q E, sp vs H Q E → vs.length = ps.length)
    (hbody : ∀ (f : Addr) (cdv : Value) (A : Around) (outer : List Env) (s : Shared) (H : Hp) (vs : List V) (Q : VK) (E : XK), Room k (A.deeper (envOfC x (defScope st) s.heap.objs.size f cdv)) → sp vs H Q E →
      ∃ t, PSs (cxOf (L2N.CX P w) P w K mg base N x (defScope st) f cdv A outer s H E) (defBody st) t ∧ t { nx := fun _ H' => Q .non H', rt := Q } (start N vs) H) : CalN P w K mg base (k + 1) x ps sp := by
  obtain ⟨f, fd, hm, F, hb⟩ := D.ex
  refine ⟨f, fd, hm, F.kp, hb, ?_⟩
  obtain ⟨oc, od, kV, doc, pm, an, cdv, ct, osl, rfl, lk, hcd⟩ := F.ex
  exact fn_of lk hcd S len fun A outer s H vs Q E hr hsp => hbody f cdv A outer s H vs Q E hr hsp
theorem pe_calN {X : Cx} {E : XK} {k j : Nat} {x : Str} {ps : List Str} {sp : Sp} {p pos : Pos} {e : Expr} {es : List Expr} {t : TA} (C : CalN X.prog X.w X.K X.mg X.base k x ps sp) (hr : Room j X.A) (hg : Gl X x) (hx : Passes (L2N.CX X.prog X.w) X E) (ha : PA X (e :: es) t)
    (hjk : k ≤ j := by decide) (hdb : (x == ("__debug__" : Str)) = false := by decide) (he : starEach (e :: es) X.env = (false, eval e X.env) :: starEach es X.env := by rfl) (hpl : (backTo pos (starEach es X.env)).any (·.1) = false := by rfl) :
    PE X (.Call (.Name x p) (e :: es) [] pos) (tCall sp [] E t) := by
  obtain ⟨f, fd, hm, hk, hb, F⟩ := C.ex
  exact pe_call F (hr.mono hjk) hg hm hk (Binds.all hb) .nil hx ha hdb he hpl
/-! ### a lambda as a value -/
open LamX (CodeO TabS Tabs ExtN TabB inv_table codeO_ne among_app)
/-- the function object of a lambda at f -/
def LamO (f : Addr) (q : Str) (ps : Arguments) (body : Expr) (sc : Scope) (cl : List (Str × Addr)) (c' : Addr) : HO := .ext fun h => ∃ pm ctv : Value, h.get? f = some (PySem.W.kla_obj "<lambda>" q ps body sc cl pm c' ctv)
theorem lamO_ne {f : Addr} {q : Str} {ps : Arguments} {body : Expr} {sc : Scope} {cl : List (Str × Addr)} {c' : Addr} (z : Array Value) : LamO f q ps body sc cl c' ≠ .tbl z := fun e => by
  unfold LamO at e
  cases e
section
variable {X : Cx} {pins : List (Addr × Obj)} {σ : L2.St} {H : Hp} {s : Shared}
theorem lam_lay {T : List (Addr × Str)} {c P : Addr} {ps : Arguments} {body : Expr} {sc : Scope} {pos : Pos} {E : Value → Shared → Prop} {Q : Value → Shared → Prop} (I : Inv X pins σ H s) (B : TabB X.base X.mg c P) (ec : X.env.code = .ref c)
    (inT : (P, X.env.qual ++ "<lambda>") ∈ T) (one : ∀ p ∈ T, p.1 = P → p.2 = X.env.qual ++ "<lambda>") (tabs : Tabs T H) (nodef : defaultsOf ps X.env = ([], [])) (cap : ∀ y ∈ sc.names, y.2 = .free → ∃ c, X.env.cells.lookup y.1 = some c)
    (h : ∀ (f c' : Addr) (H1 : Hp) (s' : Shared), Inv X pins σ H1 s' → ExtN H H1 → Tabs T H1 → H1 f = some (LamO f (X.env.qual ++ "<lambda>") ps body sc (cloFrom X.env.cells sc.names []) c') → H1 c' = some (CodeO c' (X.env.qual ++ "<lambda>")) → Q (.ref f) s') :
    wpAny (model X.prog X.w) X.A (eval (.Lambda ps body sc pos) X.env) Q E s := by
  obtain ⟨tb, eP, ok, mem⟩ := tabs _ inT
  -- the function object laid onto what holds the table and the code
  have lay : ∀ (c' : Addr) (pm ctv : Value) (H1 : Hp) (h1 : Heap) (tk tk1 : Nat), Inv X pins σ H1 { s with heap := h1, toks := tk1 } → ExtN H H1 → Tabs T H1 → H1 c' = some (CodeO c' (X.env.qual ++ "<lambda>")) →
      Q (.ref h1.objs.size) { s with heap := h1.push (PySem.W.kla_obj "<lambda>" (X.env.qual ++ "<lambda>") ps body sc (cloFrom X.env.cells sc.names []) pm c' ctv), toks := tk } := fun c' pm ctv H1 h1 tk tk1 J ex t1 hc => by
    have nf : H1 h1.objs.size = none := J.hok.fresh (Nat.le_refl _)
    have up : ∀ b o, H1 b = some o → upd H1 h1.objs.size (LamO h1.objs.size (X.env.qual ++ "<lambda>") ps body sc (cloFrom X.env.cells sc.names []) c') b = some o := fun b o e => by rw [upd_ne (ne_of_none e nf)]; exact e
    have got : (h1.push (PySem.W.kla_obj "<lambda>" (X.env.qual ++ "<lambda>") ps body sc (cloFrom X.env.cells sc.names []) pm c' ctv)).get? h1.objs.size = some (PySem.W.kla_obj "<lambda>" (X.env.qual ++ "<lambda>") ps body sc (cloFrom X.env.cells sc.names []) pm c' ctv) := Heap.get?_push_size _ rfl
    refine h h1.objs.size c' _ _ (J.laid (t' := tk) (a := h1.objs.size) (fun b o e => Heap.get?_push_of_some _ e) (Nat.le_refl _) ?_) (ex.trans (.of up)) (t1.ext up) upd_same (up _ _ hc)
    exact ⟨⟨pm, ctv, got⟩, ⟨_, got⟩, fun g1 g2 ⟨pm, ctv, e⟩ st => ⟨pm, ctv, st _ e⟩⟩
  have bP := B.bm.keeps I.bk
  have oP : s.heap.get? P = some { cls := .none, data := .fields tb } := I.hok P _ eP
  refine PySem.W.kla_eval nodef ?_
  cases hc : codeAmong pos tb.toList with
  | some cv =>
    obtain ⟨c', rfl, hco⟩ := mem pos cv hc
    exact PySem.W.kla_makeFunctionHit (mg := X.mg) (c := c) (P := P) (ps := tb) (closure_ok cap) I.ok.glob (I.mod.glob.keeps I.bk) ec (B.code.keeps I.bk) oP ok hc bP fun ctv h' tk hx hsz => lay c' _ ctv H h' tk tk (I.kept fun b o e => hx b o e) (ExtN.refl H) tabs hco
  | none =>
    refine PySem.W.kla_makeFunction (mg := X.mg) (c := c) (P := P) (ps := tb) (closure_ok cap) I.ok.glob (I.mod.glob.keeps I.bk) ec (B.code.keeps I.bk) oP ok hc B.gP bP fun c' ctv h' tk hx hge hlt hrec htb => ?_
    obtain ⟨_, oc, vs, t, rfl', hoc, hd, hv⟩ := hrec
    cases rfl'
    have nC : H c' = none := I.hok.fresh hge
    have grown : (tb ++ #[rawInt pos.line, rawInt pos.col, .ref c']).toList = tb.toList ++ [rawInt pos.line, rawInt pos.col, .ref c'] := by simp
    have ex : ExtN H (upd (upd H P (.tbl (tb ++ #[rawInt pos.line, rawInt pos.col, .ref c']))) c' (CodeO c' (X.env.qual ++ "<lambda>"))) := fun b o e n => by
      have n1 : b ≠ P := fun z => n tb (Option.some.inj (e.symm.trans (z ▸ eP)))
      rw [upd_ne (ne_of_none e nC), upd_ne n1]
      exact e
    refine lay c' _ ctv _ h' tk tk (inv_table (t' := tk) (more := #[rawInt pos.line, rawInt pos.col, .ref c']) (h' := h') I eP hx htb hge ⟨oc, vs, t, hoc, hd, hv⟩) ex (fun p hp => ?_) upd_same
    by_cases e : p.1 = P
    · rw [one p hp e, e]
      refine ⟨_, by rw [upd_ne (ne_of_none eP nC), upd_same], by rw [grown]; exact PySem.TriplesOk_snoc _ _ _ _ ok, fun p' cv z => ?_⟩
      rw [grown] at z
      exact (among_app _ ok z).elim (fun y => (mem p' cv y).elim fun c0 y => ⟨c0, y.1, ex _ _ y.2 codeO_ne⟩) fun y => ⟨c', y, upd_same⟩
    · obtain ⟨tb', a1, a2, a3⟩ := tabs p hp
      exact ⟨tb', by rw [upd_ne (ne_of_none a1 nC), upd_ne e]; exact a1, a2, fun p' cv z => (a3 p' cv z).elim fun c0 y => ⟨c0, y.1, ex _ _ y.2 codeO_ne⟩⟩
end
/-- what a lambda is: its tables, its object, its code -/
def tLamV (T : List (Addr × Str)) (q : Str) (ps : Arguments) (body : Expr) (sc : Scope) (cl : List (Str × Addr)) : TE := fun _ H Q => Tabs T H ∧ ∀ (f c' : Addr) (H1 : Hp), ExtN H H1 → Tabs T H1 → H1 f = some (LamO f q ps body sc cl c') → H1 c' = some (CodeO c' q) → Q (.ref f) H1
theorem pe_lamV {X : Cx} {T : List (Addr × Str)} {c P : Addr} {ps : Arguments} {body : Expr} {sc : Scope} {pos : Pos} (B : TabB X.base X.mg c P) (ec : X.env.code = .ref c) (inT : (P, X.env.qual ++ "<lambda>") ∈ T) (one : ∀ p ∈ T, p.1 = P → p.2 = X.env.qual ++ "<lambda>")
    (nodef : defaultsOf ps X.env = ([], [])) (cap : ∀ y ∈ sc.names, y.2 = .free → X.env.scope.names.lookup y.1 = some .cell ∨ X.env.scope.names.lookup y.1 = some .free) : PE X (.Lambda ps body sc pos) (tLamV T (X.env.qual ++ "<lambda>") ps body sc (cloFrom X.env.cells sc.names [])) :=
  ⟨fun pins s σ H Q I h => lam_lay I B ec inT one h.1 nodef (fun y hy e => (cap y hy e).elim (fun z => I.ok.has _ (.inl z)) fun z => I.ok.has _ (.inr z)) fun f c' H1 s' J ex t1 hf hc => ⟨.ref f, H1, J, rfl, h.2 f c' H1 ex t1 hf hc⟩⟩
/-! ### a lambda with one parameter, called -/
structure LamP (p : Str) (sc : Scope) : Prop where
  kind : sc.kind = .function
  co : sc.isCoroutine = false
  gen : sc.isGenerator = false
  par : sc.names.lookup p = some .local
  own : ∀ y ∈ sc.names, y.2 = .local → y.1 = p
  nocell : ∀ y ∈ sc.names, y.2 ≠ .cell
def lamPB (p : Str) (sc : Scope) : Bool := decide (sc.kind = .function) && !sc.isCoroutine && !sc.isGenerator && decide (sc.names.lookup p = some .local) && sc.names.all fun y => (!decide (y.2 = .local) || decide (y.1 = p)) && !decide (y.2 = .cell)
theorem lamP_by {p : Str} {sc : Scope} (h : lamPB p sc = true) : LamP p sc := by
  unfold lamPB at h
  simp only [Bool.and_eq_true, Bool.or_eq_true, Bool.not_eq_true', decide_eq_true_eq, decide_eq_false_iff_not, List.all_eq_true] at h
  obtain ⟨⟨⟨⟨h1, h2⟩, h3⟩, h4⟩, h5⟩ := h
  exact ⟨h1, h2, h3, h4, fun y hy e => (h5 y hy).1.elim (fun z => absurd e z) id, fun y hy => (h5 y hy).2⟩
/-- the cells that a lambda took along, and what lies in them -/
structure ClAt (sc : Scope) (N : List Str) (σ : L2.St) (cl : List (Str × Addr)) (H : Hp) (h : Heap) : Prop where
  inj : ∀ y z c, cl.lookup y = some c → cl.lookup z = some c → y = z
  has : ∀ y, sc.names.lookup y = some .free → ∃ c, cl.lookup y = some c
  cell : ∀ y c, cl.lookup y = some c → H c = none ∧ ∃ v, h.IsCell c v
  val : ∀ (i : Nat) y v, N[i]? = some y → σ[i]? = some (some v) → sc.names.lookup y = some .free → ∃ c u, cl.lookup y = some c ∧ h.IsCell c (some u) ∧ RelV v u
abbrev lamE (q : Str) (sc : Scope) (L f c' : Addr) (cl : List (Str × Addr)) : Env := PySem.W.envX q sc L f (.ref c') cl
/-- the context of its body -/
def lamC (P : Program) (w : World) (K : PySem.W.Frag) (mg : Str → Option Value) (base : Heap) (N : List Str) (q : Str) (sc : Scope) (cl : List (Str × Addr)) (f c' : Addr) (A : Around) (outer : List Env) (s : Shared) (H : Hp) (E : XK) : Cx :=
  { prog := P, w := w, K := K, mg := mg, base := base, A := A.deeper (lamE q sc s.heap.objs.size f c' cl), N := N, s_0 := s, H_0 := H, env := lamE q sc s.heap.objs.size f c' cl, outer := outer, stack := lamE q sc s.heap.objs.size f c' cl :: outer, ex := [], fn := fun _ => false, calm := true, pn := []
    xe := fun e s' => wpAny (model P w) (A.deeper (lamE q sc s.heap.objs.size f c' cl)) (leaving (lamE q sc s.heap.objs.size f c' cl) e) (fun _ s'' => L2N.CX P w outer H s E e s'') (fun e' s'' => L2N.CX P w outer H s E e' s'') s' }
theorem lam_start1 {P : Program} {w : World} {K : PySem.W.Frag} {mg : Str → Option Value} {base : Heap} {N : List Str} {q p : Str} {sc : Scope} {cl : List (Str × Addr)} {f c' : Addr} {A : Around} {outer : List Env} {s : Shared} {H : Hp} {E : XK} {σ : L2.St} {v : V} {u : Value} {h1 : Heap} {tk : Nat}
    (L : LamP p sc) (e0 : Env0 P w K mg base A outer s H) (hd : A.handled = none) (C : ClAt sc (p :: N) (some v :: σ) cl H s.heap) (hl : σ.length = N.length) (nd : (p :: N).Nodup) (rv : RelV v u) (hns : h1.Ns s.heap.objs.size fun y => [(p, u)].reverse.lookup y) (kp : ∀ b o, s.heap.get? b = some o → h1.get? b = some o) :
    Inv (lamC P w K mg base (p :: N) q sc cl f c' A outer s H E) [] (some v :: σ) H { s with heap := h1, toks := tk } := by
  have none_ex : ∀ b : Addr, b ∉ (lamC P w K mg base (p :: N) q sc cl f c' A outer s H E).ex := fun b z => nomatch (show b ∈ ([] : List Addr) from z)
  have cellK : ∀ {c : Addr} {x : Option Value}, s.heap.IsCell c x → h1.IsCell c x := fun {c x} ⟨o, ho, hd⟩ => ⟨o, kp _ _ ho, hd⟩
  refine ⟨⟨e0.mod, L.kind, rfl, rfl, Nat.le_refl _, C.inj, fun y hy => ?_, fun y c z _ => Bool.noConfusion (show false = true from z), fun _ => hd, Around.frames_deeper e0.frames, .inr ⟨rfl, rfl⟩, fun b z => absurd z (none_ex b), e0.bs, e0.bsz, fun b _ _ => none_ex b, fun b z => absurd z (none_ex b), e0.funs, e0.frf⟩,
    rfl, e0.bare, Un.kept kp, ⟨_, hns, fun i y x e1 e2 e3 => ?_⟩, fun y c e => ?_, e0.hok.fresh (Nat.le_refl _), fun y c e => (C.cell y c e).1, (fun x hx => (nomatch (show x ∈ ([] : List (Addr × Obj)) ++ [] from hx))), e0.hok.kept kp, by show (some v :: σ).length = (p :: N).length; rw [List.length_cons, List.length_cons, hl]⟩
  · have hy : sc.names.lookup y = some .cell ∨ sc.names.lookup y = some .free := hy
    rcases hy with hy | hy
    · exact absurd rfl (L.nocell _ (PySem.mem_of_lookup hy))
    · exact C.has y hy
  · have e3 : Vis sc y := e3
    rcases e3 with k | k | k
    · have ep : y = p := L.own _ (PySem.mem_of_lookup k) rfl
      subst ep
      have i0 : i = 0 := by
        have e1 : (y :: N)[i]? = some y := e1
        cases i with
        | zero => rfl
        | succ i =>
          rw [List.getElem?_cons_succ] at e1
          exact absurd (List.mem_of_getElem? e1) (List.nodup_cons.mp nd).1
      subst i0
      have ex : some v = some x := by simpa using e2
      cases ex
      exact ⟨u, rv, .inl ⟨k, by simp⟩⟩
    · exact absurd rfl (L.nocell _ (PySem.mem_of_lookup k))
    · obtain ⟨c, w', hc, hi, r⟩ := C.val i y x e1 e2 k
      exact ⟨w', r, .inr ⟨.inr k, c, hc, cellK hi⟩⟩
  · obtain ⟨x, hx⟩ := (C.cell y c e).2
    exact ⟨x, cellK hx⟩
def tAct (i j : Nat) (f c' : Addr) (q : Str) (ps : Arguments) (body : Expr) (sc : Scope) (cl : List (Str × Addr)) (σc : L2.St) (W : WX) (te : XK → TE) : TE := fun σ H Q => σ[i]? = some (some (.ref f)) ∧ ∃ v, σ[j]? = some (some v) ∧ H f = some (LamO f q ps body sc cl c') ∧ H c' = some (CodeO c' q) ∧ te (WE W σ) (some v :: σc) H Q
/-- a(b), a a name that a lambda lies in -/
theorem pe_act1 {Z : Cx} {W : WX} {k i j : Nat} {a b p q : Str} {ps : Arguments} {body : Expr} {sc : Scope} {cl : List (Str × Addr)} {f c' : Addr} {N : List Str} {σc : L2.St} {te : XK → TE} {p1 p2 p3 : Pos} (hr : Room (k + 1) Z.A) (tk : L2N.Takes Z W) (L : LamP p sc) (nd : (p :: N).Nodup) (hl : σc.length = N.length)
    (bind : ∀ (u pm cv ctv : Value), bindArgs (PySem.W.kla_fn "<lambda>" q ps body sc cl pm cv ctv) ⟨[u], []⟩ = pure [(p, u)])
    (cls : ∀ (pins : List (Addr × Obj)) (σ : L2.St) (H : Hp) (s : Shared) (v : V), Inv Z pins σ H s → ClAt sc (p :: N) (some v :: σc) cl H s.heap)
    (hb : ∀ (A : Around) (outer : List Env) (s : Shared) (H : Hp) (E : XK), Room k (A.deeper (lamE q sc s.heap.objs.size f c' cl)) → PE (lamC Z.prog Z.w Z.K Z.mg Z.base (p :: N) q sc cl f c' A outer s H E) body (te E))
    (hi : Z.N[i]? = some a) (va : Vis Z.env.scope a) (hj : Z.N[j]? = some b) (vb : Vis Z.env.scope b) (da : (a == ("__debug__" : Str)) = false := by decide) (ca : (a == ("__classdict__" : Str)) = false := by decide) (db : (b == ("__debug__" : Str)) = false := by decide) (cb : (b == ("__classdict__" : Str)) = false := by decide) :
    PE Z (.Call (.Name a p1) [.Name b p2] [] p3) (tAct i j f c' q ps body sc cl σc W te) := by
  refine ⟨fun pins s σ H Q I h => ?_⟩
  obtain ⟨hsi, v, hsj, hf, hc, ht⟩ := h
  refine wpAny_Call_Name_kw (thn ((pe_var (pos := p1) (i := i) hi va da ca).run pins s σ H (fun x H1 => x = .ref f ∧ H1 = H) I ⟨.ref f, hsi, rfl, rfl⟩) fun u0 s1 ⟨x, H1, I1, r1, ex, eH⟩ => ?_)
  subst ex
  rw [eH] at I1
  obtain rfl : u0 = Value.ref f := r1
  obtain ⟨⟨pm0, ctv0, of1⟩, _, _⟩ := I1.hok f _ hf
  have ha : PA Z [.Name b p2] (tCons (tVar j) tNil) := pa_cons (pe_var hj vb db cb) pa_nil
  refine PySem.W.callWith_F ⟨_, _, _, _, of1⟩ (thn (ha.run p3 pins s1 σ H (fun vs H2 => vs = [v] ∧ H2 = H) I1 ⟨v, hsj, rfl, rfl⟩) fun us s2 ⟨vs, H2, I2, r2, ev, eH2⟩ => ?_) (by rfl) (by rfl)
  subst ev
  rw [eH2] at I2
  obtain ⟨u, rfl, rv⟩ : ∃ u, us = [u] ∧ RelV v u := by
    cases r2 with
    | cons r rn =>
      cases rn
      exact ⟨_, rfl, r⟩
  obtain ⟨⟨pm, ctv, of2⟩, _, _⟩ := I2.hok f _ hf
  refine ⟨⟨_, _, _, _, of2⟩, ?_⟩
  obtain ⟨⟨oc, ws, t, hoc, hdc, hvc⟩, _, _⟩ := I2.hok c' _ hc
  have run : codeAny (model Z.prog Z.w) Z.A (.call (.ref f) ⟨[u], []⟩) (CR (L2N.CX Z.prog Z.w) Z.stack Z.prog Z.w H s2 Q (WE W σ)) s2 := by
    refine PySem.W.kla_callFunE hr.depth of2 rfl L.co L.gen rfl ⟨c', oc, ws, t, rfl, hoc, hdc, hvc⟩ ?_
    rw [bind]
    refine wpAny_pure (wpAny_newFunctionEnv L.nocell (fun y hy => ?_) (fun h1 hns hsb => ⟨I2.nolimit.fresh _ hsb, ?_⟩) L.kind)
    · have ey : y = (p, u) := by simpa using hy
      rw [ey]
      exact L.par
    · show codeAny _ _ (.expr body (lamE q sc s2.heap.objs.size f c' cl)) _ _
      have kp : ∀ b o, s2.heap.get? b = some o → h1.get? b = some o := fun b o e => hsb.extBut b o (Nat.ne_of_lt (Heap.lt_size e)) (Heap.get?_push_of_some _ e)
      have J := lam_start1 (q := q) (f := f) (c' := c') (E := WE W σ) (tk := s2.toks + [(p, u)].length) L I2.env0 hr.hd (cls pins σ H s2 v I2) hl nd rv hns kp
      refine PySem.W.kla_codeExpr (wpAny_mono ((hb _ _ s2 H (WE W σ) (hr.deeper _)).run [] _ _ H Q J ht) (fun x s' hq => ?_) fun e s' hq => hq)
      obtain ⟨w', H', J', rw', q'⟩ := hq
      exact ⟨w', H', J'.os, J'.bare, J'.base, J'.hok, rw', q'⟩
  refine wpAny_call (codeAny_mono run fun r s' hq => ?_)
  cases r with
  | error e => exact L2N.passAt tk σ pins H s2 e s' I2 hq
  | ok fl =>
    cases fl with
    | ret u => exact I2.after hq
    | next => exact False.elim hq
    | brk => exact False.elim hq
    | cont => exact False.elim hq
theorem hot_of {X : Cx} {a : Addr} {oe : Obj} {pn : List (Addr × Obj)} {cls : Value} {d : Option Addr} (hz : L2N.Zn cls d oe) (hf : ∃ vs, oe.data = .fields vs) : HotC (X.suite a ((a, oe) :: pn)) := by
  obtain ⟨vs, e⟩ := hf
  exact ⟨(a, oe), ⟨rfl, vs, e, hz.2.2 vs e⟩, List.mem_cons_self⟩
theorem takesN0 {X : Cx} : L2N.Takes X (fun _ _ _ _ => False) := fun _ _ x => by
  obtain ⟨_, _, _, _, _, _, _, _, _, _, _, _, _, _, _, _, z⟩ := x
  exact z.elim
/-! ### a def called, what it does told of the very state -/
def tCalV (SP : L2.St → List V → Hp → VK → Prop) (t : TA) : TE := fun σ H Q => t σ H fun vs H1 => SP σ vs H1 Q
theorem pe_calV {X : Cx} {k j : Nat} {x : Str} {st : Stmt} {N ps : List Str} {p pos : Pos} {e : Expr} {es : List Expr} {t : TA} {SP : L2.St → List V → Hp → VK → Prop} (D : Def X.K X.mg x st ps) (S : FnScope N ps (defScope st)) (len : ∀ σ vs H Q, SP σ vs H Q → vs.length = ps.length)
    (hbody : ∀ (f : Addr) (cdv : Value) (pins : List (Addr × Obj)) (σ : L2.St) (s : Shared) (H : Hp) (vs : List V) (Q : VK), Inv X pins σ H s → Room k (X.A.deeper (envOfC x (defScope st) s.heap.objs.size f cdv)) → SP σ vs H Q →
      ∃ t, PSs (cxOf CX0 X.prog X.w X.K X.mg X.base N x (defScope st) f cdv X.A X.stack s H E0).nox (defBody st) t ∧ t { nx := fun _ H' => Q .non H', rt := Q } (start N vs) H)
    (hr : Room j X.A) (hg : Gl X x) (ha : PA X (e :: es) t) (hjk : k + 1 ≤ j := by decide) (hdb : (x == ("__debug__" : Str)) = false := by decide) (he : starEach (e :: es) X.env = (false, eval e X.env) :: starEach es X.env := by rfl) (hpl : (backTo pos (starEach es X.env)).any (·.1) = false := by rfl) :
    PE X (.Call (.Name x p) (e :: es) [] pos) (tCalV SP t) := by
  refine ⟨fun pins s σ H Q I h => ?_⟩
  obtain ⟨f, fd, hm, F, hb⟩ := D.ex
  have kp := F.kp
  obtain ⟨oc, od, kV, doc, pm, an, cdv, ct, osl, rfl, lk, hcd⟩ := F.ex
  refine wpAny_Call_Name_kw (ld_glob I hg hm ?_ hdb)
  refine PySem.W.callWith_K (h₀ := X.base) I.ok.mod.kin kp (thn (ha.run pos pins s σ H _ I h) fun us s1 ⟨vs, H1, I1, r, q⟩ => ⟨I1.kIn, ?_⟩) he hpl
  have hlen := len _ _ _ _ q
  have bd := Binds.all (K := X.K) hb s1 us I1.kIn (by rw [List.append_nil, ← r.length]; exact hlen)
  rw [List.append_nil] at bd
  have run : codeAny (model X.prog X.w) X.A (.call (.ref f) ⟨us, []⟩) (CR CX0 X.stack X.prog X.w H1 s1 Q E0) s1 := by
    refine LamX.run_ofS (N := N) (ps := ps) (us := us) (vs := vs) lk hcd S (hr.mono hjk) I1.env0 bd r hlen fun hr' => ?_
    obtain ⟨t', ht, hq⟩ := hbody f cdv pins σ s1 H1 vs Q I1 hr' q
    exact ⟨t', ht.nox, hq⟩
  refine wpAny_call (codeAny_mono run fun r s2 hq => ?_)
  cases r with
  | error e => exact (show False from hq).elim
  | ok fl =>
    cases fl with
    | ret u => exact I1.after hq
    | next => exact False.elim hq
    | brk => exact False.elim hq
    | cont => exact False.elim hq
/-! ### what is asked: a lambda of one parameter, in the state of X -/
structure Asks (X : Cx) (k : Nat) (σ : L2.St) (H : Hp) (f : Addr) (tb : XK → V → Hp → VK → Prop) : Prop where
  ex : ∃ (q : Str) (c' : Addr) (ps : Arguments) (body : Expr) (sc : Scope) (cl : List (Str × Addr)) (p : Str) (N : List Str) (σc : L2.St) (te : XK → TE), H f = some (LamO f q ps body sc cl c') ∧ H c' = some (CodeO c' q) ∧ LamP p sc ∧ (p :: N).Nodup ∧ σc.length = N.length ∧
    (∀ (u pm cv ctv : Value), bindArgs (PySem.W.kla_fn "<lambda>" q ps body sc cl pm cv ctv) ⟨[u], []⟩ = pure [(p, u)]) ∧
    (∀ (pins : List (Addr × Obj)) (s : Shared), Inv X pins σ H s → ∀ (H' : Hp) (s' : Shared) (v : V), Un (frs X.stack) [] H H' s.heap s'.heap → ClAt sc (p :: N) (some v :: σc) cl H' s'.heap) ∧
    (∀ (A : Around) (outer : List Env) (s : Shared) (H : Hp) (E : XK), Room k (A.deeper (lamE q sc s.heap.objs.size f c' cl)) → PE (lamC X.prog X.w X.K X.mg X.base (p :: N) q sc cl f c' A outer s H E) body (te E)) ∧
    ∀ (E : XK) (v : V) (H : Hp) (Q : VK), tb E v H Q → te E (some v :: σc) H Q
/-- no cell taken along -/
theorem cl_nil {sc : Scope} {N : List Str} {σ : L2.St} {H : Hp} {h : Heap} (hn : ∀ y ∈ sc.names, y.2 ≠ .free) : ClAt sc N σ [] H h :=
  ⟨(fun y z c e => (nomatch (show (none : Option Addr) = some c from e))), fun y e => absurd rfl (hn _ (PySem.mem_of_lookup e)), (fun y c e => (nomatch (show (none : Option Addr) = some c from e))), fun i y v _ _ e => absurd rfl (hn _ (PySem.mem_of_lookup e))⟩
/-- cells of X taken along -/
theorem cl_of {X : Cx} {pins : List (Addr × Obj)} {σx : L2.St} {H H' : Hp} {s : Shared} {h' : Heap} {sc : Scope} {N : List Str} {σ : L2.St} (I : Inv X pins σx H s) (un : Un (frs X.stack) [] H H' s.heap h') (cap : ∀ y ∈ sc.names, y.2 = .free → X.env.scope.names.lookup y.1 = some .cell ∨ X.env.scope.names.lookup y.1 = some .free)
    (at_ : ∀ (i : Nat) y v, N[i]? = some y → σ[i]? = some (some v) → sc.names.lookup y = some .free → ∃ j : Nat, X.N[j]? = some y ∧ σx[j]? = some (some v)) : ClAt sc N σ (cloFrom X.env.cells sc.names []) H' h' := by
  have cm : ∀ {y c}, (cloFrom X.env.cells sc.names []).lookup y = some c → X.env.cells.lookup y = some c := fun {y c} e => by
    rcases cloFrom_mem (PySem.mem_of_lookup e) with hm | ⟨h1, h2⟩
    · exact nomatch hm
    · obtain ⟨c1, e1⟩ : ∃ c1, X.env.cells.lookup y = some c1 := (cap _ h1 rfl).elim (fun z => I.ok.has _ (.inl z)) fun z => I.ok.has _ (.inr z)
      have e2 : c = c1 := by rw [h2, e1] <;> rfl
      exact e2 ▸ e1
  have has : ∀ y, sc.names.lookup y = some .free → ∃ c, (cloFrom X.env.cells sc.names []).lookup y = some c := fun y e => L2.mem_lookup (cloFrom_has (cells := X.env.cells) (acc := []) (PySem.mem_of_lookup e))
  have keep : ∀ {c : Addr} {v : Option Value}, H c = none → s.heap.IsCell c v → h'.IsCell c v := fun {c v} n ⟨o, ho, hd⟩ => (un.any ho n (by simp)).elim fun sl q => ⟨_, q, hd⟩
  refine ⟨fun y z c e1 e2 => I.ok.inj y z c (cm e1) (cm e2), has, fun y c e => ?_, fun i y v e1 e2 e3 => ?_⟩
  · obtain ⟨v, o, ho, hd⟩ := I.cell y c (cm e)
    exact ⟨un.free c o ho (I.freeC y c (cm e)) (by simp), v, keep (I.freeC y c (cm e)) ⟨o, ho, hd⟩⟩
  · obtain ⟨j, j1, j2⟩ := at_ i y v e1 e2 e3
    obtain ⟨m, hn, hl⟩ := I.loc
    have cf := cap _ (PySem.mem_of_lookup e3) rfl
    obtain ⟨u, r, lk⟩ := hl j y v j1 j2 (cf.elim (fun k => .inr (.inl k)) fun k => .inr (.inr k))
    obtain ⟨c, hc⟩ := has y e3
    refine ⟨c, u, hc, ?_, r⟩
    rcases lk with ⟨k', _⟩ | ⟨_, c3, e', z⟩
    · have k' : X.env.scope.names.lookup y = some .local := k'
      rcases cf with k2 | k2 <;> rw [show X.env.scope.names.lookup y = _ from k2] at k' <;> cases k'
    · rw [cm hc] at e'
      cases e'
      exact keep (I.freeC y _ (cm hc)) z
/-- what _law_refused is asked and says here: true -/
def spR (X : Cx) (k : Nat) (CT CB : Addr) : L2.St → List V → Hp → VK → Prop := fun σ vs H Q => ∃ (f : Addr) (v : V) (d : Int) (C : Addr) (tb : XK → V → Hp → VK → Prop), vs = [.ref f, v, .int d] ∧ Asks X k σ H f tb ∧ ((C = CT ∧ d = 0) ∨ (C = CB ∧ d = 1)) ∧ (∀ (E : XK) (Qx : VK), (∀ H', Ex H H' → E (.ref C) none H') → tb E v H Qx) ∧ ∀ H', Ex H H' → Q (.bl true) H'
structure CalR (P : Program) (w : World) (K : PySem.W.Frag) (mg : Str → Option Value) (base : Heap) (CT CB : Addr) (k : Nat) : Prop where
  pe : ∀ {X : Cx}, X.prog = P → X.w = w → X.K = K → X.mg = mg → X.base = base → ∀ {j : Nat} {p pos : Pos} {e : Expr} {es : List Expr} {t : TA}, Room j X.A → k + 2 ≤ j → Gl X "_law_refused" → PA X (e :: es) t → starEach (e :: es) X.env = (false, eval e X.env) :: starEach es X.env → (backTo pos (starEach es X.env)).any (·.1) = false →
    PE X (.Call (.Name "_law_refused" p) (e :: es) [] pos) (tCalV (spR X k CT CB) t)
/-- what _law_refused's except says -/
theorem s_refused {K : PySem.W.Frag} {H : Hp} {D : Ends} {C CT CB a : Addr} {b1 b2 : Bool} {d : Int} {x0 x1 : Option V} (k1 : PySem.W.kitOne K (.ref C) (.ref CT) = some b1) (k2 : PySem.W.kitOne K (.ref C) (.ref CB) = some b2) (k3 : PySem.W.kitOne K (.ref C) (.type "ValueError") = some true)
    (h1 : decide ((0 : Int) = d) = b1) (h2 : decide ((1 : Int) = d) = b2) (k : ∀ H', Ex H H' → D.rt (.bl true) H') :
    tSeq (tAsg (tLst (tCons (tCB (rIsE K C a) (tCons (tVar 3) (tCons (tC (.ref CT)) tNil))) (tCons (tCB (rIsE K C a) (tCons (tVar 3) (tCons (tC (.ref CB)) tNil))) tNil))) (gName 4)) (tRet (tAndV (tOp (rEqD K) (tVar 4) (tLc (iRng1 (tCons (tC (.int 2)) tNil)) (gName 5) tYes (tOp rEq (tVar 5) (tVar 2)) [5])) (tCB (rIsE K C a) (tCons (tVar 3) (tCons (tC (.ty "ValueError")) tNil))))) D [x0, x1, some (.int d), some (.ref a), none, none] H := by
  refine q_asgL (xs := [.bl b1, .bl b2]) (el_lst (ea_cons (ev_isE (ev_var rfl) (fun u r => by cases r; rfl) k1) (ea_cons (ev_isE (ev_var rfl) (fun u r => by cases r; rfl) k2) ea_nil)) (by show 2 ≤ 100000; decide)) fun p H1 np e1 hp => ?_
  have dd : ∀ {p : Addr} {H2 : Hp}, H2 p = some (.lst [.bl b1, .bl b2]) → Dp K H2 (.ref p) (.list [.bool b1, .bool b2]) := fun h => .lst (sq_of h) (.cons (.bl _) (.cons (.bl _) .nil))
  have lc : EvL (tLc (iRng1 (tCons (tC (.int 2)) tNil)) (gName 5) tYes (tOp rEq (tVar 5) (tVar 2)) [5]) [x0, x1, some (.int d), some (.ref a), some (.ref p), none] H1 [.bl b1, .bl b2] := by
    have g : given (2 : Int).toNat (fun _ => true) (fun i => .bl (decide ((i : Int) = d))) = [.bl b1, .bl b2] := by
      rw [← h1, ← h2]
      rfl
    rw [← g]
    exact el_lcR1 _ _ (ea_cons ev_c ea_nil) (by decide) (fun x => rfl) (fun i H2 e2 hi => et_yes) fun i H2 e2 hi _ => ev_eqI (ev_var rfl) (ev_var rfl)
  refine s_ret (v := .bl true) (ev_is (ev_andV (ev_eqDL (ev_var rfl) lc (fun H2 e2 => dd (e2 _ _ hp)) (fun p H2 e2 h => dd h) (by cases b1 <;> cases b2 <;> decide) (by cases b1 <;> cases b2 <;> decide)) fun _ => ev_isE (ev_var rfl) (fun u r => by cases r; rfl) k3) ?_) fun H2 e2 => k H2 (e1.trans e2)
  cases b1 <;> cases b2 <;> rfl
/-! ### a def that makes lambdas: its code object, the table of it; the end -/
def CodeIs (K : PySem.W.Frag) (mg : Str → Option Value) (x : Str) (c : Addr) : Prop := ∀ (f : Addr) (fd : FuncData) (oc : Value) (od : Option Addr) (sl : Array (Option Value)), mg x = some (.ref f) → K.lookup f = some ⟨oc, od, .func fd, sl⟩ → fd.code = .ref c
theorem codeIs_of {K : PySem.W.Frag} {mg : Str → Option Value} {h : Heap} {x : Str} {c P : Addr} (KX : K.In h) (G : h.Ns mainGlobals mg) (ht : PySem.W.tabIn K x = some (c, P)) : CodeIs K mg x c := fun f fd oc od sl hm lk => by
  unfold PySem.W.tabIn at ht
  split at ht
  · rename_i f' hf
    have e1 := PySem.W.mg_of KX G hf
    rw [hm] at e1
    cases e1
    split at ht
    · rename_i lk'
      rw [lk] at lk'
      cases lk'
      split at ht
      · rename_i c2 hc
        split at ht
        · split at ht
          · cases ht
            exact hc
          · cases ht
        · cases ht
      · cases ht
    · cases ht
  · cases ht
theorem Def.calC {P : Program} {w : World} {K : PySem.W.Frag} {mg : Str → Option Value} {base : Heap} {x : Str} {st : Stmt} {N ps : List Str} {k : Nat} {sp : Sp} {c : Addr} (D : Def K mg x st ps) (hc : CodeIs K mg x c) (S : FnScope N ps (defScope st)) (len : ∀ vs H Q E, sp vs H Q E → vs.length = ps.length)
    (hbody : ∀ (f : Addr) (A : Around) (outer : List Env) (s : Shared) (H : Hp) (vs : List V) (Q : VK) (E : XK), Room k (A.deeper (envOfC x (defScope st) s.heap.objs.size f (.ref c))) → sp vs H Q E →
      ∃ t, PSs (cxOf CX0 P w K mg base N x (defScope st) f (.ref c) A outer s H E).nox (defBody st) t ∧ t { nx := fun _ H' => Q .non H', rt := Q } (start N vs) H) : Cal P w K mg base (k + 1) x ps sp := by
  obtain ⟨f, fd, hm, F, hb⟩ := D.ex
  have kp := F.kp
  obtain ⟨oc, od, kV, doc, pm, an, cdv, ct, osl, rfl, lk, hcd⟩ := F.ex
  obtain rfl : cdv = .ref c := hc f _ oc od osl hm lk
  refine ⟨f, _, hm, kp, hb, ⟨oc, od, osl, lk⟩, fn_of lk hcd S len fun A outer s H vs Q E hr hsp => ?_⟩
  obtain ⟨t, ht, hq⟩ := hbody f A outer s H vs Q E hr hsp
  exact ⟨t, ht.nox, hq⟩
theorem walk_endT {l : PySem.W.OpenLaw} {q : Program} {loose : List Str} {XP : (Str → Option Value) → Heap → Prop} {YP : World → Heap → Prop} {d dr : DefRec} {K : Params → PySem.W.Frag} {k : Nat} {st : Stmt} {sp : PySem.W.Frag → Addr → Sp} {x : Str}
    (hn : l.most = some 63) (hdf : d.params.defaults = []) (hr : Room k callerA) (hY : ∀ (w : World) (h : Heap), YP w h → (K w.params).In h) (hname : d.name = "law") (hrec : (recsOf q).find? (fun e => e.name == x) = some dr)
    (hsp : ∀ (K : PySem.W.Frag) (P : Addr) (H : Hp) (a : Addr) (ns : List Int), ns.length ≤ 63 → (∀ z ∈ ns, Builtin.Int.intBits z ≤ 1048576) → H P = some (.tbl #[]) → SqL K H a (ns.map V.int) → sp K P [.ref a] H (fun v _ => v = .bl true) fun _ _ _ => False)
    (F : ∀ (w : World) (mg : Str → Option Value) (h : Heap), (K w.params).In h → h.Ns mainGlobals mg → ∃ c P, PySem.W.tabIn (K w.params) x = some (c, P) ∧ (K w.params).lookup P = none ∧ Def (K w.params) mg "law" st ["_law_script"] ∧ ∀ base : Heap, TabB base mg c P → Cal l.prog w (K w.params) mg base k "law" ["_law_script"] (sp (K w.params) P)) :
    PySem.W.WalkO q loose XP YP l.row.toRowW d [] (fun f vs => PySem.call f vs) := by
  refine Att.attach_callB hn hdf fun w s₀ s₁ mg mb fa o pm cd doc a vs ns G Y ho hd hcd hmg hobj hints hlen hbits hg => ?_
  have KX := hY w _ Y
  obtain ⟨c, P, ht, nP, D, C⟩ := F w mg _ KX G.T.g
  obtain ⟨hC, hP⟩ := PySem.W.tab_of G.T KX hrec ht
  obtain ⟨f, fd, hm, Fn, hb⟩ := D.ex
  rw [hname, hm] at hmg
  cases hmg
  have one : ∀ {φ : Addr × Addr → Prop}, φ (c, P) → ∀ p ∈ [(c, P)], φ p := fun h p hp => by
    obtain rfl : p = (c, P) := by simpa using hp
    exact h
  refine LamX.law_callTs (cs := [(c, P)]) (CX := CX0) (sp := sp (K w.params) P) KX G.T.g G.T.b G.T.builtins G.T.nolimit hg (one hP) (one nP) (one hC) G.T.bmain hobj hints (Nat.le_trans hlen (by decide)) hr (fun base _ _ TB => ?_) (fun s u => .of_eq (hb [u] rfl)) (fun H hH hS => hsp _ _ H a ns hlen hbits (hH _ (List.mem_singleton_self _)) hS) fun _ _ _ z => z
  obtain ⟨f', fd', hm', _, _, ⟨oc, od, sl, lk⟩, Fk⟩ := (C base (TB _ (List.mem_singleton_self _))).ex
  rw [hm] at hm'
  cases hm'
  obtain ⟨oc2, od2, _, _, _, _, _, _, osl, _, lk2, _⟩ := Fn.ex
  rw [lk] at lk2
  cases lk2
  exact Fk
/-! ### sums of a plan's hours; fullest of a table written out -/
theorem ev_hoursSum {K : PySem.W.Frag} {σ : L2.St} {H : Hp} {tl : TE} {a : Addr} {ts ls : List Addr} {parts : List (Prs × Int)} {j k : Nat} {vs : List Nat} (h : Ev tl σ H (.ref a)) (hP : PartsAt H a ts ls parts) (hl : parts.length ≤ 800) (hw : ∀ x y, wipe (((wipe σ vs).set j (some x)).set k (some y)) vs = wipe σ vs) (hk : ∀ x y H1, Ev (tVar k) (((wipe σ vs).set j (some x)).set k (some y)) H1 y) :
    Ev (tCB (rSum K) (tCons (tLc (iList K tl) (gTup K 2 (gCons (gName j) (gCons (gName k) gNil))) tYes (tVar k) vs) tNil)) σ H (.int (total parts)) := by
  have hlen : (ts.map V.ref).length = parts.length := by rw [List.length_map, hP.lt]
  refine ev_sumL (ns := parts.map (·.2)) ?_
  have hg : (parts.map (·.2)).map V.int = given (ts.map V.ref).length (fun _ => true) (fun i => .int (parts.getD i ([], 0)).2) := (given_all (by simp [hlen]) fun i x hx => by
    rw [List.map_map, List.getElem?_map] at hx
    cases e : parts[i]? with
    | none => rw [e] at hx; cases hx
    | some pt =>
      rw [e] at hx
      have e2 : parts.getD i ([], 0) = pt := by simp [List.getD, e]
      rw [e2]
      exact Option.some.inj hx).symm
  rw [hg]
  exact el_lcP (p := fun i => .ref (ls.getD i 0)) (q := fun i => .int (parts.getD i ([], 0)).2) _ _ h (sq_of hP.top) (parts_turns hP) (by rw [hlen]; omega) hw (fun i H1 e1 hi => et_yes) fun i H1 e1 hi _ => hk _ _ H1
abbrev fullD (i : Int) (x : Str) (j : Int) : PyData := .tuple [.int i, .tuple [.str x, .int j]]
theorem shaped_fullD (i : Int) (x : Str) (j : Int) (hx : PyData.canLay0 (.str x) = true) : SeqAt.shaped (fullD i x j) = true := by
  unfold SeqAt.shaped
  rw [Bool.and_eq_true]
  refine ⟨?_, decide_eq_true ?_⟩
  · show (true && ((PyData.canLay0 (.str x) && (true && true)) && true)) = true
    rw [hx]
    rfl
  · show max (PyData.int i).depth (PyData.depthAll [.tuple [.str x, .int j]]) + 1 ≤ 64
    show max 0 (max (max 0 (max 0 0) + 1) 0) + 1 ≤ 64
    decide
theorem evp_fullD {K : PySem.W.Frag} {σ : L2.St} {H : Hp} {te : TE} {T : List (List Int)} {n m : Nat} {E : XK} (h : EvP te σ H (fun _ v H2 => IsTb H2 v T n m)) : EvP (tCall (sp_fullest K) [] E (tCons te tNil)) σ H (IsD K (fullD (fullM T m) (fullW T m) (fullI T m))) :=
  (evp_call1 (P := NewFull T m) h down_c fun v H1 H2 _ _ ⟨hG, b, rs, hv, hT⟩ Q q => by
    subst hv
    exact ⟨b, rs, T, n, m, rfl, hT, hG, q⟩).imp fun H1 v H2 _ _ ⟨p, q, hv, hp, hq⟩ => by
    rw [hv]
    exact .tup (st_of hp) (.cons (.int _) (.cons (.tup (st_of hq) (.cons (.str _) (.cons (.int _) .nil))) .nil))
theorem et_fullest {K : PySem.W.Frag} {σ : L2.St} {H : Hp} {te ti : TE} {T : List (List Int)} {n m : Nat} {E : XK} {i : Int} {x : Str} {j : Int} (h : EvP te σ H (fun _ v H2 => IsTb H2 v T n m)) (hi : ∀ {H1 : Hp}, Ev ti σ H1 (.int i)) (f1 : fullM T m = i) (f2 : fullW T m = x) (f3 : fullI T m = j) (hx : PyData.canLay0 (.str x) = true := by decide +kernel) :
    EvT (tTest (tOp (rNeD K) (tCall (sp_fullest K) [] E (tCons te tNil)) (tTup (tCons ti (tCons (tTup (tCons (tC (.str x)) (tCons (tC (.int j)) tNil))) tNil))))) σ H false := by
  subst f1 f2 f3
  exact et_test (ev_is (ev_neDP (evp_fullD h) (ed_tup (eds_cons (ed_int hi) (eds_cons (ed_tup (eds_cons (ed_str ev_c) (eds_cons (ed_int ev_c) eds_nil)) (by show 2 ≤ 100000; decide)) eds_nil)) (by show 2 ≤ 100000; decide)) (shaped_fullD _ _ _ hx) (shaped_fullD _ _ _ hx)) (by rw [eqv_same (shaped_fullD _ _ _ hx)]; rfl))
/-- any table -/
def IsTbA (H : Hp) (v : V) : Prop := ∃ T n m, IsTb H v T n m
theorem mo_tba : Mo IsTbA := fun _ _ _ e ⟨T, n, m, h⟩ => ⟨T, n, m, h.mono e⟩
theorem tba {σ : L2.St} {H : Hp} {te : TE} {T : List (List Int)} {n m : Nat} (h : EvP te σ H (fun _ v H2 => IsTb H2 v T n m)) : EvP te σ H (fun _ v H2 => IsTbA H2 v) := h.imp fun _ _ _ _ _ z => ⟨T, n, m, z⟩
theorem q_par {i j : Nat} {ta : TA} {tz : TS} {D : Ends} {σ : L2.St} {H : Hp} (h : ta σ H fun vs H1 => ∃ v w, vs = [v, w] ∧ tz D ((σ.set i (some v)).set j (some w)) H1) : tSeq (tPar i j ta) tz D σ H := h
abbrev bigG : Int := 1000000000000000000000000000000
def sp__law_plans_promises (K : PySem.W.Frag) : Sp := fun vs H Q _ => ∃ (a : Addr) (rs : List Addr), vs = [.int bigG, .ref a] ∧ Tab H a rs [[2, 1], [1, 0]] ∧ Ret (IsV (.bl true)) H Q
def sp__law_promises_right (K : PySem.W.Frag) : Sp := fun vs H Q _ => vs = [] ∧ Ret (IsV (.bl true)) H Q
def sp__law_each_promises (K : PySem.W.Frag) : Sp := fun vs H Q _ => ∃ (a : Addr) (rs : List Addr), vs = [.ref a] ∧ Tab H a rs [[1, 1], [1, 0]] ∧ Ret (IsV (.bl true)) H Q
/-! ### lists written out, item by item; parts written out -/
section
variable {α : Type} {R : Hp → V → α → Prop} {σ : L2.St} {H : Hp} {te tb : TE} {tr : TA} {x : α} {xs : List α}
def MoR (R : Hp → V → α → Prop) : Prop := ∀ H H' v x, Ex H H' → R H v x → R H' v x
theorem er2_nil : EvAP tNil σ H (fun _ vs H2 => Paired (R H2) vs []) := fun H1 _ Q q => q [] H1 (Ex.refl _) .nil
theorem er2_cons (m : MoR R) (h : EvP te σ H (fun _ v H2 => R H2 v x)) (hr : EvAP tr σ H (fun _ vs H2 => Paired (R H2) vs xs)) : EvAP (tCons te tr) σ H (fun _ vs H2 => Paired (R H2) vs (x :: xs)) := fun H1 e Q q =>
  h H1 e _ fun v H2 e2 hv => hr H2 (e.trans e2) _ fun vs H3 e3 hvs => q _ H3 (e2.trans e3) (.cons (m _ _ _ _ e3 hv) hvs)
def IsL2 (R : Hp → V → α → Prop) (H : Hp) (v : V) (xs : List α) : Prop := ∃ (p : Addr) (vs : List V), v = .ref p ∧ H p = some (.lst vs) ∧ Paired (R H) vs xs
theorem IsL2.mono {H' : Hp} {v : V} (m : MoR R) (h : IsL2 R H v xs) (e : Ex H H') : IsL2 R H' v xs := by
  obtain ⟨p, vs, a, b, c⟩ := h
  exact ⟨p, vs, a, e _ _ b, L2.Paired.mapP c fun v x z => m _ _ _ _ e z⟩
theorem er2_disp (m : MoR R) (h : EvAP tr σ H (fun _ vs H2 => Paired (R H2) vs xs)) (hl : xs.length ≤ 1000) : EvP (tLst tr) σ H (fun _ v H2 => IsL2 R H2 v xs) := fun H1 e Q q =>
  h H1 e _ fun vs H2 e2 hvs => ⟨sz_of (by have := hvs.length; omega), fun p np => q _ _ (e2.trans (Ex.new np)) ⟨p, vs, rfl, upd_same, L2.Paired.mapP hvs fun v x z => m _ _ _ _ (Ex.new np) z⟩⟩
end
def PrAt (H : Hp) (v : V) (pr : Int × Int) : Prop := ∃ q, v = .ref q ∧ H q = some (.tup [.int pr.1, .int pr.2])
theorem mo_pr : MoR PrAt := fun _ _ _ _ e ⟨q, a, b⟩ => ⟨q, a, e _ _ b⟩
def PtAt (H : Hp) (v : V) (pt : Prs × Int) : Prop := ∃ t l, v = .ref t ∧ H t = some (.tup [.ref l, .int pt.2]) ∧ IsL2 PrAt H (.ref l) pt.1
theorem mo_pt : MoR PtAt := fun _ _ _ _ e ⟨t, l, a, b, c⟩ => ⟨t, l, a, e _ _ b, c.mono mo_pr e⟩
theorem prsAt_of {H : Hp} {v : V} {prs : Prs} (h : IsL2 PrAt H v prs) : ∃ l qs, v = .ref l ∧ PrsAt H l qs prs := by
  obtain ⟨l, vs, hv, hl, hp⟩ := h
  have key : ∀ {vs : List V} {prs : Prs}, Paired (PrAt H) vs prs → ∃ qs : List Addr, vs = qs.map V.ref ∧ qs.length = prs.length ∧ ∀ (i : Nat) q pr, qs[i]? = some q → prs[i]? = some pr → H q = some (.tup [.int pr.1, .int pr.2]) := by
    intro vs prs hp
    induction hp with
    | nil => exact ⟨[], rfl, rfl, fun i q pr a => by simp at a⟩
    | cons r t ih =>
      obtain ⟨q, hq, hh⟩ := r
      obtain ⟨qs, e1, e2, e3⟩ := ih
      refine ⟨q :: qs, by rw [hq, e1]; rfl, by simp [e2], fun i q' pr' a b => ?_⟩
      cases i with
      | zero =>
        simp at a b
        rw [← a, ← b]
        exact hh
      | succ i => exact e3 i q' pr' (by simpa using a) (by simpa using b)
  obtain ⟨qs, e1, e2, e3⟩ := key hp
  exact ⟨l, qs, hv, by rw [hl, e1], e2, e3⟩
theorem partsAt_of {H : Hp} {v : V} {parts : List (Prs × Int)} (h : IsL2 PtAt H v parts) : ∃ a ts ls, v = .ref a ∧ PartsAt H a ts ls parts := by
  obtain ⟨l, vs, hv, hl, hp⟩ := h
  have key : ∀ {vs : List V} {parts : List (Prs × Int)}, Paired (PtAt H) vs parts → ∃ ts ls : List Addr, vs = ts.map V.ref ∧ ts.length = parts.length ∧ ls.length = parts.length ∧ ∀ (i : Nat) t l pt, ts[i]? = some t → ls[i]? = some l → parts[i]? = some pt → H t = some (.tup [.ref l, .int pt.2]) ∧ ∃ qs, PrsAt H l qs pt.1 := by
    intro vs parts hp
    induction hp with
    | nil => exact ⟨[], [], rfl, rfl, rfl, fun i t l pt a => by simp at a⟩
    | cons r t ih =>
      obtain ⟨t0, l0, ht, hh, hpr⟩ := r
      obtain ⟨ts, ls, e1, e2, e3, e4⟩ := ih
      refine ⟨t0 :: ts, l0 :: ls, by rw [ht, e1]; rfl, by simp [e2], by simp [e3], fun i t' l' pt' a b c => ?_⟩
      cases i with
      | zero =>
        simp at a b c
        rw [← a, ← b, ← c]
        obtain ⟨l1, qs, e, hq⟩ := prsAt_of hpr
        cases e
        exact ⟨hh, qs, hq⟩
      | succ i => exact e4 i t' l' pt' (by simpa using a) (by simpa using b) (by simpa using c)
  obtain ⟨ts, ls, e1, e2, e3, e4⟩ := key hp
  exact ⟨l, ts, ls, hv, by rw [hl, e1], e2, e3, e4⟩
section
variable {σ : L2.St} {H : Hp} {te tb : TE} {a : Addr}
theorem pr_tup {i j : Int} (hi : Ev te σ H (.int i)) (hj : Ev tb σ H (.int j)) : EvP (tTup (tCons te (tCons tb tNil))) σ H (fun _ v H2 => PrAt H2 v (i, j)) := fun H1 e Q q =>
  hi H1 e _ fun H2 e2 => hj H2 (e.trans e2) _ fun H3 e3 => ⟨sz_of (by show 2 ≤ 100000; decide), fun t nt => q _ _ ((e2.trans e3).trans (Ex.new nt)) ⟨t, rfl, upd_same⟩⟩
theorem pt_tup {prs : Prs} {h : Int} (hp : EvP te σ H (fun _ v H2 => IsL2 PrAt H2 v prs)) (hh : Ev tb σ H (.int h)) : EvP (tTup (tCons te (tCons tb tNil))) σ H (fun _ v H2 => PtAt H2 v (prs, h)) := fun H1 e Q q =>
  hp H1 e _ fun v H2 e2 hv => hh H2 (e.trans e2) _ fun H3 e3 => ⟨sz_of (by show 2 ≤ 100000; decide), fun t nt => by
    obtain ⟨l, vs, rfl, hl, hpp⟩ := hv
    exact q _ _ ((e2.trans e3).trans (Ex.new nt)) ⟨t, l, rfl, upd_same, (IsL2.mono mo_pr ⟨l, vs, rfl, hl, hpp⟩ (e3.trans (Ex.new nt)))⟩⟩
theorem l2_var {α : Type} {R : Hp → V → α → Prop} {xs : List α} {v : V} (m : MoR R) (h : Ev te σ H v) (hx : IsL2 R H v xs) : EvP te σ H (fun _ v H2 => IsL2 R H2 v xs) := fun H1 e Q q => h H1 e _ fun H2 e2 => q v H2 e2 (hx.mono m (e.trans e2))
end
/-- a case: parts, what is due -/
def IsCP (T : List (List Int)) (n m : Nat) (H : Hp) (v : V) : Prop := ∃ (t : Addr) (x : V) (parts : List (Prs × Int)), v = .ref t ∧ H t = some (.tup [x, .bl (planB T n m parts)]) ∧ IsL2 PtAt H x parts ∧ parts.length ≤ 100 ∧ ∀ pt ∈ parts, pt.1.length ≤ 100
theorem mo_cp {T : List (List Int)} {n m : Nat} : Mo (IsCP T n m) := fun _ _ _ e ⟨t, x, parts, a, b, c, d⟩ => ⟨t, x, parts, a, e _ _ b, c.mono mo_pt e, d⟩
theorem ev_cp {T : List (List Int)} {n m : Nat} {σ : L2.St} {H : Hp} {te : TE} {parts : List (Prs × Int)} {b : Bool} (h : EvP te σ H (fun _ v H2 => IsL2 PtAt H2 v parts)) (hb : planB T n m parts = b) (hl : parts.length ≤ 100) (hs : ∀ pt ∈ parts, pt.1.length ≤ 100) : EvP (tTup (tCons te (tCons (tC (.bl b)) tNil))) σ H (fun _ v H2 => IsCP T n m H2 v) := fun H1 e Q q =>
  h H1 e _ fun v H2 e2 hv => ⟨sz_of (by show 2 ≤ 100000; decide), fun t nt => q _ _ (e2.trans (Ex.new nt)) ⟨t, v, parts, rfl, by rw [hb]; exact upd_same, hv.mono mo_pt (Ex.new nt), hl, hs⟩⟩
theorem q_par3 {i j l : Nat} {ta : TA} {tz : TS} {D : Ends} {σ : L2.St} {H : Hp} (h : ta σ H fun vs H1 => ∃ u v w, vs = [u, v, w] ∧ tz D (((σ.set i (some u)).set j (some v)).set l (some w)) H1) : tSeq (tPar3 i j l ta) tz D σ H := h
theorem ev_methPA {σ : L2.St} {H : Hp} {ta tb : TE} {P Pa : Hp → V → Hp → Prop} {C : Addr} {mt : Str} {sp : Sp} {z : V} {E : XK} (h : EvP ta σ H P) (hp : ∀ H1 v H2, P H1 v H2 → ∃ a dx fs, v = .ref a ∧ H2 a = some (.ins C dx fs) ∧ fs.lookup mt = none) (hr : EvP tb σ H Pa)
    (hs : ∀ H1 v H2 u H3, Ex H H1 → Ex H1 H2 → Ex H2 H3 → P H1 v H2 → Pa H2 u H3 → ∀ Q : VK, Ret (IsV z) H3 Q → sp (v :: ([u] ++ [])) H3 Q E) : Ev (tMeth C mt sp [] E ta (tCons tb tNil)) σ H z := fun H1 e Q q =>
  h H1 e _ fun v H2 e2 hv => by
    obtain ⟨a, dx, fs, rfl, ha, hl⟩ := hp H1 v H2 hv
    exact ⟨a, dx, fs, rfl, ha, hl, hr H2 (e.trans e2) _ fun u H3 e3 hu => hs H1 _ H2 u H3 e e2 e3 hv hu Q fun w H4 e4 hw => by
      have : w = z := hw
      rw [this]
      exact q H4 ((e2.trans e3).trans e4)⟩
end Lh

namespace Lh
open PySem PySem.Spec PyProof.Rows L2 Evl L2H
/-! ### loops over zip, over a list of cases just made; pairs of values -/
section
variable {K : PySem.W.Frag} {σ : L2.St} {H : Hp} {te tl tl2 ta tb : TE} {g : TG} {a b : Addr} {xs ys : List V} {D : Ends} {tu tz : TS} {I : Hp → V → Prop}
theorem s_forZ {j k n : Nat} (h : Ev tl σ H (.ref a)) (h2 : Ev tl2 σ H (.ref b)) (hx : SqL K H a xs) (hy : SqL K H b ys) (hn : n = min xs.length ys.length) (Pv : Nat → L2.St → Hp → Prop) (h0 : ∀ H1, Ex H H1 → Pv 0 σ H1) (hl : ∀ i σ' H', i ≤ n → Pv i σ' H' → SqL K H' a xs ∧ SqL K H' b ys)
    (hs : ∀ (i : Nat) x y σ' H', xs[i]? = some x → ys[i]? = some y → Pv i σ' H' → ∀ H2, Ex H' H2 → tu { D with nx := Pv (i + 1), ct := Pv (i + 1), bk := D.nx } ((σ'.set j (some x)).set k (some y)) H2) (hd : ∀ σ' H', Pv n σ' H' → D.nx σ' H') :
    tFor (iZip K (tCons tl (tCons tl2 tNil))) (gTup K 2 (gCons (gName j) (gCons (gName k) gNil))) tu D σ H := h H (Ex.refl H) _ fun H1 e1 => h2 H1 e1 _ fun H2 e2 =>
  ⟨a, b, xs, ys, rfl, ex_l (e1.trans e2) hx, ex_l (e1.trans e2) hy, for_it (walk_zip (K := K) (a := a) (b := b) (xs := xs) (ys := ys) hn) Pv (h0 H2 (e1.trans e2)) hl (fun i x σ' Ha Hb hi p y => by
    obtain ⟨T, u, z, rfl, hT, rfl, h1, h2⟩ := y
    exact gpair (st_of upd_same) (hs i u z σ' Ha h1 h2 p _ (Ex.new hT))) hd⟩
theorem q_forZ {j k n : Nat} (h : Ev tl σ H (.ref a)) (h2 : Ev tl2 σ H (.ref b)) (hx : SqL K H a xs) (hy : SqL K H b ys) (hn : n = min xs.length ys.length) (Pv : Nat → L2.St → Hp → Prop) (h0 : ∀ H1, Ex H H1 → Pv 0 σ H1) (hl : ∀ i σ' H', i ≤ n → Pv i σ' H' → SqL K H' a xs ∧ SqL K H' b ys)
    (hs : ∀ (i : Nat) x y σ' H', xs[i]? = some x → ys[i]? = some y → Pv i σ' H' → ∀ H2, Ex H' H2 → tu { D with nx := Pv (i + 1), ct := Pv (i + 1), bk := tz D } ((σ'.set j (some x)).set k (some y)) H2) (hd : ∀ σ' H', Pv n σ' H' → tz D σ' H') :
    tSeq (tFor (iZip K (tCons tl (tCons tl2 tNil))) (gTup K 2 (gCons (gName j) (gCons (gName k) gNil))) tu) tz D σ H := s_forZ (D := { D with nx := tz D }) h h2 hx hy hn Pv h0 hl hs hd
theorem s_forAllP {k : Nat} (h : EvP tl σ H (fun _ v H2 => ∃ p vs, v = .ref p ∧ H2 p = some (.lst vs) ∧ vs.length = k ∧ ∀ u ∈ vs, I H2 u)) (m : Mo I) (Sh : L2.St → Prop) (h0 : Sh σ)
    (hs : ∀ H1, Ex H H1 → ∀ v σ' H', Sh σ' → Ex H1 H' → I H' v → g v σ' H' fun σ2 H2 => tu { D with nx := fun σ' H' => Sh σ' ∧ Ex H1 H', ct := fun σ' H' => Sh σ' ∧ Ex H1 H', bk := D.nx } σ2 H2) (hd : ∀ σ' H', Sh σ' → Ex H H' → D.nx σ' H') : tFor (iList K tl) g tu D σ H :=
  h H (Ex.refl H) _ fun v H1 e1 ⟨p, xs, hv, hp, _, hI⟩ => ⟨p, hv, ⟨xs, sq_of hp⟩, for_list (fun _ σ' H' => Sh σ' ∧ Ex H1 H') ⟨h0, Ex.refl _⟩ (fun i σ' H' _ z => sq_of (z.2 _ _ hp)) (fun i x σ' H' hx z => hs H1 e1 x σ' H' z.1 z.2 (m _ _ _ z.2 (hI x (List.mem_of_getElem? hx)))) fun σ' H' z => hd σ' H' z.1 (e1.trans z.2)⟩
theorem q_forAllP {k : Nat} (h : EvP tl σ H (fun _ v H2 => ∃ p vs, v = .ref p ∧ H2 p = some (.lst vs) ∧ vs.length = k ∧ ∀ u ∈ vs, I H2 u)) (m : Mo I) (Sh : L2.St → Prop) (h0 : Sh σ)
    (hs : ∀ H1, Ex H H1 → ∀ v σ' H', Sh σ' → Ex H1 H' → I H' v → g v σ' H' fun σ2 H2 => tu { D with nx := fun σ' H' => Sh σ' ∧ Ex H1 H', ct := fun σ' H' => Sh σ' ∧ Ex H1 H', bk := tz D } σ2 H2) (hd : ∀ σ' H', Sh σ' → Ex H H' → tz D σ' H') : tSeq (tFor (iList K tl) g tu) tz D σ H :=
  s_forAllP (D := { D with nx := tz D }) h m Sh h0 hs hd
theorem q_tup2 {ta : TA} {i j : Nat} (h : ta σ H fun xs H1 => xs.length ≤ sizeLine ∧ ∀ p, H1 p = none → gTup K 2 (gCons (gName i) (gCons (gName j) gNil)) (.ref p) σ (upd H1 p (.tup xs)) fun σ2 H2 => tz D σ2 H2) : tSeq (tAsg (tTup ta) (gTup K 2 (gCons (gName i) (gCons (gName j) gNil)))) tz D σ H := h
/-- a new tuple of two, at once taken apart -/
theorem cN2 {ta : TA} {i j : Nat} {x y : V} (k : ∀ H1, Ex H H1 → tz D ((σ.set i (some x)).set j (some y)) H1) : [x, y].length ≤ sizeLine ∧ ∀ p, H p = none → gTup K 2 (gCons (gName i) (gCons (gName j) gNil)) (.ref p) σ (upd H p (.tup [x, y])) fun σ2 H2 => tz D σ2 H2 :=
  ⟨sz_of (by show 2 ≤ 100000; decide), fun p np => gpair (st_of upd_same) (k _ (Ex.new np))⟩
/-! any, all over range(n) -/
theorem el_lcRB {n : Nat} {bf : Nat → Bool} {ta : TA} {j : Nat} {vs : List Nat} (h : EvA ta σ H [.int (n : Int)]) (hn : n ≤ 1000) (hw : ∀ x, wipe ((wipe σ vs).set j (some x)) vs = wipe σ vs)
    (he : ∀ (i : Nat) H1, Ex H H1 → i < n → Ev te ((wipe σ vs).set j (some (.int (i : Int)))) H1 (.bl (bf i))) : EvL (tLc (iRng1 ta) (gName j) tYes te vs) σ H (((List.range n).map bf).map V.bl) := by
  have hg : ((List.range n).map bf).map V.bl = given ((n : Int)).toNat (fun _ => true) (fun i => .bl (bf i)) := by
    unfold given
    rw [List.filter_eq_self.mpr (fun _ _ => rfl), List.map_map, Int.toNat_natCast]
    rfl
  rw [hg]
  exact el_lcR1 _ _ h (by omega) hw (fun i H1 e1 hi => et_yes) fun i H1 e1 hi _ => he i H1 e1 (by omega)
theorem ev_anyR {n : Nat} {bf : Nat → Bool} {ta : TA} {j : Nat} {vs : List Nat} (h : EvA ta σ H [.int (n : Int)]) (hn : n ≤ 1000) (hw : ∀ x, wipe ((wipe σ vs).set j (some x)) vs = wipe σ vs)
    (he : ∀ (i : Nat) H1, Ex H H1 → i < n → Ev te ((wipe σ vs).set j (some (.int (i : Int)))) H1 (.bl (bf i))) : Ev (tCB (rAny K) (tCons (tLc (iRng1 ta) (gName j) tYes te vs) tNil)) σ H (.bl ((List.range n).any bf)) :=
  ev_is (ev_anyL (el_lcRB h hn hw he)) (by rw [List.any_map]; rfl)
end
/-! ### plans written out, asked of a table -/
theorem ev_planOn {K : PySem.W.Frag} {σ : L2.St} {H : Hp} {te tb : TE} {CP : Addr} {parts : List (Prs × Int)} {T : List (List Int)} {n m : Nat} {b : Bool} {E E' : XK} (hp : EvP te σ H (fun _ v H2 => IsL2 PtAt H2 v parts)) (hl : parts.length ≤ 100) (hs : ∀ pt ∈ parts, pt.1.length ≤ 100) (ht : EvP tb σ H (fun _ v H2 => IsTb H2 v T n m)) (hb : planB T n m parts = b) :
    Ev (tMeth CP "shows" (sp_Plan_shows K CP) [] E (tMake CP (sp_Plan_init K CP) [] E' (tCons te tNil)) (tCons tb tNil)) σ H (.bl b) :=
  ev_methPA (P := NewPlan CP parts) (Pa := fun _ v H2 => IsTb H2 v T n m) (evp_makePN (hp.imp fun H1 v H2 _ _ h => partsAt_of h) (by omega)) (fun H1 v H2 ⟨x, dx, a, ts, ls, hv, _, _, _, _, _, _, hx⟩ => ⟨x, dx, _, hv, hx, rfl⟩) ht fun H1 v H2 u H3 e1 e2 e3 ⟨x, dx, c, ts, ls, hv, _, _, _, _, _, hPc, hx⟩ ⟨hG, d, rs, hu, hT⟩ Q q => by
    subst hv hu
    have b1 := hG.n1
    have b2 := hG.n20
    have b3 := hG.m1
    have b4 := hG.m20
    exact ⟨x, d, c, ts, ls, rs, parts, T, n, m, rfl, ⟨by omega, fun pt hpt => by have := hs pt hpt; omega, hPc.mono e3, dx, e3 _ _ hx⟩, hT, hG.toRect, b1, by omega, b3, by omega, by rw [hb]; exact q⟩
/-! a case: a table, hours enough -/
def IsRC (H : Hp) (v : V) : Prop := ∃ (t : Addr) (x : V) (T : List (List Int)) (n m : Nat) (h : Int), v = .ref t ∧ H t = some (.tup [x, .int h]) ∧ IsTb H x T n m ∧ fullM T m ≤ h
theorem mo_rc : Mo IsRC := fun _ _ _ e ⟨t, x, T, n, m, h, a, b, c, d⟩ => ⟨t, x, T, n, m, h, a, e _ _ b, c.mono e, d⟩
theorem ev_rc {σ : L2.St} {H : Hp} {ta tb : TE} {T : List (List Int)} {n m : Nat} {h : Int} (h1 : EvP ta σ H (fun _ v H2 => IsTb H2 v T n m)) (h2 : Ev tb σ H (.int h)) (hf : fullM T m ≤ h) : EvP (tTup (tCons ta (tCons tb tNil))) σ H (fun _ v H2 => IsRC H2 v) := fun H1 e Q q =>
  h1 H1 e _ fun x H2 e2 hx => h2 H2 (e.trans e2) _ fun H3 e3 => ⟨sz_of (by show 2 ≤ 100000; decide), fun t nt => q _ _ ((e2.trans e3).trans (Ex.new nt)) ⟨t, x, T, n, m, h, rfl, upd_same, (hx.mono e3).mono (Ex.new nt), hf⟩⟩
end Lh

namespace Lh
open PySem PySem.Spec PyProof.Rows L2 Evl L2H
/-! ### a plan's hours added up -/
def negP (parts : List (Prs × Int)) : List (Prs × Int) := parts.map fun pt => (pt.1, -pt.2)
theorem mirror1 {n m : Nat} {T U : List (List Int)} {t p : Nat} {h : Int} (hT : Rect T n m) (hU : Rect U n m) (ht : t < n) (hp : p < m) (t' p' : Nat) : cell (sub1 U t p (-h)) t' p' + cell (sub1 T t p h) t' p' = cell U t' p' + cell T t' p' := by
  rw [cell_sub1 hU ht hp, cell_sub1 hT ht hp]
  split <;> omega
theorem mirrorP {n m : Nat} {h : Int} : ∀ {prs : Prs} {T U : List (List Int)}, Rect T n m → Rect U n m → InR n m prs → ∀ t p : Nat, cell (subP U prs (-h)) t p + cell (subP T prs h) t p = cell U t p + cell T t p
  | [], T, U, _, _, _, t, p => rfl
  | pr :: prs, T, U, hT, hU, hi, t, p => by
    have a := hi pr List.mem_cons_self
    have ih := mirrorP (h := h) (prs := prs) (sub1_rect (p := pr.2.toNat) (h := h) hT (show pr.1.toNat < n by omega)) (sub1_rect (p := pr.2.toNat) (h := -h) hU (show pr.1.toNat < n by omega)) (fun q hq => hi q (List.mem_cons_of_mem _ hq)) t p
    have m1 := mirror1 (h := h) hT hU (show pr.1.toNat < n by omega) (show pr.2.toNat < m by omega) t p
    show cell (subP (sub1 U pr.1.toNat pr.2.toNat (-h)) prs (-h)) t p + cell (subP (sub1 T pr.1.toNat pr.2.toNat h) prs h) t p = _
    omega
theorem mirrorAll {n m : Nat} : ∀ {parts : List (Prs × Int)} {T U : List (List Int)}, Rect T n m → Rect U n m → parts.all (okPart n m) = true → ∀ t p : Nat, cell (subAll U (negP parts)) t p + cell (subAll T parts) t p = cell U t p + cell T t p
  | [], T, U, _, _, _, t, p => rfl
  | pt :: parts, T, U, hT, hU, h, t, p => by
    rw [List.all_cons, Bool.and_eq_true] at h
    have hin := ok_inR h.1
    have ih := mirrorAll (parts := parts) (subP_rect (h := pt.2) hT hin) (subP_rect (h := -pt.2) hU hin) h.2 t p
    have m1 := mirrorP (h := pt.2) hT hU hin t p
    show cell (subAll (subP U pt.1 (-pt.2)) (negP parts)) t p + cell (subAll (subP T pt.1 pt.2) parts) t p = _
    omega
theorem negP_rect {n m : Nat} : ∀ {parts : List (Prs × Int)} {U : List (List Int)}, Rect U n m → parts.all (okPart n m) = true → Rect (subAll U (negP parts)) n m
  | [], U, h, _ => h
  | pt :: parts, U, hU, h => by
    rw [List.all_cons, Bool.and_eq_true] at h
    have hin := ok_inR h.1
    have hr : Rect (subP U pt.1 (-pt.2)) n m := subP_rect hU hin
    exact negP_rect (parts := parts) hr h.2
theorem negP_snoc (parts : List (Prs × Int)) (pt : Prs × Int) : negP (parts ++ [pt]) = negP parts ++ [(pt.1, -pt.2)] := by
  unfold negP
  rw [List.map_append]
  rfl
theorem tab_eq {n m : Nat} {T U : List (List Int)} (hT : Rect T n m) (hU : Rect U n m) (h : ∀ t p, t < n → p < m → cell T t p = cell U t p) : T = U := by
  refine List.ext_getElem (by rw [hT.len, hU.len]) fun t h1 h2 => ?_
  have e1 : T[t]? = some T[t] := by simp [h1]
  have e2 : U[t]? = some U[t] := by simp [h2]
  have l1 := hT.rowAt e1
  have l2 := hU.rowAt e2
  refine List.ext_getElem (by rw [l1, l2]) fun p h3 h4 => ?_
  have e3 : T[t][p]? = some T[t][p] := by simp [h3]
  have e4 : U[t][p]? = some U[t][p] := by simp [h4]
  have := h t p (by rw [hT.len] at h1; exact h1) (by rw [l1] at h3; exact h3)
  rw [cell_of e1 e3, cell_of e2 e4] at this
  exact this
theorem zero_cell {T : List (List Int)} {n m : Nat} (hR : Rect T n m) (h : zeroT T = true) {t p : Nat} (ht : t < n) (hp : p < m) : cell T t p = 0 := by
  obtain ⟨u, x, hu, _, hx⟩ := hR.cell ht hp
  have := List.all_eq_true.mp (List.all_eq_true.mp h u (List.mem_of_getElem? hu)) x (List.mem_of_getElem? hx)
  rw [cell_of hu hx]
  exact of_decide_eq_true this
theorem PlanOf.added {T U : List (List Int)} {n m : Nat} {parts : List (Prs × Int)} (h : PlanOf T n m parts) (hR : Rect T n m) (hU : Rect U n m) (h0 : zeroT U = true) : subAll U (negP parts) = T := by
  obtain ⟨h1, _, h3⟩ := h.all
  refine tab_eq (negP_rect hU h1) hR fun t p ht hp => ?_
  have := mirrorAll hR hU h1 t p
  have z1 := zero_cell hU h0 ht hp
  have z2 := zero_cell (subAll_rect hR h1) h3 ht hp
  omega
section
variable {K : PySem.W.Frag} {D : Ends} {σ : L2.St} {H : Hp} {pl l : Addr} {rl qs : List Addr} {U : List (List Int)} {n m : Nat} {h : Int}
/-- table[who][place] = table[who][place] + hours -/
theorem s_addcell {tt tw tp th : TE} {t p : Nat} (h1 : Ev tt σ H (.ref pl)) (hw : Ev tw σ H (.int (t : Int))) (hp : Ev tp σ H (.int (p : Int))) (hh : Ev th σ H (.int h)) (hT : Tab H pl rl U) (nd : rl.Nodup) (hR : Rect U n m) (ht : t < n) (hpm : p < m) (k : ∀ H1, ExR rl H H1 → Tab H1 pl rl (sub1 U t p (-h)) → D.nx σ H1) :
    tAsg (tOp (rI0 fun i j => .int (i + j)) (tOp (rIxL K) (tOp (rIxL K) tt tw) tp) th) (gSub (tOp (rIxL K) tt tw) tp L2.rSetL) D σ H := by
  obtain ⟨u, x, hu, hul, hx⟩ := hR.cell ht hpm
  obtain ⟨r, hr, hrow⟩ := hT.at hu
  refine s_setL (v := .int (x - -h)) (j := p) hrow (ev_is (ev_add (ev_cell h1 hw hp hT hu hx) hh) (by congr 1; omega)) (ev_row h1 hw hT hr) hp (by rw [List.length_map, hul]; exact hpm) fun H1 e1 => ?_
  rw [map_set_int]
  refine k _ ((ExR.of e1).upd (List.mem_of_getElem? hr)) ?_
  rw [sub1_is hu hx]
  exact (hT.mono e1).set nd hr hu
/-- for who, place in pairs: table[who][place] = table[who][place] + hours -/
theorem s_adds {tl : TE} {prs : Prs} {it iw ip ih : Nat} (hl : Ev tl σ H (.ref l)) (hp : PrsAt H l qs prs) (hit : σ[it]? = some (some (.ref pl))) (hih : σ[ih]? = some (some (.int h))) (hwl : iw < σ.length) (hpl : ip < σ.length) (hne : iw ≠ ip ∧ iw ≠ it ∧ ip ≠ it ∧ iw ≠ ih ∧ ip ≠ ih) (hin : InR n m prs) (hR : Rect U n m) (nd : rl.Nodup) (hT : Tab H pl rl U) (hlr : l ∉ rl)
    (k : ∀ H1 x y, ExR rl H H1 → Tab H1 pl rl (subP U prs (-h)) → D.nx ((σ.set iw x).set ip y) H1) :
    tFor (iList K tl) (gTup K 2 (gCons (gName iw) (gCons (gName ip) gNil))) (tAsg (tOp (rI0 fun i j => .int (i + j)) (tOp (rIxL K) (tOp (rIxL K) (tVar it) (tVar iw)) (tVar ip)) (tVar ih)) (gSub (tOp (rIxL K) (tVar it) (tVar iw)) (tVar ip) L2.rSetL)) D σ H := by
  obtain ⟨n1, n2, n3, n4, n5⟩ := hne
  have at_ : ∀ i, i < prs.length → ∃ pr, prs[i]? = some pr ∧ prs.getD i (0, 0) = pr := fun i hi => ⟨prs[i], by simp [hi], by simp [List.getD, hi]⟩
  have hlen : (qs.map V.ref).length = prs.length := by rw [List.length_map, hp.len]
  refine s_forPr (fun i => .int (prs.getD i (0, 0)).1) (fun i => .int (prs.getD i (0, 0)).2) hl (sq_of hp.top) (fun i σ' H' => (∃ x y, σ' = (σ.set iw x).set ip y) ∧ ExR rl H H' ∧ Tab H' pl rl (subP U (prs.take i) (-h)))
    (fun H1 e1 => ⟨set2_self hwl hpl, ExR.of e1, hT.mono e1⟩) (fun i σ' H' _ z => sq_of (hp.exR hT z.2.1 hlr).top) (fun i σ' H' x z hx => ?_) (fun i σ' H' hi z => ?_) (fun σ' H' z => ?_)
  · have hi : i < prs.length := by
      rw [← hlen]
      exact (List.getElem?_eq_some_iff.mp hx).1
    obtain ⟨pr, h1, h2⟩ := at_ i hi
    obtain ⟨q, hq, hq2⟩ := (hp.exR hT z.2.1 hlr).at h1
    rw [List.getElem?_map, hq] at hx
    rw [h2]
    exact ⟨q, (Option.some.inj hx).symm, st_of hq2⟩
  · obtain ⟨⟨x, y, rfl⟩, ex, hT'⟩ := z
    rw [hlen] at hi
    obtain ⟨pr, h1, h2⟩ := at_ i hi
    have a := hin pr (List.mem_of_getElem? h1)
    have hR' : Rect (subP U (prs.take i) (-h)) n m := subP_rect hR fun q hq => hin q (List.mem_of_mem_take hq)
    rw [h2, set2_set2 _ _ _ _ n1]
    refine s_addcell (t := pr.1.toNat) (p := pr.2.toNat) (ev_var (by rw [set2_ne _ _ n2 n3]; exact hit)) (ev_is (ev_var (set2_fst _ _ n1 hwl)) (by congr 1; omega)) (ev_is (ev_var (set2_snd _ _ hpl)) (by congr 1; omega)) (ev_var (by rw [set2_ne _ _ n4 n5]; exact hih)) hT' nd hR' (by omega) (by omega) fun H1 e1 hT1 => ⟨⟨_, _, rfl⟩, ex.trans e1, ?_⟩
    rw [take_snoc h1, subP_snoc]
    exact hT1
  · obtain ⟨⟨x, y, rfl⟩, ex, hT'⟩ := z
    rw [hlen, List.take_of_length_le (Nat.le_refl _)] at hT'
    exact k H' x y ex hT'
end
/-! ### calls without arguments; lambdas asked -/
theorem pe_cal0 {X : Cx} {k j : Nat} {x : Str} {sp : Sp} {p pos : Pos} (C : Cal X.prog X.w X.K X.mg X.base k x [] sp) (hr : Room j X.A) (hg : Gl X x) (hjk : k ≤ j := by decide) (hdb : (x == ("__debug__" : Str)) = false := by decide) :
    PE X (.Call (.Name x p) [] [] pos) (tCall sp [] E0 tNil) := by
  obtain ⟨f, fd, hm, hk, hb, _, F⟩ := C.ex
  exact pe_call0 F (hr.mono hjk) hg hm hk (Binds.all hb) .nil pass0 hdb
open LamX (CodeO TabS Tabs ExtN TabB codeO_ne)
theorem tabs0 {H : Hp} {P : Addr} {q : Str} (h : H P = some (.tbl #[])) : Tabs [(P, q)] H := fun p hp => by
  obtain rfl : p = (P, q) := by simpa using hp
  exact LamX.TabS.nil h
theorem lam_one {P : Addr} {q : Str} : ∀ p ∈ [(P, q)], p.1 = P → p.2 = q := fun p hp _ => by
  obtain rfl : p = (P, q) := by simpa using hp
  rfl
def capB (sc up : Scope) : Bool := sc.names.all fun y => !decide (y.2 = .free) || (decide (up.names.lookup y.1 = some .cell) || decide (up.names.lookup y.1 = some .free))
theorem cap_by {sc up : Scope} (h : capB sc up = true) : ∀ y ∈ sc.names, y.2 = .free → up.names.lookup y.1 = some .cell ∨ up.names.lookup y.1 = some .free := fun y hy e => by
  unfold capB at h
  have := List.all_eq_true.mp h y hy
  simp only [Bool.or_eq_true, Bool.not_eq_true', decide_eq_false_iff_not, decide_eq_true_eq] at this
  exact this.elim (fun z => absurd e z) id
theorem extN_of {H H' : Hp} (e : Ex H H') : ExtN H H' := .of e
theorem Tab.extN {H H' : Hp} {a : Addr} {rs : List Addr} {T : List (List Int)} (h : Tab H a rs T) (e : ExtN H H') : Tab H' a rs T := ⟨e _ _ h.top (fun _ z => nomatch z), h.len, fun i r u a b => e _ _ (h.row i r u a b) (fun _ z => nomatch z)⟩
theorem asks_of {X : Cx} {k : Nat} {σ : L2.St} {H : Hp} {f : Addr} {q : Str} {c' : Addr} {ps : Arguments} {body : Expr} {sc : Scope} {cl : List (Str × Addr)} {p : Str} {N : List Str} {σc : L2.St} {te : XK → TE} (hf : H f = some (LamO f q ps body sc cl c')) (hc : H c' = some (CodeO c' q)) (L : LamP p sc) (nd : (p :: N).Nodup) (hl : σc.length = N.length)
    (bind : ∀ (u pm cv ctv : Value), bindArgs (PySem.W.kla_fn "<lambda>" q ps body sc cl pm cv ctv) ⟨[u], []⟩ = pure [(p, u)])
    (cls : ∀ (pins : List (Addr × Obj)) (s : Shared), Inv X pins σ H s → ∀ (H' : Hp) (s' : Shared) (v : V), Un (frs X.stack) [] H H' s.heap s'.heap → ClAt sc (p :: N) (some v :: σc) cl H' s'.heap)
    (hb : ∀ (A : Around) (outer : List Env) (s : Shared) (H : Hp) (E : XK), Room k (A.deeper (lamE q sc s.heap.objs.size f c' cl)) → PE (lamC X.prog X.w X.K X.mg X.base (p :: N) q sc cl f c' A outer s H E) body (te E)) :
    Asks X k σ H f (fun E v H Q => te E (some v :: σc) H Q) := ⟨⟨q, c', ps, body, sc, cl, p, N, σc, te, hf, hc, L, nd, hl, bind, cls, hb, fun _ _ _ _ h => h⟩⟩
/-- _law_refused(lambda x: .., thing, due) -/
theorem e_refused {X : Cx} {k : Nat} {CT CB : Addr} {T : List (Addr × Str)} {q : Str} {ps : Arguments} {body : Expr} {sc : Scope} {cl : List (Str × Addr)} {te : TE} {σ : L2.St} {H : Hp} {d : Int} {R : V → Hp → Prop} (hT : Tabs T H) (hth : ∀ H1, ExtN H H1 → Tabs T H1 → EvP te σ H1 (fun _ v H2 => R v H2))
    (hask : ∀ (f c' : Addr) (H1 : Hp) (v : V) (H2 : Hp), ExtN H H1 → Ex H1 H2 → H2 f = some (LamO f q ps body sc cl c') → H2 c' = some (CodeO c' q) → R v H2 → ∃ (C : Addr) (tb : XK → V → Hp → VK → Prop), Asks X k σ H2 f tb ∧ ((C = CT ∧ d = 0) ∨ (C = CB ∧ d = 1)) ∧ ∀ (E : XK) (Qx : VK), (∀ H', Ex H2 H' → E (.ref C) none H') → tb E v H2 Qx)
    {Q : VK} (hq : ∀ H', ExtN H H' → Tabs T H' → Q (.bl true) H') : tCalV (spR X k CT CB) (tCons (tLamV T q ps body sc cl) (tCons te (tCons (tC (.int d)) tNil))) σ H Q :=
  ⟨hT, fun f c' H1 ex t1 hf hc => hth H1 ex t1 H1 (Ex.refl _) _ fun v H2 e2 hv => by
    obtain ⟨C, tb, a, b, c⟩ := hask f c' H1 v H2 ex e2 (e2 _ _ hf) (e2 _ _ hc) hv
    exact ⟨f, v, d, C, tb, rfl, a, b, c, fun H' e' => hq H' (ex.trans (extN_of (e2.trans e'))) (t1.ext (e2.trans e'))⟩⟩
/-- if not e: return .., where e is true -/
theorem q_unless {tc : TE} {tu tz : TS} {D : Ends} {σ : L2.St} {H : Hp} (h : tc σ H fun v H1 => v = .bl true ∧ tz D σ H1) (mono : ∀ Q Q' : VK, (∀ v H, Q v H → Q' v H) → tc σ H Q → tc σ H Q') : tSeq (tIfS (tNot (tB tc)) tu tNext) tz D σ H :=
  mono _ _ (fun v H1 ⟨hv, k⟩ => ⟨true, hv, k⟩) h
theorem q_refused {X : Cx} {k : Nat} {CT CB : Addr} {T : List (Addr × Str)} {q : Str} {ps : Arguments} {body : Expr} {sc : Scope} {cl : List (Str × Addr)} {te : TE} {σ : L2.St} {H : Hp} {d : Int} {R : V → Hp → Prop} {tu tz : TS} {D : Ends} (hT : Tabs T H) (hth : ∀ H1, ExtN H H1 → Tabs T H1 → EvP te σ H1 (fun _ v H2 => R v H2))
    (hask : ∀ (f c' : Addr) (H1 : Hp) (v : V) (H2 : Hp), ExtN H H1 → Ex H1 H2 → H2 f = some (LamO f q ps body sc cl c') → H2 c' = some (CodeO c' q) → R v H2 → ∃ (C : Addr) (tb : XK → V → Hp → VK → Prop), Asks X k σ H2 f tb ∧ ((C = CT ∧ d = 0) ∨ (C = CB ∧ d = 1)) ∧ ∀ (E : XK) (Qx : VK), (∀ H', Ex H2 H' → E (.ref C) none H') → tb E v H2 Qx)
    (hq : ∀ H', ExtN H H' → Tabs T H' → tz D σ H') : tSeq (tIfS (tNot (tB (tCalV (spR X k CT CB) (tCons (tLamV T q ps body sc cl) (tCons te (tCons (tC (.int d)) tNil)))))) tu tNext) tz D σ H :=
  e_refused (Q := fun v H1 => ∃ b, v = .bl b ∧ (fun b H1 => if (!b) = true then tu { D with nx := tz D } σ H1 else tNext { D with nx := tz D } σ H1) b H1) hT hth hask fun H' a b => ⟨true, rfl, hq H' a b⟩
/-! is True, is not True -/
theorem ev_isB {σ : L2.St} {H : Hp} {ta tb : TE} {b c : Bool} (h : Ev ta σ H (.bl b)) (h2 : Ev tb σ H (.bl c)) : Ev (tOp rIsB ta tb) σ H (.bl (decide (b = c))) := ev_op h h2 (rv_val fun H1 _ Q q => ⟨b, c, rfl, rfl, q⟩)
theorem ev_notB {σ : L2.St} {H : Hp} {ta tb : TE} {b c : Bool} (h : Ev ta σ H (.bl b)) (h2 : Ev tb σ H (.bl c)) : Ev (tOp rNotB ta tb) σ H (.bl (!decide (b = c))) := ev_op h h2 (rv_val fun H1 _ Q q => ⟨b, c, rfl, rfl, q⟩)
/-! ### the end of a law with one table -/
theorem tabIn_of {K : PySem.W.Frag} {x : Str} {f c PT : Addr} {oc oc2 : Value} {od od2 : Option Addr} {fd : FuncData} {sl sl2 : Array (Option Value)} {vs : Array Value} (a : PySem.W.nsIn K mainGlobals x = some (some (.ref f))) (l : K.lookup f = some ⟨oc, od, .func fd, sl⟩) (hc : fd.code = .ref c) (lc : K.lookup c = some ⟨oc2, od2, .fields vs, sl2⟩) (hv : (vs[11]? : Option Value) = some (.ref PT)) : PySem.W.tabIn K x = some (c, PT) := by
  unfold PySem.W.tabIn
  rw [a]
  dsimp only
  rw [l]
  dsimp only
  rw [hc]
  dsimp only
  rw [lc]
  dsimp only
  rw [hv]
theorem endT_mk {P : Program} {w : World} {K : PySem.W.Frag} {mg : Str → Option Value} {h : Heap} {x : Str} {c PT : Addr} {k : Nat} {st : Stmt} {ps : List Str} {sp : PySem.W.Frag → Addr → Sp} (KX : K.In h) (G : h.Ns mainGlobals mg) (ht : PySem.W.tabIn K x = some (c, PT)) (nP : K.lookup PT = none)
    (F : CodeIs K mg x c → Def K mg "law" st ps ∧ ∀ base : Heap, TabB base mg c PT → Cal P w K mg base k "law" ps (sp K PT)) : ∃ c PT, PySem.W.tabIn K x = some (c, PT) ∧ K.lookup PT = none ∧ Def K mg "law" st ps ∧ ∀ base : Heap, TabB base mg c PT → Cal P w K mg base k "law" ps (sp K PT) :=
  ⟨c, PT, ht, nP, F (codeIs_of KX G ht)⟩
end Lh

namespace Lh
open PySem PySem.Spec PyProof.Rows L2 Evl L2H
/-! ### comprehensions all of whose items are true; over tuples -/
section
variable {K : PySem.W.Frag} {w : World} {σ : L2.St} {H : Hp} {te tl ta tb : TE} {t : TT} {a : Addr} {xs : List V} {j : Nat} {vs : List Nat} {P : Hp → V → Hp → Prop} {ns : List Int}
theorem el_left {u : TE} (h : EvL te σ H xs) : EvL (tEither te u) σ H xs := fun H1 e Q q => .inl (h H1 e Q q)
theorem el_right {u : TE} (h : EvL te σ H xs) : EvL (tEither u te) σ H xs := fun H1 e Q q => .inr (h H1 e Q q)
theorem el_lcU (f : Nat → Bool) (v : Nat → V) (h : Ev tl σ H (.ref a)) (hx : SqT K H a xs) (hz : xs.length ≤ 40000) (hw : ∀ x, wipe ((wipe σ vs).set j (some x)) vs = wipe σ vs)
    (ht : ∀ (i : Nat) (x : V) H1, Ex H H1 → xs[i]? = some x → EvT t ((wipe σ vs).set j (some x)) H1 (f i)) (he : ∀ (i : Nat) (x : V) H1, Ex H H1 → xs[i]? = some x → f i = true → Ev te ((wipe σ vs).set j (some x)) H1 (v i)) :
    EvL (tLc (iTup K tl) (gName j) t te vs) σ H (given xs.length f v) := fun H0 e Q q => h H0 e _ fun H1 e1 => ⟨a, rfl, ⟨xs, ex_t (e.trans e1) hx⟩, fun Dl hD =>
  lc_tup (xs := xs) (Cw H1 f v Dl) ⟨hD, Ex.new hD, upd_same⟩ (fun i H' _ p => ex_t ((e.trans e1).trans p.2.1) hx) (fun i x H' hi p => ⟨hw x, cw_turn p (by have := (List.getElem?_eq_some_iff.mp hi).1; omega) (ht i x H1 (e.trans e1) hi) (fun hf => he i x H1 (e.trans e1) hi hf)⟩)
    (fun H' p => q Dl H' (fresh_back e1 p.1) (e1.trans p.2.1) p.2.2)⟩
theorem given_true (n : Nat) : (List.replicate n true).map V.bl = given n (fun _ => true) (fun _ => .bl true) := (given_all (by simp) fun i x hx => by
  rw [List.getElem?_map, List.getElem?_replicate] at hx
  split at hx
  · exact Option.some.inj hx
  · cases hx).symm
theorem el_trueL (h : Ev tl σ H (.ref a)) (hx : SqL K H a xs) (hz : xs.length ≤ 40000) (hw : ∀ x, wipe ((wipe σ vs).set j (some x)) vs = wipe σ vs) (he : ∀ (i : Nat) (x : V) H1, Ex H H1 → xs[i]? = some x → Ev te ((wipe σ vs).set j (some x)) H1 (.bl true)) :
    EvL (tLc (iList K tl) (gName j) tYes te vs) σ H ((List.replicate xs.length true).map V.bl) := by
  rw [given_true]
  exact el_lcL _ _ h hx hz hw (fun i x H1 e1 hi => et_yes) fun i x H1 e1 hi _ => he i x H1 e1 hi
theorem el_trueU (h : Ev tl σ H (.ref a)) (hx : SqT K H a xs) (hz : xs.length ≤ 40000) (hw : ∀ x, wipe ((wipe σ vs).set j (some x)) vs = wipe σ vs) (he : ∀ (i : Nat) (x : V) H1, Ex H H1 → xs[i]? = some x → Ev te ((wipe σ vs).set j (some x)) H1 (.bl true)) :
    EvL (tLc (iTup K tl) (gName j) tYes te vs) σ H ((List.replicate xs.length true).map V.bl) := by
  rw [given_true]
  exact el_lcU _ _ h hx hz hw (fun i x H1 e1 hi => et_yes) fun i x H1 e1 hi _ => he i x H1 e1 hi
theorem ev_allTrue {k : Nat} (h : EvL te σ H ((List.replicate k true).map V.bl)) : Ev (tCB (rAll K) (tCons te tNil)) σ H (.bl true) := ev_is (ev_allL h) (by rw [List.all_replicate]; split <;> rfl)
/-- len(set(e)) < len(..), none twice -/
theorem ev_lenSetLt (h : EvP te σ H P) (hp : ∀ H1 v H2, P H1 v H2 → ∃ a, v = .ref a ∧ SqL K H2 a (ns.map V.int)) (hl : ns.length ≤ 2000) (hb : Ev tb σ H (.int (ns.length : Nat))) (hnd : ns.Nodup) :
    Ev (tOp (rI0 fun i j => .bl (decide (i < j))) (tCB (rLenSet w) (tCons (tCB (rSetL K w) (tCons te tNil)) tNil)) tb) σ H (.bl false) := fun H1 e Q q =>
  evp_lenSet (w := w) h hp hl H1 e _ fun v H2 e2 ⟨l, hv, nd, hm⟩ => by
    subst hv
    refine hb H2 (e.trans e2) _ fun H3 e3 => ⟨_, _, rfl, rfl, ?_⟩
    have he : decide (((l.length : Nat) : Int) < ((ns.length : Nat) : Int)) = false := by
      rw [(len_eq_iff nd hm).mpr hnd]
      exact decide_eq_false (by omega)
    dsimp only
    rw [he]
    exact q H3 (e2.trans e3)
theorem ev_says {b c : Bool} {E : XK} (h : Ev ta σ H (.bl b)) (h2 : Ev tb σ H (.bl c)) : Ev (tCall (sp__law_says K) [] E (tCons ta (tCons tb tNil))) σ H (.bl (decide (b = c))) := ev_callV (ea_cons h (ea_cons h2 ea_nil)) fun H1 e Q q => ⟨b, c, rfl, q⟩
theorem el_repI {i k : Int} (h : Ev te σ H (.int i)) (hk : Ev tb σ H (.int k)) (h0 : 0 ≤ k) (h1 : k ≤ 1000) : EvL (tOp rRep (tLst (tCons te tNil)) tb) σ H ((List.replicate k.toNat i).map V.int) := by
  rw [List.map_replicate]
  exact el_rep1 (el_lst (ea_cons h ea_nil) (by show 1 ≤ 100000; decide)) hk (by omega)
/-- [row] * k: one row, many times -/
theorem evp_repT {u : List Int} {k : Int} (h : EvL te σ H (u.map V.int)) (hk : Ev tb σ H (.int k)) (h0 : 0 ≤ k) (h1 : k ≤ 1000) : EvP (tOp rRep (tLst (tCons te tNil)) tb) σ H (fun H1 v H2 => ∃ p r, v = .ref p ∧ H1 p = none ∧ H1 r = none ∧ r ≠ p ∧ H2 p = some (.lst (List.replicate k.toNat (.ref r))) ∧ H2 r = some (.lst (u.map V.int))) := fun H1 e Q q =>
  h H1 e _ fun r H2 nr e2 hr => ⟨sz_of (by show 1 ≤ 100000; decide), fun p np => hk _ ((e.trans e2).trans (Ex.new np)) _ fun H4 e4 => ⟨p, k, [.ref r], rfl, rfl, e4 _ _ upd_same, by omega, by omega, by rw [List.length_singleton, Nat.one_mul]; exact sz_of (by omega), fun l nl => by
    rw [flatten_rep]
    have e5 := (e4.trans (Ex.new (o := .lst (List.replicate k.toNat (.ref r))) nl))
    have e6 := (Ex.new (o := .lst [.ref r]) np).trans e5
    refine q _ _ (e2.trans e6) ⟨l, r, rfl, fresh_back (e2.trans ((Ex.new np).trans e4)) nl, nr, fun z => ?_, upd_same, e6 _ _ hr⟩
    have : H4 r = some (.lst (u.map V.int)) := e4 _ _ (Ex.new np _ _ hr)
    rw [z, nl] at this
    cases this⟩⟩
theorem tab_rep {p r : Addr} {k : Nat} {u : List Int} (hp : H p = some (.lst (List.replicate k (.ref r)))) (hr : H r = some (.lst (u.map V.int))) : Tab H p (List.replicate k r) (List.replicate k u) :=
  ⟨by rw [hp, List.map_replicate], by simp, fun i r' u' h1 h2 => by
    have e1 := List.eq_of_mem_replicate (List.mem_of_getElem? h1)
    have e2 := List.eq_of_mem_replicate (List.mem_of_getElem? h2)
    rw [e1, e2]
    exact hr⟩
end
/-! ### what is plain: whole numbers, lists and tuples of such -/
def PlainV (H : Hp) : Nat → V → Prop
  | 0, v => ∃ i : Int, v = .int i
  | d + 1, v => (∃ i : Int, v = .int i) ∨ ∃ (p : Addr) (xs : List V), v = .ref p ∧ (H p = some (.lst xs) ∨ H p = some (.tup xs)) ∧ xs.length ≤ 1000 ∧ ∀ x ∈ xs, PlainV H d x
theorem PlainV.mono {H H' : Hp} (e : Ex H H') : ∀ (d : Nat) (v : V), PlainV H d v → PlainV H' d v
  | 0, _, h => h
  | d + 1, _, h => by
    rcases h with h | ⟨p, xs, h1, h2, h3, h4⟩
    · exact .inl h
    · exact .inr ⟨p, xs, h1, h2.imp (fun z => e _ _ z) (fun z => e _ _ z), h3, fun x hx => PlainV.mono e d x (h4 x hx)⟩
theorem PlainV.int {H : Hp} (i : Int) : ∀ d : Nat, PlainV H d (.int i)
  | 0 => ⟨i, rfl⟩
  | _ + 1 => .inl ⟨i, rfl⟩
theorem PlainV.ints {H : Hp} {p : Addr} {ns : List Int} (h : H p = some (.lst (ns.map V.int))) (hl : ns.length ≤ 1000) (d : Nat) : PlainV H (d + 1) (.ref p) := .inr ⟨p, _, rfl, .inl h, by rw [List.length_map]; exact hl, fun x hx => by
  obtain ⟨i, _, rfl⟩ := List.mem_map.mp hx
  exact PlainV.int i d⟩
theorem Tab.plain {H : Hp} {a : Addr} {rs : List Addr} {T : List (List Int)} {n m : Nat} (h : Tab H a rs T) (hR : Rect T n m) (hn : n ≤ 1000) (hm : m ≤ 1000) : PlainV H 2 (.ref a) := .inr ⟨a, _, rfl, .inl h.top, by rw [List.length_map, h.len, hR.len]; exact hn, fun x hx => by
  obtain ⟨r, hr, rfl⟩ := List.mem_map.mp hx
  obtain ⟨i, hi⟩ := List.getElem?_of_mem hr
  obtain ⟨u, hu, hh⟩ := h.ref hi
  exact PlainV.ints hh (by rw [hR.rowAt hu]; exact hm) 0⟩
theorem PartsAt.plain {H : Hp} {a : Addr} {ts ls : List Addr} {parts : List (Prs × Int)} (h : PartsAt H a ts ls parts) (hl : parts.length ≤ 1000) (hs : ∀ pt ∈ parts, pt.1.length ≤ 1000) : PlainV H 4 (.ref a) := .inr ⟨a, _, rfl, .inl h.top, by rw [List.length_map, h.lt]; exact hl, fun x hx => by
  obtain ⟨t, ht, rfl⟩ := List.mem_map.mp hx
  obtain ⟨i, hi⟩ := List.getElem?_of_mem ht
  have hip : i < parts.length := by
    rw [← h.lt]
    exact (List.getElem?_eq_some_iff.mp hi).1
  obtain ⟨t', l, ht', hl', htup, qs, hq⟩ := h.at (show parts[i]? = some parts[i] by simp [hip])
  have e : t' = t := Option.some.inj (ht'.symm.trans hi)
  subst e
  refine .inr ⟨t', _, rfl, .inr htup, by show 2 ≤ 1000; decide, fun y hy => ?_⟩
  simp at hy
  rcases hy with rfl | rfl
  · refine .inr ⟨l, _, rfl, .inl hq.top, by rw [List.length_map, hq.len]; exact hs _ (List.getElem_mem hip), fun z hz => ?_⟩
    obtain ⟨q, hq', rfl⟩ := List.mem_map.mp hz
    obtain ⟨k, hk⟩ := List.getElem?_of_mem hq'
    have hkp : k < parts[i].1.length := by
      rw [← hq.len]
      exact (List.getElem?_eq_some_iff.mp hk).1
    have := hq.tup k q parts[i].1[k] hk (by simp [hkp])
    refine .inr ⟨q, _, rfl, .inr this, by show 2 ≤ 1000; decide, fun y hy => ?_⟩
    simp at hy
    rcases hy with rfl | rfl
    · exact ⟨_, rfl⟩
    · exact ⟨_, rfl⟩
  · exact PlainV.int _ 2⟩
def spPlain (K : PySem.W.Frag) (d : Nat) : Sp := fun vs H Q _ => ∃ v, vs = [v] ∧ PlainV H d v ∧ Ret (IsV (.bl true)) H Q
def sp__law_plain (K : PySem.W.Frag) : Nat → Sp
  | 0 => fun _ _ _ _ => False
  | d + 1 => spPlain K d
/-! ### promises of k07 -/
def sp__law_plan_known (K : PySem.W.Frag) : Sp := fun vs H Q _ => ∃ (a : Addr) (rs : List Addr) (T : List (List Int)) (n m : Nat), vs = [.ref a, .int (fullM T m)] ∧ Tab H a rs T ∧ Good T n m ∧ Ret (IsV (.bl true)) H Q
def sp__law_known_right (K : PySem.W.Frag) : Sp := fun vs H Q _ => ∃ g : Int, vs = [.int g] ∧ 1 ≤ g ∧ Ret (IsV (.bl true)) H Q
def sp__law_chain_right (K : PySem.W.Frag) : Sp := fun vs H Q _ => ∃ g : Int, vs = [.int g] ∧ 1 ≤ g ∧ Ret (IsV (.bl true)) H Q
def sp__law_rows_right (K : PySem.W.Frag) : Sp := fun vs H Q _ => ∃ g : Int, vs = [.int g] ∧ 2 ≤ g ∧ g ≤ 10 ∧ Ret (IsV (.bl true)) H Q
/-! ### answers written out, asked of a table -/
section
variable {K : PySem.W.Frag} {σ : L2.St} {H : Hp} {te tb tc td : TE} {CE CS CL : Addr} {T : List (List Int)} {n m : Nat} {b : Bool} {E E' : XK} {h : Int} {ns S : List Int}
theorem ev_lastOn (h1 : Ev te σ H (.int h)) (h2 : EvL tb σ H (ns.map V.int)) (h3 : EvL tc σ H (S.map V.int)) (hl : ns.length ≤ 2000) (hl2 : S.length ≤ 2000) (ht : EvP td σ H (fun _ v H2 => IsTb H2 v T n m)) (hb : lastB T n m h ns S = b) :
    Ev (tMeth CL "shows" (sp_Lasting_shows K CL) [] E (tMake CL (spInit3 K CL) [] E' (tCons te (tCons tb (tCons tc tNil)))) (tCons td tNil)) σ H (.bl b) :=
  ev_methPA (P := NewLast CL h (ns.map V.int) (S.map V.int)) (Pa := fun _ v H2 => IsTb H2 v T n m) (evp_make3N h1 h2 h3) (fun H1 v H2 ⟨x, dx, p1, p2, hv, _, _, _, _, _, _, hx, _⟩ => ⟨x, dx, _, hv, hx, rfl⟩) ht fun H1 v H2 u H3 e1 e2 e3 ⟨x, dx, p1, p2, hv, _, _, _, _, _, _, hx, hp1, hp2⟩ ⟨hG, d, rs, hu, hT⟩ Q q => by
    subst hv hu
    have b1 := hG.n1
    have b2 := hG.n20
    have b4 := hG.m20
    exact ⟨x, d, p1, p2, rs, T, n, m, h, ns, S, rfl, ⟨hl, hl2, e3 _ _ hp1, e3 _ _ hp2, dx, e3 _ _ hx⟩, hT, hG.toRect, b1, by omega, by omega, by rw [hb]; exact q⟩
theorem ev_eachOn (h2 : EvL tb σ H (ns.map V.int)) (hl : ns.length ≤ 2000) (ht : EvP td σ H (fun _ v H2 => IsTb H2 v T n m)) (hb : dueB T n m ns = b) :
    Ev (tMeth CE "shows" (sp_Each_shows K CE) [] E (tMake CE (spInit1 K CE "classes") [] E' (tCons tb tNil)) (tCons td tNil)) σ H (.bl b) :=
  ev_methPA (P := NewIns1 CE "classes" (ns.map V.int)) (Pa := fun _ v H2 => IsTb H2 v T n m) (evp_make1N h2) (fun H1 v H2 ⟨x, dx, p, hv, _, _, _, hx, _⟩ => ⟨x, dx, _, hv, hx, rfl⟩) ht fun H1 v H2 u H3 e1 e2 e3 ⟨x, dx, p, hv, _, _, _, hx, hp⟩ ⟨hG, d, rs, hu, hT⟩ Q q => by
    subst hv hu
    have b1 := hG.n1
    have b2 := hG.n20
    have b4 := hG.m20
    exact ⟨x, d, p, dx, rs, T, n, m, ns, rfl, e3 _ _ hx, e3 _ _ hp, hl, hT, hG.toRect, b1, by omega, by omega, by rw [hb]; exact q⟩
end
theorem gnest {K : PySem.W.Frag} {x y z : V} {i j k : Nat} {T U : Addr} {H' : Hp} {σ0 : L2.St} {Q : L2.St → Hp → Prop} (hT : SqT K H' T [x, .ref U]) (hU : SqT K H' U [y, z]) (q : Q (((σ0.set i (some x)).set j (some y)).set k (some z)) H') : gTup K 2 (gCons (gName i) (gCons (gTup K 2 (gCons (gName j) (gCons (gName k) gNil))) gNil)) (.ref T) σ0 H' Q :=
  ⟨T, [x, .ref U], rfl, hT, rfl, x, [.ref U], rfl, .ref U, [], rfl, U, [y, z], rfl, hU, rfl, y, [z], rfl, z, [], rfl, rfl, rfl, q⟩
/-! a case: a table, the fullest of it -/
def IsKC (H : Hp) (v : V) : Prop := ∃ (t : Addr) (x : V) (u w : Addr) (T : List (List Int)) (n m : Nat), v = .ref t ∧ H t = some (.tup [x, .ref u]) ∧ IsTb H x T n m ∧ H u = some (.tup [.int (fullM T m), .ref w]) ∧ H w = some (.tup [.str (fullW T m), .int (fullI T m)])
theorem mo_kc : Mo IsKC := fun _ _ _ e ⟨t, x, u, w, T, n, m, a, b, c, d, f⟩ => ⟨t, x, u, w, T, n, m, a, e _ _ b, c.mono e, e _ _ d, e _ _ f⟩
theorem ev_kc {σ : L2.St} {H : Hp} {ta ti : TE} {T : List (List Int)} {n m : Nat} {i j : Int} {x : Str} (h1 : EvP ta σ H (fun _ v H2 => IsTb H2 v T n m)) (h2 : Ev ti σ H (.int i)) (f1 : fullM T m = i) (f2 : fullW T m = x) (f3 : fullI T m = j) :
    EvP (tTup (tCons ta (tCons (tTup (tCons ti (tCons (tTup (tCons (tC (.str x)) (tCons (tC (.int j)) tNil))) tNil))) tNil))) σ H (fun _ v H2 => IsKC H2 v) := fun H1 e Q q =>
  h1 H1 e _ fun v H2 e2 hv => h2 H2 (e.trans e2) _ fun H3 e3 => ⟨sz_of (by show 2 ≤ 100000; decide), fun w nw => ⟨sz_of (by show 2 ≤ 100000; decide), fun u nu => ⟨sz_of (by show 2 ≤ 100000; decide), fun t nt => by
    subst f1 f2 f3
    exact q _ _ ((((e2.trans e3).trans (Ex.new nw)).trans (Ex.new nu)).trans (Ex.new nt)) ⟨t, v, u, w, T, n, m, rfl, upd_same, (((hv.mono e3).mono (Ex.new nw)).mono (Ex.new nu)).mono (Ex.new nt), Ex.new nt _ _ upd_same, Ex.new nt _ _ (Ex.new nu _ _ upd_same)⟩⟩⟩⟩
theorem lay_fullW (T : List (List Int)) (m : Nat) : PyData.canLay0 (.str (fullW T m)) = true := by
  unfold fullW
  split <;> decide +kernel
/-! ### a table all of one number; small tables -/
abbrev full20 (g : Int) : List (List Int) := List.replicate 20 (List.replicate 20 g)
theorem good20 {g : Int} (hg : 0 ≤ g) : Good (full20 g) 20 20 := by
  refine ⟨⟨rfl, fun u hu => ?_⟩, fun u hu x hx => ?_, by decide, by decide, by decide, by decide⟩
  · rw [List.eq_of_mem_replicate hu]
    rfl
  · rw [List.eq_of_mem_replicate hu] at hx
    rw [List.eq_of_mem_replicate hx]
    exact hg
theorem sum_rep (g : Int) : ∀ k : Nat, (List.replicate k g).sum = (k : Int) * g
  | 0 => by simp
  | k + 1 => by
    rw [List.replicate_succ, List.sum_cons, sum_rep g k]
    have : ((k + 1 : Nat) : Int) * g = (k : Int) * g + g := by
      rw [Int.natCast_add, Int.add_mul]
      simp
    omega
theorem rs20 (g : Int) : rowSums (full20 g) = List.replicate 20 (20 * g) := by
  unfold rowSums
  rw [List.map_replicate, sum_rep]
  rfl
theorem cell20 (g : Int) {t p : Nat} (ht : t < 20) (hp : p < 20) : cell (full20 g) t p = g := by
  have e1 : (full20 g)[t]? = some (List.replicate 20 g) := by rw [List.getElem?_replicate, if_pos ht]
  have e2 : (List.replicate 20 g)[p]? = some g := by rw [List.getElem?_replicate, if_pos hp]
  exact cell_of e1 e2
theorem cs20 (g : Int) : colSums (full20 g) 20 = List.replicate 20 (20 * g) := by
  refine List.eq_replicate_iff.mpr ⟨colSums_len _ _, fun x hx => ?_⟩
  obtain ⟨j, hj, rfl⟩ := List.mem_map.mp hx
  have hj := List.mem_range.mp hj
  unfold colAt
  rw [List.map_replicate]
  have : (List.replicate 20 g).getD j 0 = g := getD_of (by rw [List.getElem?_replicate, if_pos hj])
  rw [this, sum_rep]
  rfl
theorem max_rep (x : Int) : maxI (List.replicate 20 x) = x := (maxI_is (by simp) fun y hy => by rw [List.eq_of_mem_replicate hy]; exact Int.le_refl _).symm
theorem fullM20 (g : Int) : fullM (full20 g) 20 = 20 * g := by
  unfold fullM
  rw [rs20, cs20, max_rep]
  omega
theorem fullB20 (g : Int) : fullB (full20 g) 20 = true := by
  unfold fullB
  rw [rs20, cs20]
  exact decide_eq_true (Int.le_refl _)
theorem fullW20 (g : Int) : fullW (full20 g) 20 = "teacher" := by
  unfold fullW
  rw [fullB20]
  rfl
theorem fullI20 (g : Int) : fullI (full20 g) 20 = 0 := by
  unfold fullI
  rw [fullB20, rs20, max_rep]
  have : List.idxOf (20 * g) (List.replicate 20 (20 * g)) = 0 := by
    rw [show List.replicate 20 (20 * g) = (20 * g) :: List.replicate 19 (20 * g) from rfl, List.idxOf_cons_self]
  simp [this]
theorem last20 {g h : Int} {L : List Nat} {S : List Int} (z : LastOf (full20 g) 20 20 h L S) : h = g := by
  have h1 := z.top (a := g) (L' := List.range 20) ⟨by simp, List.nodup_range, fun t p ht => by
    have hl := (List.getElem?_eq_some_iff.mp ht).1
    rw [List.length_range] at hl
    rw [List.getElem?_range hl] at ht
    have : t = p := Option.some.inj ht
    subst this
    exact ⟨hl, hl, by rw [cell20 g hl hl]; exact Int.le_refl _⟩⟩
  have hlen := z.ch.len
  have h0 : L[0]? = some L[0] := by simp
  have ha := z.ch.adj 0 L[0] h0
  have := ha.2.2
  rw [cell20 g (by decide) ha.2.1] at this
  omega
theorem plan0 {parts : List (Prs × Int)} (h : PlanOf [[0]] 1 1 parts) : parts = [] := by
  obtain ⟨h1, h2, _⟩ := h.all
  have e : fullM [[0]] 1 = 0 := by decide +kernel
  rw [e] at h2
  cases parts with
  | nil => rfl
  | cons pt r =>
    have a := ok_hours (List.all_eq_true.mp h1 pt List.mem_cons_self)
    have b : 0 ≤ total r := by
      unfold total
      refine sum_nonneg fun x hx => ?_
      obtain ⟨q, hq, rfl⟩ := List.mem_map.mp hx
      have := ok_hours (List.all_eq_true.mp h1 q (List.mem_cons_of_mem _ hq))
      omega
    have : total (pt :: r) = pt.2 + total r := by
      unfold total
      rw [List.map_cons, List.sum_cons]
    omega
theorem few_bits {T : List (List Int)} {n m : Nat} {S : List Int} {l : Int} (h : tooFewB T n m S l = true) : ∃ k, k < 2 ^ n ∧ bitsL n k = S := by
  unfold tooFewB at h
  simp only [Bool.and_eq_true, decide_eq_true_eq] at h
  exact ex_bitsL h.1.1.2 h.1.2
theorem short0 {S : List Int} (h : tooFewB [[0]] 1 1 S 1 = true) : S = [0] := by
  obtain ⟨k, hk, rfl⟩ := few_bits h
  match k, hk with
  | 0, _ => exact absurd h (by decide +kernel)
  | 1, _ => decide +kernel
theorem short10 {S : List Int} (h : tooFewB [[1, 0], [1, 0]] 2 2 S 1 = true) : S = [0, 1] := by
  obtain ⟨k, hk, rfl⟩ := few_bits h
  match k, hk with
  | 0, _ => exact absurd h (by decide +kernel)
  | 1, _ => exact absurd h (by decide +kernel)
  | 2, _ => exact absurd h (by decide +kernel)
  | 3, _ => decide +kernel
theorem no_0 : ¬ ∃ L, Choice [[0]] 1 1 1 L := fun ⟨L, hL⟩ => by
  have hl := hL.len
  match L, hl with
  | [x], _ =>
    have hx := hL.adj 0 x rfl
    have : x = 0 := by have := hx.2.1; omega
    subst this
    exact absurd hx.2.2 (by decide)
theorem no_10 : ¬ ∃ L, Choice [[1, 0], [1, 0]] 2 2 1 L := fun ⟨L, hL⟩ => by
  rcases two_choice hL with ⟨_, _, a⟩ | ⟨_, a, _⟩
  · exact absurd a (by decide)
  · exact absurd a (by decide)
theorem last0 {h : Int} {L : List Nat} {S : List Int} (z : LastOf [[0]] 1 1 h L S) : h = 0 := by
  have h1 := z.top (choice_zero (T := [[0]]) (n := 1) (m := 1) (good_of (by decide)) (by decide))
  have hl := z.ch.len
  match L, hl with
  | [x], _ =>
    have hx := z.ch.adj 0 x rfl
    have : x = 0 := by have := hx.2.1; omega
    subst this
    have h2 : h ≤ 0 := hx.2.2
    omega
theorem last10 {h : Int} {L : List Nat} {S : List Int} (z : LastOf [[1, 0], [1, 0]] 2 2 h L S) : h = 0 := by
  have h1 := z.top (choice_zero (T := [[1, 0], [1, 0]]) (n := 2) (m := 2) (good_of (by decide)) (by decide))
  have e1 : cell [[1, 0], [1, 0]] 1 1 = 0 := rfl
  have e2 : cell [[1, 0], [1, 0]] 0 1 = 0 := rfl
  rcases two_choice z.ch with ⟨_, a, b⟩ | ⟨_, a, b⟩ <;> omega
theorem raised1 {x h : Int} {F : List (List Int)} (z : Raised [[x]] 1 1 h F) : F = [[h]] := by
  have hl := z.rect.len
  match F, hl with
  | [u], _ =>
    have h2 := z.rect.row u (by simp)
    have h3 := z.rows u (by simp)
    match u, h2 with
    | [y], _ =>
      have : y = h := by simpa using h3
      rw [this]
/-! ### stores into two places; list(range(a, b)); rows of one number -/
section
variable {K : PySem.W.Frag} {σ : L2.St} {H : Hp} {ta tb t1 t2 : TE} {D : Ends} {x y v : V} {g1 g2 : TG}
theorem g_setL {l : Addr} {xs : List V} {j : Nat} {Q : L2.St → Hp → Prop} (hl : H l = some (.lst xs)) (ho : Ev ta σ H (.ref l)) (hi : Ev tb σ H (.int (j : Int))) (hj : j < xs.length) (k : ∀ H1, Ex H H1 → Q σ (upd H1 l (.lst (xs.set j v)))) : gSub ta tb L2.rSetL v σ H Q :=
  ho H (Ex.refl H) _ fun H1 e1 => hi H1 e1 _ fun H2 e2 => ⟨l, xs, (j : Int), j, rfl, rfl, (e1.trans e2) l _ hl, ixN_nat hj, k H2 (e1.trans e2)⟩
theorem s_asg2g (h1 : Ev t1 σ H x) (h2 : Ev t2 σ H y) (k : ∀ H1, Ex H H1 → g1 x σ H1 fun σ2 H2 => gCons g2 gNil [y] σ2 H2 fun σ3 H3 => D.nx σ3 H3) : tAsg (tTup (tCons t1 (tCons t2 tNil))) (gTup K 2 (gCons g1 (gCons g2 gNil))) D σ H :=
  h1 H (Ex.refl H) _ fun H1 e1 => h2 H1 e1 _ fun H2 e2 => ⟨sz_of (by show 2 ≤ 100000; decide), fun p np => ⟨p, [x, y], rfl, st_of upd_same, rfl, x, [y], rfl, k _ ((e1.trans e2).trans (Ex.new np))⟩⟩
theorem el_rg2 {i j : Int} (h : Ev ta σ H (.int i)) (h2 : Ev tb σ H (.int j)) (hi : 0 ≤ i ∧ i ≤ 1000) (hj : 0 ≤ j ∧ j ≤ 1000) : EvL (tLstRg (tRg2 ta tb)) σ H (rgV i j) := fun H1 e Q q =>
  h H1 e _ fun H2 e2 => h2 H2 (e.trans e2) _ fun H3 e3 => ⟨i, j, rfl, rfl, RgOk.of_le (by omega) (by omega) (by omega) (by omega), fun p np => q p _ (fresh_back (e2.trans e3) np) ((e2.trans e3).trans (Ex.new np)) upd_same⟩
/-- [[x] * b for .. in range(a)] -/
theorem evp_tabR {te tk tn : TE} {z : Int} {a b j : Nat} {vs : List Nat} (hn : Ev tn σ H (.int (a : Int))) (ha : a ≤ 1000) (hb : b ≤ 1000) (hw : ∀ x, wipe ((wipe σ vs).set j (some x)) vs = wipe σ vs) (hz : ∀ (i : Nat) H1, Ex H H1 → Ev te ((wipe σ vs).set j (some (.int (i : Nat)))) H1 (.int z)) (hk : ∀ (i : Nat) H1, Ex H H1 → Ev tk ((wipe σ vs).set j (some (.int (i : Nat)))) H1 (.int (b : Int))) :
    EvP (tLc (iRng1 (tCons tn tNil)) (gName j) tYes (tOp rRep (tLst (tCons te tNil)) tk) vs) σ H (NewT (List.replicate a (List.replicate b z))) := by
  refine (evp_rowsR (n := (a : Int)) (fun i => ((List.replicate a (List.replicate b z)).getD i []).map V.int) (ea_cons hn ea_nil) (by omega) hw (fun i H1 e1 hi => ?_)).imp fun H1 v H2 _ _ hv => newT_of (by simp) hv
  have e : (List.replicate a (List.replicate b z)).getD i [] = List.replicate b z := by
    unfold List.getD
    rw [List.getElem?_replicate, if_pos (by omega)]
    rfl
  rw [e]
  have := el_repI (hz i H1 e1) (hk i H1 e1) (by omega) (by omega)
  rw [Int.toNat_natCast] at this
  exact this
end
/-! ### the chain -/
def fch (t p : Nat) : Bool := decide ((t < 19 ∧ (p = t ∨ p = t + 1)) ∨ (t = 19 ∧ p = 0))
def chT (m : Int) : List (List Int) := (List.range 20).map fun t => (List.range 20).map fun p => if fch t p = true then m else 0
def chR (m : Int) : Nat → List (List Int)
  | 0 => List.replicate 20 (List.replicate 20 0)
  | i + 1 => (chR m i).set i ((((chR m i).getD i []).set i m).set (i + 1) m)
def chZ (m : Int) : List (List Int) := (chT m).set 19 (List.replicate 20 0)
theorem chR_rect (m : Int) : ∀ i, i ≤ 19 → Rect (chR m i) 20 20
  | 0, _ => (good20 (g := 0) (by decide)).toRect
  | i + 1, h => by
    have ih := chR_rect m i (by omega)
    refine ih.set ?_
    rw [List.length_set, List.length_set]
    obtain ⟨u, hu, hl⟩ := ih.lt (show i < 20 by omega)
    rw [show (chR m i).getD i [] = u by simp [List.getD, hu]]
    exact hl
theorem chR_end (m : Int) : (chR m 19).set 19 (((chR m 19).getD 19 []).set 0 m) = chT m := by kernel_rfl
theorem chT_cell (m : Int) {t p : Nat} (ht : t < 20) (hp : p < 20) : cell (chT m) t p = if fch t p = true then m else 0 := by
  have e1 : (chT m)[t]? = some ((List.range 20).map fun p => if fch t p = true then m else 0) := by
    unfold chT
    rw [List.getElem?_map, List.getElem?_range ht]
    rfl
  have e2 : ((List.range 20).map fun p => if fch t p = true then m else 0)[p]? = some (if fch t p = true then m else 0) := by
    rw [List.getElem?_map, List.getElem?_range hp]
    rfl
  exact cell_of e1 e2
theorem chT_good {m : Int} (hm : 0 ≤ m) : Good (chT m) 20 20 := by
  refine ⟨⟨rfl, fun u hu => ?_⟩, fun u hu x hx => ?_, by decide, by decide, by decide, by decide⟩
  · obtain ⟨t, _, rfl⟩ := List.mem_map.mp hu
    simp
  · obtain ⟨t, _, rfl⟩ := List.mem_map.mp hu
    obtain ⟨p, _, rfl⟩ := List.mem_map.mp hx
    split <;> omega
def dueN : List Nat := (List.range 19).map (· + 1) ++ [0]
abbrev dueI : List Int := dueN.map fun (x : Nat) => (x : Int)
theorem dueN_lt {t : Nat} (h : t < 19) : dueN[t]? = some (t + 1) := by
  unfold dueN
  rw [List.getElem?_append_left (by simp; omega), List.getElem?_map, List.getElem?_range h]
  rfl
theorem due_rg : rgV 1 20 ++ [V.int 0] = dueI.map V.int := by decide +kernel
theorem ch_due {m : Int} : Choice (chT m) 20 20 m dueN := by
  refine ⟨by decide, by decide, fun t p h => ?_⟩
  have hl : t < 20 := (List.getElem?_eq_some_iff.mp h).1
  by_cases h19 : t < 19
  · rw [dueN_lt h19] at h
    have : t + 1 = p := Option.some.inj h
    subst this
    refine ⟨hl, by omega, ?_⟩
    rw [chT_cell m hl (by omega), if_pos (by unfold fch; exact decide_eq_true (by omega))]
    exact Int.le_refl _
  · have : t = 19 := by omega
    subst this
    have : 0 = p := Option.some.inj h
    subst this
    refine ⟨by decide, by decide, ?_⟩
    rw [chT_cell m (by decide) (by decide), if_pos (by decide)]
    exact Int.le_refl _
theorem ch_only {m : Int} {L : List Nat} (h : Choice (chT m) 20 20 1 L) : L = dueN := by
  have hl := h.len
  have adj : ∀ {t p : Nat}, L[t]? = some p → fch t p = true := fun {t p} hp => by
    obtain ⟨a, b, c⟩ := h.adj t p hp
    rw [chT_cell m a b] at c
    split at c
    · assumption
    · omega
  have get : ∀ t, t < 20 → ∃ p, L[t]? = some p := fun t ht => ⟨L[t]'(by omega), by simp⟩
  have l19 : L[19]? = some 0 := by
    obtain ⟨p, hp⟩ := get 19 (by decide)
    have := of_decide_eq_true (adj hp)
    have : p = 0 := by omega
    rw [hp, this]
  have step : ∀ t, t < 19 → L[t]? = some (t + 1) := by
    intro t
    induction t with
    | zero =>
      intro _
      obtain ⟨p, hp⟩ := get 0 (by decide)
      have := of_decide_eq_true (adj hp)
      have hne : p ≠ 0 := fun z => by
        rw [z] at hp
        have := nd_ix h.nd hp l19
        omega
      have : p = 1 := by omega
      rw [hp, this]
    | succ t ih =>
      intro ht
      have ih := ih (by omega)
      obtain ⟨p, hp⟩ := get (t + 1) (by omega)
      have := of_decide_eq_true (adj hp)
      have hne : p ≠ t + 1 := fun z => by
        rw [z] at hp
        have := nd_ix h.nd hp ih
        omega
      have : p = t + 1 + 1 := by omega
      rw [hp, this]
  refine List.ext_getElem? fun i => ?_
  by_cases h1 : i < 19
  · rw [step i h1, dueN_lt h1]
  · by_cases h2 : i = 19
    · rw [h2, l19]
      rfl
    · rw [List.getElem?_eq_none (by omega), List.getElem?_eq_none (by show 20 ≤ i; omega)]
theorem ch_last {m h : Int} {L : List Nat} {S : List Int} (hm : 1 ≤ m) (z : LastOf (chT m) 20 20 h L S) : h = m ∧ L = dueN := by
  have h1 := z.top (ch_due (m := m))
  have hL := ch_only (z.ch.mono (show 1 ≤ h by omega))
  have ha := z.ch.adj 0 1 (by rw [hL]; rfl)
  have := ha.2.2
  rw [chT_cell m (by decide) (by decide), if_pos (by decide)] at this
  exact ⟨by omega, hL⟩
theorem ch_dueB {m : Int} (hm : 1 ≤ m) : dueB (chT m) 20 20 dueI = true := (ch_due.mono hm).due
theorem ch_not {m : Int} : dueB (chT m) 20 20 ((List.range 20).map fun (i : Nat) => (i : Int)) = false := by
  unfold dueB
  rw [Bool.and_eq_false_iff]
  refine .inr (Bool.eq_false_iff.mpr fun z => ?_)
  have := List.all_eq_true.mp z 19 (by simp)
  have := of_decide_eq_true this
  have e : (((List.range 20).map fun (i : Nat) => (i : Int)).getD 19 0).toNat = 19 := by decide +kernel
  rw [e, chT_cell m (by decide) (by decide), if_neg (by decide)] at this
  omega
theorem chZ_good {m : Int} (hm : 0 ≤ m) : Good (chZ m) 20 20 := by
  have hG := chT_good hm
  refine ⟨hG.toRect.set (by simp), fun u hu x hx => ?_, by decide, by decide, by decide, by decide⟩
  rcases List.mem_or_eq_of_mem_set hu with h | h
  · exact hG.pos u h x hx
  · rw [h] at hx
    rw [List.eq_of_mem_replicate hx]
    exact Int.le_refl _
theorem chZ_cell {m : Int} {p : Nat} (hp : p < 20) : cell (chZ m) 19 p = 0 := by
  have e1 : (chZ m)[19]? = some (List.replicate 20 0) := by
    unfold chZ
    rw [List.getElem?_set_self (by show 19 < 20; decide)]
  exact cell_of e1 (by rw [List.getElem?_replicate, if_pos hp])
theorem chZ_none {m : Int} : ¬ ∃ L, Choice (chZ m) 20 20 1 L := fun ⟨L, h⟩ => by
  have hl := h.len
  have hp : L[19]? = some (L[19]'(by omega)) := by simp
  obtain ⟨_, b, c⟩ := h.adj 19 _ hp
  rw [chZ_cell b] at c
  omega
theorem chZ_not {m : Int} : dueB (chZ m) 20 20 dueI = false := by
  unfold dueB
  rw [Bool.and_eq_false_iff]
  refine .inr (Bool.eq_false_iff.mpr fun z => ?_)
  have := List.all_eq_true.mp z 19 (by simp)
  have := of_decide_eq_true this
  have e : (dueI.getD 19 0).toNat = 0 := by decide +kernel
  rw [e, chZ_cell (by decide)] at this
  omega
theorem chZ_row (m : Int) : ((chT m).getD 19 []).set 0 0 = List.replicate 20 0 := by kernel_rfl
/-- each(table) where a choice is there, what it hands back is new -/
theorem found_eachN {CE CS : Addr} {T : List (List Int)} {n m : Nat} {H1 H2 : Hp} {v : V} {L : List Nat} (h : FoundOf CE CS T n m H1 v H2) (hL : Choice T n m 1 L) : ∃ (x q dx : Addr) (L' : List Nat), v = .ref x ∧ H1 x = none ∧ H1 q = none ∧ H2 x = some (.ins CE dx [("classes", .ref q)]) ∧ H2 q = some (.lst ((L'.map fun (x : Nat) => (x : Int)).map V.int)) ∧ Choice T n m 1 L' := by
  obtain ⟨x, q, k, ns, hv, nx, nq, _, ⟨_, hq, dx, hx⟩, _, h1, h2⟩ := h
  cases k with
  | false =>
    have := h2 rfl
    rw [hL.enough] at this
    cases this
  | true =>
    rcases hx with ⟨_, hx⟩ | ⟨z, _⟩
    · obtain ⟨L', hL', rfl⟩ := h1 rfl
      exact ⟨x, q, dx, L', hv, nx, nq, hx, hq, hL'⟩
    · cases z
theorem ev_eachV {K : PySem.W.Frag} {σ : L2.St} {H : Hp} {tb td : TE} {CE a : Addr} {T : List (List Int)} {n m : Nat} {b : Bool} {E E' : XK} {ns : List Int} (h2 : Ev tb σ H (.ref a)) (hs : SqL K H a (ns.map V.int)) (hl : ns.length ≤ 2000) (ht : EvP td σ H (fun _ v H2 => IsTb H2 v T n m)) (hb : dueB T n m ns = b) :
    Ev (tMeth CE "shows" (sp_Each_shows K CE) [] E (tMake CE (spInit1 K CE "classes") [] E' (tCons tb tNil)) (tCons td tNil)) σ H (.bl b) :=
  ev_methPA (P := NewIns1 CE "classes" (ns.map V.int)) (Pa := fun _ v H2 => IsTb H2 v T n m) (evp_make1 (ea_cons h2 ea_nil) hs) (fun H1 v H2 ⟨x, dx, p, hv, _, _, _, hx, _⟩ => ⟨x, dx, _, hv, hx, rfl⟩) ht fun H1 v H2 u H3 e1 e2 e3 ⟨x, dx, p, hv, _, _, _, hx, hp⟩ ⟨hG, d, rs, hu, hT⟩ Q q => by
    subst hv hu
    have b1 := hG.n1
    have b2 := hG.n20
    have b4 := hG.m20
    exact ⟨x, d, p, dx, rs, T, n, m, ns, rfl, e3 _ _ hx, e3 _ _ hp, hl, hT, hG.toRect, b1, by omega, by omega, by rw [hb]; exact q⟩
/-! ### a comprehension over what is just made -/
theorem el_src {K : PySem.W.Frag} {σ : L2.St} {H : Hp} {tl te : TE} {g : TG} {tt : TT} {vs : List Nat} {ys : List V} {P : Hp → V → Hp → Prop} (h : EvP tl σ H P) (k : ∀ H0 v H1, Ex H H0 → Ex H0 H1 → P H0 v H1 → EvL (tLc (iList K (tC v)) g tt te vs) σ H1 ys) : EvL (tLc (iList K tl) g tt te vs) σ H ys := fun H0 e Q q =>
  h H0 e _ fun v H1 e1 hv => (k H0 v H1 e e1 hv) H1 (Ex.refl _) Q fun p H2 np e2 h2 => q p H2 (fresh_back e1 np) (e1.trans e2) h2
theorem PlainV.up {H : Hp} : ∀ (d : Nat) (v : V), PlainV H d v → PlainV H (d + 1) v
  | 0, _, ⟨i, hi⟩ => .inl ⟨i, hi⟩
  | d + 1, _, h => by
    rcases h with h | ⟨p, xs, h1, h2, h3, h4⟩
    · exact .inl h
    · exact .inr ⟨p, xs, h1, h2, h3, fun x hx => PlainV.up d x (h4 x hx)⟩
/-! ### one row for twenty -/
theorem good_two {a b : Int} (ha : 0 ≤ a) (hb : 0 ≤ b) : Good (List.replicate 20 [a, b]) 20 2 := by
  refine ⟨⟨rfl, fun u hu => ?_⟩, fun u hu x hx => ?_, by decide, by decide, by decide, by decide⟩
  · rw [List.eq_of_mem_replicate hu]
    rfl
  · rw [List.eq_of_mem_replicate hu] at hx
    simp at hx
    omega
theorem fullM_two {a b : Int} : fullM (List.replicate 20 [a, b]) 2 = max (a + b) (max (20 * a) (20 * b)) := by
  have r : rowSums (List.replicate 20 [a, b]) = List.replicate 20 (a + b) := by
    unfold rowSums
    rw [List.map_replicate]
    simp
  have c : colSums (List.replicate 20 [a, b]) 2 = [20 * a, 20 * b] := by
    have e : ∀ j, colAt (List.replicate 20 [a, b]) j = 20 * ([a, b].getD j 0) := fun j => by
      unfold colAt
      rw [List.map_replicate, sum_rep]
      rfl
    unfold colSums
    rw [show List.range 2 = [0, 1] from rfl, List.map_cons, List.map_cons, List.map_nil, e, e]
    rfl
  unfold fullM
  rw [r, c, max_rep]
  rfl
theorem raised_col {a b h c : Int} {F : List (List Int)} {j : Nat} (z : Raised (List.replicate 20 [a, b]) 20 2 h F) (hj : j < 2) (hc : [a, b].getD j 0 = c) (hh : h = 20 * c) : ∀ r ∈ F, r.getD j 0 = c := fun r hr => by
  have hl : F.length = 20 := z.rect.len
  have hs : (F.map fun r => r.getD j 0 - c).sum = 0 := by
    rw [sum_map_sub (fun r : List Int => r.getD j 0) (fun _ => c) F, sum_map_const, hl]
    have := z.cols j (show j < 20 by omega)
    unfold colAt at this
    rw [this]
    omega
  have hp : ∀ x ∈ F.map (fun r => r.getD j 0 - c), 0 ≤ x := fun x hx => by
    obtain ⟨u, hu, rfl⟩ := List.mem_map.mp hx
    obtain ⟨i, hi⟩ := List.getElem?_of_mem hu
    have hi20 : i < 20 := by
      rw [← hl]
      exact (List.getElem?_eq_some_iff.mp hi).1
    have := z.le i j (show i < 20 by omega) (show j < 20 by omega)
    have e1 : (List.replicate 20 [a, b]).getD i [] = [a, b] := by
      unfold List.getD
      rw [List.getElem?_replicate, if_pos hi20]
      rfl
    rw [e1, hc, show F.getD i [] = u by simp [List.getD, hi]] at this
    show 0 ≤ u.getD j 0 - c
    omega
  have := zero_of_sum hp hs _ (List.mem_map.mpr ⟨r, hr, rfl⟩)
  omega
/-! ### three answers in one list -/
def IsOb (CP CS CE : Addr) (H : Hp) (v : V) : Prop := (∃ x dx a, v = .ref x ∧ H x = some (.ins CP dx [("parts", .ref a)]) ∧ H a = some (.lst [])) ∨ (∃ x dx q, v = .ref x ∧ H x = some (.ins CS dx [("teachers", .ref q)]) ∧ H q = some (.lst ([(0 : Int)].map V.int))) ∨ ∃ x dx q, v = .ref x ∧ H x = some (.ins CE dx [("classes", .ref q)]) ∧ H q = some (.lst ([(1 : Int)].map V.int))
theorem mo_ob {CP CS CE : Addr} : Mo (IsOb CP CS CE) := fun _ _ _ e h => by
  rcases h with ⟨x, dx, a, h1, h2, h3⟩ | ⟨x, dx, a, h1, h2, h3⟩ | ⟨x, dx, a, h1, h2, h3⟩
  · exact .inl ⟨x, dx, a, h1, e _ _ h2, e _ _ h3⟩
  · exact .inr (.inl ⟨x, dx, a, h1, e _ _ h2, e _ _ h3⟩)
  · exact .inr (.inr ⟨x, dx, a, h1, e _ _ h2, e _ _ h3⟩)
/-- a method of a known object, asked with something new -/
theorem ev_methVA {σ : L2.St} {H : Hp} {ta tb : TE} {Pa : Hp → V → Hp → Prop} {C a dx : Addr} {fs : List (Str × V)} {mt : Str} {sp : Sp} {z : V} {E : XK} (h : Ev ta σ H (.ref a)) (ha : H a = some (.ins C dx fs)) (hl : fs.lookup mt = none) (hr : EvP tb σ H Pa)
    (hs : ∀ H1 u H2, Ex H H1 → Ex H1 H2 → Pa H1 u H2 → ∀ Q : VK, Ret (IsV z) H2 Q → sp (.ref a :: ([u] ++ [])) H2 Q E) : Ev (tMeth C mt sp [] E ta (tCons tb tNil)) σ H z := fun H1 e Q q =>
  h H1 e _ fun H2 e2 => ⟨a, dx, fs, rfl, (e.trans e2) _ _ ha, hl, hr H2 (e.trans e2) _ fun u H3 e3 hu => hs H2 u H3 (e.trans e2) e3 hu Q fun w H4 e4 hw => by
    have : w = z := hw
    rw [this]
    exact q H4 ((e2.trans e3).trans e4)⟩
end Lh

namespace Lh
open PySem PySem.Spec PyProof.Rows L2 Evl L2H
open LamX (CodeO TabS Tabs ExtN TabB codeO_ne)
/-! ### lambdas that take nothing along -/
theorem clo_nil {cells : List (Str × Addr)} : ∀ {ns : List (Str × NameKind)}, (∀ y ∈ ns, y.2 ≠ .free) → cloFrom cells ns [] = []
  | [], _ => rfl
  | (n, k) :: r, h => by
    have hk : (k == NameKind.free) = false := by
      have := h (n, k) List.mem_cons_self
      simpa using this
    show (if (k == NameKind.free) = true then _ else cloFrom cells r []) = []
    rw [hk]
    exact clo_nil fun y hy => h y (List.mem_cons_of_mem _ hy)
def nofB (sc : Scope) : Bool := sc.names.all fun y => !decide (y.2 = .free)
theorem nof_by {sc : Scope} (h : nofB sc = true) : ∀ y ∈ sc.names, y.2 ≠ .free := fun y hy => by
  have := List.all_eq_true.mp h y hy
  simpa using this
theorem pe_lamB {X : Cx} {c P : Addr} {q : Str} {ps : Arguments} {body : Expr} {sc : Scope} {pos : Pos} (B : TabB X.base X.mg c P) (ec : X.env.code = .ref c) (hq : X.env.qual ++ "<lambda>" = q) (nodef : defaultsOf ps X.env = ([], [])) (nof : ∀ y ∈ sc.names, y.2 ≠ .free) : PE X (.Lambda ps body sc pos) (tLamV [(P, q)] q ps body sc []) := by
  subst hq
  have := pe_lamV (T := [(P, X.env.qual ++ "<lambda>")]) (ps := ps) (body := body) (sc := sc) (pos := pos) B ec (List.mem_singleton_self _) lam_one nodef (fun y hy e => absurd e (nof y hy))
  rw [clo_nil nof] at this
  exact this
/-- what such a lambda is good for, in any state -/
structure Ask0 (P : Program) (w : World) (K : PySem.W.Frag) (mg : Str → Option Value) (base : Heap) (k : Nat) (H : Hp) (f : Addr) (tb : XK → V → Hp → VK → Prop) : Prop where
  ex : ∃ (q : Str) (c' : Addr) (ps : Arguments) (body : Expr) (sc : Scope) (p : Str) (te : XK → TE), H f = some (LamO f q ps body sc [] c') ∧ H c' = some (CodeO c' q) ∧ LamP p sc ∧ (∀ y ∈ sc.names, y.2 ≠ .free) ∧
    (∀ (u pm cv ctv : Value), bindArgs (PySem.W.kla_fn "<lambda>" q ps body sc [] pm cv ctv) ⟨[u], []⟩ = pure [(p, u)]) ∧
    (∀ (A : Around) (outer : List Env) (s : Shared) (H : Hp) (E : XK), Room k (A.deeper (lamE q sc s.heap.objs.size f c' [])) → PE (lamC P w K mg base [p] q sc [] f c' A outer s H E) body (te E)) ∧
    ∀ (E : XK) (v : V) (H : Hp) (Q : VK), tb E v H Q → te E [some v] H Q
section
variable {P : Program} {w : World} {K : PySem.W.Frag} {mg : Str → Option Value} {base : Heap} {k : Nat} {H H' : Hp} {f : Addr} {tb : XK → V → Hp → VK → Prop} {CT CB : Addr}
theorem Ask0.extN (h : Ask0 P w K mg base k H f tb) (e : ExtN H H') : Ask0 P w K mg base k H' f tb := by
  obtain ⟨q, c', ps, body, sc, p, te, h1, h2, h3⟩ := h.ex
  exact ⟨q, c', ps, body, sc, p, te, e _ _ h1 lamO_ne, e _ _ h2 codeO_ne, h3⟩
theorem ask0_of {q : Str} {c' : Addr} {ps : Arguments} {body : Expr} {sc : Scope} {p : Str} {te : XK → TE} (hf : H f = some (LamO f q ps body sc [] c')) (hc : H c' = some (CodeO c' q)) (L : LamP p sc) (nof : ∀ y ∈ sc.names, y.2 ≠ .free)
    (bind : ∀ (u pm cv ctv : Value), bindArgs (PySem.W.kla_fn "<lambda>" q ps body sc [] pm cv ctv) ⟨[u], []⟩ = pure [(p, u)])
    (hb : ∀ (A : Around) (outer : List Env) (s : Shared) (H : Hp) (E : XK), Room k (A.deeper (lamE q sc s.heap.objs.size f c' [])) → PE (lamC P w K mg base [p] q sc [] f c' A outer s H E) body (te E)) :
    Ask0 P w K mg base k H f (fun E v H Q => te E [some v] H Q) := ⟨⟨q, c', ps, body, sc, p, te, hf, hc, L, nof, bind, hb, fun _ _ _ _ h => h⟩⟩
theorem Ask0.asks {X : Cx} {σ : L2.St} (hP : X.prog = P) (hw : X.w = w) (hK : X.K = K) (hm : X.mg = mg) (hb : X.base = base) (h : Ask0 P w K mg base k H f tb) : Asks X k σ H f tb := by
  subst hP hw hK hm hb
  obtain ⟨q, c', ps, body, sc, p, te, h1, h2, h3, h4, h5, h6, h7⟩ := h.ex
  exact ⟨q, c', ps, body, sc, [], p, [], [], te, h1, h2, h3, by simp, rfl, h5, fun pins s I H' s' v un => cl_nil h4, h6, h7⟩
/-- _law_refused(ask, thing, due), wherever it is asked -/
def spR0 (P : Program) (w : World) (K : PySem.W.Frag) (mg : Str → Option Value) (base : Heap) (k : Nat) (CT CB : Addr) : L2.St → List V → Hp → VK → Prop := fun _ vs H Q => ∃ (f : Addr) (v : V) (d : Int) (C : Addr) (tb : XK → V → Hp → VK → Prop), vs = [.ref f, v, .int d] ∧ Ask0 P w K mg base k H f tb ∧ ((C = CT ∧ d = 0) ∨ (C = CB ∧ d = 1)) ∧ (∀ (E : XK) (Qx : VK), (∀ H', Ex H H' → E (.ref C) none H') → tb E v H Qx) ∧ ∀ H', Ex H H' → Q (.bl true) H'
theorem spR0_imp {X : Cx} (hP : X.prog = P) (hw : X.w = w) (hK : X.K = K) (hm : X.mg = mg) (hb : X.base = base) : ∀ σ vs H Q, spR0 P w K mg base k CT CB σ vs H Q → spR X k CT CB σ vs H Q := fun σ vs H Q ⟨f, v, d, C, tb, h1, h2, h3⟩ => ⟨f, v, d, C, tb, h1, h2.asks hP hw hK hm hb, h3⟩
end
structure CalRG (P : Program) (w : World) (K : PySem.W.Frag) (mg : Str → Option Value) (base : Heap) (CT CB : Addr) (k : Nat) : Prop where
  pe : ∀ {X : Cx}, X.prog = P → X.w = w → X.K = K → X.mg = mg → X.base = base → ∀ {SP : L2.St → List V → Hp → VK → Prop}, (∀ σ vs H Q, SP σ vs H Q → spR X k CT CB σ vs H Q) → ∀ {j : Nat} {p pos : Pos} {e : Expr} {es : List Expr} {t : TA}, Room j X.A → k + 2 ≤ j → Gl X "_law_refused" → PA X (e :: es) t → starEach (e :: es) X.env = (false, eval e X.env) :: starEach es X.env → (backTo pos (starEach es X.env)).any (·.1) = false →
    PE X (.Call (.Name "_law_refused" p) (e :: es) [] pos) (tCalV SP t)
/-! ### what evaluates to what, while tables of code grow -/
def EvN (T : List (Addr × Str)) (te : TE) (σ : L2.St) (H : Hp) (R : V → Hp → Prop) : Prop := ∀ H0, ExtN H H0 → Tabs T H0 → ∀ Q : VK, (∀ v H1, ExtN H0 H1 → Tabs T H1 → R v H1 → Q v H1) → te σ H0 Q
def EvNA (T : List (Addr × Str)) (ta : TA) (σ : L2.St) (H : Hp) (R : List V → Hp → Prop) : Prop := ∀ H0, ExtN H H0 → Tabs T H0 → ∀ Q : List V → Hp → Prop, (∀ v H1, ExtN H0 H1 → Tabs T H1 → R v H1 → Q v H1) → ta σ H0 Q
def MoN (I : Hp → V → Prop) : Prop := ∀ H H' v, ExtN H H' → I H v → I H' v
theorem Tabs.upd {T : List (Addr × Str)} {H : Hp} {D : Addr} {xs ys : List V} (t : Tabs T H) (hD : H D = some (.lst xs)) : Tabs T (L2.upd H D (.lst ys)) := fun p hp => by
  obtain ⟨ps, h1, h2, h3⟩ := t p hp
  refine ⟨ps, ?_, h2, fun pos cv hc => ?_⟩
  · rw [upd_ne (fun z => by rw [z, hD] at h1; cases h1)]
    exact h1
  · obtain ⟨c, e1, e2⟩ := h3 pos cv hc
    refine ⟨c, e1, ?_⟩
    rw [upd_ne (fun z => by rw [z, hD] at e2; unfold CodeO at e2; cases e2)]
    exact e2
theorem extN_new {H H1 : Hp} {D : Addr} {o : HO} (e : ExtN H H1) (h : H D = none) : ExtN H (L2.upd H1 D o) := fun b u hb n => by
  rw [upd_ne (ne_of_none hb h)]
  exact e b u hb n
theorem extN_none {H H1 : Hp} {p : Addr} (e : Ex H H1) (h : H1 p = none) : H p = none := fresh_back e h
section
variable {K : PySem.W.Frag} {T : List (Addr × Str)} {σ : L2.St} {H : Hp} {te ta tb tl tc : TE} {tr : TA} {I : Hp → V → Prop} {R : V → Hp → Prop} {D : Ends} {tu tz : TS} {g : TG} {tt : TT} {vs : List Nat} {xs ys : List V} {a : Addr} {k : Nat} {t : TT}
theorem en_lam {q : Str} {ps : Arguments} {body : Expr} {sc : Scope} (h : ∀ f c' H1, H1 f = some (LamO f q ps body sc [] c') → H1 c' = some (CodeO c' q) → R (.ref f) H1) : EvN T (tLamV T q ps body sc []) σ H R := fun H0 e0 t0 Q hq => ⟨t0, fun f c' H1 e1 t1 hf hc => hq _ H1 e1 t1 (h f c' H1 hf hc)⟩
theorem en_ev {v : V} (h : ∀ H0, ExtN H H0 → Ev te σ H0 v) : EvN T te σ H (fun u _ => u = v) := fun H0 e0 t0 Q hq => h H0 e0 H0 (Ex.refl _) _ fun H1 e1 => hq v H1 (extN_of e1) (t0.ext e1) rfl
theorem en_evp {P : Hp → V → Hp → Prop} (h : ∀ H0, ExtN H H0 → EvP te σ H0 P) (hp : ∀ H0 v H1, P H0 v H1 → R v H1) : EvN T te σ H R := fun H0 e0 t0 Q hq => h H0 e0 H0 (Ex.refl _) _ fun v H1 e1 hv => hq v H1 (extN_of e1) (t0.ext e1) (hp _ _ _ hv)
theorem ena_nil : EvNA T tNil σ H (fun vs H2 => vs.length = 0 ∧ ∀ v ∈ vs, I H2 v) := fun H0 _ t0 Q hq => hq [] H0 (ExtN.refl _) t0 ⟨rfl, (fun v hv => (nomatch hv))⟩
theorem ena_cons (m : MoN I) (h : EvN T te σ H (fun v H2 => I H2 v)) (hr : EvNA T tr σ H (fun vs H2 => vs.length = k ∧ ∀ v ∈ vs, I H2 v)) : EvNA T (tCons te tr) σ H (fun vs H2 => vs.length = k + 1 ∧ ∀ v ∈ vs, I H2 v) := fun H0 e0 t0 Q hq =>
  h H0 e0 t0 _ fun v H1 e1 t1 hv => hr H1 (e0.trans e1) t1 _ fun vs H2 e2 t2 ⟨hl, hvs⟩ => hq (v :: vs) H2 (e1.trans e2) t2 ⟨by rw [List.length_cons, hl], fun u hu => by
    rcases List.mem_cons.mp hu with z | z
    · rw [z]
      exact m _ _ _ e2 hv
    · exact hvs u z⟩
abbrev LN (I : Hp → V → Prop) (k : Nat) : V → Hp → Prop := fun v H2 => ∃ p vs, v = .ref p ∧ H2 p = some (.lst vs) ∧ vs.length = k ∧ ∀ u ∈ vs, I H2 u
theorem en_disp (m : MoN I) (h : EvNA T tr σ H (fun vs H2 => vs.length = k ∧ ∀ v ∈ vs, I H2 v)) (hk : k ≤ 1000) : EvN T (tLst tr) σ H (LN I k) := fun H0 e0 t0 Q hq =>
  h H0 e0 t0 _ fun vs H1 e1 t1 ⟨hl, hvs⟩ => ⟨sz_of (by omega), fun p np => hq _ _ (e1.trans (extN_of (Ex.new np))) (t1.ext (Ex.new np)) ⟨p, vs, rfl, upd_same, hl, fun u hu => m _ _ _ (extN_of (Ex.new np)) (hvs u hu)⟩⟩
theorem en_cat (m : MoN I) (ha : ∀ H0, Ev ta σ H0 (.ref a)) (hx : H a = some (.lst xs)) (hl : xs.length ≤ 1000) (hxs : ∀ v ∈ xs, I H v) (hb : EvN T tb σ H (LN I k)) (hk : k ≤ 1000) : EvN T (tOp rCat ta tb) σ H (LN I (xs.length + k)) := fun H0 e0 t0 Q hq =>
  ha H0 H0 (Ex.refl _) _ fun H1 e1 => hb H1 (e0.trans (extN_of e1)) (t0.ext e1) _ fun v H2 e2 t2 ⟨b, ys, hv, hb2, hyl, hys⟩ => ⟨a, b, xs, ys, rfl, hv, e2 _ _ (e1 _ _ (e0 _ _ hx (fun _ z => nomatch z))) (fun _ z => nomatch z), hb2, sz_of (by omega), fun p np => hq _ _ (((extN_of e1).trans e2).trans (extN_of (Ex.new np))) (t2.ext (Ex.new np)) ⟨p, _, rfl, upd_same, by rw [List.length_append, hyl], fun u hu => by
    rcases List.mem_append.mp hu with z | z
    · exact m _ _ _ (((e0.trans (extN_of e1)).trans e2).trans (extN_of (Ex.new np))) (hxs u z)
    · exact m _ _ _ (extN_of (Ex.new np)) (hys u z)⟩⟩
theorem q_asgN {i : Nat} (h : EvN T te σ H R) (t0 : Tabs T H) (q : ∀ v H1, ExtN H H1 → Tabs T H1 → R v H1 → tz D (σ.set i (some v)) H1) : tSeq (tAsg te (gName i)) tz D σ H := h H (ExtN.refl _) t0 _ q
theorem en_src (h : EvN T tl σ H R) (q : ∀ v H1, ExtN H H1 → R v H1 → EvL (tLc (iList K (tC v)) g tt te vs) σ H1 ys) : EvN T (tLc (iList K tl) g tt te vs) σ H (fun v H2 => ∃ p, v = .ref p ∧ H2 p = some (.lst ys)) := fun H0 e0 t0 Q hq =>
  h H0 e0 t0 _ fun v H1 e1 t1 hv => (q v H1 (e0.trans e1) hv) H1 (Ex.refl _) Q fun p H2 np e2 h2 => hq _ H2 (e1.trans (extN_of e2)) (t1.ext e2) ⟨p, rfl, h2⟩
theorem en_allTrue (h : EvN T te σ H (fun v H2 => ∃ p, v = .ref p ∧ H2 p = some (.lst ((List.replicate k true).map V.bl)))) : EvN T (tCB (rAll K) (tCons te tNil)) σ H (fun v _ => v = .bl true) := fun H0 e0 t0 Q hq =>
  h H0 e0 t0 _ fun v H1 e1 t1 ⟨p, hv, hp⟩ => ⟨p, List.replicate k true, by rw [hv], sq_of hp, hq _ H1 e1 t1 (by rw [List.all_replicate]; split <;> rfl)⟩
theorem s_unlessN (h : EvN T tc σ H (fun v _ => v = .bl true)) (t0 : Tabs T H) (q : ∀ H1, ExtN H H1 → Tabs T H1 → D.nx σ H1) : tIfS (tNot (tB tc)) tu tNext D σ H := h H (ExtN.refl _) t0 _ fun v H1 e1 t1 hv => ⟨true, hv, q H1 e1 t1⟩
theorem q_unlessN (h : EvN T tc σ H (fun v _ => v = .bl true)) (t0 : Tabs T H) (q : ∀ H1, ExtN H H1 → Tabs T H1 → tz D σ H1) : tSeq (tIfS (tNot (tB tc)) tu tNext) tz D σ H := s_unlessN (D := { D with nx := tz D }) h t0 q
theorem q_unlessOr (h : EvN T tc σ H (fun v _ => v = .bl true)) (t0 : Tabs T H) (h2 : ∀ H1, ExtN H H1 → EvT t σ H1 false) (q : ∀ H1, ExtN H H1 → Tabs T H1 → tz D σ H1) : tSeq (tIfS (tOr (tNot (tB tc)) t) tu tNext) tz D σ H := h H (ExtN.refl _) t0 _ fun v H1 e1 t1 hv => ⟨true, hv, h2 H1 e1 H1 (Ex.refl _) _ fun H2 e2 => q H2 (e1.trans (extN_of e2)) (t1.ext e2)⟩
theorem s_retN (h : EvN T te σ H R) (t0 : Tabs T H) (q : ∀ v H1, R v H1 → D.rt v H1) : tRet te D σ H := h H (ExtN.refl _) t0 _ fun v H1 _ _ hv => q v H1 hv
/-- a comprehension whose items make lambdas, each true -/
theorem en_lc {j : Nat} (h : ∀ H0, ExtN H H0 → EvL tl σ H0 xs) (hz : xs.length ≤ 1000) (hw : ∀ x, wipe ((wipe σ vs).set j (some x)) vs = wipe σ vs) (he : ∀ (i : Nat) (x : V) H1, ExtN H H1 → xs[i]? = some x → EvN T te ((wipe σ vs).set j (some x)) H1 (fun v _ => v = .bl true)) :
    EvN T (tLc (iList K tl) (gName j) tYes te vs) σ H (fun v H2 => ∃ p, v = .ref p ∧ H2 p = some (.lst ((List.replicate xs.length true).map V.bl))) := fun H0 e0 t0 Q hq =>
  h H0 e0 H0 (Ex.refl _) _ fun a H1 na e1 ha => ⟨a, rfl, ⟨xs, sq_of ha⟩, fun Dl hD => by
    have haD : a ≠ Dl := ne_of_none ha hD
    refine lc_list (xs := xs) (fun i H' => H' a = some (.lst xs) ∧ ExtN H1 H' ∧ Tabs T H' ∧ H' Dl = some (.lst ((List.replicate i true).map V.bl))) ⟨by rw [upd_ne haD]; exact ha, extN_of (Ex.new hD), (t0.ext e1).ext (Ex.new hD), upd_same⟩ (fun i H' _ z => sq_of z.1) (fun i x H' hi z => ?_) (fun H' z => hq _ H' ((extN_of e1).trans z.2.1) z.2.2.1 ⟨Dl, rfl, z.2.2.2⟩)
    obtain ⟨z1, z2, z3, z4⟩ := z
    have hil : i < xs.length := (List.getElem?_eq_some_iff.mp hi).1
    refine ⟨hw x, ?_⟩
    show te ((wipe σ vs).set j (some x)) H' _
    refine he i x H' ((e0.trans (extN_of e1)).trans z2) hi H' (ExtN.refl _) z3 _ fun v H2 e2 t2 hv => ?_
    have hv : v = .bl true := hv
    have hD2 : H2 Dl = some (.lst ((List.replicate i true).map V.bl)) := e2 _ _ z4 (fun _ z => nomatch z)
    refine ⟨_, hD2, sz_lt (by rw [List.length_map, List.length_replicate]; omega), ?_, extN_new (z2.trans e2) hD, Tabs.upd t2 hD2, ?_⟩
    · rw [upd_ne haD]
      exact e2 _ _ z1 (fun _ z => nomatch z)
    · rw [upd_same, hv, List.replicate_succ', List.map_append]
      rfl⟩
end
/-! ### asks that refuse bad tables -/
def BadAsk (P : Program) (w : World) (K : PySem.W.Frag) (mg : Str → Option Value) (base : Heap) (k : Nat) (CT : Addr) (H : Hp) (v : V) : Prop := ∃ (f : Addr) (tb : XK → V → Hp → VK → Prop), v = .ref f ∧ Ask0 P w K mg base k H f tb ∧ ∀ (E : XK) (u : V) (H2 : Hp) (Qx : VK), BadTab K H2 u → (∀ H', Ex H2 H' → E (.ref CT) none H') → tb E u H2 Qx
section
variable {P : Program} {w : World} {K : PySem.W.Frag} {mg : Str → Option Value} {base : Heap} {k : Nat} {H : Hp} {CT CB : Addr} {T : List (Addr × Str)} {σ : L2.St}
theorem mo_ask : MoN (BadAsk P w K mg base k CT) := fun _ _ _ e ⟨f, tb, h1, h2, h3⟩ => ⟨f, tb, h1, h2.extN e, h3⟩
/-- a call of _law_refused with a lambda that lies there -/
theorem ev_refV {ta tb : TE} {v u : V} (h1 : Ev ta σ H v) (hA : BadAsk P w K mg base k CT H v) (h2 : Ev tb σ H u) (hB : BadTab K H u) : Ev (tCalV (spR0 P w K mg base k CT CB) (tCons ta (tCons tb (tCons (tC (.int 0)) tNil)))) σ H (.bl true) := fun H1 e1 Q q => by
  obtain ⟨f, tb', rfl, hA, hI⟩ := hA
  exact h1 H1 e1 _ fun H2 e2 => h2 H2 (e1.trans e2) _ fun H3 e3 => ⟨f, u, 0, CT, tb', rfl, hA.extN (extN_of ((e1.trans e2).trans e3)), .inl ⟨rfl, rfl⟩, fun E Qx out => hI E u H3 Qx (hB.mono ((e1.trans e2).trans e3)) out, fun H' e' => q H' ((e2.trans e3).trans e')⟩
/-- a call of _law_refused with a lambda just made -/
theorem en_ref {q : Str} {ps : Arguments} {body : Expr} {sc : Scope} {te : TE} {R : V → Hp → Prop} {d : Int} (hth : EvN T te σ H R)
    (hask : ∀ (f c' : Addr) (v : V) (H2 : Hp), H2 f = some (LamO f q ps body sc [] c') → H2 c' = some (CodeO c' q) → R v H2 → ∃ (C : Addr) (tb : XK → V → Hp → VK → Prop), Ask0 P w K mg base k H2 f tb ∧ ((C = CT ∧ d = 0) ∨ (C = CB ∧ d = 1)) ∧ ∀ (E : XK) (Qx : VK), (∀ H', Ex H2 H' → E (.ref C) none H') → tb E v H2 Qx) :
    EvN T (tCalV (spR0 P w K mg base k CT CB) (tCons (tLamV T q ps body sc []) (tCons te (tCons (tC (.int d)) tNil)))) σ H (fun v _ => v = .bl true) := fun H0 e0 t0 Q hq =>
  ⟨t0, fun f c' H1 e1 t1 hf hc => hth H1 (e0.trans e1) t1 _ fun v H2 e2 t2 hv => by
    obtain ⟨C, tb, a, b, c⟩ := hask f c' v H2 (e2 _ _ hf lamO_ne) (e2 _ _ hc codeO_ne) hv
    exact ⟨f, v, d, C, tb, rfl, a, b, c, fun H' e' => hq _ H' ((e1.trans e2).trans (extN_of e')) (t2.ext e') rfl⟩⟩
end
/-! ### bad among full rows -/
abbrev threes (k : Nat) : List V := (List.replicate k (3 : Int)).map V.int
theorem three_ok {k : Nat} : ∀ z ∈ threes k, NumOk z := fun z hz => by
  obtain ⟨i, hi, rfl⟩ := List.mem_map.mp hz
  exact ⟨i, by rw [List.eq_of_mem_replicate hi]; decide, rfl⟩
theorem three_len (k : Nat) : (threes k).length = k := by simp
theorem row_good {H : Hp} {s : Addr} {k : Nat} (h : H s = some (.lst (threes k))) : GoodRow H k (.ref s) := ⟨s, _, rfl, h, three_len k, three_ok⟩
theorem bad_cell {K : PySem.W.Frag} {H : Hp} {pt r : Addr} {rs : List Addr} {i0 j0 : Nat} {x : V} (top : H pt = some (.lst (rs.map V.ref))) (hl : rs.length = 20) (hrow : ∀ (k : Nat) s, rs[k]? = some s → k ≠ i0 → H s = some (.lst (threes 20))) (hr : rs[i0]? = some r) (hH : H r = some (.lst ((threes 20).set j0 x))) (hj : j0 < 20) (hb : NumBad K H x) : BadTab K H (.ref pt) := by
  have hlen : ((threes 20).set j0 x).length = 20 := by rw [List.length_set, three_len]
  have hBR : BadRow K H 20 (.ref r) := .inr ⟨r, _, rfl, hH, by rw [hlen]; decide, .inr ⟨hlen, fun z hz => by
    rcases List.mem_or_eq_of_mem_set hz with h | h
    · exact .inl (three_ok z h)
    · rw [h]
      exact .inr hb, x, List.mem_iff_getElem?.mpr ⟨j0, List.getElem?_set_self (by rw [three_len]; exact hj)⟩, hb⟩⟩
  obtain ⟨a0, ha0⟩ : ∃ a0, rs[0]? = some a0 := ⟨rs[0]'(by omega), by simp⟩
  have h0 : ∃ ys, H a0 = some (.lst ys) ∧ ys.length = 20 := by
    by_cases e : (0 : Nat) = i0
    · rw [← e, ha0] at hr
      have : a0 = r := Option.some.inj hr
      subst this
      exact ⟨_, hH, hlen⟩
    · exact ⟨_, hrow 0 a0 ha0 e, three_len 20⟩
  obtain ⟨ys, hys, hyl⟩ := h0
  refine .inr ⟨pt, _, rfl, top, .inr ⟨.ref a0, ref_at ha0, by rw [List.length_map, hl]; decide, .inr ⟨a0, ys, rfl, hys, .inr (.inr ⟨by rw [hyl]; decide, by rw [hyl]; decide, i0, ⟨.ref r, ref_at hr, by rw [hyl]; exact hBR⟩, fun j u hj' hu => ?_⟩)⟩⟩⟩
  rw [List.getElem?_map] at hu
  cases hs : rs[j]? with
  | none => rw [hs] at hu; cases hu
  | some s =>
    rw [hs] at hu
    have : V.ref s = u := Option.some.inj hu
    subst this
    rw [hyl]
    exact row_good (hrow j s hs (by omega))
/-- no row of twenty -/
def I2 (H : Hp) (v : V) : Prop := (∃ (k : Nat) (p : Addr), (k = 19 ∨ k = 21 ∨ k = 0) ∧ v = .ref p ∧ H p = some (.lst (threes k))) ∨ (∃ (p : Addr) (xs : List V), v = .ref p ∧ H p = some (.tup xs)) ∨ v = .non
theorem mo_i2 : MoN I2 := fun _ _ _ e h => by
  rcases h with ⟨k, p, a, b, c⟩ | ⟨p, xs, a, b⟩ | h
  · exact .inl ⟨k, p, a, b, e _ _ c (fun _ z => nomatch z)⟩
  · exact .inr (.inl ⟨p, xs, a, e _ _ b (fun _ z => nomatch z)⟩)
  · exact .inr (.inr h)
theorem mo_ex {I : Hp → V → Prop} (m : MoN I) : Mo I := fun _ _ _ e h => m _ _ _ (extN_of e) h
theorem I2.row {K : PySem.W.Frag} {H : Hp} {v : V} (h : I2 H v) : BadRow K H 20 v := by
  rcases h with ⟨k, p, hk, rfl, hp⟩ | ⟨p, xs, rfl, hp⟩ | rfl
  · exact .inr ⟨p, _, rfl, hp, by rw [three_len]; omega, .inl (by rw [three_len]; omega)⟩
  · exact .inl (nl_tup ⟨p, rfl, hp⟩)
  · exact .inl nl_non
theorem bad_slot {K : PySem.W.Frag} {H : Hp} {p : Addr} {k : Nat} {fs : List Addr} {v : V} (hk : k < 19) (hp : H p = some (.lst (((fs.map V.ref).take k ++ [v]) ++ (fs.map V.ref).drop k))) (hl : fs.length = 19) (hrow : ∀ s ∈ fs, H s = some (.lst (threes 20))) (hv : I2 H v) : BadTab K H (.ref p) := by
  have hlen : (((fs.map V.ref).take k ++ [v]) ++ (fs.map V.ref).drop k).length = 20 := by
    rw [List.length_append, List.length_append, List.length_take, List.length_drop, List.length_map, hl, List.length_singleton]
    omega
  cases k with
  | zero =>
    have h0 : ((fs.map V.ref).take 0 ++ [v]) ++ (fs.map V.ref).drop 0 = v :: fs.map V.ref := rfl
    rw [h0] at hp hlen
    refine .inr ⟨p, _, rfl, hp, .inr ⟨v, rfl, by rw [hlen]; decide, ?_⟩⟩
    rcases hv with ⟨k, q, hk, rfl, hq⟩ | ⟨q, xs, rfl, hq⟩ | rfl
    · refine .inr ⟨q, _, rfl, hq, ?_⟩
      rcases hk with rfl | rfl | rfl
      · refine .inr (.inr ⟨by decide, by decide, 1, ?_, fun j u hj hu => ?_⟩)
        · obtain ⟨s, hs⟩ : ∃ s, fs[0]? = some s := ⟨fs[0]'(by omega), by simp⟩
          exact ⟨.ref s, by rw [List.getElem?_cons_succ]; exact ref_at hs, .inr ⟨s, _, rfl, hrow s (List.mem_of_getElem? hs), by decide, .inl (by decide)⟩⟩
        · have : j = 0 := by omega
          subst this
          have : V.ref q = u := Option.some.inj hu
          subst this
          exact row_good hq
      · exact .inr (.inl (by decide))
      · exact .inl rfl
    · exact .inl (nl_tup ⟨q, rfl, hq⟩)
    · exact .inl nl_non
  | succ k =>
    obtain ⟨s0, hs0⟩ : ∃ s, fs[0]? = some s := ⟨fs[0]'(by omega), by simp⟩
    have lt : ((fs.map V.ref).take (k + 1)).length = k + 1 := by
      rw [List.length_take, List.length_map, hl]
      omega
    have at_ : ∀ j, j < k + 1 → (((fs.map V.ref).take (k + 1) ++ [v]) ++ (fs.map V.ref).drop (k + 1))[j]? = (fs.map V.ref)[j]? := fun j hj => by
      rw [List.getElem?_append_left (by rw [List.length_append, lt]; omega), List.getElem?_append_left (by rw [lt]; exact hj), List.getElem?_take_of_lt hj]
    have hm := hrow s0 (List.mem_of_getElem? hs0)
    refine .inr ⟨p, _, rfl, hp, .inr ⟨.ref s0, by rw [at_ 0 (by omega)]; exact ref_at hs0, by rw [hlen]; decide, .inr ⟨s0, _, rfl, hm, .inr (.inr ⟨by decide, by decide, k + 1, ⟨v, ?_, by rw [three_len]; exact hv.row⟩, fun j u hj hu => ?_⟩)⟩⟩⟩
    · rw [List.getElem?_append_left (by rw [List.length_append, lt]; simp), List.getElem?_append_right (by rw [lt]; exact Nat.le_refl _), lt, Nat.sub_self]
      rfl
    · rw [at_ j hj, List.getElem?_map] at hu
      cases hs : fs[j]? with
      | none => rw [hs] at hu; cases hu
      | some s =>
        rw [hs] at hu
        have : V.ref s = u := Option.some.inj hu
        subst this
        rw [three_len]
        exact row_good (hrow s (List.mem_of_getElem? hs))
/-- no table -/
def I3 (H : Hp) (v : V) : Prop := (∃ (p : Addr) (xs : List V), v = .ref p ∧ H p = some (.lst xs) ∧ (xs = [] ∨ 20 < xs.length)) ∨ (∃ p r : Addr, v = .ref p ∧ H p = some (.lst [.ref r]) ∧ H r = some (.lst (threes 21))) ∨ (∃ (p : Addr) (xs : List V), v = .ref p ∧ H p = some (.tup xs)) ∨ v = .non
theorem mo_i3 : MoN I3 := fun _ _ _ e h => by
  rcases h with ⟨p, xs, a, b, c⟩ | ⟨p, r, a, b, c⟩ | ⟨p, xs, a, b⟩ | h
  · exact .inl ⟨p, xs, a, e _ _ b (fun _ z => nomatch z), c⟩
  · exact .inr (.inl ⟨p, r, a, e _ _ b (fun _ z => nomatch z), e _ _ c (fun _ z => nomatch z)⟩)
  · exact .inr (.inr (.inl ⟨p, xs, a, e _ _ b (fun _ z => nomatch z)⟩))
  · exact .inr (.inr (.inr h))
theorem I3.bad {K : PySem.W.Frag} {H : Hp} {v : V} (h : I3 H v) : BadTab K H v := by
  rcases h with ⟨p, xs, rfl, b, c⟩ | ⟨p, r, rfl, b, c⟩ | ⟨p, xs, rfl, b⟩ | rfl
  · exact .inr ⟨p, xs, rfl, b, .inl c⟩
  · exact .inr ⟨p, _, rfl, b, .inr ⟨.ref r, rfl, by show 1 ≤ 20; decide, .inr ⟨r, _, rfl, c, .inr (.inl (by decide))⟩⟩⟩
  · exact .inl (nl_tup ⟨p, rfl, b⟩)
  · exact .inl nl_non
/-- (3,) * 20 -/
theorem eu_repT {K : PySem.W.Frag} {σ : L2.St} {H : Hp} {ta tb : TE} {xs : List V} {k : Int} (ha : EvU ta σ H xs) (hb : Ev tb σ H (.int k)) (hx : xs ≠ []) (h1 : 2 ≤ k) (h2 : k ≤ 1000) (hl : xs.length ≤ 1000) : EvU (tOp (rRepT K) ta tb) σ H (List.replicate k.toNat xs).flatten := fun H1 e Q q =>
  ha H1 e _ fun p H2 np e2 hp => hb H2 (e.trans e2) _ fun H3 e3 => ⟨p, k, xs, rfl, rfl, st_of (e3 _ _ hp), hx, h1, h2, hl, fun l nl => q l _ (fresh_back (e2.trans e3) nl) ((e2.trans e3).trans (Ex.new nl)) upd_same⟩
def sp__law_bad_right (K : PySem.W.Frag) (PT : Addr) : Sp := fun vs H Q _ => ∃ wh : Int, vs = [.int wh] ∧ 0 ≤ wh ∧ H PT = some (.tbl #[]) ∧ ∀ H', Q (.bl true) H'
abbrev qL : Str := (("_law_bad_right" : Str) ++ (".<locals>." : Str)) ++ ("<lambda>" : Str)
theorem no_11' : ¬ ∃ L, Choice [[1], [1]] 2 1 1 L := fun ⟨L, hL⟩ => few_none hL (by decide)
end Lh

namespace Lh
open PySem PySem.Spec PyProof.Rows L2 Evl
def top (i : Nat) : Stmt := PySem.Challenge.pw_lessonhours_k07_whole_known.main.body.getD i (.Pass ⟨0, 0, 0, 0⟩)
abbrev s_is_number : Stmt := (top 6)
theorem sc_is_number : FnScope ["thing"] ["thing"] (defScope s_is_number) := ⟨rfl, rfl, rfl, by decide +kernel, rfl, by decide +kernel, by decide +kernel⟩
abbrev s_asked_table : Stmt := (top 7)
theorem sc_asked_table : FnScope ["table", "row", "hours"] ["table"] (defScope s_asked_table) := ⟨rfl, rfl, rfl, by decide +kernel, rfl, by decide +kernel, by decide +kernel⟩
abbrev s_column_sums : Stmt := (top 8)
theorem sc_column_sums : FnScope ["table", "place", "row"] ["table"] (defScope s_column_sums) := ⟨rfl, rfl, rfl, by decide +kernel, rfl, by decide +kernel, by decide +kernel⟩
abbrev s_fullest_of : Stmt := (top 9)
theorem sc_fullest_of : FnScope ["table", "rows", "columns", "row"] ["table"] (defScope s_fullest_of) := ⟨rfl, rfl, rfl, by decide +kernel, rfl, by decide +kernel, by decide +kernel⟩
abbrev s_fullest : Stmt := (top 10)
theorem sc_fullest : FnScope ["table"] ["table"] (defScope s_fullest) := ⟨rfl, rfl, rfl, by decide +kernel, rfl, by decide +kernel, by decide +kernel⟩
abbrev s_raised_of : Stmt := (top 11)
theorem sc_raised_of : FnScope ["table", "hours", "size", "found", "rows", "columns", "row", "place", "more", "one"] ["table", "hours"] (defScope s_raised_of) := ⟨rfl, rfl, rfl, by decide +kernel, rfl, by decide +kernel, by decide +kernel⟩
abbrev s_raised : Stmt := (top 12)
theorem sc_raised : FnScope ["table", "hours"] ["table", "hours"] (defScope s_raised) := ⟨rfl, rfl, rfl, by decide +kernel, rfl, by decide +kernel, by decide +kernel⟩
abbrev s_are_unlike : Stmt := (top 15)
theorem sc_are_unlike : FnScope ["some", "most", "one"] ["some", "most"] (defScope s_are_unlike) := ⟨rfl, rfl, rfl, by decide +kernel, rfl, by decide +kernel, by decide +kernel⟩
abbrev s_Plan___init__ : Stmt := (inClass (top 16) 0)
theorem sc_Plan___init__ : FnScope ["self", "parts", "pairs", "hours"] ["self", "parts"] (defScope s_Plan___init__) := ⟨rfl, rfl, rfl, by decide +kernel, rfl, by decide +kernel, by decide +kernel⟩
abbrev s_Plan_shows : Stmt := (inClass (top 16) 1)
theorem sc_Plan_shows : FnScope ["self", "table", "left", "total", "pairs", "hours", "who", "place", "row"] ["self", "table"] (defScope s_Plan_shows) := ⟨rfl, rfl, rfl, by decide +kernel, rfl, by decide +kernel, by decide +kernel⟩
abbrev s_Each___init__ : Stmt := (inClass (top 17) 0)
theorem sc_Each___init__ : FnScope ["self", "classes"] ["self", "classes"] (defScope s_Each___init__) := ⟨rfl, rfl, rfl, by decide +kernel, rfl, by decide +kernel, by decide +kernel⟩
abbrev s_Each_shows : Stmt := (inClass (top 17) 1)
theorem sc_Each_shows : FnScope ["self", "table", "row", "place"] ["self", "table"] (defScope s_Each_shows) := ⟨rfl, rfl, rfl, by decide +kernel, rfl, by decide +kernel, by decide +kernel⟩
abbrev s_too_few : Stmt := (top 18)
theorem sc_too_few : FnScope ["table", "teachers", "least", "some", "place", "who"] ["table", "teachers", "least"] (defScope s_too_few) := ⟨rfl, rfl, rfl, by decide +kernel, rfl, by decide +kernel, by decide +kernel⟩
abbrev s_Short___init__ : Stmt := (inClass (top 19) 0)
theorem sc_Short___init__ : FnScope ["self", "teachers"] ["self", "teachers"] (defScope s_Short___init__) := ⟨rfl, rfl, rfl, by decide +kernel, rfl, by decide +kernel, by decide +kernel⟩
abbrev s_Short_shows : Stmt := (inClass (top 19) 1)
theorem sc_Short_shows : FnScope ["self", "table"] ["self", "table"] (defScope s_Short_shows) := ⟨rfl, rfl, rfl, by decide +kernel, rfl, by decide +kernel, by decide +kernel⟩
abbrev s_Lasting___init__ : Stmt := (inClass (top 20) 0)
theorem sc_Lasting___init__ : FnScope ["self", "hours", "classes", "teachers"] ["self", "hours", "classes", "teachers"] (defScope s_Lasting___init__) := ⟨rfl, rfl, rfl, by decide +kernel, rfl, by decide +kernel, by decide +kernel⟩
abbrev s_Lasting_shows : Stmt := (inClass (top 20) 1)
theorem sc_Lasting_shows : FnScope ["self", "table", "row", "place"] ["self", "table"] (defScope s_Lasting_shows) := ⟨rfl, rfl, rfl, by decide +kernel, rfl, by decide +kernel, by decide +kernel⟩
abbrev s_freed : Stmt := (top 22)
theorem sc_freed : FnScope ["table", "least", "who", "taken", "tried", "place", "hours"] ["table", "least", "who", "taken", "tried"] (defScope s_freed) := ⟨rfl, rfl, rfl, by decide +kernel, rfl, by decide +kernel, by decide +kernel⟩
abbrev s_chosen : Stmt := (top 23)
theorem sc_chosen : FnScope ["table", "least", "taken", "who", "tried", "found", "place"] ["table", "least"] (defScope s_chosen) := ⟨rfl, rfl, rfl, by decide +kernel, rfl, by decide +kernel, by decide +kernel⟩
abbrev s_each : Stmt := (top 24)
theorem sc_each : FnScope ["table", "classes", "short"] ["table"] (defScope s_each) := ⟨rfl, rfl, rfl, by decide +kernel, rfl, by decide +kernel, by decide +kernel⟩
abbrev s_lasting : Stmt := (top 25)
theorem sc_lasting : FnScope ["table", "values", "row", "low", "high", "middle", "bars"] ["table"] (defScope s_lasting) := ⟨rfl, rfl, rfl, by decide +kernel, rfl, by decide +kernel, by decide +kernel⟩
abbrev s_plan : Stmt := (top 27)
theorem sc_plan : FnScope ["table", "left", "mine", "full", "parts", "classes", "hours", "pairs", "who", "place", "row"] ["table"] (defScope s_plan) := ⟨rfl, rfl, rfl, by decide +kernel, rfl, by decide +kernel, by decide +kernel⟩
abbrev s__law_refused : Stmt := (top 29)
theorem sc__law_refused : FnScope ["_law_ask", "_law_thing", "_law_due", "error", "_law_kinds", "_law_kind"] ["_law_ask", "_law_thing", "_law_due"] (defScope s__law_refused) := ⟨rfl, rfl, rfl, by decide +kernel, rfl, by decide +kernel, by decide +kernel⟩
abbrev s__law_plain : Stmt := (top 30)
theorem sc__law_plain : FnScope ["_law_thing", "_law_one"] ["_law_thing"] (defScope s__law_plain) := ⟨rfl, rfl, rfl, by decide +kernel, rfl, by decide +kernel, by decide +kernel⟩
abbrev s__law_truths : Stmt := (top 31)
theorem sc__law_truths : FnScope ["_law_things", "_law_one"] ["_law_things"] (defScope s__law_truths) := ⟨rfl, rfl, rfl, by decide +kernel, rfl, by decide +kernel, by decide +kernel⟩
abbrev s__law_says : Stmt := (top 32)
theorem sc__law_says : FnScope ["_law_said", "_law_due"] ["_law_said", "_law_due"] (defScope s__law_says) := ⟨rfl, rfl, rfl, by decide +kernel, rfl, by decide +kernel, by decide +kernel⟩
abbrev s__law_plan_right : Stmt := (top 33)
theorem sc__law_plan_right : FnScope ["_law_table", "_law_hours", "_law_told", "_law_found", "_law_lasts", "_law_pairs", "_law_many", "_law_teacher", "_law_other", "_law_row", "_law_one"] ["_law_table", "_law_hours"] (defScope s__law_plan_right) := ⟨rfl, rfl, rfl, by decide +kernel, rfl, by decide +kernel, by decide +kernel⟩
abbrev s__law_known_right : Stmt := (top 34)
theorem sc__law_known_right : FnScope ["_law_great", "_law_rows", "_law_table", "_law_hours", "_law_who", "_law_told", "_law_one", "_law_short"] ["_law_great"] (defScope s__law_known_right) := ⟨rfl, rfl, rfl, by decide +kernel, rfl, by decide +kernel, by decide +kernel⟩
abbrev s__law_chain_right : Stmt := (top 35)
theorem sc__law_chain_right : FnScope ["_law_many", "_law_table", "_law_teacher", "_law_told", "_law_lasts", "_law_due"] ["_law_many"] (defScope s__law_chain_right) := ⟨rfl, rfl, rfl, by decide +kernel, rfl, by decide +kernel, by decide +kernel⟩
abbrev s__law_rows_right : Stmt := (top 36)
theorem sc__law_rows_right : FnScope ["_law_many", "_law_row", "_law_table", "_law_told", "_law_some", "_law_one"] ["_law_many"] (defScope s__law_rows_right) := ⟨rfl, rfl, rfl, by decide +kernel, rfl, by decide +kernel, by decide +kernel⟩
abbrev s__law_bad_right : Stmt := (top 37)
theorem sc__law_bad_right : FnScope ["_law_whole", "_law_bad", "_law_table", "_law_asks", "_law_full", "_law_row", "_law_teacher", "_law_ask"] ["_law_whole"] (defScope s__law_bad_right) := ⟨rfl, rfl, rfl, by decide +kernel, rfl, by decide +kernel, by decide +kernel⟩
abbrev s_law : Stmt := (top 38)
theorem sc_law : FnScope ["_law_script", "_law_whole"] ["_law_script"] (defScope s_law) := ⟨rfl, rfl, rfl, by decide +kernel, rfl, by decide +kernel, by decide +kernel⟩
end Lh

namespace Lh
open PySem PySem.Spec PyProof.Rows L2 Evl
theorem ok_is_number {P : Program} {w : World} {K : PySem.W.Frag} {mg : Str → Option Value} {base : Heap} (M : Mg mg) (D : Def K mg "is_number" s_is_number ["thing"]) : Cal P w K mg base 1 "is_number" ["thing"] (sp_is_number K) := by
  refine D.cal sc_is_number (fun vs H Q E h => ?_) (fun f cdv A outer s H vs Q E hr h => ?_)
  · obtain ⟨x, T, b1, b2, rfl, _⟩ := h
    rfl
  · obtain ⟨x, T, b1, b2, rfl, ty, h1, h2, k⟩ := h
    refine ⟨_, (pss_one (ps_ret (pe_and (pe_callB call_isi (by rfl) M.isinstance (by decide +kernel) (pa_cons (pv 0) (pa_cons (pe_bltn (v := .ty "int") (u := .type "int") (by rfl) M.int_ (by decide +kernel) rfl) pa_nil))) (pe_one (pe_not (pe_callB call_isi (by rfl) M.isinstance (by decide +kernel) (pa_cons (pv 0) (pa_cons (pe_bltn (v := .ty "bool") (u := .type "bool") (by rfl) M.bool_ (by decide +kernel) rfl) pa_nil)))))))), ?_⟩
    exact s_ret (v := .bl (b1 && !b2)) (ev_andV (ev_isi (ev_var rfl) (fun H1 e => tyx_mono e ty) h1) fun _ => ev_notV (ev_isi (ev_var rfl) (fun H1 e => tyx_mono e ty) h2)) fun H1 e => k _ H1 e rfl
end Lh

namespace Lh
open PySem PySem.Spec PyProof.Rows L2 Evl
theorem ok_asked_table {P : Program} {w : World} {K : PySem.W.Frag} {mg : Str → Option Value} {base : Heap} (M : Mg mg) (D : Def K mg "asked_table" s_asked_table ["table"]) (C_is_number : Cal P w K mg base 1 "is_number" ["thing"] (sp_is_number K)) : Cal P w K mg base 2 "asked_table" ["table"] (sp_asked_table K) := by
  refine D.cal sc_asked_table (fun vs H Q E h => ?_) (fun f cdv A outer s H vs Q E hr h => ?_)
  · obtain ⟨a, rs, T, n, m, rfl, _⟩ := h
    rfl
  · obtain ⟨a, rs, T, n, m, rfl, hT, hG, k⟩ := h
    have hR := hG.toRect
    have b1 := hG.n1
    have b2 := hG.n20
    have b3 := hG.m1
    have b4 := hG.m20
    obtain ⟨u0, hu0, hl0⟩ := hR.lt (show 0 < n by omega)
    obtain ⟨r0, hr0, h0⟩ := hT.at hu0
    have el : ((rs.map V.ref).length : Int) = (n : Int) := by rw [List.length_map, hT.len, hR.len]
    have el0 : ((u0.map V.int).length : Int) = (m : Int) := by rw [List.length_map, hl0]
    refine ⟨_, (pss_cons (ps_if (PW.pt (pw_or (pt_not (pt_val (pe_callB call_isi (by rfl) M.isinstance (by decide +kernel) (pa_cons (pv 0) (pa_cons (pe_bltn (v := .ty "list") (u := .type "list") (by rfl) M.list_ (by decide +kernel) rfl) pa_nil))))) (pw_or (pt_not (pt_chain op_le op_le pe_int (pe_callB call_len_seq (by rfl) M.len (by decide +kernel) (pa_cons (pv 0) pa_nil)) (pe_globI (by rfl) M.MOST))) (pw_or1 (pt_not (pt_val (pe_callB call_isi (by rfl) M.isinstance (by decide +kernel) (pa_cons (pe_ix ix_list (pv 0) pe_int (fun _ _ => rfl)) (pa_cons (pe_bltn (v := .ty "list") (u := .type "list") (by rfl) M.list_ (by decide +kernel) rfl) pa_nil)))))))))
  (pss_one ps_never)
  pss_nil)
  (pss_cons (ps_if (pt_not (pt_chain op_le op_le pe_int (pe_callB call_len_seq (by rfl) M.len (by decide +kernel) (pa_cons (pe_ix ix_list (pv 0) pe_int (fun _ _ => rfl)) pa_nil)) (pe_globI (by rfl) M.MOST)))
  (pss_one ps_never)
  pss_nil)
  (pss_one (ps_for PassesOwn.never rfl (pi_list (pv 0)) (pg_name (i := 1) sc_asked_table.nd rfl (Or.inl rfl))
  (pss_cons (ps_if (PW.pt (pw_or (pt_not (pt_val (pe_callB call_isi (by rfl) M.isinstance (by decide +kernel) (pa_cons (pv 1) (pa_cons (pe_bltn (v := .ty "list") (u := .type "list") (by rfl) M.list_ (by decide +kernel) rfl) pa_nil))))) (pw_or1 (pt_cmpR op_ne (pe_callB call_len_seq (by rfl) M.len (by decide +kernel) (pa_cons (pv 1) pa_nil)) (pe_callB call_len_seq (by rfl) M.len (by decide +kernel) (pa_cons (pe_ix ix_list (pv 0) pe_int (fun _ _ => rfl)) pa_nil)) (nomark _)))))
  (pss_one ps_never)
  pss_nil)
  (pss_one (ps_if (pt_not (pt_val (pe_callB (cr_all rfl) (by rfl) M.all (by decide +kernel) (pa_cons (pe_lc (own := [("hours", 2)]) (wi := (iList K (tVar 1))) (g := gName 2) (tt := tYes) (te := (tAndV (tCall _ [] E0 (tCons (tVar 2) tNil)) (tOp _ (tVar 2) _))) (by rfl) sc_asked_table.nd  (pi_list (pv 1)) (blkOk_by (by kernel_rfl)) (fun _ _ _ _ _ => (pg_name (i := 2) sc_asked_table.nd rfl (Or.inl rfl))) (fun _ _ _ _ _ => pts_nil) (fun _ _ _ _ _ => (pe_and (pe_cal C_is_number hr (by rfl) (pa_cons (pv 2) pa_nil)) (pe_one (pe_cmpR op_ge (pv 2) pe_int (nomark _)))))) pa_nil))))
  (pss_one ps_never)
  pss_nil))))))), ?_⟩
    refine q_when (b := false) ?_ (fun h => nomatch h) fun _ H1 e1 => ?_
    · refine et_is (et_or (et_not (et_B (isi_list (ev_var rfl) hT.top))) fun _ => et_or (et_not (et_test (ev_chain (k := true) (k' := true) ev_c (ev_lenL (ev_var rfl) hT.sq) (rv_leD (decide_eq_true (by omega))) (fun _ => ev_c) (fun _ => rv_leD (decide_eq_true (by omega)))))) fun _ => et_not (et_B (isi_list (ev_ixL (ev_var rfl) ev_c hT.sq (atI_of (j := 0) rfl (ref_at hr0))) h0))) rfl
    refine q_when (b := false) ?_ (fun h => nomatch h) fun _ H2 e2 => ?_
    · refine et_is (et_not (et_test (ev_chain (k := true) (k' := true) ev_c (ev_lenL (ev_ixL (ev_var rfl) ev_c (hT.mono e1).sq (atI_of (j := 0) rfl (ref_at hr0))) (sq_of (e1 _ _ h0))) (rv_leD (decide_eq_true (by omega))) (fun _ => ev_c) (fun _ => rv_leD (decide_eq_true (by omega)))))) rfl
    refine s_forLn (ev_var rfl) (hT.mono (e1.trans e2)).sq (fun i σ' H' => (∃ y1 y2, σ' = [some (.ref a), y1, y2]) ∧ Ex H H') (fun H3 e3 => ⟨⟨none, none, rfl⟩, (e1.trans e2).trans e3⟩) (fun i σ' H' _ p => (hT.mono p.2).sq) (fun i x σ' H' hx p => ?_) (fun σ' H' p => k _ H' p.2 rfl)
    obtain ⟨⟨y1, y2, rfl⟩, ex⟩ := p
    have hT' := hT.mono ex
    have hi : i < n := by
      have := (List.getElem?_eq_some_iff.mp hx).1
      rw [List.length_map, hT.len, hR.len] at this
      exact this
    obtain ⟨u, hu, hl⟩ := hR.lt hi
    obtain ⟨r, hr1, h1⟩ := hT'.at hu
    have exr : x = .ref r := Option.some.inj (hx.symm.trans (ref_at hr1))
    subst exr
    have elu : ((u.map V.int).length : Int) = (m : Int) := by rw [List.length_map, hl]
    refine q_when (b := false) ?_ (fun h => nomatch h) fun _ H4 e4 => ?_
    · refine et_is (et_or (et_not (et_B (isi_list (ev_var rfl) h1))) fun _ => et_ne (k := false) (ev_lenL (ev_var rfl) (sq_of h1)) (ev_lenL (ev_ixL (ev_var rfl) ev_c hT'.sq (atI_of (j := 0) rfl (ref_at hr0))) (sq_of (ex _ _ h0))) (by rw [elu, el0]; simp)) rfl
    refine s_when (b := false) ?_ (fun h => nomatch h) fun _ H5 e5 => ⟨⟨_, _, rfl⟩, (ex.trans e4).trans e5⟩
    have hal : EvL (tLc (iList K (tVar 1)) (gName 2) tYes (tAndV (tCall (sp_is_number K) [] E0 (tCons (tVar 2) tNil)) (tOp (rI0 fun i j => .bl (decide (j ≤ i))) (tVar 2) (tC (.int 0)))) [2]) [some (.ref a), some (.ref r), y2] H4 ((List.replicate u.length true).map V.bl) := by
      have hg : (List.replicate u.length true).map V.bl = given (u.map V.int).length (fun _ => true) (fun _ => .bl true) := by
        refine (given_all (by simp) fun i x hx => ?_).symm
        rw [List.getElem?_map, List.getElem?_replicate] at hx
        split at hx
        · exact Option.some.inj hx
        · cases hx
      rw [hg]
      refine el_lcL _ _ (ev_var rfl) (sq_of (e4 _ _ h1)) (by rw [List.length_map]; omega) (fun x => rfl) (fun z x H2 e2 hz => et_yes) (fun z x H2 e2 hz _ => ?_)
      rw [List.getElem?_map] at hz
      cases hq : u[z]? with
      | none => rw [hq] at hz; cases hz
      | some y =>
        rw [hq] at hz
        have ey : V.int y = x := Option.some.inj hz
        subst ey
        have h0y := hG.pos u (List.mem_of_getElem? hu) y (List.mem_of_getElem? hq)
        refine ev_is (ev_andV (a := true) (b := true) (ev_callV (ea_cons (ev_var rfl) ea_nil) fun H1 e Q k => ⟨.int y, "int", true, false, rfl, tx_int, by decide +kernel, by decide +kernel, k⟩) fun _ => ev_is (ev_ge (ev_var rfl) ev_c) ?_) rfl
        rw [decide_eq_true h0y]
    refine et_is (et_not (et_B (ev_allL hal))) ?_
    rw [List.all_replicate]
    split <;> rfl
end Lh

namespace Lh
open PySem PySem.Spec PyProof.Rows L2 Evl
theorem ok_column_sums {P : Program} {w : World} {K : PySem.W.Frag} {mg : Str → Option Value} {base : Heap} (M : Mg mg) (D : Def K mg "column_sums" s_column_sums ["table"]) : Cal P w K mg base 1 "column_sums" ["table"] (sp_column_sums K) := by
  refine D.cal sc_column_sums (fun vs H Q E h => ?_) (fun f cdv A outer s H vs Q E hr h => ?_)
  · obtain ⟨a, rs, T, n, m, rfl, _⟩ := h
    rfl
  · obtain ⟨a, rs, T, n, m, rfl, hT, hR, hn, hn2, hm2, k⟩ := h
    obtain ⟨u0, hu0, hl0⟩ := hR.lt (show 0 < n by omega)
    obtain ⟨r0, hr0, h0⟩ := hT.at hu0
    refine ⟨_, (pss_one (ps_ret (pe_lc (own := [("place", 1)]) (wi := (iRng1 (tCons (tCB (rLenS K) (tCons (tOp (rIxL K) (tVar 0) _) tNil)) tNil))) (g := gName 1) (tt := tYes) (te := (tCB (rSum K) (tCons (tLc (iList K (tVar 0)) (gName 2) tYes (tOp (rIxL K) (tVar 2) (tVar 1)) [2]) tNil))) (by rfl) sc_column_sums.nd  (pi_range1 (by rfl) M.range (pa_cons (pe_callB call_len_seq (by rfl) M.len (by decide +kernel) (pa_cons (pe_ix ix_list (pv 0) pe_int (fun _ _ => rfl)) pa_nil)) pa_nil)) (blkOk_by (by kernel_rfl)) (fun _ _ _ _ _ => (pg_name (i := 1) sc_column_sums.nd rfl (Or.inr rfl))) (fun _ _ _ _ _ => pts_nil) (fun _ _ _ _ _ => (pe_callB (cr_sum rfl) (by rfl) M.sum (by decide +kernel) (pa_cons (pe_lc (own := [("row", 2)]) (wi := (iList K (tVar 0))) (g := gName 2) (tt := tYes) (te := (tOp (rIxL K) (tVar 2) (tVar 1))) (by rfl) sc_column_sums.nd  (pi_list (pv 0)) (blkOk_by (by kernel_rfl)) (fun _ _ _ _ _ => (pg_name (i := 2) sc_column_sums.nd rfl (Or.inl rfl))) (fun _ _ _ _ _ => pts_nil) (fun _ _ _ _ _ => (pe_ix ix_list (pv 2) (pv 1) (fun _ _ => rfl)))) pa_nil)))))), ?_⟩
    have e0 : ((u0.map V.int).length : Int) = (m : Int) := by rw [List.length_map, hl0]
    refine s_retL (xs := (colSums T m).map V.int) ?_ fun p H1 hp e1 h1 => k _ H1 e1 ⟨p, rfl, hp, h1⟩
    have hg : (colSums T m).map V.int = given (m : Int).toNat (fun _ => true) (fun j => .int (colAt T j)) := by
      refine (given_all (by rw [List.length_map, colSums_len]; omega) fun i x hx => ?_).symm
      have hi : i < m := by
        have := (List.getElem?_eq_some_iff.mp hx).1
        rw [List.length_map, colSums_len] at this
        exact this
      rw [List.getElem?_map, colSums_at hi] at hx
      exact Option.some.inj hx
    rw [hg]
    refine el_lcR1 (n := (m : Int)) _ _ (ea_cons (ev_is (ev_lenL (ev_ixL (ev_var rfl) ev_c hT.sq (atI_of (j := 0) rfl (ref_at hr0))) (sq_of h0)) (by rw [e0])) ea_nil) (by omega) (fun x => rfl) (fun i H1 e1 hi => et_yes) (fun i H1 e1 hi _ => ?_)
    have hi : i < m := by omega
    refine ev_sumL (ns := T.map fun r => r.getD i 0) ?_
    have hg2 : (T.map fun r => r.getD i 0).map V.int = given (rs.map V.ref).length (fun _ => true) (fun z => .int ((T.getD z []).getD i 0)) := by
      refine (given_all (by rw [List.length_map, List.length_map, List.length_map, hT.len]) fun z x hx => ?_).symm
      rw [List.getElem?_map, List.getElem?_map] at hx
      cases hz : T[z]? with
      | none => rw [hz] at hx; cases hx
      | some u =>
        rw [hz] at hx
        have e : T.getD z [] = u := by simp [List.getD, hz]
        rw [e]
        exact Option.some.inj hx
    rw [hg2]
    have hT' := hT.mono e1
    refine el_lcL _ _ (ev_var rfl) hT'.sq (by rw [List.length_map, hT.len, hR.len]; omega) (fun x => rfl) (fun z x H2 e2 hz => et_yes) (fun z x H2 e2 hz _ => ?_)
    have hz2 : z < n := by
      have := (List.getElem?_eq_some_iff.mp hz).1
      rw [List.length_map, hT.len, hR.len] at this
      exact this
    obtain ⟨u, y, hu, hul, hy⟩ := hR.cell hz2 hi
    obtain ⟨r, hr, h5⟩ := (hT'.mono e2).at hu
    have e6 : (T.getD z []).getD i 0 = y := by
      have : T.getD z [] = u := by simp [List.getD, hu]
      rw [this]
      exact getD_of hy
    have ex : x = .ref r := Option.some.inj (hz.symm.trans (ref_at hr))
    rw [e6, ex]
    exact ev_ixL (ev_var rfl) (ev_var rfl) (sq_of h5) (atI_nat (int_at hy))
end Lh

namespace Lh
open PySem PySem.Spec PyProof.Rows L2 Evl
theorem rowSums_given {rs : List Addr} {T : List (List Int)} (hl : rs.length = T.length) : (rowSums T).map V.int = given (rs.map V.ref).length (fun _ => true) (fun z => .int (T.getD z []).sum) := by
  refine (given_all (by rw [List.length_map, rowSums_len, List.length_map, hl]) fun z x hx => ?_).symm
  rw [List.getElem?_map] at hx
  cases hz : T[z]? with
  | none =>
    rw [List.getElem?_eq_none (by rw [rowSums_len]; exact List.getElem?_eq_none_iff.mp hz)] at hx
    cases hx
  | some u =>
    rw [rowSums_at hz] at hx
    have e : T.getD z [] = u := by simp [List.getD, hz]
    rw [e]
    exact Option.some.inj hx
theorem ok_fullest_of {P : Program} {w : World} {K : PySem.W.Frag} {mg : Str → Option Value} {base : Heap} (M : Mg mg) (D : Def K mg "fullest_of" s_fullest_of ["table"]) (C_column_sums : Cal P w K mg base 1 "column_sums" ["table"] (sp_column_sums K)) : Cal P w K mg base 2 "fullest_of" ["table"] (sp_fullest_of K) := by
  refine D.cal sc_fullest_of (fun vs H Q E h => ?_) (fun f cdv A outer s H vs Q E hr h => ?_)
  · obtain ⟨a, rs, T, n, m, rfl, _⟩ := h
    rfl
  · obtain ⟨a, rs, T, n, m, rfl, hT, hR, hn, hn2, hm, hm2, k⟩ := h
    refine ⟨_, (pss_cons (ps_setLc (i := 1) (own := [("row", 3)]) (wi := (iList K (tVar 0))) (g := gName 3) (tt := tYes) (te := (tCB (rSum K) (tCons (tVar 3) tNil))) (by rfl) sc_fullest_of.nd rfl rfl (sw_true rfl rfl rfl (by decide +kernel)) (pi_list (pv 0)) (blkOk_by (by kernel_rfl)) (fun _ _ _ _ _ => (pg_name (i := 3) sc_fullest_of.nd rfl (Or.inl rfl))) (fun _ _ _ _ _ => pts_nil) (fun _ _ _ _ _ => (pe_callB (cr_sum rfl) (by rfl) M.sum (by decide +kernel) (pa_cons (pv 3) pa_nil))))
  (pss_cons (ps_set (i := 2) sc_fullest_of.nd rfl (Or.inl rfl) (pe_cal C_column_sums hr (by rfl) (pa_cons (pv 0) pa_nil)))
  (pss_cons (ps_if (pt_cmpR op_ge (pe_callB (cr_max rfl) (by rfl) M.max (by decide +kernel) (pa_cons (pv 1) pa_nil)) (pe_callB (cr_max rfl) (by rfl) M.max (by decide +kernel) (pa_cons (pv 2) pa_nil)) (nomark _))
  (pss_one (ps_ret (pe_tup (pa_cons (pe_callB (cr_max rfl) (by rfl) M.max (by decide +kernel) (pa_cons (pv 1) pa_nil)) (pa_cons (pe_tup (pa_cons pe_str (pa_cons (pe_bm PySem.F.plainAttrs_list PySem.F.slot_list_index PySem.F.type_list_index mt_index (pv 1) (pa_cons (pe_callB (cr_max rfl) (by rfl) M.max (by decide +kernel) (pa_cons (pv 1) pa_nil)) pa_nil)) pa_nil))) pa_nil)))))
  pss_nil)
  (pss_one (ps_ret (pe_tup (pa_cons (pe_callB (cr_max rfl) (by rfl) M.max (by decide +kernel) (pa_cons (pv 2) pa_nil)) (pa_cons (pe_tup (pa_cons pe_str (pa_cons (pe_bm PySem.F.plainAttrs_list PySem.F.slot_list_index PySem.F.type_list_index mt_index (pv 2) (pa_cons (pe_callB (cr_max rfl) (by rfl) M.max (by decide +kernel) (pa_cons (pv 2) pa_nil)) pa_nil)) pa_nil))) pa_nil)))))))), ?_⟩
    have rne : rowSums T ≠ [] := fun z => by
      have := rowSums_len T
      rw [z, hR.len] at this
      simp at this
      omega
    have cne : colSums T m ≠ [] := fun z => by
      have := colSums_len T m
      rw [z] at this
      simp at this
      omega
    refine q_asgL (xs := (rowSums T).map V.int) ?_ fun p1 H1 n1 e1 h1 => ?_
    · rw [rowSums_given hT.len]
      refine el_lcL _ _ (ev_var rfl) hT.sq (by rw [List.length_map, hT.len, hR.len]; omega) (fun x => rfl) (fun z x H2 e2 hz => et_yes) (fun z x H2 e2 hz _ => ?_)
      have hz2 : z < n := by
        have := (List.getElem?_eq_some_iff.mp hz).1
        rw [List.length_map, hT.len, hR.len] at this
        exact this
      obtain ⟨u, hu, hul⟩ := hR.lt hz2
      obtain ⟨r, hr, h5⟩ := (hT.mono e2).at hu
      have ex : x = .ref r := Option.some.inj (hz.symm.trans (ref_at hr))
      have e6 : T.getD z [] = u := by simp [List.getD, hu]
      rw [e6, ex]
      exact ev_sum (ev_var rfl) (sq_of h5)
    refine qp_asg (P := NewL ((colSums T m).map V.int)) (evp_call (ea_cons (ev_var rfl) ea_nil) down_l fun H2 e2 Q2 q2 => ⟨a, rs, T, n, m, rfl, hT.mono (e1.trans e2), hR, hn, hn2, hm2, q2⟩) fun v H2 e2 ⟨p2, hv, n2, h2⟩ => ?_
    subst hv
    have h1' := e2 _ _ h1
    refine q_when (b := fullB T m) (et_ge (ev_max (ev_var rfl) (sq_of h1') rne) (ev_max (ev_var rfl) (sq_of h2) cne) rfl) (fun hb H3 e3 => ?_) (fun hb H3 e3 => ?_)
    · have hmx : fullM T m = maxI (rowSums T) := by
        have := of_decide_eq_true hb
        unfold fullM
        omega
      have hw : fullW T m = "teacher" := by unfold fullW; rw [if_pos hb]
      have hi : fullI T m = ((rowSums T).idxOf (maxI (rowSums T)) : Nat) := by unfold fullI; rw [if_pos hb]
      refine r_tup (cV (ev_max (ev_var rfl) (sq_of (e3 _ _ h1')) rne) fun H4 e4 => cU (eu_tup (ea_cons ev_c (ea_cons (ev_index (ev_var rfl) (ev_max (ev_var rfl) (sq_of (e4 _ _ (e3 _ _ h1'))) rne) (sq_of (e4 _ _ (e3 _ _ h1'))) (maxI_mem rne)) ea_nil)) (by show 2 ≤ 100000; decide)) fun q H5 hq e5 h5 => cN ?_)
      refine ⟨sz_of (by show 2 ≤ 100000; decide), fun p hp => ?_⟩
      refine k _ _ (((((e1.trans e2).trans e3).trans e4).trans e5).trans (Ex.new hp)) ⟨p, q, rfl, ?_, ?_⟩
      · rw [upd_same, hmx]
      · rw [Ex.new hp _ _ h5, hw, hi]
    · have hmx : fullM T m = maxI (colSums T m) := by
        have := of_decide_eq_false hb
        unfold fullM
        omega
      have hb' : ¬ fullB T m = true := by rw [hb]; exact Bool.false_ne_true
      have hw : fullW T m = "class" := by unfold fullW; rw [if_neg hb']
      have hi : fullI T m = ((colSums T m).idxOf (maxI (colSums T m)) : Nat) := by unfold fullI; rw [if_neg hb']
      refine r_tup (cV (ev_max (ev_var rfl) (sq_of (e3 _ _ h2)) cne) fun H4 e4 => cU (eu_tup (ea_cons ev_c (ea_cons (ev_index (ev_var rfl) (ev_max (ev_var rfl) (sq_of (e4 _ _ (e3 _ _ h2))) cne) (sq_of (e4 _ _ (e3 _ _ h2))) (maxI_mem cne)) ea_nil)) (by show 2 ≤ 100000; decide)) fun q H5 hq e5 h5 => cN ?_)
      refine ⟨sz_of (by show 2 ≤ 100000; decide), fun p hp => ?_⟩
      refine k _ _ (((((e1.trans e2).trans e3).trans e4).trans e5).trans (Ex.new hp)) ⟨p, q, rfl, ?_, ?_⟩
      · rw [upd_same, hmx]
      · rw [Ex.new hp _ _ h5, hw, hi]
end Lh

namespace Lh
open PySem PySem.Spec PyProof.Rows L2 Evl
theorem ok_fullest {P : Program} {w : World} {K : PySem.W.Frag} {mg : Str → Option Value} {base : Heap} (M : Mg mg) (D : Def K mg "fullest" s_fullest ["table"]) (C_asked_table : Cal P w K mg base 2 "asked_table" ["table"] (sp_asked_table K)) (C_fullest_of : Cal P w K mg base 2 "fullest_of" ["table"] (sp_fullest_of K)) : Cal P w K mg base 3 "fullest" ["table"] (sp_fullest K) := by
  refine D.cal sc_fullest (fun vs H Q E h => ?_) (fun f cdv A outer s H vs Q E hr h => ?_)
  · obtain ⟨a, rs, T, n, m, rfl, _⟩ := h
    rfl
  · obtain ⟨a, rs, T, n, m, rfl, hT, hG, k⟩ := h
    have b1 := hG.n1
    have b2 := hG.n20
    have b3 := hG.m1
    have b4 := hG.m20
    refine ⟨_, (pss_cons (ps_expr (pe_cal C_asked_table hr (by rfl) (pa_cons (pv 0) pa_nil)))
  (pss_one (ps_ret (pe_cal C_fullest_of hr (by rfl) (pa_cons (pv 0) pa_nil))))), ?_⟩
    refine q_drop (ev_callV (ea_cons (ev_var rfl) ea_nil) fun H1 e1 Q1 q1 => ⟨a, rs, T, n, m, rfl, hT.mono e1, hG, q1⟩) fun H1 e1 => ?_
    exact sp_ret (P := NewFull T m) (evp_call (ea_cons (ev_var rfl) ea_nil) down_c fun H2 e2 Q2 q2 => ⟨a, rs, T, n, m, rfl, hT.mono (e1.trans e2), hG.toRect, by omega, by omega, by omega, by omega, q2⟩) fun v H2 e2 hv => k v H2 (e1.trans e2) hv
end Lh

namespace Lh
open PySem PySem.Spec PyProof.Rows L2 Evl
theorem set_int_map (u : List Int) (j : Nat) (x : Int) : (u.map V.int).set j (.int x) = (u.set j x).map V.int := by rw [List.map_set]
/-- the table under way and the two lists of what is wanted, each a thing of its own -/
structure Filling (H0 H : Hp) (p : Addr) (rs : List Addr) (pr pc : Addr) (F : List (List Int)) (R C : List Int) : Prop where
  ex : Ex H0 H
  tab : Tab H p rs F
  rr : H pr = some (.lst (R.map V.int))
  cc : H pc = some (.lst (C.map V.int))
structure Apart (H0 : Hp) (p : Addr) (rs : List Addr) (pr pc : Addr) : Prop where
  p0 : H0 p = none
  nd : rs.Nodup
  r0 : ∀ r ∈ rs, H0 r = none
  pr0 : H0 pr = none
  pc0 : H0 pc = none
  rc : pr ≠ pc
  pr1 : pr ≠ p
  pc1 : pc ≠ p
  pr2 : pr ∉ rs
  pc2 : pc ∉ rs
section
variable {H0 H H' : Hp} {p : Addr} {rs : List Addr} {pr pc : Addr} {F : List (List Int)} {R C : List Int}
theorem Filling.mono (h : Filling H0 H p rs pr pc F R C) (e : Ex H H') : Filling H0 H' p rs pr pc F R C := ⟨h.ex.trans e, h.tab.mono e, e _ _ h.rr, e _ _ h.cc⟩
theorem Filling.cell (h : Filling H0 H p rs pr pc F R C) (A : Apart H0 p rs pr pc) {i : Nat} {r : Addr} {u w : List Int} (hr : rs[i]? = some r) (hu : F[i]? = some u) : Filling H0 (upd H r (.lst (w.map V.int))) p rs pr pc (F.set i w) R C := by
  have hm := List.mem_of_getElem? hr
  refine ⟨Ex.mut h.ex (A.r0 r hm), h.tab.set A.nd hr hu, ?_, ?_⟩
  · rw [upd_ne (fun z : pr = r => A.pr2 (z ▸ hm))]; exact h.rr
  · rw [upd_ne (fun z : pc = r => A.pc2 (z ▸ hm))]; exact h.cc
theorem Filling.rows (h : Filling H0 H p rs pr pc F R C) (A : Apart H0 p rs pr pc) (R' : List Int) : Filling H0 (upd H pr (.lst (R'.map V.int))) p rs pr pc F R' C :=
  ⟨Ex.mut h.ex A.pr0, h.tab.keep A.pr1 A.pr2, upd_same, by rw [upd_ne A.rc.symm]; exact h.cc⟩
theorem Filling.cols (h : Filling H0 H p rs pr pc F R C) (A : Apart H0 p rs pr pc) (C' : List Int) : Filling H0 (upd H pc (.lst (C'.map V.int))) p rs pr pc F R C' :=
  ⟨Ex.mut h.ex A.pc0, h.tab.keep A.pc1 A.pc2, by rw [upd_ne A.rc]; exact h.rr, upd_same⟩
end
theorem ok_raised_of {P : Program} {w : World} {K : PySem.W.Frag} {mg : Str → Option Value} {base : Heap} (M : Mg mg) (D : Def K mg "raised_of" s_raised_of ["table", "hours"]) (C_column_sums : Cal P w K mg base 1 "column_sums" ["table"] (sp_column_sums K)) : Cal P w K mg base 2 "raised_of" ["table", "hours"] (sp_raised_of K) := by
  refine D.cal sc_raised_of (fun vs H Q E h => ?_) (fun f cdv A outer s H vs Q E hr h => ?_)
  · obtain ⟨a, rs, T, n, m, h, rfl, _⟩ := h
    rfl
  · obtain ⟨a, rs, T, n, m, h, rfl, hT, hR, hn, hn2, hm, hm2, hrow, hcol, hh0, k⟩ := h
    obtain ⟨u0, hu0, hl0⟩ := hR.lt (show 0 < n by omega)
    obtain ⟨r0, hr0, h0⟩ := hT.at hu0
    have e0 : ((u0.map V.int).length : Int) = (m : Int) := by rw [List.length_map, hl0]
    have en : ((rs.map V.ref).length : Int) = (n : Int) := by rw [List.length_map, hT.len, hR.len]
    have enn : (rs.map V.ref).length = n := by rw [List.length_map, hT.len, hR.len]
    refine ⟨_, (pss_cons (ps_set (i := 2) sc_raised_of.nd rfl (Or.inr rfl) (pe_callB (call_max2 rfl) (by rfl) M.max (by decide +kernel) (pa_cons (pe_callB call_len_seq (by rfl) M.len (by decide +kernel) (pa_cons (pv 0) pa_nil)) (pa_cons (pe_callB call_len_seq (by rfl) M.len (by decide +kernel) (pa_cons (pe_ix ix_list (pv 0) pe_int (fun _ _ => rfl)) pa_nil)) pa_nil))))
  (pss_cons (ps_setLc (i := 3) (own := [("row", 6)]) (wi := (iList K (tVar 0))) (g := gName 6) (tt := tYes) (te := (tOp _ (tVar 6) (tOp _ (tLst (tCons _ tNil)) (tOp _ (tVar 2) (tCB (rLenS K) (tCons (tVar 6) tNil)))))) (by rfl) sc_raised_of.nd rfl rfl (sw_true rfl rfl rfl (by decide +kernel)) (pi_list (pv 0)) (blkOk_by (by kernel_rfl)) (fun _ _ _ _ _ => (pg_name (i := 6) sc_raised_of.nd rfl (Or.inl rfl))) (fun _ _ _ _ _ => pts_nil) (fun _ _ _ _ _ => (pe_op op_cat (pv 6) (pe_op op_rep (pe_lst (pa_cons pe_int pa_nil)) (pe_op op_sub (pv 2) (pe_callB call_len_seq (by rfl) M.len (by decide +kernel) (pa_cons (pv 6) pa_nil)))))))
  (pss_cons (ps_expr (pe_bm PySem.F.plainAttrs_list PySem.F.slot_list_extend PySem.F.type_list_extend mt_extend (pv 3) (pa_cons (pe_lc (own := [("row", 6)]) (wi := (iRng1 (tCons (tOp _ (tVar 2) (tCB (rLenS K) (tCons (tVar 0) tNil))) tNil))) (g := gName 6) (tt := tYes) (te := (tOp _ (tLst (tCons _ tNil)) (tVar 2))) (by rfl) sc_raised_of.nd  (pi_range1 (by rfl) M.range (pa_cons (pe_op op_sub (pv 2) (pe_callB call_len_seq (by rfl) M.len (by decide +kernel) (pa_cons (pv 0) pa_nil))) pa_nil)) (blkOk_by (by kernel_rfl)) (fun _ _ _ _ _ => (pg_name (i := 6) sc_raised_of.nd rfl (Or.inl rfl))) (fun _ _ _ _ _ => pts_nil) (fun _ _ _ _ _ => (pe_op op_rep (pe_lst (pa_cons pe_int pa_nil)) (pv 2)))) pa_nil)))
  (pss_cons (ps_setLc (i := 4) (own := [("row", 6)]) (wi := (iList K (tVar 3))) (g := gName 6) (tt := tYes) (te := (tOp _ (tVar 1) (tCB (rSum K) (tCons (tVar 6) tNil)))) (by rfl) sc_raised_of.nd rfl rfl (sw_true rfl rfl rfl (by decide +kernel)) (pi_list (pv 3)) (blkOk_by (by kernel_rfl)) (fun _ _ _ _ _ => (pg_name (i := 6) sc_raised_of.nd rfl (Or.inl rfl))) (fun _ _ _ _ _ => pts_nil) (fun _ _ _ _ _ => (pe_op op_sub (pv 1) (pe_callB (cr_sum rfl) (by rfl) M.sum (by decide +kernel) (pa_cons (pv 6) pa_nil)))))
  (pss_cons (ps_setLc (i := 5) (own := [("one", 9)]) (wi := (iList K (tCall _ [] E0 (tCons (tVar 3) tNil)))) (g := gName 9) (tt := tYes) (te := (tOp _ (tVar 1) (tVar 9))) (by rfl) sc_raised_of.nd rfl rfl (sw_true rfl rfl rfl (by decide +kernel)) (pi_list (pe_cal C_column_sums hr (by rfl) (pa_cons (pv 3) pa_nil))) (blkOk_by (by kernel_rfl)) (fun _ _ _ _ _ => (pg_name (i := 9) sc_raised_of.nd rfl (Or.inl rfl))) (fun _ _ _ _ _ => pts_nil) (fun _ _ _ _ _ => (pe_op op_sub (pv 1) (pv 9))))
  (pss_cons (ps_for PassesOwn.never rfl (pi_range1 (by rfl) M.range (pa_cons (pv 2) pa_nil)) (pg_name (i := 6) sc_raised_of.nd rfl (Or.inl rfl))
  (pss_one (ps_for PassesOwn.never rfl (pi_range1 (by rfl) M.range (pa_cons (pv 2) pa_nil)) (pg_name (i := 7) sc_raised_of.nd rfl (Or.inl rfl))
  (pss_cons (ps_set (i := 8) sc_raised_of.nd rfl (Or.inl rfl) (pe_callB (call_min2 rfl) (by rfl) M.min (by decide +kernel) (pa_cons (pe_ix ix_list (pv 4) (pv 6) (fun _ _ => rfl)) (pa_cons (pe_ix ix_list (pv 5) (pv 7) (fun _ _ => rfl)) pa_nil))))
  (pss_cons (ps_asg (pe_op op_add (pe_ix ix_list (pe_ix ix_list (pv 3) (pv 6) (fun _ _ => rfl)) (pv 7) (fun _ _ => rfl)) (pv 8)) (pg_sub (pe_ix ix_list (pv 3) (pv 6) (fun _ _ => rfl)) (pv 7) set_list))
  (pss_cons (ps_asg (pe_op op_sub (pe_ix ix_list (pv 4) (pv 6) (fun _ _ => rfl)) (pv 8)) (pg_sub (pv 4) (pv 6) set_list))
  (pss_one (ps_asg (pe_op op_sub (pe_ix ix_list (pv 5) (pv 7) (fun _ _ => rfl)) (pv 8)) (pg_sub (pv 5) (pv 7) set_list)))))))))
  (pss_one (ps_ret (pv 3))))))))), ?_⟩
    -- size
    refine q_asg (v := .int ((max n m : Nat) : Int)) (ev_is (ev_mx2 (ev_lenL (ev_var rfl) hT.sq) (ev_lenL (ev_ixL (ev_var rfl) ev_c hT.sq (atI_of (j := 0) rfl (ref_at hr0))) (sq_of h0))) (by rw [en, e0]; congr 1; omega)) fun H1 e1 => ?_
    have hT1 := hT.mono e1
    -- found
    refine qp_asg (P := NewRows (rs.map V.ref).length (fun i => ((T.getD i []).map V.int ++ List.replicate (((max n m : Nat) : Int) - (m : Int)).toNat (.int 0)))) ?_ fun v H2 e2 ⟨p, ps, hv, np, lp, ndp, frp, hp, hps⟩ => ?_
    · refine evp_rowsL _ (ev_var rfl) hT1.sq (by rw [enn]; omega) (fun x => rfl) (fun i x H2 e2 hx => ?_)
      have hi : i < n := by
        have := (List.getElem?_eq_some_iff.mp hx).1
        rw [enn] at this
        exact this
      obtain ⟨u, hu, hl⟩ := hR.lt hi
      obtain ⟨r, hr1, hr2⟩ := (hT1.mono e2).at hu
      have exr : x = .ref r := Option.some.inj (hx.symm.trans (ref_at hr1))
      subst exr
      have eu : T.getD i [] = u := by simp [List.getD, hu]
      have el : ((u.map V.int).length : Int) = (m : Int) := by rw [List.length_map, hl]
      rw [eu]
      refine el_catN (ev_var rfl) (el_rep1 (el_lst (ea_cons ev_c ea_nil) (by show 1 ≤ 100000; decide)) (ev_is (ev_sub (ev_var rfl) (ev_lenL (ev_var rfl) (sq_of hr2))) (by rw [el])) (by omega)) hr2 (by rw [List.length_map, List.length_replicate, hl]; omega)
    subst hv
    rw [enn] at lp
    have hT2 := hT1.mono e2
    -- found.extend(..)
    have e3 : Ex H2 H2 := Ex.refl H2
    refine qP_ext (P := NewRows (((max n m : Nat) : Int) - (n : Int)).toNat (fun _ => List.replicate (((max n m : Nat) : Int)).toNat (.int 0))) hp (ev_var rfl) (evp_rowsR _ (ea_cons (ev_is (ev_sub (ev_var rfl) (ev_lenL (ev_var rfl) hT2.sq)) (by rw [en])) ea_nil) (by omega) (fun x => rfl) fun i H4 e4 hi => el_rep1 (el_lst (ea_cons ev_c ea_nil) (by show 1 ≤ 100000; decide)) (ev_var rfl) (by omega)) down_rows fun v H4 e4 ⟨q, qs, hv, nq, lq, ndq, frq, hq, hqs⟩ => ?_
    subst hv
    have hp4 := e4 _ _ (e3 _ _ hp)
    have hqp : q ≠ p := fun z => by rw [z, e3 _ _ hp] at nq; cases nq
    refine ⟨q, qs.map V.ref, rfl, hq, by rw [List.length_map, List.length_map, lp, lq]; omega, ?_⟩
    have e14 : Ex H1 H4 := (e2.trans e3).trans e4
    have p0 : H p = none := fresh_back e1 np
    -- the rows of found
    have ndr : (ps ++ qs).Nodup := List.nodup_append.mpr ⟨ndp, ndq, fun x hx y hy hxy => by
      obtain ⟨i, hi⟩ := List.mem_iff_getElem?.mp hx
      have h1 := hps i x hi
      have h2 := (frq y hy).1
      rw [← hxy, e3 _ _ h1] at h2
      cases h2⟩
    have fr : ∀ r ∈ ps ++ qs, H r = none := fun r hr => by
      rcases List.mem_append.mp hr with hr | hr
      · exact fresh_back e1 (frp r hr).1
      · exact fresh_back ((e1.trans e2).trans e3) (frq r hr).1
    have pnr : p ∉ ps ++ qs := fun hr => by
      rcases List.mem_append.mp hr with hr | hr
      · exact (frp p hr).2 rfl
      · have h2 := (frq p hr).1
        rw [e3 _ _ hp] at h2
        cases h2
    have hF0 := padded_rect hR
    have tab0 : Tab (upd H4 p (.lst (ps.map V.ref ++ qs.map V.ref))) p (ps ++ qs) (padded T n m) := by
      refine ⟨by rw [upd_same, List.map_append], by rw [List.length_append, lp, lq, hF0.len]; omega, fun i r u hi hu => ?_⟩
      rw [upd_ne (fun z : r = p => pnr (z ▸ List.mem_of_getElem? hi))]
      unfold padded at hu
      by_cases hin : i < n
      · rw [List.getElem?_append_left (by omega)] at hi
        rw [List.getElem?_append_left (by rw [List.length_map, hR.len]; exact hin), List.getElem?_map] at hu
        obtain ⟨v, hv, hvl⟩ := hR.lt hin
        rw [hv] at hu
        have hu : v ++ List.replicate (max n m - v.length) 0 = u := Option.some.inj hu
        rw [e4 _ _ (e3 _ _ (hps i r hi))]
        have ev : T.getD i [] = v := by simp [List.getD, hv]
        dsimp only
        rw [ev, ← hu, hvl, List.map_append, List.map_replicate, show (((max n m : Nat) : Int) - (m : Int)).toNat = max n m - m by omega]
      · rw [List.getElem?_append_right (by omega)] at hi
        rw [List.getElem?_append_right (by rw [List.length_map, hR.len]; omega), List.getElem?_replicate] at hu
        split at hu
        · have hu : List.replicate (max n m) 0 = u := Option.some.inj hu
          rw [hqs _ r hi, ← hu, List.map_replicate]
          dsimp only
          rw [show (((max n m : Nat) : Int)).toNat = max n m by omega]
        · cases hu
    generalize hH5 : upd H4 p (.lst (ps.map V.ref ++ qs.map V.ref)) = H5 at tab0
    have e5 : Ex H H5 := by
      rw [← hH5]
      exact Ex.mut (e1.trans e14) p0
    generalize hrs : ps ++ qs = fs at tab0 ndr fr pnr
    generalize hFF : padded T n m = F0 at tab0 hF0
    generalize hs : max n m = sz at *
    have hsz : sz ≤ 1000 := by omega
    have efl : (fs.map V.ref).length = sz := by rw [List.length_map, tab0.len, hF0.len]
    have hrow0 : ∀ u ∈ F0, u.sum ≤ h := by rw [← hFF]; exact padded_rows hrow hh0
    have hcol0 : ∀ j, j < sz → colAt F0 j ≤ h := by rw [← hFF, ← hs]; exact padded_cols hR hcol hh0
    -- rows
    refine q_asgL (xs := ((rowSums F0).map fun x => h - x).map V.int) ?_ fun pr H6 nr e6 h6 => ?_
    · have hg : ((rowSums F0).map fun x => h - x).map V.int = given (fs.map V.ref).length (fun _ => true) (fun z => .int (h - (F0.getD z []).sum)) := by
        refine (given_all (by rw [List.length_map, List.length_map, rowSums_len, efl, hF0.len]) fun z x hx => ?_).symm
        rw [List.getElem?_map, List.getElem?_map] at hx
        cases hz : F0[z]? with
        | none =>
          rw [List.getElem?_eq_none (by rw [rowSums_len]; exact List.getElem?_eq_none_iff.mp hz)] at hx
          cases hx
        | some u =>
          rw [rowSums_at hz] at hx
          have e : F0.getD z [] = u := by simp [List.getD, hz]
          rw [e]
          exact Option.some.inj hx
      rw [hg]
      refine el_lcL _ _ (ev_var rfl) tab0.sq (by rw [efl]; omega) (fun x => rfl) (fun z x H2 e2 hz => et_yes) (fun z x H2 e2 hz _ => ?_)
      have hz2 : z < sz := by
        have := (List.getElem?_eq_some_iff.mp hz).1
        rw [efl] at this
        exact this
      obtain ⟨u, hu, hul⟩ := hF0.lt hz2
      obtain ⟨r, hr, h5⟩ := (tab0.mono e2).at hu
      have ex : x = .ref r := Option.some.inj (hz.symm.trans (ref_at hr))
      have e6 : F0.getD z [] = u := by simp [List.getD, hu]
      rw [e6, ex]
      exact ev_sub (ev_var rfl) (ev_sum (ev_var rfl) (sq_of h5))
    -- columns
    have tab6 := tab0.mono e6
    refine q_asgL (xs := ((colSums F0 sz).map fun x => h - x).map V.int) ?_ fun pc H7 nc e7 h7 => ?_
    · have hg : ((colSums F0 sz).map fun x => h - x).map V.int = given ((colSums F0 sz).map V.int).length (fun _ => true) (fun z => .int (h - colAt F0 z)) := by
        refine (given_all (by rw [List.length_map, List.length_map, List.length_map]) fun z x hx => ?_).symm
        have hz : z < sz := by
          have := (List.getElem?_eq_some_iff.mp hx).1
          rw [List.length_map, List.length_map, colSums_len] at this
          exact this
        rw [List.getElem?_map, List.getElem?_map, colSums_at hz] at hx
        exact Option.some.inj hx
      rw [hg]
      refine el_lcNL _ _ (el_ofp (evp_call (ea_cons (ev_var rfl) ea_nil) down_l fun H2 e2 Q2 q2 => ⟨p, fs, F0, sz, sz, rfl, tab6.mono e2, hF0, by omega, by omega, by omega, q2⟩)) (by rw [List.length_map, colSums_len]; omega) (fun x => rfl) (fun z x H2 e2 hz => et_yes) (fun z x H2 e2 hz _ => ?_)
      have hz2 : z < sz := by
        have := (List.getElem?_eq_some_iff.mp hz).1
        rw [List.length_map, colSums_len] at this
        exact this
      rw [List.getElem?_map, colSums_at hz2] at hz
      have ex : V.int (colAt F0 z) = x := Option.some.inj hz
      subst ex
      exact ev_sub (ev_var rfl) (ev_var rfl)
    -- the state
    have AP : Apart H p fs pr pc := by
      have tr : ∀ r ∈ fs, ∃ o, H5 r = some o := fun r hr => by
        obtain ⟨i, hi⟩ := List.mem_iff_getElem?.mp hr
        obtain ⟨u, _, hu⟩ := tab0.ref hi
        exact ⟨_, hu⟩
      refine ⟨p0, ndr, fr, fresh_back e5 nr, fresh_back (e5.trans e6) nc, ?_, ?_, ?_, ?_, ?_⟩
      · exact ne_of_none h6 nc
      · exact (ne_of_none tab0.top nr).symm
      · exact (ne_of_none tab6.top nc).symm
      · intro z
        obtain ⟨o, ho⟩ := tr pr z
        rw [nr] at ho
        cases ho
      · intro z
        obtain ⟨o, ho⟩ := tr pc z
        rw [e6 _ _ ho] at nc
        cases nc
    have FL : Filling H H7 p fs pr pc F0 ((rowSums F0).map fun x => h - x) ((colSums F0 sz).map fun x => h - x) := ⟨(e5.trans e6).trans e7, tab6.mono e7, e7 _ _ h6, h7⟩
    refine q_forR1 (n := (sz : Int)) (ea_cons (ev_var rfl) ea_nil) (by omega) (fun r σ' H' => (∃ y6 y7 y8 y9, σ' = [some (.ref a), some (.int h), some (.int (sz : Int)), some (.ref p), some (.ref pr), some (.ref pc), y6, y7, y8, y9]) ∧ ∃ F R C, Filling H H' p fs pr pc F R C ∧ FillAt sz F0 h r 0 F R C)
      (fun H8 e8 => ⟨⟨none, none, none, none, rfl⟩, _, _, _, FL.mono e8, fill_start hF0 hrow0 hcol0⟩) (fun r σ' H' hr q => ?_) (fun σ' H' q => ?_)
    · obtain ⟨⟨y6, y7, y8, y9, rfl⟩, F, R, C, hf, hfa⟩ := q
      have hr2 : r < sz := by omega
      refine s_forR1 (n := (sz : Int)) (ea_cons (ev_var rfl) ea_nil) (by omega) (fun c σ' H' => (∃ y7 y8 y9, σ' = [some (.ref a), some (.int h), some (.int (sz : Int)), some (.ref p), some (.ref pr), some (.ref pc), some (.int (r : Int)), y7, y8, y9]) ∧ ∃ F R C, Filling H H' p fs pr pc F R C ∧ FillAt sz F0 h r c F R C)
        (fun H8 e8 => ⟨⟨y7, y8, y9, rfl⟩, F, R, C, hf.mono e8, hfa⟩) (fun c σ' H' hc q => ?_) (fun σ' H' q => ?_)
      · obtain ⟨⟨z7, z8, z9, rfl⟩, F, R, C, hf, hfa⟩ := q
        have hc2 : c < sz := by omega
        obtain ⟨u, z, hu, hul, hz⟩ := hfa.rect.cell hr2 hc2
        obtain ⟨x, hx, _⟩ := get_lt hfa.rl hr2
        obtain ⟨y, hy, _⟩ := get_lt hfa.cl hc2
        obtain ⟨fr1, hfr, _⟩ := hf.tab.at hu
        -- more
        refine q_asg (ev_min2 (ev_ixL (ev_var rfl) (ev_var rfl) (sq_of hf.rr) (atI_nat (int_at hx))) (ev_ixL (ev_var rfl) (ev_var rfl) (sq_of hf.cc) (atI_nat (int_at hy)))) fun H8 e8 => ?_
        have hf8 := hf.mono e8
        -- found[row][place] = ..
        refine q_setL (hf8.tab.row r fr1 u hfr hu) (ev_add (ev_cell (ev_var rfl) (ev_var rfl) (ev_var rfl) hf8.tab hu hz) (ev_var rfl)) (ev_row (ev_var rfl) (ev_var rfl) hf8.tab hfr) (ev_var rfl) (by rw [List.length_map, hul]; exact hc2) fun H9 e9 => ?_
        rw [set_int_map]
        have hf9 := (hf8.mono e9).cell AP (w := u.set c (z + min x y)) hfr hu
        -- rows[row] = ..
        refine q_setL hf9.rr (ev_sub (ev_ixL (ev_var rfl) (ev_var rfl) (sq_of hf9.rr) (atI_nat (int_at hx))) (ev_var rfl)) (ev_var rfl) (ev_var rfl) (by rw [List.length_map, hfa.rl]; exact hr2) fun H10 e10 => ?_
        rw [set_int_map]
        have hf10 := (hf9.mono e10).rows AP (R.set r (x - min x y))
        refine s_setL hf10.cc (ev_sub (ev_ixL (ev_var rfl) (ev_var rfl) (sq_of hf10.cc) (atI_nat (int_at hy))) (ev_var rfl)) (ev_var rfl) (ev_var rfl) (by rw [List.length_map, hfa.cl]; exact hc2) fun H11 e11 => ?_
        rw [set_int_map]
        exact ⟨⟨_, _, _, rfl⟩, _, _, _, (hf10.mono e11).cols AP (C.set c (y - min x y)), hfa.step hu hz hx hy⟩
      · obtain ⟨⟨z7, z8, z9, rfl⟩, F, R, C, hf, hfa⟩ := q
        exact ⟨⟨_, _, _, _, rfl⟩, F, R, C, hf, FillAt.row hfa⟩
    · obtain ⟨⟨y6, y7, y8, y9, rfl⟩, F, R, C, hf, hfa⟩ := q
      have hfin : Raised T n m h F := by
        have hfa' : FillAt sz F0 h sz 0 F R C := hfa
        subst hs hFF
        exact fill_end hR hfa'
      exact s_ret (ev_var rfl) fun H8 e8 => k F hfin _ H8 (hf.ex.trans e8) ⟨p, fs, rfl, p0, ndr, fr, hf.tab.mono e8⟩
end Lh

namespace Lh
open PySem PySem.Spec PyProof.Rows L2 Evl
theorem ok_raised {P : Program} {w : World} {K : PySem.W.Frag} {mg : Str → Option Value} {base : Heap} (M : Mg mg) (D : Def K mg "raised" s_raised ["table", "hours"]) (C_is_number : Cal P w K mg base 1 "is_number" ["thing"] (sp_is_number K)) (C_asked_table : Cal P w K mg base 2 "asked_table" ["table"] (sp_asked_table K)) (C_fullest_of : Cal P w K mg base 2 "fullest_of" ["table"] (sp_fullest_of K)) (C_raised_of : Cal P w K mg base 2 "raised_of" ["table", "hours"] (sp_raised_of K)) : Cal P w K mg base 3 "raised" ["table", "hours"] (sp_raised K) := by
  refine D.cal sc_raised (fun vs H Q E h => ?_) (fun f cdv A outer s H vs Q E hr h => ?_)
  · obtain ⟨a, rs, T, n, m, h, rfl, _⟩ := h
    rfl
  · obtain ⟨a, rs, T, n, m, h, rfl, hT, hG, hh, k⟩ := h
    have b1 := hG.n1
    have b2 := hG.n20
    have b3 := hG.m1
    have b4 := hG.m20
    refine ⟨_, (pss_cons (ps_expr (pe_cal C_asked_table hr (by rfl) (pa_cons (pv 0) pa_nil)))
  (pss_cons (ps_if (PW.pt (pw_or (pt_not (pt_val (pe_cal C_is_number hr (by rfl) (pa_cons (pv 1) pa_nil)))) (pw_or1 (pt_cmpR op_lt (pv 1) (pe_ix ix_tup (pe_cal C_fullest_of hr (by rfl) (pa_cons (pv 0) pa_nil)) pe_int (fun _ _ => rfl)) (nomark _)))))
  (pss_one ps_never)
  pss_nil)
  (pss_one (ps_ret (pe_cal C_raised_of hr (by rfl) (pa_cons (pv 0) (pa_cons (pv 1) pa_nil))))))), ?_⟩
    refine q_drop (ev_callV (ea_cons (ev_var rfl) ea_nil) fun H1 e1 Q1 q1 => ⟨a, rs, T, n, m, rfl, hT.mono e1, hG, q1⟩) fun H1 e1 => ?_
    refine q_when (b := false) ?_ (fun h => nomatch h) fun _ H2 e2 => ?_
    · refine et_is (et_or (et_not (et_B (ev_callV (v := .bl true) (ea_cons (ev_var rfl) ea_nil) fun H2 e2 Q2 q2 => ⟨.int h, "int", true, false, rfl, tx_int, by decide +kernel, by decide +kernel, q2⟩))) fun _ => et_lt (k := false) (j := fullM T m) (ev_var rfl) ?_ (decide_eq_false (by omega))) rfl
      refine ev_ixPT (P := NewFull T m) (evp_call (ea_cons (ev_var rfl) ea_nil) down_c fun H2 e2 Q2 q2 => ⟨a, rs, T, n, m, rfl, hT.mono (e1.trans e2), hG.toRect, by omega, by omega, by omega, by omega, q2⟩) (fun H2 e2 => ev_c) (fun H2 u H3 ⟨p, q, hu, hp, hq⟩ => ⟨p, _, hu, st_of hp, atI_of (j := 0) rfl rfl⟩)
    refine sp_ret (P := fun H1 v H2 => ∃ F, Raised T n m h F ∧ NewT F H1 v H2) (evp_call (ea_cons (ev_var rfl) (ea_cons (ev_var rfl) ea_nil)) (fun H1 H2 v H3 e ⟨F, hF, hv⟩ => ⟨F, hF, down_t _ _ _ _ e hv⟩) fun H3 e3 Q3 q3 => ⟨a, rs, T, n, m, h, rfl, hT.mono ((e1.trans e2).trans e3), hG.toRect, by omega, by omega, by omega, by omega, full_rows hh, full_cols hh, ?_, fun F hF v H4 e4 hv => q3 v H4 e4 ⟨F, hF, hv⟩⟩) fun v H3 e3 ⟨F, hF, hv⟩ => k F hF v H3 ((e1.trans e2).trans e3) (down_t _ _ _ _ (e1.trans e2) hv)
    have := full_nn hG
    omega
end Lh

namespace Lh
open PySem PySem.Spec PyProof.Rows L2 Evl
theorem ok_are_unlike {P : Program} {w : World} {K : PySem.W.Frag} {mg : Str → Option Value} {base : Heap} (M : Mg mg) (D : Def K mg "are_unlike" s_are_unlike ["some", "most"]) : Cal P w K mg base 1 "are_unlike" ["some", "most"] (sp_are_unlike K) := by
  refine D.cal sc_are_unlike (fun vs H Q E h => ?_) (fun f cdv A outer s H vs Q E hr h => ?_)
  · obtain ⟨a, ns, n, rfl, _⟩ := h
    rfl
  · obtain ⟨a, ns, n, rfl, hs, hl, k⟩ := h
    refine ⟨_, (pss_one (ps_ret (pe_and (pe_cmpR op_eq (pe_callB cr_lenSet (by rfl) M.len (by decide +kernel) (pa_cons (pe_callTy (cr_setL rfl) (by rfl) M.set_ (by decide +kernel) (pa_cons (pv 0) pa_nil)) pa_nil)) (pe_callB call_len_seq (by rfl) M.len (by decide +kernel) (pa_cons (pv 0) pa_nil)) (nomark _)) (pe_one (pe_callB (cr_all rfl) (by rfl) M.all (by decide +kernel) (pa_cons (pe_lc (own := [("one", 2)]) (wi := (iList K (tVar 0))) (g := gName 2) (tt := tYes) (te := (tChain _ _ _ (tVar 2) (tVar 1))) (by rfl) sc_are_unlike.nd  (pi_list (pv 0)) (blkOk_by (by kernel_rfl)) (fun _ _ _ _ _ => (pg_name (i := 2) sc_are_unlike.nd rfl (Or.inl rfl))) (fun _ _ _ _ _ => pts_nil) (fun _ _ _ _ _ => (pe_chain op_le op_lt pe_int (pv 2) (pv 1)))) pa_nil)))))), ?_⟩
    refine s_ret (v := .bl (decide ns.Nodup && inRange n ns)) (ev_andV (a := decide ns.Nodup) (b := inRange n ns) ?_ fun _ => ?_) fun H1 e1 => k _ H1 e1 rfl
    · exact ev_lenSetEq (evp_ref (ev_var rfl) hs) (fun H1 v H2 h => ⟨a, h⟩) hl (ev_is (ev_lenL (ev_var rfl) hs) (by rw [List.length_map]))
    · exact ev_allI (b := fun t => decide (0 ≤ t) && decide (t < (n : Int))) (ev_var rfl) hs (by omega) (fun x => rfl) fun y _ H1 _ => ev_chain (k := decide (0 ≤ y)) (k' := decide (y < (n : Int))) ev_c (ev_var rfl) (rv_leD rfl) (fun _ => ev_var rfl) (fun _ => rv_ltD rfl)
end Lh

namespace Lh
open PySem PySem.Spec PyProof.Rows L2 Evl
/-- [(list(pairs), hours) for pairs, hours in parts] -/
theorem lc_parts {K : PySem.W.Frag} {σ : L2.St} {H1 : Hp} {a : Addr} {ts ls : List Addr} {parts : List (Prs × Int)} {j k : Nat} {vs : List Nat} {Q : VK} (hp : PartsAt H1 a ts ls parts) (hn : parts.length ≤ 2000) (hw : ∀ x y, wipe (((wipe σ vs).set j (some x)).set k (some y)) vs = wipe σ vs) (hj : ∀ x y, ((((wipe σ vs).set j (some x)).set k (some y)) : L2.St)[j]? = some (some x)) (hk : ∀ x y, ((((wipe σ vs).set j (some x)).set k (some y)) : L2.St)[k]? = some (some y))
    (hq : ∀ (D : Addr) H2 (ts' ls' : List Addr), H1 D = none → Ex H1 H2 → ls'.Nodup → (∀ l ∈ ls', H1 l = none ∧ l ≠ D) → PartsAt H2 D ts' ls' parts → Q (.ref D) H2) :
    LcGo (Itl K a) (gTup K 2 (gCons (gName j) (gCons (gName k) gNil))) tYes (tTup (tCons (tCB (rListS K) (tCons (tVar j) tNil)) (tCons (tVar k) tNil))) vs σ H1 Q := by
  have at_ : ∀ i, i < parts.length → ∃ pt, parts[i]? = some pt := fun i hi => ⟨parts[i], by simp [hi]⟩
  have hsg : Turns (Itl K a) (ts.map V.ref).length (gTup K 2 (gCons (gName j) (gCons (gName k) gNil))) (wipe σ vs) H1 (fun i => ((wipe σ vs).set j (some (.ref (ls.getD i 0)))).set k (some (.int (parts.getD i ([], 0)).2))) := by
    refine turns_pairs (f := fun i => .ref (ls.getD i 0)) (g := fun i => .int (parts.getD i ([], 0)).2) (sq_of hp.top) fun i x hx => ?_
    have hi : i < parts.length := by
      have := (List.getElem?_eq_some_iff.mp hx).1
      rw [List.length_map, hp.lt] at this
      exact this
    obtain ⟨pt, hpt⟩ := at_ i hi
    obtain ⟨t, l, ht, hl, htup, _⟩ := hp.at hpt
    rw [List.getElem?_map, ht] at hx
    have ex : V.ref t = x := Option.some.inj hx
    have e1 : ls.getD i 0 = l := by simp [List.getD, hl]
    have e2 : parts.getD i ([], 0) = pt := by simp [List.getD, hpt]
    rw [e1, e2]
    exact ⟨t, ex.symm, st_of htup⟩
  have hlen : (ts.map V.ref).length = parts.length := by rw [List.length_map, hp.lt]
  rw [hlen] at hsg
  refine lc_go hsg (fun i hi => hw _ _) (fun D i H => Ex H1 H ∧ ∃ ts' ls', ls'.Nodup ∧ (∀ l ∈ ls', H1 l = none ∧ l ≠ D) ∧ PartsAt H D ts' ls' (parts.take i)) (fun D hD => ⟨Ex.new hD, [], [], List.nodup_nil, (fun l hl => nomatch hl), ⟨upd_same, rfl, rfl, fun i t l pt h => by simp at h⟩⟩) (fun D i H _ p => p.1) (fun D i H hD hi p H2 e2 => ?_) (fun D H hD p => ?_)
  · obtain ⟨e1, ts', ls', nd, fr, hP⟩ := p
    obtain ⟨pt, hpt⟩ := at_ i hi
    obtain ⟨t, l, ht, hl, htup, qs, hqs⟩ := hp.at hpt
    have el : ls.getD i 0 = l := by simp [List.getD, hl]
    have ept : parts.getD i ([], 0) = pt := by simp [List.getD, hpt]
    refine et_yes H2 (Ex.refl H2) _ fun H2b e2b => ?_
    have e2 := e2.trans e2b
    rw [if_pos rfl, el, ept]
    have e12 := e1.trans e2
    refine cL (el_list (ev_var (hj _ _)) (sq_of (hqs.mono e12).top)) fun l' H3 nl e3 h3 => cV (ev_var (hk _ _)) fun H4 e4 => cN ⟨sz_of (by show 2 ≤ 100000; decide), fun t' nt => ?_⟩
    have e5 := Ex.new (o := .tup [.ref l', .int pt.2]) nt
    have ht' : upd H4 t' (.tup [.ref l', .int pt.2]) t' = some (.tup [.ref l', .int pt.2]) := upd_same
    generalize upd H4 t' (.tup [.ref l', .int pt.2]) = H5 at e5 ht'
    have hP5 := hP.mono (((e2.trans e3).trans e4).trans e5)
    have hDl : l' ≠ D := fun z => by
      have := e2 _ _ hP.top
      rw [← z, nl] at this
      cases this
    have hl5 : PrsAt H5 l' qs pt.1 := ⟨e5 _ _ (e4 _ _ h3), hqs.len, (hqs.mono (((e12.trans e3).trans e4).trans e5)).tup⟩
    refine ⟨_, hP5.top, ?_, Ex.mut (((e12.trans e3).trans e4).trans e5) hD, ts' ++ [t'], ls' ++ [l'], ?_, fun z hz => ?_, ?_⟩
    · rw [List.length_map, hP.lt, List.length_take]
      exact sz_lt (by omega)
    · refine List.nodup_append.mpr ⟨nd, by simp, fun x hx y hy hxy => ?_⟩
      have hy : y = l' := by simpa using hy
      rw [hy] at hxy
      rw [hxy] at hx
      obtain ⟨z, hz⟩ := List.getElem?_of_mem hx
      have hz2 : z < (parts.take i).length := by
        have := (List.getElem?_eq_some_iff.mp hz).1
        rw [hP.ll] at this
        exact this
      obtain ⟨_, l2, _, hl2, _, qs2, hqs2⟩ := hP.at (List.getElem?_eq_getElem hz2)
      have : l' = l2 := Option.some.inj (hz.symm.trans hl2)
      have h6 := (hqs2.mono e2).top
      rw [← this, nl] at h6
      cases h6
    · rcases List.mem_append.mp hz with h | h
      · exact fr z h
      · have : z = l' := by simpa using h
        rw [this]
        exact ⟨fresh_back e12 nl, hDl⟩
    · have htk : parts.take (i + 1) = parts.take i ++ [pt] := by rw [List.take_add_one, hpt]; rfl
      rw [htk]
      refine ⟨by rw [upd_same, List.map_append]; rfl, by rw [List.length_append, List.length_append, hP.lt]; rfl, by rw [List.length_append, List.length_append, hP.ll]; rfl, fun z tz lz ptz h1 h2 h3' => ?_⟩
      by_cases hz : z < (parts.take i).length
      · rw [List.getElem?_append_left (by rw [hP.lt]; exact hz)] at h1
        rw [List.getElem?_append_left (by rw [hP.ll]; exact hz)] at h2
        rw [List.getElem?_append_left hz] at h3'
        obtain ⟨a1, qz, a2⟩ := hP5.tup z tz lz ptz h1 h2 h3'
        exact ⟨tup_keep a1 hP5.top, qz, a2.keep hP5.top (fr lz (List.mem_of_getElem? h2)).2⟩
      · have hz2 := (List.getElem?_eq_some_iff.mp h3').1
        rw [List.length_append, List.length_singleton] at hz2
        have ez : z = (parts.take i).length := by omega
        rw [ez, ← hP.lt, List.getElem?_append_right (Nat.le_refl _), Nat.sub_self] at h1
        rw [ez, ← hP.ll, List.getElem?_append_right (Nat.le_refl _), Nat.sub_self] at h2
        rw [ez, List.getElem?_append_right (Nat.le_refl _), Nat.sub_self] at h3'
        have e1 : t' = tz := Option.some.inj h1
        have e2 : l' = lz := Option.some.inj h2
        have e3 : pt = ptz := Option.some.inj h3'
        subst e1
        subst e2
        subst e3
        exact ⟨tup_keep ht' hP5.top, qs, hl5.keep hP5.top hDl⟩
  · obtain ⟨e1, ts', ls', nd, fr, hP⟩ := p
    rw [List.take_of_length_le (Nat.le_refl _)] at hP
    exact hq D H ts' ls' hD e1 nd fr hP
theorem ok_Plan___init__ {P : Program} {w : World} {K : PySem.W.Frag} {mg : Str → Option Value} {base : Heap} {CA CP CE CS CL : Addr} (M : Mg mg) (cp : CsP K mg CA CP CE CS CL) (D : DefM K CP "__init__" "Plan.__init__" s_Plan___init__ ["self", "parts"]) : Mth P w K mg base 1 CP "__init__" ["self", "parts"] (sp_Plan_init K CP) := by
  refine D.mth sc_Plan___init__ (fun vs H Q E h => ?_) (fun f cdv A outer s H vs Q E hr h => ?_)
  · obtain ⟨x, a, dx, ts, ls, parts, rfl, _⟩ := h
    rfl
  · obtain ⟨x, a, dx, ts, ls, parts, rfl, hx, hp, hl, k⟩ := h
    refine ⟨_, (pss_one (ps_fld (pv 0) (pe_lc (own := [("pairs", 2), ("hours", 3)]) (wi := (iList K (tVar 1))) (g := gTup K 2 (gCons (gName 2) (gCons (gName 3) gNil))) (tt := tYes) (te := (tTup (tCons (tCB (rListS K) (tCons (tVar 2) tNil)) (tCons (tVar 3) tNil)))) (by rfl) sc_Plan___init__.nd  (pi_list (pv 1)) (blkOk_by (by kernel_rfl)) (fun _ _ _ _ _ => (pg_tup rfl (pgs_cons (pg_name (i := 2) sc_Plan___init__.nd rfl (Or.inl rfl)) (pgs_cons (pg_name (i := 3) sc_Plan___init__.nd rfl (Or.inl rfl)) pgs_nil)))) (fun _ _ _ _ _ => pts_nil) (fun _ _ _ _ _ => (pe_tup (pa_cons (pe_callTy call_list_of (by rfl) M.list_ (by decide +kernel) (pa_cons (pv 2) pa_nil)) (pa_cons (pv 3) pa_nil))))) rfl)), ?_⟩
    refine evp_lcL (P := fun H1 v H2 => ∃ (D : Addr) (ts' ls' : List Addr), v = .ref D ∧ H1 D = none ∧ ls'.Nodup ∧ (∀ l ∈ ls', H1 l = none ∧ l ≠ D) ∧ PartsAt H2 D ts' ls' parts) (ev_var rfl) (sq_of hp.top) (fun H1 H2 v H3 e ⟨D, ts', ls', z1, z2, z3, z4, z5⟩ => ⟨D, ts', ls', z1, fresh_back e z2, z3, fun l hl => ⟨fresh_back e (z4 l hl).1, (z4 l hl).2⟩, z5⟩) (fun H1 e1 Q1 q1 => lc_parts (hp.mono e1) hl (fun x y => rfl) (fun x y => rfl) (fun x y => rfl) fun D H2 ts' ls' hD e2 nd fr hP => q1 _ H2 e2 ⟨D, ts', ls', rfl, hD, nd, fr, hP⟩) H (Ex.refl H) _ fun v H1 e1 ⟨D, ts', ls', hv, nD, nd, fr, hP⟩ => ?_
    subst hv
    have hDx : D ≠ x := fun z => by rw [z, hx] at nD; cases nD
    have hlx : ∀ l ∈ ls', l ≠ x := fun l hl z => by
      have := (fr l hl).1
      rw [z, hx] at this
      cases this
    refine ⟨.ref x, rfl, x, CP, dx, [], rfl, e1 _ _ hx, cp.P.cl, cp.np, by decide, ?_⟩
    refine k D ts' ls' _ (fun c o hc ho => by rw [upd_ne hc]; exact e1 _ _ ho) nD hDx nd (fun l hl => ⟨(fr l hl).1, hlx l hl, (fr l hl).2⟩) ?_ upd_same
    have hx1 := e1 _ _ hx
    refine ⟨by rw [upd_ne hDx]; exact hP.top, hP.lt, hP.ll, fun i t l pt h1 h2 h3 => ?_⟩
    obtain ⟨a1, qs, a2⟩ := hP.tup i t l pt h1 h2 h3
    have kp : ∀ {c : Addr} {o : HO}, H1 c = some o → c ≠ x → upd H1 x (.ins CP dx (putF "parts" (.ref D) [])) c = some o := fun hc hne => by rw [upd_ne hne]; exact hc
    have ntx : ∀ {c : Addr} {zs : List V}, H1 c = some (.tup zs) → c ≠ x := fun hc z => by rw [z, hx1] at hc; cases hc
    exact ⟨kp a1 (ntx a1), qs, kp a2.top (hlx l (List.mem_of_getElem? h2)), a2.len, fun i q pr b1 b2 => kp (a2.tup i q pr b1 b2) (ntx (a2.tup i q pr b1 b2))⟩
end Lh

namespace Lh
open PySem PySem.Spec PyProof.Rows L2 Evl
theorem ok_Plan_shows {P : Program} {w : World} {K : PySem.W.Frag} {mg : Str → Option Value} {base : Heap} {CA CP CE CS CL : Addr} (M : Mg mg) (cp : CsP K mg CA CP CE CS CL) (D : DefM K CP "shows" "Plan.shows" s_Plan_shows ["self", "table"]) (C_are_unlike : Cal P w K mg base 1 "are_unlike" ["some", "most"] (sp_are_unlike K)) (C_fullest_of : Cal P w K mg base 2 "fullest_of" ["table"] (sp_fullest_of K)) : Mth P w K mg base 3 CP "shows" ["self", "table"] (sp_Plan_shows K CP) := by
  refine D.mth sc_Plan_shows (fun vs H Q E h => ?_) (fun f cdv A outer s H vs Q E hr h => ?_)
  · obtain ⟨x, b, a, ts, ls, rs, parts, T, n, m, rfl, _⟩ := h
    rfl
  · obtain ⟨x, b, a, ts, ls, rs, parts, T, n, m, rfl, ⟨hl1, hl2, hP, dx, hx⟩, hT, hR, hn, hn2, hm, hm2, k⟩ := h
    obtain ⟨u0, hu0, hl0⟩ := hR.lt (show 0 < n by omega)
    obtain ⟨r0, hr0, h0⟩ := hT.at hu0
    have el : ((rs.map V.ref).length : Int) = (n : Int) := by rw [List.length_map, hT.len, hR.len]
    have at_ : ∀ i, i < parts.length → ∃ pt, parts[i]? = some pt ∧ parts.getD i ([], 0) = pt := fun i hi => ⟨parts[i], by simp [hi], by simp [List.getD, hi]⟩
    refine ⟨_, (pss_cons (ps_setLc (i := 2) (own := [("row", 8)]) (wi := (iList K (tVar 1))) (g := gName 8) (tt := tYes) (te := (tCB (rListS K) (tCons (tVar 8) tNil))) (by rfl) sc_Plan_shows.nd rfl rfl (sw_true rfl rfl rfl (by decide +kernel)) (pi_list (pv 1)) (blkOk_by (by kernel_rfl)) (fun _ _ _ _ _ => (pg_name (i := 8) sc_Plan_shows.nd rfl (Or.inl rfl))) (fun _ _ _ _ _ => pts_nil) (fun _ _ _ _ _ => (pe_callTy call_list_of (by rfl) M.list_ (by decide +kernel) (pa_cons (pv 8) pa_nil))))
  (pss_cons (ps_set (i := 3) sc_Plan_shows.nd rfl (Or.inl rfl) pe_int)
  (pss_cons (ps_for PassesOwn.never rfl (pi_list (pe_fld (pv 0) rfl)) (pg_tup rfl (pgs_cons (pg_name (i := 4) sc_Plan_shows.nd rfl (Or.inl rfl)) (pgs_cons (pg_name (i := 5) sc_Plan_shows.nd rfl (Or.inl rfl)) pgs_nil)))
  (pss_cons (ps_if (pt_cmpR op_lt (pv 5) pe_int (nomark _))
  (pss_one (ps_ret pe_bl))
  pss_nil)
  (pss_cons (ps_if (pt_not (pt_val (pe_cal C_are_unlike hr (by rfl) (pa_cons (pe_lc (own := [("who", 6), ("place", 7)]) (wi := (iList K (tVar 4))) (g := gTup K 2 (gCons (gName 6) (gCons (gName 7) gNil))) (tt := tYes) (te := (tVar 6)) (by rfl) sc_Plan_shows.nd  (pi_list (pv 4)) (blkOk_by (by kernel_rfl)) (fun _ _ _ _ _ => (pg_tup rfl (pgs_cons (pg_name (i := 6) sc_Plan_shows.nd rfl (Or.inl rfl)) (pgs_cons (pg_name (i := 7) sc_Plan_shows.nd rfl (Or.inl rfl)) pgs_nil)))) (fun _ _ _ _ _ => pts_nil) (fun _ _ _ _ _ => (pv 6))) (pa_cons (pe_callB call_len_seq (by rfl) M.len (by decide +kernel) (pa_cons (pv 1) pa_nil)) pa_nil)))))
  (pss_one (ps_ret pe_bl))
  pss_nil)
  (pss_cons (ps_if (pt_not (pt_val (pe_cal C_are_unlike hr (by rfl) (pa_cons (pe_lc (own := [("who", 6), ("place", 7)]) (wi := (iList K (tVar 4))) (g := gTup K 2 (gCons (gName 6) (gCons (gName 7) gNil))) (tt := tYes) (te := (tVar 7)) (by rfl) sc_Plan_shows.nd  (pi_list (pv 4)) (blkOk_by (by kernel_rfl)) (fun _ _ _ _ _ => (pg_tup rfl (pgs_cons (pg_name (i := 6) sc_Plan_shows.nd rfl (Or.inl rfl)) (pgs_cons (pg_name (i := 7) sc_Plan_shows.nd rfl (Or.inl rfl)) pgs_nil)))) (fun _ _ _ _ _ => pts_nil) (fun _ _ _ _ _ => (pv 7))) (pa_cons (pe_callB call_len_seq (by rfl) M.len (by decide +kernel) (pa_cons (pe_ix ix_list (pv 1) pe_int (fun _ _ => rfl)) pa_nil)) pa_nil)))))
  (pss_one (ps_ret pe_bl))
  pss_nil)
  (pss_cons (ps_for PassesOwn.never rfl (pi_list (pv 4)) (pg_tup rfl (pgs_cons (pg_name (i := 6) sc_Plan_shows.nd rfl (Or.inl rfl)) (pgs_cons (pg_name (i := 7) sc_Plan_shows.nd rfl (Or.inl rfl)) pgs_nil)))
  (pss_one (ps_asg (pe_op op_sub (pe_ix ix_list (pe_ix ix_list (pv 2) (pv 6) (fun _ _ => rfl)) (pv 7) (fun _ _ => rfl)) (pv 5)) (pg_sub (pe_ix ix_list (pv 2) (pv 6) (fun _ _ => rfl)) (pv 7) set_list))))
  (pss_one (ps_set (i := 3) sc_Plan_shows.nd rfl (Or.inl rfl) (pe_op op_add (pv 3) (pv 5)))))))))
  (pss_one (ps_ret (pe_and (pe_cmpR op_eq (pv 3) (pe_ix ix_tup (pe_cal C_fullest_of hr (by rfl) (pa_cons (pv 1) pa_nil)) pe_int (fun _ _ => rfl)) (nomark _)) (pe_one (pe_not (pe_callB (cr_any rfl) (by rfl) M.any (by decide +kernel) (pa_cons (pe_lc (own := [("row", 8)]) (wi := (iList K (tVar 2))) (g := gName 8) (tt := tYes) (te := (tOrV (tOp _ (tCB (rMax K) (tCons (tVar 8) tNil)) _) (tOp _ (tCB (rMin K) (tCons (tVar 8) tNil)) _))) (by rfl) sc_Plan_shows.nd  (pi_list (pv 2)) (blkOk_by (by kernel_rfl)) (fun _ _ _ _ _ => (pg_name (i := 8) sc_Plan_shows.nd rfl (Or.inl rfl))) (fun _ _ _ _ _ => pts_nil) (fun _ _ _ _ _ => (pe_or (pe_cmpR op_ne (pe_callB (cr_max rfl) (by rfl) M.max (by decide +kernel) (pa_cons (pv 8) pa_nil)) pe_int (nomark _)) (pe_one (pe_cmpR op_ne (pe_callB (cr_min rfl) (by rfl) M.min (by decide +kernel) (pa_cons (pv 8) pa_nil)) pe_int (nomark _)))))) pa_nil)))))))))), ?_⟩
    refine qp_asg (P := NewT T) (evp_copyT (ev_var rfl) hT (by rw [hR.len]; omega) (by show 8 < 9; decide) (fun x => rfl)) fun v H1 e1 ⟨pl, rl, hv, npl, ndl, frl, hTl⟩ => ?_
    subst hv
    refine q_asg ev_c fun H2 e2 => ?_
    have e02 := e1.trans e2
    have hlen : (ts.map V.ref).length = parts.length := by rw [List.length_map, hP.lt]
    refine q_forPr (fun i => .ref (ls.getD i 0)) (fun i => .int (parts.getD i ([], 0)).2) (ev_fld (ev_var rfl) (e02 _ _ hx) cp.P.cl cp.np rfl) (sq_of (e02 _ _ hP.top))
      (fun i σ' H' => (∃ y4 y5 y6 y7, σ' = [some (.ref x), some (.ref b), some (.ref pl), some (.int (total (parts.take i))), y4, y5, y6, y7, none]) ∧ Ex H H' ∧ Tab H' pl rl (subAll T (parts.take i)) ∧ (parts.take i).all (okPart n m) = true)
      (fun H3 e3 => ⟨⟨_, _, _, _, rfl⟩, e02.trans e3, hTl.mono (e2.trans e3), rfl⟩) (fun i σ' H' _ z => sq_of (z.2.1 _ _ hP.top)) (fun i σ' H' y z hy => ?_) (fun i σ' H' hi z => ?_) (fun σ' H' z => ?_)
    · have hi : i < parts.length := by
        rw [← hlen]
        exact (List.getElem?_eq_some_iff.mp hy).1
      obtain ⟨pt, h1, h2⟩ := at_ i hi
      obtain ⟨t, l, ht, hl, htup, _⟩ := (hP.mono z.2.1).at h1
      rw [List.getElem?_map, ht] at hy
      have e1 : ls.getD i 0 = l := by simp [List.getD, hl]
      rw [h2, e1]
      exact ⟨t, (Option.some.inj hy).symm, st_of htup⟩
    · obtain ⟨⟨y4, y5, y6, y7, rfl⟩, ex, hTl', hok⟩ := z
      rw [hlen] at hi
      obtain ⟨pt, h1, h2⟩ := at_ i hi
      obtain ⟨t, l, ht, hl, htup, qs, hqs0⟩ := hP.at h1
      have hqs := hqs0.mono ex
      have e1 : ls.getD i 0 = l := by simp [List.getD, hl]
      dsimp only
      rw [h2, e1]
      have hll : l ∉ rl := fun z => by
        have := frl l z
        rw [hqs0.top] at this
        cases this
      have hpl2 : pt.1.length ≤ 2000 := hl2 pt (List.mem_of_getElem? h1)
      have stop : okPart n m pt = false → ∀ H', Ex H H' → Q (.bl false) H' := fun hb H' e' => by
        rw [plan_stop h1 hb] at k
        exact k _ H' e' rfl
      refine q_when (b := decide (pt.2 < 1)) (et_lt (ev_var rfl) ev_c rfl) (fun hb H3 e3 => s_ret ev_c fun H4 e4 => stop ?_ H4 ((ex.trans e3).trans e4)) fun hb H3 e3 => ?_
      · have hb := of_decide_eq_true hb
        unfold okPart
        have : decide (1 ≤ pt.2) = false := decide_eq_false (by omega)
        rw [this]
        rfl
      have hb1 : decide (1 ≤ pt.2) = true := by
        have := of_decide_eq_false hb
        exact decide_eq_true (by omega)
      have ex3 := ex.trans e3
      have hqs3 := hqs.mono e3
      refine q_when (b := !(decide (pt.1.map (·.1)).Nodup && inRange n (pt.1.map (·.1)))) (et_not (et_B (ev_ofp (evp_call2 (x := .int (n : Int)) (P := IsV (.bl (decide (pt.1.map (·.1)).Nodup && inRange n (pt.1.map (·.1))))) (Pa := NewL ((pt.1.map (·.1)).map V.int)) (evp_l (el_pairs (ev_var rfl) hqs3 (by omega) (fun x y => rfl) fun pr H4 _ e4 => ev_var rfl)) (fun H4 e4 => ev_is (ev_lenL (ev_var rfl) ((hT.mono (ex3.trans e4)).sq)) (by rw [el])) down_v (fun v H4 H5 H6 e4 e5 e6 ⟨p, hv, _, h⟩ Q q => (by subst hv; exact ⟨p, _, n, rfl, sq_of (e6 _ _ h), by rw [List.length_map]; exact hpl2, q⟩)))))) (fun hb H4 e4 => s_ret ev_c fun H5 e5 => stop ?_ H5 ((ex3.trans e4).trans e5)) fun hb H4 e4 => ?_
      · unfold okPart
        rw [hb1]
        rw [Bool.not_eq_true'] at hb
        rw [hb]
        rfl
      rw [Bool.not_eq_false'] at hb
      have hb2 := hb
      have ex4 := ex3.trans e4
      have hqs4 := hqs3.mono e4
      refine q_when (b := !(decide (pt.1.map (·.2)).Nodup && inRange m (pt.1.map (·.2)))) (et_not (et_B (ev_ofp (evp_call2 (x := .int (m : Int)) (P := IsV (.bl (decide (pt.1.map (·.2)).Nodup && inRange m (pt.1.map (·.2))))) (Pa := NewL ((pt.1.map (·.2)).map V.int)) (evp_l (el_pairs (ev_var rfl) hqs4 (by omega) (fun x y => rfl) fun pr H4 _ e4 => ev_var rfl)) (fun H5 e5 => ev_is (ev_lenL (ev_ixL (ev_var rfl) ev_c (hT.mono (ex4.trans e5)).sq (atI_of (j := 0) rfl (ref_at hr0))) (sq_of ((ex4.trans e5) _ _ h0))) (by rw [List.length_map, hl0])) down_v (fun v H4 H5 H6 e4 e5 e6 ⟨p, hv, _, h⟩ Q q => (by subst hv; exact ⟨p, _, m, rfl, sq_of (e6 _ _ h), by rw [List.length_map]; exact hpl2, q⟩)))))) (fun hb H5 e5 => s_ret ev_c fun H6 e6 => stop ?_ H6 ((ex4.trans e5).trans e6)) fun hb H5 e5 => ?_
      · unfold okPart
        rw [hb1, hb2]
        rw [Bool.not_eq_true'] at hb
        rw [hb]
        rfl
      rw [Bool.not_eq_false'] at hb
      have hokp : okPart n m pt = true := by
        unfold okPart
        rw [hb1, hb2, hb]
        rfl
      have ex5 := ex4.trans e5
      have hTl5 := hTl'.mono ((e3.trans e4).trans e5)
      refine s_subs (h := pt.2) (n := n) (m := m) (ev_var rfl) (hqs4.mono e5) rfl rfl (by show 6 < 9; decide) (by show 7 < 9; decide) (by decide) (ok_inR hokp) (subAll_rect hR hok) ndl hTl5 hll fun H6 x6 x7 e6 hT6 => ?_
      refine s_asg (v := .int (total (parts.take i) + pt.2)) (ev_add (ev_var rfl) (ev_var rfl)) fun H7 e7 => ?_
      rw [take_snoc h1, total_snoc, subAll_snoc]
      refine ⟨⟨_, _, _, _, rfl⟩, (ExR.ex ex5 e6 frl).trans e7, hT6.mono e7, ?_⟩
      rw [List.all_append, hok]
      simp only [List.all_cons, List.all_nil, Bool.and_true, Bool.true_and]
      exact hokp
    · obtain ⟨⟨y4, y5, y6, y7, rfl⟩, ex, hTl', hok⟩ := z
      rw [hlen, List.take_of_length_le (Nat.le_refl _)] at hTl' hok ⊢
      have hRl := subAll_rect hR hok
      have hpb : planB T n m parts = (decide (total parts = fullM T m) && zeroT (subAll T parts)) := by
        unfold planB
        rw [hok]
        rfl
      rw [hpb] at k
      refine s_ret (v := .bl (decide (total parts = fullM T m) && zeroT (subAll T parts))) (ev_andV (a := decide (total parts = fullM T m)) (b := zeroT (subAll T parts)) (ev_eqI (ev_var rfl) (ev_ixPT (P := NewFull T m) (evp_call (ea_cons (ev_var rfl) ea_nil) down_c fun H2 e2 Q2 q2 => ⟨b, rs, T, n, m, rfl, hT.mono (ex.trans e2), hR, hn, hn2, hm, hm2, q2⟩) (fun _ _ => ev_c) (fun H1 u H2 ⟨p, q, hu, h1, h2⟩ => ⟨p, _, hu, st_of h1, atI_of (j := 0) rfl rfl⟩))) fun _ => ?_) fun H6 e6 => k _ H6 (ex.trans e6) rfl
      refine ev_is (ev_notV (ev_anyT (b := fun u => !decide (maxI u = 0) || !decide (minI u = 0)) (ev_var rfl) hTl' (by rw [hRl.len]; omega) (fun x => rfl) fun u r H6 hu e6 hr => ?_)) ?_
      · have une : u ≠ [] := fun z => by
          have := hRl.row u hu
          rw [z] at this
          simp at this
          omega
        exact ev_orV (ev_neI (ev_max (ev_var rfl) (sq_of hr) une) ev_c) fun _ => ev_neI (ev_min (ev_var rfl) (sq_of hr) une) ev_c
      · congr 1
        unfold zeroT
        rw [Bool.eq_iff_iff]
        simp only [Bool.not_eq_true', List.any_eq_false, List.all_eq_true, decide_eq_true_eq]
        constructor
        · intro h u hu y hy
          have une : u ≠ [] := fun z => by rw [z] at hy; cases hy
          have := h u hu
          rw [max_min_zero une] at this
          simp at this
          exact this y hy
        · intro h u hu
          have une : u ≠ [] := fun z => by
            have := hRl.row u hu
            rw [z] at this
            simp at this
            omega
          rw [max_min_zero une]
          simp
          exact h u hu
end Lh

namespace Lh
open PySem PySem.Spec PyProof.Rows L2 Evl
theorem ok_Each___init__ {P : Program} {w : World} {K : PySem.W.Frag} {mg : Str → Option Value} {base : Heap} {CA CP CE CS CL : Addr} (M : Mg mg) (cs : Cs K mg CA CP CE CS CL) (D : DefM K CE "__init__" "Each.__init__" s_Each___init__ ["self", "classes"]) : Mth P w K mg base 1 CE "__init__" ["self", "classes"] (spInit1 K CE "classes") := by
  refine D.mth sc_Each___init__ (fun vs H Q E h => ?_) (fun f cdv A outer s H vs Q E hr h => ?_)
  · obtain ⟨x, a, dx, xs, rfl, _⟩ := h
    rfl
  · obtain ⟨x, a, dx, xs, rfl, hx, hs, k⟩ := h
    exact ⟨_, (pss_one (ps_fld (pv 0) (pe_callTy call_list_of (by rfl) M.list_ (by decide +kernel) (pa_cons (pv 1) pa_nil)) rfl)), s_init1 cs.E.cl cs.nE rfl rfl hx hs k⟩
end Lh

namespace Lh
open PySem PySem.Spec PyProof.Rows L2 Evl
theorem given_bl (n : Nat) (b : Nat → Bool) : given n (fun _ => true) (fun i => V.bl (b i)) = ((List.range n).map b).map V.bl := by
  unfold given
  rw [List.map_map]
  have : (List.range n).filter (fun _ => true) = List.range n := by simp
  rw [this]
  rfl
theorem all_range {n : Nat} {b : Nat → Bool} : ((List.range n).map b).all id = (List.range n).all b := by
  rw [List.all_map]
  rfl
theorem ok_Each_shows {P : Program} {w : World} {K : PySem.W.Frag} {mg : Str → Option Value} {base : Heap} {CA CP CE CS CL : Addr} (M : Mg mg) (cs : Cs K mg CA CP CE CS CL) (D : DefM K CE "shows" "Each.shows" s_Each_shows ["self", "table"]) (C_are_unlike : Cal P w K mg base 1 "are_unlike" ["some", "most"] (sp_are_unlike K)) : Mth P w K mg base 2 CE "shows" ["self", "table"] (sp_Each_shows K CE) := by
  refine D.mth sc_Each_shows (fun vs H Q E h => ?_) (fun f cdv A outer s H vs Q E hr h => ?_)
  · obtain ⟨x, b, q, dx, rs, T, n, m, ns, rfl, _⟩ := h
    rfl
  · obtain ⟨x, b, q, dx, rs, T, n, m, ns, rfl, hx, hq, hl, hT, hR, hn, hn2, hm2, k⟩ := h
    obtain ⟨u0, hu0, hl0⟩ := hR.lt (show 0 < n by omega)
    obtain ⟨r0, hr0, h0⟩ := hT.at hu0
    have el : ((rs.map V.ref).length : Int) = (n : Int) := by rw [List.length_map, hT.len, hR.len]
    refine ⟨_, (pss_cons (ps_if (PW.pt (pw_or (pt_cmpR op_ne (pe_callB call_len_seq (by rfl) M.len (by decide +kernel) (pa_cons (pe_fld (pv 0) rfl) pa_nil)) (pe_callB call_len_seq (by rfl) M.len (by decide +kernel) (pa_cons (pv 1) pa_nil)) (nomark _)) (pw_or1 (pt_not (pt_val (pe_cal C_are_unlike hr (by rfl) (pa_cons (pe_fld (pv 0) rfl) (pa_cons (pe_callB call_len_seq (by rfl) M.len (by decide +kernel) (pa_cons (pe_ix ix_list (pv 1) pe_int (fun _ _ => rfl)) pa_nil)) pa_nil))))))))
  (pss_one (ps_ret pe_bl))
  pss_nil)
  (pss_one (ps_ret (pe_callB (cr_all rfl) (by rfl) M.all (by decide +kernel) (pa_cons (pe_lc (own := [("row", 2), ("place", 3)]) (wi := (iZip K (tCons (tVar 1) (tCons (tFld K (tVar 0) "classes") tNil)))) (g := gTup K 2 (gCons (gName 2) (gCons (gName 3) gNil))) (tt := tYes) (te := (tOp _ (tOp (rIxL K) (tVar 2) (tVar 3)) _)) (by rfl) sc_Each_shows.nd  (pi_zip (by rfl) M.zip (pa_cons (pv 1) (pa_cons (pe_fld (pv 0) rfl) pa_nil))) (blkOk_by (by kernel_rfl)) (fun _ _ _ _ _ => (pg_tup rfl (pgs_cons (pg_name (i := 2) sc_Each_shows.nd rfl (Or.inl rfl)) (pgs_cons (pg_name (i := 3) sc_Each_shows.nd rfl (Or.inl rfl)) pgs_nil)))) (fun _ _ _ _ _ => pts_nil) (fun _ _ _ _ _ => (pe_cmpR op_gt (pe_ix ix_list (pv 2) (pv 3) (fun _ _ => rfl)) pe_int (nomark _)))) pa_nil))))), ?_⟩
    refine q_when (b := !chosenB T n m ns) ?_ (fun h1 H1 e1 => ?_) (fun h1 H1 e1 => ?_)
    · refine et_is (et_or (et_ne (k := !decide (ns.length = n)) (ev_lenL (ev_fld (ev_var rfl) hx cs.E.cl cs.nE rfl) (sq_of hq)) (ev_lenL (ev_var rfl) hT.sq) ?_) fun _ => et_not (et_B (ev_callV (v := .bl (decide ns.Nodup && inRange m ns)) (ea_cons (ev_fld (ev_var rfl) hx cs.E.cl cs.nE rfl) (ea_cons (ev_is (ev_lenL (ev_ixL (ev_var rfl) ev_c hT.sq (atI_of (j := 0) rfl (ref_at hr0))) (sq_of h0)) (show _ = V.int (m : Int) by rw [List.length_map, hl0])) ea_nil)) fun H1 e1 Q1 q1 => ⟨q, ns, m, rfl, sq_of (e1 _ _ hq), hl, q1⟩))) ?_
      · rw [List.length_map, el]
        congr 1
        exact decide_eq_decide.mpr (by omega)
      · unfold chosenB
        cases decide (ns.length = n) <;> simp
    · have h2 : dueB T n m ns = false := by
        unfold dueB
        rw [Bool.not_eq_true'] at h1
        rw [h1]
        rfl
      rw [h2] at k
      exact s_ret ev_c fun H2 e2 => k _ H2 (e1.trans e2) rfl
    · rw [Bool.not_eq_false'] at h1
      have h2 : dueB T n m ns = (List.range n).all fun t => decide (0 < cell T t (ns.getD t 0).toNat) := by
        unfold dueB
        rw [h1]
        rfl
      rw [h2] at k
      unfold chosenB at h1
      simp only [Bool.and_eq_true, decide_eq_true_eq] at h1
      obtain ⟨hlen, hnd, hin⟩ := h1
      have hT1 := hT.mono e1
      have hl2 : EvL (tLc (iZip K (tCons (tVar 1) (tCons (tFld K (tVar 0) "classes") tNil))) (gTup K 2 (gCons (gName 2) (gCons (gName 3) gNil))) tYes (tOp (rI0 fun i j => .bl (decide (j < i))) (tOp (rIxL K) (tVar 2) (tVar 3)) (tC (.int 0))) [2, 3]) [some (.ref x), some (.ref b), none, none] H1 (((List.range n).map fun t => decide (0 < cell T t (ns.getD t 0).toNat)).map V.bl) := by
        rw [← given_bl]
        have hmin : n = min (rs.map V.ref).length (ns.map V.int).length := by
          rw [List.length_map, List.length_map, hT.len, hR.len, hlen]
          omega
        have := el_lcZ (K := K) (tl := tVar 1) (tl2 := tFld K (tVar 0) "classes") (σ := [some (.ref x), some (.ref b), none, none]) (H := H1) (j := 2) (k := 3) (vs := [2, 3]) (t := tYes) (te := tOp (rI0 fun i j => .bl (decide (j < i))) (tOp (rIxL K) (tVar 2) (tVar 3)) (tC (.int 0))) (fun _ => true) (fun t => V.bl (decide (0 < cell T t (ns.getD t 0).toNat))) (ev_var rfl) (ev_fld (ev_var rfl) (e1 _ _ hx) cs.E.cl cs.nE rfl) hT1.sq (sq_of (e1 _ _ hq)) (by rw [List.length_map, hT.len, hR.len]; omega) (fun x y => rfl) (fun i y z H2 e2 hy hz => et_yes) (fun i y z H2 e2 hy hz _ => ?_)
        · rw [← hmin] at this
          exact this
        · have hi : i < n := by
            have := (List.getElem?_eq_some_iff.mp hy).1
            rw [List.length_map, hT.len, hR.len] at this
            exact this
          have hi2 : i < ns.length := by omega
          have hz2 : ns[i]? = some ns[i] := by simp [hi2]
          have ez : z = .int ns[i] := Option.some.inj (hz.symm.trans (int_at hz2))
          subst ez
          obtain ⟨p0, p1⟩ := mem_range_of hin (List.mem_of_getElem? hz2)
          obtain ⟨u, y0, hu, hul, hy0⟩ := hR.cell hi (show ns[i].toNat < m by omega)
          obtain ⟨r, hr1, hr2⟩ := (hT1.mono e2).at hu
          have ey : y = .ref r := Option.some.inj (hy.symm.trans (ref_at hr1))
          subst ey
          rw [getD_of hz2, cell_of hu hy0]
          exact ev_gt (ev_ixL (ev_var rfl) (ev_var rfl) (sq_of hr2) (atI_of (j := ns[i].toNat) (by omega) (int_at hy0))) ev_c
      refine s_ret (v := .bl ((List.range n).all fun t => decide (0 < cell T t (ns.getD t 0).toNat))) (ev_is (ev_allL hl2) (by rw [all_range])) fun H2 e2 => k _ H2 (e1.trans e2) rfl
end Lh

namespace Lh
open PySem PySem.Spec PyProof.Rows L2 Evl
theorem some_max {T : List (List Int)} {m : Nat} {S : List Int} {least : Int} (h : S ≠ []) : someP T m S least = (List.range m).filter fun p => decide (least ≤ maxI (S.map fun t => cell T t.toNat p)) := by
  unfold someP
  refine List.filter_congr fun p _ => ?_
  rw [Bool.eq_iff_iff, List.any_eq_true, decide_eq_true_iff]
  constructor
  · rintro ⟨t, ht, hb⟩
    have h1 := of_decide_eq_true hb
    have h2 := maxI_le (List.mem_map.mpr ⟨t, ht, rfl⟩ : cell T t.toNat p ∈ S.map fun t => cell T t.toNat p)
    omega
  · intro hb
    have := maxI_mem (ns := S.map fun t => cell T t.toNat p) (by simpa using h)
    obtain ⟨t, ht, e⟩ := List.mem_map.mp this
    exact ⟨t, ht, decide_eq_true (by rw [e]; exact hb)⟩
theorem rising_iff {S l : List Int} (hp : l.Perm S) (hs : l.Pairwise (· ≤ ·)) (nd : S.Nodup) : decide (S = l) = decide (S.Pairwise (· < ·)) := by
  refine decide_eq_decide.mpr ⟨fun e => ?_, fun h => ?_⟩
  · subst e
    exact L2.lt_of_le_nodup _ hs nd
  · have ndl : l.Nodup := hp.nodup_iff.mpr nd
    exact rising_eq h (L2.lt_of_le_nodup _ hs ndl) fun k => (hp.mem_iff).symm
theorem ok_too_few {P : Program} {w : World} {K : PySem.W.Frag} {mg : Str → Option Value} {base : Heap} (M : Mg mg) (D : Def K mg "too_few" s_too_few ["table", "teachers", "least"]) (C_are_unlike : Cal P w K mg base 1 "are_unlike" ["some", "most"] (sp_are_unlike K)) : Cal P w K mg base 2 "too_few" ["table", "teachers", "least"] (sp_too_few K) := by
  refine D.cal sc_too_few (fun vs H Q E h => ?_) (fun f cdv A outer s H vs Q E hr h => ?_)
  · obtain ⟨a, b, rs, T, n, m, S, least, rfl, _⟩ := h
    rfl
  · obtain ⟨a, b, rs, T, n, m, S, least, rfl, hT, hR, hn, hn2, hm2, hb, hS, k⟩ := h
    obtain ⟨u0, hu0, hl0⟩ := hR.lt (show 0 < n by omega)
    obtain ⟨r0, hr0, h0⟩ := hT.at hu0
    refine ⟨_, (pss_cons (ps_if (PW.pt (pw_or (pt_cmpR (op_eqD hr.units) (pv 1) (pe_lst pa_nil) (nomark _)) (pw_or (pt_not (pt_val (pe_cal C_are_unlike hr (by rfl) (pa_cons (pv 1) (pa_cons (pe_callB call_len_seq (by rfl) M.len (by decide +kernel) (pa_cons (pv 0) pa_nil)) pa_nil))))) (pw_or1 (pt_cmpR (op_neD hr.units) (pv 1) (pe_callB cr_sortedI (by rfl) M.sorted (by decide +kernel) (pa_cons (pv 1) pa_nil)) (nomark _))))))
  (pss_one (ps_ret pe_bl))
  pss_nil)
  (pss_cons (ps_setLc (i := 3) (own := [("place", 4)]) (wi := (iRng1 (tCons (tCB (rLenS K) (tCons (tOp (rIxL K) (tVar 0) _) tNil)) tNil))) (g := gName 4) (tt := (tTest (tOp _ (tCB (rMax K) (tCons (tLc (iList K (tVar 1)) (gName 5) tYes (tOp (rIxL K) (tOp (rIxL K) (tVar 0) (tVar 5)) (tVar 4)) [5]) tNil)) (tVar 2)))) (te := (tVar 4)) (by rfl) sc_too_few.nd rfl rfl (sw_true rfl rfl rfl (by decide +kernel)) (pi_range1 (by rfl) M.range (pa_cons (pe_callB call_len_seq (by rfl) M.len (by decide +kernel) (pa_cons (pe_ix ix_list (pv 0) pe_int (fun _ _ => rfl)) pa_nil)) pa_nil)) (blkOk_by (by kernel_rfl)) (fun _ _ _ _ _ => (pg_name (i := 4) sc_too_few.nd rfl (Or.inr rfl))) (fun _ _ _ _ _ => (pts_one (pt_cmpR op_ge (pe_callB (cr_max rfl) (by rfl) M.max (by decide +kernel) (pa_cons (pe_lc (own := [("who", 5)]) (wi := (iList K (tVar 1))) (g := gName 5) (tt := tYes) (te := (tOp (rIxL K) (tOp (rIxL K) (tVar 0) (tVar 5)) (tVar 4))) (by rfl) sc_too_few.nd  (pi_list (pv 1)) (blkOk_by (by kernel_rfl)) (fun _ _ _ _ _ => (pg_name (i := 5) sc_too_few.nd rfl (Or.inl rfl))) (fun _ _ _ _ _ => pts_nil) (fun _ _ _ _ _ => (pe_ix ix_list (pe_ix ix_list (pv 0) (pv 5) (fun _ _ => rfl)) (pv 4) (fun _ _ => rfl)))) pa_nil)) (pv 2) (nomark _)))) (fun _ _ _ _ _ => (pv 4)))
  (pss_one (ps_ret (pe_cmpR op_lt (pe_callB call_len_seq (by rfl) M.len (by decide +kernel) (pa_cons (pv 3) pa_nil)) (pe_callB call_len_seq (by rfl) M.len (by decide +kernel) (pa_cons (pv 1) pa_nil)) (nomark _)))))), ?_⟩
    have hsq : SqL K H b (S.map V.int) := sq_of hb
    refine q_when (b := decide (S = []) || (!(decide S.Nodup && inRange n S) || !(decide (S.Pairwise (· < ·))))) ?_ (fun h1 H1 e1 => ?_) (fun h1 H1 e1 => ?_)
    · refine et_or (et_is (et_test (ev_eqDP (d := intsD S) (e := intsD []) (ed_of (ev_var rfl) fun H1 e1 => dp_ints (e1 _ _ hb)) (ed_lst eds_nil (by show 0 ≤ 100000; decide)) (shaped_ints _) (shaped_ints _))) (by rw [eqv_ints])) fun _ => ?_
      have hun : EvT (tB (tCall (sp_are_unlike K) [] E0 (tCons (tVar 1) (tCons (tCB (rLenS K) (tCons (tVar 0) tNil)) tNil)))) [some (V.ref a), some (V.ref b), some (V.int least), none, none, none] H (decide S.Nodup && inRange n S) :=
        et_B (ev_callV (ea_cons (ev_var rfl) (ea_cons (ev_is (ev_len (ev_var rfl) hT.sq) (show _ = V.int (n : Int) by rw [List.length_map, hT.len, hR.len])) ea_nil)) fun H1 e1 Q1 q1 => ⟨b, S, n, rfl, ex_l e1 hsq, hS, q1⟩)
      by_cases nd : S.Nodup
      · refine et_or (et_not hun) fun _ => ?_
        exact et_test (ev_neSort (d := intsD S) (ed_of (ev_var rfl) fun H1 e1 => dp_ints (e1 _ _ hb)) (evp_sortL (evp_ref (ev_var rfl) hsq) fun H1 v H2 h => ⟨b, h⟩) (shaped_ints _) fun l hp hw => by rw [eqv_ints, rising_iff hp hw nd])
      · refine et_or (et_not hun) fun hf => ?_
        rw [decide_eq_false nd] at hf
        cases hf
    · have hk : tooFewB T n m S least = false := by
        unfold tooFewB
        simp only [Bool.or_eq_true, decide_eq_true_eq, Bool.not_eq_true'] at h1
        rcases h1 with h1 | h1 | h1
        · simp [h1]
        · cases hr : inRange n S with
          | false => simp
          | true =>
            rw [hr, Bool.and_true] at h1
            have h2 := of_decide_eq_false h1
            have : ¬ S.Pairwise (· < ·) := fun z => h2 (rising_nodup z)
            simp [this]
        · have := of_decide_eq_false h1
          simp [this]
      rw [hk] at k
      exact s_ret ev_c fun H2 e2 => k _ H2 (e1.trans e2) rfl
    · simp only [Bool.or_eq_false_iff, decide_eq_false_iff_not, Bool.not_eq_false', Bool.and_eq_true, decide_eq_true_eq] at h1
      obtain ⟨hne, ⟨nd, hin⟩, hpw⟩ := h1
      have hT1 := hT.mono e1
      have hb1 := e1 _ _ hb
      have hk : tooFewB T n m S least = decide ((someP T m S least).length < S.length) := by
        unfold tooFewB
        simp [hne, hpw, hin]
      rw [hk] at k
      refine q_asgL (xs := given m (fun p => decide (least ≤ maxI (S.map fun t => cell T t.toNat p))) (fun p => .int (p : Int))) ?_ fun p2 H2 n2 e2 h2 => ?_
      · have hlc := el_lcR1 (σ := [some (V.ref a), some (V.ref b), some (V.int least), none, none, none]) (H := H1) (j := 4) (vs := [4]) (n := (m : Int)) (fun p => decide (least ≤ maxI (S.map fun t => cell T t.toNat p))) (fun p => .int (p : Int))
          (ta := tCons (tCB (rLenS K) (tCons (tOp (rIxL K) (tVar 0) (tC (.int 0))) tNil)) tNil) (t := tTest (tOp (rI0 fun i j => .bl (decide (j ≤ i))) (tCB (rMax K) (tCons (tLc (iList K (tVar 1)) (gName 5) tYes (tOp (rIxL K) (tOp (rIxL K) (tVar 0) (tVar 5)) (tVar 4)) [5]) tNil)) (tVar 2))) (te := tVar 4)
          (ea_cons (ev_is (ev_len (ev_ixL (ev_var rfl) ev_c hT1.sq (atI_of (j := 0) rfl (ref_at hr0))) (sq_of (e1 _ _ h0))) (by rw [List.length_map, hl0])) ea_nil) (by omega) (fun x => rfl) (fun p H3 e3 hp => ?_) (fun p H3 e3 hp _ => ev_var rfl)
        · exact hlc
        · have hp2 : p < m := by omega
          refine et_ge (i := maxI (S.map fun t => cell T t.toNat p)) (ev_maxL (ns := S.map fun t => cell T t.toNat p) ?_ (by simpa using hne)) (ev_var rfl) rfl
          rw [List.map_map]
          refine el_lcI (v := fun t => V.int (cell T t.toNat p)) (ev_var rfl) (sq_of (e3 _ _ hb1)) (by omega) (fun x => rfl) fun t ht H4 e4 => ?_
          obtain ⟨t0, t1⟩ := mem_range_of hin ht
          obtain ⟨u, y, hu, hul, hy⟩ := hR.cell (show t.toNat < n by omega) hp2
          rw [cell_of hu hy]
          have et : t = ((t.toNat : Nat) : Int) := by omega
          exact ev_cell (i := t.toNat) (j := p) (ev_var rfl) (by rw [← et]; exact ev_var rfl) (ev_var rfl) ((hT1.mono e3).mono e4) hu hy
      refine s_ret (v := .bl (decide ((someP T m S least).length < S.length))) (ev_is (ev_lt (ev_lenL (ev_var rfl) (sq_of h2)) (ev_lenL (ev_var rfl) (sq_of (e2 _ _ hb1)))) ?_) fun H3 e3 => k _ H3 ((e1.trans e2).trans e3) rfl
      rw [some_max hne]
      unfold given
      rw [List.length_map, List.length_map]
      congr 1
      exact decide_eq_decide.mpr (by omega)
end Lh

namespace Lh
open PySem PySem.Spec PyProof.Rows L2 Evl
theorem ok_Short___init__ {P : Program} {w : World} {K : PySem.W.Frag} {mg : Str → Option Value} {base : Heap} {CA CP CE CS CL : Addr} (M : Mg mg) (cs : Cs K mg CA CP CE CS CL) (D : DefM K CS "__init__" "Short.__init__" s_Short___init__ ["self", "teachers"]) : Mth P w K mg base 1 CS "__init__" ["self", "teachers"] (spInit1 K CS "teachers") := by
  refine D.mth sc_Short___init__ (fun vs H Q E h => ?_) (fun f cdv A outer s H vs Q E hr h => ?_)
  · obtain ⟨x, a, dx, xs, rfl, _⟩ := h
    rfl
  · obtain ⟨x, a, dx, xs, rfl, hx, hs, k⟩ := h
    exact ⟨_, (pss_one (ps_fld (pv 0) (pe_callTy call_list_of (by rfl) M.list_ (by decide +kernel) (pa_cons (pv 1) pa_nil)) rfl)), s_init1 cs.S.cl cs.nS rfl rfl hx hs k⟩
end Lh

namespace Lh
open PySem PySem.Spec PyProof.Rows L2 Evl
theorem ok_Short_shows {P : Program} {w : World} {K : PySem.W.Frag} {mg : Str → Option Value} {base : Heap} {CA CP CE CS CL : Addr} (M : Mg mg) (cs : Cs K mg CA CP CE CS CL) (D : DefM K CS "shows" "Short.shows" s_Short_shows ["self", "table"]) (C_too_few : Cal P w K mg base 2 "too_few" ["table", "teachers", "least"] (sp_too_few K)) : Mth P w K mg base 3 CS "shows" ["self", "table"] (sp_Short_shows K CS) := by
  refine D.mth sc_Short_shows (fun vs H Q E h => ?_) (fun f cdv A outer s H vs Q E hr h => ?_)
  · obtain ⟨x, b, q, dx, rs, T, n, m, ns, rfl, _⟩ := h
    rfl
  · obtain ⟨x, b, q, dx, rs, T, n, m, ns, rfl, hx, hq, hl, hT, hR, hn, hn2, hm2, k⟩ := h
    refine ⟨_, (pss_one (ps_ret (pe_cal C_too_few hr (by rfl) (pa_cons (pv 1) (pa_cons (pe_fld (pv 0) rfl) (pa_cons pe_int pa_nil)))))), ?_⟩
    refine s_ret (v := .bl (tooFewB T n m ns 1)) (ev_callV (ea_cons (ev_var rfl) (ea_cons (ev_fld (ev_var rfl) hx cs.S.cl cs.nS rfl) (ea_cons ev_c ea_nil))) fun H1 e1 Q1 q1 => ⟨b, q, rs, T, n, m, ns, 1, rfl, hT.mono e1, hR, hn, hn2, hm2, e1 _ _ hq, hl, q1⟩) fun H1 e1 => k _ H1 e1 rfl
end Lh

namespace Lh
open PySem PySem.Spec PyProof.Rows L2 Evl
section
variable {K : PySem.W.Frag} {σ : L2.St} {H : Hp} {ta tv : TE} {D : Ends} {tz : TS} {x C dx : Addr} {fs : List (Str × V)} {f : Str} {y : V} {xs : List V}
theorem s_fldV (h : Ev tv σ H y) (ha : Ev ta σ H (.ref x)) (hx : H x = some (.ins C dx fs)) (hc : Cls K C) (hn : NoAttr K C f) (hl : fs.length < 1000) (k : ∀ H1, Ex H H1 → D.nx σ (upd H1 x (.ins C dx (putF f y fs)))) : sFld K ta tv f D σ H :=
  h H (Ex.refl H) _ fun H1 e1 => ha H1 e1 _ fun H2 e2 => ⟨x, C, dx, fs, rfl, e2 _ _ (e1 _ _ hx), hc, hn, hl, k H2 (e1.trans e2)⟩
theorem s_fldL (h : EvL tv σ H xs) (ha : Ev ta σ H (.ref x)) (hx : H x = some (.ins C dx fs)) (hc : Cls K C) (hn : NoAttr K C f) (hl : fs.length < 1000) (k : ∀ p H1, Ex H H1 → H p = none → H1 p = some (.lst xs) → D.nx σ (upd H1 x (.ins C dx (putF f (.ref p) fs)))) : sFld K ta tv f D σ H :=
  h H (Ex.refl H) _ fun p H1 np e1 hp => ha H1 e1 _ fun H2 e2 => ⟨x, C, dx, fs, rfl, e2 _ _ (e1 _ _ hx), hc, hn, hl, k p H2 (e1.trans e2) np (e2 _ _ hp)⟩
theorem q_fldV (h : Ev tv σ H y) (ha : Ev ta σ H (.ref x)) (hx : H x = some (.ins C dx fs)) (hc : Cls K C) (hn : NoAttr K C f) (hl : fs.length < 1000) (k : ∀ H1, Ex H H1 → tz D σ (upd H1 x (.ins C dx (putF f y fs)))) : tSeq (sFld K ta tv f) tz D σ H := s_fldV (D := { D with nx := tz D }) h ha hx hc hn hl k
theorem q_fldL (h : EvL tv σ H xs) (ha : Ev ta σ H (.ref x)) (hx : H x = some (.ins C dx fs)) (hc : Cls K C) (hn : NoAttr K C f) (hl : fs.length < 1000) (k : ∀ p H1, Ex H H1 → H p = none → H1 p = some (.lst xs) → tz D σ (upd H1 x (.ins C dx (putF f (.ref p) fs)))) : tSeq (sFld K ta tv f) tz D σ H := s_fldL (D := { D with nx := tz D }) h ha hx hc hn hl k
end
theorem ok_Lasting___init__ {P : Program} {w : World} {K : PySem.W.Frag} {mg : Str → Option Value} {base : Heap} {CA CP CE CS CL : Addr} (M : Mg mg) (cl : CsL K mg CA CP CE CS CL) (D : DefM K CL "__init__" "Lasting.__init__" s_Lasting___init__ ["self", "hours", "classes", "teachers"]) : Mth P w K mg base 1 CL "__init__" ["self", "hours", "classes", "teachers"] (spInit3 K CL) := by
  refine D.mth sc_Lasting___init__ (fun vs H Q E h => ?_) (fun f cdv A outer s H vs Q E hr h => ?_)
  · obtain ⟨x, a, b, dx, h, xs, ys, rfl, _⟩ := h
    rfl
  · obtain ⟨x, a, b, dx, h, xs, ys, rfl, hx, ha, hb, k⟩ := h
    refine ⟨_, (pss_cons (ps_fld (pv 0) (pv 1) rfl)
  (pss_cons (ps_fld (pv 0) (pe_callTy call_list_of (by rfl) M.list_ (by decide +kernel) (pa_cons (pv 2) pa_nil)) rfl)
  (pss_one (ps_fld (pv 0) (pe_callTy call_list_of (by rfl) M.list_ (by decide +kernel) (pa_cons (pv 3) pa_nil)) rfl)))), ?_⟩
    refine q_fldV (ev_var rfl) (ev_var rfl) hx cl.L.cl cl.nh (by decide) fun H1 e1 => ?_
    have k1 : ∀ c o, c ≠ x → H c = some o → upd H1 x (.ins CL dx (putF "hours" (.int h) [])) c = some o := fun c o hc ho => by rw [upd_ne hc]; exact e1 _ _ ho
    have hx1 : upd H1 x (.ins CL dx (putF "hours" (.int h) [])) x = some (.ins CL dx [("hours", .int h)]) := upd_same
    generalize upd H1 x (.ins CL dx (putF "hours" (.int h) [])) = H2 at k1 hx1
    refine q_fldL (el_list (ev_var rfl) (sq_keep ha hx k1)) (ev_var rfl) hx1 cl.L.cl cl.nc (by show 1 < 1000; decide) fun p1 H3 e3 n1 h3 => ?_
    have hp1x : p1 ≠ x := fun z => by rw [z, hx1] at n1; cases n1
    have k3 : ∀ c o, c ≠ x → H2 c = some o → upd H3 x (.ins CL dx (putF "classes" (.ref p1) [("hours", .int h)])) c = some o := fun c o hc ho => by rw [upd_ne hc]; exact e3 _ _ ho
    have hx3 : upd H3 x (.ins CL dx (putF "classes" (.ref p1) [("hours", .int h)])) x = some (.ins CL dx [("hours", .int h), ("classes", .ref p1)]) := upd_same
    have h3' : upd H3 x (.ins CL dx (putF "classes" (.ref p1) [("hours", .int h)])) p1 = some (.lst xs) := by rw [upd_ne hp1x]; exact h3
    generalize upd H3 x (.ins CL dx (putF "classes" (.ref p1) [("hours", .int h)])) = H4 at k3 hx3 h3'
    refine s_fldL (el_list (ev_var rfl) (sq_keep (sq_keep hb hx k1) hx1 k3)) (ev_var rfl) hx3 cl.L.cl cl.nt (by show 2 < 1000; decide) fun p2 H5 e5 n2 h5 => ?_
    have hp2x : p2 ≠ x := fun z => by rw [z, hx3] at n2; cases n2
    have h12 : p1 ≠ p2 := fun z => by rw [← z, h3'] at n2; cases n2
    have back : ∀ c, c ≠ x → H4 c = none → H c = none := fun c hc h => by
      cases hh : H c with
      | none => rfl
      | some o =>
        have := k3 c o hc (k1 c o hc hh)
        rw [h] at this
        cases this
    have back2 : ∀ c, c ≠ x → H2 c = none → H c = none := fun c hc h => by
      cases hh : H c with
      | none => rfl
      | some o =>
        have := k1 c o hc hh
        rw [h] at this
        cases this
    exact k p1 p2 _ (fun c o hc ho => by rw [upd_ne hc]; exact e5 _ _ (k3 c o hc (k1 c o hc ho))) (back2 p1 hp1x n1) (back p2 hp2x n2) h12 hp1x hp2x (by rw [upd_ne hp1x]; exact e5 _ _ h3') (by rw [upd_ne hp2x]; exact h5) upd_same
end Lh

namespace Lh
open PySem PySem.Spec PyProof.Rows L2 Evl
theorem given_int (n : Nat) (g : Nat → Int) : given n (fun _ => true) (fun i => V.int (g i)) = ((List.range n).map g).map V.int := by
  unfold given
  rw [List.map_map]
  have : (List.range n).filter (fun _ => true) = List.range n := by simp
  rw [this]
  rfl
theorem ok_Lasting_shows {P : Program} {w : World} {K : PySem.W.Frag} {mg : Str → Option Value} {base : Heap} {CA CP CE CS CL : Addr} (M : Mg mg) (cl : CsL K mg CA CP CE CS CL) (D : DefM K CL "shows" "Lasting.shows" s_Lasting_shows ["self", "table"]) (C_are_unlike : Cal P w K mg base 1 "are_unlike" ["some", "most"] (sp_are_unlike K)) (C_too_few : Cal P w K mg base 2 "too_few" ["table", "teachers", "least"] (sp_too_few K)) : Mth P w K mg base 3 CL "shows" ["self", "table"] (sp_Lasting_shows K CL) := by
  refine D.mth sc_Lasting_shows (fun vs H Q E h => ?_) (fun f cdv A outer s H vs Q E hr h => ?_)
  · obtain ⟨x, b, q1, q2, rs, T, n, m, h, ns, S, rfl, _⟩ := h
    rfl
  · obtain ⟨x, b, q1, q2, rs, T, n, m, h, ns, S, rfl, ⟨hl1, hl2, hq1, hq2, dx, hx⟩, hT, hR, hn, hn2, hm2, k⟩ := h
    obtain ⟨u0, hu0, hl0⟩ := hR.lt (show 0 < n by omega)
    obtain ⟨r0, hr0, h0⟩ := hT.at hu0
    have el : ((rs.map V.ref).length : Int) = (n : Int) := by rw [List.length_map, hT.len, hR.len]
    refine ⟨_, (pss_cons (ps_if (PW.pt (pw_or (pt_cmpR op_ne (pe_callB call_len_seq (by rfl) M.len (by decide +kernel) (pa_cons (pe_fld (pv 0) rfl) pa_nil)) (pe_callB call_len_seq (by rfl) M.len (by decide +kernel) (pa_cons (pv 1) pa_nil)) (nomark _)) (pw_or1 (pt_not (pt_val (pe_cal C_are_unlike hr (by rfl) (pa_cons (pe_fld (pv 0) rfl) (pa_cons (pe_callB call_len_seq (by rfl) M.len (by decide +kernel) (pa_cons (pe_ix ix_list (pv 1) pe_int (fun _ _ => rfl)) pa_nil)) pa_nil))))))))
  (pss_one (ps_ret pe_bl))
  pss_nil)
  (pss_cons (ps_if (pt_cmpR op_ne (pe_callB (cr_min rfl) (by rfl) M.min (by decide +kernel) (pa_cons (pe_lc (own := [("row", 2), ("place", 3)]) (wi := (iZip K (tCons (tVar 1) (tCons (tFld K (tVar 0) "classes") tNil)))) (g := gTup K 2 (gCons (gName 2) (gCons (gName 3) gNil))) (tt := tYes) (te := (tOp (rIxL K) (tVar 2) (tVar 3))) (by rfl) sc_Lasting_shows.nd  (pi_zip (by rfl) M.zip (pa_cons (pv 1) (pa_cons (pe_fld (pv 0) rfl) pa_nil))) (blkOk_by (by kernel_rfl)) (fun _ _ _ _ _ => (pg_tup rfl (pgs_cons (pg_name (i := 2) sc_Lasting_shows.nd rfl (Or.inl rfl)) (pgs_cons (pg_name (i := 3) sc_Lasting_shows.nd rfl (Or.inl rfl)) pgs_nil)))) (fun _ _ _ _ _ => pts_nil) (fun _ _ _ _ _ => (pe_ix ix_list (pv 2) (pv 3) (fun _ _ => rfl)))) pa_nil)) (pe_fld (pv 0) rfl) (nomark _))
  (pss_one (ps_ret pe_bl))
  pss_nil)
  (pss_one (ps_ret (pe_cal C_too_few hr (by rfl) (pa_cons (pv 1) (pa_cons (pe_fld (pv 0) rfl) (pa_cons (pe_op op_add (pe_fld (pv 0) rfl) pe_int) pa_nil)))))))), ?_⟩
    refine q_when (b := !chosenB T n m ns) ?_ (fun h1 H1 e1 => ?_) (fun h1 H1 e1 => ?_)
    · refine et_is (et_or (et_ne (k := !decide (ns.length = n)) (ev_lenL (ev_fld (ev_var rfl) hx cl.L.cl cl.nc rfl) (sq_of hq1)) (ev_lenL (ev_var rfl) hT.sq) ?_) fun _ => et_not (et_B (ev_callV (v := .bl (decide ns.Nodup && inRange m ns)) (ea_cons (ev_fld (ev_var rfl) hx cl.L.cl cl.nc rfl) (ea_cons (ev_is (ev_lenL (ev_ixL (ev_var rfl) ev_c hT.sq (atI_of (j := 0) rfl (ref_at hr0))) (sq_of h0)) (show _ = V.int (m : Int) by rw [List.length_map, hl0])) ea_nil)) fun H1 e1 Q1 q1' => ⟨q1, ns, m, rfl, sq_of (e1 _ _ hq1), hl1, q1'⟩))) ?_
      · rw [List.length_map, el]
        congr 1
        exact decide_eq_decide.mpr (by omega)
      · unfold chosenB
        cases decide (ns.length = n) <;> simp
    · have h2 : lastB T n m h ns S = false := by
        unfold lastB
        rw [Bool.not_eq_true'] at h1
        rw [h1]
        rfl
      rw [h2] at k
      exact s_ret ev_c fun H2 e2 => k _ H2 (e1.trans e2) rfl
    · rw [Bool.not_eq_false'] at h1
      have h2 : lastB T n m h ns S = (decide (minI (cellsOf T n ns) = h) && tooFewB T n m S (h + 1)) := by
        unfold lastB
        rw [h1]
        rfl
      rw [h2] at k
      unfold chosenB at h1
      simp only [Bool.and_eq_true, decide_eq_true_eq] at h1
      obtain ⟨hlen, hnd, hin⟩ := h1
      have hT1 := hT.mono e1
      have hcells : EvL (tLc (iZip K (tCons (tVar 1) (tCons (tFld K (tVar 0) "classes") tNil))) (gTup K 2 (gCons (gName 2) (gCons (gName 3) gNil))) tYes (tOp (rIxL K) (tVar 2) (tVar 3)) [2, 3]) [some (.ref x), some (.ref b), none, none] H1 ((cellsOf T n ns).map V.int) := by
        unfold cellsOf
        rw [← given_int]
        have hmin : n = min (rs.map V.ref).length (ns.map V.int).length := by
          rw [List.length_map, List.length_map, hT.len, hR.len, hlen]
          omega
        have := el_lcZ (K := K) (tl := tVar 1) (tl2 := tFld K (tVar 0) "classes") (σ := [some (.ref x), some (.ref b), none, none]) (H := H1) (j := 2) (k := 3) (vs := [2, 3]) (t := tYes) (te := tOp (rIxL K) (tVar 2) (tVar 3)) (fun _ => true) (fun t => V.int (cell T t (ns.getD t 0).toNat)) (ev_var rfl) (ev_fld (ev_var rfl) (e1 _ _ hx) cl.L.cl cl.nc rfl) hT1.sq (sq_of (e1 _ _ hq1)) (by rw [List.length_map, hT.len, hR.len]; omega) (fun x y => rfl) (fun i y z H2 e2 hy hz => et_yes) (fun i y z H2 e2 hy hz _ => ?_)
        · rw [← hmin] at this
          exact this
        · have hi : i < n := by
            have := (List.getElem?_eq_some_iff.mp hy).1
            rw [List.length_map, hT.len, hR.len] at this
            exact this
          have hi2 : i < ns.length := by omega
          have hz2 : ns[i]? = some ns[i] := by simp [hi2]
          have ez : z = .int ns[i] := Option.some.inj (hz.symm.trans (int_at hz2))
          subst ez
          obtain ⟨p0, p1⟩ := mem_range_of hin (List.mem_of_getElem? hz2)
          obtain ⟨u, y0, hu, hul, hy0⟩ := hR.cell hi (show ns[i].toNat < m by omega)
          obtain ⟨r, hr1, hr2⟩ := (hT1.mono e2).at hu
          have ey : y = .ref r := Option.some.inj (hy.symm.trans (ref_at hr1))
          subst ey
          rw [getD_of hz2, cell_of hu hy0]
          exact ev_ixL (ev_var rfl) (ev_var rfl) (sq_of hr2) (atI_of (j := ns[i].toNat) (by omega) (int_at hy0))
      refine q_when (b := !decide (minI (cellsOf T n ns) = h)) (et_ne (ev_minL hcells (cells_ne hn)) (ev_fld (ev_var rfl) (e1 _ _ hx) cl.L.cl cl.nh rfl) rfl) (fun h3 H2 e2 => ?_) (fun h3 H2 e2 => ?_)
      · rw [Bool.not_eq_true'] at h3
        rw [h3, Bool.false_and] at k
        exact s_ret ev_c fun H3 e3 => k _ H3 ((e1.trans e2).trans e3) rfl
      · rw [Bool.not_eq_false'] at h3
        rw [h3, Bool.true_and] at k
        have hx2 := e2 _ _ (e1 _ _ hx)
        exact s_ret (v := .bl (tooFewB T n m S (h + 1))) (ev_callV (ea_cons (ev_var rfl) (ea_cons (ev_fld (ev_var rfl) hx2 cl.L.cl cl.nt rfl) (ea_cons (ev_add (ev_fld (v := .int h) (ev_var rfl) hx2 cl.L.cl cl.nh rfl) ev_c) ea_nil))) fun H3 e3 Q3 q3 => ⟨b, q2, rs, T, n, m, S, h + 1, rfl, (hT1.mono e2).mono e3, hR, hn, hn2, hm2, e3 _ _ (e2 _ _ (e1 _ _ hq2)), hl2, q3⟩) fun H3 e3 => k _ H3 ((e1.trans e2).trans e3) rfl
end Lh

namespace Lh
open PySem PySem.Spec PyProof.Rows L2 Evl
theorem s_orCall {σ : L2.St} {H : Hp} {t u : TT} {tu : TS} {D : Ends} (h : EvT t σ H false) (k : ∀ H1, Ex H H1 → ∀ Q : Bool → Hp → Prop, (∀ H2, tu D σ H2 → Q true H2) → (∀ H2, D.nx σ H2 → Q false H2) → u σ H1 Q) : tIfS (tOr t u) tu tNext D σ H := h H (Ex.refl H) _ fun H1 e => by
  rw [if_neg Bool.false_ne_true]
  exact k H1 e _ (fun H2 h => by rw [if_pos rfl]; exact h) (fun H2 h => by rw [if_neg Bool.false_ne_true]; exact h)
theorem e_callA {σ : L2.St} {H : Hp} {sp : Sp} {E : XK} {ta : TA} {vs : List V} {Q : VK} (h : EvA ta σ H vs) (k : ∀ H1, Ex H H1 → sp (vs ++ []) H1 Q E) : tCall sp [] E ta σ H Q := h H (Ex.refl H) _ k
theorem keys_lt {T : List (List Int)} {n m : Nat} {least : Int} {M : List (Nat × Nat)} (nd : (M.map (·.1)).Nodup) (hf : Fit T n m least (fun p => M.lookup p)) : M.length ≤ m := by
  have := phpN (m := List.range m) nd fun p hp => by
    obtain ⟨⟨q, t⟩, hq, rfl⟩ := List.mem_map.mp hp
    exact List.mem_range.mpr (hf q t (mem_lookup nd hq)).2.1
  rw [List.length_map, List.length_range] at this
  exact this
theorem dM_len (M : List (Nat × Nat)) : (dM M).length = M.length := List.length_map ..
theorem dT_len (tt : List Nat) : (dT tt).length = tt.length := List.length_map ..
theorem tt_le {m : Nat} {tt : List Nat} (nd : tt.Nodup) (h : ∀ p ∈ tt, p < m) : tt.length ≤ m := by
  have := phpN (m := List.range m) nd fun p hp => List.mem_range.mpr (h p hp)
  rw [List.length_range] at this
  exact this
theorem ok_freed {P : Program} {w : World} {K : PySem.W.Frag} {mg : Str → Option Value} {base : Heap} (M : Mg mg) (D : Def K mg "freed" s_freed ["table", "least", "who", "taken", "tried"]) : ∀ d, Cal P w K mg base d "freed" ["table", "least", "who", "taken", "tried"] (sp_freed K d)
  | 0 => by
    obtain ⟨f, fd, hm, F, hb⟩ := D.ex
    obtain ⟨oc, od, _, _, _, _, _, _, osl, _, lk, _⟩ := F.ex
    exact ⟨f, fd, hm, F.kp, hb, ⟨oc, od, osl, lk⟩, ⟨fun vs H Q E h => h.elim, fun A outer s H args us vs Q E hr he hb hv h => h.elim⟩⟩
  | d + 1 => by
    have C_freed := ok_freed (P := P) (w := w) (base := base) M D d
    refine D.cal sc_freed (fun vs H Q E h => ?_) (fun f cdv A outer s H vs Q E hr h => ?_)
    · obtain ⟨a, tk, tr, rs, T, n, m, least, wh, Mx, tt, rfl, _⟩ := h
      rfl
    · obtain ⟨a, tk, tr, rs, T, n, m, least, wh, Mx, tt, rfl, hT, hR, hn2, hm2, hwh, hne, htk, hMn, hMl, htr, htn, htm, hd, hfit, kw, kl⟩ := h
      have hu := Nat.lt_of_le_of_lt (Nat.add_le_add_left (show 1 ≤ 64 by decide) _) hr.units
      refine ⟨_, (pss_cons (ps_for PassesOwn.never rfl (pi_enum (by rfl) M.enumerate (pa_cons (pe_ix ix_list (pv 0) (pv 2) (fun _ _ => rfl)) pa_nil)) (pg_tup rfl (pgs_cons (pg_name (i := 5) sc_freed.nd rfl (Or.inl rfl)) (pgs_cons (pg_name (i := 6) sc_freed.nd rfl (Or.inl rfl)) pgs_nil)))
  (pss_one (ps_if (PW.pt (pw_and (pt_cmpR op_ge (pv 6) (pv 1) (nomark _)) (pw_and1 (pt_cmp (pc_dnotin hu (pv 5) (pv 4))))))
  (pss_cons (ps_dput hu (pv 4) (pv 5) pe_bl rfl)
  (pss_one (ps_if (PW.pt (pw_or (pt_cmp (pc_dnotin hu (pv 5) (pv 3))) (pw_or1 (pt_val (pe_cal C_freed hr (by rfl) (pa_cons (pv 0) (pa_cons (pv 1) (pa_cons (pe_dget hu (pv 3) (pv 5) (fun _ _ => rfl)) (pa_cons (pv 3) (pa_cons (pv 4) pa_nil))))) (Nat.le_refl _))))))
  (pss_cons (ps_dput hu (pv 3) (pv 5) (pv 2) rfl)
  (pss_one (ps_ret pe_bl)))
  pss_nil)))
  pss_nil)))
  (pss_one (ps_ret pe_bl))), ?_⟩
      obtain ⟨u, hu1, hul⟩ := hR.lt hwh
      obtain ⟨r, hr1, hr2⟩ := hT.at hu1
      have hxl : (u.map V.int).length = m := by rw [List.length_map, hul]
      have tabOf : ∀ {H' : Hp}, ExB tk tr H H' → Tab H' a rs T := fun e => tab_exB hT e ⟨_, htk⟩ ⟨_, htr⟩
      refine q_forE (ev_row (ev_var rfl) (ev_var rfl) hT hr1) (sq_of hr2) (fun i σ' H' => (∃ y5 y6, σ' = [some (.ref a), some (.int least), some (.int (wh : Int)), some (.ref tk), some (.ref tr), y5, y6]) ∧ ExB tk tr H H' ∧ H' tk = some (.dK (dM Mx)) ∧ ∃ tt', H' tr = some (.dK (dT tt')) ∧ Mid T n m least wh (fun p => Mx.lookup p) tt i tt' ∧ ∀ p ∈ tt', p < m)
        (fun H1 e1 => ⟨⟨none, none, rfl⟩, .of e1, e1 _ _ htk, tt, e1 _ _ htr, mid_start htn, htm⟩) (fun i σ' H' _ q => ?_) (fun i x σ' H' hx q H2 e2 => ?_) (fun σ' H' q => ?_)
      · have := (tabOf q.2.1).at hu1
        obtain ⟨r', h1, h2⟩ := this
        have : r' = r := Option.some.inj (h1.symm.trans hr1)
        subst this
        exact sq_of h2
      · obtain ⟨⟨y5, y6, rfl⟩, eb, hk1, tt', ht1, hmid, hlt⟩ := q
        have hi : i < m := by
          have := (List.getElem?_eq_some_iff.mp hx).1
          omega
        obtain ⟨u', y, hu', _, hy⟩ := hR.cell hwh hi
        have : u' = u := Option.some.inj (hu'.symm.trans hu1)
        subst this
        have ex : x = .int y := Option.some.inj (hx.symm.trans (int_at hy))
        subst ex
        have hc := cell_of hu' hy
        have hk2 := e2 _ _ hk1
        have ht2 := e2 _ _ ht1
        have eb2 : ExB tk tr H H2 := eb.trans (.of e2)
        have hlen : tt'.length ≤ m := tt_le hmid.nd hlt
        refine s_when (b := decide (least ≤ y) && !decide (i ∈ tt')) (et_is (et_and (et_ge (ev_var rfl) (ev_var rfl) rfl) fun _ => et_dnotin (k := (i : Int)) (ev_var rfl) (ev_var rfl) ht2) (by rw [val_dT])) (fun hb H3 e3 => ?_) (fun hb H3 e3 => ?_)
        · rw [Bool.and_eq_true, Bool.not_eq_true', decide_eq_true_eq, decide_eq_false_iff_not] at hb
          obtain ⟨hb1, hb2⟩ := hb
          have hadj : Adj T n m least wh i := ⟨hwh, hi, by rw [hc]; exact hb1⟩
          have hk3 := e3 _ _ hk2
          refine q_dput (k := (i : Int)) ev_c (ev_var rfl) (ev_var rfl) (e3 _ _ ht2) (by rw [dT_len]; omega) fun H4 e4 => ?_
          rw [put_dT hb2]
          have eb5 : ExB tk tr H (upd H4 tr (.dK (dT (tt' ++ [i])))) := (eb2.trans (.of (e3.trans e4))).updB
          have hk5 : upd H4 tr (.dK (dT (tt' ++ [i]))) tk = some (.dK (dM Mx)) := by rw [upd_ne hne]; exact e4 _ _ hk3
          have ht5 : upd H4 tr (.dK (dT (tt' ++ [i]))) tr = some (.dK (dT (tt' ++ [i]))) := upd_same
          generalize upd H4 tr (.dK (dT (tt' ++ [i]))) = H5 at eb5 hk5 ht5
          have nd2 : (tt' ++ [i]).Nodup := List.nodup_append.mpr ⟨hmid.nd, by simp, fun q1 hq1 z hz hxz => by
            have : z = i := by simpa using hz
            rw [this] at hxz
            rw [hxz] at hq1
            exact hb2 hq1⟩
          have hlt2 : ∀ p ∈ tt' ++ [i], p < m := fun p hp => by
            rcases List.mem_append.mp hp with h | h
            · exact hlt p h
            · have : p = i := by simpa using h
              omega
          cases hlk : Mx.lookup i with
          | none =>
            refine s_when (b := true) (et_is (et_or (b := false) (et_dnotin (k := (i : Int)) (ev_var rfl) (ev_var rfl) hk5) fun hf => ?_) ?_) (fun _ H6 e6 => ?_) (fun hf => nomatch hf)
            · rw [val_dM, hlk] at hf
              cases hf
            · rw [val_dM, hlk]
              rfl
            · refine q_dput (k := (i : Int)) (ev_var rfl) (ev_var rfl) (ev_var rfl) (e6 _ _ hk5) (by rw [dM_len]; omega) fun H7 e7 => ?_
              rw [put_dM]
              refine s_ret ev_c fun H8 e8 => kw H8 (putN Mx i wh) (tt' ++ [i]) ((eb5.trans (.of (e6.trans e7))).updA.trans (.of e8)) (e8 _ _ upd_same) (keys_putN _ _ hMn) (e8 _ _ (by rw [upd_ne (Ne.symm hne)]; exact e7 _ _ (e6 _ _ ht5))) ?_
              rw [lookup_putN]
              exact won_free hmid.sub hfit hadj hb2 hlk
          | some t =>
            have htn2 : t < n := (hfit i t hlk).1
            refine s_orCall (et_is (et_dnotin (k := (i : Int)) (ev_var rfl) (ev_var rfl) hk5) (by rw [val_dM, hlk]; rfl)) fun H6 e6 Q6 qt qf => ?_
            have hk6 := e6 _ _ hk5
            have ht6 := e6 _ _ ht5
            have eb6 : ExB tk tr H H6 := eb5.trans (.of e6)
            have hlen2 : tt'.length + 1 ≤ m := by
              have := tt_le nd2 hlt2
              rw [List.length_append] at this
              exact this
            have hlen3 : tt.length ≤ tt'.length := phpN htn hmid.sub
            refine e_callA (ea_cons (ev_var rfl) (ea_cons (ev_var rfl) (ea_cons (ev_dget (k := (i : Int)) (v := .int (t : Int)) (ev_var rfl) (ev_var rfl) hk6 (by rw [val_dM, hlk]; rfl)) (ea_cons (ev_var rfl) (ea_cons (ev_var rfl) ea_nil))))) fun H7 e7 => ?_
            cases d with
            | zero => omega
            | succ d =>
              refine ⟨a, tk, tr, rs, T, n, m, least, t, Mx, tt' ++ [i], rfl, tabOf (eb6.trans (.of e7)), hR, hn2, hm2, htn2, hne, e7 _ _ hk6, hMn, hMl, e7 _ _ ht6, nd2, hlt2, by rw [List.length_append, List.length_singleton]; omega, hfit, fun H8 M' tt2 eb8 hk8 hMn' ht8 hwon => ⟨true, rfl, ?_⟩, fun H8 tt2 eb8 hk8 ht8 hlost hlt3 => ⟨false, rfl, ?_⟩⟩
              · refine qt H8 ?_
                have hMl' := keys_lt hMn' hwon.fit
                refine q_dput (k := (i : Int)) (ev_var rfl) (ev_var rfl) (ev_var rfl) hk8 (by rw [dM_len]; omega) fun H9 e9 => ?_
                rw [put_dM]
                refine s_ret ev_c fun H10 e10 => kw H10 (putN M' i wh) tt2 (((eb6.trans (.of e7)).trans (eb8.trans (.of e9))).updA.trans (.of e10)) (e10 _ _ upd_same) (keys_putN _ _ hMn') (e10 _ _ (by rw [upd_ne (Ne.symm hne)]; exact e9 _ _ ht8)) ?_
                rw [lookup_putN]
                exact won_moved hmid.sub hadj hb2 hlk hwon
              · exact qf H8 ⟨⟨_, _, rfl⟩, (eb6.trans (.of e7)).trans eb8, hk8, tt2, ht8, hmid.lost hi hlk hlost, hlt3⟩
        · refine ⟨⟨_, _, rfl⟩, eb2.trans (.of e3), e3 _ _ hk2, tt', e3 _ _ ht2, hmid.skip fun ha => ?_, hlt⟩
          have h1 := ha.2.2
          rw [hc] at h1
          rw [decide_eq_true h1, Bool.true_and] at hb
          simpa using hb
      · obtain ⟨⟨y5, y6, rfl⟩, eb, hk1, tt', ht1, hmid, hlt⟩ := q
        rw [hxl] at hmid
        exact s_ret ev_c fun H3 e3 => kl H3 tt' (eb.trans (.of e3)) (e3 _ _ hk1) (e3 _ _ ht1) hmid.done hlt
end Lh

namespace Lh
open PySem PySem.Spec PyProof.Rows L2 Evl
theorem turns_keys {σ0 : L2.St} {H1 : Hp} {d : Addr} {o : Obj} {kvs : List (Key × V)} {j : Nat} (hd : H1 d = some (.frz o (.dK kvs))) : Turns (Itk d o kvs) kvs.length (gName j) σ0 H1 (fun i => σ0.set j (kvs[i]?.map fun kv => kV kv.1)) := by
  refine ⟨fun i H' e hi => ⟨e _ _ hd, hi⟩, fun H' e => ⟨e _ _ hd, Nat.le_refl _⟩, fun i x H' H'' hi e y Q q => ?_⟩
  obtain ⟨e1, k, v, hk, hx⟩ := y
  subst e1
  subst hx
  have q2 := q _ (Ex.refl _)
  rw [hk] at q2
  exact q2
/-- [.. for k in d] -/
theorem el_lockK {σ : L2.St} {H : Hp} {te : TE} {vs : List Nat} {i j : Nat} {d : Addr} {kvs : List (Key × V)} (v : Nat → V) (hv : σ[i]? = some (some (.ref d))) (hd : H d = some (.dK kvs)) (hz : kvs.length ≤ 40000) (hw : ∀ x, wipe ((wipe σ vs).set j (some x)) vs = wipe σ vs)
    (he : ∀ (z : Nat) kv H1, (∀ c o, c ≠ d → H c = some o → H1 c = some o) → kvs[z]? = some kv → Ev te ((wipe σ vs).set j (some (kV kv.1))) H1 (v z)) :
    EvL (tLockE (tLc (iKeys (tVar i)) (gName j) tYes te vs)) σ H (given kvs.length (fun _ => true) v) := fun H0 e Q q => ⟨d, .dK kvs, e _ _ hd, trivial, fun od => ⟨.ref d, hv, d, od, rfl, .inl ⟨kvs, upd_same, by
  have ga : ∀ i, i < kvs.length → ∃ kv, kvs[i]? = some kv := fun i hi => ⟨kvs[i], by simp [hi]⟩
  show LcGo (Itk d od kvs) (gName j) tYes te vs σ (upd H0 d (.frz od (.dK kvs))) (fun v H' => H' d = some (.frz od (.dK kvs)) ∧ Q v (upd H' d (.dK kvs)))
  refine lc_vals (fun _ => true) v (turns_keys upd_same) (fun z hz => by obtain ⟨kv, hk⟩ := ga z hz; rw [hk]; exact hw _) hz (fun z H' hz e' => et_yes) (fun z H' hz e' _ => ?_) (fun D H2 hD e2 h2 => ?_)
  · obtain ⟨kv, hk⟩ := ga z hz
    have := he z kv H' (fun c o hc ho => e' _ _ (by rw [upd_ne hc]; exact e _ _ ho)) hk
    show Ev te ((wipe σ vs).set j (kvs[z]?.map fun kv => kV kv.1)) H' (v z)
    rw [hk]
    exact this
  · have hne : D ≠ d := fun z => by
      rw [z, upd_same] at hD
      cases hD
    refine ⟨e2 _ _ upd_same, q D _ (by rw [upd_ne hne] at hD; exact hD) (fun c o hc => ?_) (by rw [upd_ne hne]; exact h2)⟩
    by_cases hcd : c = d
    · subst hcd
      rw [upd_same]
      rw [e _ _ hd] at hc
      exact hc
    · rw [upd_ne hcd]
      exact e2 _ _ (by rw [upd_ne hcd]; exact hc)⟩⟩⟩
/-- for k, v in d.items() -/
theorem q_lockI {K : PySem.W.Frag} {σ : L2.St} {H : Hp} {i j k : Nat} {d : Addr} {kvs : List (Key × V)} {tu tz : TS} {D : Ends} (hv : σ[i]? = some (some (.ref d))) (hd : H d = some (.dK kvs)) (Pv : Nat → L2.St → Hp → Prop) (h0 : ∀ od, Pv 0 σ (upd H d (.frz od (.dK kvs))))
    (hs : ∀ od (z : Nat) kv σ' H', kvs[z]? = some kv → H' d = some (.frz od (.dK kvs)) → Pv z σ' H' → ∀ H2, Ex H' H2 → ∀ D' : Ends, (∀ σ'' H'', H'' d = some (.frz od (.dK kvs)) → Pv (z + 1) σ'' H'' → D'.nx σ'' H'') → tu D' ((σ'.set j (some (kV kv.1))).set k (some kv.2)) H2)
    (hx : ∀ od σ' H', H' d = some (.frz od (.dK kvs)) → Pv kvs.length σ' H' → tz D σ' (upd H' d (.dK kvs))) :
    tSeq (tLock (tFor (iItems (tVar i)) (gTup K 2 (gCons (gName j) (gCons (gName k) gNil))) tu)) tz D σ H := ⟨d, .dK kvs, hd, trivial, fun od => ⟨.ref d, hv, d, od, kvs, rfl, upd_same, by
  refine for_it (walk_items (d := d) (o := od) (kvs := kvs)) (fun z σ' H' => H' d = some (.frz od (.dK kvs)) ∧ Pv z σ' H') ⟨upd_same, h0 od⟩ (fun z σ' H' _ p => p.1) (fun z x σ' H1 H2 hz p y => ?_) (fun σ' H' p => ⟨p.1, hx od σ' H' p.1 p.2⟩)
  obtain ⟨T, u, w, rfl, hT, rfl, h1, h2⟩ := y
  have h1 : Option.map (fun kv => kV kv.1) kvs[z]? = some u := h1
  have h2 : Option.map Prod.snd kvs[z]? = some w := h2
  cases hk : kvs[z]? with
  | none => rw [hk] at h1; cases h1
  | some kv =>
    rw [hk] at h1 h2
    have e1 : kV kv.1 = u := Option.some.inj h1
    have e2 : kv.2 = w := Option.some.inj h2
    subst e1
    subst e2
    exact gpair (st_of upd_same) (hs od z kv σ' H1 hk p.1 p.2 _ (Ex.new hT) _ fun σ'' H'' a b => ⟨a, b⟩)⟩⟩
theorem s_notCall {σ : L2.St} {H : Hp} {u : TT} {tu : TS} {D : Ends} (k : ∀ Q : Bool → Hp → Prop, (∀ H2, tu D σ H2 → Q false H2) → (∀ H2, D.nx σ H2 → Q true H2) → u σ H Q) : tIfS (tNot u) tu tNext D σ H :=
  k _ (fun H2 h => by show if (!false) = true then _ else _; rw [if_pos (show (!false) = true from rfl)]; exact h) (fun H2 h => by show if (!true) = true then _ else _; rw [if_neg (by decide)]; exact h)
theorem q_dnew {σ : L2.St} {H : Hp} {i : Nat} {tz : TS} {D : Ends} (k : ∀ p, H p = none → tz D (σ.set i (some (.ref p))) (upd H p (.dK []))) : tSeq (tAsg tDNewK (gName i)) tz D σ H := k
theorem exb_ex {a b : Addr} {H H1 H2 : Hp} (e : Ex H H1) (ha : H a = none) (hb : H b = none) (f : ExB a b H1 H2) : Ex H H2 := fun c o hc => f c o (fun z => by rw [z, ha] at hc; cases hc) (fun z => by rw [z, hb] at hc; cases hc) (e _ _ hc)
theorem ok_chosen {P : Program} {w : World} {K : PySem.W.Frag} {mg : Str → Option Value} {base : Heap} (M : Mg mg) (D : Def K mg "chosen" s_chosen ["table", "least"]) (C_freed : Cal P w K mg base 21 "freed" ["table", "least", "who", "taken", "tried"] (sp_freed K 21)) : Cal P w K mg base 22 "chosen" ["table", "least"] (sp_chosen K) := by
  refine D.cal sc_chosen (fun vs H Q E h => ?_) (fun f cdv A outer s H vs Q E hr h => ?_)
  · obtain ⟨a, rs, T, n, m, least, rfl, _⟩ := h
    rfl
  · obtain ⟨a, rs, T, n, m, least, rfl, hT, hR, hn2, hm2, kc, ks⟩ := h
    have hu := Nat.lt_of_le_of_lt (Nat.add_le_add_left (show 1 ≤ 64 by decide) _) hr.units
    have el : ((rs.map V.ref).length : Int) = (n : Int) := by rw [List.length_map, hT.len, hR.len]
    refine ⟨_, (pss_cons (ps_set (i := 2) sc_chosen.nd rfl (Or.inr rfl) pe_dnewK)
  (pss_cons (ps_for PassesOwn.never rfl (pi_range1 (by rfl) M.range (pa_cons (pe_callB call_len_seq (by rfl) M.len (by decide +kernel) (pa_cons (pv 0) pa_nil)) pa_nil)) (pg_name (i := 3) sc_chosen.nd rfl (Or.inl rfl))
  (pss_cons (ps_set (i := 4) sc_chosen.nd rfl (Or.inl rfl) pe_dnewK)
  (pss_one (ps_if (pt_not (pt_val (pe_cal C_freed hr (by rfl) (pa_cons (pv 0) (pa_cons (pv 1) (pa_cons (pv 3) (pa_cons (pv 2) (pa_cons (pv 4) pa_nil))))))))
  (pss_one (ps_ret (pe_tup (pa_cons pe_non (pa_cons (pe_callB cr_sortedI (by rfl) M.sorted (by decide +kernel) (pa_cons (pe_op op_cat (pe_lock (pe_lc (own := [("place", 6)]) (wi := (iKeys (tVar 4))) (g := gName 6) (tt := tYes) (te := (tDGet (tVar 2) (tVar 6))) (by rfl) sc_chosen.nd  (pi_keys (pv 4)) (blkOk_by (by kernel_rfl)) (fun _ _ _ _ _ => (pg_name (i := 6) sc_chosen.nd rfl (Or.inl rfl))) (fun _ _ _ _ _ => pts_nil) (fun _ _ _ _ _ => (pe_dget hu (pv 2) (pv 6) (fun _ _ => rfl))))) (pe_lst (pa_cons (pv 3) pa_nil))) pa_nil)) pa_nil)))))
  pss_nil))))
  (pss_cons (ps_set (i := 5) sc_chosen.nd rfl (Or.inl rfl) (pe_op op_rep (pe_lst (pa_cons pe_int pa_nil)) (pe_callB call_len_seq (by rfl) M.len (by decide +kernel) (pa_cons (pv 0) pa_nil))))
  (pss_cons (ps_lock (ps_for PassesOwn.never rfl (pi_items (pv 2)) (pg_tup rfl (pgs_cons (pg_name (i := 6) sc_chosen.nd rfl (Or.inl rfl)) (pgs_cons (pg_name (i := 3) sc_chosen.nd rfl (Or.inl rfl)) pgs_nil)))
  (pss_one (ps_asg (pv 6) (pg_sub (pv 5) (pv 3) set_list)))))
  (pss_one (ps_ret (pe_tup (pa_cons (pv 5) (pa_cons pe_non pa_nil))))))))), ?_⟩
    refine q_dnew fun tk ntk => ?_
    have e1 : Ex H (upd H tk (.dK [])) := Ex.new ntk
    have h1 : upd H tk (.dK []) tk = some (.dK []) := upd_same
    generalize upd H tk (.dK []) = H1 at e1 h1
    refine q_forR1 (n := (n : Int)) (ea_cons (ev_is (ev_len (ev_var rfl) (hT.mono e1).sq) (by rw [el])) ea_nil) (by omega) (fun i σ' H' => (∃ y3 y4, σ' = [some (.ref a), some (.int least), some (.ref tk), y3, y4, none, none]) ∧ Ex H H' ∧ ∃ Mx, H' tk = some (.dK (dM Mx)) ∧ (Mx.map (·.1)).Nodup ∧ Fit T n m least (fun p => Mx.lookup p) ∧ ∀ x, cnt m (fun p => Mx.lookup p) x = if x < i then 1 else 0)
      (fun H2 e2 => ⟨⟨none, none, rfl⟩, e1.trans e2, [], e2 _ _ h1, by simp, fun p t h => by simp at h, fun x => by simp [cnt]⟩) (fun i σ' H' hi q => ?_) (fun σ' H' q => ?_)
    · obtain ⟨⟨y3, y4, rfl⟩, ex, Mx, hk, hMn, hfit, hcnt⟩ := q
      have hi2 : i < n := by omega
      refine q_dnew fun tr ntr => ?_
      have hne : tk ≠ tr := fun z => by rw [← z, hk] at ntr; cases ntr
      have htr0 : H tr = none := fresh_back ex ntr
      have e3 : Ex H' (upd H' tr (.dK [])) := Ex.new ntr
      have ht3 : upd H' tr (.dK []) tr = some (.dK (dT [])) := upd_same
      generalize upd H' tr (.dK []) = H3 at e3 ht3
      have ex3 := ex.trans e3
      have hk3 := e3 _ _ hk
      refine s_notCall fun Q4 qf qt => ?_
      refine e_callA (ea_cons (ev_var rfl) (ea_cons (ev_var rfl) (ea_cons (ev_var rfl) (ea_cons (ev_var rfl) (ea_cons (ev_var rfl) ea_nil))))) fun H4 e4 => ?_
      refine ⟨a, tk, tr, rs, T, n, m, least, i, Mx, [], rfl, hT.mono (ex3.trans e4), hR, hn2, by omega, hi2, hne, e4 _ _ hk3, hMn, keys_lt hMn hfit, e4 _ _ ht3, List.nodup_nil, (fun p hp => nomatch hp), by show m ≤ 0 + 20; omega, hfit, fun H5 M' tt2 eb5 hk5 hMn' ht5 hwon => ⟨true, rfl, ?_⟩, fun H5 tt2 eb5 hk5 ht5 hlost hlt => ⟨false, rfl, ?_⟩⟩
      · refine qt H5 ⟨⟨_, _, rfl⟩, exb_ex (ex3.trans e4) ntk htr0 eb5, M', hk5, hMn', hwon.fit, fun x => ?_⟩
        rw [hwon.cnts x, hcnt x]
        by_cases hx : x = i
        · subst hx
          simp
        · by_cases hx2 : x < i
          · rw [if_pos hx2, if_neg hx, if_pos (by omega)]
          · rw [if_neg hx2, if_neg hx, if_neg (by omega)]
      · refine qf H5 ?_
        have ex5 : Ex H H5 := exb_ex (ex3.trans e4) ntk htr0 eb5
        have hkey : ∀ p ∈ tt2, ∃ t, Mx.lookup p = some t := fun p hp => by
          obtain ⟨_, t, ht, _⟩ := hlost.all p hp (fun z => nomatch z)
          exact ⟨t, ht⟩
        have hgl : given (dT tt2).length (fun _ => true) (fun z => V.int (((Mx.lookup (tt2.getD z 0)).getD 0 : Nat) : Int)) = (tt2.map fun p => (((Mx.lookup p).getD 0 : Nat) : Int)).map V.int := by
          refine given_all (by rw [List.length_map, List.length_map, dT_len]) fun z x hx => ?_
          rw [List.getElem?_map, List.getElem?_map] at hx
          cases hq : tt2[z]? with
          | none => rw [hq] at hx; cases hx
          | some p =>
            rw [hq] at hx
            have : tt2.getD z 0 = p := by simp [List.getD, hq]
            rw [this]
            exact Option.some.inj hx
        have htl := tt_le hlost.nd hlt
        have hlist : EvL (tLockE (tLc (iKeys (tVar 4)) (gName 6) tYes (tDGet (tVar 2) (tVar 6)) [6])) [some (.ref a), some (.int least), some (.ref tk), some (.int (i : Int)), some (.ref tr), none, none] H5 ((tt2.map fun p => (((Mx.lookup p).getD 0 : Nat) : Int)).map V.int) := by
          rw [← hgl]
          refine el_lockK _ rfl ht5 (by rw [dT_len]; omega) (fun x => rfl) fun z kv H6 e6 hz => ?_
          unfold dT at hz
          rw [List.getElem?_map] at hz
          cases hq : tt2[z]? with
          | none => rw [hq] at hz; cases hz
          | some p =>
            rw [hq] at hz
            have ekv : (Sum.inl (p : Int), V.bl true) = kv := Option.some.inj hz
            subst ekv
            obtain ⟨t, ht⟩ := hkey p (List.mem_of_getElem? hq)
            have : tt2.getD z 0 = p := by simp [List.getD, hq]
            rw [this, ht]
            exact ev_dget (k := (p : Int)) (ev_var rfl) (ev_var rfl) (e6 _ _ hne hk5) (by rw [val_dM, ht]; rfl)
        refine r_tup (cV ev_c fun H6 e6 => cP (evp_sortL (ns := (tt2.map fun p => (((Mx.lookup p).getD 0 : Nat) : Int)) ++ [(i : Int)]) (evp_l (el_catNN (hlist.mono e6) (el_lst (ea_cons (ev_var rfl) ea_nil) (by show 1 ≤ 100000; decide)) (by rw [List.length_map, List.length_map]; show tt2.length + 1 ≤ 100000; omega))) fun H7 v H8 ⟨p, hv, _, h8⟩ => ⟨p, hv, sq_of (by rw [h8, List.map_append]; rfl)⟩) fun v H7 e7 ⟨p, S, hv, np, h7, hperm, hpw⟩ => cN ?_)
        subst hv
        have hshort : tooFewB T n m S least = true := lost_short (f := fun p => Mx.lookup p) hi2 hfit (fun x => by rw [hcnt x]; split <;> omega) (by rw [hcnt i, if_neg (Nat.lt_irrefl _)]) hlost hperm hpw
        refine ⟨sz_of (by show 2 ≤ 100000; decide), fun q nq => ?_⟩
        exact ks S hshort _ _ (((ex5.trans e6).trans e7).trans (Ex.new nq)) ⟨q, p, rfl, fresh_back (ex5.trans e6) np, upd_same, Ex.new nq _ _ h7⟩
    · obtain ⟨⟨y3, y4, rfl⟩, ex, Mx, hk, hMn, hfit, hcnt⟩ := q
      have hcnt : ∀ x, cnt m (fun p => Mx.lookup p) x = if x < n then 1 else 0 := fun x => by rw [hcnt x]; rfl
      have hT1 := hT.mono ex
      refine q_asgL (xs := (List.replicate n 0).map fun (x : Nat) => V.int (x : Int)) ?_ fun pf H2 npf e2 h2 => ?_
      · rw [List.map_replicate]
        have := el_rep1 (v := .int ((0 : Nat) : Int)) (k := (n : Int)) (ta := tLst (tCons (tC (.int 0)) tNil)) (tb := tCB (rLenS K) (tCons (tVar 0) tNil)) (σ := [some (.ref a), some (.int least), some (.ref tk), y3, y4, none, none]) (H := H') (el_lst (ea_cons ev_c ea_nil) (by show 1 ≤ 100000; decide)) (ev_is (ev_len (ev_var rfl) hT1.sq) (by rw [el])) (by omega)
        exact this
      have hMlt := keys_lt hMn hfit
      have hpk : pf ≠ tk := fun z => by rw [z, hk] at npf; cases npf
      have hk2 := e2 _ _ hk
      have hdm : ∀ {z : Nat} {kv : Key × V}, (dM Mx)[z]? = some kv → ∃ p t : Nat, Mx[z]? = some (p, t) ∧ kv = (Sum.inl (p : Int), V.int (t : Int)) := fun {z kv} hz => by
        unfold dM at hz
        rw [List.getElem?_map] at hz
        cases hq : Mx[z]? with
        | none => rw [hq] at hz; cases hz
        | some pt =>
          rw [hq] at hz
          exact ⟨pt.1, pt.2, rfl, (Option.some.inj hz).symm⟩
      refine q_lockI (d := tk) rfl hk2 (fun z σ' H3 => (∃ z3 z6, σ' = [some (.ref a), some (.int least), some (.ref tk), z3, y4, some (.ref pf), z6]) ∧ (∀ c o, c ≠ tk → H c = some o → H3 c = some o) ∧ ∃ L : List Nat, L.length = n ∧ H3 pf = some (.lst (L.map fun (x : Nat) => V.int (x : Int))) ∧ ∀ p t, (p, t) ∈ Mx.take z → L[t]? = some p)
        (fun od => ⟨⟨y3, none, rfl⟩, fun c o hc ho => by rw [upd_ne hc]; exact e2 _ _ (ex _ _ ho), List.replicate n 0, by simp, by rw [upd_ne hpk]; exact h2, fun p t h => by simp at h⟩) (fun od z kv σ' H3 hz hfz q H4 e4 D' hD' => ?_) (fun od σ' H3 hfz q => ?_)
      · obtain ⟨⟨z3, z6, rfl⟩, ex3, L, hL, h3, hin⟩ := q
        obtain ⟨p, t, hpt, rfl⟩ := hdm hz
        have hpt2 := mem_lookup hMn (List.mem_of_getElem? hpt)
        have hadj := hfit p t hpt2
        have htn : t < n := hadj.1
        refine s_setL (j := t) (e4 _ _ h3) (ev_var rfl) (ev_var rfl) (ev_var rfl) (by rw [List.length_map, hL]; exact htn) fun H5 e5 => hD' _ _ ?_ ⟨⟨_, _, rfl⟩, fun c o hc ho => ?_, L.set t p, by rw [List.length_set]; exact hL, ?_, fun p' t' h' => ?_⟩
        · rw [upd_ne (Ne.symm hpk)]
          exact e5 _ _ (e4 _ _ hfz)
        · have hcp : c ≠ pf := fun z => by
            rw [z, fresh_back ex npf] at ho
            cases ho
          rw [upd_ne hcp]
          exact e5 _ _ (e4 _ _ (ex3 c o hc ho))
        · rw [upd_same, List.map_set]
          rfl
        · rw [List.take_add_one, hpt] at h'
          rcases List.mem_append.mp h' with h2' | h'
          · by_cases htt : t' = t
            · subst htt
              have a1 := mem_lookup hMn (List.mem_of_mem_take h2')
              have hp' : p' = p := cnt_one (f := fun p => Mx.lookup p) (hfit p' t' a1).2.1 hadj.2.1 a1 hpt2 (by rw [hcnt t']; split <;> omega)
              subst hp'
              rw [List.getElem?_set_self (by omega)]
            · rw [List.getElem?_set_ne (Ne.symm htt)]
              exact hin p' t' h2'
          · have h' : (p', t') = (p, t) := by simpa using h'
            cases h'
            rw [List.getElem?_set_self (by omega)]
      · obtain ⟨⟨z3, z6, rfl⟩, ex3, L, hL, h3, hin⟩ := q
        rw [dM_len, List.take_of_length_le (Nat.le_refl _)] at hin
        have hch : Choice T n m least L := all_choice (f := fun p => Mx.lookup p) hfit hL fun t p htp => by
          have htn : t < n := by
            have := (List.getElem?_eq_some_iff.mp htp).1
            omega
          obtain ⟨p', hp', hf'⟩ := cnt_some (m := m) (f := fun p => Mx.lookup p) (t := t) (by rw [hcnt t, if_pos htn]; exact Nat.le_refl _)
          have := hin p' t (lookup_mem hf')
          have e : p = p' := Option.some.inj (htp.symm.trans this)
          rw [e]
          exact ⟨hp', hf'⟩
        have ex4 : Ex H (upd H3 tk (.dK (dM Mx))) := fun c o hc => by
          have hck : c ≠ tk := fun z => by rw [z, ntk] at hc; cases hc
          rw [upd_ne hck]
          exact ex3 c o hck hc
        have h4 : upd H3 tk (.dK (dM Mx)) pf = some (.lst (L.map fun (x : Nat) => V.int (x : Int))) := by rw [upd_ne hpk]; exact h3
        generalize upd H3 tk (.dK (dM Mx)) = H4 at ex4 h4
        refine r_tup (cV (ev_var rfl) fun H5 e5 => cV ev_c fun H6 e6 => cN ⟨sz_of (by show 2 ≤ 100000; decide), fun q nq => ?_⟩)
        exact kc L hch _ _ (((ex4.trans e5).trans e6).trans (Ex.new nq)) ⟨q, pf, rfl, fresh_back ex npf, upd_same, Ex.new nq _ _ (e6 _ _ (e5 _ _ h4))⟩
end Lh

namespace Lh
open PySem PySem.Spec PyProof.Rows L2 Evl
theorem ok_each {P : Program} {w : World} {K : PySem.W.Frag} {mg : Str → Option Value} {base : Heap} {CE CS : Addr} (M : Mg mg) (D : Def K mg "each" s_each ["table"]) (C_asked_table : Cal P w K mg base 2 "asked_table" ["table"] (sp_asked_table K)) (C_chosen : Cal P w K mg base 22 "chosen" ["table", "least"] (sp_chosen K))
    (C_Each : Mkr P w K mg base 1 "Each" CE ["self", "classes"] (spInit1 K CE "classes")) (C_Short : Mkr P w K mg base 1 "Short" CS ["self", "teachers"] (spInit1 K CS "teachers")) : Cal P w K mg base 23 "each" ["table"] (sp_each K CE CS) := by
  refine D.cal sc_each (fun vs H Q E h => ?_) (fun f cdv A outer s H vs Q E hr h => ?_)
  · obtain ⟨a, rs, T, n, m, rfl, _⟩ := h
    rfl
  · obtain ⟨a, rs, T, n, m, rfl, hT, hG, kc, ks⟩ := h
    have b1 := hG.n20
    have b2 := hG.m20
    refine ⟨_, (pss_cons (ps_expr (pe_cal C_asked_table hr (by rfl) (pa_cons (pv 0) pa_nil)))
  (pss_cons (ps_asg (pe_cal C_chosen hr (by rfl) (pa_cons (pv 0) (pa_cons pe_int pa_nil))) (pg_tup rfl (pgs_cons (pg_name (i := 1) sc_each.nd rfl (Or.inl rfl)) (pgs_cons (pg_name (i := 2) sc_each.nd rfl (Or.inl rfl)) pgs_nil))))
  (pss_one (ps_ret (pe_ifExp (pt_cmpR op_isN (pv 2) pe_non (nomark _)) (pe_mak C_Each hr (by rfl) (pa_cons (pv 1) pa_nil)) (pe_mak C_Short hr (by rfl) (pa_cons (pv 2) pa_nil))))))), ?_⟩
    refine q_drop (ev_callV (ea_cons (ev_var rfl) ea_nil) fun H1 e1 Q1 q1 => ⟨a, rs, T, n, m, rfl, hT.mono e1, hG, q1⟩) fun H1 e1 => ?_
    refine qp_asg2 (P := fun H1 v H2 => (∃ L, Choice T n m 1 L ∧ NewChoice L H1 v H2) ∨ ∃ S, tooFewB T n m S 1 = true ∧ NewShort S H1 v H2) (evp_call (ea_cons (ev_var rfl) (ea_cons ev_c ea_nil)) (fun H1 H2 v H3 e z => z.imp (fun ⟨L, hL, p, q, a, b, c⟩ => ⟨L, hL, p, q, a, fresh_back e b, c⟩) fun ⟨L, hL, p, q, a, b, c⟩ => ⟨L, hL, p, q, a, fresh_back e b, c⟩) fun H2 e2 Q2 q2 => ⟨a, rs, T, n, m, 1, rfl, hT.mono (e1.trans e2), hG.toRect, by omega, b2, fun L hL v H3 e3 hv => q2 v H3 e3 (.inl ⟨L, hL, hv⟩), fun S hS v H3 e3 hv => q2 v H3 e3 (.inr ⟨S, hS, hv⟩)⟩) fun v H2 e2 hv => ?_
    rcases hv with ⟨L, hL, p, q, hv, nq, hp, hq⟩ | ⟨S, hS, p, q, hv, nq, hp, hq⟩
    · refine ⟨p, .ref q, .non, hv, st_of hp, ?_⟩
      have hm : (L.map fun (x : Nat) => V.int (x : Int)) = (L.map fun (x : Nat) => (x : Int)).map V.int := by rw [List.map_map]; rfl
      rw [hm] at hq
      refine sp_ret (P := NewIns1 CE "classes" ((L.map fun (x : Nat) => (x : Int)).map V.int)) (evp_if (b := true) (et_test (ev_op (z := .bl true) (ev_var rfl) ev_c fun H3 e3 Q3 q3 => ⟨rfl, q3 H3 (Ex.refl _)⟩)) (fun _ => evp_make1 (ea_cons (ev_var rfl) ea_nil) (sq_of hq)) (fun h => nomatch h) down_ins1) fun v H3 e3 hv => kc L hL v H3 ((e1.trans e2).trans e3) (down_ins1 _ _ _ _ (e1.trans e2) hv)
    · refine ⟨p, .non, .ref q, hv, st_of hp, ?_⟩
      refine sp_ret (P := NewIns1 CS "teachers" (S.map V.int)) (evp_if (b := false) (et_test (ev_op (z := .bl false) (ev_var rfl) ev_c fun H3 e3 Q3 q3 => ⟨rfl, q3 H3 (Ex.refl _)⟩)) (fun h => nomatch h) (fun _ => evp_make1 (ea_cons (ev_var rfl) ea_nil) (sq_of hq)) down_ins1) fun v H3 e3 hv => ks S hS v H3 ((e1.trans e2).trans e3) (down_ins1 _ _ _ _ (e1.trans e2) hv)
end Lh

namespace Lh
open PySem PySem.Spec PyProof.Rows L2 Evl
theorem ok_lasting {P : Program} {w : World} {K : PySem.W.Frag} {mg : Str → Option Value} {base : Heap} {CL : Addr} (M : Mg mg) (D : Def K mg "lasting" s_lasting ["table"]) (C_asked_table : Cal P w K mg base 2 "asked_table" ["table"] (sp_asked_table K)) (C_chosen : Cal P w K mg base 22 "chosen" ["table", "least"] (sp_chosen K))
    (C_Lasting : Mkr P w K mg base 1 "Lasting" CL ["self", "hours", "classes", "teachers"] (spInit3 K CL)) : Cal P w K mg base 23 "lasting" ["table"] (sp_lasting K CL) := by
  refine D.cal sc_lasting (fun vs H Q E h => ?_) (fun f cdv A outer s H vs Q E hr h => ?_)
  · obtain ⟨a, rs, T, n, m, rfl, _⟩ := h
    rfl
  · obtain ⟨a, rs, T, n, m, rfl, hT, hG, hnm, kq⟩ := h
    have hR := hG.toRect
    have b1 := hG.n1
    have b2 := hG.n20
    have b3 := hG.m20
    refine ⟨_, (pss_cons (ps_expr (pe_cal C_asked_table hr (by rfl) (pa_cons (pv 0) pa_nil)))
  (pss_cons (ps_if (pt_cmpR op_notN (pe_ix ix_tup (pe_cal C_chosen hr (by rfl) (pa_cons (pv 0) (pa_cons pe_int pa_nil))) pe_int (fun _ _ => rfl)) pe_non (nomark _))
  (pss_one ps_never)
  pss_nil)
  (pss_cons (ps_set (i := 1) sc_lasting.nd rfl (Or.inl rfl) (pe_lst (pa_cons pe_int pa_nil)))
  (pss_cons (ps_for PassesOwn.never rfl (pi_list (pv 0)) (pg_name (i := 2) sc_lasting.nd rfl (Or.inl rfl))
  (pss_one (ps_expr (pe_bm PySem.F.plainAttrs_list PySem.F.slot_list_extend PySem.F.type_list_extend mt_extend (pv 1) (pa_cons (pv 2) pa_nil)))))
  (pss_cons (ps_set (i := 1) sc_lasting.nd rfl (Or.inl rfl) (pe_callB (cr_sortedSetI rfl) (by rfl) M.sorted (by decide +kernel) (pa_cons (pe_callTy (cr_setL rfl) (by rfl) M.set_ (by decide +kernel) (pa_cons (pv 1) pa_nil)) pa_nil)))
  (pss_cons (ps_set (i := 3) sc_lasting.nd rfl (Or.inl rfl) pe_int)
  (pss_cons (ps_set (i := 4) sc_lasting.nd rfl (Or.inl rfl) (pe_callB call_len_seq (by rfl) M.len (by decide +kernel) (pa_cons (pv 1) pa_nil)))
  (pss_cons (ps_while PassesOwn.never (pt_cmpR op_gt (pe_op op_sub (pv 4) (pv 3)) pe_int (nomark _))
  (pss_cons (ps_set (i := 5) sc_lasting.nd rfl (Or.inl rfl) (pe_op op_fdiv (pe_op op_add (pv 3) (pv 4)) pe_int))
  (pss_one (ps_if (pt_cmpR op_isN (pe_ix ix_tup (pe_cal C_chosen hr (by rfl) (pa_cons (pv 0) (pa_cons (pe_ix ix_list (pv 1) (pv 5) (fun _ _ => rfl)) pa_nil))) pe_int (fun _ _ => rfl)) pe_non (nomark _))
  (pss_one (ps_set (i := 3) sc_lasting.nd rfl (Or.inl rfl) (pv 5)))
  (pss_one (ps_set (i := 4) sc_lasting.nd rfl (Or.inl rfl) (pv 5)))))))
  (pss_cons (ps_set (i := 6) sc_lasting.nd rfl (Or.inl rfl) (pe_ifExp (pt_cmpR op_eq (pv 4) (pe_callB call_len_seq (by rfl) M.len (by decide +kernel) (pa_cons (pv 1) pa_nil)) (nomark _)) (pe_lst (pa_cons pe_int pa_nil)) (pe_ix ix_tup (pe_cal C_chosen hr (by rfl) (pa_cons (pv 0) (pa_cons (pe_ix ix_list (pv 1) (pv 4) (fun _ _ => rfl)) pa_nil))) pe_int (fun _ _ => rfl))))
  (pss_one (ps_ret (pe_mak C_Lasting hr (by rfl) (pa_cons (pe_ix ix_list (pv 1) (pv 3) (fun _ _ => rfl)) (pa_cons (pe_ix ix_tup (pe_cal C_chosen hr (by rfl) (pa_cons (pv 0) (pa_cons (pe_ix ix_list (pv 1) (pv 3) (fun _ _ => rfl)) pa_nil))) pe_int (fun _ _ => rfl)) (pa_cons (pv 6) pa_nil))))))))))))))), ?_⟩
    refine q_drop (ev_callV (ea_cons (ev_var rfl) ea_nil) fun H1 e1 Q1 q1 => ⟨a, rs, T, n, m, rfl, hT.mono e1, hG, q1⟩) fun H1 e1 => ?_
    have hT1 := hT.mono e1
    -- a choice for no hours
    have hc0 : ∃ L, Choice T n m 0 L := ⟨_, choice_zero hG hnm⟩
    refine q_when (b := false) (et_test (ev_op (z := .bl false) (ev_chosen1 hc0 (ea_cons (ev_var rfl) (ea_cons ev_c ea_nil)) hT1 hR (by omega) b3) ev_c fun H2 e2 Q q => ⟨rfl, q H2 (Ex.refl _)⟩)) (fun h => nomatch h) fun _ H2 e2 => ?_
    have e02 := e1.trans e2
    -- values
    refine q_asgL (xs := [0].map V.int) (el_lst (ea_cons ev_c ea_nil) (by show 1 ≤ 100000; decide)) fun pv H3 nv e3 h3 => ?_
    have nvH : H pv = none := fresh_back e02 nv
    have flen : ∀ i, ((T.take i).flatten).length ≤ 400 := fun i => by
      have h1 : ((T.take i).flatten).length ≤ (T.take i).length * 20 := by
        have : ∀ U : List (List Int), (∀ u ∈ U, u.length = m) → U.flatten.length = U.length * m := fun U hU => by
          induction U with
          | nil => simp
          | cons u U ih =>
            rw [List.flatten_cons, List.length_append, hU u (by simp), ih fun u hu => hU u (List.mem_cons_of_mem _ hu), List.length_cons, Nat.add_mul]
            omega
        rw [this _ fun u hu => hR.row u (List.mem_of_mem_take hu)]
        exact Nat.mul_le_mul_left _ b3
      have h2 : (T.take i).length ≤ 20 := by
        rw [List.length_take, hR.len]
        omega
      omega
    refine q_forLn (ev_var rfl) (hT.mono (e02.trans e3)).sq (fun i σ' H' => (∃ y2, σ' = [some (.ref a), some (.ref pv), y2, none, none, none, none]) ∧ Ex H H' ∧ H' pv = some (.lst ((0 :: (T.take i).flatten).map V.int))) (fun H4 e4 => ⟨⟨none, rfl⟩, (e02.trans e3).trans e4, e4 _ _ h3⟩) (fun i σ' H' _ q => (hT.mono q.2.1).sq) (fun i x σ' H' hx q => ?_) (fun σ' H' q => ?_)
    · obtain ⟨⟨y2, rfl⟩, ex, hp⟩ := q
      have hi : i < n := by
        have := (List.getElem?_eq_some_iff.mp hx).1
        rw [List.length_map, hT.len, hR.len] at this
        exact this
      obtain ⟨u, hu, hul⟩ := hR.lt hi
      obtain ⟨r, hr1, hr2⟩ := (hT.mono ex).at hu
      have exr : x = .ref r := Option.some.inj (hx.symm.trans (ref_at hr1))
      subst exr
      refine sP_ext (P := fun _ v H2 => v = .ref r ∧ H2 r = some (.lst (u.map V.int))) hp (ev_var rfl) ((evp_of (ev_var (v := .ref r) rfl)).imp fun H1 v H2 ea eb hv => ⟨hv, eb _ _ (ea _ _ hr2)⟩) down_c fun v H4 e4 ⟨hv, h4⟩ => ⟨r, u.map V.int, hv, h4, ?_, ⟨_, rfl⟩, Ex.mut (ex.trans e4) nvH, ?_⟩
      · rw [List.length_map, List.length_map, List.length_cons]
        have := flen i
        omega
      · rw [upd_same, ← List.map_append, List.take_add_one, hu, List.flatten_append]
        simp
    · obtain ⟨⟨y2, rfl⟩, ex, hp⟩ := q
      have hall : T.take (rs.map V.ref).length = T := List.take_of_length_le (by rw [List.length_map, hT.len]; exact Nat.le_refl _)
      rw [hall] at hp
      have hfl : (0 :: T.flatten).length ≤ 2000 := by
        have := flen T.length
        rw [List.take_of_length_le (Nat.le_refl _)] at this
        rw [List.length_cons]
        omega
      refine qp_asg (P := SortedSet (0 :: T.flatten)) (evp_sortSet (evp_ref (ev_var rfl) (sq_of hp)) (fun H1 v H2 h => ⟨pv, h⟩) hfl) fun v H4 e4 ⟨ps, W, hv, _, h4, hW, hWm⟩ => ?_
      subst hv
      have hmem : ∀ c, c ∈ W ↔ c = 0 ∨ ∃ u ∈ T, c ∈ u := fun c => by
        rw [hWm c, List.mem_cons, List.mem_flatten]
      have hWn : ∀ c ∈ W, 0 ≤ c := fun c hc => by
        rcases (hmem c).mp hc with h | ⟨u, hu, hcu⟩
        · omega
        · exact hG.pos u hu c hcu
      have hW0 : W[0]? = some 0 := by
        have h0 : (0 : Int) ∈ W := (hmem 0).mpr (.inl rfl)
        obtain ⟨i, hi⟩ := List.getElem?_of_mem h0
        have hl : 0 < W.length := List.length_pos_of_mem h0
        have e : W[0]? = some W[0] := by simp [hl]
        have := rising_le hW e hi (by omega)
        have h2 := hWn W[0] (List.getElem_mem hl)
        rw [e]
        congr 1
        omega
      have hWlen : W.length ≤ 2000 := by
        have := php (l := W) (m := 0 :: T.flatten) (rising_nodup hW) fun x hx => (hWm x).mp hx
        omega
      refine q_asg ev_c fun H5 e5 => ?_
      refine q_asg (v := .int (W.length : Int)) (ev_is (ev_lenL (ev_var rfl) (sq_of (e5 _ _ h4))) (by rw [List.length_map])) fun H6 e6 => ?_
      have ex6 : Ex H H6 := ((ex.trans e4).trans e5).trans e6
      have h6 : H6 ps = some (.lst (W.map V.int)) := e6 _ _ (e5 _ _ h4)
      -- the search
      refine q_while (fun k σ' H' => (∃ (lo hi : Nat) (y5 : Option V), σ' = [some (.ref a), some (.ref ps), y2, some (.int (lo : Int)), some (.int (hi : Int)), y5, none] ∧ k = hi - lo ∧ lo < hi ∧ hi ≤ W.length ∧ (∃ v, W[lo]? = some v ∧ ∃ L, Choice T n m v L) ∧ (hi < W.length → ∃ v, W[hi]? = some v ∧ ¬ ∃ L, Choice T n m v L)) ∧ Ex H6 H') W.length ⟨⟨0, W.length, none, rfl, by omega, List.length_pos_of_mem (List.mem_of_getElem? hW0), Nat.le_refl _, ⟨0, hW0, hc0⟩, fun h => by omega⟩, Ex.refl _⟩ fun k σ' H' q => ?_
      obtain ⟨⟨lo, hi, y5, rfl, rfl, hlh, hhl, hclo, hchi⟩, ex7⟩ := q
      refine ⟨decide ((1 : Int) < (hi : Int) - (lo : Int)), et_gt (ev_sub (ev_var rfl) (ev_var rfl)) ev_c rfl, fun hb H7 e7 => ?_, fun hb H7 e7 => ?_⟩
      · have hb := of_decide_eq_true hb
        refine ⟨fun σ2 H2 => (∃ (lo2 hi2 : Nat) (y5 : Option V), σ2 = [some (.ref a), some (.ref ps), y2, some (.int (lo2 : Int)), some (.int (hi2 : Int)), y5, none] ∧ hi2 - lo2 < hi - lo ∧ lo2 < hi2 ∧ hi2 ≤ W.length ∧ (∃ v, W[lo2]? = some v ∧ ∃ L, Choice T n m v L) ∧ (hi2 < W.length → ∃ v, W[hi2]? = some v ∧ ¬ ∃ L, Choice T n m v L)) ∧ Ex H6 H2, fun σ2 H2 ⟨⟨lo2, hi2, z5, z1, z2, z3⟩, z4⟩ => ⟨hi2 - lo2, z2, ⟨lo2, hi2, z5, z1, rfl, z3⟩, z4⟩, ?_⟩
        have emid : ((lo : Int) + (hi : Int)) / 2 = (((lo + hi) / 2 : Nat) : Int) := by omega
        refine q_asg (v := .int (((lo + hi) / 2 : Nat) : Int)) (ev_is (ev_div (ev_add (ev_var rfl) (ev_var rfl)) ev_c (by decide) (by decide)) (by rw [emid])) fun H8 e8 => ?_
        have hm1 : lo < (lo + hi) / 2 := by omega
        have hm2 : (lo + hi) / 2 < hi := by omega
        generalize (lo + hi) / 2 = mid at hm1 hm2
        have hmv : W[mid]? = some W[mid] := by simp [show mid < W.length by omega]
        generalize W[mid] = v at hmv
        have ex8 := (ex7.trans e7).trans e8
        have hT8 := hT.mono (ex6.trans ex8)
        have h8 := ex8 _ _ h6
        have hargs : EvA (tCons (tVar 0) (tCons (tOp (rIxL K) (tVar 1) (tVar 5)) tNil)) [some (.ref a), some (.ref ps), y2, some (.int (lo : Int)), some (.int (hi : Int)), some (.int (mid : Int)), none] H8 [.ref a, .int v] := ea_cons (ev_var rfl) (ea_cons (ev_ixL (ev_var rfl) (ev_var rfl) (sq_of h8) (atI_nat (int_at hmv))) ea_nil)
        by_cases hc : ∃ L, Choice T n m v L
        · refine s_if (b := true) (et_isNone ⟨fun _ => hc, fun _ => rfl⟩ hargs hT8 hR (by omega) b3) (fun _ H9 e9 => ?_) (fun h => nomatch h)
          exact s_asg (ev_var rfl) fun H10 e10 => ⟨⟨mid, hi, _, rfl, by omega, hm2, hhl, ⟨v, hmv, hc⟩, hchi⟩, (ex8.trans e9).trans e10⟩
        · refine s_if (b := false) (et_isNone ⟨(fun h => nomatch h), fun h => absurd h hc⟩ hargs hT8 hR (by omega) b3) (fun h => nomatch h) (fun _ H9 e9 => ?_)
          exact s_asg (ev_var rfl) fun H10 e10 => ⟨⟨lo, mid, _, rfl, by omega, hm1, by omega, hclo, fun _ => ⟨v, hmv, hc⟩⟩, (ex8.trans e9).trans e10⟩
      · have hb := of_decide_eq_false hb
        have hhi : hi = lo + 1 := by omega
        subst hhi
        obtain ⟨v, hv, hcv⟩ := hclo
        have ex7' := ex7.trans e7
        have hT7 := hT.mono (ex6.trans ex7')
        have h7 := ex7' _ _ h6
        refine qp_asg (P := fun H1 u H2 => ∃ S q, u = .ref q ∧ H2 q = some (.lst (S.map V.int)) ∧ ((lo + 1 = W.length ∧ S = [0]) ∨ ∃ v', W[lo + 1]? = some v' ∧ tooFewB T n m S v' = true)) ?_ fun u H8 e8 ⟨S, qs, hu, hqs, hS⟩ => ?_
        · refine evp_if (b := decide ((lo + 1 : Nat) = W.length)) (et_eq (ev_var rfl) (ev_lenL (ev_var rfl) (sq_of h7)) (by rw [List.length_map]; exact decide_eq_decide.mpr (by omega))) (fun hb => ?_) (fun hb => ?_) down_c
          · have hb := of_decide_eq_true hb
            exact (evp_l (el_lst (ea_cons (x := .int 0) ev_c ea_nil) (by show 1 ≤ 100000; decide))).imp fun H1 u H2 _ _ ⟨q, hu, _, h2⟩ => ⟨[0], q, hu, h2, .inl ⟨hb, rfl⟩⟩
          · have hb := of_decide_eq_false hb
            obtain ⟨v', hv', hc'⟩ := hchi (by omega)
            refine evp_ixPT (evp_chosenS hc' (ea_cons (ev_var rfl) (ea_cons (ev_ixL (ev_var rfl) (ev_var rfl) (sq_of h7) (atI_nat (int_at hv'))) ea_nil)) hT7 hR (by omega) b3) ev_c (fun H1 u H2 ⟨S, hS, p, q, hu, _, hp, hq⟩ => ⟨p, _, .ref q, hu, st_of hp, atI_of (j := 1) rfl rfl, S, q, rfl, hq, .inr ⟨v', hv', hS⟩⟩) fun H1 v H2 H3 e ⟨S, q, z1, z2, z3⟩ => ⟨S, q, z1, e _ _ z2, z3⟩
        subst hu
        have hT8 := hT7.mono e8
        have h8 := e8 _ _ h7
        have ex8 : Ex H H8 := (ex6.trans ex7').trans e8
        refine r_make (cV (v := .int v) (ev_ixL (ev_var rfl) (ev_var rfl) (sq_of h8) (atI_nat (int_at hv))) fun H9 e9 => cP (P := fun H1 u H2 => ∃ L q, Choice T n m v L ∧ u = .ref q ∧ H2 q = some (.lst ((L.map fun (x : Nat) => (x : Int)).map V.int))) ?_ fun u H10 e10 ⟨L, qL, hL, hu, hqL⟩ => cV (v := .ref qs) (ev_var rfl) fun H11 e11 => cN ?_)
        · refine evp_ixPT (evp_chosenC hcv (ea_cons (ev_var rfl) (ea_cons (ev_ixL (ev_var rfl) (ev_var rfl) (sq_of (e9 _ _ h8)) (atI_nat (int_at hv))) ea_nil)) (hT8.mono e9) hR (by omega) b3) ev_c (fun H1 u H2 ⟨L, hL, p, q, hu, _, hp, hq⟩ => ⟨p, _, .ref q, hu, st_of hp, atI_of (j := 0) rfl rfl, L, q, hL, rfl, ?_⟩) fun H1 v H2 H3 e ⟨S, q, z1, z2, z3⟩ => ⟨S, q, z1, z2, e _ _ z3⟩
          rw [hq, List.map_map]
          rfl
        · intro x dx nx nd hne
          subst hu
          exact make3 nx nd hne (sq_of (e11 _ _ hqL)) (sq_of (e11 _ _ (e10 _ _ (e9 _ _ hqs)))) fun u H12 e12 hu => kq v L S (last_of hG hW hmem hv hL hS) u H12 (((ex8.trans e9).trans (e10.trans e11)).trans e12) (down_last _ _ _ _ ((ex8.trans e9).trans (e10.trans e11)) hu)
end Lh

namespace Lh
open PySem PySem.Spec PyProof.Rows L2 Evl
theorem ok_plan {P : Program} {w : World} {K : PySem.W.Frag} {mg : Str → Option Value} {base : Heap} {CP : Addr} (M : Mg mg) (D : Def K mg "plan" s_plan ["table"]) (C_asked_table : Cal P w K mg base 2 "asked_table" ["table"] (sp_asked_table K)) (C_fullest_of : Cal P w K mg base 2 "fullest_of" ["table"] (sp_fullest_of K)) (C_raised_of : Cal P w K mg base 2 "raised_of" ["table", "hours"] (sp_raised_of K)) (C_chosen : Cal P w K mg base 22 "chosen" ["table", "least"] (sp_chosen K))
    (C_Plan : Mkr P w K mg base 1 "Plan" CP ["self", "parts"] (sp_Plan_init K CP)) : Cal P w K mg base 23 "plan" ["table"] (sp_plan K CP) := by
  refine D.cal sc_plan (fun vs H Q E h => ?_) (fun f cdv A outer s H vs Q E hr h => ?_)
  · obtain ⟨a, rs, T, n, m, rfl, _⟩ := h
    rfl
  · obtain ⟨a, rs, T, n, m, rfl, hT, hG, kq⟩ := h
    have hR := hG.toRect
    have b1 := hG.n1
    have b2 := hG.n20
    have c1 := hG.m1
    have c2 := hG.m20
    have z1 : 1 ≤ max n m := by omega
    have z2 : max n m ≤ 20 := by omega
    refine ⟨_, (pss_cons (ps_expr (pe_cal C_asked_table hr (by rfl) (pa_cons (pv 0) pa_nil)))
  (pss_cons (ps_set (i := 1) sc_plan.nd rfl (Or.inl rfl) (pe_ix ix_tup (pe_cal C_fullest_of hr (by rfl) (pa_cons (pv 0) pa_nil)) pe_int (fun _ _ => rfl)))
  (pss_cons (ps_set (i := 2) sc_plan.nd rfl (Or.inr rfl) (pe_lc (own := [("row", 10)]) (wi := (iList K (tVar 0))) (g := gName 10) (tt := tYes) (te := (tCB (rListS K) (tCons (tVar 10) tNil))) (by rfl) sc_plan.nd  (pi_list (pv 0)) (blkOk_by (by kernel_rfl)) (fun _ _ _ _ _ => (pg_name (i := 10) sc_plan.nd rfl (Or.inl rfl))) (fun _ _ _ _ _ => pts_nil) (fun _ _ _ _ _ => (pe_callTy call_list_of (by rfl) M.list_ (by decide +kernel) (pa_cons (pv 10) pa_nil)))))
  (pss_cons (ps_set (i := 3) sc_plan.nd rfl (Or.inr rfl) (pe_cal C_raised_of hr (by rfl) (pa_cons (pv 0) (pa_cons (pv 1) pa_nil))))
  (pss_cons (ps_set (i := 4) sc_plan.nd rfl (Or.inl rfl) (pe_lst pa_nil))
  (pss_cons (ps_while PassesOwn.never (pt_cmpR op_gt (pv 1) pe_int (nomark _))
  (pss_cons (ps_set (i := 5) sc_plan.nd rfl (Or.inl rfl) (pe_ix ix_tup (pe_cal C_chosen hr (by rfl) (pa_cons (pv 3) (pa_cons pe_int pa_nil))) pe_int (fun _ _ => rfl)))
  (pss_cons (ps_set (i := 6) sc_plan.nd rfl (Or.inl rfl) (pe_callB (cr_min rfl) (by rfl) M.min (by decide +kernel) (pa_cons (pe_lc (own := [("who", 8), ("place", 9)]) (wi := (iEnum K (tCons (tVar 5) tNil))) (g := gTup K 2 (gCons (gName 8) (gCons (gName 9) gNil))) (tt := tYes) (te := (tOp (rIxL K) (tOp (rIxL K) (tVar 3) (tVar 8)) (tVar 9))) (by rfl) sc_plan.nd  (pi_enum (by rfl) M.enumerate (pa_cons (pv 5) pa_nil)) (blkOk_by (by kernel_rfl)) (fun _ _ _ _ _ => (pg_tup rfl (pgs_cons (pg_name (i := 8) sc_plan.nd rfl (Or.inl rfl)) (pgs_cons (pg_name (i := 9) sc_plan.nd rfl (Or.inl rfl)) pgs_nil)))) (fun _ _ _ _ _ => pts_nil) (fun _ _ _ _ _ => (pe_ix ix_list (pe_ix ix_list (pv 3) (pv 8) (fun _ _ => rfl)) (pv 9) (fun _ _ => rfl)))) pa_nil)))
  (pss_cons (ps_setLc (i := 7) (own := [("who", 8), ("place", 9)]) (wi := (iEnum K (tCons (tVar 5) tNil))) (g := gTup K 2 (gCons (gName 8) (gCons (gName 9) gNil))) (tt := (tAnd (tTest (tOp _ (tVar 8) (tCB (rLenS K) (tCons (tVar 2) tNil)))) (tTest (tOp _ (tVar 9) (tCB (rLenS K) (tCons (tOp (rIxL K) (tVar 2) _) tNil)))))) (te := (tTup (tCons (tVar 8) (tCons (tVar 9) tNil)))) (by rfl) sc_plan.nd rfl rfl (sw_true rfl rfl rfl (by decide +kernel)) (pi_enum (by rfl) M.enumerate (pa_cons (pv 5) pa_nil)) (blkOk_by (by kernel_rfl)) (fun _ _ _ _ _ => (pg_tup rfl (pgs_cons (pg_name (i := 8) sc_plan.nd rfl (Or.inl rfl)) (pgs_cons (pg_name (i := 9) sc_plan.nd rfl (Or.inl rfl)) pgs_nil)))) (fun _ _ _ _ _ => (pts_one (PW.pt (pw_and (pt_cmpR op_lt (pv 8) (pe_callB call_len_seq (by rfl) M.len (by decide +kernel) (pa_cons (pv 2) pa_nil)) (nomark _)) (pw_and1 (pt_cmpR op_lt (pv 9) (pe_callB call_len_seq (by rfl) M.len (by decide +kernel) (pa_cons (pe_ix ix_list (pv 2) pe_int (fun _ _ => rfl)) pa_nil)) (nomark _))))))) (fun _ _ _ _ _ => (pe_tup (pa_cons (pv 8) (pa_cons (pv 9) pa_nil)))))
  (pss_cons (ps_setLc (i := 7) (own := [("who", 8), ("place", 9)]) (wi := (iList K (tVar 7))) (g := gTup K 2 (gCons (gName 8) (gCons (gName 9) gNil))) (tt := (tTest (tOp _ (tOp (rIxL K) (tOp (rIxL K) (tVar 2) (tVar 8)) (tVar 9)) _))) (te := (tTup (tCons (tVar 8) (tCons (tVar 9) tNil)))) (by rfl) sc_plan.nd rfl rfl (sw_true rfl rfl rfl (by decide +kernel)) (pi_list (pv 7)) (blkOk_by (by kernel_rfl)) (fun _ _ _ _ _ => (pg_tup rfl (pgs_cons (pg_name (i := 8) sc_plan.nd rfl (Or.inl rfl)) (pgs_cons (pg_name (i := 9) sc_plan.nd rfl (Or.inl rfl)) pgs_nil)))) (fun _ _ _ _ _ => (pts_one (pt_cmpR op_gt (pe_ix ix_list (pe_ix ix_list (pv 2) (pv 8) (fun _ _ => rfl)) (pv 9) (fun _ _ => rfl)) pe_int (nomark _)))) (fun _ _ _ _ _ => (pe_tup (pa_cons (pv 8) (pa_cons (pv 9) pa_nil)))))
  (pss_cons (ps_set (i := 6) sc_plan.nd rfl (Or.inl rfl) (pe_callB (cr_min rfl) (by rfl) M.min (by decide +kernel) (pa_cons (pe_op op_cat (pe_lst (pa_cons (pv 6) pa_nil)) (pe_lc (own := [("who", 8), ("place", 9)]) (wi := (iList K (tVar 7))) (g := gTup K 2 (gCons (gName 8) (gCons (gName 9) gNil))) (tt := tYes) (te := (tOp (rIxL K) (tOp (rIxL K) (tVar 2) (tVar 8)) (tVar 9))) (by rfl) sc_plan.nd  (pi_list (pv 7)) (blkOk_by (by kernel_rfl)) (fun _ _ _ _ _ => (pg_tup rfl (pgs_cons (pg_name (i := 8) sc_plan.nd rfl (Or.inl rfl)) (pgs_cons (pg_name (i := 9) sc_plan.nd rfl (Or.inl rfl)) pgs_nil)))) (fun _ _ _ _ _ => pts_nil) (fun _ _ _ _ _ => (pe_ix ix_list (pe_ix ix_list (pv 2) (pv 8) (fun _ _ => rfl)) (pv 9) (fun _ _ => rfl))))) pa_nil)))
  (pss_cons (ps_for PassesOwn.never rfl (pi_enum (by rfl) M.enumerate (pa_cons (pv 5) pa_nil)) (pg_tup rfl (pgs_cons (pg_name (i := 8) sc_plan.nd rfl (Or.inl rfl)) (pgs_cons (pg_name (i := 9) sc_plan.nd rfl (Or.inl rfl)) pgs_nil)))
  (pss_one (ps_asg (pe_op op_sub (pe_ix ix_list (pe_ix ix_list (pv 3) (pv 8) (fun _ _ => rfl)) (pv 9) (fun _ _ => rfl)) (pv 6)) (pg_sub (pe_ix ix_list (pv 3) (pv 8) (fun _ _ => rfl)) (pv 9) set_list))))
  (pss_cons (ps_for PassesOwn.never rfl (pi_list (pv 7)) (pg_tup rfl (pgs_cons (pg_name (i := 8) sc_plan.nd rfl (Or.inl rfl)) (pgs_cons (pg_name (i := 9) sc_plan.nd rfl (Or.inl rfl)) pgs_nil)))
  (pss_one (ps_asg (pe_op op_sub (pe_ix ix_list (pe_ix ix_list (pv 2) (pv 8) (fun _ _ => rfl)) (pv 9) (fun _ _ => rfl)) (pv 6)) (pg_sub (pe_ix ix_list (pv 2) (pv 8) (fun _ _ => rfl)) (pv 9) set_list))))
  (pss_cons (ps_expr (pe_bm PySem.F.plainAttrs_list PySem.F.slot_list_append PySem.F.type_list_append mt_append (pv 4) (pa_cons (pe_tup (pa_cons (pv 7) (pa_cons (pv 6) pa_nil))) pa_nil)))
  (pss_one (ps_set (i := 1) sc_plan.nd rfl (Or.inl rfl) (pe_op op_sub (pv 1) (pv 6)))))))))))))
  (pss_one (ps_ret (pe_mak C_Plan hr (by rfl) (pa_cons (pv 4) pa_nil)))))))))), ?_⟩
    refine q_drop (ev_callV (ea_cons (ev_var rfl) ea_nil) fun H1 e1 Q1 q1 => ⟨a, rs, T, n, m, rfl, hT.mono e1, hG, q1⟩) fun H1 e1 => ?_
    refine q_asg (v := .int (fullM T m)) (ev_ixPT (P := NewFull T m) (evp_call (ea_cons (ev_var rfl) ea_nil) down_c fun H2 e2 Q2 q2 => ⟨a, rs, T, n, m, rfl, hT.mono (e1.trans e2), hR, b1, by omega, c1, by omega, q2⟩) (fun _ _ => ev_c) (fun H1 u H2 ⟨p, q, hu, h1, h2⟩ => ⟨p, _, hu, st_of h1, atI_of (j := 0) rfl rfl⟩)) fun H2 e2 => ?_
    have e02 := e1.trans e2
    refine qp_asg (P := NewT T) (evp_copyT (ev_var rfl) (hT.mono e02) (by rw [hR.len]; omega) (by show 10 < 11; decide) (fun x => rfl)) fun v H3 e3 ⟨pm, rm, hv, npm, ndm, frm, hTm⟩ => ?_
    subst hv
    have e03 := e02.trans e3
    refine qp_asg (P := fun H1 u H2 => ∃ F, Raised T n m (fullM T m) F ∧ NewT F H1 u H2) (evp_call (ea_cons (ev_var rfl) (ea_cons (ev_var rfl) ea_nil)) (fun H1 H2 v H3 e ⟨F, hF, hv⟩ => ⟨F, hF, down_t _ _ _ _ e hv⟩) fun H4 e4 Q4 q4 => ⟨a, rs, T, n, m, fullM T m, rfl, hT.mono (e03.trans e4), hR, b1, by omega, c1, by omega, full_rows (Int.le_refl _), full_cols (Int.le_refl _), full_nn hG, fun F hF v H5 e5 hv => q4 v H5 e5 ⟨F, hF, hv⟩⟩) fun v H4 e4 ⟨F, hF, pf, rf, hv, npf, ndf, frf, hTf⟩ => ?_
    subst hv
    have e04 := e03.trans e4
    refine q_asgL (xs := []) (el_lst ea_nil (by decide)) fun pp H5 npp e5 h5 => ?_
    have frm0 : ∀ r ∈ rm, H r = none := fun r hr => fresh_back e02 (frm r hr)
    have frf0 : ∀ r ∈ rf, H r = none := fun r hr => fresh_back e03 (frf r hr)
    have npp0 : H pp = none := fresh_back e04 npp
    have rlst : ∀ {H : Hp} {p r : Addr} {rl : List Addr} {U : List (List Int)}, Tab H p rl U → r ∈ rl → H r ≠ none := fun hT hr z => by
      obtain ⟨xs, hx⟩ := hT.rowLst hr
      rw [hx] at z
      cases z
    have d1 : ∀ r ∈ rm, r ∉ rf := fun r h1 h2 => rlst hTm h1 (frf r h2)
    have d2 : pm ∉ rf := fun z => by
      have := frf pm z
      rw [hTm.top] at this
      cases this
    have d3 : pf ∉ rm := fun z => rlst hTm z npf
    have d4 : pp ∉ rm := fun z => rlst (hTm.mono e4) z npp
    have d5 : pp ∉ rf := fun z => rlst hTf z npp
    have d6 : pm ∉ rm := fun z => hTm.ne z rfl
    have d7 : pf ∉ rf := fun z => hTf.ne z rfl
    have d8 : pp ≠ pm := fun z => by
      have := (hTm.mono e4).top
      rw [← z, npp] at this
      cases this
    have d9 : pp ≠ pf := fun z => by
      have := hTf.top
      rw [← z, npp] at this
      cases this
    have hI0 := plan_start hG hF
    -- the loop
    refine q_while (fun k σ' H' => (∃ (left : Int) (full mine : List (List Int)) (parts : List (Prs × Int)) (ts ls : List Addr) (y5 y6 y7 y8 y9 : Option V), σ' = [some (.ref a), some (.int left), some (.ref pm), some (.ref pf), some (.ref pp), y5, y6, y7, y8, y9, none] ∧ PlanI T n m (fullM T m) left full mine parts ∧ (k : Int) = nnz full (max n m) (max n m) + nnz mine n m ∧ (parts.length : Int) + k ≤ 800 ∧ Tab H' pm rm mine ∧ Tab H' pf rf full ∧ PartsAt H' pp ts ls parts ∧ ∀ l ∈ ls, l ∉ rm ∧ l ∉ rf ∧ l ≠ pp) ∧ Ex H H') (nnz F (max n m) (max n m) + nnz T n m).toNat ⟨⟨_, F, T, [], [], [], _, _, _, _, _, rfl, hI0, ?_, ?_, hTm.mono (e4.trans e5), hTf.mono e5, PartsAt.nil h5, fun l hl => nomatch hl⟩, e04.trans e5⟩ fun k σ' H' q => ?_
    · have := nnz_nonneg F (max n m) (max n m)
      have := nnz_nonneg T n m
      omega
    · have := nnz_400 (T := F) z2 z2
      have := nnz_400 (T := T) b2 c2
      have := nnz_nonneg F (max n m) (max n m)
      have := nnz_nonneg T n m
      show ((0 : Nat) : Int) + _ ≤ 800
      omega
    obtain ⟨⟨left, full, mine, parts, ts, ls, y5, y6, y7, y8, y9, rfl, hI, hk, hkl, hTm, hTf, hP, hls⟩, ex⟩ := q
    refine ⟨decide (0 < left), et_gt (ev_var rfl) ev_c rfl, fun hb H7 e7 => ?_, fun hb H7 e7 => ?_⟩
    · have hb := of_decide_eq_true hb
      refine ⟨fun σ2 H2 => (∃ (left : Int) (full2 mine2 : List (List Int)) (parts : List (Prs × Int)) (ts ls : List Addr) (y5 y6 y7 y8 y9 : Option V), σ2 = [some (.ref a), some (.int left), some (.ref pm), some (.ref pf), some (.ref pp), y5, y6, y7, y8, y9, none] ∧ PlanI T n m (fullM T m) left full2 mine2 parts ∧ nnz full2 (max n m) (max n m) + nnz mine2 n m < k ∧ (parts.length : Int) + (nnz full2 (max n m) (max n m) + nnz mine2 n m) ≤ 800 ∧ Tab H2 pm rm mine2 ∧ Tab H2 pf rf full2 ∧ PartsAt H2 pp ts ls parts ∧ ∀ l ∈ ls, l ∉ rm ∧ l ∉ rf ∧ l ≠ pp) ∧ Ex H H2, fun σ2 H2 ⟨⟨left, full2, mine2, parts, ts, ls, w5, w6, w7, w8, w9, v1, v2, v3, v4, v5⟩, v6⟩ => ⟨(nnz full2 (max n m) (max n m) + nnz mine2 n m).toNat, ?_, ⟨left, full2, mine2, parts, ts, ls, w5, w6, w7, w8, w9, v1, v2, ?_, ?_, v5⟩, v6⟩, ?_⟩
      · have := nnz_nonneg full2 (max n m) (max n m)
        have := nnz_nonneg mine2 n m
        omega
      · have := nnz_nonneg full2 (max n m) (max n m)
        have := nnz_nonneg mine2 n m
        omega
      · have := nnz_nonneg full2 (max n m) (max n m)
        have := nnz_nonneg mine2 n m
        omega
      have hRf := hI.reg.rect
      -- classes
      refine qp_asg (P := fun H1 u H2 => ∃ L q, Choice full (max n m) (max n m) 1 L ∧ u = .ref q ∧ H1 q = none ∧ H2 q = some (.lst (L.map fun (x : Nat) => V.int (x : Int)))) (evp_ixPT (evp_chosenR (hI.reg.enough hb) (ea_cons (ev_var rfl) (ea_cons ev_c ea_nil)) (hTf.mono e7) hRf (by omega) z2) ev_c (fun H1 u H2 ⟨L, hL, p, q, hu, nq, hp, hq⟩ => ⟨p, _, .ref q, hu, st_of hp, atI_of (j := 0) rfl rfl, L, q, hL, rfl, nq, hq⟩) fun H1 v H2 H3 e ⟨S, q, u1, u2, u3, u4⟩ => ⟨S, q, u1, u2, u3, e _ _ u4⟩) fun v H8 e8 ⟨L, pc, hL, hv, npc, hpc⟩ => ?_
      subst hv
      have e78 := e7.trans e8
      have hLlen := hL.len
      -- hours
      refine q_asg (v := .int (minI ((enumL L).map (cellP full)))) (ev_minL (el_enumI (cellP full) (ev_var rfl) hpc (by omega) (fun x y => rfl) fun t p H9 e9 htp => ?_) fun e => ?_) fun H9 e9 => ?_
      · have ha := hL.adj t p htp
        obtain ⟨u, x, hu, _, hx⟩ := hRf.cell ha.1 ha.2.1
        refine ev_is (ev_cell (ev_var rfl) (ev_var rfl) (ev_var rfl) (hTf.mono (e78.trans e9)) hu hx) ?_
        unfold cellP
        rw [← cell_of hu hx]
        simp
      · have : ((enumL L).map (cellP full)).length = 0 := by rw [e]; rfl
        rw [List.length_map, enumL_len, hL.len] at this
        omega
      have e79 := e78.trans e9
      -- pairs
      obtain ⟨u0, hu0, hl0⟩ := hI.rect.lt (show 0 < n by omega)
      have el : ∀ {U : List (List Int)} {rl : List Addr} {p : Addr} {H : Hp}, Tab H p rl U → Rect U n m → ((rl.map V.ref).length : Int) = (n : Int) := fun h1 h2 => by rw [List.length_map, h1.len, h2.len]
      refine qp_asg (P := NewPrs (prsA L n m)) (evp_prsE (fun pr => decide (pr.1 < (n : Int)) && decide (pr.2 < (m : Int))) (ev_var rfl) (e9 _ _ hpc) (by omega) (fun x y => rfl) (fun x y => rfl) (fun x y => rfl) fun t p H10 e10 htp => ?_) fun v H10 e10 ⟨l1, q1, hv, nl1, hP1⟩ => ?_
      · have hT10 := hTm.mono (e79.trans e10)
        obtain ⟨r0, hr0, h0⟩ := hT10.at hu0
        exact et_and (et_lt (ev_var rfl) (ev_is (ev_lenL (ev_var rfl) hT10.sq) (by rw [el hT10 hI.rect])) rfl) fun _ => et_lt (ev_var rfl) (ev_is (ev_lenL (ev_ixL (ev_var rfl) ev_c hT10.sq (atI_of (j := 0) rfl (ref_at hr0))) (sq_of h0)) (by rw [List.length_map, hl0])) rfl
      subst hv
      have e710 := e79.trans e10
      have hlA : (prsA L n m).length ≤ 20 := by
        have := List.length_filter_le (fun pr : Int × Int => decide (pr.1 < (n : Int)) && decide (pr.2 < (m : Int))) (enumL L)
        rw [enumL_len] at this
        unfold prsA
        omega
      refine qp_asg (P := NewPrs (prsOf L n m mine)) (evp_prsP (fun pr => decide (0 < cell mine pr.1.toNat pr.2.toNat)) (ev_var rfl) hP1 (by omega) (fun x y => rfl) (fun x y => rfl) (fun x y => rfl) fun pr H11 e11 hpr => ?_) fun v H11 e11 ⟨l2, q2, hv, nl2, hP2⟩ => ?_
      · obtain ⟨t, p, htp, rfl, ht, hp⟩ := mem_prsA.mp hpr
        obtain ⟨u, x, hu, _, hx⟩ := hI.rect.cell ht hp
        refine et_gt (ev_cell (ev_var rfl) (ev_var rfl) (ev_var rfl) (hTm.mono (e710.trans e11)) hu hx) ev_c ?_
        rw [← cell_of hu hx]
        simp
      subst hv
      have e711 := e710.trans e11
      have hlO : (prsOf L n m mine).length ≤ 20 := by
        have := prsOf_sub (L := L) (n := n) (m := m) (mine := mine)
        have := this.length_le
        rw [enumL_len] at this
        omega
      refine q_asg (v := .int (minI (minI ((enumL L).map (cellP full)) :: (prsOf L n m mine).map (cellP mine)))) (ev_minL (el_catNN (xs := [.int (minI ((enumL L).map (cellP full)))]) (ys := ((prsOf L n m mine).map (cellP mine)).map V.int) (el_lst (ea_cons (ev_var rfl) ea_nil) (by show 1 ≤ 100000; decide)) (el_pairs (ev_var rfl) hP2 (by omega) (fun x y => rfl) fun pr H12 hpr e12 => ?_) (by rw [List.length_map, List.length_map]; show 1 + _ ≤ 100000; omega)) (fun e => nomatch e)) fun H12 e12 => ?_
      · obtain ⟨t, p, htp, rfl, ht, hp, _⟩ := mem_prsOf.mp hpr
        obtain ⟨u, x, hu, _, hx⟩ := hI.rect.cell ht hp
        refine ev_is (ev_cell (ev_var rfl) (ev_var rfl) (ev_var rfl) (hTm.mono (e711.trans e12)) hu hx) ?_
        unfold cellP
        rw [← cell_of hu hx]
        simp
      obtain ⟨h1, hle, hle2, hmin⟩ := hours_ok (mine := mine) (n := n) (m := m) hL z1 rfl
      generalize minI (minI ((enumL L).map (cellP full)) :: (prsOf L n m mine).map (cellP mine)) = hh at h1 hle hle2 hmin
      have e712 := e711.trans e12
      have hst := hI.step hL h1 hle hle2 hmin
      have hTm12 := hTm.mono e712
      have hTf12 := hTf.mono e712
      have hP12 := hP.mono e712
      have hP2' := hP2.mono e12
      have hinF : InR (max n m) (max n m) (enumL L) := fun pr hpr => by
        obtain ⟨t, p, htp, rfl⟩ := mem_enumL.mp hpr
        have a := hL.adj t p htp
        have a1 := a.1
        have a2 := a.2.1
        exact ⟨by show (0 : Int) ≤ (t : Int); omega, by show (t : Int) < ((max n m : Nat) : Int); omega, by show (0 : Int) ≤ (p : Int); omega, by show (p : Int) < ((max n m : Nat) : Int); omega⟩
      have k1 : pc ∉ rf := fun z => rlst (hTf.mono e7) z npc
      have k2 : l2 ∉ rf := fun z => rlst (hTf.mono e710) z nl2
      have k3 : l2 ∉ rm := fun z => rlst (hTm.mono e710) z nl2
      have k4 : l2 ≠ pp := fun z => by
        have := (hP.mono e710).top
        rw [← z, nl2] at this
        cases this
      -- full less
      refine s_subsE (h := hh) (n := max n m) (m := max n m) (ev_var rfl) ((((e9.trans e10).trans e11).trans e12) _ _ hpc) rfl rfl (by show 8 < 11; decide) (by show 9 < 11; decide) (by decide) hinF hRf ndf hTf12 k1 fun H13 x8 x9 e13 hTf13 => ?_
      have ex13 : Ex H H13 := ExR.ex (ex.trans e712) e13 frf0
      have hTm13 : Tab H13 pm rm mine := hTm12.other (U := full) (pl := pf) e13 d2 d1
      have hP13 := hP12.exR hTf12 e13 d5 fun l hl => (hls l hl).2.1
      have hP213 := hP2'.exR hTf12 e13 k2
      -- mine less
      refine s_subs (h := hh) (n := n) (m := m) (ev_var rfl) hP213 rfl rfl (by show 8 < 11; decide) (by show 9 < 11; decide) (by decide) prsOf_inR hI.rect ndm hTm13 k3 fun H14 w8 w9 e14 hTm14 => ?_
      have ex14 : Ex H H14 := ExR.ex ex13 e14 frm0
      have hTf14 : Tab H14 pf rf (subP full (enumL L) hh) := hTf13.other (U := mine) (pl := pm) e14 d3 fun r h1 h2 => d1 r h2 h1
      have hP14 := hP13.exR hTm13 e14 d4 fun l hl => (hls l hl).1
      have hP214 := hP213.exR hTm13 e14 k3
      -- one part more
      refine q_appU hP14.top (ev_var rfl) (eu_tup (ea_cons (ev_var rfl) (ea_cons (ev_var rfl) ea_nil)) (by show 2 ≤ 100000; decide)) (by rw [List.length_map, hP.lt]; omega) fun pt H15 npt e15 h15 => ?_
      have hP15 := hP14.mono e15
      have hsn := hP15.snoc h15 (hP214.mono e15) k4 fun l hl => (hls l hl).2.2
      have ex16 : Ex H (upd H15 pp (.lst (ts.map V.ref ++ [.ref pt]))) := Ex.mut (ex14.trans e15) npp0
      have hTm16 := (hTm14.mono e15).keep (o := .lst (ts.map V.ref ++ [.ref pt])) d8 d4
      have hTf16 := (hTf14.mono e15).keep (o := .lst (ts.map V.ref ++ [.ref pt])) d9 d5
      generalize upd H15 pp (.lst (ts.map V.ref ++ [.ref pt])) = H16 at hsn ex16 hTm16 hTf16
      refine s_asg (v := .int (left - hh)) (ev_sub (ev_var rfl) (ev_var rfl)) fun H17 e17 => ⟨⟨left - hh, _, _, _, _, _, _, _, _, _, _, rfl, hst.1, ?_, ?_, hTm16.mono e17, hTf16.mono e17, hsn.mono e17, fun l hl => ?_⟩, ex16.trans e17⟩
      · have := hst.2
        omega
      · have := hst.2
        rw [List.length_append, List.length_singleton]
        omega
      · rcases List.mem_append.mp hl with h | h
        · exact hls l h
        · have : l = l2 := by simpa using h
          rw [this]
          exact ⟨k3, k2, k4⟩
    · have hb := of_decide_eq_false hb
      refine sp_ret (evp_makeP (ea_cons (ev_var rfl) ea_nil) (hP.mono e7) (by omega)) fun v H8 e8 hv => kq parts ⟨hI.done b1 hb, by omega⟩ v H8 ((ex.trans e7).trans e8) (down_plan _ _ _ _ (ex.trans e7) hv)
end Lh

namespace Lh
open PySem PySem.Spec PyProof.Rows L2 Evl
theorem ok_asked_bad {P : Program} {w : World} {K : PySem.W.Frag} {mg : Str → Option Value} {base : Heap} {CT CB CH : Addr} (M : Mg mg) (cx : CsX K mg CT CB CH) (D : Def K mg "asked_table" s_asked_table ["table"]) (C_is_number : Cal P w K mg base 1 "is_number" ["thing"] (sp_is_number K)) : CalN P w K mg base 2 "asked_table" ["table"] (sp_bad1 K CT) := by
  refine D.calN sc_asked_table (fun vs H Q E h => ?_) (fun f cdv A outer s H vs Q E hr h => ?_)
  · obtain ⟨v, rfl, _⟩ := h
    rfl
  · obtain ⟨v, rfl, hB, hO⟩ := h
    refine ⟨_, (pss_cons (ps_if (PW.pt (pw_or (pt_not (pt_val (pe_callB call_isi (by rfl) M.isinstance (by decide +kernel) (pa_cons (pv 0) (pa_cons (pe_bltn (v := .ty "list") (u := .type "list") (by rfl) M.list_ (by decide +kernel) rfl) pa_nil))))) (pw_or (pt_not (pt_chain op_le op_le pe_int (pe_callB call_len_seq (by rfl) M.len (by decide +kernel) (pa_cons (pv 0) pa_nil)) (pe_globI (by rfl) M.MOST))) (pw_or1 (pt_not (pt_val (pe_callB call_isi (by rfl) M.isinstance (by decide +kernel) (pa_cons (pe_ix ix_list (pv 0) pe_int (fun _ _ => rfl)) (pa_cons (pe_bltn (v := .ty "list") (u := .type "list") (by rfl) M.list_ (by decide +kernel) rfl) pa_nil)))))))))
  (pss_one (L2N.ps_raise rfl (L2N.takes_of rfl rfl rfl rfl) (L2N.pmk_own PySem.F.excBase_ValueError cx.T.x cx.T.g cx.T.k (raises_own cx.T.b cx.T.t) (by rfl))))
  pss_nil)
  (pss_cons (ps_if (pt_not (pt_chain op_le op_le pe_int (pe_callB call_len_seq (by rfl) M.len (by decide +kernel) (pa_cons (pe_ix ix_list (pv 0) pe_int (fun _ _ => rfl)) pa_nil)) (pe_globI (by rfl) M.MOST)))
  (pss_one (L2N.ps_raise rfl (L2N.takes_of rfl rfl rfl rfl) (L2N.pmk_own PySem.F.excBase_ValueError cx.T.x cx.T.g cx.T.k (raises_own cx.T.b cx.T.t) (by rfl))))
  pss_nil)
  (pss_one (ps_for (passes_of rfl) rfl (pi_list (pv 0)) (pg_name (i := 1) sc_asked_table.nd rfl (Or.inl rfl))
  (pss_cons (ps_if (PW.pt (pw_or (pt_not (pt_val (pe_callB call_isi (by rfl) M.isinstance (by decide +kernel) (pa_cons (pv 1) (pa_cons (pe_bltn (v := .ty "list") (u := .type "list") (by rfl) M.list_ (by decide +kernel) rfl) pa_nil))))) (pw_or1 (pt_cmpR op_ne (pe_callB call_len_seq (by rfl) M.len (by decide +kernel) (pa_cons (pv 1) pa_nil)) (pe_callB call_len_seq (by rfl) M.len (by decide +kernel) (pa_cons (pe_ix ix_list (pv 0) pe_int (fun _ _ => rfl)) pa_nil)) (nomark _)))))
  (pss_one (L2N.ps_raise rfl (L2N.takes_of rfl rfl rfl rfl) (L2N.pmk_own PySem.F.excBase_ValueError cx.T.x cx.T.g cx.T.k (raises_own cx.T.b cx.T.t) (by rfl))))
  pss_nil)
  (pss_one (ps_if (pt_not (pt_val (pe_callB (cr_all rfl) (by rfl) M.all (by decide +kernel) (pa_cons (pe_lc (own := [("hours", 2)]) (wi := (iList K (tVar 1))) (g := gName 2) (tt := tYes) (te := (tAndV (tCall _ [] E0 (tCons (tVar 2) tNil)) (tOp _ (tVar 2) _))) (by rfl) sc_asked_table.nd  (pi_list (pv 1)) (blkOk_by (by kernel_rfl)) (fun _ _ _ _ _ => (pg_name (i := 2) sc_asked_table.nd rfl (Or.inl rfl))) (fun _ _ _ _ _ => pts_nil) (fun _ _ _ _ _ => (pe_and (pe_cal C_is_number hr (by rfl) (pa_cons (pv 2) pa_nil)) (pe_one (pe_cmpR op_ge (pv 2) pe_int (nomark _)))))) pa_nil))))
  (pss_one (L2N.ps_raise rfl (L2N.takes_of rfl rfl rfl rfl) (L2N.pmk_own PySem.F.excBase_ValueError cx.T.x cx.T.g cx.T.k (raises_own cx.T.b cx.T.t) (by rfl))))
  pss_nil))))))), ?_⟩
    rcases hB with ⟨T, ty, hk⟩ | ⟨a, xs, rfl, hx, hB⟩
    · exact q_when (b := true) (et_orT (et_is (et_not (et_B (ev_isi (ev_var rfl) (fun H1 e => tyx_mono e ty) hk))) rfl)) (fun _ H1 e1 => hO H1 e1) (fun h => nomatch h)
    have t0 : EvT (tNot (tB (tCB (rIsi K) (tCons (tVar 0) (tCons (tC (.ty "list")) tNil))))) [some (V.ref a), none, none] H false := et_is (et_not (et_B (isi_list (ev_var rfl) hx))) rfl
    have chain : ∀ {σ : L2.St} {H1 : Hp} {te : TE} {k : Nat}, Ev te σ H1 (.int (k : Int)) → EvT (tNot (tTest (tChain (rI0 fun i j => .bl (decide (i ≤ j))) (rI0 fun i j => .bl (decide (i ≤ j))) (tC (.int 1)) te (tC (.int 20))))) σ H1 (!(decide (1 ≤ (k : Int)) && decide ((k : Int) ≤ 20))) := fun h => et_not (et_test (ev_chain (k := decide (1 ≤ _)) (k' := decide (_ ≤ 20)) ev_c h (rv_leD rfl) (fun _ => ev_c) (fun _ => rv_leD rfl)))
    have lenx := ev_lenL (K := K) (σ := [some (V.ref a), none, none]) (ta := tVar 0) (ev_var rfl) (sq_of hx)
    rcases hB with hB | ⟨x, hx0, hxl, hB⟩
    · refine q_when (b := true) (et_orF t0 (et_orT (et_is (chain lenx) ?_))) (fun _ H1 e1 => hO H1 e1) (fun h => nomatch h)
      rcases hB with rfl | hB
      · rfl
      · have : decide ((xs.length : Int) ≤ 20) = false := decide_eq_false (by omega)
        rw [this]
        simp
    have hx1 : 1 ≤ xs.length := by
      have := (List.getElem?_eq_some_iff.mp hx0).1
      omega
    have t1 : EvT (tNot (tTest (tChain (rI0 fun i j => .bl (decide (i ≤ j))) (rI0 fun i j => .bl (decide (i ≤ j))) (tC (.int 1)) (tCB (rLenS K) (tCons (tVar 0) tNil)) (tC (.int 20))))) [some (V.ref a), none, none] H false := et_is (chain lenx) (by
      rw [decide_eq_true (show (1 : Int) ≤ (xs.length : Int) by omega), decide_eq_true (show (xs.length : Int) ≤ 20 by omega)]
      rfl)
    rcases hB with ⟨T, ty, hk⟩ | ⟨a0, ys, rfl, hys, hB⟩
    · exact q_when (b := true) (et_orF t0 (et_orF t1 (et_is (et_not (et_B (ev_isi (ev_ixL (ev_var rfl) ev_c (sq_of hx) (atI_of (j := 0) rfl hx0)) (fun H1 e => tyx_mono e ty) hk))) rfl))) (fun _ H1 e1 => hO H1 e1) (fun h => nomatch h)
    refine q_when (b := false) (et_orF t0 (et_orF t1 (et_is (et_not (et_B (isi_list (ev_ixL (ev_var rfl) ev_c (sq_of hx) (atI_of (j := 0) rfl hx0)) hys))) rfl))) (fun h => nomatch h) fun _ H1 e1 => ?_
    have hx1' := e1 _ _ hx
    have hys1 := e1 _ _ hys
    have leny : ∀ {σ : L2.St} {H2 : Hp}, Ex H H2 → σ[0]? = some (some (.ref a)) → Ev (tCB (rLenS K) (tCons (tOp (rIxL K) (tVar 0) (tC (.int 0))) tNil)) σ H2 (.int (ys.length : Int)) := fun e2 h0 => ev_lenL (ev_ixL (ev_var h0) ev_c (sq_of (e2 _ _ hx)) (atI_of (j := 0) rfl hx0)) (sq_of (e2 _ _ hys))
    rcases hB with hB | hB | ⟨hy1, hy2, i, ⟨u, hu, hbad⟩, hgood⟩
    · refine q_when (b := true) (et_is (chain (leny e1 rfl)) ?_) (fun _ H2 e2 => hO H2 (e1.trans e2)) (fun h => nomatch h)
      rw [hB]
      rfl
    · refine q_when (b := true) (et_is (chain (leny e1 rfl)) ?_) (fun _ H2 e2 => hO H2 (e1.trans e2)) (fun h => nomatch h)
      have : decide ((ys.length : Int) ≤ 20) = false := decide_eq_false (by omega)
      rw [this]
      simp
    refine q_when (b := false) (et_is (chain (leny e1 rfl)) ?_) (fun h => nomatch h) fun _ H2 e2 => ?_
    · rw [decide_eq_true (show (1 : Int) ≤ (ys.length : Int) by omega), decide_eq_true (show (ys.length : Int) ≤ 20 by omega)]
      rfl
    have e02 := e1.trans e2
    refine s_forLn (ev_var rfl) (sq_of (e02 _ _ hx)) (fun j σ' H' => (∃ y1, σ' = [some (.ref a), y1, none]) ∧ Ex H H' ∧ j ≤ i) (fun H3 e3 => ⟨⟨_, rfl⟩, e02.trans e3, Nat.zero_le _⟩) (fun j σ' H' _ z => sq_of (z.2.1 _ _ hx)) (fun j x σ' H' hxj z => ?_) (fun σ' H' z => ?_)
    · obtain ⟨⟨y1, rfl⟩, ex, hji⟩ := z
      have rows : ∀ {H3 : Hp} {r : Addr} {zs : List V}, Ex H H3 → H3 r = some (.lst zs) → EvT (tOr (tNot (tB (tCB (rIsi K) (tCons (tVar 1) (tCons (tC (.ty "list")) tNil))))) (tTest (tOp rNe (tCB (rLenS K) (tCons (tVar 1) tNil)) (tCB (rLenS K) (tCons (tOp (rIxL K) (tVar 0) (tC (.int 0))) tNil))))) [some (V.ref a), some (.ref r), none] H3 (!decide ((zs.length : Int) = (ys.length : Int))) := fun e3 hr3 => et_orF (et_is (et_not (et_B (isi_list (ev_var rfl) hr3))) rfl) (et_ne (ev_lenL (ev_var rfl) (sq_of hr3)) (leny e3 rfl) rfl)
      have nums : ∀ {H3 : Hp} {r : Addr} {zs : List V}, H3 r = some (.lst zs) → zs.length ≤ 1000 → (∀ z ∈ zs, NumOk z ∨ NumBad K H3 z) → Ev (tCB (rAll K) (tCons (tLc (iList K (tVar 1)) (gName 2) tYes (tAndV (tCall (sp_is_number K) [] E0 (tCons (tVar 2) tNil)) (tOp (rI0 fun i j => .bl (decide (j ≤ i))) (tVar 2) (tC (.int 0)))) [2]) tNil)) [some (V.ref a), some (.ref r), none] H3 (.bl (zs.all numB)) := fun hr3 hl hn => ev_allNum (ev_var rfl) hr3 hl hn (fun x => rfl) (fun x H4 => ev_var rfl)
      by_cases hj : j < i
      · obtain ⟨r, zs, rfl, hr, hl, hn⟩ := (hgood j x hj hxj).mono ex
        refine q_when (b := false) (et_is (rows ex hr) (by rw [hl]; simp)) (fun h => nomatch h) fun _ H3 e3 => ?_
        refine s_when (b := false) (et_is (et_not (et_B (nums (e3 _ _ hr) (by omega) fun z hz => .inl (hn z hz)))) ?_) (fun h => nomatch h) fun _ H4 e4 => ⟨⟨_, rfl⟩, (ex.trans e3).trans e4, hj⟩
        rw [List.all_eq_true.mpr fun z hz => numB_ok (hn z hz)]
        rfl
      · have hji2 : j = i := by omega
        subst hji2
        rw [hu] at hxj
        cases hxj
        rcases hbad.mono ex with ⟨T, ty, hk⟩ | ⟨r, zs, rfl, hr, hzl, hb⟩
        · exact q_when (b := true) (et_orT (et_is (et_not (et_B (ev_isi (ev_var rfl) (fun H1 e => tyx_mono e ty) hk))) rfl)) (fun _ H3 e3 => hO H3 (ex.trans e3)) (fun h => nomatch h)
        · rcases hb with hb | ⟨hl, hn, z, hz, hzb⟩
          · exact q_when (b := true) (et_is (rows ex hr) (by rw [decide_eq_false (show ¬ (zs.length : Int) = (ys.length : Int) by omega)]; rfl)) (fun _ H3 e3 => hO H3 (ex.trans e3)) (fun h => nomatch h)
          · refine q_when (b := false) (et_is (rows ex hr) (by rw [hl]; simp)) (fun h => nomatch h) fun _ H3 e3 => ?_
            refine s_when (b := true) (et_is (et_not (et_B (nums (e3 _ _ hr) (by omega) fun z hz => (hn z hz).imp id fun y => y.mono e3))) ?_) (fun _ H4 e4 => hO H4 ((ex.trans e3).trans e4)) (fun h => nomatch h)
            have : zs.all numB = false := List.all_eq_false.mpr ⟨z, hz, by rw [numB_bad hzb]; exact Bool.false_ne_true⟩
            rw [this]
            rfl
    · have := (List.getElem?_eq_some_iff.mp hu).1
      have := z.2.2
      omega
end Lh

namespace Lh
open PySem PySem.Spec PyProof.Rows L2 Evl
theorem ok_fullest_bad {P : Program} {w : World} {K : PySem.W.Frag} {mg : Str → Option Value} {base : Heap} {CT CB CH : Addr} (M : Mg mg) (cx : CsX K mg CT CB CH) (D : Def K mg "fullest" s_fullest ["table"]) (X_asked_table : CalN P w K mg base 2 "asked_table" ["table"] (sp_bad1 K CT)) : CalN P w K mg base 3 "fullest" ["table"] (sp_bad1 K CT) := by
  refine D.calN sc_fullest (fun vs H Q E h => ?_) (fun f cdv A outer s H vs Q E hr h => ?_)
  · obtain ⟨v, rfl, _⟩ := h
    rfl
  · obtain ⟨v, rfl, hB, hO⟩ := h
    refine ⟨_, (pss_cons (ps_expr (pe_calN X_asked_table hr (by rfl) (L2N.passes_call (L2N.takes_of rfl rfl rfl rfl) fun _ _ _ _ h => h) (pa_cons (pv 0) pa_nil)))
  (pss_one ps_never)), ?_⟩
    exact q_rz (rz_bad1 (ev_var rfl) hB hO)
end Lh

namespace Lh
open PySem PySem.Spec PyProof.Rows L2 Evl
theorem ok_plan_bad {P : Program} {w : World} {K : PySem.W.Frag} {mg : Str → Option Value} {base : Heap} {CT CB CH : Addr} (M : Mg mg) (cx : CsX K mg CT CB CH) (D : Def K mg "plan" s_plan ["table"]) (X_asked_table : CalN P w K mg base 2 "asked_table" ["table"] (sp_bad1 K CT)) : CalN P w K mg base 3 "plan" ["table"] (sp_bad1 K CT) := by
  refine D.calN sc_plan (fun vs H Q E h => ?_) (fun f cdv A outer s H vs Q E hr h => ?_)
  · obtain ⟨v, rfl, _⟩ := h
    rfl
  · obtain ⟨v, rfl, hB, hO⟩ := h
    refine ⟨_, (pss_cons (ps_expr (pe_calN X_asked_table hr (by rfl) (L2N.passes_call (L2N.takes_of rfl rfl rfl rfl) fun _ _ _ _ h => h) (pa_cons (pv 0) pa_nil)))
  (pss_cons ps_never
  (pss_cons ps_never
  (pss_cons ps_never
  (pss_cons ps_never
  (pss_cons ps_never
  (pss_one ps_never))))))), ?_⟩
    exact q_rz (rz_bad1 (ev_var rfl) hB hO)
end Lh

namespace Lh
open PySem PySem.Spec PyProof.Rows L2 Evl
theorem ok_each_bad {P : Program} {w : World} {K : PySem.W.Frag} {mg : Str → Option Value} {base : Heap} {CT CB CH : Addr} (M : Mg mg) (cx : CsX K mg CT CB CH) (D : Def K mg "each" s_each ["table"]) (X_asked_table : CalN P w K mg base 2 "asked_table" ["table"] (sp_bad1 K CT)) : CalN P w K mg base 3 "each" ["table"] (sp_bad1 K CT) := by
  refine D.calN sc_each (fun vs H Q E h => ?_) (fun f cdv A outer s H vs Q E hr h => ?_)
  · obtain ⟨v, rfl, _⟩ := h
    rfl
  · obtain ⟨v, rfl, hB, hO⟩ := h
    refine ⟨_, (pss_cons (ps_expr (pe_calN X_asked_table hr (by rfl) (L2N.passes_call (L2N.takes_of rfl rfl rfl rfl) fun _ _ _ _ h => h) (pa_cons (pv 0) pa_nil)))
  (pss_cons ps_never
  (pss_one ps_never))), ?_⟩
    exact q_rz (rz_bad1 (ev_var rfl) hB hO)
end Lh

namespace Lh
open PySem PySem.Spec PyProof.Rows L2 Evl
theorem ok_lasting_bad {P : Program} {w : World} {K : PySem.W.Frag} {mg : Str → Option Value} {base : Heap} {CT CB CH : Addr} (M : Mg mg) (cx : CsX K mg CT CB CH) (D : Def K mg "lasting" s_lasting ["table"]) (X_asked_table : CalN P w K mg base 2 "asked_table" ["table"] (sp_bad1 K CT)) : CalN P w K mg base 3 "lasting" ["table"] (sp_bad1 K CT) := by
  refine D.calN sc_lasting (fun vs H Q E h => ?_) (fun f cdv A outer s H vs Q E hr h => ?_)
  · obtain ⟨v, rfl, _⟩ := h
    rfl
  · obtain ⟨v, rfl, hB, hO⟩ := h
    refine ⟨_, (pss_cons (ps_expr (pe_calN X_asked_table hr (by rfl) (L2N.passes_call (L2N.takes_of rfl rfl rfl rfl) fun _ _ _ _ h => h) (pa_cons (pv 0) pa_nil)))
  (pss_cons ps_never
  (pss_cons ps_never
  (pss_cons ps_never
  (pss_cons ps_never
  (pss_cons ps_never
  (pss_cons ps_never
  (pss_cons ps_never
  (pss_cons ps_never
  (pss_one ps_never)))))))))), ?_⟩
    exact q_rz (rz_bad1 (ev_var rfl) hB hO)
end Lh

namespace Lh
open PySem PySem.Spec PyProof.Rows L2 Evl
theorem ok_raised_bad {P : Program} {w : World} {K : PySem.W.Frag} {mg : Str → Option Value} {base : Heap} {CT CB CH : Addr} (M : Mg mg) (cx : CsX K mg CT CB CH) (D : Def K mg "raised" s_raised ["table", "hours"]) (X_asked_table : CalN P w K mg base 2 "asked_table" ["table"] (sp_bad1 K CT)) : CalN P w K mg base 3 "raised" ["table", "hours"] (sp_bad2 K CT) := by
  refine D.calN sc_raised (fun vs H Q E h => ?_) (fun f cdv A outer s H vs Q E hr h => ?_)
  · obtain ⟨v, x, rfl, _⟩ := h
    rfl
  · obtain ⟨v, x, rfl, hB, hO⟩ := h
    refine ⟨_, (pss_cons (ps_expr (pe_calN X_asked_table hr (by rfl) (L2N.passes_call (L2N.takes_of rfl rfl rfl rfl) fun _ _ _ _ h => h) (pa_cons (pv 0) pa_nil)))
  (pss_cons ps_never
  (pss_one ps_never))), ?_⟩
    exact q_rz (rz_bad1 (ev_var rfl) hB hO)
end Lh

namespace Lh
open PySem PySem.Spec PyProof.Rows L2 Evl
theorem ok_lasting_few {P : Program} {w : World} {K : PySem.W.Frag} {mg : Str → Option Value} {base : Heap} {CT CB CH : Addr} (M : Mg mg) (cx : CsX K mg CT CB CH) (D : Def K mg "lasting" s_lasting ["table"]) (C_asked_table : Cal P w K mg base 2 "asked_table" ["table"] (sp_asked_table K)) (C_chosen : Cal P w K mg base 22 "chosen" ["table", "least"] (sp_chosen K)) : CalN P w K mg base 23 "lasting" ["table"] (sp_lasting_few K CT) := by
  refine D.calN sc_lasting (fun vs H Q E h => ?_) (fun f cdv A outer s H vs Q E hr h => ?_)
  · obtain ⟨a, rs, T, n, m, rfl, _⟩ := h
    rfl
  · obtain ⟨a, rs, T, n, m, rfl, hT, hG, hnm, hO⟩ := h
    have hR := hG.toRect
    have b2 := hG.n20
    have b3 := hG.m20
    refine ⟨_, (pss_cons (ps_expr (pe_cal C_asked_table hr (by rfl) (pa_cons (pv 0) pa_nil)))
  (pss_cons (ps_if (pt_cmpR op_notN (pe_ix ix_tup (pe_cal C_chosen hr (by rfl) (pa_cons (pv 0) (pa_cons pe_int pa_nil))) pe_int (fun _ _ => rfl)) pe_non (nomark _))
  (pss_one (L2N.ps_raise rfl (L2N.takes_of rfl rfl rfl rfl) (L2N.pmk_own PySem.F.excBase_ValueError cx.T.x cx.T.g cx.T.k (raises_own cx.T.b cx.T.t) (by rfl))))
  pss_nil)
  (pss_cons ps_never
  (pss_cons ps_never
  (pss_cons ps_never
  (pss_cons ps_never
  (pss_cons ps_never
  (pss_cons ps_never
  (pss_cons ps_never
  (pss_one ps_never)))))))))), ?_⟩
    refine q_drop (ev_callV (ea_cons (ev_var rfl) ea_nil) fun H1 e1 Q1 q1 => ⟨a, rs, T, n, m, rfl, hT.mono e1, hG, q1⟩) fun H1 e1 => ?_
    refine q_when (b := true) (et_test fun H2 e2 Q2 q2 => (evp_ixPT (P' := fun H1 v H2 => ∃ p, v = .ref p) (evp_chosenS (v := 0) (fun ⟨L, hL⟩ => few_none hL hnm) (ea_cons (ev_var rfl) (ea_cons ev_c ea_nil)) (hT.mono e1) hR (by omega) b3) ev_c (fun H1 u H2 ⟨S, hS, p, q, hu, _, hp, _⟩ => ⟨p, _, .ref q, hu, st_of hp, atI_of (j := 1) rfl rfl, q, rfl⟩) fun H1 v H2 H3 e z => z) H2 e2 _ fun v H3 e3 ⟨p, hv⟩ => ?_) (fun _ H2 e2 => hO H2 (e1.trans e2)) (fun h => nomatch h)
    subst hv
    exact ⟨rfl, q2 H3 e3⟩
end Lh

namespace Lh
open PySem PySem.Spec PyProof.Rows L2 Evl
theorem ok_raised_hrs {P : Program} {w : World} {K : PySem.W.Frag} {mg : Str → Option Value} {base : Heap} {CT CB CH : Addr} (M : Mg mg) (cx : CsX K mg CT CB CH) (D : Def K mg "raised" s_raised ["table", "hours"]) (C_is_number : Cal P w K mg base 1 "is_number" ["thing"] (sp_is_number K)) (C_asked_table : Cal P w K mg base 2 "asked_table" ["table"] (sp_asked_table K)) (C_fullest_of : Cal P w K mg base 2 "fullest_of" ["table"] (sp_fullest_of K)) : CalN P w K mg base 3 "raised" ["table", "hours"] (sp_raised_hrs K CB) := by
  refine D.calN sc_raised (fun vs H Q E h => ?_) (fun f cdv A outer s H vs Q E hr h => ?_)
  · obtain ⟨a, rs, T, n, m, v, rfl, _⟩ := h
    rfl
  · obtain ⟨a, rs, T, n, m, v, rfl, hT, hG, hB, hO⟩ := h
    have b1 := hG.n1
    have b2 := hG.n20
    have b3 := hG.m1
    have b4 := hG.m20
    refine ⟨_, (pss_cons (ps_expr (pe_cal C_asked_table hr (by rfl) (pa_cons (pv 0) pa_nil)))
  (pss_cons (ps_if (PW.pt (pw_or (pt_not (pt_val (pe_cal C_is_number hr (by rfl) (pa_cons (pv 1) pa_nil)))) (pw_or1 (pt_cmpR op_lt (pv 1) (pe_ix ix_tup (pe_cal C_fullest_of hr (by rfl) (pa_cons (pv 0) pa_nil)) pe_int (fun _ _ => rfl)) (nomark _)))))
  (pss_one (L2N.ps_raise rfl (L2N.takes_of rfl rfl rfl rfl) (L2N.pmk_own PySem.F.excBase_ValueError cx.B.x cx.B.g cx.B.k (raises_own cx.B.b cx.B.t) (by rfl))))
  pss_nil)
  (pss_one ps_never))), ?_⟩
    refine q_drop (ev_callV (ea_cons (ev_var rfl) ea_nil) fun H1 e1 Q1 q1 => ⟨a, rs, T, n, m, rfl, hT.mono e1, hG, q1⟩) fun H1 e1 => ?_
    refine q_when (b := true) ?_ (fun _ H2 e2 => hO H2 (e1.trans e2)) (fun h => nomatch h)
    rcases hB with ⟨i, hi, rfl⟩ | ⟨Tn, c1, c2, ty, h1, h2, h3⟩
    · refine et_orF (et_is (et_not (et_B (ev_number (ev_var rfl)))) rfl) (et_lt (k := true) (j := fullM T m) (ev_var rfl) ?_ (decide_eq_true hi))
      exact ev_ixPT (P := NewFull T m) (evp_call (ea_cons (ev_var rfl) ea_nil) down_c fun H2 e2 Q2 q2 => ⟨a, rs, T, n, m, rfl, hT.mono (e1.trans e2), hG.toRect, by omega, by omega, by omega, by omega, q2⟩) (fun H2 e2 => ev_c) (fun H2 u H3 ⟨p, q, hu, hp, hq⟩ => ⟨p, _, hu, st_of hp, atI_of (j := 0) rfl rfl⟩)
    · exact et_orT (et_is (et_not (et_B (ev_callV (v := .bl false) (ea_cons (ev_var rfl) ea_nil) fun H2 e2 Q2 q2 => ⟨v, Tn, c1, c2, rfl, tyx_mono (e1.trans e2) ty, h1, h2, by rw [h3]; exact q2⟩))) rfl)
end Lh

namespace Lh
open PySem PySem.Spec PyProof.Rows L2 Evl
theorem ok__law_refused {P : Program} {w : World} {K : PySem.W.Frag} {mg : Str → Option Value} {base : Heap} {CT CB CH : Addr} (M : Mg mg) (cx : CsX K mg CT CB CH) (D : Def K mg "_law_refused" s__law_refused ["_law_ask", "_law_thing", "_law_due"]) (k : Nat) : CalRG P w K mg base CT CB k := by
  refine ⟨fun {X} hP hw hK hm hb {SP} himp {j p pos e es t} hr hjk hg ha he hpl => ?_⟩
  subst hP hw hK hm hb
  refine pe_calV (k := k + 1) (SP := SP) D sc__law_refused (fun σ vs H Q h => ?_) (fun g cdv pins σ s H vs Q I hr h => ?_) hr hg ha hjk (by decide) he hpl
  · obtain ⟨f, v, d, C, tb, rfl, _⟩ := himp _ _ _ _ h
    rfl
  · obtain ⟨f, v, d, C, tb, rfl, hA, hC, hT, hQ⟩ := himp _ _ _ _ h
    obtain ⟨q, c', ps, body, sc, cl, p, N, σc, te, hf, hc, L, nd, hl, bind, cls, hbd, imp⟩ := hA.ex
    have act : ∀ (W : WX) (pn : List (Addr × Obj)) (xe : Value → Shared → Prop), L2N.Takes ((cxOf CX0 X.prog X.w X.K X.mg X.base ["_law_ask", "_law_thing", "_law_due", "error", "_law_kinds", "_law_kind"] "_law_refused" (defScope s__law_refused) g cdv X.A X.stack s H E0).nox.tr pn xe) W → ∀ p1 p2 p3 : Pos, PE ((cxOf CX0 X.prog X.w X.K X.mg X.base ["_law_ask", "_law_thing", "_law_due", "error", "_law_kinds", "_law_kind"] "_law_refused" (defScope s__law_refused) g cdv X.A X.stack s H E0).nox.tr pn xe) (.Call (.Name "_law_ask" p1) [.Name "_law_thing" p2] [] p3) (tAct 0 1 f c' q ps body sc cl σc W te) := fun W pn xe tk p1 p2 p3 =>
      pe_act1 (k := k) hr tk L nd hl bind (fun pins' σ' H' s' v' I' => cls pins s I H' s' v' I'.base) hbd rfl (.inl rfl) rfl (.inl rfl)
    let tact := fun W : WX => tAct 0 1 f c' q ps body sc cl σc W te
    let K := X.K
    refine ⟨_, (pss_cons (L2N.ps_try_as (i := 3) (tb := fun W => (tDrop (tact W))) (ts := fun a cls d D σ H => ∃ Dc, cls = .ref Dc ∧ d = none ∧ ExcC K Dc ∧ (tSeq (tAsg (tLst (tCons (tCB (rIsE K Dc a) (tCons (tVar 3) (tCons (tC (.ref CT)) tNil))) (tCons (tCB (rIsE K Dc a) (tCons (tVar 3) (tCons (tC (.ref CB)) tNil))) tNil))) (gName 4)) (tRet (tAndV (tOp (rEqD K) (tVar 4) (tLc (iRng1 (tCons _ tNil)) (gName 5) tYes (tOp _ (tVar 5) (tVar 2)) [5])) (tCB (rIsE K Dc a) (tCons (tVar 3) (tCons (tC (.ty "ValueError")) tNil)))))) D σ H) rfl rfl sc__law_refused.nd rfl rfl ⟨rfl, by decide, .inl cx.gH⟩ takesN0 (fun W pn xe tk _ =>
  (pss_one (ps_expr (act W pn xe tk _ _ _))))
  (fun a oe cls d pn hz hf => pss_exc fun Dc hc hd hE =>
  (pss_cons (ps_set (i := 4) sc__law_refused.nd rfl (Or.inl rfl) (pe_lst (pa_cons (pe_callB (call_isE hE (zc_of hc hd hz.zc) hf) (by rfl) M.isinstance (by decide +kernel) (pa_cons (pv 3) (pa_cons (pe_glob (v := .ref CT) (by rfl) cx.T.g rfl) pa_nil))) (pa_cons (pe_callB (call_isE hE (zc_of hc hd hz.zc) hf) (by rfl) M.isinstance (by decide +kernel) (pa_cons (pv 3) (pa_cons (pe_glob (v := .ref CB) (by rfl) cx.B.g rfl) pa_nil))) pa_nil))))
  (pss_one (ps_ret (pe_and (pe_cmpR (op_eqD hr.units) (pv 4) (pe_lcH (own := [("_law_kind", 5)]) (wi := (iRng1 (tCons _ tNil))) (g := gName 5) (te := (tOp _ (tVar 5) (tVar 2))) (hot_of hz hf) sc__law_refused.nd (L2H.pi_range1H (by rfl) M.range (pa_cons pe_int pa_nil)) (blkOk_by (by kernel_rfl)) (fun _ _ _ _ _ => (pg_name (i := 5) sc__law_refused.nd rfl (Or.inl rfl))) (fun _ _ _ _ _ => (pe_cmpR op_eq (pv 5) (pv 2) (nomark _)))) (nomark _)) (pe_one (pe_callB (call_isE hE (zc_of hc hd hz.zc) hf) (by rfl) M.isinstance (by decide +kernel) (pa_cons (pv 3) (pa_cons (pe_bltn (v := .ty "ValueError") (u := .type "ValueError") (by rfl) cx.gV (by decide +kernel) rfl) pa_nil))))))))))
  (pss_one (ps_ret pe_bl))), ?_⟩
    refine ⟨rfl, v, rfl, hf, hc, imp _ v H _ (hT _ _ fun H' ex => ?_)⟩
    rcases hC with ⟨rfl, rfl⟩ | ⟨rfl, rfl⟩
    · exact ⟨true, cx.eT, fun _ a na => ⟨C, rfl, rfl, cx.T.c, s_refused cx.TT cx.TB cx.TV rfl rfl fun H2 e2 => hQ H2 (ex.trans e2)⟩, fun h => nomatch h⟩
    · exact ⟨true, cx.eB, fun _ a na => ⟨C, rfl, rfl, cx.B.c, s_refused cx.BT cx.BB cx.BV rfl rfl fun H2 e2 => hQ H2 (ex.trans e2)⟩, fun h => nomatch h⟩
end Lh

namespace Lh
open PySem PySem.Spec PyProof.Rows L2 Evl
theorem ok__law_plain {P : Program} {w : World} {K : PySem.W.Frag} {mg : Str → Option Value} {base : Heap} (M : Mg mg) (Mstr : mg "str" = none) (D : Def K mg "_law_plain" s__law_plain ["_law_thing"]) : ∀ d, Cal P w K mg base d "_law_plain" ["_law_thing"] (sp__law_plain K d)
  | 0 => by
    obtain ⟨f, fd, hm, F, hb⟩ := D.ex
    obtain ⟨oc, od, _, _, _, _, _, _, osl, _, lk, _⟩ := F.ex
    exact ⟨f, fd, hm, F.kp, hb, ⟨oc, od, osl, lk⟩, ⟨fun vs H Q E h => h.elim, fun A outer s H args us vs Q E hr he hb hv h => h.elim⟩⟩
  | d + 1 => by
    have C__law_plain := ok__law_plain (P := P) (w := w) (base := base) M Mstr D d
    refine D.cal sc__law_plain (fun vs H Q E h => ?_) (fun f cdv A outer s H vs Q E hr h => ?_)
    · obtain ⟨v, rfl, _⟩ := h
      rfl
    · obtain ⟨v, rfl, hv, kq⟩ := h
      refine ⟨_, (pss_cons (ps_if (PW.pt (pw_or (pt_val (pe_callB call_isi (by rfl) M.isinstance (by decide +kernel) (pa_cons (pv 0) (pa_cons (pe_bltn (v := .ty "list") (u := .type "list") (by rfl) M.list_ (by decide +kernel) rfl) pa_nil)))) (pw_or1 (pt_val (pe_callB call_isi (by rfl) M.isinstance (by decide +kernel) (pa_cons (pv 0) (pa_cons (pe_bltn (v := .ty "tuple") (u := .type "tuple") (by rfl) M.tuple_ (by decide +kernel) rfl) pa_nil)))))))
  (pss_one (ps_ret (pe_callB (cr_all rfl) (by rfl) M.all (by decide +kernel) (pa_cons (pe_either (pe_lc (own := [("_law_one", 1)]) (wi := (iList K (tVar 0))) (g := gName 1) (tt := tYes) (te := (tCall _ [] E0 (tCons (tVar 1) tNil))) (by rfl) sc__law_plain.nd  (pi_list (pv 0)) (blkOk_by (by kernel_rfl)) (fun _ _ _ _ _ => (pg_name (i := 1) sc__law_plain.nd rfl (Or.inl rfl))) (fun _ _ _ _ _ => pts_nil) (fun _ _ _ _ _ => (pe_cal C__law_plain hr (by rfl) (pa_cons (pv 1) pa_nil) (Nat.le_refl _)))) (pe_lc (own := [("_law_one", 1)]) (wi := (iTup K (tVar 0))) (g := gName 1) (tt := tYes) (te := (tCall _ [] E0 (tCons (tVar 1) tNil))) (by rfl) sc__law_plain.nd  (pi_tup (pv 0)) (blkOk_by (by kernel_rfl)) (fun _ _ _ _ _ => (pg_name (i := 1) sc__law_plain.nd rfl (Or.inl rfl))) (fun _ _ _ _ _ => pts_nil) (fun _ _ _ _ _ => (pe_cal C__law_plain hr (by rfl) (pa_cons (pv 1) pa_nil) (Nat.le_refl _))))) pa_nil))))
  pss_nil)
  (pss_one (ps_ret (pe_or (pe_cmpR op_isN (pv 0) pe_non (nomark _)) (pe_or (pe_callB call_isi (by rfl) M.isinstance (by decide +kernel) (pa_cons (pv 0) (pa_cons (pe_bltn (v := .ty "str") (u := .type "str") (by rfl) Mstr (by decide +kernel) rfl) pa_nil))) (pe_one (pe_and (pe_callB call_isi (by rfl) M.isinstance (by decide +kernel) (pa_cons (pv 0) (pa_cons (pe_bltn (v := .ty "int") (u := .type "int") (by rfl) M.int_ (by decide +kernel) rfl) pa_nil))) (pe_one (pe_not (pe_callB call_isi (by rfl) M.isinstance (by decide +kernel) (pa_cons (pv 0) (pa_cons (pe_bltn (v := .ty "bool") (u := .type "bool") (by rfl) M.bool_ (by decide +kernel) rfl) pa_nil)))))))))))), ?_⟩
      have hv' : (∃ i : Int, v = .int i) ∨ ∃ (p : Addr) (xs : List V) (d' : Nat), d = d' + 1 ∧ v = .ref p ∧ (H p = some (.lst xs) ∨ H p = some (.tup xs)) ∧ xs.length ≤ 1000 ∧ ∀ x ∈ xs, PlainV H d' x := by
        cases d with
        | zero => exact .inl hv
        | succ d =>
          rcases hv with hv | ⟨p, xs, h1, h2, h3, h4⟩
          · exact .inl hv
          · exact .inr ⟨p, xs, d, rfl, h1, h2, h3, h4⟩
      rcases hv' with ⟨i, rfl⟩ | ⟨p, xs, d', rfl, rfl, hp, hl, hx⟩
      · exact q_when (b := false) (et_is (et_or (et_B (ev_isi (a := "int") (b := "list") (k := false) (ev_var rfl) (fun H1 e => tx_int) (by decide +kernel))) fun _ => et_B (ev_isi (a := "int") (b := "tuple") (k := false) (ev_var rfl) (fun H1 e => tx_int) (by decide +kernel))) rfl) (fun h => nomatch h) fun _ H1 e1 => s_ret (v := .bl true) (ev_is (ev_orV (a := false) (b := true) (ev_op (x := .int i) (y := .non) (z := .bl false) (ev_var rfl) ev_c (rv_val fun H2 e2 Q q => ⟨rfl, q⟩)) fun _ => ev_is (ev_orV (a := false) (b := true) (ev_isi (a := "int") (b := "str") (k := false) (ev_var rfl) (fun H1 e => tx_int) (by decide +kernel)) fun _ => ev_is (ev_andV (a := true) (b := true) (isi_int (ev_var rfl)) fun _ => ev_is (ev_notV (isi_intb (ev_var rfl))) rfl) rfl) rfl) rfl) fun H2 e2 => kq _ H2 (e1.trans e2) rfl
      · have item : ∀ (i : Nat) (x : V) (σ : L2.St) (H1 : Hp), Ex H H1 → xs[i]? = some x → σ[1]? = some (some x) → Ev (tCall (sp__law_plain K (d' + 1)) [] E0 (tCons (tVar 1) tNil)) σ H1 (.bl true) := fun i x σ H1 e1 hi hs => ev_callV (ea_cons (ev_var hs) ea_nil) fun H2 e2 Q2 q2 => ⟨x, rfl, PlainV.mono (e1.trans e2) d' x (hx x (List.mem_of_getElem? hi)), q2⟩
        rcases hp with hp | hp
        · exact q_when (b := true) (et_is (et_or (et_B (isi_list (ev_var rfl) hp)) fun h => nomatch h) (Bool.true_or true)) (fun _ H1 e1 => s_ret (v := .bl true) (ev_allTrue (el_left (el_trueL (ev_var rfl) (sq_of (e1 _ _ hp)) (by omega) (fun x => rfl) fun i x H2 e2 hi => item i x _ H2 (e1.trans e2) hi rfl))) fun H2 e2 => kq _ H2 (e1.trans e2) rfl) (fun h => nomatch h)
        · exact q_when (b := true) (et_is (et_or (et_B (ev_isi (a := "tuple") (b := "list") (k := false) (ev_var rfl) (fun H1 e => tx_tup (e _ _ hp)) (by decide +kernel))) fun _ => et_B (isi_tup (ev_var rfl) hp)) rfl) (fun _ H1 e1 => s_ret (v := .bl true) (ev_allTrue (el_right (el_trueU (ev_var rfl) (st_of (e1 _ _ hp)) (by omega) (fun x => rfl) fun i x H2 e2 hi => item i x _ H2 (e1.trans e2) hi rfl))) fun H2 e2 => kq _ H2 (e1.trans e2) rfl) (fun h => nomatch h)
end Lh

namespace Lh
open PySem PySem.Spec PyProof.Rows L2 Evl
theorem ok__law_says {P : Program} {w : World} {K : PySem.W.Frag} {mg : Str → Option Value} {base : Heap} (M : Mg mg) (D : Def K mg "_law_says" s__law_says ["_law_said", "_law_due"]) : Cal P w K mg base 1 "_law_says" ["_law_said", "_law_due"] (sp__law_says K) := by
  refine D.cal sc__law_says (fun vs H Q E h => ?_) (fun f cdv A outer s H vs Q E hr h => ?_)
  · obtain ⟨b, c, rfl, _⟩ := h
    rfl
  · obtain ⟨b, c, rfl, k⟩ := h
    refine ⟨_, (pss_one (ps_ret (pe_and (pe_callB call_isi (by rfl) M.isinstance (by decide +kernel) (pa_cons (pv 0) (pa_cons (pe_bltn (v := .ty "bool") (u := .type "bool") (by rfl) M.bool_ (by decide +kernel) rfl) pa_nil))) (pe_one (pe_cmpR op_eq (pv 0) (pv 1) (nomark _)))))), ?_⟩
    refine s_ret (v := .bl (decide (b = c))) (ev_is (ev_andV (a := true) (b := decide (b = c)) (ev_isi (ev_var rfl) (fun H1 e => TyX.base (.bl b)) (by decide +kernel)) fun _ => ev_is (ev_op (ev_var rfl) (ev_var rfl) (rv_eq rfl)) ?_) rfl) fun H1 e1 => k _ H1 e1 rfl
    cases b <;> cases c <;> simp
end Lh

namespace Lh
open PySem PySem.Spec PyProof.Rows L2 Evl
theorem ok_nodup {n m : Nat} {pt : Prs × Int} (h : okPart n m pt = true) : (pt.1.map (·.1)).Nodup ∧ (pt.1.map (·.2)).Nodup := by
  unfold okPart at h
  simp only [Bool.and_eq_true, decide_eq_true_eq] at h
  exact ⟨h.2.1.1, h.2.2.1⟩
theorem zeroT_map (T : List (List Int)) : zeroT (T.map fun u => List.replicate u.length 0) = true := by
  unfold zeroT
  rw [List.all_map]
  refine List.all_eq_true.mpr fun u hu => ?_
  show (List.replicate u.length (0 : Int)).all _ = true
  rw [List.all_replicate]
  split <;> rfl
theorem ok__law_plan_right {P : Program} {w : World} {K : PySem.W.Frag} {mg : Str → Option Value} {base : Heap} {CA CP CE CS CL : Addr} (M : Mg mg) (ca : CsAll K mg CA CP CE CS CL) (D : Def K mg "_law_plan_right" s__law_plan_right ["_law_table", "_law_hours"]) (C_plan : Cal P w K mg base 23 "plan" ["table"] (sp_plan K CP)) (C_fullest : Cal P w K mg base 3 "fullest" ["table"] (sp_fullest K))
    (M_Plan_shows : Mth P w K mg base 3 CP "shows" ["self", "table"] (sp_Plan_shows K CP)) (C__law_says : Cal P w K mg base 1 "_law_says" ["_law_said", "_law_due"] (sp__law_says K)) (C__law_plain : Cal P w K mg base 5 "_law_plain" ["_law_thing"] (sp__law_plain K 5)) : Cal P w K mg base 24 "_law_plan_right" ["_law_table", "_law_hours"] (sp__law_plan_known K) := by
  refine D.cal sc__law_plan_right (fun vs H Q E h => ?_) (fun f cdv A outer s H vs Q E hr h => ?_)
  · obtain ⟨a, rs, T, n, m, rfl, _⟩ := h
    rfl
  · obtain ⟨a, rs, T, n, m, rfl, hT, hG, kq⟩ := h
    have hR := hG.toRect
    have b1 := hG.n1
    have b2 := hG.n20
    have b3 := hG.m1
    have b4 := hG.m20
    refine ⟨_, (pss_cons (ps_set (i := 2) sc__law_plan_right.nd rfl (Or.inl rfl) (pe_cal C_plan hr (by rfl) (pa_cons (pv 0) pa_nil)))
  (pss_cons (ps_if (PW.pt (pw_or (pt_not (pt_val (pe_callB call_isi (by rfl) M.isinstance (by decide +kernel) (pa_cons (pv 2) (pa_cons (pe_glob (v := .ref CP) (by rfl) ca.cp.P.mgC rfl) pa_nil))))) (pw_or (pt_not (pt_val (pe_cal C__law_says hr (by rfl) (pa_cons (pe_mth (pv 2) ca.cp.P.cl M_Plan_shows hr (pa_cons (pv 0) pa_nil)) (pa_cons pe_bl pa_nil))))) (pw_or1 (pt_not (pt_val (pe_cal C__law_plain hr (by rfl) (pa_cons (pe_fld (pv 2) rfl) pa_nil))))))))
  (pss_one (ps_ret pe_bl))
  pss_nil)
  (pss_cons (ps_par (i := 3) (j := 4) (by rfl) sc__law_plan_right.nd rfl rfl (by decide) rfl rfl (pa_cons (pe_lc (own := [("_law_row", 9)]) (wi := (iList K (tVar 0))) (g := gName 9) (tt := tYes) (te := (tOp _ (tLst (tCons _ tNil)) (tCB (rLenS K) (tCons (tVar 9) tNil)))) (by rfl) sc__law_plan_right.nd  (pi_list (pv 0)) (blkOk_by (by kernel_rfl)) (fun _ _ _ _ _ => (pg_name (i := 9) sc__law_plan_right.nd rfl (Or.inl rfl))) (fun _ _ _ _ _ => pts_nil) (fun _ _ _ _ _ => (pe_op op_rep (pe_lst (pa_cons pe_int pa_nil)) (pe_callB call_len_seq (by rfl) M.len (by decide +kernel) (pa_cons (pv 9) pa_nil))))) (pa_cons pe_int pa_nil)) (by rfl))
  (pss_cons (ps_for PassesOwn.never rfl (pi_list (pe_fld (pv 2) rfl)) (pg_tup rfl (pgs_cons (pg_name (i := 5) sc__law_plan_right.nd rfl (Or.inl rfl)) (pgs_cons (pg_name (i := 6) sc__law_plan_right.nd rfl (Or.inl rfl)) pgs_nil)))
  (pss_cons (ps_if (pt_cmpR op_lt (pe_callB cr_lenSet (by rfl) M.len (by decide +kernel) (pa_cons (pe_callTy (cr_setL rfl) (by rfl) M.set_ (by decide +kernel) (pa_cons (pe_lc (own := [("_law_teacher", 7), ("_law_other", 8)]) (wi := (iList K (tVar 5))) (g := gTup K 2 (gCons (gName 7) (gCons (gName 8) gNil))) (tt := tYes) (te := (tVar 7)) (by rfl) sc__law_plan_right.nd  (pi_list (pv 5)) (blkOk_by (by kernel_rfl)) (fun _ _ _ _ _ => (pg_tup rfl (pgs_cons (pg_name (i := 7) sc__law_plan_right.nd rfl (Or.inl rfl)) (pgs_cons (pg_name (i := 8) sc__law_plan_right.nd rfl (Or.inl rfl)) pgs_nil)))) (fun _ _ _ _ _ => pts_nil) (fun _ _ _ _ _ => (pv 7))) pa_nil)) pa_nil)) (pe_callB call_len_seq (by rfl) M.len (by decide +kernel) (pa_cons (pv 5) pa_nil)) (nomark _))
  (pss_one (ps_ret pe_bl))
  pss_nil)
  (pss_cons (ps_if (pt_cmpR op_lt (pe_callB cr_lenSet (by rfl) M.len (by decide +kernel) (pa_cons (pe_callTy (cr_setL rfl) (by rfl) M.set_ (by decide +kernel) (pa_cons (pe_lc (own := [("_law_one", 10), ("_law_other", 8)]) (wi := (iList K (tVar 5))) (g := gTup K 2 (gCons (gName 10) (gCons (gName 8) gNil))) (tt := tYes) (te := (tVar 8)) (by rfl) sc__law_plan_right.nd  (pi_list (pv 5)) (blkOk_by (by kernel_rfl)) (fun _ _ _ _ _ => (pg_tup rfl (pgs_cons (pg_name (i := 10) sc__law_plan_right.nd rfl (Or.inl rfl)) (pgs_cons (pg_name (i := 8) sc__law_plan_right.nd rfl (Or.inl rfl)) pgs_nil)))) (fun _ _ _ _ _ => pts_nil) (fun _ _ _ _ _ => (pv 8))) pa_nil)) pa_nil)) (pe_callB call_len_seq (by rfl) M.len (by decide +kernel) (pa_cons (pv 5) pa_nil)) (nomark _))
  (pss_one (ps_ret pe_bl))
  pss_nil)
  (pss_cons (ps_set (i := 4) sc__law_plan_right.nd rfl (Or.inl rfl) (pe_op op_add (pv 4) (pv 6)))
  (pss_one (ps_for PassesOwn.never rfl (pi_list (pv 5)) (pg_tup rfl (pgs_cons (pg_name (i := 7) sc__law_plan_right.nd rfl (Or.inl rfl)) (pgs_cons (pg_name (i := 8) sc__law_plan_right.nd rfl (Or.inl rfl)) pgs_nil)))
  (pss_one (ps_asg (pe_op op_add (pe_ix ix_list (pe_ix ix_list (pv 3) (pv 7) (fun _ _ => rfl)) (pv 8) (fun _ _ => rfl)) (pv 6)) (pg_sub (pe_ix ix_list (pv 3) (pv 7) (fun _ _ => rfl)) (pv 8) set_list)))))))))
  (pss_one (ps_ret (pe_and (pe_cmpR (op_eqD hr.units) (pv 3) (pv 0) (nomark _)) (pe_and (pe_cmpR op_eq (pv 4) (pv 1) (nomark _)) (pe_one (pe_cmpR op_eq (pe_ix ix_tup (pe_cal C_fullest hr (by rfl) (pa_cons (pv 0) pa_nil)) pe_int (fun _ _ => rfl)) (pv 1) (nomark _))))))))))), ?_⟩
    refine qp_asg (P := PlanFound CP T n m) (evp_plan (ev_var rfl) hT hG) fun v H1 e1 ⟨parts, hp, x, dx, pa, ts, ls, hv, nx, nc, hcx, ndl, frl, hP, hx⟩ => ?_
    subst hv
    have hf := hp.isPlan b2 hP hx
    have hpl := hp.len
    have hsm := hp.small b2
    have hT1 := hT.mono e1
    refine q_when (b := false) (et_is (et_or (et_not (et_B (isi_own (ev_var rfl) hx ca.cp.P ca.cs.k0 ca.cp.PP))) fun _ => et_or (et_not (et_B (ev_says (ev_showsP (ev_var rfl) hf (ea_cons (ev_var rfl) ea_nil) hT1 hR b1 (by omega) b3 (by omega)) ev_c))) fun _ => et_not (et_B (ev_callV (v := .bl true) (ea_cons (ev_parts (ev_var rfl) hf ca.cp) ea_nil) fun H2 e2 Q2 q2 => ⟨.ref pa, rfl, (hP.mono e2).plain (by omega) (fun pt hpt => by have := hsm pt hpt; omega), q2⟩))) (by rw [hp.ok]; rfl)) (fun h => nomatch h) fun _ H2 e2 => ?_
    have hT2 := hT1.mono e2
    have hf2 := hf.mono e2
    have hP2 := hP.mono e2
    refine q_par (cP (P := NewT (T.map fun u => List.replicate u.length 0)) (evp_tabL (g := fun u => List.replicate u.length 0) (ev_var rfl) hT2 (by rw [hR.len]; omega) (fun x => rfl) fun u r H3 e3 hu hr => ?_) fun v H3 e3 hv => ?_)
    · have hul := hR.row u hu
      have := el_rep1 (v := .int 0) (k := (u.length : Int)) (σ := (wipe [some (.ref a), some (.int (fullM T m)), some (.ref x), none, none, none, none, none, none, none, none] [9]).set 9 (some (.ref r))) (H := H3) (ta := tLst (tCons (tC (.int 0)) tNil)) (tb := tCB (rLenS K) (tCons (tVar 9) tNil)) (el_lst (ea_cons ev_c ea_nil) (by show 1 ≤ 100000; decide)) (ev_is (ev_lenL (ev_var rfl) (sq_of hr)) (by rw [List.length_map])) (by omega)
      rw [Int.toNat_natCast] at this
      rw [List.map_replicate]
      exact this
    obtain ⟨pf, rl, rfl, npf, ndr, frr, hTf⟩ := hv
    refine cV (v := .int 0) ev_c fun H4 e4 => cN ⟨_, _, rfl, ?_⟩
    have hZ : Rect (T.map fun u => List.replicate u.length (0 : Int)) n m := ⟨by rw [List.length_map]; exact hR.len, fun u hu => by
      obtain ⟨v, hv, rfl⟩ := List.mem_map.mp hu
      rw [List.length_replicate]
      exact hR.row v hv⟩
    have hok := hp.all.1
    have hlen : (ts.map V.ref).length = parts.length := by rw [List.length_map, hP.lt]
    have at_ : ∀ i, i < parts.length → ∃ pt, parts[i]? = some pt ∧ parts.getD i ([], 0) = pt := fun i hi => ⟨parts[i], by simp [hi], by simp [List.getD, hi]⟩
    refine q_forPr (fun i => .ref (ls.getD i 0)) (fun i => .int (parts.getD i ([], 0)).2) (ev_parts (ev_var rfl) ((hf2.mono e3).mono e4) ca.cp) (sq_of ((hP2.mono e3).mono e4).top) (fun i σ' H' => (∃ y5 y6 y7 y8, σ' = [some (.ref a), some (.int (fullM T m)), some (.ref x), some (.ref pf), some (.int (total (parts.take i))), y5, y6, y7, y8, none, none]) ∧ Ex H2 H' ∧ Tab H' pf rl (subAll (T.map fun (u : List Int) => List.replicate u.length (0 : Int)) (negP (parts.take i))))
      (fun HB eB => ⟨⟨_, _, _, _, rfl⟩, (e3.trans e4).trans eB, (hTf.mono e4).mono eB⟩) (fun i σ' H' _ z => sq_of (hP2.mono z.2.1).top) (fun i σ' H' x z hx => parts_turns (hP2.mono z.2.1) i x hx) (fun i σ' H' hi z => ?_) (fun σ' HB z => ?_)
    · obtain ⟨⟨y5, y6, y7, y8, rfl⟩, ex, hT'⟩ := z
      rw [hlen] at hi
      obtain ⟨pt', h1, h2⟩ := at_ i hi
      obtain ⟨t, l, ht, hl, htup, qs, hqs0⟩ := hP2.at h1
      have e1 : ls.getD i 0 = l := by simp [List.getD, hl]
      dsimp only
      rw [h2, e1]
      have hll : l ∉ rl := fun z => by
        have := frr l z
        rw [hqs0.top] at this
        cases this
      have hokp := List.all_eq_true.mp hok pt' (List.mem_of_getElem? h1)
      have hin := ok_inR hokp
      obtain ⟨nd1, nd2⟩ := ok_nodup hokp
      have hsp := hsm pt' (List.mem_of_getElem? h1)
      have hqs := hqs0.mono ex
      have hql : ((qs.map V.ref).length : Int) = (pt'.1.length : Nat) := by rw [List.length_map, hqs.len]
      refine q_when (b := false) (et_test (ev_lenSetLt (ns := pt'.1.map (·.1)) (evp_l (el_pairs (ev_var rfl) hqs (by omega) (fun x y => rfl) fun pr H4 _ e4 => ev_var rfl)) (fun H1 v H2 ⟨p, hv, _, h2⟩ => ⟨p, hv, sq_of h2⟩) (by rw [List.length_map]; omega) (ev_is (ev_lenL (ev_var rfl) (sq_of hqs.top)) (by rw [hql, List.length_map])) nd1)) (fun h => nomatch h) fun _ H5 e5 => ?_
      have hqs5 := hqs.mono e5
      refine q_when (b := false) (et_test (ev_lenSetLt (ns := pt'.1.map (·.2)) (evp_l (el_pairs (ev_var rfl) hqs5 (by omega) (fun x y => rfl) fun pr H4 _ e4 => ev_var rfl)) (fun H1 v H2 ⟨p, hv, _, h2⟩ => ⟨p, hv, sq_of h2⟩) (by rw [List.length_map]; omega) (ev_is (ev_lenL (ev_var rfl) (sq_of hqs5.top)) (by rw [hql, List.length_map])) nd2)) (fun h => nomatch h) fun _ H6 e6 => ?_
      refine q_asg (v := .int (total (parts.take i) + pt'.2)) (ev_add (ev_var rfl) (ev_var rfl)) fun H7 e7 => ?_
      have hRU := negP_rect (parts := parts.take i) hZ (List.all_eq_true.mpr fun q hq => List.all_eq_true.mp hok q (List.mem_of_mem_take hq))
      have ex7 := (e5.trans e6).trans e7
      refine s_adds (n := n) (m := m) (ev_var rfl) (hqs.mono ex7) rfl rfl (by show 7 < 11; decide) (by show 8 < 11; decide) (by decide) hin hRU ndr (hT'.mono ex7) hll fun HC x' y' eC hTC => ⟨⟨some (.ref l), some (.int pt'.2), x', y', ?_⟩, ExR.ex (ex.trans ex7) eC frr, ?_⟩
      · rw [take_snoc h1, total_snoc]
        rfl
      · rw [take_snoc h1, negP_snoc, subAll_snoc]
        exact hTC
    obtain ⟨⟨y5, y6, y7, y8, rfl⟩, exB, hTB⟩ := z
    rw [hlen, List.take_of_length_le (Nat.le_refl _)] at hTB ⊢
    rw [hp.added hR hZ (zeroT_map T)] at hTB
    have hT3 := hT2.mono exB
    exact s_ret (v := .bl true) (ev_is (ev_andV (a := true) (b := true) (ev_is (ev_eqD (ev_var rfl) (ev_var rfl) (fun H1 e1 => (hTB.mono e1).dp) (fun H1 e1 => (hT3.mono e1).dp) (shaped_tab _) (shaped_tab _)) (by rw [eqv_tab]; simp)) fun _ => ev_is (ev_andV (a := true) (b := true) (ev_is (ev_eqI (i := total parts) (j := fullM T m) (ev_var rfl) (ev_var rfl)) (by rw [hp.all.2.1]; simp)) fun _ => ev_is (ev_eqI (i := fullM T m) (j := fullM T m) (ev_ixPT (P := NewFull T m) (evp_call (ea_cons (ev_var rfl) ea_nil) down_c fun H9 e9 Q9 q9 => ⟨a, rs, T, n, m, rfl, hT3.mono e9, hG, q9⟩) (fun H9 e9 => ev_c) (fun H9 u H10 ⟨p, q, hu, hp, hq⟩ => ⟨p, _, hu, st_of hp, atI_of (j := 0) rfl rfl⟩)) (ev_var rfl)) (by simp)) rfl) rfl) fun HC eC => kq _ HC (((e1.trans e2).trans exB).trans eC) rfl
end Lh

namespace Lh
open PySem PySem.Spec PyProof.Rows L2 Evl
theorem ok__law_known_right {P : Program} {w : World} {K : PySem.W.Frag} {mg : Str → Option Value} {base : Heap} {CA CP CE CS CL : Addr} (M : Mg mg) (ca : CsAll K mg CA CP CE CS CL) (D : Def K mg "_law_known_right" s__law_known_right ["_law_great"]) (C_plan : Cal P w K mg base 23 "plan" ["table"] (sp_plan K CP)) (C_fullest : Cal P w K mg base 3 "fullest" ["table"] (sp_fullest K)) (C_raised : Cal P w K mg base 3 "raised" ["table", "hours"] (sp_raised K))
    (C_each : Cal P w K mg base 23 "each" ["table"] (sp_each K CE CS)) (C_lasting : Cal P w K mg base 23 "lasting" ["table"] (sp_lasting K CL)) (C_Lasting : Mkr P w K mg base 1 "Lasting" CL ["self", "hours", "classes", "teachers"] (spInit3 K CL)) (M_Lasting_shows : Mth P w K mg base 3 CL "shows" ["self", "table"] (sp_Lasting_shows K CL)) (C__law_says : Cal P w K mg base 1 "_law_says" ["_law_said", "_law_due"] (sp__law_says K))
    (C__law_plan_right : Cal P w K mg base 24 "_law_plan_right" ["_law_table", "_law_hours"] (sp__law_plan_known K)) : Cal P w K mg base 25 "_law_known_right" ["_law_great"] (sp__law_known_right K) := by
  refine D.cal sc__law_known_right (fun vs H Q E h => ?_) (fun f cdv A outer s H vs Q E hr h => ?_)
  · obtain ⟨g, rfl, _⟩ := h
    rfl
  · obtain ⟨g, rfl, hg, kq⟩ := h
    refine ⟨_, (pss_cons (ps_set (i := 1) sc__law_known_right.nd rfl (Or.inl rfl) (pe_lst (pa_cons (pe_tup (pa_cons (pe_lst (pa_cons (pe_lst (pa_cons pe_int pa_nil)) pa_nil)) (pa_cons (pe_tup (pa_cons pe_int (pa_cons (pe_tup (pa_cons pe_str (pa_cons pe_int pa_nil))) pa_nil))) pa_nil))) (pa_cons (pe_tup (pa_cons (pe_lst (pa_cons (pe_lst (pa_cons pe_int pa_nil)) (pa_cons (pe_lst (pa_cons pe_int pa_nil)) pa_nil))) (pa_cons (pe_tup (pa_cons pe_int (pa_cons (pe_tup (pa_cons pe_str (pa_cons pe_int pa_nil))) pa_nil))) pa_nil))) (pa_cons (pe_tup (pa_cons (pe_lst (pa_cons (pe_lst (pa_cons pe_int (pa_cons pe_int pa_nil))) (pa_cons (pe_lst (pa_cons pe_int (pa_cons pe_int pa_nil))) pa_nil))) (pa_cons (pe_tup (pa_cons pe_int (pa_cons (pe_tup (pa_cons pe_str (pa_cons pe_int pa_nil))) pa_nil))) pa_nil))) pa_nil)))))
  (pss_cons (ps_set (i := 1) sc__law_known_right.nd rfl (Or.inl rfl) (pe_op op_cat (pv 1) (pe_lst (pa_cons (pe_tup (pa_cons (pe_op op_rep (pe_lst (pa_cons (pe_op op_rep (pe_lst (pa_cons (pv 0) pa_nil)) pe_int) pa_nil)) pe_int) (pa_cons (pe_tup (pa_cons (pe_op op_mulX pe_int (pv 0)) (pa_cons (pe_tup (pa_cons pe_str (pa_cons pe_int pa_nil))) pa_nil))) pa_nil))) (pa_cons (pe_tup (pa_cons (pe_lst (pa_cons (pe_lst (pa_cons pe_int (pa_cons pe_int pa_nil))) (pa_cons (pe_lst (pa_cons pe_int (pa_cons pe_int pa_nil))) pa_nil))) (pa_cons (pe_tup (pa_cons pe_int (pa_cons (pe_tup (pa_cons pe_str (pa_cons pe_int pa_nil))) pa_nil))) pa_nil))) pa_nil)))))
  (pss_cons (ps_for PassesOwn.never rfl (pi_list (pv 1)) (pg_tup rfl (pgs_cons (pg_name (i := 2) sc__law_known_right.nd rfl (Or.inl rfl)) (pgs_cons (pg_tup rfl (pgs_cons (pg_name (i := 3) sc__law_known_right.nd rfl (Or.inl rfl)) (pgs_cons (pg_name (i := 4) sc__law_known_right.nd rfl (Or.inl rfl)) pgs_nil))) pgs_nil)))
  (pss_cons (ps_set (i := 5) sc__law_known_right.nd rfl (Or.inl rfl) (pe_cal C_fullest hr (by rfl) (pa_cons (pv 2) pa_nil)))
  (pss_one (ps_if (PW.pt (pw_or (pt_cmpR (op_neD hr.units) (pv 5) (pe_tup (pa_cons (pv 3) (pa_cons (pv 4) pa_nil))) (nomark _)) (pw_or (pt_not (pt_val (pe_callB call_isi (by rfl) M.isinstance (by decide +kernel) (pa_cons (pv 5) (pa_cons (pe_bltn (v := .ty "tuple") (u := .type "tuple") (by rfl) M.tuple_ (by decide +kernel) rfl) pa_nil))))) (pw_or1 (pt_not (pt_val (pe_cal C__law_plan_right hr (by rfl) (pa_cons (pv 2) (pa_cons (pv 3) pa_nil)))))))))
  (pss_one (ps_ret pe_bl))
  pss_nil))))
  (pss_cons (ps_set (i := 6) sc__law_known_right.nd rfl (Or.inl rfl) (pe_lst (pa_cons (pe_lst (pa_cons pe_int pa_nil)) pa_nil)))
  (pss_cons (ps_if (PW.pt (pw_or (pt_cmpR (op_neD hr.units) (pe_fld (pe_cal C_plan hr (by rfl) (pa_cons (pv 6) pa_nil)) rfl) (pe_lst pa_nil) (nomark _)) (pw_or (pt_cmpR (op_neD hr.units) (pe_cal C_raised hr (by rfl) (pa_cons (pv 6) (pa_cons pe_int pa_nil))) (pe_lst (pa_cons (pe_lst (pa_cons pe_int pa_nil)) pa_nil)) (nomark _)) (pw_or1 (pt_cmpR op_ne (pe_fld (pe_cal C_lasting hr (by rfl) (pa_cons (pv 6) pa_nil)) rfl) pe_int (nomark _))))))
  (pss_one (ps_ret pe_bl))
  pss_nil)
  (pss_cons (ps_set (i := 7) sc__law_known_right.nd rfl (Or.inl rfl) (pe_cal C_each hr (by rfl) (pa_cons (pv 6) pa_nil)))
  (pss_cons (ps_if (PW.pt (pw_or (pt_not (pt_val (pe_callB call_isi (by rfl) M.isinstance (by decide +kernel) (pa_cons (pv 7) (pa_cons (pe_glob (v := .ref CS) (by rfl) ca.cs.S.mgC rfl) pa_nil))))) (pw_or (pt_cmpR (op_neD hr.units) (pe_fld (pv 7) rfl) (pe_lst (pa_cons pe_int pa_nil)) (nomark _)) (pw_or1 (pt_not (pt_val (pe_callB call_isi (by rfl) M.isinstance (by decide +kernel) (pa_cons (pe_cal C_each hr (by rfl) (pa_cons (pe_lst (pa_cons (pe_lst (pa_cons pe_int (pa_cons pe_int pa_nil))) (pa_cons (pe_lst (pa_cons pe_int (pa_cons pe_int pa_nil))) pa_nil))) pa_nil)) (pa_cons (pe_glob (v := .ref CS) (by rfl) ca.cs.S.mgC rfl) pa_nil)))))))))
  (pss_one (ps_ret pe_bl))
  pss_nil)
  (pss_cons (ps_if (PW.pt (pw_or (pt_cmpR (op_neD hr.units) (pe_fld (pe_cal C_each hr (by rfl) (pa_cons (pe_lst (pa_cons (pe_lst (pa_cons pe_int (pa_cons pe_int pa_nil))) (pa_cons (pe_lst (pa_cons pe_int (pa_cons pe_int pa_nil))) pa_nil))) pa_nil)) rfl) (pe_lst (pa_cons pe_int (pa_cons pe_int pa_nil))) (nomark _)) (pw_or1 (pt_cmpR op_ne (pe_fld (pe_cal C_lasting hr (by rfl) (pa_cons (pe_lst (pa_cons (pe_lst (pa_cons pe_int (pa_cons pe_int pa_nil))) (pa_cons (pe_lst (pa_cons pe_int (pa_cons pe_int pa_nil))) pa_nil))) pa_nil)) rfl) pe_int (nomark _)))))
  (pss_one (ps_ret pe_bl))
  pss_nil)
  (pss_cons (ps_if (pt_cmpR op_ne (pe_fld (pe_cal C_lasting hr (by rfl) (pa_cons (pe_op op_rep (pe_lst (pa_cons (pe_op op_rep (pe_lst (pa_cons (pv 0) pa_nil)) pe_int) pa_nil)) pe_int) pa_nil)) rfl) (pv 0) (nomark _))
  (pss_one (ps_ret pe_bl))
  pss_nil)
  (pss_one (ps_ret (pe_and (pe_cal C__law_says hr (by rfl) (pa_cons (pe_mth (pe_mak C_Lasting hr (by rfl) (pa_cons pe_int (pa_cons (pe_lst (pa_cons pe_int pa_nil)) (pa_cons (pe_lst (pa_cons pe_int pa_nil)) pa_nil)))) ca.cl.L.cl M_Lasting_shows hr (pa_cons (pv 6) pa_nil)) (pa_cons pe_bl pa_nil))) (pe_one (pe_cal C__law_says hr (by rfl) (pa_cons (pe_mth (pe_mak C_Lasting hr (by rfl) (pa_cons pe_int (pa_cons (pe_lst (pa_cons pe_int pa_nil)) (pa_cons (pe_lst (pa_cons pe_int pa_nil)) pa_nil)))) ca.cl.L.cl M_Lasting_shows hr (pa_cons (pv 6) pa_nil)) (pa_cons pe_bl pa_nil)))))))))))))))), ?_⟩
    have g20 := good20 (g := g) (by omega)
    have rep : ∀ {σ : L2.St} {H1 : Hp}, σ[0]? = some (some (.int g)) → EvP (tOp rRep (tLst (tCons (tOp rRep (tLst (tCons (tVar 0) tNil)) (tC (.int 20))) tNil)) (tC (.int 20))) σ H1 (fun H1 v H2 => ∃ p r, v = .ref p ∧ H1 p = none ∧ H1 r = none ∧ r ≠ p ∧ H2 p = some (.lst (List.replicate (20 : Int).toNat (.ref r))) ∧ H2 r = some (.lst ((List.replicate 20 g).map V.int))) := fun h0 => evp_repT (u := List.replicate 20 g) (k := 20) (el_repI (k := 20) (ev_var h0) ev_c (by decide) (by decide)) ev_c (by decide) (by decide)
    have mul : IntMulOk 20 g := mulOk_small (by decide) (by decide)
    refine qp_asg (P := fun _ v H2 => ∃ p vs, v = .ref p ∧ H2 p = some (.lst vs) ∧ vs.length = 3 ∧ ∀ u ∈ vs, IsKC H2 u) (all_disp (I := IsKC) mo_kc (all_cons mo_kc (ev_kc (i := 0) (tb_new (n := 1) (m := 1) (evp_dispT (T := [[0]]) (er_cons (el_ints (u := [0]) (ei_cons ev_c ei_nil) (by decide)) er_nil) (by decide)) (good_of (by decide))) ev_c (by decide +kernel) (by decide +kernel) (by decide +kernel)) (all_cons mo_kc (ev_kc (i := 2) (tb_new (n := 2) (m := 1) (evp_dispT (T := [[1], [1]]) (er_cons (el_ints (u := [1]) (ei_cons ev_c ei_nil) (by decide)) (er_cons (el_ints (u := [1]) (ei_cons ev_c ei_nil) (by decide)) er_nil)) (by decide)) (good_of (by decide))) ev_c (by decide +kernel) (by decide +kernel) (by decide +kernel)) (all_cons mo_kc (ev_kc (i := 2) (tb_new (n := 2) (m := 2) (evp_dispT (T := [[2, 0], [0, 2]]) (er_cons (el_ints (u := [2, 0]) (ei_cons ev_c (ei_cons ev_c ei_nil)) (by decide)) (er_cons (el_ints (u := [0, 2]) (ei_cons ev_c (ei_cons ev_c ei_nil)) (by decide)) er_nil)) (by decide)) (good_of (by decide))) ev_c (by decide +kernel) (by decide +kernel) (by decide +kernel)) all_nil))) (by decide)) fun v H1 e1 ⟨p1, x1, hv, hp1, hl1, hx1⟩ => ?_
    subst hv
    refine qp_asg (P := fun _ v H2 => ∃ p vs, v = .ref p ∧ H2 p = some (.lst vs) ∧ vs.length = x1.length + 2 ∧ ∀ u ∈ vs, IsKC H2 u) (all_cat (I := IsKC) mo_kc (ev_var rfl) hp1 (by omega) hx1 (all_disp (I := IsKC) mo_kc (all_cons mo_kc (ev_kc (T := full20 g) (n := 20) (m := 20) (i := 20 * g) ((rep rfl).imp fun _ v H2 _ _ ⟨p, r, hv, _, _, _, hp, hr⟩ => ⟨g20, p, _, hv, tab_rep hp hr⟩) (ev_mul ev_c (ev_var rfl) mul) (fullM20 g) (fullW20 g) (fullI20 g)) (all_cons mo_kc (ev_kc (i := 4) (tb_new (n := 2) (m := 2) (evp_dispT (T := [[1, 2], [3, 0]]) (er_cons (el_ints (u := [1, 2]) (ei_cons ev_c (ei_cons ev_c ei_nil)) (by decide)) (er_cons (el_ints (u := [3, 0]) (ei_cons ev_c (ei_cons ev_c ei_nil)) (by decide)) er_nil)) (by decide)) (good_of (by decide))) ev_c (by decide +kernel) (by decide +kernel) (by decide +kernel)) all_nil)) (by decide)) (by decide)) fun v H2 e2 ⟨p2, x2, hv, hp2, hl2, hx2⟩ => ?_
    subst hv
    refine q_forAll (ev_var rfl) hp2 mo_kc hx2 (fun σ' => ∃ y2 y3 y4 y5, σ' = [some (.int g), some (.ref p2), y2, y3, y4, y5, none, none]) ⟨_, _, _, _, rfl⟩ (fun v σ' H' hσ ex hv => ?_) (fun σ' H3 hσ e3 => ?_)
    · obtain ⟨y2, y3, y4, y5, rfl⟩ := hσ
      obtain ⟨t, x, u, w', T, n, m, rfl, ht, ⟨hG, b, rs, rfl, hT⟩, hu, hw⟩ := hv
      refine gnest (st_of ht) (st_of hu) ?_
      refine qp_asg (P := NewFull T m) (evp_call (ea_cons (ev_var rfl) ea_nil) down_c fun H3 e3 Q3 q3 => ⟨b, rs, T, n, m, rfl, hT.mono e3, hG, q3⟩) fun v H3 e3 ⟨p, q, hv, hp, hq⟩ => ?_
      subst hv
      have hT3 := hT.mono e3
      have lw := shaped_fullD (fullM T m) (fullW T m) (fullI T m) (lay_fullW T m)
      have dw : ∀ {H4 : Hp}, Ex H3 H4 → Dp K H4 (.ref w') (.tuple [.str (fullW T m), .int (fullI T m)]) := fun e4 => .tup (st_of (e4 _ _ (e3 _ _ hw))) (.cons (.str _) (.cons (.int _) .nil))
      have df : ∀ {H4 : Hp}, Ex H3 H4 → Dp K H4 (.ref p) (fullD (fullM T m) (fullW T m) (fullI T m)) := fun e4 => .tup (st_of (e4 _ _ hp)) (.cons (.int _) (.cons (.tup (st_of (e4 _ _ hq)) (.cons (.str _) (.cons (.int _) .nil))) .nil))
      exact s_when (b := false) (et_is (et_or (et_test (ev_neDP (d := fullD (fullM T m) (fullW T m) (fullI T m)) (e := fullD (fullM T m) (fullW T m) (fullI T m)) (ed_of (ev_var rfl) fun H4 e4 => df e4) (ed_tup (eds_cons (ed_int (ev_var rfl)) (eds_cons (ed_of (ev_var rfl) fun H4 e4 => dw e4) eds_nil)) (by show 2 ≤ 100000; decide)) lw lw)) fun _ => et_or (et_not (et_B (isi_tup (ev_var rfl) hp))) fun _ => et_not (et_B (ev_callV (v := .bl true) (ea_cons (ev_var rfl) (ea_cons (ev_var rfl) ea_nil)) fun H4 e4 Q4 q4 => ⟨b, rs, T, n, m, rfl, hT3.mono e4, hG, q4⟩))) (by rw [eqv_same lw]; rfl)) (fun h => nomatch h) fun _ H4 e4 => ⟨⟨_, _, _, _, rfl⟩, (ex.trans e3).trans e4⟩
    obtain ⟨y2, y3, y4, y5, rfl⟩ := hσ
    refine qp_asg (P := NewT [[0]]) (evp_dispT (T := [[0]]) (er_cons (el_ints (u := [0]) (ei_cons ev_c ei_nil) (by decide)) er_nil) (by decide)) fun v H4 e4 ⟨p4, rs4, hv, _, _, _, hT4⟩ => ?_
    subst hv
    have g1 : Good [[0]] 1 1 := good_of (by decide)
    refine q_when (b := false) (et_is (et_or (et_test (ev_neDP (d := .list []) (e := .list []) (evp_fldP (P := PlanFound CP [[0]] 1 1) (evp_plan (ev_var rfl) hT4 g1) fun H1 v H2 ⟨parts, hp, x, dx, pa, ts, ls, hv, _, _, _, _, _, hP, hx⟩ => by
        have hd := hP.dp (K := K)
        rw [plan0 hp] at hd
        exact ⟨x, CP, dx, _, .ref pa, hv, hx, ca.cp.P.cl, ca.cp.np, rfl, hd⟩) (ed_lst eds_nil (by decide)) (by decide +kernel) (by decide +kernel))) fun _ => et_or (et_test (ev_neDP (d := tabD [[5]]) (e := tabD [[5]]) (evp_call (vs := [.ref p4, .int 5]) (ea_cons (ev_var rfl) (ea_cons ev_c ea_nil)) down_d fun H5 e5 Q5 q5 => ⟨p4, rs4, [[0]], 1, 1, 5, rfl, hT4.mono e5, g1, by decide +kernel, fun F hF v H6 e6 ⟨p, rs, hv, _, _, _, hTF⟩ => by
        subst hv
        rw [raised1 hF] at hTF
        exact q5 _ H6 e6 hTF.dp⟩) ((evp_dispT (T := [[5]]) (er_cons (el_ints (u := [5]) (ei_cons ev_c ei_nil) (by decide)) er_nil) (by decide)).imp fun H1 v H2 _ _ ⟨p, rs, hv, _, _, _, hTn⟩ => by
        subst hv
        exact hTn.dp) (shaped_tab _) (shaped_tab _))) fun _ => et_ne (k := false) (i := 0) (j := 0) (ev_ofp (evp_fldP (P := LastFound CL [[0]] 1 1) (evp_lasting (ev_var rfl) hT4 g1 (by decide)) fun H1 v H2 ⟨x, q1, q2, h, L, S, hv, _, _, _, _, _, _, hf, _, _, hL⟩ => by
        obtain ⟨dx, hx⟩ := hf.2.2.2.2
        have := last0 hL
        subst this
        exact ⟨x, CL, dx, _, .int 0, hv, hx, ca.cl.L.cl, ca.cl.nh, rfl, rfl⟩)) ev_c (by simp)) (by rw [eqv_tab]; decide +kernel)) (fun h => nomatch h) fun _ H5 e5 => ?_
    refine qp_asg (P := FoundOf CE CS [[0]] 1 1) (evp_each (ev_var rfl) (hT4.mono e5) g1) fun v H6 e6 hv => ?_
    obtain ⟨x, q, dx, ns, rfl, hx, hq, hfew⟩ := found_short hv no_0
    have ens := short0 hfew
    subst ens
    refine q_when (b := false) (et_is (et_or (et_not (et_B (isi_own (ev_var rfl) hx ca.cs.S ca.cs.k0 ca.cs.SS))) fun _ => et_or (et_test (ev_neDP (d := intsD [0]) (e := intsD [0]) (ed_of (ev_fld (v := .ref q) (ev_var rfl) hx ca.cs.S.cl ca.cs.nS rfl) fun H1 e1 => dp_ints (ns := [0]) (e1 _ _ hq)) (ed_lst (eds_cons (ed_int ev_c) eds_nil) (by decide)) (shaped_ints _) (shaped_ints _))) fun _ => et_not (et_B (ev_isiP (k := true) (evp_eachN (n := 2) (m := 2) (evp_dispT (T := [[1, 0], [1, 0]]) (er_cons (el_ints (u := [1, 0]) (ei_cons ev_c (ei_cons ev_c ei_nil)) (by decide)) (er_cons (el_ints (u := [1, 0]) (ei_cons ev_c (ei_cons ev_c ei_nil)) (by decide)) er_nil)) (by decide)) (good_of (by decide))) fun H1 v H2 h => by
        obtain ⟨x, q, dx, ns, rfl, hx, _⟩ := found_short h no_10
        exact ⟨_, ty_own hx ca.cs.S ca.cs.k0, ca.cs.SS⟩))) (by rw [eqv_ints]; rfl)) (fun h => nomatch h) fun _ H7 e7 => ?_
    refine q_when (b := false) (et_is (et_or (et_test (ev_neDP (d := intsD [0, 1]) (e := intsD [0, 1]) (evp_fldP (P := FoundOf CE CS [[1, 0], [1, 0]] 2 2) (evp_eachN (evp_dispT (T := [[1, 0], [1, 0]]) (er_cons (el_ints (u := [1, 0]) (ei_cons ev_c (ei_cons ev_c ei_nil)) (by decide)) (er_cons (el_ints (u := [1, 0]) (ei_cons ev_c (ei_cons ev_c ei_nil)) (by decide)) er_nil)) (by decide)) (good_of (by decide))) fun H1 v H2 h => by
        obtain ⟨x, q, dx, ns, rfl, hx, hq, hfew⟩ := found_short h no_10
        rw [short10 hfew] at hq
        exact ⟨x, CS, dx, _, .ref q, rfl, hx, ca.cs.S.cl, ca.cs.nS, rfl, dp_ints (ns := [0, 1]) hq⟩) (ed_lst (eds_cons (ed_int ev_c) (eds_cons (ed_int ev_c) eds_nil)) (by decide)) (shaped_ints _) (shaped_ints _))) fun _ => et_ne (k := false) (i := 0) (j := 0) (ev_ofp (evp_fldP (P := LastFound CL [[1, 0], [1, 0]] 2 2) (evp_lastingN (evp_dispT (T := [[1, 0], [1, 0]]) (er_cons (el_ints (u := [1, 0]) (ei_cons ev_c (ei_cons ev_c ei_nil)) (by decide)) (er_cons (el_ints (u := [1, 0]) (ei_cons ev_c (ei_cons ev_c ei_nil)) (by decide)) er_nil)) (by decide)) (good_of (by decide)) (by decide)) fun H1 v H2 ⟨x, q1, q2, h, L, S, hv, _, _, _, _, _, _, hf, _, _, hL⟩ => by
        obtain ⟨dx, hx⟩ := hf.2.2.2.2
        have := last10 hL
        subst this
        exact ⟨x, CL, dx, _, .int 0, hv, hx, ca.cl.L.cl, ca.cl.nh, rfl, rfl⟩)) ev_c (by simp)) (by rw [eqv_ints]; rfl)) (fun h => nomatch h) fun _ H8 e8 => ?_
    refine q_when (b := false) (et_ne (k := false) (i := g) (j := g) (ev_ofp (evp_fldP (P := LastFound CL (full20 g) 20 20) (evp_call1 (rep rfl) down_lf fun v H1 H2 _ _ ⟨p, r, hv, _, _, _, hp, hr⟩ Q q => by
        subst hv
        exact lasting_gives (tab_rep hp hr) g20 (by decide) q) fun H1 v H2 ⟨x, q1, q2, h, L, S, hv, _, _, _, _, _, _, hf, _, _, hL⟩ => by
        obtain ⟨dx, hx⟩ := hf.2.2.2.2
        have := last20 hL
        subst this
        exact ⟨x, CL, dx, _, .int h, hv, hx, ca.cl.L.cl, ca.cl.nh, rfl, rfl⟩)) (ev_var rfl) (by simp)) (fun h => nomatch h) fun _ H9 e9 => ?_
    have hT9 := ((((hT4.mono e5).mono e6).mono e7).mono e8).mono e9
    have lst : ∀ {h : Int} {b : Bool} {σ : L2.St}, σ[6]? = some (some (.ref p4)) → lastB [[0]] 1 1 h [0] [0] = b → Ev (tMeth CL "shows" (sp_Lasting_shows K CL) [] E0 (tMake CL (spInit3 K CL) [] E0 (tCons (tC (.int h)) (tCons (tLst (tCons (tC (.int 0)) tNil)) (tCons (tLst (tCons (tC (.int 0)) tNil)) tNil)))) (tCons (tVar 6) tNil)) σ H9 (.bl b) := fun h6 hb => ev_lastOn (ns := [0]) (S := [0]) (T := [[0]]) (n := 1) (m := 1) ev_c (el_ints (u := [0]) (ei_cons ev_c ei_nil) (by decide)) (el_ints (u := [0]) (ei_cons ev_c ei_nil) (by decide)) (by decide) (by decide) (tb_var (ev_var h6) hT9 g1) hb
    exact s_ret (v := .bl true) (ev_is (ev_andV (a := true) (b := true) (ev_is (ev_says (lst rfl (b := true) (by decide +kernel)) ev_c) rfl) fun _ => ev_is (ev_says (lst rfl (b := false) (by decide +kernel)) ev_c) rfl) rfl) fun HA eA => kq _ HA (((((((((e1.trans e2).trans e3).trans e4).trans e5).trans e6).trans e7).trans e8).trans e9).trans eA) rfl
end Lh

namespace Lh
open PySem PySem.Spec PyProof.Rows L2 Evl
theorem ok__law_chain_right {P : Program} {w : World} {K : PySem.W.Frag} {mg : Str → Option Value} {base : Heap} {CA CP CE CS CL : Addr} (M : Mg mg) (ca : CsAll K mg CA CP CE CS CL) (D : Def K mg "_law_chain_right" s__law_chain_right ["_law_many"])
    (C_each : Cal P w K mg base 23 "each" ["table"] (sp_each K CE CS)) (C_lasting : Cal P w K mg base 23 "lasting" ["table"] (sp_lasting K CL)) (C_Each : Mkr P w K mg base 1 "Each" CE ["self", "classes"] (spInit1 K CE "classes")) (M_Each_shows : Mth P w K mg base 2 CE "shows" ["self", "table"] (sp_Each_shows K CE)) (M_Short_shows : Mth P w K mg base 3 CS "shows" ["self", "table"] (sp_Short_shows K CS)) (M_Lasting_shows : Mth P w K mg base 3 CL "shows" ["self", "table"] (sp_Lasting_shows K CL)) (C__law_says : Cal P w K mg base 1 "_law_says" ["_law_said", "_law_due"] (sp__law_says K))
    (C__law_plain : Cal P w K mg base 5 "_law_plain" ["_law_thing"] (sp__law_plain K 5)) : Cal P w K mg base 24 "_law_chain_right" ["_law_many"] (sp__law_chain_right K) := by
  refine D.cal sc__law_chain_right (fun vs H Q E h => ?_) (fun f cdv A outer s H vs Q E hr h => ?_)
  · obtain ⟨m, rfl, _⟩ := h
    rfl
  · obtain ⟨m, rfl, hm, kq⟩ := h
    refine ⟨_, (pss_cons (ps_setLc (i := 1) (own := [("_law_teacher", 2)]) (wi := (iRng1 (tCons _ tNil))) (g := gName 2) (tt := tYes) (te := (tOp _ (tLst (tCons _ tNil)) _)) (by rfl) sc__law_chain_right.nd rfl rfl (sw_true rfl rfl rfl (by decide +kernel)) (pi_range1 (by rfl) M.range (pa_cons pe_int pa_nil)) (blkOk_by (by kernel_rfl)) (fun _ _ _ _ _ => (pg_name (i := 2) sc__law_chain_right.nd rfl (Or.inl rfl))) (fun _ _ _ _ _ => pts_nil) (fun _ _ _ _ _ => (pe_op op_rep (pe_lst (pa_cons pe_int pa_nil)) pe_int)))
  (pss_cons (ps_for PassesOwn.never rfl (pi_range1 (by rfl) M.range (pa_cons pe_int pa_nil)) (pg_name (i := 2) sc__law_chain_right.nd rfl (Or.inl rfl))
  (pss_one (ps_asg (pe_tup (pa_cons (pv 0) (pa_cons (pv 0) pa_nil))) (pg_tup rfl (pgs_cons (pg_sub (pe_ix ix_list (pv 1) (pv 2) (fun _ _ => rfl)) (pv 2) set_list) (pgs_cons (pg_sub (pe_ix ix_list (pv 1) (pv 2) (fun _ _ => rfl)) (pe_op op_add (pv 2) pe_int) set_list) pgs_nil))))))
  (pss_cons (ps_asg (pv 0) (pg_sub (pe_ix ix_list (pv 1) pe_int (fun _ _ => rfl)) pe_int set_list))
  (pss_cons (ps_par3 (i := 3) (j := 4) (l := 5) (by rfl) sc__law_chain_right.nd rfl rfl rfl (by decide) (by decide) (by decide) rfl rfl rfl (pa_cons (pe_cal C_each hr (by rfl) (pa_cons (pv 1) pa_nil)) (pa_cons (pe_cal C_lasting hr (by rfl) (pa_cons (pv 1) pa_nil)) (pa_cons (pe_op op_cat (pe_listRg rfl (by rfl) M.list_ (prg_2 (by rfl) M.range pe_int pe_int)) (pe_lst (pa_cons pe_int pa_nil))) pa_nil))) (by rfl))
  (pss_cons (ps_if (PW.pt (pw_or (pt_not (pt_val (pe_callB call_isi (by rfl) M.isinstance (by decide +kernel) (pa_cons (pv 3) (pa_cons (pe_glob (v := .ref CE) (by rfl) ca.cs.E.mgC rfl) pa_nil))))) (pw_or (pt_cmpR (op_neD hr.units) (pe_fld (pv 3) rfl) (pv 5) (nomark _)) (pw_or (pt_cmpR op_ne (pe_fld (pv 4) rfl) (pv 0) (nomark _)) (pw_or1 (pt_cmpR (op_neD hr.units) (pe_fld (pv 4) rfl) (pv 5) (nomark _)))))))
  (pss_one (ps_ret pe_bl))
  pss_nil)
  (pss_cons (ps_if (PW.pt (pw_or (pt_not (pt_val (pe_cal C__law_says hr (by rfl) (pa_cons (pe_mth (pe_mak C_Each hr (by rfl) (pa_cons (pv 5) pa_nil)) ca.cs.E.cl M_Each_shows hr (pa_cons (pv 1) pa_nil)) (pa_cons pe_bl pa_nil))))) (pw_or1 (pt_not (pt_val (pe_cal C__law_says hr (by rfl) (pa_cons (pe_mth (pe_mak C_Each hr (by rfl) (pa_cons (pe_listRg rfl (by rfl) M.list_ (prg_1 (by rfl) M.range pe_int)) pa_nil)) ca.cs.E.cl M_Each_shows hr (pa_cons (pv 1) pa_nil)) (pa_cons pe_bl pa_nil))))))))
  (pss_one (ps_ret pe_bl))
  pss_nil)
  (pss_cons (ps_asg pe_int (pg_sub (pe_ix ix_list (pv 1) pe_int (fun _ _ => rfl)) pe_int set_list))
  (pss_one (ps_ret (pe_and (pe_callB call_isi (by rfl) M.isinstance (by decide +kernel) (pa_cons (pe_cal C_each hr (by rfl) (pa_cons (pv 1) pa_nil)) (pa_cons (pe_glob (v := .ref CS) (by rfl) ca.cs.S.mgC rfl) pa_nil))) (pe_and (pe_cal C__law_says hr (by rfl) (pa_cons (pe_either (pe_mth (pv 3) ca.cs.E.cl M_Each_shows hr (pa_cons (pv 1) pa_nil)) (pe_either (pe_mth (pv 3) ca.cs.S.cl M_Short_shows hr (pa_cons (pv 1) pa_nil)) (pe_mth (pv 3) ca.cl.L.cl M_Lasting_shows hr (pa_cons (pv 1) pa_nil)))) (pa_cons pe_bl pa_nil))) (pe_one (pe_cal C__law_plain hr (by rfl) (pa_cons (pe_lst (pa_cons (pe_fld (pv 4) rfl) pa_nil)) pa_nil)))))))))))))), ?_⟩
    refine qp_asg (P := NewT (List.replicate 20 (List.replicate 20 0))) (evp_tabR (a := 20) (b := 20) (z := 0) ev_c (by decide) (by decide) (fun x => rfl) (fun i H1 e1 => ev_c) (fun i H1 e1 => ev_c)) fun v H1 e1 ⟨pt, rs, hv, npt, nd, fr, hT1⟩ => ?_
    subst hv
    refine q_forR1 (n := 19) (ea_cons ev_c ea_nil) (by decide) (fun i σ' H' => (∃ y2, σ' = [some (.int m), some (.ref pt), y2, none, none, none]) ∧ Ex H H' ∧ Tab H' pt rs (chR m i)) (fun H2 e2 => ⟨⟨_, rfl⟩, e1.trans e2, hT1.mono e2⟩) (fun i σ' H2 hi z => ?_) (fun σ' H2 z => ?_)
    · obtain ⟨⟨y2, rfl⟩, ex, hT⟩ := z
      have hi' : i < 19 := by omega
      have hR := chR_rect m i (by omega)
      obtain ⟨u, hu, hul⟩ := hR.lt (show i < 20 by omega)
      obtain ⟨r, hr', hrow⟩ := hT.at hu
      have hmem := List.mem_of_getElem? hr'
      refine s_asg2g (ev_var rfl) (ev_var rfl) fun H3 e3 => g_setL (j := i) (e3 _ _ hrow) (ev_row (ev_var rfl) (ev_var rfl) (hT.mono e3) hr') (ev_var rfl) (by rw [List.length_map, hul]; omega) fun H4 e4 => ⟨.int m, [], rfl, ?_⟩
      rw [map_set_int]
      have hT4 := ((hT.mono e3).mono e4).set nd (w := u.set i m) hr' hu
      have hil : i < (chR m i).length := by
        rw [hR.len]
        omega
      have hu4 : ((chR m i).set i (u.set i m))[i]? = some (u.set i m) := List.getElem?_set_self hil
      refine g_setL (j := i + 1) (xs := (u.set i m).map V.int) upd_same (ev_row (ev_var rfl) (ev_var rfl) hT4 hr') (ev_is (ev_add (ev_var rfl) ev_c) (by congr 1)) (by rw [List.length_map, List.length_set, hul]; omega) fun H5 e5 => ⟨rfl, ⟨_, rfl⟩, ?_, ?_⟩
      · exact Ex.mut ((Ex.mut ((ex.trans e3).trans e4) (fr r hmem)).trans e5) (fr r hmem)
      · rw [map_set_int]
        have := (hT4.mono e5).set nd (w := (u.set i m).set (i + 1) m) hr' hu4
        rw [List.set_set] at this
        show Tab _ pt rs ((chR m i).set i ((((chR m i).getD i []).set i m).set (i + 1) m))
        rw [show (chR m i).getD i [] = u by simp [List.getD, hu]]
        exact this
    obtain ⟨⟨y2, rfl⟩, ex2, hT2⟩ := z
    have hT2 : Tab H2 pt rs (chR m 19) := hT2
    have hR19 := chR_rect m 19 (by decide)
    obtain ⟨u19, hu19, hul19⟩ := hR19.lt (show 19 < 20 by decide)
    obtain ⟨r, hr19, hrow⟩ := hT2.at hu19
    have hmem := List.mem_of_getElem? hr19
    refine q_setL (j := 0) (v := .int m) hrow (ev_var rfl) (ev_row (i := 19) (ev_var rfl) ev_c hT2 hr19) ev_c (by rw [List.length_map, hul19]; decide) fun H3 e3 => ?_
    rw [map_set_int]
    have hT3 := (hT2.mono e3).set nd (w := u19.set 0 m) hr19 hu19
    have eT : (chR m 19).set 19 (u19.set 0 m) = chT m := by
      rw [← chR_end m, show (chR m 19).getD 19 [] = u19 by simp [List.getD, hu19]]
    rw [eT] at hT3
    have ex3 : Ex H (upd H3 r (.lst ((u19.set 0 m).map V.int))) := Ex.mut (ex2.trans e3) (fr r hmem)
    generalize upd H3 r (.lst ((u19.set 0 m).map V.int)) = H4 at hT3 ex3
    have gT := chT_good (m := m) (by omega)
    obtain ⟨w19, hw19, hwl19⟩ := gT.toRect.lt (show 19 < 20 by decide)
    refine q_par3 (cP (P := FoundOf CE CS (chT m) 20 20) (evp_each (ev_var rfl) hT3 gT) fun v H5 e5 hv => ?_)
    obtain ⟨x, q, dx, L', rfl, nx, nq, hx, hq, hL'⟩ := found_eachN hv (ch_due.mono hm)
    rw [ch_only hL'] at hq
    have hT5 := hT3.mono e5
    refine cP (P := LastFound CL (chT m) 20 20) (evp_lasting (ev_var rfl) hT5 gT (by decide)) fun v H6 e6 ⟨xl, q1, q2, h, L, S, hv, nxl, n1, n2, _, _, _, hfl, _, hSl, hL⟩ => ?_
    subst hv
    obtain ⟨eh, eL⟩ := ch_last hm hL
    rw [eh, eL] at hfl
    obtain ⟨_, _, hq1, hq2, dl, hxl⟩ := hfl
    have hT6 := hT5.mono e6
    refine cL (xs := dueI.map V.int) (by
      rw [← due_rg]
      exact el_catNN (el_rg2 ev_c ev_c (by decide) (by decide)) (el_lst (ea_cons ev_c ea_nil) (by show 1 ≤ 100000; decide)) (by decide +kernel)) fun pd H7 npd e7 hd => cN ⟨_, _, _, rfl, ?_⟩
    have hT7 := hT6.mono e7
    have hx7 := e7 _ _ (e6 _ _ hx)
    have hq7 := e7 _ _ (e6 _ _ hq)
    have hxl7 := e7 _ _ hxl
    have dd : ∀ {q : Addr} {H8 : Hp}, H7 q = some (.lst (dueI.map V.int)) → Ex H7 H8 → Dp K H8 (.ref q) (intsD dueI) := fun hq e => dp_ints (e _ _ hq)
    refine q_when (b := false) (et_is (et_or (et_not (et_B (isi_own (ev_var rfl) hx7 ca.cs.E ca.cs.k0 ca.cs.EE))) fun _ => et_or (et_test (ev_neDP (d := intsD dueI) (e := intsD dueI) (ed_of (ev_fld (v := .ref q) (ev_var rfl) hx7 ca.cs.E.cl ca.cs.nE rfl) fun H8 e8 => dd hq7 e8) (ed_of (ev_var rfl) fun H8 e8 => dd hd e8) (shaped_ints _) (shaped_ints _))) fun _ => et_or (et_ne (k := false) (i := m) (j := m) (ev_fld (ev_var rfl) hxl7 ca.cl.L.cl ca.cl.nh rfl) (ev_var rfl) (by simp)) fun _ => et_test (ev_neDP (d := intsD dueI) (e := intsD dueI) (ed_of (ev_fld (v := .ref q1) (ev_var rfl) hxl7 ca.cl.L.cl ca.cl.nc rfl) fun H8 e8 => dd (e7 _ _ hq1) e8) (ed_of (ev_var rfl) fun H8 e8 => dd hd e8) (shaped_ints _) (shaped_ints _))) (by rw [eqv_ints]; simp)) (fun h => nomatch h) fun _ H8 e8 => ?_
    have hT8 := hT7.mono e8
    refine q_when (b := false) (et_is (et_or (et_not (et_B (ev_says (ev_eachV (ns := dueI) (ev_var rfl) (sq_of (e8 _ _ hd)) (by decide) (tb_var (ev_var rfl) hT8 gT) (ch_dueB hm)) ev_c))) fun _ => et_not (et_B (ev_says (ev_eachOn (el_rg (k := 20) ev_c (by decide)) (by decide +kernel) (tb_var (ev_var rfl) hT8 gT) ch_not) ev_c))) rfl) (fun h => nomatch h) fun _ H9 e9 => ?_
    have hT9 := hT8.mono e9
    have e19 : (chT m).getD 19 [] = w19 := by simp [List.getD, hw19]
    refine q_setL (j := 0) (v := .int 0) (hT9.row 19 r w19 hr19 hw19) ev_c (ev_row (i := 19) (ev_var rfl) ev_c hT9 hr19) ev_c (by rw [List.length_map, hwl19]; decide) fun HA eA => ?_
    rw [map_set_int]
    have hTA := (hT9.mono eA).set nd (w := w19.set 0 0) hr19 hw19
    have eZ : w19.set 0 0 = List.replicate 20 0 := by
      rw [← e19]
      exact chZ_row m
    rw [eZ] at hTA ⊢
    have hr4 : H4 r = some (.lst (w19.map V.int)) := hT3.row 19 r w19 hr19 hw19
    have hr5 : H5 r = some (.lst (w19.map V.int)) := e5 _ _ hr4
    have exA := (((e7.trans e8).trans e9).trans eA)
    have hxA : upd HA r (.lst ((List.replicate 20 0).map V.int)) x = some (.ins CE dx [("classes", .ref q)]) := by
      rw [upd_ne (Ne.symm (ne_of_none hr4 nx))]
      exact exA _ _ (e6 _ _ hx)
    have hqA : upd HA r (.lst ((List.replicate 20 0).map V.int)) q = some (.lst (dueI.map V.int)) := by
      rw [upd_ne (Ne.symm (ne_of_none hr4 nq))]
      exact exA _ _ (e6 _ _ hq)
    have hxlA : upd HA r (.lst ((List.replicate 20 0).map V.int)) xl = some (.ins CL dl (fldL m q1 q2)) := by
      rw [upd_ne (Ne.symm (ne_of_none hr5 nxl))]
      exact exA _ _ hxl
    have hq2A : upd HA r (.lst ((List.replicate 20 0).map V.int)) q2 = some (.lst (S.map V.int)) := by
      rw [upd_ne (Ne.symm (ne_of_none hr5 n2))]
      exact exA _ _ hq2
    have exZ : Ex H (upd HA r (.lst ((List.replicate 20 0).map V.int))) := Ex.mut (((ex3.trans e5).trans e6).trans exA) (fr r hmem)
    generalize upd HA r (.lst ((List.replicate 20 0).map V.int)) = HB at hTA hxA hqA hxlA hq2A exZ
    have gZ := chZ_good (m := m) (by omega)
    refine s_ret (v := .bl true) (ev_is (ev_andV (a := true) (b := true) (ev_isiP (k := true) (evp_each (ev_var rfl) hTA gZ) fun H1 v H2 h => ?_) fun _ => ev_is (ev_andV (a := true) (b := true) (ev_is (ev_says (b := false) (c := false) (ev_left (ev_methV (ev_var rfl) hxA rfl (ea_cons (ev_var rfl) ea_nil) fun HC eC Q q' => ⟨x, pt, q, dx, rs, chZ m, 20, 20, dueI, rfl, eC _ _ hxA, eC _ _ hqA, by decide, hTA.mono eC, gZ.toRect, by decide, by decide, by decide, by rw [chZ_not]; exact q'⟩)) ev_c) rfl) fun _ => ev_ofp (evp_call1 (Pa := NewL [.ref q2]) (evp_l (el_lst (ea_cons (ev_fld (v := .ref q2) (ev_var rfl) hxlA ca.cl.L.cl ca.cl.nt rfl) ea_nil) (by show 1 ≤ 100000; decide))) down_v fun v HC HD eC eD ⟨p, hv, _, hp⟩ Q q' => ?_)) rfl) rfl) fun HC eC => kq _ HC (exZ.trans eC) rfl
    · obtain ⟨x, q, dx, ns, rfl, hx, _⟩ := found_short h chZ_none
      exact ⟨_, ty_own hx ca.cs.S ca.cs.k0, ca.cs.SS⟩
    · subst hv
      refine ⟨.ref p, rfl, .inr ⟨p, _, rfl, .inl hp, by show 1 ≤ 1000; decide, fun y hy => ?_⟩, q'⟩
      have : y = .ref q2 := by simpa using hy
      subst this
      exact PlainV.ints ((eC.trans eD) _ _ hq2A) (by omega) 2
end Lh

namespace Lh
open PySem PySem.Spec PyProof.Rows L2 Evl
theorem el_isL {σ : L2.St} {H : Hp} {te : TE} {xs ys : List V} (h : EvL te σ H xs) (e : xs = ys) : EvL te σ H ys := by
  rw [← e]
  exact h
theorem ok__law_rows_right {P : Program} {w : World} {K : PySem.W.Frag} {mg : Str → Option Value} {base : Heap} {CA CP CE CS CL : Addr} (M : Mg mg) (ca : CsAll K mg CA CP CE CS CL) (D : Def K mg "_law_rows_right" s__law_rows_right ["_law_many"]) (C_fullest : Cal P w K mg base 3 "fullest" ["table"] (sp_fullest K)) (C_raised : Cal P w K mg base 3 "raised" ["table", "hours"] (sp_raised K))
    (C_Plan : Mkr P w K mg base 1 "Plan" CP ["self", "parts"] (sp_Plan_init K CP)) (C_Short : Mkr P w K mg base 1 "Short" CS ["self", "teachers"] (spInit1 K CS "teachers")) (C_Each : Mkr P w K mg base 1 "Each" CE ["self", "classes"] (spInit1 K CE "classes"))
    (M_Plan_shows : Mth P w K mg base 3 CP "shows" ["self", "table"] (sp_Plan_shows K CP)) (M_Short_shows : Mth P w K mg base 3 CS "shows" ["self", "table"] (sp_Short_shows K CS)) (M_Each_shows : Mth P w K mg base 2 CE "shows" ["self", "table"] (sp_Each_shows K CE)) (C__law_says : Cal P w K mg base 1 "_law_says" ["_law_said", "_law_due"] (sp__law_says K))
    (C__law_plain : Cal P w K mg base 5 "_law_plain" ["_law_thing"] (sp__law_plain K 5)) : Cal P w K mg base 24 "_law_rows_right" ["_law_many"] (sp__law_rows_right K) := by
  refine D.cal sc__law_rows_right (fun vs H Q E h => ?_) (fun f cdv A outer s H vs Q E hr h => ?_)
  · obtain ⟨m, rfl, _⟩ := h
    rfl
  · obtain ⟨m, rfl, hm2, hm10, kq⟩ := h
    refine ⟨_, (pss_cons (ps_set (i := 1) sc__law_rows_right.nd rfl (Or.inl rfl) (pe_lst (pa_cons pe_int (pa_cons (pv 0) pa_nil))))
  (pss_cons (ps_set (i := 2) sc__law_rows_right.nd rfl (Or.inl rfl) (pe_op op_rep (pe_lst (pa_cons (pv 1) pa_nil)) pe_int))
  (pss_cons (ps_if (PW.pt (pw_or (pt_cmpR op_ne (pe_ix ix_tup (pe_cal C_fullest hr (by rfl) (pa_cons (pv 2) pa_nil)) pe_int (fun _ _ => rfl)) (pe_op op_mulX pe_int (pv 0)) (nomark _)) (pw_or1 (pt_cmpR (op_neD hr.units) (pe_lc (own := [("_law_some", 4)]) (wi := (iList K (tCall _ [] E0 (tCons (tVar 2) (tCons (tOp _ _ (tVar 0)) tNil))))) (g := gName 4) (tt := tYes) (te := (tOp (rIxL K) (tVar 4) _)) (by rfl) sc__law_rows_right.nd  (pi_list (pe_cal C_raised hr (by rfl) (pa_cons (pv 2) (pa_cons (pe_op op_mulX pe_int (pv 0)) pa_nil)))) (blkOk_by (by kernel_rfl)) (fun _ _ _ _ _ => (pg_name (i := 4) sc__law_rows_right.nd rfl (Or.inl rfl))) (fun _ _ _ _ _ => pts_nil) (fun _ _ _ _ _ => (pe_ix ix_list (pv 4) pe_int (fun _ _ => rfl)))) (pe_op op_rep (pe_lst (pa_cons (pv 0) pa_nil)) pe_int) (nomark _)))))
  (pss_one (ps_ret pe_bl))
  pss_nil)
  (pss_cons (ps_asg (pv 0) (pg_sub (pv 1) pe_int set_list))
  (pss_cons (ps_if (pt_cmpR op_ne (pe_ix ix_tup (pe_cal C_fullest hr (by rfl) (pa_cons (pv 2) pa_nil)) pe_int (fun _ _ => rfl)) (pe_op op_mulX pe_int (pv 0)) (nomark _))
  (pss_one (ps_ret pe_bl))
  pss_nil)
  (pss_cons (ps_set (i := 3) sc__law_rows_right.nd rfl (Or.inl rfl) (pe_cal C_raised hr (by rfl) (pa_cons (pv 2) (pa_cons (pe_op op_mulX pe_int (pv 0)) pa_nil))))
  (pss_cons (ps_asg pe_int (pg_sub (pe_ix ix_list (pv 3) pe_int (fun _ _ => rfl)) pe_int set_list))
  (pss_cons (ps_if (PW.pt (pw_or (pt_cmpR op_ne (pe_ix ix_list (pe_ix ix_list (pv 3) pe_int (fun _ _ => rfl)) pe_int (fun _ _ => rfl)) (pv 0) (nomark _)) (pw_or (pt_cmpR (op_neD hr.units) (pv 1) (pe_lst (pa_cons (pv 0) (pa_cons (pv 0) pa_nil))) (nomark _)) (pw_or (pt_cmpR op_ne (pe_ix ix_list (pe_ix ix_list (pe_cal C_raised hr (by rfl) (pa_cons (pv 2) (pa_cons (pe_op op_mulX pe_int (pv 0)) pa_nil))) pe_int (fun _ _ => rfl)) pe_int (fun _ _ => rfl)) (pv 0) (nomark _)) (pw_or1 (pt_cmpR op_ne (pe_callB call_len_seq (by rfl) M.len (by decide +kernel) (pa_cons (pv 3) pa_nil)) pe_int (nomark _)))))))
  (pss_one (ps_ret pe_bl))
  pss_nil)
  (pss_cons (ps_if (PW.pt (pw_or (pt_not (pt_val (pe_callB (cr_all rfl) (by rfl) M.all (by decide +kernel) (pa_cons (pe_lc (own := [("_law_some", 4)]) (wi := (iList K (tCall _ [] E0 (tCons (tVar 2) (tCons (tOp _ _ (tVar 0)) tNil))))) (g := gName 4) (tt := tYes) (te := (tOp _ (tCB (rSum K) (tCons (tVar 4) tNil)) (tOp _ _ (tVar 0)))) (by rfl) sc__law_rows_right.nd  (pi_list (pe_cal C_raised hr (by rfl) (pa_cons (pv 2) (pa_cons (pe_op op_mulX pe_int (pv 0)) pa_nil)))) (blkOk_by (by kernel_rfl)) (fun _ _ _ _ _ => (pg_name (i := 4) sc__law_rows_right.nd rfl (Or.inl rfl))) (fun _ _ _ _ _ => pts_nil) (fun _ _ _ _ _ => (pe_cmpR op_eq (pe_callB (cr_sum rfl) (by rfl) M.sum (by decide +kernel) (pa_cons (pv 4) pa_nil)) (pe_op op_mulX pe_int (pv 0)) (nomark _)))) pa_nil)))) (pw_or1 (pt_not (pt_val (pe_cal C__law_plain hr (by rfl) (pa_cons (pe_cal C_raised hr (by rfl) (pa_cons (pe_lst (pa_cons (pe_lst (pa_cons pe_int (pa_cons pe_int pa_nil))) pa_nil)) (pa_cons pe_int pa_nil))) pa_nil)))))))
  (pss_one (ps_ret pe_bl))
  pss_nil)
  (pss_one (ps_ret (pe_callB (cr_all rfl) (by rfl) M.all (by decide +kernel) (pa_cons (pe_lc (own := [("_law_one", 5)]) (wi := (iList K (tLst (tCons _ (tCons _ (tCons _ tNil)))))) (g := gName 5) (tt := tYes) (te := (tCall _ [] E0 (tCons (tEither (tMeth CP "shows" _ [] E0 (tVar 5) (tCons (tLst (tCons (tLst (tCons _ tNil)) tNil)) tNil)) (tEither (tMeth CS "shows" _ [] E0 (tVar 5) (tCons (tLst (tCons (tLst (tCons _ tNil)) tNil)) tNil)) (tMeth CE "shows" _ [] E0 (tVar 5) (tCons (tLst (tCons (tLst (tCons _ tNil)) tNil)) tNil)))) (tCons _ tNil)))) (by rfl) sc__law_rows_right.nd  (pi_list (pe_lst (pa_cons (pe_mak C_Plan hr (by rfl) (pa_cons (pe_lst pa_nil) pa_nil)) (pa_cons (pe_mak C_Short hr (by rfl) (pa_cons (pe_lst (pa_cons pe_int pa_nil)) pa_nil)) (pa_cons (pe_mak C_Each hr (by rfl) (pa_cons (pe_lst (pa_cons pe_int pa_nil)) pa_nil)) pa_nil))))) (blkOk_by (by kernel_rfl)) (fun _ _ _ _ _ => (pg_name (i := 5) sc__law_rows_right.nd rfl (Or.inl rfl))) (fun _ _ _ _ _ => pts_nil) (fun _ _ _ _ _ => (pe_cal C__law_says hr (by rfl) (pa_cons (pe_either (pe_mth (pv 5) ca.cp.P.cl M_Plan_shows hr (pa_cons (pe_lst (pa_cons (pe_lst (pa_cons pe_int pa_nil)) pa_nil)) pa_nil)) (pe_either (pe_mth (pv 5) ca.cs.S.cl M_Short_shows hr (pa_cons (pe_lst (pa_cons (pe_lst (pa_cons pe_int pa_nil)) pa_nil)) pa_nil)) (pe_mth (pv 5) ca.cs.E.cl M_Each_shows hr (pa_cons (pe_lst (pa_cons (pe_lst (pa_cons pe_int pa_nil)) pa_nil)) pa_nil)))) (pa_cons pe_bl pa_nil))))) pa_nil))))))))))))), ?_⟩
    have mul : IntMulOk 20 m := mulOk_small (by decide) (by decide)
    refine q_asgL (xs := [.int 1, .int m]) (el_lst (ea_cons ev_c (ea_cons (ev_var rfl) ea_nil)) (by show 2 ≤ 100000; decide)) fun r H1 nr e1 hr1 => ?_
    refine q_asgL (xs := List.replicate (20 : Int).toNat (.ref r)) (el_rep1 (el_lst (ea_cons (ev_var rfl) ea_nil) (by show 1 ≤ 100000; decide)) ev_c (by decide)) fun pt H2 npt e2 hpt => ?_
    have hr2 := e2 _ _ hr1
    have hT2 : Tab H2 pt (List.replicate 20 r) (List.replicate 20 [1, m]) := tab_rep (u := [1, m]) hpt hr2
    have g1 := good_two (a := 1) (b := m) (by decide) (by omega)
    have g2 := good_two (a := m) (b := m) (by omega) (by omega)
    have f1 : fullM (List.replicate 20 [1, m]) 2 = 20 * m := by
      rw [fullM_two]
      omega
    have f2 : fullM (List.replicate 20 [m, m]) 2 = 20 * m := by
      rw [fullM_two]
      omega
    have e20 : ∀ {σ : L2.St} {H1 : Hp}, σ[0]? = some (some (.int m)) → Ev (tOp (rI IntMulOk fun i j => .int (i * j)) (tC (.int 20)) (tVar 0)) σ H1 (.int (20 * m)) := fun h0 => ev_mul ev_c (ev_var h0) mul
    have rz : ∀ {a b : Int} {σ : L2.St} {H1 : Hp}, Good (List.replicate 20 [a, b]) 20 2 → fullM (List.replicate 20 [a, b]) 2 = 20 * m → Tab H1 pt (List.replicate 20 r) (List.replicate 20 [a, b]) → σ[0]? = some (some (.int m)) → σ[2]? = some (some (.ref pt)) → EvP (tCall (sp_raised K) [] E0 (tCons (tVar 2) (tCons (tOp (rI IntMulOk fun i j => .int (i * j)) (tC (.int 20)) (tVar 0)) tNil))) σ H1 (fun H1 v H2 => ∃ F, Raised (List.replicate 20 [a, b]) 20 2 (20 * m) F ∧ NewT F H1 v H2) := fun {a b σ H1} g hf hT h0 h2 => evp_call (ea_cons (ev_var h2) (ea_cons (e20 h0) ea_nil)) (fun H1 H2 v H3 e ⟨F, hF, hv⟩ => ⟨F, hF, down_t _ _ _ _ e hv⟩) fun H3 e3 Q3 q3 => ⟨pt, _, _, 20, 2, 20 * m, rfl, hT.mono e3, g, by rw [hf]; exact Int.le_refl _, fun F hF v H4 e4 hv => q3 v H4 e4 ⟨F, hF, hv⟩⟩
    have ful : ∀ {a b : Int} {σ : L2.St} {H1 : Hp}, Good (List.replicate 20 [a, b]) 20 2 → fullM (List.replicate 20 [a, b]) 2 = 20 * m → Tab H1 pt (List.replicate 20 r) (List.replicate 20 [a, b]) → σ[2]? = some (some (.ref pt)) → Ev (tOp (rIxT K) (tCall (sp_fullest K) [] E0 (tCons (tVar 2) tNil)) (tC (.int 0))) σ H1 (.int (20 * m)) := fun {a b σ H1} g hf hT h2 => by
      rw [← hf]
      exact ev_ixPT (P := NewFull (List.replicate 20 [a, b]) 2) (evp_call (ea_cons (ev_var h2) ea_nil) down_c fun H9 e9 Q9 q9 => ⟨pt, _, _, 20, 2, rfl, hT.mono e9, g, q9⟩) (fun H9 e9 => ev_c) (fun H9 u H10 ⟨p, q, hu, hp, hq⟩ => ⟨p, _, hu, st_of hp, atI_of (j := 0) rfl rfl⟩)
    refine q_when (b := false) (et_is (et_or (et_ne (k := false) (ful g1 f1 hT2 rfl) (e20 rfl) (by simp)) fun _ => et_test (ev_neDP (d := intsD (List.replicate 20 m)) (e := intsD (List.replicate 20 m)) ((evp_l (xs := (List.replicate 20 m).map V.int) (el_src (rz g1 f1 hT2 rfl rfl) fun H3 v H4 e3 e4 ⟨F, hF, p, fs, hv, _, _, _, hTF⟩ => ?_)).imp fun _ v H2 _ _ ⟨p, hv, _, h2⟩ => ?_) ((evp_l (el_repI (ev_var rfl) ev_c (by decide) (by decide))).imp fun _ v H2 _ _ ⟨p, hv, _, h2⟩ => ?_) (shaped_ints _) (shaped_ints _))) (by rw [eqv_ints]; simp)) (fun h => nomatch h) fun _ H3 e3 => ?_
    · subst hv
      have hl : F.length = 20 := hF.rect.len
      have hc := raised_col hF (j := 1) (c := m) (by decide) rfl rfl
      have eF : (List.replicate 20 m).map V.int = F.map fun u => V.int (u.getD 1 0) := by
        rw [List.map_replicate]
        refine (List.eq_replicate_iff.mpr ⟨by rw [List.length_map, hl], fun x hx => ?_⟩).symm
        obtain ⟨u, hu, rfl⟩ := List.mem_map.mp hx
        rw [hc u hu]
      rw [eF]
      refine el_lcT (v := fun u => .int (u.getD 1 0)) ev_c hTF (by omega) (fun x => rfl) fun u r' H5 hu e5 hr' => ?_
      have hul : u.length = 20 := hF.rect.row u hu
      obtain ⟨y, hy, hyd⟩ := get_lt hul (show 1 < 20 by decide)
      rw [hyd]
      exact ev_ixL (ev_var rfl) ev_c (sq_of hr') (atI_of (j := 1) rfl (int_at hy))
    · rw [hv]
      exact dp_ints h2
    · rw [hv]
      exact dp_ints h2
    -- row[0] = many
    refine q_setL (j := 0) (v := .int m) (e3 _ _ hr2) (ev_var rfl) (ev_var rfl) ev_c (by show 0 < 2; decide) fun H4 e4 => ?_
    have hrp : r ≠ pt := ne_of_none hr1 npt
    have hT5 : Tab (upd H4 r (.lst [.int m, .int m])) pt (List.replicate 20 r) (List.replicate 20 [m, m]) := tab_rep (u := [m, m]) (by rw [upd_ne (Ne.symm hrp)]; exact e4 _ _ (e3 _ _ hpt)) upd_same
    have hr5 : upd H4 r (.lst [.int m, .int m]) r = some (.lst [.int m, .int m]) := upd_same
    have ex5 : Ex H (upd H4 r (.lst [.int m, .int m])) := Ex.mut (((e1.trans e2).trans e3).trans e4) nr
    show tSeq _ _ _ _ (upd H4 r (.lst [.int m, .int m]))
    generalize upd H4 r (.lst [.int m, .int m]) = H5 at hT5 hr5 ex5
    refine q_when (b := false) (et_ne (k := false) (ful g2 f2 hT5 rfl) (e20 rfl) (by simp)) (fun h => nomatch h) fun _ H6 e6 => ?_
    refine qp_asg (P := fun H1 v H2 => ∃ F, Raised (List.replicate 20 [m, m]) 20 2 (20 * m) F ∧ NewT F H1 v H2) (rz g2 f2 (hT5.mono e6) rfl rfl) fun v H7 e7 ⟨F, hF, pf, fs, hv, npf, ndf, frf, hTF⟩ => ?_
    subst hv
    have hFr : Rect F 20 20 := hF.rect
    obtain ⟨u0, hu0, hul0⟩ := hFr.lt (show 0 < 20 by decide)
    obtain ⟨r0, hr0, hrow0⟩ := hTF.at hu0
    obtain ⟨u1, hu1, hul1⟩ := hFr.lt (show 1 < 20 by decide)
    have hmem := List.mem_of_getElem? hr0
    refine q_setL (j := 0) (v := .int 99) hrow0 ev_c (ev_row (i := 0) (ev_var rfl) ev_c hTF hr0) ev_c (by rw [List.length_map, hul0]; decide) fun H8 e8 => ?_
    rw [map_set_int]
    have hTF8 := (hTF.mono e8).set ndf (w := u0.set 0 99) hr0 hu0
    have ex8 : Ex H6 (upd H8 r0 (.lst ((u0.set 0 99).map V.int))) := Ex.mut (e7.trans e8) (frf r0 hmem)
    generalize upd H8 r0 (.lst ((u0.set 0 99).map V.int)) = H9 at hTF8 ex8
    have hT9 := (hT5.mono e6).mono ex8
    have hr9 := ex8 _ _ (e6 _ _ hr5)
    have hlF : F.length = 20 := hFr.len
    have hu1' : (F.set 0 (u0.set 0 99))[1]? = some u1 := by
      rw [List.getElem?_set_ne (by decide)]
      exact hu1
    have hc0 := raised_col hF (j := 0) (c := m) (by decide) rfl rfl
    obtain ⟨y1, hy1, hyd1⟩ := get_lt hul1 (show 0 < 20 by decide)
    have ey1 : y1 = m := by
      rw [← hyd1]
      exact hc0 u1 (List.mem_of_getElem? hu1)
    subst ey1
    refine q_when (b := false) (et_is (et_or (et_ne (k := false) (ev_cell (i := 1) (j := 0) (ev_var rfl) ev_c ev_c hTF8 hu1' hy1) (ev_var rfl) (by simp)) fun _ => et_or (et_test (ev_neDP (d := intsD [y1, y1]) (e := intsD [y1, y1]) (ed_of (ev_var rfl) fun HA eA => dp_ints (ns := [y1, y1]) (eA _ _ hr9)) (ed_lst (eds_cons (ed_int (ev_var rfl)) (eds_cons (ed_int (ev_var rfl)) eds_nil)) (by show 2 ≤ 100000; decide)) (shaped_ints _) (shaped_ints _))) fun _ => et_or (et_ne (k := false) (i := y1) (j := y1) (ev_ofp (evp_ixPL (P := fun H1 v H2 => ∃ p u, v = .ref p ∧ H2 p = some (.lst (u.map V.int)) ∧ u[0]? = some y1) (evp_ixPL (rz g2 f2 hT9 rfl rfl) (fun HA eA => ev_c) (fun H1 v H2 ⟨F', hF', p, fs', hv, _, _, _, hTF'⟩ => ?_) fun H1 v H2 H3 e ⟨p, u, a, b, c⟩ => ⟨p, u, a, e _ _ b, c⟩) (fun HA eA => ev_c) (fun H1 v H2 ⟨p, u, hv, hp, hu⟩ => ⟨p, _, .int y1, hv, sq_of hp, atI_of (j := 0) rfl (int_at hu), rfl⟩) fun _ _ _ _ _ h => h)) (ev_var rfl) (by simp)) fun _ => et_ne (k := false) (ev_lenL (ev_var rfl) hTF8.sq) ev_c (by rw [List.length_map, hTF8.len, List.length_set, hlF]; rfl)) (by rw [eqv_ints]; simp)) (fun h => nomatch h) fun _ HA eA => ?_
    · have hl' : F'.length = 20 := hF'.rect.len
      obtain ⟨v0, hv0, hvl0⟩ := hF'.rect.lt (show 0 < 20 by decide)
      obtain ⟨q0, hq0, hq1⟩ := hTF'.at hv0
      obtain ⟨z, hz, hzd⟩ := get_lt (show v0.length = 20 from hvl0) (show 0 < 20 by decide)
      have ez : z = y1 := by
        rw [← hzd]
        exact raised_col hF' (j := 0) (c := y1) (by decide) rfl rfl v0 (List.mem_of_getElem? hv0)
      subst ez
      exact ⟨p, _, .ref q0, hv, hTF'.sq, atI_of (j := 0) rfl (ref_at hq0), q0, v0, rfl, hq1, hz⟩
    have hTA := hT9.mono eA
    refine q_when (b := false) (et_is (et_or (et_not (et_B (ev_allTrue (k := 20) (el_src (rz g2 f2 hTA rfl rfl) fun H1 v H2 _ _ ⟨F', hF', p, fs', hv, _, _, _, hTF'⟩ => ?_)))) fun _ => et_not (et_B (ev_ofp (evp_call1 (Pa := fun H1 v H2 => ∃ F', Raised [[2, 1]] 1 2 3 F' ∧ NewT F' H1 v H2) (evp_call2 (Pa := NewT [[2, 1]]) (x := .int 3) (evp_dispT (T := [[2, 1]]) (er_cons (el_ints (u := [2, 1]) (ei_cons ev_c (ei_cons ev_c ei_nil)) (by decide)) er_nil) (by decide)) (fun H1 e1 => ev_c) (fun H1 H2 v H3 e ⟨F, hF, hv⟩ => ⟨F, hF, down_t _ _ _ _ e hv⟩) fun v H1 H2 H3 _ _ e3 ⟨p, rs, hv, _, _, _, hTn⟩ Q q => ?_) (down_v (v := .bl true)) fun v H1 H2 _ _ ⟨F', hF', p, fs', hv, _, _, _, hTF'⟩ Q q => ?_)))) rfl) (fun h => nomatch h) fun _ HB eB => ?_
    · subst hv
      have hl' : F'.length = 20 := hF'.rect.len
      have eF : (List.replicate 20 true).map V.bl = F'.map fun _ => V.bl true := by
        rw [List.map_replicate]
        refine (List.eq_replicate_iff.mpr ⟨by rw [List.length_map, hl'], fun x hx => ?_⟩).symm
        obtain ⟨u, hu, rfl⟩ := List.mem_map.mp hx
        rfl
      rw [eF]
      exact el_lcT (v := fun _ => .bl true) ev_c hTF' (by omega) (fun x => rfl) fun u r' H5 hu e5 hr' => ev_is (ev_eqI (ev_sum (ev_var rfl) (sq_of hr')) (e20 rfl)) (by rw [hF'.rows u hu]; simp)
    · subst hv
      exact ⟨p, rs, [[2, 1]], 1, 2, 3, rfl, hTn.mono e3, good_of (by decide), by decide +kernel, fun F hF v H4 e4 hv => q v H4 e4 ⟨F, hF, hv⟩⟩
    · subst hv
      exact ⟨.ref p, rfl, PlainV.up _ _ (PlainV.up _ _ (hTF'.plain hF'.rect (by decide) (by decide))), q⟩
    refine s_ret (v := .bl true) (ev_allTrue (k := 3) (el_src (all_disp (I := IsOb CP CS CE) mo_ob (all_cons mo_ob ((evp_makePN (parts := []) ep_none (by decide)).imp fun _ v H2 _ _ ⟨x, dx, a, ts, ls, hv, _, _, _, _, _, hP, hx⟩ => .inl ⟨x, dx, a, hv, hx, ?_⟩) (all_cons mo_ob ((evp_make1N (xs := [(0 : Int)].map V.int) (el_ints (u := [0]) (ei_cons ev_c ei_nil) (by decide))).imp fun _ v H2 _ _ ⟨x, dx, p, hv, _, _, _, hx, hp⟩ => .inr (.inl ⟨x, dx, p, hv, hx, hp⟩)) (all_cons mo_ob ((evp_make1N (xs := [(1 : Int)].map V.int) (el_ints (u := [1]) (ei_cons ev_c ei_nil) (by decide))).imp fun _ v H2 _ _ ⟨x, dx, p, hv, _, _, _, hx, hp⟩ => .inr (.inr ⟨x, dx, p, hv, hx, hp⟩)) all_nil))) (by decide)) fun H1 v H2 _ _ ⟨p, xs, hv, hp, hl, hx⟩ => ?_)) fun HC eC => kq _ HC (((((ex5.trans e6).trans ex8).trans eA).trans eB).trans eC) rfl
    · have h1 := hP.top
      have h2 : ts = [] := List.length_eq_zero_iff.mp hP.lt
      rw [h2] at h1
      exact h1
    · subst hv
      have hl : xs.length = 3 := hl
      refine el_isL (el_trueL ev_c (sq_of hp) (by omega) (fun x => rfl) fun i x H3 e3 hi => ?_) (by rw [hl])
      have ho := mo_ob _ _ _ e3 (hx x (List.mem_of_getElem? hi))
      have tb : ∀ {σ : L2.St} {H4 : Hp}, EvP (tLst (tCons (tLst (tCons (tC (.int 2)) tNil)) tNil)) σ H4 (fun _ v H2 => IsTb H2 v [[2]] 1 1) := (tb_new (n := 1) (m := 1) (evp_dispT (T := [[2]]) (er_cons (el_ints (u := [2]) (ei_cons ev_c ei_nil) (by decide)) er_nil) (by decide)) (good_of (by decide)))
      refine ev_is (ev_says (b := false) (c := false) ?_ ev_c) rfl
      rcases ho with ⟨o, dx, q, rfl, h1, h2⟩ | ⟨o, dx, q, rfl, h1, h2⟩ | ⟨o, dx, q, rfl, h1, h2⟩
      · exact ev_left (ev_methVA (ev_var rfl) h1 rfl tb fun H4 u H5 e4 e5 ⟨hG, d, rs, hu, hT⟩ Q q' => by
          subst hu
          exact ⟨o, d, q, [], [], rs, [], [[2]], 1, 1, rfl, ⟨by decide, (fun pt hpt => (nomatch hpt)), PartsAt.nil ((e4.trans e5) _ _ h2), dx, (e4.trans e5) _ _ h1⟩, hT, hG.toRect, by decide, by decide, by decide, by decide, q'⟩)
      · exact ev_right (ev_left (ev_methVA (ev_var rfl) h1 rfl tb fun H4 u H5 e4 e5 ⟨hG, d, rs, hu, hT⟩ Q q' => by
          subst hu
          exact ⟨o, d, q, dx, rs, [[2]], 1, 1, [0], rfl, (e4.trans e5) _ _ h1, (e4.trans e5) _ _ h2, by decide, hT, hG.toRect, by decide, by decide, by decide, q'⟩))
      · exact ev_right (ev_right (ev_methVA (ev_var rfl) h1 rfl tb fun H4 u H5 e4 e5 ⟨hG, d, rs, hu, hT⟩ Q q' => by
          subst hu
          exact ⟨o, d, q, dx, rs, [[2]], 1, 1, [1], rfl, (e4.trans e5) _ _ h1, (e4.trans e5) _ _ h2, by decide, hT, hG.toRect, by decide, by decide, by decide, q'⟩))
end Lh

namespace Lh
open PySem PySem.Spec PyProof.Rows L2 Evl
open LamX (CodeO TabB Tabs ExtN)
theorem ok__law_bad_right {P : Program} {w : World} {K : PySem.W.Frag} {mg : Str → Option Value} {base : Heap} {CA CP CE CS CL CT CB CH c PT : Addr} (M : Mg mg) (ca : CsAll K mg CA CP CE CS CL) (cx : CsX K mg CT CB CH) (hc : CodeIs K mg "_law_bad_right" c) (B : TabB base mg c PT) (D : Def K mg "_law_bad_right" s__law_bad_right ["_law_whole"]) (C_each : Cal P w K mg base 23 "each" ["table"] (sp_each K CE CS))
    (X_fullest : CalN P w K mg base 3 "fullest" ["table"] (sp_bad1 K CT)) (X_plan : CalN P w K mg base 3 "plan" ["table"] (sp_bad1 K CT)) (X_each : CalN P w K mg base 3 "each" ["table"] (sp_bad1 K CT)) (X_lasting : CalN P w K mg base 3 "lasting" ["table"] (sp_bad1 K CT)) (X_raised : CalN P w K mg base 3 "raised" ["table", "hours"] (sp_bad2 K CT))
    (X_few : CalN P w K mg base 23 "lasting" ["table"] (sp_lasting_few K CT)) (X_hrs : CalN P w K mg base 3 "raised" ["table", "hours"] (sp_raised_hrs K CB)) (C__law_refused : CalRG P w K mg base CT CB 23) : Cal P w K mg base 26 "_law_bad_right" ["_law_whole"] (sp__law_bad_right K PT) := by
  refine D.calC hc sc__law_bad_right (fun vs H Q E h => ?_) (fun f A outer s H vs Q E hr h => ?_)
  · obtain ⟨wh, rfl, _⟩ := h
    rfl
  · obtain ⟨wh, rfl, hw0, hP0, kq⟩ := h
    refine ⟨_, (pss_cons (ps_for PassesOwn.never rfl (pi_list (pe_lst (pa_cons pe_bl (pa_cons pe_non (pa_cons pe_str (pa_cons (pe_un un_neg pe_int) pa_nil)))))) (pg_name (i := 1) sc__law_bad_right.nd rfl (Or.inl rfl))
  (pss_cons (ps_set (i := 2) sc__law_bad_right.nd rfl (Or.inr rfl) (pe_lc (own := [("_law_teacher", 6)]) (wi := (iRng1 (tCons _ tNil))) (g := gName 6) (tt := tYes) (te := (tOp _ (tLst (tCons _ tNil)) _)) (by rfl) sc__law_bad_right.nd  (pi_range1 (by rfl) M.range (pa_cons pe_int pa_nil)) (blkOk_by (by kernel_rfl)) (fun _ _ _ _ _ => (pg_name (i := 6) sc__law_bad_right.nd rfl (Or.inl rfl))) (fun _ _ _ _ _ => pts_nil) (fun _ _ _ _ _ => (pe_op op_rep (pe_lst (pa_cons pe_int pa_nil)) pe_int))))
  (pss_cons (ps_asg (pv 1) (pg_sub (pe_ix ix_list (pv 2) (pe_op op_mod (pv 0) pe_int) (fun _ _ => rfl)) (pe_op op_mod (pe_op op_fdiv (pv 0) pe_int) pe_int) set_list))
  (pss_cons (ps_set (i := 3) sc__law_bad_right.nd rfl (Or.inl rfl) (pe_lst (pa_cons (pe_lamB B rfl rfl rfl (nof_by (by kernel_rfl))) (pa_cons (pe_lamB B rfl rfl rfl (nof_by (by kernel_rfl))) (pa_cons (pe_lamB B rfl rfl rfl (nof_by (by kernel_rfl))) pa_nil)))))
  (pss_cons (ps_set (i := 3) sc__law_bad_right.nd rfl (Or.inl rfl) (pe_op op_cat (pv 3) (pe_lst (pa_cons (pe_lamB B rfl rfl rfl (nof_by (by kernel_rfl))) pa_nil))))
  (pss_one (ps_if (pt_not (pt_val (pe_callB (cr_all rfl) (by rfl) M.all (by decide +kernel) (pa_cons (pe_lc (own := [("_law_ask", 7)]) (wi := (iList K (tOp _ (tVar 3) (tLst (tCons (tLamV [(PT, qL)] qL _ _ _ []) tNil))))) (g := gName 7) (tt := tYes) (te := (tCalV (spR0 P w K mg base 23 CT CB) (tCons (tVar 7) (tCons (tVar 2) (tCons _ tNil))))) (by rfl) sc__law_bad_right.nd  (pi_list (pe_op op_cat (pv 3) (pe_lst (pa_cons (pe_lamB B rfl rfl rfl (nof_by (by kernel_rfl))) pa_nil)))) (blkOk_by (by kernel_rfl)) (fun _ _ _ _ _ => (pg_name (i := 7) sc__law_bad_right.nd rfl (Or.inl rfl))) (fun _ _ _ _ _ => pts_nil) (fun _ _ _ _ _ => (C__law_refused.pe rfl rfl rfl rfl rfl (spR0_imp rfl rfl rfl rfl rfl) hr (by decide) (by rfl) (pa_cons (pv 7) (pa_cons (pv 2) (pa_cons pe_int pa_nil))) rfl rfl))) pa_nil))))
  (pss_one (ps_ret pe_bl))
  pss_nil)))))))
  (pss_cons (ps_setLc (i := 4) (own := [("_law_teacher", 6)]) (wi := (iRng1 (tCons _ tNil))) (g := gName 6) (tt := tYes) (te := (tOp _ (tLst (tCons _ tNil)) _)) (by rfl) sc__law_bad_right.nd rfl rfl (sw_true rfl rfl rfl (by decide +kernel)) (pi_range1 (by rfl) M.range (pa_cons pe_int pa_nil)) (blkOk_by (by kernel_rfl)) (fun _ _ _ _ _ => (pg_name (i := 6) sc__law_bad_right.nd rfl (Or.inl rfl))) (fun _ _ _ _ _ => pts_nil) (fun _ _ _ _ _ => (pe_op op_rep (pe_lst (pa_cons pe_int pa_nil)) pe_int)))
  (pss_cons (ps_for PassesOwn.never rfl (pi_list (pe_lst (pa_cons (pe_op op_rep (pe_lst (pa_cons pe_int pa_nil)) pe_int) (pa_cons (pe_op op_rep (pe_lst (pa_cons pe_int pa_nil)) pe_int) (pa_cons (pe_op op_repT (pe_tup (pa_cons pe_int pa_nil)) pe_int) (pa_cons pe_non (pa_cons (pe_lst pa_nil) pa_nil))))))) (pg_name (i := 5) sc__law_bad_right.nd rfl (Or.inl rfl))
  (pss_one (ps_if (pt_not (pt_val (C__law_refused.pe rfl rfl rfl rfl rfl (spR0_imp rfl rfl rfl rfl rfl) hr (by decide) (by rfl) (pa_cons (pe_lamB B rfl rfl rfl (nof_by (by kernel_rfl))) (pa_cons (pe_op op_cat (pe_op op_cat (pe_slice sl_list (pv 4) po_none (po_some (pe_op op_mod (pv 0) pe_int))) (pe_lst (pa_cons (pv 5) pa_nil))) (pe_slice sl_list (pv 4) (po_some (pe_op op_mod (pv 0) pe_int)) po_none)) (pa_cons pe_int pa_nil))) rfl rfl)))
  (pss_one (ps_ret pe_bl))
  pss_nil)))
  (pss_cons (ps_for PassesOwn.never rfl (pi_list (pe_lst (pa_cons (pe_lst pa_nil) (pa_cons (pe_op op_rep (pe_lst (pa_cons (pe_op op_rep (pe_lst (pa_cons pe_int pa_nil)) pe_int) pa_nil)) pe_int) (pa_cons (pe_lst (pa_cons (pe_op op_rep (pe_lst (pa_cons pe_int pa_nil)) pe_int) pa_nil)) (pa_cons pe_non (pa_cons (pe_tup (pa_cons (pe_tup (pa_cons pe_int pa_nil)) pa_nil)) pa_nil))))))) (pg_name (i := 2) sc__law_bad_right.nd rfl (Or.inr rfl))
  (pss_one (ps_if (pt_not (pt_val (C__law_refused.pe rfl rfl rfl rfl rfl (spR0_imp rfl rfl rfl rfl rfl) hr (by decide) (by rfl) (pa_cons (pe_lamB B rfl rfl rfl (nof_by (by kernel_rfl))) (pa_cons (pv 2) (pa_cons pe_int pa_nil))) rfl rfl)))
  (pss_one (ps_ret pe_bl))
  pss_nil)))
  (pss_cons (ps_if (PW.pt (pw_or (pt_not (pt_val (C__law_refused.pe rfl rfl rfl rfl rfl (spR0_imp rfl rfl rfl rfl rfl) hr (by decide) (by rfl) (pa_cons (pe_lamB B rfl rfl rfl (nof_by (by kernel_rfl))) (pa_cons (pe_lst (pa_cons (pe_lst (pa_cons pe_int pa_nil)) (pa_cons (pe_lst (pa_cons pe_int pa_nil)) pa_nil))) (pa_cons pe_int pa_nil))) rfl rfl))) (pw_or1 (pt_not (pt_val (pe_callB call_isi (by rfl) M.isinstance (by decide +kernel) (pa_cons (pe_cal C_each hr (by rfl) (pa_cons (pe_lst (pa_cons (pe_lst (pa_cons pe_int pa_nil)) (pa_cons (pe_lst (pa_cons pe_int pa_nil)) pa_nil))) pa_nil)) (pa_cons (pe_glob (v := .ref CS) (by rfl) ca.cs.S.mgC rfl) pa_nil))))))))
  (pss_one (ps_ret pe_bl))
  pss_nil)
  (pss_one (ps_ret (pe_callB (cr_all rfl) (by rfl) M.all (by decide +kernel) (pa_cons (pe_lc (own := [("_law_bad", 1)]) (wi := (iList K (tLst (tCons _ (tCons _ (tCons _ (tCons (tUn _ _) (tCons _ tNil)))))))) (g := gName 1) (tt := tYes) (te := (tCalV (spR0 P w K mg base 23 CT CB) (tCons (tLamV [(PT, qL)] qL _ _ _ []) (tCons (tVar 1) (tCons _ tNil))))) (by rfl) sc__law_bad_right.nd  (pi_list (pe_lst (pa_cons pe_int (pa_cons pe_bl (pa_cons pe_non (pa_cons (pe_un un_neg pe_int) (pa_cons pe_str pa_nil))))))) (blkOk_by (by kernel_rfl)) (fun _ _ _ _ _ => (pg_name (i := 1) sc__law_bad_right.nd rfl (Or.inl rfl))) (fun _ _ _ _ _ => pts_nil) (fun _ _ _ _ _ => (C__law_refused.pe rfl rfl rfl rfl rfl (spR0_imp rfl rfl rfl rfl rfl) hr (by decide) (by rfl) (pa_cons (pe_lamB B rfl rfl rfl (nof_by (by kernel_rfl))) (pa_cons (pv 1) (pa_cons pe_int pa_nil))) rfl rfl))) pa_nil))))))))), ?_⟩
    have t0 : Tabs [(PT, qL)] H := tabs0 hP0
    refine q_forNLn (xs := [.bl true, .non, .str "1", .int (-1)]) (el_lst (ea_cons ev_c (ea_cons ev_c (ea_cons ev_c (ea_cons (ev_un ev_c ru_neg) ea_nil)))) (by show 4 ≤ 100000; decide)) (fun p i σ' H' => (∃ y1 y2 y3, σ' = [some (.int wh), y1, y2, y3, none, none, none, none]) ∧ H' p = some (.lst [.bl true, .non, .str "1", .int (-1)]) ∧ Tabs [(PT, qL)] H') (fun p H1 np e1 h1 => ⟨⟨_, _, _, rfl⟩, h1, t0.ext e1⟩) (fun p i σ' H' _ z => sq_of z.2.1) (fun p i x σ' H1 hx z => ?_) (fun p σ' H1 z => ?_)
    · obtain ⟨⟨y1, y2, y3, rfl⟩, hp1, t1⟩ := z
      have hbad : ∀ H', NumBad K H' x := fun H' => by
        have := List.mem_of_getElem? hx
        simp at this
        rcases this with rfl | rfl | rfl | rfl
        · exact nb_bl
        · exact nb_non
        · exact nb_str
        · exact .inl ⟨-1, by decide, rfl⟩
      refine qp_asg (P := NewT (List.replicate 20 (List.replicate 20 3))) (evp_tabR (a := 20) (b := 20) (z := 3) ev_c (by decide) (by decide) (fun x => rfl) (fun i H1 e1 => ev_c) (fun i H1 e1 => ev_c)) fun v H2 e2 ⟨pt, rs, hv, npt, nd, fr, hT⟩ => ?_
      subst hv
      have hl : rs.length = 20 := hT.len
      have hi0 : (wh % 20).toNat < 20 := by omega
      have hj0 : (wh / 20 % 20).toNat < 20 := by omega
      obtain ⟨r, hr0⟩ : ∃ r, rs[(wh % 20).toNat]? = some r := ⟨rs[(wh % 20).toNat]'(by omega), by simp⟩
      have rows : ∀ (k : Nat) s, rs[k]? = some s → H2 s = some (.lst (threes 20)) := fun k s hk => by
        have hk20 : k < 20 := by
          rw [← hl]
          exact (List.getElem?_eq_some_iff.mp hk).1
        exact hT.row k s _ hk (by rw [List.getElem?_replicate, if_pos hk20])
      have hrow := rows _ r hr0
      have hmem := List.mem_of_getElem? hr0
      refine q_setL (j := (wh / 20 % 20).toNat) (v := x) hrow (ev_var rfl) (ev_row (i := (wh % 20).toNat) (ev_var rfl) (ev_is (ev_mod (ev_var rfl) ev_c (by decide)) (by congr 1; omega)) hT hr0) (ev_is (ev_mod (ev_div (ev_var rfl) ev_c (by decide) (by decide)) ev_c (by decide)) (by congr 1; omega)) (by rw [three_len]; exact hj0) fun H3 e3 => ?_
      have hpr : p ≠ r := ne_of_none hp1 (fr r hmem)
      have hptr : pt ≠ r := hT.ne hmem
      have hp4 : upd H3 r (.lst ((threes 20).set (wh / 20 % 20).toNat x)) p = some (.lst [.bl true, .non, .str "1", .int (-1)]) := by
        rw [upd_ne hpr]
        exact e3 _ _ (e2 _ _ hp1)
      have t4 : Tabs [(PT, qL)] (upd H3 r (.lst ((threes 20).set (wh / 20 % 20).toNat x))) := Tabs.upd ((t1.ext e2).ext e3) (e3 _ _ hrow)
      have top4 : upd H3 r (.lst ((threes 20).set (wh / 20 % 20).toNat x)) pt = some (.lst (rs.map V.ref)) := by
        rw [upd_ne hptr]
        exact e3 _ _ hT.top
      have row4 : ∀ (k : Nat) s, rs[k]? = some s → k ≠ (wh % 20).toNat → upd H3 r (.lst ((threes 20).set (wh / 20 % 20).toNat x)) s = some (.lst (threes 20)) := fun k s hk hne => by
        have hsr : s ≠ r := fun z => by
          rw [z] at hk
          exact hne (nd_ix nd hk hr0)
        rw [upd_ne hsr]
        exact e3 _ _ (rows k s hk)
      have r4 : upd H3 r (.lst ((threes 20).set (wh / 20 % 20).toNat x)) r = some (.lst ((threes 20).set (wh / 20 % 20).toNat x)) := upd_same
      generalize upd H3 r (.lst ((threes 20).set (wh / 20 % 20).toNat x)) = H4 at hp4 t4 top4 row4 r4
      have hB : ∀ H', ExtN H4 H' → BadTab K H' (.ref pt) := fun H' e => bad_cell (e _ _ top4 (fun _ z => nomatch z)) hl (fun k s hk hne => e _ _ (row4 k s hk hne) (fun _ z => nomatch z)) hr0 (e _ _ r4 (fun _ z => nomatch z)) hj0 (hbad H')
      refine q_asgN (R := LN (BadAsk P w K mg base 23 CT) 3) (en_disp mo_ask (ena_cons mo_ask (en_lam (fun f c' H1 hf hc => ⟨f, _, rfl, ask0_of (p := "_law_one") (te := fun E => tCall (sp_bad1 K CT) [] E (tCons (tVar 0) tNil)) hf hc (lamP_by (by kernel_rfl)) (nof_by (by kernel_rfl)) (fun _ _ _ _ => rfl) (fun A outer s H E hr => L2N.passes_call (L2N.takes_of rfl rfl rfl rfl) (fun _ _ _ _ h => h) |> fun px => pe_calN X_fullest hr (by rfl) px (pa_cons (pv 0) pa_nil)), fun E u H2 Qx hB out => ⟨u, rfl, u, rfl, hB, out⟩⟩)) (ena_cons mo_ask (en_lam (fun f c' H1 hf hc => ⟨f, _, rfl, ask0_of (p := "_law_two") (te := fun E => tCall (sp_bad1 K CT) [] E (tCons (tVar 0) tNil)) hf hc (lamP_by (by kernel_rfl)) (nof_by (by kernel_rfl)) (fun _ _ _ _ => rfl) (fun A outer s H E hr => L2N.passes_call (L2N.takes_of rfl rfl rfl rfl) (fun _ _ _ _ h => h) |> fun px => pe_calN X_plan hr (by rfl) px (pa_cons (pv 0) pa_nil)), fun E u H2 Qx hB out => ⟨u, rfl, u, rfl, hB, out⟩⟩)) (ena_cons mo_ask (en_lam (fun f c' H1 hf hc => ⟨f, _, rfl, ask0_of (p := "_law_three") (te := fun E => tCall (sp_bad1 K CT) [] E (tCons (tVar 0) tNil)) hf hc (lamP_by (by kernel_rfl)) (nof_by (by kernel_rfl)) (fun _ _ _ _ => rfl) (fun A outer s H E hr => L2N.passes_call (L2N.takes_of rfl rfl rfl rfl) (fun _ _ _ _ h => h) |> fun px => pe_calN X_each hr (by rfl) px (pa_cons (pv 0) pa_nil)), fun E u H2 Qx hB out => ⟨u, rfl, u, rfl, hB, out⟩⟩)) ena_nil))) (by decide)) t4 fun v H5 e5 t5 ⟨pa, as3, hv, hpa, hl3, has3⟩ => ?_
      subst hv
      refine q_asgN (R := LN (BadAsk P w K mg base 23 CT) (as3.length + 1)) (en_cat mo_ask (fun H0 => ev_var rfl) hpa (by omega) has3 (en_disp mo_ask (ena_cons mo_ask (en_lam (fun f c' H1 hf hc => ⟨f, _, rfl, ask0_of (p := "_law_four") (te := fun E => tCall (sp_bad1 K CT) [] E (tCons (tVar 0) tNil)) hf hc (lamP_by (by kernel_rfl)) (nof_by (by kernel_rfl)) (fun _ _ _ _ => rfl) (fun A outer s H E hr => L2N.passes_call (L2N.takes_of rfl rfl rfl rfl) (fun _ _ _ _ h => h) |> fun px => pe_calN X_lasting hr (by rfl) px (pa_cons (pv 0) pa_nil)), fun E u H2 Qx hB out => ⟨u, rfl, u, rfl, hB, out⟩⟩)) ena_nil) (by decide)) (by decide)) t5 fun v H6 e6 t6 ⟨pb, as4, hv, hpb, hl4, has4⟩ => ?_
      subst hv
      refine s_unlessN (en_allTrue (k := as4.length + 1) (en_src (R := LN (BadAsk P w K mg base 23 CT) (as4.length + 1)) (en_cat mo_ask (fun H0 => ev_var rfl) hpb (by omega) has4 (en_disp mo_ask (ena_cons mo_ask (en_lam (fun f c' H1 hf hc => ⟨f, _, rfl, ask0_of (p := "_law_five") (te := fun E => tCall (sp_bad2 K CT) [] E (tCons (tVar 0) (tCons (tC .non) tNil))) hf hc (lamP_by (by kernel_rfl)) (nof_by (by kernel_rfl)) (fun _ _ _ _ => rfl) (fun A outer s H E hr => L2N.passes_call (L2N.takes_of rfl rfl rfl rfl) (fun _ _ _ _ h => h) |> fun px => pe_calN X_raised hr (by rfl) px (pa_cons (pv 0) (pa_cons pe_non pa_nil))), fun E u H2 Qx hB out => ⟨u, rfl, u, .non, rfl, hB, out⟩⟩)) ena_nil) (by decide)) (by decide)) fun v H7 e7 ⟨pc, as5, hv, hpc, hl5, has5⟩ => ?_)) t6 fun H7 e7 t7 => ⟨⟨_, _, _, rfl⟩, ((e5.trans e6).trans e7) _ _ hp4 (fun _ z => nomatch z), t7⟩
      subst hv
      refine el_isL (el_trueL ev_c (sq_of hpc) (by omega) (fun x => rfl) fun i y H8 e8 hi => ?_) (by rw [hl5])
      exact ev_refV (ev_var rfl) (mo_ask _ _ _ (extN_of e8) (has5 y (List.mem_of_getElem? hi))) (ev_var rfl) (hB _ (((e5.trans e6).trans e7).trans (extN_of e8)))
    obtain ⟨⟨y1, y2, y3, rfl⟩, _, t1⟩ := z
    refine qp_asg (P := NewT (List.replicate 19 (List.replicate 20 3))) (evp_tabR (a := 19) (b := 20) (z := 3) ev_c (by decide) (by decide) (fun x => rfl) (fun i H1 e1 => ev_c) (fun i H1 e1 => ev_c)) fun v H2 e2 ⟨pf, fs, hv, npf, ndf, frf, hTf⟩ => ?_
    subst hv
    have hlf : fs.length = 19 := hTf.len
    have rowf : ∀ s ∈ fs, H2 s = some (.lst (threes 20)) := fun s hs => by
      obtain ⟨k, hk⟩ := List.getElem?_of_mem hs
      have hk20 : k < 19 := by
        rw [← hlf]
        exact (List.getElem?_eq_some_iff.mp hk).1
      exact hTf.row k s _ hk (by rw [List.getElem?_replicate, if_pos hk20])
    have topf := hTf.top
    have t2 := t1.ext e2
    have three : ∀ {σ : L2.St} {H1 : Hp} (k : Int), 0 ≤ k → k ≤ 1000 → EvL (tOp rRep (tLst (tCons (tC (.int 3)) tNil)) (tC (.int k))) σ H1 (threes k.toNat) := fun k h0 h1 => el_repI ev_c ev_c h0 h1
    -- rows that are none
    refine q_forP (P := fun _ v H2 => ∃ p vs, v = .ref p ∧ H2 p = some (.lst vs) ∧ vs.length = 5 ∧ ∀ u ∈ vs, I2 H2 u) (all_disp (I := I2) (mo_ex mo_i2) (all_cons (mo_ex mo_i2) ((evp_l (three 19 (by decide) (by decide))).imp fun _ v H2 _ _ ⟨p, hv, _, h2⟩ => .inl ⟨19, p, .inl rfl, hv, h2⟩) (all_cons (mo_ex mo_i2) ((evp_l (three 21 (by decide) (by decide))).imp fun _ v H2 _ _ ⟨p, hv, _, h2⟩ => .inl ⟨21, p, .inr (.inl rfl), hv, h2⟩) (all_cons (mo_ex mo_i2) ((evp_u (eu_repT (xs := [.int 3]) (k := 20) (eu_tup (ea_cons ev_c ea_nil) (by show 1 ≤ 100000; decide)) ev_c (by simp) (by decide) (by decide) (by show 1 ≤ 1000; decide))).imp fun _ v H2 _ _ ⟨p, hv, _, h2⟩ => .inr (.inl ⟨p, _, hv, h2⟩)) (all_cons (mo_ex mo_i2) ((evp_of (v := .non) ev_c).imp fun _ v H2 _ _ hv => .inr (.inr hv)) (all_cons (mo_ex mo_i2) ((evp_l (el_lst (vs := []) ea_nil (by decide))).imp fun _ v H2 _ _ ⟨p, hv, _, h2⟩ => .inl ⟨0, p, .inr (.inr rfl), hv, h2⟩) all_nil))))) (by decide)) fun v H3 e3 ⟨pr, xr, hv, hpr, hlr, hxr⟩ => ⟨pr, xr, hv, sq_of hpr, fun i σ' H' => (∃ y5, σ' = [some (.int wh), y1, y2, y3, some (.ref pf), y5, none, none]) ∧ ExtN H3 H' ∧ Tabs [(PT, qL)] H', ⟨⟨_, rfl⟩, ExtN.refl _, t2.ext e3⟩, fun i σ' H' _ z => sq_of (z.2.1 _ _ hpr (fun _ z => nomatch z)), fun i x σ' H4 hx z => ?_, fun σ' H4 z => ?_⟩
    · obtain ⟨⟨y5, rfl⟩, e4, t4⟩ := z
      have hk : (wh % 19).toNat < 19 := by omega
      have ek : wh % 19 = (((wh % 19).toNat : Nat) : Int) := by omega
      have hlF : (fs.map V.ref).length = 19 := by rw [List.length_map, hlf]
      refine s_unlessN (en_ref (R := fun v H2 => BadTab K H2 v) (en_evp (P := fun _ v H2 => BadTab K H2 v) (fun H0 e0 => (evp_l (xs := ((fs.map V.ref).take (wh % 19).toNat ++ [x]) ++ (fs.map V.ref).drop (wh % 19).toNat) (el_catNN (el_catNN ?_ (el_lst (ea_cons (ev_var rfl) ea_nil) (by show 1 ≤ 100000; decide)) ?_) ?_ ?_)).imp fun H5 v H6 e5 e6 ⟨p, hv, _, h6⟩ => ?_) (fun H0 v H1 h => h)) (fun f c' v H2 hf hc hv => ⟨CT, _, ask0_of (p := "_law_one") (te := fun E => tCall (sp_bad1 K CT) [] E (tCons (tVar 0) tNil)) hf hc (lamP_by (by kernel_rfl)) (nof_by (by kernel_rfl)) (fun _ _ _ _ => rfl) (fun A outer s H E hr => L2N.passes_call (L2N.takes_of rfl rfl rfl rfl) (fun _ _ _ _ h => h) |> fun px => pe_calN X_fullest hr (by rfl) px (pa_cons (pv 0) pa_nil)), .inl ⟨rfl, rfl⟩, fun E Qx out => ⟨v, rfl, v, rfl, hv, out⟩⟩)) t4 fun H5 e5 t5 => ⟨⟨_, rfl⟩, e4.trans e5, t5⟩
      · rw [← cut_takeV]
        exact el_sl (ev_var rfl) eo_none (eo_some (ev_is (ev_mod (ev_var rfl) ev_c (by decide)) (by rw [← ek]))) (sq_of ((e4.trans e0) _ _ (e3 _ _ topf) (fun _ z => nomatch z)))
      · rw [List.length_take, hlF]
        show min _ 19 + 1 ≤ 100000
        omega
      · rw [← cut_drop]
        exact el_sl (ev_var rfl) (eo_some (ev_is (ev_mod (ev_var rfl) ev_c (by decide)) (by rw [← ek]))) eo_none (sq_of ((e4.trans e0) _ _ (e3 _ _ topf) (fun _ z => nomatch z)))
      · rw [List.length_append, List.length_take, List.length_drop, hlF]
        show min _ 19 + 1 + _ ≤ 100000
        omega
      · rw [hv]
        have e36 := ((e4.trans e0).trans (extN_of e5)).trans (extN_of e6)
        exact bad_slot hk h6 hlf (fun s hs => e36 _ _ (e3 _ _ (rowf s hs)) (fun _ z => nomatch z)) (mo_i2 _ _ _ e36 (hxr x (List.mem_of_getElem? hx)))
    obtain ⟨⟨y5, rfl⟩, _, t4⟩ := z
    -- no tables
    refine q_forP (P := fun _ v H2 => ∃ p vs, v = .ref p ∧ H2 p = some (.lst vs) ∧ vs.length = 5 ∧ ∀ u ∈ vs, I3 H2 u) (all_disp (I := I3) (mo_ex mo_i3) (all_cons (mo_ex mo_i3) ((evp_l (el_lst (vs := []) ea_nil (by decide))).imp fun _ v H2 _ _ ⟨p, hv, _, h2⟩ => .inl ⟨p, _, hv, h2, .inl rfl⟩) (all_cons (mo_ex mo_i3) ((evp_repT (u := List.replicate 20 3) (k := 21) (three 20 (by decide) (by decide)) ev_c (by decide) (by decide)).imp fun _ v H2 _ _ ⟨p, r, hv, _, _, _, h2, _⟩ => .inl ⟨p, _, hv, h2, .inr (by rw [List.length_replicate]; decide)⟩) (all_cons (mo_ex mo_i3) ((evp_dispT (T := [List.replicate 21 3]) (er_cons (three 21 (by decide) (by decide)) er_nil) (by decide)).imp fun _ v H2 _ _ ⟨p, rs, hv, _, _, _, hTn⟩ => ?_) (all_cons (mo_ex mo_i3) ((evp_of (v := .non) ev_c).imp fun _ v H2 _ _ hv => .inr (.inr (.inr hv))) (all_cons (mo_ex mo_i3) (fun H1 e1 Q q => ⟨sz_of (by show 1 ≤ 100000; decide), fun p1 np1 => ⟨sz_of (by show 1 ≤ 100000; decide), fun p2 np2 => q _ _ ((Ex.new np1).trans (Ex.new np2)) (.inr (.inr (.inl ⟨p2, _, rfl, upd_same⟩)))⟩⟩) all_nil))))) (by decide)) fun v H5 e5 ⟨pr, xr, hv, hpr, hlr, hxr⟩ => ⟨pr, xr, hv, sq_of hpr, fun i σ' H' => (∃ y2, σ' = [some (.int wh), y1, y2, y3, some (.ref pf), y5, none, none]) ∧ ExtN H5 H' ∧ Tabs [(PT, qL)] H', ⟨⟨_, rfl⟩, ExtN.refl _, t4.ext e5⟩, fun i σ' H' _ z => sq_of (z.2.1 _ _ hpr (fun _ z => nomatch z)), fun i x σ' H6 hx z => ?_, fun σ' H6 z => ?_⟩
    · have hl := hTn.len
      match rs, hl with
      | [r], _ =>
        exact .inr (.inl ⟨p, r, hv, hTn.top, hTn.row 0 r _ rfl rfl⟩)
    · obtain ⟨⟨y2, rfl⟩, e6, t6⟩ := z
      exact s_unlessN (en_ref (R := fun v H2 => BadTab K H2 v) (en_evp (P := fun _ v H2 => BadTab K H2 v) (fun H0 e0 => (evp_of (v := x) (ev_var rfl)).imp fun H7 v H8 e7 e8 hv => by
        have : v = x := hv
        rw [this]
        exact (mo_i3 _ _ _ (((e6.trans e0).trans (extN_of e7)).trans (extN_of e8)) (hxr x (List.mem_of_getElem? hx))).bad) (fun H0 v H1 h => h)) (fun f c' v H2 hf hc hv => ⟨CT, _, ask0_of (p := "_law_one") (te := fun E => tCall (sp_bad1 K CT) [] E (tCons (tVar 0) tNil)) hf hc (lamP_by (by kernel_rfl)) (nof_by (by kernel_rfl)) (fun _ _ _ _ => rfl) (fun A outer s H E hr => L2N.passes_call (L2N.takes_of rfl rfl rfl rfl) (fun _ _ _ _ h => h) |> fun px => pe_calN X_plan hr (by rfl) px (pa_cons (pv 0) pa_nil)), .inl ⟨rfl, rfl⟩, fun E Qx out => ⟨v, rfl, v, rfl, hv, out⟩⟩)) t6 fun H7 e7 t7 => ⟨⟨_, rfl⟩, e6.trans e7, t7⟩
    obtain ⟨⟨y2, rfl⟩, _, t6⟩ := z
    have one : ∀ {σ : L2.St} {H1 : Hp}, EvP (tLst (tCons (tLst (tCons (tC (.int 1)) tNil)) (tCons (tLst (tCons (tC (.int 1)) tNil)) tNil))) σ H1 (NewT [[1], [1]]) := evp_dispT (T := [[1], [1]]) (er_cons (el_ints (u := [1]) (ei_cons ev_c ei_nil) (by decide)) (er_cons (el_ints (u := [1]) (ei_cons ev_c ei_nil) (by decide)) er_nil)) (by decide)
    refine q_unlessOr (en_ref (R := fun v H2 => ∃ a rs, v = .ref a ∧ Tab H2 a rs [[1], [1]]) (en_evp (P := NewT [[1], [1]]) (fun H0 e0 => one) fun H0 v H1 ⟨p, rs, hv, _, _, _, hT⟩ => ⟨p, rs, hv, hT⟩) (fun f c' v H2 hf hc hv => ⟨CT, _, ask0_of (p := "_law_one") (te := fun E => tCall (sp_lasting_few K CT) [] E (tCons (tVar 0) tNil)) hf hc (lamP_by (by kernel_rfl)) (nof_by (by kernel_rfl)) (fun _ _ _ _ => rfl) (fun A outer s H E hr => L2N.passes_call (L2N.takes_of rfl rfl rfl rfl) (fun _ _ _ _ h => h) |> fun px => pe_calN X_few hr (by rfl) px (pa_cons (pv 0) pa_nil)), .inl ⟨rfl, rfl⟩, fun E Qx out => by
        obtain ⟨a, rs, rfl, hT⟩ := hv
        exact ⟨.ref a, rfl, a, rs, [[1], [1]], 2, 1, rfl, hT, good_of (by decide), by decide, out⟩⟩)) t6 (fun H7 e7 => et_not (et_B (ev_isiP (k := true) (evp_eachN (n := 2) (m := 1) one (good_of (by decide))) fun H1 v H2 h => ?_))) fun H7 e7 t7 => ?_
    · obtain ⟨x, q, dx, ns, rfl, hx, _⟩ := found_short h no_11'
      exact ⟨_, ty_own hx ca.cs.S ca.cs.k0, ca.cs.SS⟩
    refine s_retN (R := fun v _ => v = .bl true) (en_allTrue (k := 5) (en_lc (xs := [.int 2, .bl true, .non, .int (-1), .str "3"]) (fun H0 e0 => el_lst (ea_cons ev_c (ea_cons ev_c (ea_cons ev_c (ea_cons (ev_un ev_c ru_neg) (ea_cons ev_c ea_nil))))) (by show 5 ≤ 100000; decide)) (by decide) (fun x => rfl) fun i x H8 e8 hx => en_ref (R := fun v _ => v = x) (en_ev fun H0 e0 => ev_var rfl) (fun f c' v H2 hf hc hv => ⟨CB, _, ask0_of (p := "_law_hours") (te := fun E => tCall (sp_raised_hrs K CB) [] E (tCons (tLst (tCons (tLst (tCons (tC (.int 2)) (tCons (tC (.int 1)) tNil))) tNil)) (tCons (tVar 0) tNil))) hf hc (lamP_by (by kernel_rfl)) (nof_by (by kernel_rfl)) (fun _ _ _ _ => rfl) (fun A outer s H E hr => L2N.passes_call (L2N.takes_of rfl rfl rfl rfl) (fun _ _ _ _ h => h) |> fun px => pe_calN X_hrs hr (by rfl) px (pa_cons (pe_lst (pa_cons (pe_lst (pa_cons pe_int (pa_cons pe_int pa_nil))) pa_nil)) (pa_cons (pv 0) pa_nil))), .inr ⟨rfl, rfl⟩, fun E Qx out => ?_⟩))) t7 fun v H8 hv => ?_
    · have hv : v = x := hv
      subst hv
      have hb : BadHrs K H2 3 v := by
        have := List.mem_of_getElem? hx
        simp at this
        rcases this with rfl | rfl | rfl | rfl | rfl
        · exact .inl ⟨2, by decide, rfl⟩
        · exact bh_of nb_bl (by decide)
        · exact bh_of nb_non (by decide)
        · exact .inl ⟨-1, by decide, rfl⟩
        · exact bh_of nb_str (by decide)
      have tab : EvP (tLst (tCons (tLst (tCons (tC (.int 2)) (tCons (tC (.int 1)) tNil))) tNil)) [some v] H2 (NewT [[2, 1]]) := evp_dispT (T := [[2, 1]]) (er_cons (el_ints (u := [2, 1]) (ei_cons ev_c (ei_cons ev_c ei_nil)) (by decide)) er_nil) (by decide)
      refine e_call (cP (P := NewT [[2, 1]]) tab fun u H3 e3 ⟨p, rs, hu, _, _, _, hT⟩ => ?_)
      subst hu
      have e : fullM [[2, 1]] 2 = 3 := by decide +kernel
      exact ⟨v, rfl, p, rs, [[2, 1]], 1, 2, v, rfl, hT, good_of (by decide), by rw [e]; exact mo_bh _ _ _ e3 hb, fun H' e' => out H' (e3.trans e')⟩
    · rw [hv]
      exact kq H8
end Lh

namespace Lh
open PySem PySem.Spec PyProof.Rows L2 Evl
theorem cut_ints (ns : List Int) (lo hi : Option Int) : ∃ ms : List Int, cutV (ns.map V.int) lo hi = ms.map V.int := by
  unfold cutV
  rw [← List.map_drop, ← List.map_take]
  exact ⟨_, rfl⟩
theorem ev_abs {σ : L2.St} {H : Hp} {ta : TE} {i : Int} (h : Ev ta σ H (.int i)) : Ev (tCB (fun xs H Q => ∃ i, xs = [V.int i] ∧ Q (.int (if i < 0 then -i else i)) H) (tCons ta tNil)) σ H (.int (if i < 0 then -i else i)) := fun H1 e Q q => h H1 e _ fun H2 e2 => ⟨i, rfl, q H2 e2⟩
theorem s_retAnd {σ : L2.St} {H : Hp} {ta tb : TE} {D : Ends} (h : Ev ta σ H (.bl true)) (k : ∀ H1, Ex H H1 → tb σ H1 D.rt) : tRet (tAndV ta tb) D σ H := h H (Ex.refl H) _ fun H1 e1 => ⟨true, rfl, by
  show tb σ H1 D.rt
  exact k H1 e1⟩
def sp_law7 (K : PySem.W.Frag) (PT : Addr) : Sp := fun vs H Q _ => ∃ (a : Addr) (ns : List Int), vs = [.ref a] ∧ SqL K H a (ns.map V.int) ∧ ns.length ≤ 63 ∧ (∀ z ∈ ns, Builtin.Int.intBits z ≤ 1048576) ∧ H PT = some (.tbl #[]) ∧ ∀ H', Q (.bl true) H'
theorem ok_law {P : Program} {w : World} {K : PySem.W.Frag} {mg : Str → Option Value} {base : Heap} {PT : Addr} (M : Mg mg) (D : Def K mg "law" s_law ["_law_script"]) (C__law_known_right : Cal P w K mg base 25 "_law_known_right" ["_law_great"] (sp__law_known_right K)) (C__law_chain_right : Cal P w K mg base 24 "_law_chain_right" ["_law_many"] (sp__law_chain_right K)) (C__law_rows_right : Cal P w K mg base 24 "_law_rows_right" ["_law_many"] (sp__law_rows_right K)) (C__law_bad_right : Cal P w K mg base 26 "_law_bad_right" ["_law_whole"] (sp__law_bad_right K PT)) :
    Cal P w K mg base 27 "law" ["_law_script"] (sp_law7 K PT) := by
  refine D.cal sc_law (fun vs H Q E h => ?_) (fun f cdv A outer s H vs Q E hr h => ?_)
  · obtain ⟨a, ns, rfl, _⟩ := h
    rfl
  · obtain ⟨a, ns, rfl, hS, hl, hb, hP0, kq⟩ := h
    refine ⟨_, (pss_cons (ps_set (i := 1) sc_law.nd rfl (Or.inl rfl) (pe_callB call_abs (by rfl) M.abs (by decide +kernel) (pa_cons (pe_callB (cr_sum rfl) (by rfl) M.sum (by decide +kernel) (pa_cons (pe_slice sl_list (pv 0) po_none (po_some pe_int)) pa_nil)) pa_nil)))
  (pss_cons (ps_if (PW.pt (pw_or (pt_not (pt_val (pe_cal C__law_known_right hr (by rfl) (pa_cons (pe_op op_add (pe_op op_pow pe_int pe_int) (pv 1)) pa_nil)))) (pw_or1 (pt_not (pt_val (pe_cal C__law_chain_right hr (by rfl) (pa_cons (pe_op op_add pe_int (pe_op op_mod (pv 1) pe_int)) pa_nil)))))))
  (pss_one (ps_ret pe_bl))
  pss_nil)
  (pss_one (ps_ret (pe_and (pe_cal C__law_rows_right hr (by rfl) (pa_cons (pe_op op_add pe_int (pe_op op_mod (pv 1) pe_int)) pa_nil)) (pe_one (pe_cal C__law_bad_right hr (by rfl) (pa_cons (pv 1) pa_nil)))))))), ?_⟩
    obtain ⟨ms, hms⟩ := cut_ints ns none (some 63)
    have hsl : EvL (tSl (rSlL K) (tVar 0) tNoPart (tPart (tC (.int 63)))) [some (.ref a), none] H (ms.map V.int) := by
      rw [← hms]
      exact el_sl (ev_var rfl) eo_none (eo_some ev_c) hS
    refine q_asg (v := .int (if ms.sum < 0 then -ms.sum else ms.sum)) (ev_abs (ev_sumL hsl)) fun H1 e1 => ?_
    generalize hw : (if ms.sum < 0 then -ms.sum else ms.sum) = wh
    have hwh : 0 ≤ wh := by
      rw [← hw]
      split <;> omega
    have g30 : (1 : Int) ≤ bigG := by decide
    have e30 : (10 : Int) ^ (30 : Int).toNat = bigG := by decide +kernel
    refine q_when (b := false) (et_is (et_or (et_not (et_B (ev_callV (v := .bl true) (ea_cons (ev_add (i := bigG) (ev_is (ev_pow (i := 10) (j := 30) ev_c ev_c ⟨by decide, by decide, by decide⟩) (by rw [e30])) (ev_var rfl)) ea_nil) fun H2 e2 Q2 q2 => ⟨bigG + wh, rfl, by omega, q2⟩))) fun _ => et_not (et_B (ev_callV (v := .bl true) (ea_cons (ev_add ev_c (ev_mod (ev_var rfl) ev_c (by decide))) ea_nil) fun H2 e2 Q2 q2 => ⟨1 + wh % 9, rfl, by omega, q2⟩))) rfl) (fun h => nomatch h) fun _ H2 e2 => ?_
    refine s_retAnd (ev_callV (v := .bl true) (ea_cons (ev_add ev_c (ev_mod (ev_var rfl) ev_c (by decide))) ea_nil) fun H3 e3 Q3 q3 => ⟨2 + wh % 9, rfl, by omega, by omega, q3⟩) fun H3 e3 => ?_
    exact e_call (cV (ev_var rfl) fun H4 e4 => cN ⟨wh, rfl, hwh, (((e1.trans e2).trans e3).trans e4) _ _ hP0, kq⟩)
end Lh

namespace Lh
open PySem PySem.Spec PyProof.Rows L2 Evl
theorem all_mk {P : Program} {w : World} {K : PySem.W.Frag} {mg : Str → Option Value} {cT PT : Addr} {CA CP CE CS CL CT CB CH : Addr} (M : Mg mg) (ca : CsAll K mg CA CP CE CS CL) (cx : CsX K mg CT CB CH) (Mstr : mg "str" = none)
    (D0 : Def K mg "is_number" s_is_number ["thing"])
    (D1 : Def K mg "asked_table" s_asked_table ["table"])
    (D2 : Def K mg "column_sums" s_column_sums ["table"])
    (D3 : Def K mg "fullest_of" s_fullest_of ["table"])
    (D4 : Def K mg "fullest" s_fullest ["table"])
    (D5 : Def K mg "raised_of" s_raised_of ["table", "hours"])
    (D6 : Def K mg "raised" s_raised ["table", "hours"])
    (D7 : Def K mg "are_unlike" s_are_unlike ["some", "most"])
    (D8 : DefM K CP "__init__" "Plan.__init__" s_Plan___init__ ["self", "parts"])
    (D9 : DefM K CP "shows" "Plan.shows" s_Plan_shows ["self", "table"])
    (D10 : DefM K CE "__init__" "Each.__init__" s_Each___init__ ["self", "classes"])
    (D11 : DefM K CE "shows" "Each.shows" s_Each_shows ["self", "table"])
    (D12 : Def K mg "too_few" s_too_few ["table", "teachers", "least"])
    (D13 : DefM K CS "__init__" "Short.__init__" s_Short___init__ ["self", "teachers"])
    (D14 : DefM K CS "shows" "Short.shows" s_Short_shows ["self", "table"])
    (D15 : DefM K CL "__init__" "Lasting.__init__" s_Lasting___init__ ["self", "hours", "classes", "teachers"])
    (D16 : DefM K CL "shows" "Lasting.shows" s_Lasting_shows ["self", "table"])
    (D17 : Def K mg "freed" s_freed ["table", "least", "who", "taken", "tried"])
    (D18 : Def K mg "chosen" s_chosen ["table", "least"])
    (D19 : Def K mg "each" s_each ["table"])
    (D20 : Def K mg "lasting" s_lasting ["table"])
    (D21 : Def K mg "plan" s_plan ["table"])
    (D30 : Def K mg "_law_refused" s__law_refused ["_law_ask", "_law_thing", "_law_due"])
    (D31 : Def K mg "_law_plain" s__law_plain ["_law_thing"])
    (D32 : Def K mg "_law_says" s__law_says ["_law_said", "_law_due"])
    (D33 : Def K mg "_law_plan_right" s__law_plan_right ["_law_table", "_law_hours"])
    (D34 : Def K mg "_law_known_right" s__law_known_right ["_law_great"])
    (D35 : Def K mg "_law_chain_right" s__law_chain_right ["_law_many"])
    (D36 : Def K mg "_law_rows_right" s__law_rows_right ["_law_many"])
    (D37 : Def K mg "_law_bad_right" s__law_bad_right ["_law_whole"])
    (D38 : Def K mg "law" s_law ["_law_script"])
    (hcode : CodeIs K mg "_law_bad_right" cT)
    : Def K mg "law" s_law ["_law_script"] ∧ ∀ base : Heap, LamX.TabB base mg cT PT → Cal P w K mg base 27 "law" ["_law_script"] (sp_law7 K PT) := by
  refine ⟨D38, fun base TB => ?_⟩
  have c0 := ok_is_number (P := P) (w := w) (base := base) M D0  
  have c1 := ok_asked_table (P := P) (w := w) (base := base) M D1 c0 
  have c2 := ok_column_sums (P := P) (w := w) (base := base) M D2  
  have c3 := ok_fullest_of (P := P) (w := w) (base := base) M D3 c2 
  have c4 := ok_fullest (P := P) (w := w) (base := base) M D4 c1 c3 
  have c5 := ok_raised_of (P := P) (w := w) (base := base) M D5 c2 
  have c6 := ok_raised (P := P) (w := w) (base := base) M D6 c0 c1 c3 c5 
  have c7 := ok_are_unlike (P := P) (w := w) (base := base) M D7  
  have c8 := ok_Plan___init__ (P := P) (w := w) (base := base) M ca.cp D8  
  have c9 := ok_Plan_shows (P := P) (w := w) (base := base) M ca.cp D9 c7 c3 
  have c10 := ok_Each___init__ (P := P) (w := w) (base := base) M ca.cs D10  
  have c11 := ok_Each_shows (P := P) (w := w) (base := base) M ca.cs D11 c7 
  have c12 := ok_too_few (P := P) (w := w) (base := base) M D12 c7 
  have c13 := ok_Short___init__ (P := P) (w := w) (base := base) M ca.cs D13  
  have c14 := ok_Short_shows (P := P) (w := w) (base := base) M ca.cs D14 c12 
  have c15 := ok_Lasting___init__ (P := P) (w := w) (base := base) M ca.cl D15  
  have c16 := ok_Lasting_shows (P := P) (w := w) (base := base) M ca.cl D16 c7 c12 
  have c17 := ok_freed (P := P) (w := w) (base := base) M D17  21
  have c18 := ok_chosen (P := P) (w := w) (base := base) M D18 c17 
  have c19 := ok_each (P := P) (w := w) (base := base) M D19 c1 c18 (c10.mkr ca.cs.E) (c13.mkr ca.cs.S) 
  have c20 := ok_lasting (P := P) (w := w) (base := base) M D20 c1 c18 (c15.mkr ca.cl.L) 
  have c21 := ok_plan (P := P) (w := w) (base := base) M D21 c1 c3 c5 c18 (c8.mkr ca.cp.P) 
  have c22 := ok_asked_bad (P := P) (w := w) (base := base) M cx D1 c0 
  have c23 := ok_fullest_bad (P := P) (w := w) (base := base) M cx D4 c22 
  have c24 := ok_plan_bad (P := P) (w := w) (base := base) M cx D21 c22 
  have c25 := ok_each_bad (P := P) (w := w) (base := base) M cx D19 c22 
  have c26 := ok_lasting_bad (P := P) (w := w) (base := base) M cx D20 c22 
  have c27 := ok_raised_bad (P := P) (w := w) (base := base) M cx D6 c22 
  have c28 := ok_lasting_few (P := P) (w := w) (base := base) M cx D20 c1 c18 
  have c29 := ok_raised_hrs (P := P) (w := w) (base := base) M cx D6 c0 c1 c3 
  have c30 := ok__law_refused (P := P) (w := w) (base := base) M cx D30  23
  have c31 := ok__law_plain (P := P) (w := w) (base := base) M Mstr D31  5
  have c32 := ok__law_says (P := P) (w := w) (base := base) M D32  
  have c33 := ok__law_plan_right (P := P) (w := w) (base := base) M ca D33 c21 c4 c9 c32 c31 
  have c34 := ok__law_known_right (P := P) (w := w) (base := base) M ca D34 c21 c4 c6 c19 c20 (c15.mkr ca.cl.L) c16 c32 c33 
  have c35 := ok__law_chain_right (P := P) (w := w) (base := base) M ca D35 c19 c20 (c10.mkr ca.cs.E) c11 c14 c16 c32 c31 
  have c36 := ok__law_rows_right (P := P) (w := w) (base := base) M ca D36 c4 c6 (c8.mkr ca.cp.P) (c13.mkr ca.cs.S) (c10.mkr ca.cs.E) c9 c14 c11 c32 c31 
  have c37 := ok__law_bad_right (P := P) (w := w) (base := base) M ca cx hcode TB D37 c19 c23 c24 c25 c26 c27 c28 c29 c30 
  have c38 := ok_law (P := P) (w := w) (base := base) M D38 c34 c35 c36 c37 
  exact c38
end Lh
open PySem PySem.W PyProof.Rows in
set_option maxRecDepth 100000 in
set_option maxHeartbeats 0 in
theorem PySem.Challenge.cw_lessonhours_k07_whole_known_holds : PySem.Challenge.rw_lessonhours_k07_whole_known.Holds := by
  w_on; o_law; k_head; (case hw => w_witness2)
  k_fill
  refine Lh.walk_endT (l := PySem.Challenge.rw_lessonhours_k07_whole_known) (k := 27) (st := Lh.s_law) (sp := Lh.sp_law7) (x := "_law_bad_right") rfl rfl ⟨rfl, by decide, by decide⟩ (fun w h Y => PySem.W.km_in_of Y) rfl rfl (fun K PT H a ns hl hb hP hS => ⟨a, ns, rfl, hS, hl, hb, hP, fun _ => rfl⟩) ?F
  case F =>
    intro w mg h KX G
    refine' Lh.endT_mk KX G (Lh.tabIn_of ?tA ?tL ?tH ?tC ?tV) ?tN ?tF
    (case tA => k_is)
    (case tL => k_is)
    (case tH => exact rfl)
    (case tC => k_is)
    (case tV => exact rfl)
    (case tN => kernel_rfl)
    intro hcode
    refine' Lh.all_mk ⟨(PySem.W.mg_none_of KX G ?zlen), (PySem.W.mg_none_of KX G ?zisinstance), (PySem.W.mg_none_of KX G ?zall), (PySem.W.mg_none_of KX G ?zsum), (PySem.W.mg_none_of KX G ?zrange), (PySem.W.mg_none_of KX G ?zmax), (PySem.W.mg_none_of KX G ?zmin), (PySem.W.mg_none_of KX G ?zenumerate), (PySem.W.mg_none_of KX G ?zsorted), (PySem.W.mg_none_of KX G ?zany), (PySem.W.mg_none_of KX G ?zzip), (PySem.W.mg_none_of KX G ?zabs), (PySem.W.mg_none_of KX G ?zint), (PySem.W.mg_none_of KX G ?zbool), (PySem.W.mg_none_of KX G ?zlist), (PySem.W.mg_none_of KX G ?ztuple), (PySem.W.mg_none_of KX G ?zset), (Lh.int_mk KX G ?zMOST)⟩ ⟨⟨⟨?khn, ?kht⟩, ⟨PySem.W.mg_of KX G ?gE, ⟨?pgE, ?hdE, ?poE, ?saE⟩, ?kpE, ?mkE, ?haE, ?hmE⟩, ⟨PySem.W.mg_of KX G ?gS, ⟨?pgS, ?hdS, ?poS, ?saS⟩, ?kpS, ?mkS, ?haS, ?hmS⟩, PySem.W.mg_of KX G ?gA, PySem.W.mg_of KX G ?gP, PySem.W.mg_of KX G ?gL, ?nE, ?nS, ?fEA, ?fEE, ?fES, ?fEP, ?fEL, ?fSA, ?fSE, ?fSS, ?fSP, ?fSL⟩, ⟨⟨?khn, ?kht⟩, ⟨PySem.W.mg_of KX G ?gL, ⟨?pgL, ?hdL, ?poL, ?saL⟩, ?kpL, ?mkL, ?haL, ?hmL⟩, PySem.W.mg_of KX G ?gA, PySem.W.mg_of KX G ?gP, PySem.W.mg_of KX G ?gE, PySem.W.mg_of KX G ?gS, ?nLh, ?nLc, ?nLt, ?fLA, ?fLE, ?fLS, ?fLP, ?fLL⟩, ⟨⟨?khn, ?kht⟩, ⟨PySem.W.mg_of KX G ?gP, ⟨?pgP, ?hdP, ?poP, ?saP⟩, ?kpP, ?mkP, ?haP, ?hmP⟩, PySem.W.mg_of KX G ?gA, PySem.W.mg_of KX G ?gE, PySem.W.mg_of KX G ?gS, PySem.W.mg_of KX G ?gL, ?nPp, ?fPA, ?fPE, ?fPS, ?fPP, ?fPL⟩⟩ ⟨⟨PySem.W.mg_of KX G ?gT, ?xT, ?kT, ?bT, ?tT, ?sT, ⟨?c0T, ?c1T, ?c2T, ?c3T, ?c4T, ?c5T, ?c6T, ?c7T⟩⟩, ⟨PySem.W.mg_of KX G ?gB, ?xB, ?kB, ?bB, ?tB, ?sB, ⟨?c0B, ?c1B, ?c2B, ?c3B, ?c4B, ?c5B, ?c6B, ?c7B⟩⟩, PySem.W.mg_of KX G ?gH, ?bH, ?dH, ?tH, PySem.W.mg_none_of KX G ?zVE, ?fTT, ?fTB, ?fTV, ?fBT, ?fBB, ?fBV⟩ (PySem.W.mg_none_of KX G ?zstr) (Lh.def_mk KX G ?a0 ?l0 ?c0 ?k0 fun _ _ _ _ _ _ us hl => match us, hl with | [_], _ => rfl) (Lh.def_mk KX G ?a1 ?l1 ?c1 ?k1 fun _ _ _ _ _ _ us hl => match us, hl with | [_], _ => rfl) (Lh.def_mk KX G ?a2 ?l2 ?c2 ?k2 fun _ _ _ _ _ _ us hl => match us, hl with | [_], _ => rfl) (Lh.def_mk KX G ?a3 ?l3 ?c3 ?k3 fun _ _ _ _ _ _ us hl => match us, hl with | [_], _ => rfl) (Lh.def_mk KX G ?a4 ?l4 ?c4 ?k4 fun _ _ _ _ _ _ us hl => match us, hl with | [_], _ => rfl) (Lh.def_mk KX G ?a5 ?l5 ?c5 ?k5 fun _ _ _ _ _ _ us hl => match us, hl with | [_, _], _ => rfl) (Lh.def_mk KX G ?a6 ?l6 ?c6 ?k6 fun _ _ _ _ _ _ us hl => match us, hl with | [_, _], _ => rfl) (Lh.def_mk KX G ?a7 ?l7 ?c7 ?k7 fun _ _ _ _ _ _ us hl => match us, hl with | [_, _], _ => rfl) (Lh.defM_mk ?a8 ?i8 ?l8 ?c8 ?k8 fun _ _ _ _ _ _ us hl => match us, hl with | [_, _], _ => rfl) (Lh.defM_mk ?a9 ?i9 ?l9 ?c9 ?k9 fun _ _ _ _ _ _ us hl => match us, hl with | [_, _], _ => rfl) (Lh.defM_mk ?a10 ?i10 ?l10 ?c10 ?k10 fun _ _ _ _ _ _ us hl => match us, hl with | [_, _], _ => rfl) (Lh.defM_mk ?a11 ?i11 ?l11 ?c11 ?k11 fun _ _ _ _ _ _ us hl => match us, hl with | [_, _], _ => rfl) (Lh.def_mk KX G ?a12 ?l12 ?c12 ?k12 fun _ _ _ _ _ _ us hl => match us, hl with | [_, _, _], _ => rfl) (Lh.defM_mk ?a13 ?i13 ?l13 ?c13 ?k13 fun _ _ _ _ _ _ us hl => match us, hl with | [_, _], _ => rfl) (Lh.defM_mk ?a14 ?i14 ?l14 ?c14 ?k14 fun _ _ _ _ _ _ us hl => match us, hl with | [_, _], _ => rfl) (Lh.defM_mk ?a15 ?i15 ?l15 ?c15 ?k15 fun _ _ _ _ _ _ us hl => match us, hl with | [_, _, _, _], _ => rfl) (Lh.defM_mk ?a16 ?i16 ?l16 ?c16 ?k16 fun _ _ _ _ _ _ us hl => match us, hl with | [_, _], _ => rfl) (Lh.def_mk KX G ?a17 ?l17 ?c17 ?k17 fun _ _ _ _ _ _ us hl => match us, hl with | [_, _, _, _, _], _ => rfl) (Lh.def_mk KX G ?a18 ?l18 ?c18 ?k18 fun _ _ _ _ _ _ us hl => match us, hl with | [_, _], _ => rfl) (Lh.def_mk KX G ?a19 ?l19 ?c19 ?k19 fun _ _ _ _ _ _ us hl => match us, hl with | [_], _ => rfl) (Lh.def_mk KX G ?a20 ?l20 ?c20 ?k20 fun _ _ _ _ _ _ us hl => match us, hl with | [_], _ => rfl) (Lh.def_mk KX G ?a21 ?l21 ?c21 ?k21 fun _ _ _ _ _ _ us hl => match us, hl with | [_], _ => rfl) (Lh.def_mk KX G ?a30 ?l30 ?c30 ?k30 fun _ _ _ _ _ _ us hl => match us, hl with | [_, _, _], _ => rfl) (Lh.def_mk KX G ?a31 ?l31 ?c31 ?k31 fun _ _ _ _ _ _ us hl => match us, hl with | [_], _ => rfl) (Lh.def_mk KX G ?a32 ?l32 ?c32 ?k32 fun _ _ _ _ _ _ us hl => match us, hl with | [_, _], _ => rfl) (Lh.def_mk KX G ?a33 ?l33 ?c33 ?k33 fun _ _ _ _ _ _ us hl => match us, hl with | [_, _], _ => rfl) (Lh.def_mk KX G ?a34 ?l34 ?c34 ?k34 fun _ _ _ _ _ _ us hl => match us, hl with | [_], _ => rfl) (Lh.def_mk KX G ?a35 ?l35 ?c35 ?k35 fun _ _ _ _ _ _ us hl => match us, hl with | [_], _ => rfl) (Lh.def_mk KX G ?a36 ?l36 ?c36 ?k36 fun _ _ _ _ _ _ us hl => match us, hl with | [_], _ => rfl) (Lh.def_mk KX G ?a37 ?l37 ?c37 ?k37 fun _ _ _ _ _ _ us hl => match us, hl with | [_], _ => rfl) (Lh.def_mk KX G ?a38 ?l38 ?c38 ?k38 fun _ _ _ _ _ _ us hl => match us, hl with | [_], _ => rfl) hcode
    (case zlen => k_is)
    (case zisinstance => k_is)
    (case zall => k_is)
    (case zsum => k_is)
    (case zrange => k_is)
    (case zmax => k_is)
    (case zmin => k_is)
    (case zenumerate => k_is)
    (case zsorted => k_is)
    (case zany => k_is)
    (case zzip => k_is)
    (case zabs => k_is)
    (case zint => k_is)
    (case zbool => k_is)
    (case zlist => k_is)
    (case ztuple => k_is)
    (case zset => k_is)
    (case zMOST => k_is)
    (case gE => k_is)
    (case gS => k_is)
    (case gA => k_is)
    (case gP => k_is)
    (case gL => k_is)
    (case khn => k_is)
    (case kht => k_is)
    (case pgE => k_is)
    (case hdE => k_is)
    (case poE => k_is)
    (case saE => k_is)
    (case kpE => k_is)
    (case mkE => k_is)
    (case haE => k_is)
    (case hmE => k_is)
    (case pgS => k_is)
    (case hdS => k_is)
    (case poS => k_is)
    (case saS => k_is)
    (case kpS => k_is)
    (case mkS => k_is)
    (case haS => k_is)
    (case hmS => k_is)
    (case nE => k_is)
    (case nS => k_is)
    (case fEA => kit_is)
    (case fEE => kit_is)
    (case fES => kit_is)
    (case fEP => kit_is)
    (case fEL => kit_is)
    (case fSA => kit_is)
    (case fSE => kit_is)
    (case fSS => kit_is)
    (case fSP => kit_is)
    (case fSL => kit_is)
    (case pgL => k_is)
    (case hdL => k_is)
    (case poL => k_is)
    (case saL => k_is)
    (case kpL => k_is)
    (case mkL => k_is)
    (case haL => k_is)
    (case hmL => k_is)
    (case nLh => k_is)
    (case nLc => k_is)
    (case nLt => k_is)
    (case fLA => kit_is)
    (case fLE => kit_is)
    (case fLS => kit_is)
    (case fLP => kit_is)
    (case fLL => kit_is)
    (case pgP => k_is)
    (case hdP => k_is)
    (case poP => k_is)
    (case saP => k_is)
    (case kpP => k_is)
    (case mkP => k_is)
    (case haP => k_is)
    (case hmP => k_is)
    (case nPp => k_is)
    (case fPA => kit_is)
    (case fPE => kit_is)
    (case fPS => kit_is)
    (case fPP => kit_is)
    (case fPL => kit_is)
    (case gT => k_is)
    (case gB => k_is)
    (case gH => k_is)
    (case zVE => k_is)
    (case xT => k_exc)
    (case kT => k_is)
    (case bT => k_is)
    (case tT => k_is)
    (case sT => k_is)
    (case c0T => k_is)
    (case c1T => k_is)
    (case c2T => k_is)
    (case c3T => k_is)
    (case c4T => k_is)
    (case c5T => k_is)
    (case c6T => k_is)
    (case c7T => k_is)
    (case xB => k_exc)
    (case kB => k_is)
    (case bB => k_is)
    (case tB => k_is)
    (case sB => k_is)
    (case c0B => k_is)
    (case c1B => k_is)
    (case c2B => k_is)
    (case c3B => k_is)
    (case c4B => k_is)
    (case c5B => k_is)
    (case c6B => k_is)
    (case c7B => k_is)
    (case bH => k_is)
    (case dH => k_is)
    (case tH => k_is)
    (case fTT => kit_is)
    (case fTB => kit_is)
    (case fTV => kit_is)
    (case fBT => kit_is)
    (case fBB => kit_is)
    (case fBV => kit_is)
    (case zstr => k_is)
    (case a0 => k_is)
    (case l0 => k_is)
    (case c0 => k_is)
    (case k0 => k_is)
    (case a1 => k_is)
    (case l1 => k_is)
    (case c1 => k_is)
    (case k1 => k_is)
    (case a2 => k_is)
    (case l2 => k_is)
    (case c2 => k_is)
    (case k2 => k_is)
    (case a3 => k_is)
    (case l3 => k_is)
    (case c3 => k_is)
    (case k3 => k_is)
    (case a4 => k_is)
    (case l4 => k_is)
    (case c4 => k_is)
    (case k4 => k_is)
    (case a5 => k_is)
    (case l5 => k_is)
    (case c5 => k_is)
    (case k5 => k_is)
    (case a6 => k_is)
    (case l6 => k_is)
    (case c6 => k_is)
    (case k6 => k_is)
    (case a7 => k_is)
    (case l7 => k_is)
    (case c7 => k_is)
    (case k7 => k_is)
    (case a8 => k_is)
    (case i8 => k_is)
    (case l8 => k_is)
    (case c8 => k_is)
    (case k8 => k_is)
    (case a9 => k_is)
    (case i9 => k_is)
    (case l9 => k_is)
    (case c9 => k_is)
    (case k9 => k_is)
    (case a10 => k_is)
    (case i10 => k_is)
    (case l10 => k_is)
    (case c10 => k_is)
    (case k10 => k_is)
    (case a11 => k_is)
    (case i11 => k_is)
    (case l11 => k_is)
    (case c11 => k_is)
    (case k11 => k_is)
    (case a12 => k_is)
    (case l12 => k_is)
    (case c12 => k_is)
    (case k12 => k_is)
    (case a13 => k_is)
    (case i13 => k_is)
    (case l13 => k_is)
    (case c13 => k_is)
    (case k13 => k_is)
    (case a14 => k_is)
    (case i14 => k_is)
    (case l14 => k_is)
    (case c14 => k_is)
    (case k14 => k_is)
    (case a15 => k_is)
    (case i15 => k_is)
    (case l15 => k_is)
    (case c15 => k_is)
    (case k15 => k_is)
    (case a16 => k_is)
    (case i16 => k_is)
    (case l16 => k_is)
    (case c16 => k_is)
    (case k16 => k_is)
    (case a17 => k_is)
    (case l17 => k_is)
    (case c17 => k_is)
    (case k17 => k_is)
    (case a18 => k_is)
    (case l18 => k_is)
    (case c18 => k_is)
    (case k18 => k_is)
    (case a19 => k_is)
    (case l19 => k_is)
    (case c19 => k_is)
    (case k19 => k_is)
    (case a20 => k_is)
    (case l20 => k_is)
    (case c20 => k_is)
    (case k20 => k_is)
    (case a21 => k_is)
    (case l21 => k_is)
    (case c21 => k_is)
    (case k21 => k_is)
    (case a30 => k_is)
    (case l30 => k_is)
    (case c30 => k_is)
    (case k30 => k_is)
    (case a31 => k_is)
    (case l31 => k_is)
    (case c31 => k_is)
    (case k31 => k_is)
    (case a32 => k_is)
    (case l32 => k_is)
    (case c32 => k_is)
    (case k32 => k_is)
    (case a33 => k_is)
    (case l33 => k_is)
    (case c33 => k_is)
    (case k33 => k_is)
    (case a34 => k_is)
    (case l34 => k_is)
    (case c34 => k_is)
    (case k34 => k_is)
    (case a35 => k_is)
    (case l35 => k_is)
    (case c35 => k_is)
    (case k35 => k_is)
    (case a36 => k_is)
    (case l36 => k_is)
    (case c36 => k_is)
    (case k36 => k_is)
    (case a37 => k_is)
    (case l37 => k_is)
    (case c37 => k_is)
    (case k37 => k_is)
    (case a38 => k_is)
    (case l38 => k_is)
    (case c38 => k_is)
    (case k38 => k_is)
