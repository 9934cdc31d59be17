import PyProof.Rows.All
import Wide.All
import OpenK.AllK
import Wide.FinOn
import HandS.ForMost
import HandS.Evl
import HandS.Walk
import HandS.IsInst
import HandS.SortInts
import HandS.EndBits
import HandS.Style
import HandS.WordsList
import PySem.Challenge.RW_lessonhours_k01_whole_tables
set_option Elab.async false
set_option linter.all false
set_option maxRecDepth 100000
set_option maxHeartbeats 4000000

namespace Lh
open PySem PySem.Spec PyProof.Rows L2 Evl

instance instInhabitedV : Inhabited V := ⟨.non⟩
/-! ### operators -/
theorem op_mulX {X : Cx} : OpR X (binaryOp .Mult) (rI IntMulOk fun i j => .int (i * j)) := opI fun _ _ _ _ _ _ _ hc q => mul_int q hc

/-! ### a def of the text, and what may be called -/
/-- how positional arguments bind -/
def Bnd (fd : FuncData) (ps : List Str) : Prop := ∀ us : List Value, us.length = ps.length → bindArgs fd ⟨us, []⟩ = pure (ps.zip us)
structure Def (K : PySem.W.Frag) (mg : Str → Option Value) (x : Str) (st : Stmt) (ps : List Str) : Prop where
  ex : ∃ (f : Addr) (fd : FuncData), mg x = some (.ref f) ∧ Fun K x x st f fd ∧ Bnd fd ps
structure Cal (P : Program) (w : World) (K : PySem.W.Frag) (mg : Str → Option Value) (base : Heap) (k : Nat) (x : Str) (ps : List Str) (sp : Sp) : Prop where
  ex : ∃ (f : Addr) (fd : FuncData), mg x = some (.ref f) ∧ PySem.W.keepIn K (.ref f) = true ∧ Bnd fd ps ∧ (∃ oc od sl, K.lookup f = some ⟨oc, od, .func fd, sl⟩) ∧ FnOk P w K mg base CX0 k f fd ps sp
section
variable {P : Program} {w : World} {K : PySem.W.Frag} {mg : Str → Option Value} {base : Heap}
theorem Def.cal {x : Str} {st : Stmt} {N ps : List Str} {k : Nat} {sp : Sp} (D : Def K mg x st ps) (S : FnScope N ps (defScope st)) (len : ∀ vs H Q E, sp vs H Q E → vs.length = ps.length)
    (hbody : ∀ (f : Addr) (cdv : Value) (A : Around) (outer : List Env) (s : Shared) (H : Hp) (vs : List V) (Q : VK) (E : XK), Room k (A.deeper (envOfC x (defScope st) s.heap.objs.size f cdv)) → sp vs H Q E →
      ∃ t, PSs (cxOf CX0 P w K mg base N x (defScope st) f cdv A outer s H E).nox (defBody st) t ∧ t { nx := fun _ H' => Q .non H', rt := Q } (start N vs) H) : Cal P w K mg base (k + 1) x ps sp := by
  obtain ⟨f, fd, hm, F, hb⟩ := D.ex
  obtain ⟨oc, od, _, _, _, _, _, _, osl, _, lk, _⟩ := F.ex
  exact ⟨f, fd, hm, F.kp, hb, ⟨oc, od, osl, lk⟩, F.ok S len (hbody f)⟩
theorem Cal.mono {j k : Nat} {x : Str} {ps : List Str} {sp : Sp} (C : Cal P w K mg base j x ps sp) (h : j ≤ k) : Cal P w K mg base k x ps sp := by
  obtain ⟨f, fd, hm, hk, hb, lk, F⟩ := C.ex
  exact ⟨f, fd, hm, hk, hb, lk, F.mono h⟩
end
theorem pe_cal {X : Cx} {k j : Nat} {x : Str} {ps : List Str} {sp : Sp} {p pos : Pos} {e : Expr} {es : List Expr} {t : TA} (C : Cal X.prog X.w X.K X.mg X.base k x ps sp) (hr : Room j X.A) (hg : Gl X x) (ha : PA X (e :: es) t)
    (hjk : k ≤ j := by decide) (hdb : (x == ("__debug__" : Str)) = false := by decide) (he : starEach (e :: es) X.env = (false, eval e X.env) :: starEach es X.env := by rfl) (hpl : (backTo pos (starEach es X.env)).any (·.1) = false := by rfl) :
    PE X (.Call (.Name x p) (e :: es) [] pos) (tCall sp [] E0 t) := by
  obtain ⟨f, fd, hm, hk, hb, _, F⟩ := C.ex
  exact pe_call F (hr.mono hjk) hg hm hk (Binds.all hb) .nil pass0 ha hdb he hpl

/-! ### what evaluates to what: any end -/
def EvP (te : TE) (σ : L2.St) (H : Hp) (P : Hp → V → Hp → Prop) : Prop := ∀ H1, Ex H H1 → ∀ Q : VK, (∀ v H2, Ex H1 H2 → P H1 v H2 → Q v H2) → te σ H1 Q
def EvAP (ta : TA) (σ : L2.St) (H : Hp) (P : Hp → List V → Hp → Prop) : Prop := ∀ H1, Ex H H1 → ∀ Q : List V → Hp → Prop, (∀ vs H2, Ex H1 H2 → P H1 vs H2 → Q vs H2) → ta σ H1 Q
/-- what a promise hands back -/
def Ret (P : Hp → V → Hp → Prop) (H : Hp) (Q : VK) : Prop := ∀ v H2, Ex H H2 → P H v H2 → Q v H2
abbrev IsV (v : V) : Hp → V → Hp → Prop := fun _ u _ => u = v
abbrev IsI : Hp → V → Hp → Prop := fun _ u _ => ∃ n : Int, u = .int n
abbrev NewL (xs : List V) : Hp → V → Hp → Prop := fun H1 u H2 => ∃ p, u = .ref p ∧ H1 p = none ∧ H2 p = some (.lst xs)
abbrev NewU (xs : List V) : Hp → V → Hp → Prop := fun H1 u H2 => ∃ p, u = .ref p ∧ H1 p = none ∧ H2 p = some (.tup xs)
section
variable {K : PySem.W.Frag} {σ : L2.St} {H H' : Hp} {ta tb te tx : TE} {t u : TT} {x y z v : V} {r : R2} {P P' : Hp → V → Hp → Prop} {D : Ends} {tu tw tz : TS}
theorem EvP.mono (e : Ex H H') (h : EvP te σ H P) : EvP te σ H' P := fun H1 a Q q => h H1 (e.trans a) Q q
theorem EvP.imp (h : EvP te σ H P) (i : ∀ H1 v H2, Ex H H1 → Ex H1 H2 → P H1 v H2 → P' H1 v H2) : EvP te σ H P' := fun H1 a Q q => h H1 a Q fun v H2 e p => q v H2 e (i H1 v H2 a e p)
theorem evp_of (h : Ev te σ H v) : EvP te σ H (IsV v) := fun H1 a Q q => h H1 a Q fun H2 e => q v H2 e rfl
theorem evp_l {xs : List V} (h : EvL te σ H xs) : EvP te σ H (NewL xs) := fun H1 a Q q => h H1 a Q fun p H2 n e h2 => q _ H2 e ⟨p, rfl, n, h2⟩
theorem evp_u {xs : List V} (h : EvU te σ H xs) : EvP te σ H (NewU xs) := fun H1 a Q q => h H1 a Q fun p H2 n e h2 => q _ H2 e ⟨p, rfl, n, h2⟩
theorem ev_ofp (h : EvP te σ H (IsV v)) : Ev te σ H v := fun H1 a Q q => h H1 a Q fun u H2 e p => by
  subst p
  exact q H2 e
theorem el_ofp {xs : List V} (h : EvP te σ H (NewL xs)) : EvL te σ H xs := fun H1 a Q q => h H1 a Q fun u H2 e ⟨p, hu, n, h2⟩ => by
  subst hu
  exact q p H2 n e h2
theorem eu_ofp {xs : List V} (h : EvP te σ H (NewU xs)) : EvU te σ H xs := fun H1 a Q q => h H1 a Q fun u H2 e ⟨p, hu, n, h2⟩ => by
  subst hu
  exact q p H2 n e h2
/-- then, in the continuation's way -/
theorem EvP.go (h : EvP te σ H P) {Q : VK} (q : ∀ v H2, Ex H H2 → P H v H2 → Q v H2) : te σ H Q := h H (Ex.refl H) Q q
theorem evg {v : V} (h : Ev te σ H v) {Q : VK} (q : ∀ H2, Ex H H2 → Q v H2) : te σ H Q := h H (Ex.refl H) Q q
theorem evtg {b : Bool} (h : EvT t σ H b) {Q : Bool → Hp → Prop} (q : ∀ H2, Ex H H2 → Q b H2) : t σ H Q := h H (Ex.refl H) Q q

/-! arguments, one by one, in the continuation's way -/
theorem cV {tr : TA} {Q : List V → Hp → Prop} (h : Ev te σ H v) (k : ∀ H1, Ex H H1 → tr σ H1 fun vs H2 => Q (v :: vs) H2) : tCons te tr σ H Q := h H (Ex.refl H) _ k
theorem cL {tr : TA} {Q : List V → Hp → Prop} {xs : List V} (h : EvL te σ H xs) (k : ∀ p H1, H p = none → Ex H H1 → H1 p = some (.lst xs) → tr σ H1 fun vs H2 => Q (.ref p :: vs) H2) : tCons te tr σ H Q := h H (Ex.refl H) _ k
theorem cU {tr : TA} {Q : List V → Hp → Prop} {xs : List V} (h : EvU te σ H xs) (k : ∀ p H1, H p = none → Ex H H1 → H1 p = some (.tup xs) → tr σ H1 fun vs H2 => Q (.ref p :: vs) H2) : tCons te tr σ H Q := h H (Ex.refl H) _ k
theorem cP {tr : TA} {Q : List V → Hp → Prop} (h : EvP te σ H P) (k : ∀ v H1, Ex H H1 → P H v H1 → tr σ H1 fun vs H2 => Q (v :: vs) H2) : tCons te tr σ H Q := h H (Ex.refl H) _ k
theorem r_tup {ta : TA} (h : ta σ H fun xs H1 => xs.length ≤ sizeLine ∧ ∀ p, H1 p = none → D.rt (.ref p) (upd H1 p (.tup xs))) : tRet (tTup ta) D σ H := h
theorem q_tup {ta : TA} {i : Nat} (h : ta σ H fun xs H1 => xs.length ≤ sizeLine ∧ ∀ p, H1 p = none → tz D (σ.set i (some (.ref p))) (upd H1 p (.tup xs))) : tSeq (tAsg (tTup ta) (gName i)) tz D σ H := h
theorem e_tup {ta : TA} {Q : VK} (h : ta σ H fun xs H1 => xs.length ≤ sizeLine ∧ ∀ p, H1 p = none → Q (.ref p) (upd H1 p (.tup xs))) : tTup ta σ H Q := h
theorem e_lst {ta : TA} {Q : VK} (h : ta σ H fun xs H1 => xs.length ≤ sizeLine ∧ ∀ p, H1 p = none → Q (.ref p) (upd H1 p (.lst xs))) : tLst ta σ H Q := h
theorem e_call {sp : Sp} {E : XK} {ta : TA} {Q : VK} (h : ta σ H fun vs H1 => sp (vs ++ []) H1 Q E) : tCall sp [] E ta σ H Q := h
theorem cN {Q : List V → Hp → Prop} (k : Q [] H) : tNil σ H Q := k
/-! statements -/
theorem sp_asg {i : Nat} (h : EvP te σ H P) (k : ∀ v H1, Ex H H1 → P H v H1 → D.nx (σ.set i (some v)) H1) : tAsg te (gName i) D σ H := h H (Ex.refl H) _ k
theorem qp_asg {i : Nat} (h : EvP te σ H P) (k : ∀ v H1, Ex H H1 → P H v H1 → tz D (σ.set i (some v)) H1) : tSeq (tAsg te (gName i)) tz D σ H := h H (Ex.refl H) _ k
theorem sp_ret (h : EvP te σ H P) (k : ∀ v H1, Ex H H1 → P H v H1 → D.rt v H1) : tRet te D σ H := h H (Ex.refl H) _ k
theorem qp_drop (h : EvP te σ H P) (k : ∀ v H1, Ex H H1 → P H v H1 → tz D σ H1) : tSeq (tDrop te) tz D σ H := h H (Ex.refl H) _ k

/-! calls -/
end
def Down (P : Hp → V → Hp → Prop) : Prop := ∀ H1 H2 v H3, Ex H1 H2 → P H2 v H3 → P H1 v H3
theorem down_v {v : V} : Down (IsV v) := fun _ _ _ _ _ h => h
theorem down_i : Down IsI := fun _ _ _ _ _ h => h
theorem down_c {R : V → Hp → Prop} : Down (fun _ v H2 => R v H2) := fun _ _ _ _ _ h => h
theorem down_l {xs : List V} : Down (NewL xs) := fun _ _ _ _ e ⟨p, a, n, h⟩ => ⟨p, a, fresh_back e n, h⟩
theorem down_u {xs : List V} : Down (NewU xs) := fun _ _ _ _ e ⟨p, a, n, h⟩ => ⟨p, a, fresh_back e n, h⟩
section
variable {K : PySem.W.Frag} {σ : L2.St} {H H' : Hp} {ta tb te tx : TE} {t u : TT} {x y z v : V} {r : R2} {P P' : Hp → V → Hp → Prop} {D : Ends} {tu tw tz : TS}
theorem evp_call {sp : Sp} {vs : List V} {E : XK} {ta : TA} (h : EvA ta σ H vs) (hd : Down P) (hs : ∀ H1, Ex H H1 → ∀ Q : VK, Ret P H1 Q → sp (vs ++ []) H1 Q E) : EvP (tCall sp [] E ta) σ H P := fun H1 e Q q =>
  h H1 e _ fun H2 e2 => hs H2 (e.trans e2) Q fun v H3 e3 p => q v H3 (e2.trans e3) (hd _ _ _ _ e2 p)
/-- a call of a value back -/
theorem ev_callV {sp : Sp} {vs : List V} {E : XK} {ta : TA} (h : EvA ta σ H vs) (hs : ∀ H1, Ex H H1 → ∀ Q : VK, Ret (IsV v) H1 Q → sp (vs ++ []) H1 Q E) : Ev (tCall sp [] E ta) σ H v := ev_ofp (evp_call h down_v hs)
/-- a built-in upon one new list -/
theorem ev_cbL {r : List V → Hp → VK → Prop} {xs : List V} (ha : EvL te σ H xs) (hr : ∀ p H1, Ex H H1 → H1 p = some (.lst xs) → ∀ Q : VK, (∀ H2, Ex H1 H2 → Q z H2) → r [.ref p] H1 Q) : Ev (tCB r (tCons te tNil)) σ H z := fun H1 e Q q =>
  ha H1 e _ fun p H2 _ e2 h2 => hr p H2 (e.trans e2) h2 Q fun H3 e3 => q H3 (e2.trans e3)
theorem ev_sumL {ns : List Int} (ha : EvL te σ H (ns.map V.int)) : Ev (tCB (rSum K) (tCons te tNil)) σ H (.int ns.sum) := ev_cbL ha fun p H1 _ h Q q => ⟨p, ns, rfl, sq_of h, q H1 (Ex.refl _)⟩
theorem ev_sum {a : Addr} {ns : List Int} (ha : Ev te σ H (.ref a)) (hs : SqL K H a (ns.map V.int)) : Ev (tCB (rSum K) (tCons te tNil)) σ H (.int ns.sum) := fun H1 e Q q =>
  ha H1 e _ fun H2 e2 => ⟨a, ns, rfl, ex_l (e.trans e2) hs, q H2 e2⟩
theorem ev_allL {bs : List Bool} (ha : EvL te σ H (bs.map V.bl)) : Ev (tCB (rAll K) (tCons te tNil)) σ H (.bl (bs.all id)) := ev_cbL ha fun p H1 _ h Q q => ⟨p, bs, rfl, sq_of h, q H1 (Ex.refl _)⟩
theorem ev_anyL {bs : List Bool} (ha : EvL te σ H (bs.map V.bl)) : Ev (tCB (rAny K) (tCons te tNil)) σ H (.bl (bs.any id)) := ev_cbL ha fun p H1 _ h Q q => ⟨p, bs, rfl, sq_of h, q H1 (Ex.refl _)⟩
/-- the greatest, the least of a list of ints -/
def maxI : List Int → Int
  | [] => 0
  | x :: r => r.foldl max x
def minI : List Int → Int
  | [] => 0
  | x :: r => r.foldl min x
theorem foldl_max : ∀ (r : List Int) (x : Int), x ≤ r.foldl max x ∧ (∀ y ∈ r, y ≤ r.foldl max x) ∧ (r.foldl max x = x ∨ r.foldl max x ∈ r)
  | [], x => ⟨Int.le_refl _, by simp, .inl rfl⟩
  | a :: r, x => by
    obtain ⟨h1, h2, h3⟩ := foldl_max r (max x a)
    rw [List.foldl_cons]
    refine ⟨by omega, fun y hy => ?_, ?_⟩
    · rcases List.mem_cons.mp hy with rfl | hy
      · omega
      · exact h2 y hy
    · rcases h3 with h3 | h3
      · rw [h3]
        by_cases h : x ≤ a
        · rw [Int.max_eq_right h]; exact .inr (by simp)
        · rw [Int.max_eq_left (by omega)]; exact .inl rfl
      · exact .inr (List.mem_cons_of_mem _ h3)
theorem foldl_min : ∀ (r : List Int) (x : Int), r.foldl min x ≤ x ∧ (∀ y ∈ r, r.foldl min x ≤ y) ∧ (r.foldl min x = x ∨ r.foldl min x ∈ r)
  | [], x => ⟨Int.le_refl _, by simp, .inl rfl⟩
  | a :: r, x => by
    obtain ⟨h1, h2, h3⟩ := foldl_min r (min x a)
    rw [List.foldl_cons]
    refine ⟨by omega, fun y hy => ?_, ?_⟩
    · rcases List.mem_cons.mp hy with rfl | hy
      · omega
      · exact h2 y hy
    · rcases h3 with h3 | h3
      · rw [h3]
        by_cases h : x ≤ a
        · rw [Int.min_eq_left h]; exact .inl rfl
        · rw [Int.min_eq_right (by omega)]; exact .inr (by simp)
      · exact .inr (List.mem_cons_of_mem _ h3)
theorem maxI_le {ns : List Int} {y : Int} (h : y ∈ ns) : y ≤ maxI ns := by
  cases ns with
  | nil => cases h
  | cons x r =>
    obtain ⟨h1, h2, _⟩ := foldl_max r x
    rcases List.mem_cons.mp h with rfl | h
    · exact h1
    · exact h2 y h
theorem maxI_mem {ns : List Int} (h : ns ≠ []) : maxI ns ∈ ns := by
  cases ns with
  | nil => exact absurd rfl h
  | cons x r =>
    obtain ⟨_, _, h3⟩ := foldl_max r x
    show r.foldl max x ∈ x :: r
    rcases h3 with h3 | h3
    · rw [h3]; simp
    · exact List.mem_cons_of_mem _ h3
theorem maxI_is {ns : List Int} {m : Int} (h : m ∈ ns) (hl : ∀ y ∈ ns, y ≤ m) : m = maxI ns := by
  have h1 := maxI_le h
  have h2 := hl _ (maxI_mem (fun e => by rw [e] at h; cases h))
  omega
theorem minI_le {ns : List Int} {y : Int} (h : y ∈ ns) : minI ns ≤ y := by
  cases ns with
  | nil => cases h
  | cons x r =>
    obtain ⟨h1, h2, _⟩ := foldl_min r x
    rcases List.mem_cons.mp h with rfl | h
    · exact h1
    · exact h2 y h
theorem minI_mem {ns : List Int} (h : ns ≠ []) : minI ns ∈ ns := by
  cases ns with
  | nil => exact absurd rfl h
  | cons x r =>
    obtain ⟨_, _, h3⟩ := foldl_min r x
    show r.foldl min x ∈ x :: r
    rcases h3 with h3 | h3
    · rw [h3]; simp
    · exact List.mem_cons_of_mem _ h3
theorem minI_is {ns : List Int} {m : Int} (h : m ∈ ns) (hl : ∀ y ∈ ns, m ≤ y) : m = minI ns := by
  have h1 := minI_le h
  have h2 := hl _ (minI_mem (fun e => by rw [e] at h; cases h))
  omega
theorem ev_maxL {ns : List Int} (ha : EvL te σ H (ns.map V.int)) (hn : ns ≠ []) : Ev (tCB (rMax K) (tCons te tNil)) σ H (.int (maxI ns)) := ev_cbL ha fun p H1 _ h Q q =>
  ⟨p, ns, rfl, sq_of h, List.length_pos_iff.mpr hn, fun m h1 h2 => by rw [maxI_is h1 h2]; exact q H1 (Ex.refl _)⟩
theorem ev_minL {ns : List Int} (ha : EvL te σ H (ns.map V.int)) (hn : ns ≠ []) : Ev (tCB (rMin K) (tCons te tNil)) σ H (.int (minI ns)) := ev_cbL ha fun p H1 _ h Q q =>
  ⟨p, ns, rfl, sq_of h, List.length_pos_iff.mpr hn, fun m h1 h2 => by rw [minI_is h1 h2]; exact q H1 (Ex.refl _)⟩
theorem ev_max {a : Addr} {ns : List Int} (ha : Ev te σ H (.ref a)) (hs : SqL K H a (ns.map V.int)) (hn : ns ≠ []) : Ev (tCB (rMax K) (tCons te tNil)) σ H (.int (maxI ns)) := fun H1 e Q q =>
  ha H1 e _ fun H2 e2 => ⟨a, ns, rfl, ex_l (e.trans e2) hs, List.length_pos_iff.mpr hn, fun m h1 h2 => by rw [maxI_is h1 h2]; exact q H2 e2⟩
theorem ev_min {a : Addr} {ns : List Int} (ha : Ev te σ H (.ref a)) (hs : SqL K H a (ns.map V.int)) (hn : ns ≠ []) : Ev (tCB (rMin K) (tCons te tNil)) σ H (.int (minI ns)) := fun H1 e Q q =>
  ha H1 e _ fun H2 e2 => ⟨a, ns, rfl, ex_l (e.trans e2) hs, List.length_pos_iff.mpr hn, fun m h1 h2 => by rw [minI_is h1 h2]; exact q H2 e2⟩
theorem ev_min2 {i j : Int} (ha : Ev ta σ H (.int i)) (hb : Ev tb σ H (.int j)) : Ev (tCB (fun xs H Q => ∃ i j, xs = [V.int i, .int j] ∧ Q (.int (if j < i then j else i)) H) (tCons ta (tCons tb tNil))) σ H (.int (min i j)) := fun H1 e Q q =>
  ha H1 e _ fun H2 e2 => hb H2 (e.trans e2) _ fun H3 e3 => ⟨i, j, rfl, by
    have h := q H3 (e2.trans e3)
    have e : min i j = if j < i then j else i := by split <;> omega
    rw [e] at h
    exact h⟩
theorem ev_mx2 {i j : Int} (ha : Ev ta σ H (.int i)) (hb : Ev tb σ H (.int j)) : Ev (tCB (fun xs H Q => ∃ i j, xs = [V.int i, .int j] ∧ Q (.int (if j > i then j else i)) H) (tCons ta (tCons tb tNil))) σ H (.int (max i j)) := fun H1 e Q q =>
  ha H1 e _ fun H2 e2 => hb H2 (e.trans e2) _ fun H3 e3 => ⟨i, j, rfl, by
    have h := q H3 (e2.trans e3)
    have e : max i j = if j > i then j else i := by split <;> omega
    rw [e] at h
    exact h⟩
/-- isinstance of a value whose type is built in -/
theorem ev_isi {a b : String} {k : Bool} (ha : Ev ta σ H x) (ty : ∀ H1, Ex H H1 → TyX K H1 x (.type a)) (hk : kitB a b = some k) : Ev (tCB (rIsi K) (tCons ta (tCons (tC (.ty b)) tNil))) σ H (.bl k) := fun H1 e Q q =>
  ha H1 e _ fun H2 e2 => ⟨x, .ty b, .type a, .type b, k, rfl, ClsV.ty b, ty H2 (e.trans e2), kit_ty hk, q H2 e2⟩
theorem tx_int {i : Int} : TyX K H (.int i) (.type "int") := .base (.int i)
theorem tx_lst {a : Addr} {xs : List V} (h : H a = some (.lst xs)) : TyX K H (.ref a) (.type "list") := .base (.lst h)
theorem tx_tup {a : Addr} {xs : List V} (h : H a = some (.tup xs)) : TyX K H (.ref a) (.type "tuple") := .base (.tup h)
theorem isi_list {a : Addr} {xs : List V} (ha : Ev ta σ H (.ref a)) (h : H a = some (.lst xs)) : Ev (tCB (rIsi K) (tCons ta (tCons (tC (.ty "list")) tNil))) σ H (.bl true) := ev_isi ha (fun H1 e => tx_lst (e _ _ h)) (by decide +kernel)
theorem isi_tup {a : Addr} {xs : List V} (ha : Ev ta σ H (.ref a)) (h : H a = some (.tup xs)) : Ev (tCB (rIsi K) (tCons ta (tCons (tC (.ty "tuple")) tNil))) σ H (.bl true) := ev_isi ha (fun H1 e => tx_tup (e _ _ h)) (by decide +kernel)
theorem isi_int {i : Int} (ha : Ev ta σ H (.int i)) : Ev (tCB (rIsi K) (tCons ta (tCons (tC (.ty "int")) tNil))) σ H (.bl true) := ev_isi ha (fun H1 e => tx_int) (by decide +kernel)
theorem isi_intb {i : Int} (ha : Ev ta σ H (.int i)) : Ev (tCB (rIsi K) (tCons ta (tCons (tC (.ty "bool")) tNil))) σ H (.bl false) := ev_isi ha (fun H1 e => tx_int) (by decide +kernel)
/-- a + b, a - b, .. of ints, in plain words -/
theorem ev_add {i j : Int} (ha : Ev ta σ H (.int i)) (hb : Ev tb σ H (.int j)) : Ev (tOp (rI0 fun i j => .int (i + j)) ta tb) σ H (.int (i + j)) := ev_op ha hb (rv_I0 (g := fun i j => .int (i + j)))
theorem ev_sub {i j : Int} (ha : Ev ta σ H (.int i)) (hb : Ev tb σ H (.int j)) : Ev (tOp (rI0 fun i j => .int (i - j)) ta tb) σ H (.int (i - j)) := ev_op ha hb (rv_I0 (g := fun i j => .int (i - j)))
theorem ev_mul {i j : Int} (ha : Ev ta σ H (.int i)) (hb : Ev tb σ H (.int j)) (hc : IntMulOk i j) : Ev (tOp (rI IntMulOk fun i j => .int (i * j)) ta tb) σ H (.int (i * j)) := ev_op ha hb (rv_I (g := fun i j => .int (i * j)) hc)
theorem ev_div {i j : Int} (ha : Ev ta σ H (.int i)) (hb : Ev tb σ H (.int j)) (h0 : 0 < j) (h1 : j < 1073741824) : Ev (tOp (rI CDiv fun i j => .int (i / j)) ta tb) σ H (.int (i / j)) := ev_op ha hb (rv_I (C := CDiv) (g := fun i j => .int (i / j)) ⟨h0, h1⟩)
theorem ev_mod {i j : Int} (ha : Ev ta σ H (.int i)) (hb : Ev tb σ H (.int j)) (h0 : 0 < j) : Ev (tOp (rI (fun _ j => 0 < j) fun i j => .int (i % j)) ta tb) σ H (.int (i % j)) := ev_op ha hb (rv_I (C := fun _ j => 0 < j) (g := fun i j => .int (i % j)) h0)
theorem ev_pow {i j : Int} (ha : Ev ta σ H (.int i)) (hb : Ev tb σ H (.int j)) (hc : CPow i j) : Ev (tOp (rI CPow fun i j => .int (i ^ j.toNat)) ta tb) σ H (.int (i ^ j.toNat)) := ev_op ha hb (rv_I (C := CPow) (g := fun i j => .int (i ^ j.toNat)) hc)
theorem ev_lt {i j : Int} (ha : Ev ta σ H (.int i)) (hb : Ev tb σ H (.int j)) : Ev (tOp (rI0 fun i j => .bl (decide (i < j))) ta tb) σ H (.bl (decide (i < j))) := ev_op ha hb (rv_I0 (g := fun i j => .bl (decide (i < j))))
theorem ev_le {i j : Int} (ha : Ev ta σ H (.int i)) (hb : Ev tb σ H (.int j)) : Ev (tOp (rI0 fun i j => .bl (decide (i ≤ j))) ta tb) σ H (.bl (decide (i ≤ j))) := ev_op ha hb (rv_I0 (g := fun i j => .bl (decide (i ≤ j))))
theorem ev_gt {i j : Int} (ha : Ev ta σ H (.int i)) (hb : Ev tb σ H (.int j)) : Ev (tOp (rI0 fun i j => .bl (decide (j < i))) ta tb) σ H (.bl (decide (j < i))) := ev_op ha hb (rv_I0 (g := fun i j => .bl (decide (j < i))))
theorem ev_ge {i j : Int} (ha : Ev ta σ H (.int i)) (hb : Ev tb σ H (.int j)) : Ev (tOp (rI0 fun i j => .bl (decide (j ≤ i))) ta tb) σ H (.bl (decide (j ≤ i))) := ev_op ha hb (rv_I0 (g := fun i j => .bl (decide (j ≤ i))))
theorem ev_eqI {i j : Int} (ha : Ev ta σ H (.int i)) (hb : Ev tb σ H (.int j)) : Ev (tOp rEq ta tb) σ H (.bl (decide (i = j))) := ev_is (ev_op ha hb (rv_eq rfl)) (by congr 1; simp)
theorem ev_neI {i j : Int} (ha : Ev ta σ H (.int i)) (hb : Ev tb σ H (.int j)) : Ev (tOp rNe ta tb) σ H (.bl (!decide (i = j))) := ev_is (ev_op ha hb (rv_ne rfl)) (by congr 2; simp)
/-- a chain of two comparisons -/
theorem ev_chain {r r' : R2} {tc : TE} {z : V} {k k' : Bool} (ha : Ev ta σ H x) (hb : Ev tb σ H y) (h1 : RV r x y H (.bl k)) (hc : k = true → Ev tc σ H z) (h2 : k = true → RV r' y z H (.bl k')) : Ev (tChain r r' ta tb tc) σ H (.bl (k && k')) := fun H1 e Q q =>
  ha H1 e _ fun H2 e2 => hb H2 (e.trans e2) _ fun H3 e3 => h1 H3 ((e.trans e2).trans e3) _ fun H4 e4 => ⟨k, rfl, by
    cases k with
    | true =>
      show tc σ H4 fun w' H5 => r' y w' H5 Q
      exact hc rfl H4 (((e.trans e2).trans e3).trans e4) _ fun H5 e5 => h2 rfl H5 ((((e.trans e2).trans e3).trans e4).trans e5) _ fun H6 e6 => q H6 ((((e2.trans e3).trans e4).trans e5).trans e6)
    | false => exact q H4 ((e2.trans e3).trans e4)⟩
theorem rv_leD {i j : Int} {k : Bool} (h : decide (i ≤ j) = k) : RV (rI0 fun i j => .bl (decide (i ≤ j))) (.int i) (.int j) H (.bl k) := by
  subst h
  exact rv_I0 (g := fun i j => .bl (decide (i ≤ j)))
theorem rv_ltD {i j : Int} {k : Bool} (h : decide (i < j) = k) : RV (rI0 fun i j => .bl (decide (i < j))) (.int i) (.int j) H (.bl k) := by
  subst h
  exact rv_I0 (g := fun i j => .bl (decide (i < j)))
theorem et_lt {i j : Int} {k : Bool} (ha : Ev ta σ H (.int i)) (hb : Ev tb σ H (.int j)) (h : decide (i < j) = k) : EvT (tTest (tOp (rI0 fun i j => .bl (decide (i < j))) ta tb)) σ H k := et_test (ev_is (ev_lt ha hb) (by rw [h]))
theorem et_le {i j : Int} {k : Bool} (ha : Ev ta σ H (.int i)) (hb : Ev tb σ H (.int j)) (h : decide (i ≤ j) = k) : EvT (tTest (tOp (rI0 fun i j => .bl (decide (i ≤ j))) ta tb)) σ H k := et_test (ev_is (ev_le ha hb) (by rw [h]))
theorem et_gt {i j : Int} {k : Bool} (ha : Ev ta σ H (.int i)) (hb : Ev tb σ H (.int j)) (h : decide (j < i) = k) : EvT (tTest (tOp (rI0 fun i j => .bl (decide (j < i))) ta tb)) σ H k := et_test (ev_is (ev_gt ha hb) (by rw [h]))
theorem et_ge {i j : Int} {k : Bool} (ha : Ev ta σ H (.int i)) (hb : Ev tb σ H (.int j)) (h : decide (j ≤ i) = k) : EvT (tTest (tOp (rI0 fun i j => .bl (decide (j ≤ i))) ta tb)) σ H k := et_test (ev_is (ev_ge ha hb) (by rw [h]))
theorem et_eq {i j : Int} {k : Bool} (ha : Ev ta σ H (.int i)) (hb : Ev tb σ H (.int j)) (h : decide (i = j) = k) : EvT (tTest (tOp rEq ta tb)) σ H k := et_test (ev_is (ev_eqI ha hb) (by rw [h]))
theorem et_ne {i j : Int} {k : Bool} (ha : Ev ta σ H (.int i)) (hb : Ev tb σ H (.int j)) (h : (!decide (i = j)) = k) : EvT (tTest (tOp rNe ta tb)) σ H k := et_test (ev_is (ev_neI ha hb) (by rw [h]))
theorem ev_ixL {p : Addr} {xs : List V} {i : Int} (ha : Ev ta σ H (.ref p)) (hb : Ev tb σ H (.int i)) (h : SqL K H p xs) (hx : atI xs i = some v) : Ev (tOp (rIxL K) ta tb) σ H v := ev_op ha hb (rv_ixL h hx)
theorem ev_ixT {p : Addr} {xs : List V} {i : Int} (ha : Ev ta σ H (.ref p)) (hb : Ev tb σ H (.int i)) (h : SqT K H p xs) (hx : atI xs i = some v) : Ev (tOp (rIxT K) ta tb) σ H v := ev_op ha hb (rv_ixT h hx)
theorem atI_of {α : Type} {xs : List α} {i : Int} {j : Nat} {v : α} (e : i = (j : Int)) (h : xs[j]? = some v) : atI xs i = some v := by
  rw [e]
  exact atI_nat h
/-- == of data -/
theorem ev_eqD {d e : PyData} (ha : Ev ta σ H x) (hb : Ev tb σ H y) (hd : ∀ H1, Ex H H1 → Dp K H1 x d) (he : ∀ H1, Ex H H1 → Dp K H1 y e) (sd : SeqAt.shaped d = true) (se : SeqAt.shaped e = true) : Ev (tOp (rEqD K) ta tb) σ H (.bl (PyData.eqv d e)) :=
  ev_op ha hb (rv_val fun H1 e1 Q q => ⟨d, e, hd H1 e1, he H1 e1, sd, se, q⟩)
theorem ev_neD {d e : PyData} (ha : Ev ta σ H x) (hb : Ev tb σ H y) (hd : ∀ H1, Ex H H1 → Dp K H1 x d) (he : ∀ H1, Ex H H1 → Dp K H1 y e) (sd : SeqAt.shaped d = true) (se : SeqAt.shaped e = true) : Ev (tOp (rNeD K) ta tb) σ H (.bl (!PyData.eqv d e)) :=
  ev_op ha hb (rv_val fun H1 e1 Q q => ⟨d, e, hd H1 e1, he H1 e1, sd, se, q⟩)
/-- xs + ys, xs * k: a new list -/
theorem el_cat {a b : Addr} {xs ys : List V} (ha : Ev ta σ H (.ref a)) (hb : Ev tb σ H (.ref b)) (h1 : H a = some (.lst xs)) (h2 : H b = some (.lst ys)) (hl : xs.length + ys.length ≤ 100000) : EvL (tOp rCat ta tb) σ H (xs ++ ys) := fun H1 e Q q =>
  ha H1 e _ fun H2 e2 => hb H2 (e.trans e2) _ fun H3 e3 => ⟨a, b, xs, ys, rfl, rfl, ((e.trans e2).trans e3) _ _ h1, ((e.trans e2).trans e3) _ _ h2, sz_of hl, fun p hp => q p _ (fresh_back (e2.trans e3) hp) ((e2.trans e3).trans (Ex.new hp)) upd_same⟩
theorem el_catN {a : Addr} {xs ys : List V} (ha : Ev ta σ H (.ref a)) (hb : EvL tb σ H ys) (h1 : H a = some (.lst xs)) (hl : xs.length + ys.length ≤ 100000) : EvL (tOp rCat ta tb) σ H (xs ++ ys) := fun H1 e Q q =>
  ha H1 e _ fun H2 e2 => hb H2 (e.trans e2) _ fun b H3 _ e3 h2 => ⟨a, b, xs, ys, rfl, rfl, ((e.trans e2).trans e3) _ _ h1, h2, sz_of hl, fun p hp => q p _ (fresh_back (e2.trans e3) hp) ((e2.trans e3).trans (Ex.new hp)) upd_same⟩
theorem el_catNN {xs ys : List V} (ha : EvL ta σ H xs) (hb : EvL tb σ H ys) (hl : xs.length + ys.length ≤ 100000) : EvL (tOp rCat ta tb) σ H (xs ++ ys) := fun H1 e Q q =>
  ha H1 e _ fun a H2 _ e2 h1 => hb H2 (e.trans e2) _ fun b H3 _ e3 h2 => ⟨a, b, xs, ys, rfl, rfl, e3 _ _ h1, h2, sz_of hl, fun p hp => q p _ (fresh_back (e2.trans e3) hp) ((e2.trans e3).trans (Ex.new hp)) upd_same⟩
theorem flatten_rep {v : V} : ∀ k : Nat, (List.replicate k [v]).flatten = List.replicate k v
  | 0 => rfl
  | k + 1 => by rw [List.replicate_succ, List.flatten_cons, flatten_rep k, List.replicate_succ] <;> rfl
/-- [v] * k -/
theorem el_rep1 {v : V} {k : Int} (ha : EvL ta σ H [v]) (hb : Ev tb σ H (.int k)) (hk : -100000 ≤ k ∧ k ≤ 100000) : EvL (tOp rRep ta tb) σ H (List.replicate k.toNat v) := fun H1 e Q q =>
  ha H1 e _ fun a H2 _ e2 h1 => hb H2 (e.trans e2) _ fun H3 e3 => ⟨a, k, [v], rfl, rfl, e3 _ _ h1, by omega, by omega, by rw [List.length_singleton, Nat.one_mul]; exact sz_of (by omega), fun p hp => by
    rw [flatten_rep]
    exact q p _ (fresh_back (e2.trans e3) hp) ((e2.trans e3).trans (Ex.new hp)) upd_same⟩
/-- list(x) of a list -/
theorem el_of {a : Addr} {xs : List V} (ha : Ev ta σ H (.ref a)) (h : SqL K H a xs) : EvL (tCB (fun xs H Q => ∃ p ys, xs = [V.ref p] ∧ (SqL K H p ys ∨ SqT K H p ys) ∧ ∀ l, H l = none → Q (.ref l) (upd H l (.lst ys))) (tCons ta tNil)) σ H xs := el_list ha h
theorem ev_lenL {p : Addr} {xs : List V} (ha : Ev ta σ H (.ref p)) (h : SqL K H p xs) : Ev (tCB (fun xs H Q => ∃ p ys, xs = [V.ref p] ∧ (SqL K H p ys ∨ SqT K H p ys) ∧ Q (.int ys.length) H) (tCons ta tNil)) σ H (.int (xs.length : Int)) := ev_len ha h
end

/-! ### walks and comprehensions -/
/-- while the heap grows it takes n turns; at turn i the target's slots are sg i -/
structure Turns (J : It) (n : Nat) (g : TG) (σ0 : L2.St) (H1 : Hp) (sg : Nat → L2.St) : Prop where
  go : ∀ i H', Ex H1 H' → i < n → J.go i H'
  stop : ∀ H', Ex H1 H' → J.stop n H'
  turn : ∀ i x H' H'', i < n → Ex H1 H' → J.yld i H' x H'' → ∀ Q : L2.St → Hp → Prop, (∀ H2, Ex H' H2 → Q (sg i) H2) → g x σ0 H'' Q
section
variable {K : PySem.W.Frag} {σ σ0 : L2.St} {H1 : Hp} {a b : Addr} {xs ys : List V}
theorem turns_list {j : Nat} (hx : SqL K H1 a xs) : Turns (Itl K a) xs.length (gName j) σ0 H1 (fun i => σ0.set j xs[i]?) := by
  refine ⟨fun i H' e hi => ⟨xs, xs[i], ex_l e hx, by simp [hi]⟩, fun H' e => ⟨xs, ex_l e hx, Nat.le_refl _⟩, fun i x H' H'' hi e y Q q => ?_⟩
  obtain ⟨e1, y⟩ := y
  subst e1
  have h := y xs (ex_l e hx)
  have q2 := q _ (Ex.refl _)
  rw [h] at q2
  exact q2
theorem turns_range {lo : Int} {n j : Nat} : Turns (Itr lo n) n (gName j) σ0 H1 (fun i => σ0.set j (some (.int (lo + (i : Nat))))) := by
  refine ⟨fun i H' e hi => hi, fun H' e => Nat.le_refl _, fun i x H' H'' hi e y Q q => ?_⟩
  obtain ⟨e1, y⟩ := y
  subst e1 y
  exact q _ (Ex.refl _)
theorem gpair {x y : V} {i j : Nat} {T : Addr} {H' : Hp} {Q : L2.St → Hp → Prop} (hT : SqT K H' T [x, y]) (q : Q ((σ0.set i (some x)).set j (some y)) H') : gTup K 2 (gCons (gName i) (gCons (gName j) gNil)) (.ref T) σ0 H' Q :=
  ⟨T, [x, y], rfl, hT, rfl, x, [y], rfl, y, [], rfl, rfl, q⟩
theorem turns_enum {j k : Nat} (hx : SqL K H1 a xs) : Turns (Ite K a) xs.length (gTup K 2 (gCons (gName j) (gCons (gName k) gNil))) σ0 H1 (fun i => (σ0.set j (some (.int (i : Nat)))).set k xs[i]?) := by
  have w := walk_enum (K := K) (a := a) (xs := xs)
  refine ⟨fun i H' e hi => w.goes i H' hi (ex_l e hx), fun H' e => w.stops H' (ex_l e hx), fun i x H' H'' hi e y Q q => ?_⟩
  obtain ⟨T, u, z, rfl, hT, rfl, h1, h2⟩ := w.yields i H' x H'' hi (ex_l e hx) y
  have q2 := q _ (Ex.new (o := .tup [u, z]) hT)
  have h1 : some (V.int (i : Nat)) = some u := h1
  have h2 : xs[i]? = some z := h2
  rw [h1, h2] at q2
  exact gpair (st_of upd_same) q2
theorem turns_zip {n j k : Nat} (hn : n = min xs.length ys.length) (hx : SqL K H1 a xs) (hy : SqL K H1 b ys) : Turns (Itz K a b) n (gTup K 2 (gCons (gName j) (gCons (gName k) gNil))) σ0 H1 (fun i => (σ0.set j xs[i]?).set k ys[i]?) := by
  have w := walk_zip (K := K) (a := a) (b := b) (xs := xs) (ys := ys) hn
  refine ⟨fun i H' e hi => w.goes i H' hi ⟨ex_l e hx, ex_l e hy⟩, fun H' e => w.stops H' ⟨ex_l e hx, ex_l e hy⟩, fun i x H' H'' hi e y Q q => ?_⟩
  obtain ⟨T, u, z, rfl, hT, rfl, h1, h2⟩ := w.yields i H' x H'' hi ⟨ex_l e hx, ex_l e hy⟩ y
  have q2 := q _ (Ex.new (o := .tup [u, z]) hT)
  have h1 : xs[i]? = some u := h1
  have h2 : ys[i]? = some z := h2
  rw [h1, h2] at q2
  exact gpair (st_of upd_same) q2
/-- a list of pairs -/
theorem turns_pairs {j k : Nat} {f g : Nat → V} (hx : SqL K H1 a xs) (hp : ∀ i x, xs[i]? = some x → ∃ T, x = .ref T ∧ SqT K H1 T [f i, g i]) : Turns (Itl K a) xs.length (gTup K 2 (gCons (gName j) (gCons (gName k) gNil))) σ0 H1 (fun i => (σ0.set j (some (f i))).set k (some (g i))) := by
  refine ⟨fun i H' e hi => ⟨xs, xs[i], ex_l e hx, by simp [hi]⟩, fun H' e => ⟨xs, ex_l e hx, Nat.le_refl _⟩, fun i x H' H'' hi e y Q q => ?_⟩
  obtain ⟨e1, y⟩ := y
  subst e1
  obtain ⟨T, rfl, hT⟩ := hp i x (y xs (ex_l e hx))
  exact gpair (ex_t e hT) (q _ (Ex.refl _))
end
/-- the body of a comprehension's reading, behind its source -/
def LcGo (J : It) (g : TG) (tt : TT) (te : TE) (vs : List Nat) (σ : L2.St) (H1 : Hp) (Q : VK) : Prop :=
  ∀ D, H1 D = none → ∃ W : Nat → Nat → Hp → Prop, (∃ m, W 0 m (upd H1 D (.lst []))) ∧ ∀ i m H, W i m H →
    (J.stop i H ∧ Q (.ref D) H) ∨ (J.go i H ∧ ∃ Nx : Hp → Prop, (∀ H', Nx H' → ∃ m', m' < m ∧ W (i + 1) m' H') ∧ ∀ x H', J.yld i H x H' → g x (wipe σ vs) H' fun σ2 H2 => wipe σ2 vs = wipe σ vs ∧ tt σ2 H2 fun b H3 =>
      if b = true then te σ2 H3 fun y H4 => ∃ acc, H4 D = some (.lst acc) ∧ acc.length < sizeLine ∧ Nx (upd H4 D (.lst (acc ++ [y]))) else Nx H3)
section
variable {J : It} {n : Nat} {g : TG} {tt : TT} {te : TE} {vs : List Nat} {σ : L2.St} {H1 : Hp} {Q : VK} {sg : Nat → L2.St}
/-- any comprehension, by a word of the turn -/
theorem lc_go (T : Turns J n g (wipe σ vs) H1 sg) (hw : ∀ i, i < n → wipe (sg i) vs = wipe σ vs) (Pv : Addr → Nat → Hp → Prop) (h0 : ∀ D, H1 D = none → Pv D 0 (upd H1 D (.lst []))) (hx : ∀ D i H, H1 D = none → Pv D i H → Ex H1 H)
    (hs : ∀ D i H, H1 D = none → i < n → Pv D i H → ∀ H2, Ex H H2 → tt (sg i) H2 fun b H3 => if b = true then te (sg i) H3 fun y H4 => ∃ acc, H4 D = some (.lst acc) ∧ acc.length < sizeLine ∧ Pv D (i + 1) (upd H4 D (.lst (acc ++ [y]))) else Pv D (i + 1) H3)
    (hd : ∀ D H, H1 D = none → Pv D n H → Q (.ref D) H) : LcGo J g tt te vs σ H1 Q := fun D hD => by
  refine ⟨fun i m H => m = n - i ∧ i ≤ n ∧ Pv D i H, ⟨n, by simp, Nat.zero_le _, h0 D hD⟩, ?_⟩
  rintro i m H ⟨rfl, hi, p⟩
  have ex := hx D i H hD p
  by_cases hlt : i < n
  · refine .inr ⟨T.go i H ex hlt, Pv D (i + 1), fun H' p' => ⟨n - (i + 1), by omega, rfl, hlt, p'⟩, fun x H' y => ?_⟩
    exact T.turn i x H H' hlt ex y _ fun H2 e2 => ⟨hw i hlt, hs D i H hD hlt p H2 e2⟩
  · have e : i = n := by omega
    subst e
    exact .inl ⟨T.stop H ex, hd D H hD p⟩
/-- elements that are values -/
theorem lc_vals (f : Nat → Bool) (v : Nat → V) (T : Turns J n g (wipe σ vs) H1 sg) (hw : ∀ i, i < n → wipe (sg i) vs = wipe σ vs) (hn : n ≤ 40000) (ht : ∀ i H', i < n → Ex H1 H' → EvT tt (sg i) H' (f i)) (he : ∀ i H', i < n → Ex H1 H' → f i = true → Ev te (sg i) H' (v i))
    (hq : ∀ D H2, H1 D = none → Ex H1 H2 → H2 D = some (.lst (given n f v)) → Q (.ref D) H2) : LcGo J g tt te vs σ H1 Q := by
  refine lc_go T hw (fun D i H' => Cw H1 f v D i H') (fun D hD => ⟨hD, Ex.new hD, upd_same⟩) (fun D i H _ p => p.2.1) (fun D i H hD hi p H2 e2 => ?_) (fun D H hD p => hq D H hD p.2.1 p.2.2)
  have p2 : Cw H1 f v D i H2 := ⟨p.1, p.2.1.trans e2, e2 _ _ p.2.2⟩
  exact cw_turn p2 (by omega) (ht i H1 hi (Ex.refl _)) (fun hf => he i H1 hi (Ex.refl _) hf)
/-- elements of any kind, none left out; E D i u H: what is known of the i-th, u, in the heap H, whatever stands at D -/
theorem lc_objs (E : Addr → Nat → V → Hp → Prop) (hup : ∀ D i u H H', (∀ a o, a ≠ D → H a = some o → H' a = some o) → E D i u H → E D i u H') (T : Turns J n g (wipe σ vs) H1 sg) (hw : ∀ i, i < n → wipe (sg i) vs = wipe σ vs) (hn : n ≤ 40000) (ht : ∀ i H', i < n → Ex H1 H' → EvT tt (sg i) H' true)
    (he : ∀ D i H' acc, i < n → H1 D = none → Ex H1 H' → H' D = some (.lst acc) → EvP te (sg i) H' (fun H2 u H3 => ∃ p, u = .ref p ∧ H2 p = none ∧ (∃ o, H3 p = some o) ∧ E D i u H3))
    (hq : ∀ D H2 (ps : List Addr), H1 D = none → Ex H1 H2 → ps.length = n → ps.Nodup → (∀ p ∈ ps, H1 p = none ∧ p ≠ D) → H2 D = some (.lst (ps.map V.ref)) → (∀ i p, ps[i]? = some p → E D i (.ref p) H2) → Q (.ref D) H2) : LcGo J g tt te vs σ H1 Q := by
  refine lc_go T hw (fun D i H' => H1 D = none ∧ Ex H1 H' ∧ ∃ ps : List Addr, ps.length = i ∧ ps.Nodup ∧ (∀ p ∈ ps, H1 p = none ∧ p ≠ D ∧ ∃ o, H' p = some o) ∧ H' D = some (.lst (ps.map V.ref)) ∧ ∀ j p, ps[j]? = some p → E D j (.ref p) H')
    (fun D hD => ⟨hD, Ex.new hD, [], rfl, List.nodup_nil, by simp, upd_same, by simp⟩) (fun D i H _ p => p.2.1) (fun D i H hD hi p H2 e2 => ?_) (fun D H hD p => ?_)
  · obtain ⟨p1, p2, ps, l, nd, fr, hDl, hE⟩ := p
    refine ht i H2 hi (p2.trans e2) H2 (Ex.refl _) _ fun H3 e3 => ?_
    show te (sg i) H3 _
    refine he D i H3 _ hi hD ((p2.trans e2).trans e3) (e3 _ _ (e2 _ _ hDl)) H3 (Ex.refl _) _ fun u H4 e4 ⟨p, hu, hp, ⟨o, ho⟩, hEi⟩ => ?_
    subst hu
    have e24 : Ex H H4 := (e2.trans e3).trans e4
    have hpD : p ≠ D := fun z => by
      rw [z, e3 _ _ (e2 _ _ hDl)] at hp
      cases hp
    have hpn : p ∉ ps := fun z => by
      obtain ⟨_, _, o', ho'⟩ := fr p z
      rw [e3 _ _ (e2 _ _ ho')] at hp
      cases hp
    refine ⟨ps.map V.ref, e24 _ _ hDl, sz_lt (by rw [List.length_map]; omega), p1, Ex.mut (p2.trans e24) p1, ps ++ [p], by simp [l], ?_, ?_, ?_, ?_⟩
    · refine List.nodup_append.mpr ⟨nd, by simp, fun a ha b hb => ?_⟩
      have : b = p := by simpa using hb
      subst this
      exact fun z => hpn (z ▸ ha)
    · intro q hq
      rcases List.mem_append.mp hq with hq | hq
      · obtain ⟨a1, a2, o', ho'⟩ := fr q hq
        exact ⟨a1, a2, o', by rw [upd_ne a2]; exact e24 _ _ ho'⟩
      · have : q = p := by simpa using hq
        subst this
        exact ⟨fresh_back ((p2.trans e2).trans e3) hp, hpD, o, by rw [upd_ne hpD]; exact ho⟩
    · rw [upd_same]; simp
    · intro j q hj
      by_cases hjl : j < ps.length
      · rw [List.getElem?_append_left hjl] at hj
        exact hup _ _ _ _ _ (fun a o' haD ha => by rw [upd_ne haD]; exact e24 _ _ ha) (hE j q hj)
      · have hl2 : j < (ps ++ [p]).length := (List.getElem?_eq_some_iff.mp hj).1
        rw [List.length_append, List.length_singleton] at hl2
        have : j = ps.length := by omega
        subst this
        rw [List.getElem?_append_right (Nat.le_refl _), Nat.sub_self] at hj
        have : p = q := Option.some.inj hj
        subst this
        rw [l]
        exact hup _ _ _ _ _ (fun a o' haD ha => by rw [upd_ne haD]; exact ha) hEi
  · obtain ⟨p1, p2, ps, l, nd, fr, hDl, hE⟩ := p
    exact hq D H ps hD p2 l nd (fun p hp => ⟨(fr p hp).1, (fr p hp).2.1⟩) hDl hE
/-- elements that are new lists -/
theorem lc_rows (c : Nat → List V) (T : Turns J n g (wipe σ vs) H1 sg) (hw : ∀ i, i < n → wipe (sg i) vs = wipe σ vs) (hn : n ≤ 40000) (ht : ∀ i H', i < n → Ex H1 H' → EvT tt (sg i) H' true)
    (he : ∀ i H', i < n → Ex H1 H' → EvL te (sg i) H' (c i))
    (hq : ∀ D H2 (ps : List Addr), H1 D = none → Ex H1 H2 → ps.length = n → ps.Nodup → (∀ p ∈ ps, H1 p = none ∧ p ≠ D) → H2 D = some (.lst (ps.map V.ref)) → (∀ i p, ps[i]? = some p → H2 p = some (.lst (c i))) → Q (.ref D) H2) : LcGo J g tt te vs σ H1 Q := by
  refine lc_objs (fun D i u H => ∃ p, u = .ref p ∧ p ≠ D ∧ H p = some (.lst (c i))) (fun D i u H H' h ⟨p, a, b, c⟩ => ⟨p, a, b, h _ _ b c⟩) T hw hn ht (fun D i H' acc hi hD e hacc => ?_) (fun D H2 ps a b c d e f g => hq D H2 ps a b c d e f fun i p hi => ?_)
  · refine (evp_l (he i H' hi e)).imp fun H2 v H3 e2 e3 ⟨p, hv, hp, h3⟩ => ⟨p, hv, hp, ⟨_, h3⟩, p, hv, fun z => ?_, h3⟩
    rw [z, e2 _ _ hacc] at hp
    cases hp
  · obtain ⟨q, hq, _, h⟩ := g i p hi
    cases hq
    exact h
end
theorem et_yes {σ : L2.St} {H : Hp} : EvT tYes σ H true := fun H1 _ _ q => q H1 (Ex.refl _)

/-! comprehensions as a whole -/
abbrev NewRows (n : Nat) (c : Nat → List V) : Hp → V → Hp → Prop := fun H1 u H2 => ∃ (p : Addr) (ps : List Addr), u = .ref p ∧ H1 p = none ∧ ps.length = n ∧ ps.Nodup ∧ (∀ q ∈ ps, H1 q = none ∧ q ≠ p) ∧ H2 p = some (.lst (ps.map V.ref)) ∧ ∀ (i : Nat) (q : Addr), ps[i]? = some q → H2 q = some (.lst (c i))
theorem down_rows {n : Nat} {c : Nat → List V} : Down (NewRows n c) := fun _ _ _ _ e ⟨p, ps, a, b, c, d, f, g⟩ => ⟨p, ps, a, fresh_back e b, c, d, fun q hq => ⟨fresh_back e (f q hq).1, (f q hq).2⟩, g⟩
section
variable {K : PySem.W.Frag} {σ : L2.St} {H : Hp} {te tl : TE} {t : TT} {g : TG} {vs : List Nat} {a b : Addr} {xs ys : List V} {P : Hp → V → Hp → Prop} {ta : TA}
theorem evp_lcL (h : Ev tl σ H (.ref a)) (hx : SqL K H a xs) (hd : Down P) (body : ∀ H1, Ex H H1 → ∀ Q : VK, Ret P H1 Q → LcGo (Itl K a) g t te vs σ H1 Q) : EvP (tLc (iList K tl) g t te vs) σ H P := fun H1 e Q q =>
  h H1 e _ fun H2 e2 => ⟨a, rfl, ⟨xs, ex_l (e.trans e2) hx⟩, body H2 (e.trans e2) Q fun v H3 e3 p => q v H3 (e2.trans e3) (hd _ _ _ _ e2 p)⟩
theorem evp_lcNL (h : EvL tl σ H xs) (hd : Down P) (body : ∀ a H1, Ex H H1 → H1 a = some (.lst xs) → ∀ Q : VK, Ret P H1 Q → LcGo (Itl K a) g t te vs σ H1 Q) : EvP (tLc (iList K tl) g t te vs) σ H P := fun H1 e Q q =>
  h H1 e _ fun a H2 _ e2 h2 => ⟨a, rfl, ⟨xs, sq_of h2⟩, body a H2 (e.trans e2) h2 Q fun v H3 e3 p => q v H3 (e2.trans e3) (hd _ _ _ _ e2 p)⟩
theorem evp_lcR {n : Int} (h : EvA ta σ H [.int n]) (hn : -100000 ≤ n ∧ n ≤ 100000) (hd : Down P) (body : ∀ H1, Ex H H1 → ∀ Q : VK, Ret P H1 Q → LcGo (Itr 0 n.toNat) g t te vs σ H1 Q) : EvP (tLc (iRng1 ta) g t te vs) σ H P := fun H1 e Q q =>
  h H1 e _ fun H2 e2 => ⟨n, rfl, by omega, by omega, body H2 (e.trans e2) Q fun v H3 e3 p => q v H3 (e2.trans e3) (hd _ _ _ _ e2 p)⟩
theorem evp_lcE (h : Ev tl σ H (.ref a)) (hx : SqL K H a xs) (hd : Down P) (body : ∀ H1, Ex H H1 → ∀ Q : VK, Ret P H1 Q → LcGo (Ite K a) g t te vs σ H1 Q) : EvP (tLc (iEnum K (tCons tl tNil)) g t te vs) σ H P := fun H1 e Q q =>
  h H1 e _ fun H2 e2 => ⟨a, xs, rfl, ex_l (e.trans e2) hx, body H2 (e.trans e2) Q fun v H3 e3 p => q v H3 (e2.trans e3) (hd _ _ _ _ e2 p)⟩
theorem evp_lcZ {tl2 : TE} (h : Ev tl σ H (.ref a)) (h2 : Ev tl2 σ H (.ref b)) (hx : SqL K H a xs) (hy : SqL K H b ys) (hd : Down P) (body : ∀ H1, Ex H H1 → ∀ Q : VK, Ret P H1 Q → LcGo (Itz K a b) g t te vs σ H1 Q) : EvP (tLc (iZip K (tCons tl (tCons tl2 tNil))) g t te vs) σ H P := fun H1 e Q q =>
  h H1 e _ fun H2 e2 => h2 H2 (e.trans e2) _ fun H3 e3 => ⟨a, b, xs, ys, rfl, ex_l ((e.trans e2).trans e3) hx, ex_l ((e.trans e2).trans e3) hy, body H3 ((e.trans e2).trans e3) Q fun v H4 e4 p => q v H4 ((e2.trans e3).trans e4) (hd _ _ _ _ (e2.trans e3) p)⟩
/-- values, over enumerate(xs), zip(xs, ys), a list of pairs -/
theorem el_lcE {j k : Nat} (f : Nat → Bool) (v : Nat → V) (h : Ev tl σ H (.ref a)) (hx : SqL K H a xs) (hz : xs.length ≤ 40000) (hw : ∀ x y, wipe (((wipe σ vs).set j (some x)).set k (some y)) vs = wipe σ vs)
    (ht : ∀ (i : Nat) (x : V) H1, Ex H H1 → xs[i]? = some x → EvT t (((wipe σ vs).set j (some (.int (i : Nat)))).set k (some x)) H1 (f i)) (he : ∀ (i : Nat) (x : V) H1, Ex H H1 → xs[i]? = some x → f i = true → Ev te (((wipe σ vs).set j (some (.int (i : Nat)))).set k (some x)) H1 (v i)) :
    EvL (tLc (iEnum K (tCons tl tNil)) (gTup K 2 (gCons (gName j) (gCons (gName k) gNil))) t te vs) σ H (given xs.length f v) := by
  refine el_ofp (evp_lcE h hx down_l fun H1 e Q q => ?_)
  have ga : ∀ i, i < xs.length → xs[i]? = some xs[i]! := fun i hi => by simp [hi]
  refine lc_vals f v (turns_enum (ex_l e hx)) (fun i hi => by rw [ga i hi]; exact hw _ _) hz (fun i H' hi e' => ?_) (fun i H' hi e' hf => ?_) (fun D H2 hD e2 h2 => q _ H2 e2 ⟨D, rfl, hD, h2⟩)
  · show EvT t (((wipe σ vs).set j (some (.int (i : Nat)))).set k xs[i]?) H' (f i)
    rw [ga i hi]
    exact ht i _ H' (e.trans e') (ga i hi)
  · show Ev te (((wipe σ vs).set j (some (.int (i : Nat)))).set k xs[i]?) H' (v i)
    rw [ga i hi]
    exact he i _ H' (e.trans e') (ga i hi) hf
theorem el_lcZ {tl2 : TE} {j k : Nat} (f : Nat → Bool) (v : Nat → V) (h : Ev tl σ H (.ref a)) (h2 : Ev tl2 σ H (.ref b)) (hx : SqL K H a xs) (hy : SqL K H b ys) (hz : xs.length ≤ 40000) (hw : ∀ x y, wipe (((wipe σ vs).set j (some x)).set k (some y)) vs = wipe σ vs)
    (ht : ∀ (i : Nat) (x y : V) H1, Ex H H1 → xs[i]? = some x → ys[i]? = some y → EvT t (((wipe σ vs).set j (some x)).set k (some y)) H1 (f i)) (he : ∀ (i : Nat) (x y : V) H1, Ex H H1 → xs[i]? = some x → ys[i]? = some y → f i = true → Ev te (((wipe σ vs).set j (some x)).set k (some y)) H1 (v i)) :
    EvL (tLc (iZip K (tCons tl (tCons tl2 tNil))) (gTup K 2 (gCons (gName j) (gCons (gName k) gNil))) t te vs) σ H (given (min xs.length ys.length) f v) := by
  refine el_ofp (evp_lcZ h h2 hx hy down_l fun H1 e Q q => ?_)
  have ga : ∀ i, i < min xs.length ys.length → xs[i]? = some xs[i]! := fun i hi => by simp [show i < xs.length by omega]
  have gb : ∀ i, i < min xs.length ys.length → ys[i]? = some ys[i]! := fun i hi => by simp [show i < ys.length by omega]
  refine lc_vals f v (turns_zip rfl (ex_l e hx) (ex_l e hy)) (fun i hi => by rw [ga i hi, gb i hi]; exact hw _ _) (by omega) (fun i H' hi e' => ?_) (fun i H' hi e' hf => ?_) (fun D H2 hD e2 h2 => q _ H2 e2 ⟨D, rfl, hD, h2⟩)
  · show EvT t (((wipe σ vs).set j xs[i]?).set k ys[i]?) H' (f i)
    rw [ga i hi, gb i hi]
    exact ht i _ _ H' (e.trans e') (ga i hi) (gb i hi)
  · show Ev te (((wipe σ vs).set j xs[i]?).set k ys[i]?) H' (v i)
    rw [ga i hi, gb i hi]
    exact he i _ _ H' (e.trans e') (ga i hi) (gb i hi) hf
theorem el_lcP {j k : Nat} {p q : Nat → V} (f : Nat → Bool) (v : Nat → V) (h : Ev tl σ H (.ref a)) (hx : SqL K H a xs) (hp : ∀ (i : Nat) x, xs[i]? = some x → ∃ T, x = .ref T ∧ SqT K H T [p i, q i]) (hz : xs.length ≤ 40000) (hw : ∀ x y, wipe (((wipe σ vs).set j (some x)).set k (some y)) vs = wipe σ vs)
    (ht : ∀ (i : Nat) H1, Ex H H1 → i < xs.length → EvT t (((wipe σ vs).set j (some (p i))).set k (some (q i))) H1 (f i)) (he : ∀ (i : Nat) H1, Ex H H1 → i < xs.length → f i = true → Ev te (((wipe σ vs).set j (some (p i))).set k (some (q i))) H1 (v i)) :
    EvL (tLc (iList K tl) (gTup K 2 (gCons (gName j) (gCons (gName k) gNil))) t te vs) σ H (given xs.length f v) := by
  refine el_ofp (evp_lcL h hx down_l fun H1 e Q r => ?_)
  exact lc_vals f v (turns_pairs (f := p) (g := q) (ex_l e hx) fun i x hi => (hp i x hi).imp fun T hT => ⟨hT.1, ex_t e hT.2⟩) (fun i hi => hw _ _) hz (fun i H' hi e' => ht i H' (e.trans e') hi) (fun i H' hi e' hf => he i H' (e.trans e') hi hf) (fun D H2 hD e2 h2 => r _ H2 e2 ⟨D, rfl, hD, h2⟩)
/-- new lists, over a list, over a range -/
theorem evp_rowsL {j : Nat} (c : Nat → List V) (h : Ev tl σ H (.ref a)) (hx : SqL K H a xs) (hz : xs.length ≤ 40000) (hw : ∀ x, wipe ((wipe σ vs).set j (some x)) vs = wipe σ vs) (he : ∀ (i : Nat) (x : V) H1, Ex H H1 → xs[i]? = some x → EvL te ((wipe σ vs).set j (some x)) H1 (c i)) :
    EvP (tLc (iList K tl) (gName j) tYes te vs) σ H (NewRows xs.length c) := by
  refine evp_lcL h hx down_rows fun H1 e Q q => ?_
  have ga : ∀ i, i < xs.length → xs[i]? = some xs[i]! := fun i hi => by simp [hi]
  refine lc_rows c (turns_list (ex_l e hx)) (fun i hi => by rw [ga i hi]; exact hw _) hz (fun i H' hi e' => et_yes) (fun i H' hi e' => ?_) (fun D H2 ps a1 a2 a3 a4 a5 a6 a7 => q _ H2 a2 ⟨D, ps, rfl, a1, a3, a4, a5, a6, a7⟩)
  show EvL te ((wipe σ vs).set j xs[i]?) H' (c i)
  rw [ga i hi]
  exact he i _ H' (e.trans e') (ga i hi)
theorem evp_rowsR {j : Nat} {n : Int} (c : Nat → List V) (h : EvA ta σ H [.int n]) (hn : -100000 ≤ n ∧ n ≤ 40000) (hw : ∀ x, wipe ((wipe σ vs).set j (some x)) vs = wipe σ vs) (he : ∀ (i : Nat) H1, Ex H H1 → i < n.toNat → EvL te ((wipe σ vs).set j (some (.int (i : Nat)))) H1 (c i)) :
    EvP (tLc (iRng1 ta) (gName j) tYes te vs) σ H (NewRows n.toNat c) := by
  refine evp_lcR h (by omega) down_rows fun H1 e Q q => ?_
  refine lc_rows c (turns_range (lo := 0)) (fun i hi => hw _) (by omega) (fun i H' hi e' => et_yes) (fun i H' hi e' => ?_) (fun D H2 ps a1 a2 a3 a4 a5 a6 a7 => q _ H2 a2 ⟨D, ps, rfl, a1, a3, a4, a5, a6, a7⟩)
  have e0 : (0 : Int) + (i : Nat) = (i : Nat) := Int.zero_add _
  show EvL te ((wipe σ vs).set j (some (.int (0 + (i : Nat))))) H' (c i)
  rw [e0]
  exact he i H' (e.trans e') hi
end
theorem given_all {n : Nat} {v : Nat → V} {xs : List V} (hl : xs.length = n) (h : ∀ i x, xs[i]? = some x → v i = x) : given n (fun _ => true) v = xs := by
  unfold given
  rw [List.filter_eq_self.mpr (fun _ _ => rfl)]
  refine List.ext_getElem? fun i => ?_
  rw [List.getElem?_map]
  by_cases hi : i < n
  · rw [List.getElem?_range hi]
    have h2 : i < xs.length := by omega
    have := h i xs[i] (by simp [h2])
    simp [h2, this]
  · rw [List.getElem?_eq_none (by simp; omega), List.getElem?_eq_none (by omega)]
    rfl

/-! ### more of loops, of ifs -/
section
variable {K : PySem.W.Frag} {σ : L2.St} {H : Hp} {te tl ta tb : TE} {t : TT} {g : TG} {a b : Addr} {xs ys : List V} {P : Hp → V → Hp → Prop} {D : Ends} {tu tz : TS} {x v : V}
theorem evp_if {b : Bool} (h : EvT t σ H b) (h1 : b = true → EvP ta σ H P) (h2 : b = false → EvP tb σ H P) (hd : Down P) : EvP (tIf t ta tb) σ H P := fun H1 e Q q => h H1 e _ fun H2 e2 => by
  cases b with
  | true =>
    show ta σ H2 Q
    exact h1 rfl H2 (e.trans e2) Q fun v H3 e3 p => q v H3 (e2.trans e3) (hd _ _ _ _ e2 p)
  | false =>
    show tb σ H2 Q
    exact h2 rfl H2 (e.trans e2) Q fun v H3 e3 p => q v H3 (e2.trans e3) (hd _ _ _ _ e2 p)
/-- an item of a tuple just made -/
theorem ev_ixNT {i : Int} (ha : EvU ta σ H xs) (hb : Ev tb σ H (.int i)) (hx : atI xs i = some v) : Ev (tOp (rIxT K) ta tb) σ H v := fun H1 e Q q =>
  ha H1 e _ fun p H2 _ e2 h2 => hb H2 (e.trans e2) _ fun H3 e3 => ⟨p, xs, i, v, rfl, rfl, st_of (e3 _ _ h2), hx, q H3 (e2.trans e3)⟩
/-- an item of a tuple that a call hands back -/
theorem ev_ixPT {i : Int} (ha : EvP ta σ H P) (hb : ∀ H1, Ex H H1 → Ev tb σ H1 (.int i)) (hp : ∀ H1 u H2, P H1 u H2 → ∃ p xs, u = .ref p ∧ SqT K H2 p xs ∧ atI xs i = some v) : Ev (tOp (rIxT K) ta tb) σ H v := fun H1 e Q q =>
  ha H1 e _ fun u H2 e2 hu => hb H2 (e.trans e2) H2 (Ex.refl _) _ fun H3 e3 => by
    obtain ⟨p, xs, rfl, hs, hx⟩ := hp H1 u H2 hu
    exact ⟨p, xs, i, v, rfl, rfl, ex_t e3 hs, hx, q H3 (e2.trans e3)⟩
theorem ev_neDL {d e : PyData} (ha : Ev ta σ H x) (hb : EvL tb σ H xs) (hd : ∀ H1, Ex H H1 → Dp K H1 x d) (he : ∀ p H1, Ex H H1 → H1 p = some (.lst xs) → Dp K H1 (.ref p) e) (sd : SeqAt.shaped d = true) (se : SeqAt.shaped e = true) : Ev (tOp (rNeD K) ta tb) σ H (.bl (!PyData.eqv d e)) :=
  ev_opL ha hb fun p H1 hp e1 => rv_val fun H2 e2 Q q => ⟨d, e, hd H2 (e1.trans e2), he p H2 (e1.trans e2) (e2 _ _ hp), sd, se, q⟩
/-- xs.append(e) -/
theorem sP_app {l : Addr} {xs : List V} (hl : H l = some (.lst xs)) (ha : Ev ta σ H (.ref l)) (h : EvP te σ H P) (hd : Down P) (hz : xs.length < 100000) (k : ∀ v H1, Ex H H1 → P H v H1 → D.nx σ (upd H1 l (.lst (xs ++ [v])))) :
    tDrop (tBM K "list" rAppend ta (tCons te tNil)) D σ H := ha H (Ex.refl H) _ fun H1 e1 =>
  ⟨Or.inl ⟨rfl, xs, sq_of (e1 l _ hl)⟩, h H1 e1 _ fun v H2 e2 p => ⟨l, xs, v, rfl, rfl, e2 l _ (e1 l _ hl), sz_lt hz, k v H2 (e1.trans e2) (hd _ _ _ _ e1 p)⟩⟩
theorem qP_app {l : Addr} {xs : List V} (hl : H l = some (.lst xs)) (ha : Ev ta σ H (.ref l)) (h : EvP te σ H P) (hd : Down P) (hz : xs.length < 100000) (k : ∀ v H1, Ex H H1 → P H v H1 → tz D σ (upd H1 l (.lst (xs ++ [v])))) :
    tSeq (tDrop (tBM K "list" rAppend ta (tCons te tNil))) tz D σ H := sP_app (D := { D with nx := tz D }) hl ha h hd hz k
/-- xs.extend(e) -/
theorem qP_ext {l : Addr} {xs : List V} (hl : H l = some (.lst xs)) (ha : Ev ta σ H (.ref l)) (h : EvP te σ H P) (hd : Down P) (k : ∀ v H1, Ex H H1 → P H v H1 → ∃ b zs, v = .ref b ∧ H1 b = some (.lst zs) ∧ xs.length + zs.length ≤ 100000 ∧ tz D σ (upd H1 l (.lst (xs ++ zs)))) :
    tSeq (tDrop (tBM K "list" rExtend ta (tCons te tNil))) tz D σ H := ha H (Ex.refl H) _ fun H1 e1 =>
  ⟨Or.inl ⟨rfl, xs, sq_of (e1 l _ hl)⟩, h H1 e1 _ fun v H2 e2 p => by
    obtain ⟨b, zs, rfl, hb, hz, q⟩ := k v H2 (e1.trans e2) (hd _ _ _ _ e1 p)
    exact ⟨l, b, xs, zs, rfl, rfl, e2 l _ (e1 l _ hl), hb, sz_of hz, q⟩⟩
/-- for i, x in enumerate(xs) -/
theorem goE {j k : Nat} (Pv : Nat → L2.St → Hp → Prop) (h0 : Pv 0 σ H) (hl : ∀ i σ' H', i ≤ xs.length → Pv i σ' H' → SqL K H' a xs)
    (hs : ∀ (i : Nat) x σ' H', xs[i]? = some x → Pv i σ' H' → ∀ H2, Ex H' H2 → tu { D with nx := Pv (i + 1), ct := Pv (i + 1), bk := D.nx } ((σ'.set j (some (.int (i : Nat)))).set k (some x)) H2) (hd : ∀ σ' H', Pv xs.length σ' H' → D.nx σ' H') :
    ∃ W : Nat → Nat → L2.St → Hp → Prop, (∃ m, W 0 m σ H) ∧ ∀ i m σ H, W i m σ H →
      ((Ite K a).stop i H ∧ D.nx σ H) ∨ ((Ite K a).go i H ∧ ∃ N : L2.St → Hp → Prop, (∀ σ' H', N σ' H' → ∃ m', m' < m ∧ W (i + 1) m' σ' H') ∧ ∀ x H', (Ite K a).yld i H x H' → gTup K 2 (gCons (gName j) (gCons (gName k) gNil)) x σ H' fun σ2 H2 => tu { D with nx := N, ct := N, bk := D.nx } σ2 H2) := by
  refine for_it (walk_enum (K := K) (a := a) (xs := xs)) Pv h0 hl (fun i x σ' H1 H2 hi p y => ?_) hd
  obtain ⟨T, u, z, rfl, hT, rfl, h1, h2⟩ := y
  have h1 : some (V.int (i : Nat)) = some u := h1
  cases h1
  exact gpair (st_of upd_same) (hs i z σ' H1 h2 p _ (Ex.new hT))
theorem s_forE {j k : Nat} (h : Ev tl σ H (.ref a)) (hx : SqL K H a xs) (Pv : Nat → L2.St → Hp → Prop) (h0 : ∀ H1, Ex H H1 → Pv 0 σ H1) (hl : ∀ i σ' H', i ≤ xs.length → Pv i σ' H' → SqL K H' a xs)
    (hs : ∀ (i : Nat) x σ' H', xs[i]? = some x → Pv i σ' H' → ∀ H2, Ex H' H2 → tu { D with nx := Pv (i + 1), ct := Pv (i + 1), bk := D.nx } ((σ'.set j (some (.int (i : Nat)))).set k (some x)) H2) (hd : ∀ σ' H', Pv xs.length σ' H' → D.nx σ' H') :
    tFor (iEnum K (tCons tl tNil)) (gTup K 2 (gCons (gName j) (gCons (gName k) gNil))) tu D σ H := h H (Ex.refl H) _ fun H1 e => ⟨a, xs, rfl, ex_l e hx, goE Pv (h0 H1 e) hl hs hd⟩
theorem q_forE {j k : Nat} (h : Ev tl σ H (.ref a)) (hx : SqL K H a xs) (Pv : Nat → L2.St → Hp → Prop) (h0 : ∀ H1, Ex H H1 → Pv 0 σ H1) (hl : ∀ i σ' H', i ≤ xs.length → Pv i σ' H' → SqL K H' a xs)
    (hs : ∀ (i : Nat) x σ' H', xs[i]? = some x → Pv i σ' H' → ∀ H2, Ex H' H2 → tu { D with nx := Pv (i + 1), ct := Pv (i + 1), bk := tz D } ((σ'.set j (some (.int (i : Nat)))).set k (some x)) H2) (hd : ∀ σ' H', Pv xs.length σ' H' → tz D σ' H') :
    tSeq (tFor (iEnum K (tCons tl tNil)) (gTup K 2 (gCons (gName j) (gCons (gName k) gNil))) tu) tz D σ H := s_forE (D := { D with nx := tz D }) h hx Pv h0 hl hs hd
theorem s_forNE {j k : Nat} (h : EvL tl σ H xs) (Pv : Addr → Nat → L2.St → Hp → Prop) (h0 : ∀ p H1, H p = none → Ex H H1 → H1 p = some (.lst xs) → Pv p 0 σ H1) (hl : ∀ p i σ' H', i ≤ xs.length → Pv p i σ' H' → SqL K H' p xs)
    (hs : ∀ p (i : Nat) x σ' H', xs[i]? = some x → Pv p i σ' H' → ∀ H2, Ex H' H2 → tu { D with nx := Pv p (i + 1), ct := Pv p (i + 1), bk := D.nx } ((σ'.set j (some (.int (i : Nat)))).set k (some x)) H2) (hd : ∀ p σ' H', Pv p xs.length σ' H' → D.nx σ' H') :
    tFor (iEnum K (tCons tl tNil)) (gTup K 2 (gCons (gName j) (gCons (gName k) gNil))) tu D σ H := h H (Ex.refl H) _ fun p H1 hp e h1 => ⟨p, xs, rfl, sq_of h1, goE (Pv p) (h0 p H1 hp e h1) (hl p) (hs p) (hd p)⟩
end
/-! ### bits -/
section
open Builtin.Int
theorem bits_iff {x : Int} {n : Nat} : intBits x ≤ n ↔ x.natAbs < 2 ^ n := by
  unfold intBits
  by_cases h : x = 0
  · subst h
    simp
    exact Nat.pow_pos (by decide)
  · have h1 : x.natAbs ≠ 0 := by omega
    have h2 : (x == 0) = false := by simp [h]
    first
      | (rw [h2]; simp only [Bool.false_eq_true, if_false]; rw [Nat.add_one_le_iff]; exact Nat.log2_lt h1)
      | (rw [if_neg h]; rw [Nat.add_one_le_iff]; exact Nat.log2_lt h1)
theorem bits_add {x y : Int} {n : Nat} (hx : intBits x ≤ n) (hy : intBits y ≤ n) : intBits (x + y) ≤ n + 1 := by
  rw [bits_iff] at *
  have h := Int.natAbs_add_le x y
  rw [Nat.pow_succ]
  omega
theorem bits_mul {x y : Int} {n m : Nat} (hx : intBits x ≤ n) (hy : intBits y ≤ m) : intBits (x * y) ≤ n + m := by
  rw [bits_iff] at *
  rw [Int.natAbs_mul, Nat.pow_add]
  exact Nat.mul_lt_mul'' hx hy
theorem bits_mono {x : Int} {n m : Nat} (hx : intBits x ≤ n) (h : n ≤ m) : intBits x ≤ m := Nat.le_trans hx h
theorem bits_lt {x : Int} {n : Nat} (h : x.natAbs < 2 ^ n) : intBits x ≤ n := bits_iff.mpr h
theorem bits_div {x k : Int} {n : Nat} (hx : intBits x ≤ n) (hk : 0 < k) : intBits (x / k) ≤ n := by
  rw [bits_iff] at *
  have h1 := Int.mul_ediv_add_emod x k
  have h2 := Int.emod_nonneg x (show k ≠ 0 by omega)
  have h3 := Int.emod_lt_of_pos x hk
  have : (x / k).natAbs ≤ x.natAbs := by
    by_cases h : 0 ≤ x
    · have a := Int.ediv_nonneg h (show 0 ≤ k by omega)
      have b := Int.ediv_le_self k h
      omega
    · have a : x / k < 0 := Int.ediv_neg_of_neg_of_pos (by omega) hk
      have b : k * (x / k + 1) ≤ 1 * (x / k + 1) := Int.mul_le_mul_of_nonpos_right (by omega) (by omega)
      rw [Int.mul_add, Int.mul_one, Int.one_mul] at b
      generalize x / k = q at *
      generalize k * q = y at *
      omega
  omega
theorem mulOk_bits {x y : Int} {n m : Nat} (hx : intBits x ≤ n) (hy : intBits y ≤ m) (h : n + m ≤ 134217728) : IntMulOk x y := by
  unfold IntMulOk
  intro z
  rw [Bool.and_eq_true] at z
  have z2 := z.2
  unfold intTooBig at z2
  have z3 := of_decide_eq_true z2
  rw [bitsLine_eq] at z3
  omega
theorem mulOk_small {x y : Int} (h1 : -(2 ^ 63) < x) (h2 : x < 2 ^ 63) : IntMulOk x y := IntMulOk.of_left (intBits_le_64 (by omega) (by omega))
theorem mulOk_smallR {x y : Int} (h1 : -(2 ^ 63) < y) (h2 : y < 2 ^ 63) : IntMulOk x y := IntMulOk.of_right (intBits_le_64 (by omega) (by omega))
end
/-! ### a table of ints -/
structure Tab (H : Hp) (a : Addr) (rs : List Addr) (T : List (List Int)) : Prop where
  top : H a = some (.lst (rs.map V.ref))
  len : rs.length = T.length
  row : ∀ (i : Nat) (r : Addr) (u : List Int), rs[i]? = some r → T[i]? = some u → H r = some (.lst (u.map V.int))
section
variable {H H' : Hp} {a : Addr} {rs : List Addr} {T : List (List Int)}
theorem Tab.mono (h : Tab H a rs T) (e : Ex H H') : Tab H' a rs T := ⟨e _ _ h.top, h.len, fun i r u h1 h2 => e _ _ (h.row i r u h1 h2)⟩
theorem Tab.at (h : Tab H a rs T) {i : Nat} {u : List Int} (hu : T[i]? = some u) : ∃ r, rs[i]? = some r ∧ H r = some (.lst (u.map V.int)) := by
  have hi : i < rs.length := by rw [h.len]; exact (List.getElem?_eq_some_iff.mp hu).1
  exact ⟨rs[i], by simp [hi], h.row i _ u (by simp [hi]) hu⟩
theorem Tab.ref (h : Tab H a rs T) {i : Nat} {r : Addr} (hr : rs[i]? = some r) : ∃ u, T[i]? = some u ∧ H r = some (.lst (u.map V.int)) := by
  have hi : i < T.length := by rw [← h.len]; exact (List.getElem?_eq_some_iff.mp hr).1
  exact ⟨T[i], by simp [hi], h.row i r _ hr (by simp [hi])⟩
theorem Tab.ne (h : Tab H a rs T) {r : Addr} (hr : r ∈ rs) : a ≠ r := by
  obtain ⟨i, hi⟩ := List.mem_iff_getElem?.mp hr
  obtain ⟨u, _, hu⟩ := h.ref hi
  refine ne_of h.top hu fun z => ?_
  have z := HO.lst.inj z
  cases rs with
  | nil => cases hr
  | cons x l =>
    cases u with
    | nil => cases z
    | cons y m => cases z
theorem map_set_int (u : List Int) (j : Nat) (x : Int) : (u.map V.int).set j (.int x) = (u.set j x).map V.int := by rw [List.map_set]
/-- one cell is set -/
theorem Tab.set (h : Tab H a rs T) (nd : rs.Nodup) {i : Nat} {r : Addr} {u w : List Int} (hr : rs[i]? = some r) (hu : T[i]? = some u) : Tab (upd H r (.lst (w.map V.int))) a rs (T.set i w) := by
  have hi : i < T.length := (List.getElem?_eq_some_iff.mp hu).1
  refine ⟨by rw [upd_ne (h.ne (List.mem_of_getElem? hr))]; exact h.top, by rw [List.length_set]; exact h.len, fun j s v hs hv => ?_⟩
  by_cases hj : j = i
  · subst hj
    rw [hr] at hs
    cases hs
    rw [List.getElem?_set_self hi] at hv
    cases hv
    exact upd_same
  · rw [List.getElem?_set_ne (Ne.symm hj)] at hv
    have hne : s ≠ r := fun z => hj (nd_ix nd hs (z ▸ hr))
    rw [upd_ne hne]
    exact h.row j s v hs hv
/-- one row more -/
theorem Tab.snoc (h : Tab H a rs T) {r : Addr} {u : List Int} (hr : H r = some (.lst (u.map V.int))) (hra : r ≠ a) : Tab (upd H a (.lst (rs.map V.ref ++ [.ref r]))) a (rs ++ [r]) (T ++ [u]) := by
  refine ⟨by rw [upd_same]; simp, by rw [List.length_append, List.length_append, h.len]; rfl, fun i s v hs hv => ?_⟩
  by_cases hi : i < rs.length
  · rw [List.getElem?_append_left hi] at hs
    rw [List.getElem?_append_left (by rw [← h.len]; exact hi)] at hv
    rw [upd_ne (Ne.symm (h.ne (List.mem_of_getElem? hs)))]
    exact h.row i s v hs hv
  · have hl : i < (rs ++ [r]).length := (List.getElem?_eq_some_iff.mp hs).1
    rw [List.length_append, List.length_singleton] at hl
    have hi2 : i = rs.length := by omega
    subst hi2
    rw [List.getElem?_append_right (Nat.le_refl _), Nat.sub_self] at hs
    rw [h.len, List.getElem?_append_right (Nat.le_refl _), Nat.sub_self] at hv
    have e1 : r = s := Option.some.inj hs
    have e2 : u = v := Option.some.inj hv
    subst e1 e2
    rw [upd_ne hra]
    exact hr
theorem Tab.sq {K : PySem.W.Frag} (h : Tab H a rs T) : SqL K H a (rs.map V.ref) := sq_of h.top
theorem ref_at {i : Nat} {r : Addr} (h : rs[i]? = some r) : (rs.map V.ref)[i]? = some (.ref r) := by rw [List.getElem?_map, h]; rfl
theorem int_at {u : List Int} {j : Nat} {x : Int} (h : u[j]? = some x) : (u.map V.int)[j]? = some (.int x) := by rw [List.getElem?_map, h]; rfl
/-- another object changes -/
theorem Tab.keep (h : Tab H a rs T) {p : Addr} {o : HO} (hp : p ≠ a) (hr : p ∉ rs) : Tab (upd H p o) a rs T :=
  ⟨by rw [upd_ne (Ne.symm hp)]; exact h.top, h.len, fun i r u h1 h2 => by rw [upd_ne (fun z : r = p => hr (z ▸ List.mem_of_getElem? h1))]; exact h.row i r u h1 h2⟩
end
/-- T[i][j], table[i][j] -/
theorem ev_cell {K : PySem.W.Frag} {σ : L2.St} {H : Hp} {a : Addr} {rs : List Addr} {T : List (List Int)} {ta tb tc : TE} {i j : Nat} {u : List Int} {x : Int} (ha : Ev ta σ H (.ref a)) (hb : Ev tb σ H (.int (i : Int))) (hc : Ev tc σ H (.int (j : Int))) (h : Tab H a rs T) (hu : T[i]? = some u) (hx : u[j]? = some x) :
    Ev (tOp (rIxL K) (tOp (rIxL K) ta tb) tc) σ H (.int x) := by
  obtain ⟨r, hr, h2⟩ := h.at hu
  exact ev_ixL (ev_ixL ha hb h.sq (atI_nat (ref_at hr))) hc (sq_of h2) (atI_nat (int_at hx))
theorem ev_row {K : PySem.W.Frag} {σ : L2.St} {H : Hp} {a : Addr} {rs : List Addr} {T : List (List Int)} {ta tb : TE} {i : Nat} {r : Addr} (ha : Ev ta σ H (.ref a)) (hb : Ev tb σ H (.int (i : Int))) (h : Tab H a rs T) (hr : rs[i]? = some r) :
    Ev (tOp (rIxL K) ta tb) σ H (.ref r) := ev_ixL ha hb h.sq (atI_nat (ref_at hr))
/-- a new table, rows of its own -/
abbrev NewT (T : List (List Int)) : Hp → V → Hp → Prop := fun H1 u H2 => ∃ (p : Addr) (rs : List Addr), u = .ref p ∧ H1 p = none ∧ rs.Nodup ∧ (∀ r ∈ rs, H1 r = none) ∧ Tab H2 p rs T
theorem down_t {T : List (List Int)} : Down (NewT T) := fun _ _ _ _ e ⟨p, rs, a, n, nd, fr, h⟩ => ⟨p, rs, a, fresh_back e n, nd, fun r hr => fresh_back e (fr r hr), h⟩

/-! ### data -/
def intsD (ns : List Int) : PyData := .list (ns.map .int)
def tabD (T : List (List Int)) : PyData := .list (T.map intsD)
mutual
theorem Dp.mono {K : PySem.W.Frag} {H H' : Hp} (e : Ex H H') : ∀ (d : PyData) (v : V), Dp K H v d → Dp K H' v d
  | .none, _, h => by cases h; exact .non
  | .bool b, _, h => by cases h; exact .bl b
  | .int i, _, h => by cases h; exact .int i
  | .str x, _, h => by cases h; exact .str x
  | .list ds, _, h => by
    cases h with
    | lst hs ha => exact .lst (ex_l e hs) (DpAll.mono e ds _ ha)
  | .tuple ds, _, h => by
    cases h with
    | tup hs ha => exact .tup (ex_t e hs) (DpAll.mono e ds _ ha)
  | .dict _, _, h => by cases h
theorem DpAll.mono {K : PySem.W.Frag} {H H' : Hp} (e : Ex H H') : ∀ (ds : List PyData) (vs : List V), DpAll K H vs ds → DpAll K H' vs ds
  | [], _, h => by cases h; exact .nil
  | d :: ds, _, h => by
    cases h with
    | cons h1 h2 => exact .cons (Dp.mono e d _ h1) (DpAll.mono e ds _ h2)
end
section
variable {K : PySem.W.Frag} {H : Hp}
theorem dpa_ints : ∀ ns : List Int, DpAll K H (ns.map V.int) (ns.map .int)
  | [] => .nil
  | n :: r => .cons (.int n) (dpa_ints r)
theorem dp_ints {a : Addr} {ns : List Int} (h : H a = some (.lst (ns.map V.int))) : Dp K H (.ref a) (intsD ns) := .lst (sq_of h) (dpa_ints ns)
theorem dpa_of : ∀ {vs : List V} {ds : List PyData}, vs.length = ds.length → (∀ (i : Nat) v d, vs[i]? = some v → ds[i]? = some d → Dp K H v d) → DpAll K H vs ds
  | [], [], _, _ => .nil
  | [], _ :: _, h, _ => by simp at h
  | _ :: _, [], h, _ => by simp at h
  | v :: vs, d :: ds, h, q => .cons (q 0 v d rfl rfl) (dpa_of (by simpa using h) fun i v' d' h1 h2 => q (i + 1) v' d' (by simpa using h1) (by simpa using h2))
theorem Tab.dp {a : Addr} {rs : List Addr} {T : List (List Int)} (h : Tab H a rs T) : Dp K H (.ref a) (tabD T) := by
  refine .lst h.sq (dpa_of (by simp [h.len]) fun i v d h1 h2 => ?_)
  rw [List.getElem?_map] at h1 h2
  cases hr : rs[i]? with
  | none => rw [hr] at h1; cases h1
  | some r =>
    obtain ⟨u, hu, h3⟩ := h.ref hr
    rw [hr] at h1
    rw [hu] at h2
    cases h1
    cases h2
    exact dp_ints h3
end
theorem canLay_ints : ∀ ns : List Int, PyData.canLayAll0 (ns.map .int) = true
  | [] => rfl
  | n :: r => by
    show (PyData.canLay0 (.int n) && PyData.canLayAll0 (r.map .int)) = true
    rw [canLay_ints r] <;> rfl
theorem canLay_rows : ∀ T : List (List Int), PyData.canLayAll0 (T.map intsD) = true
  | [] => rfl
  | u :: r => by
    show (PyData.canLayAll0 (u.map .int) && PyData.canLayAll0 (r.map intsD)) = true
    rw [canLay_rows r, canLay_ints u] <;> rfl
theorem depth_ints : ∀ ns : List Int, PyData.depthAll (ns.map .int) = 0
  | [] => rfl
  | n :: r => by
    show max (PyData.depth (.int n)) (PyData.depthAll (r.map .int)) = 0
    rw [depth_ints r] <;> rfl
theorem depth_rows : ∀ T : List (List Int), PyData.depthAll (T.map intsD) ≤ 1
  | [] => by decide
  | u :: r => by
    show max (PyData.depthAll (u.map .int) + 1) (PyData.depthAll (r.map intsD)) ≤ 1
    have := depth_rows r
    rw [depth_ints u]
    omega
theorem shaped_ints (ns : List Int) : SeqAt.shaped (intsD ns) = true := by
  unfold SeqAt.shaped intsD
  rw [Bool.and_eq_true]
  refine ⟨canLay_ints ns, decide_eq_true ?_⟩
  show PyData.depthAll (ns.map .int) + 1 ≤ 64
  rw [depth_ints]
  decide
theorem shaped_tab (T : List (List Int)) : SeqAt.shaped (tabD T) = true := by
  unfold SeqAt.shaped tabD
  rw [Bool.and_eq_true]
  refine ⟨canLay_rows T, decide_eq_true ?_⟩
  show PyData.depthAll (T.map intsD) + 1 ≤ 64
  have := depth_rows T
  omega
theorem eqvAll_ints : ∀ a b : List Int, PyData.eqvAll (a.map .int) (b.map .int) = decide (a = b)
  | [], [] => by simp [PyData.eqvAll]
  | [], _ :: _ => by simp [PyData.eqvAll]
  | _ :: _, [] => by simp [PyData.eqvAll]
  | x :: a, y :: b => by
    show (PyData.eqv (.int x) (.int y) && PyData.eqvAll (a.map .int) (b.map .int)) = _
    rw [eqvAll_ints a b]
    show ((x == y) && decide (a = b)) = decide (x :: a = y :: b)
    by_cases h1 : x = y <;> by_cases h2 : a = b <;> simp [h1, h2]
theorem eqv_ints (a b : List Int) : PyData.eqv (intsD a) (intsD b) = decide (a = b) := by
  unfold intsD
  rw [PyData.eqv]
  exact eqvAll_ints a b
theorem eqvAll_rows : ∀ a b : List (List Int), PyData.eqvAll (a.map intsD) (b.map intsD) = decide (a = b)
  | [], [] => by simp [PyData.eqvAll]
  | [], _ :: _ => by simp [PyData.eqvAll]
  | _ :: _, [] => by simp [PyData.eqvAll]
  | x :: a, y :: b => by
    show (PyData.eqv (intsD x) (intsD y) && PyData.eqvAll (a.map intsD) (b.map intsD)) = _
    rw [eqvAll_rows a b, eqv_ints]
    by_cases h1 : x = y <;> by_cases h2 : a = b <;> simp [h1, h2]
theorem eqv_tab (a b : List (List Int)) : PyData.eqv (tabD a) (tabD b) = decide (a = b) := by
  unfold tabD
  rw [PyData.eqv]
  exact eqvAll_rows a b
/-! ### copies, displays, data -/
theorem newT_of {T : List (List Int)} {n : Nat} {H1 H2 : Hp} {v : V} (hn : n = T.length) (h : NewRows n (fun i => (T.getD i []).map V.int) H1 v H2) : NewT T H1 v H2 := by
  obtain ⟨p, ps, hv, np, lp, nd, fr, hp, hps⟩ := h
  refine ⟨p, ps, hv, np, nd, fun r hr => (fr r hr).1, hp, by rw [lp, hn], fun i r u hi hu => ?_⟩
  have h := hps i r hi
  have e : T.getD i [] = u := by simp [List.getD, hu]
  dsimp only at h
  rw [e] at h
  exact h
section
variable {K : PySem.W.Frag} {σ : L2.St} {H : Hp} {te tl ta tb : TE} {a : Addr} {rs : List Addr} {T : List (List Int)} {j : Nat} {P Pa Pb : Hp → V → Hp → Prop} {x v : V}
/-- [list(x) for x in table] -/
theorem evp_copyT (h : Ev tl σ H (.ref a)) (hT : Tab H a rs T) (hz : T.length ≤ 40000) (hj : j < σ.length) (hw : ∀ x, wipe ((wipe σ [j]).set j (some x)) [j] = wipe σ [j]) :
    EvP (tLc (iList K tl) (gName j) tYes (tCB (rListS K) (tCons (tVar j) tNil)) [j]) σ H (NewT T) := by
  have el : (rs.map V.ref).length = T.length := by rw [List.length_map, hT.len]
  refine (evp_rowsL (fun i => (T.getD i []).map V.int) h hT.sq (by rw [el]; exact hz) hw (fun i y H1 e hy => ?_)).imp fun H1 v H2 _ _ hv => newT_of el hv
  have hi : i < T.length := by
    have := (List.getElem?_eq_some_iff.mp hy).1
    rw [el] at this
    exact this
  obtain ⟨r, hr, h1⟩ := (hT.mono e).at (show T[i]? = some T[i] by simp [hi])
  have ey : y = .ref r := Option.some.inj (hy.symm.trans (ref_at hr))
  have e2 : T.getD i [] = T[i] := by simp [List.getD, hi]
  rw [e2, ey]
  refine el_list (ev_var ?_) (sq_of h1)
  rw [List.getElem?_set_self]
  rw [wipe_length]
  exact hj
/-- rows written out -/
def EvRows (ta : TA) (σ : L2.St) (H : Hp) (T : List (List Int)) : Prop := ∀ H1, Ex H H1 → ∀ Q : List V → Hp → Prop, (∀ (rs : List Addr) H2, Ex H1 H2 → rs.Nodup → (∀ r ∈ rs, H1 r = none) → rs.length = T.length → (∀ (i : Nat) r u, rs[i]? = some r → T[i]? = some u → H2 r = some (.lst (u.map V.int))) → Q (rs.map V.ref) H2) → ta σ H1 Q
theorem er_nil : EvRows tNil σ H [] := fun H1 _ Q q => q [] H1 (Ex.refl _) List.nodup_nil (by simp) rfl (by simp)
theorem er_cons {u : List Int} {tr : TA} (h : EvL te σ H (u.map V.int)) (hr : EvRows tr σ H T) : EvRows (tCons te tr) σ H (u :: T) := fun H1 e Q q =>
  h H1 e _ fun p H2 hp e2 h2 => hr H2 (e.trans e2) _ fun rs H3 e3 nd fr hl hrow => by
    refine q (p :: rs) H3 (e2.trans e3) (List.nodup_cons.mpr ⟨fun z => ?_, nd⟩) (fun r hr => ?_) (by simp [hl]) (fun i r w hi hw => ?_)
    · have := fr p z
      rw [h2] at this
      cases this
    · rcases List.mem_cons.mp hr with rfl | hr
      · exact hp
      · exact fresh_back e2 (fr r hr)
    · cases i with
      | zero =>
        cases hi
        cases hw
        exact e3 _ _ h2
      | succ i => exact hrow i r w (by simpa using hi) (by simpa using hw)
theorem evp_dispT {ta : TA} (h : EvRows ta σ H T) (hl : T.length ≤ 100000) : EvP (tLst ta) σ H (NewT T) := fun H1 e Q q =>
  h H1 e _ fun rs H2 e2 nd fr hlen hrow => ⟨by rw [List.length_map, hlen]; exact sz_of hl, fun p hp => q _ _ (e2.trans (Ex.new hp)) ⟨p, rs, rfl, fresh_back e2 hp, nd, fr, upd_same, hlen, fun i r u hi hu => Ex.new hp _ _ (hrow i r u hi hu)⟩⟩
/-- ints written out -/
def EvInts (ta : TA) (σ : L2.St) (H : Hp) (u : List Int) : Prop := EvA ta σ H (u.map V.int)
theorem ei_nil : EvInts tNil σ H [] := ea_nil
theorem ei_cons {n : Int} {u : List Int} {tr : TA} (h : Ev te σ H (.int n)) (hr : EvInts tr σ H u) : EvInts (tCons te tr) σ H (n :: u) := ea_cons h hr
theorem el_ints {ta : TA} {u : List Int} (h : EvInts ta σ H u) (hl : u.length ≤ 100000) : EvL (tLst ta) σ H (u.map V.int) := el_lst h (by rw [List.length_map]; exact hl)
/-- data -/
abbrev IsD (K : PySem.W.Frag) (d : PyData) : Hp → V → Hp → Prop := fun _ v H2 => Dp K H2 v d
def EvDs (K : PySem.W.Frag) (ta : TA) (σ : L2.St) (H : Hp) (ds : List PyData) : Prop := ∀ H1, Ex H H1 → ∀ Q : List V → Hp → Prop, (∀ vs H2, Ex H1 H2 → DpAll K H2 vs ds → Q vs H2) → ta σ H1 Q
theorem dpa_len : ∀ {vs : List V} {ds : List PyData}, DpAll K H vs ds → vs.length = ds.length
  | _, _, .nil => rfl
  | _, _, .cons _ h => by rw [List.length_cons, List.length_cons, dpa_len h]
theorem eds_nil : EvDs K tNil σ H [] := fun H1 _ Q q => q [] H1 (Ex.refl _) .nil
theorem eds_cons {d : PyData} {ds : List PyData} {tr : TA} (h : EvP te σ H (IsD K d)) (hr : EvDs K tr σ H ds) : EvDs K (tCons te tr) σ H (d :: ds) := fun H1 e Q q =>
  h H1 e _ fun v H2 e2 hv => hr H2 (e.trans e2) _ fun vs H3 e3 hs => q (v :: vs) H3 (e2.trans e3) (.cons (Dp.mono e3 _ _ hv) hs)
theorem ed_of {d : PyData} (h : Ev te σ H x) (hd : ∀ H1, Ex H H1 → Dp K H1 x d) : EvP te σ H (IsD K d) := fun H1 e Q q => h H1 e _ fun H2 e2 => q x H2 e2 (hd H2 (e.trans e2))
theorem ed_int {n : Int} (h : Ev te σ H (.int n)) : EvP te σ H (IsD K (.int n)) := ed_of h fun _ _ => .int n
theorem ed_str {n : Str} (h : Ev te σ H (.str n)) : EvP te σ H (IsD K (.str n)) := ed_of h fun _ _ => .str n
theorem ed_tup {ds : List PyData} {ta : TA} (h : EvDs K ta σ H ds) (hl : ds.length ≤ 100000) : EvP (tTup ta) σ H (IsD K (.tuple ds)) := fun H1 e Q q =>
  h H1 e _ fun vs H2 e2 hs => ⟨by rw [dpa_len hs]; exact sz_of hl, fun p hp => q _ _ (e2.trans (Ex.new hp)) (.tup (st_of upd_same) (DpAll.mono (Ex.new hp) _ _ hs))⟩
theorem ed_lst {ds : List PyData} {ta : TA} (h : EvDs K ta σ H ds) (hl : ds.length ≤ 100000) : EvP (tLst ta) σ H (IsD K (.list ds)) := fun H1 e Q q =>
  h H1 e _ fun vs H2 e2 hs => ⟨by rw [dpa_len hs]; exact sz_of hl, fun p hp => q _ _ (e2.trans (Ex.new hp)) (.lst (sq_of upd_same) (DpAll.mono (Ex.new hp) _ _ hs))⟩
theorem ev_neDP {d e : PyData} (ha : EvP ta σ H (IsD K d)) (hb : EvP tb σ H (IsD K e)) (sd : SeqAt.shaped d = true) (se : SeqAt.shaped e = true) : Ev (tOp (rNeD K) ta tb) σ H (.bl (!PyData.eqv d e)) := fun H1 e1 Q q =>
  ha H1 e1 _ fun u H2 e2 hu => hb H2 (e1.trans e2) _ fun w H3 e3 hw => ⟨d, e, Dp.mono e3 _ _ hu, hw, sd, se, q H3 (e2.trans e3)⟩
theorem ev_eqDP {d e : PyData} (ha : EvP ta σ H (IsD K d)) (hb : EvP tb σ H (IsD K e)) (sd : SeqAt.shaped d = true) (se : SeqAt.shaped e = true) : Ev (tOp (rEqD K) ta tb) σ H (.bl (PyData.eqv d e)) := fun H1 e1 Q q =>
  ha H1 e1 _ fun u H2 e2 hu => hb H2 (e1.trans e2) _ fun w H3 e3 hw => ⟨d, e, Dp.mono e3 _ _ hu, hw, sd, se, q H3 (e2.trans e3)⟩
theorem down_d {d : PyData} : Down (IsD K d) := fun _ _ _ _ _ h => h
/-- calls upon what was just made -/
theorem evp_call1 {sp : Sp} {E : XK} (h : EvP te σ H Pa) (hd : Down P) (hs : ∀ v H1 H2, Ex H H1 → Ex H1 H2 → Pa H1 v H2 → ∀ Q : VK, Ret P H2 Q → sp ([v] ++ []) H2 Q E) : EvP (tCall sp [] E (tCons te tNil)) σ H P := fun H1 e Q q =>
  h H1 e _ fun v H2 e2 hv => hs v H1 H2 e e2 hv Q fun u H3 e3 p => q u H3 (e2.trans e3) (hd _ _ _ _ e2 p)
theorem evp_call2 {sp : Sp} {E : XK} {te2 : TE} (h : EvP te σ H Pa) (h2 : ∀ H1, Ex H H1 → Ev te2 σ H1 x) (hd : Down P) (hs : ∀ v H1 H2 H3, Ex H H1 → Ex H1 H2 → Ex H2 H3 → Pa H1 v H2 → ∀ Q : VK, Ret P H3 Q → sp ([v, x] ++ []) H3 Q E) : EvP (tCall sp [] E (tCons te (tCons te2 tNil))) σ H P := fun H1 e Q q =>
  h H1 e _ fun v H2 e2 hv => h2 H2 (e.trans e2) H2 (Ex.refl _) _ fun H3 e3 => hs v H1 H2 H3 e e2 e3 hv Q fun u H4 e4 p => q u H4 ((e2.trans e3).trans e4) (hd _ _ _ _ (e2.trans e3) p)
/-- a, b = e -/
theorem qp_asg2 {i j : Nat} {D : Ends} {tz : TS} (h : EvP te σ H P) (k : ∀ v H1, Ex H H1 → P H v H1 → ∃ T x y, v = .ref T ∧ SqT K H1 T [x, y] ∧ tz D ((σ.set i (some x)).set j (some y)) H1) : tSeq (tAsg te (gTup K 2 (gCons (gName i) (gCons (gName j) gNil)))) tz D σ H := h H (Ex.refl H) _ fun v H1 e p => by
  obtain ⟨T, x, y, rfl, hT, q⟩ := k v H1 e p
  exact gpair hT q
end
/-- the table's rest -/
theorem Tab.drop {H : Hp} {a b : Addr} {rs : List Addr} {T : List (List Int)} (h : Tab H a rs T) (k : Nat) (hb : H b = some (.lst ((rs.map V.ref).drop k))) : Tab H b (rs.drop k) (T.drop k) :=
  ⟨by rw [hb, List.map_drop], by rw [List.length_drop, List.length_drop, h.len], fun i r u hi hu => by
    rw [List.getElem?_drop] at hi hu
    exact h.row _ r u hi hu⟩
theorem cut_drop (xs : List V) (k : Nat) : cutV xs (some (k : Int)) none = xs.drop k := by
  unfold cutV
  rw [HT.sIx_none, HT.sIx_nat]
  by_cases h : k ≤ xs.length
  · rw [Nat.min_eq_left h, List.take_of_length_le (by rw [List.length_drop]; exact Nat.le_refl _)]
  · rw [Nat.min_eq_right (by omega), Nat.sub_self, List.take_zero, List.drop_of_length_le (by omega)]
/-! ### the end -/
theorem def_mk {K : PySem.W.Frag} {h : Heap} {mg : Str → Option Value} (X : K.In h) (G : h.Ns mainGlobals mg) {x : Str} {st : Stmt} {ps : List Str} {f : Addr} {oc : Value} {od an : Option Addr} {osl : Array (Option Value)} {kV doc pm cdv ct : Value}
    (a : PySem.W.nsIn K mainGlobals x = some (some (.ref f))) (l : K.lookup f = some ⟨oc, od, .func (PySem.W.fnOf x x (defArgs st) (defBody st) (defScope st) .none kV doc pm an cdv ct), osl⟩) (c : PySem.W.codeIn K cdv x = true) (k : PySem.W.keepIn K (.ref f) = true)
    (hb : ∀ (kV doc pm : Value) (an : Option Addr) (cdv ct : Value) (us : List Value), us.length = ps.length → bindArgs (PySem.W.fnOf x x (defArgs st) (defBody st) (defScope st) .none kV doc pm an cdv ct) ⟨us, []⟩ = pure (ps.zip us)) : Def K mg x st ps :=
  ⟨f, _, PySem.W.mg_of X G a, fun_mk (st := st) l c k, hb kV doc pm an cdv ct⟩
theorem int_mk {K : PySem.W.Frag} {h : Heap} {mg : Str → Option Value} (X : K.In h) (G : h.Ns mainGlobals mg) {x : Str} {i : Int} {t : Tok} (a : PySem.W.nsIn K mainGlobals x = some (some (.int i t))) : ∃ t, mg x = some (.int i t) := ⟨t, PySem.W.mg_of X G a⟩
theorem walk_end {l : PySem.W.OpenLaw} {q : Program} {loose : List Str} {XP : (Str → Option Value) → Heap → Prop} {YP : World → Heap → Prop} {d : DefRec} {K : Params → PySem.W.Frag} {k : Nat} {st : Stmt} {sp : PySem.W.Frag → Sp}
    (hn : l.most = some 63) (hdf : d.params.defaults = []) (hr : Room k callerA) (hY : ∀ (w : World) (h : Heap), YP w h → (K w.params).In h) (hname : d.name = "law")
    (hsp : ∀ (K : PySem.W.Frag) (H : Hp) (a : Addr) (ns : List Int), ns.length ≤ 63 → (∀ z ∈ ns, Builtin.Int.intBits z ≤ 1048576) → SqL K H a (ns.map V.int) → sp K [.ref a] H (fun v _ => v = .bl true) fun _ _ _ => False)
    (F : ∀ (w : World) (mg : Str → Option Value) (h : Heap), (K w.params).In h → h.Ns mainGlobals mg → Def (K w.params) mg "law" st ["_law_script"] ∧ ∀ base : Heap, Cal l.prog w (K w.params) mg base k "law" ["_law_script"] (sp (K w.params))) :
    PySem.W.WalkO q loose XP YP l.row.toRowW d [] (fun f vs => PySem.call f vs) := by
  refine L2.walk_ofB (n := 63) (k := k) (x := "_law_script") (CX := fun _ => CX0) (sp := fun w => sp (K w.params)) hn (by decide) hdf hr hY (fun w mg fa h KX G hmg => ?_) (fun w H a ns hl hb _ hS => hsp _ H a ns hl hb hS) fun _ _ _ _ _ z => z
  obtain ⟨D, C⟩ := F w mg h KX G
  obtain ⟨f, fd, hm, Fn, hb⟩ := D.ex
  rw [hname, hm] at hmg
  cases hmg
  refine ⟨fd, fun s u => .of_eq (hb [u] rfl), fun base _ _ => ?_⟩
  obtain ⟨f', fd', hm', _, _, ⟨oc, od, sl, lk⟩, Fk⟩ := (C base).ex
  rw [hm] at hm'
  cases hm'
  obtain ⟨oc2, od2, _, _, _, _, _, _, osl, _, lk2, _⟩ := Fn.ex
  rw [lk] at lk2
  cases lk2
  exact Fk
end Lh

namespace Lh
open L2 (sum_set)
/-! ### tables: rows, columns -/
def colAt (T : List (List Int)) (j : Nat) : Int := (T.map fun r => r.getD j 0).sum
def rowSums (T : List (List Int)) : List Int := T.map List.sum
def colSums (T : List (List Int)) (m : Nat) : List Int := (List.range m).map (colAt T)
structure Rect (T : List (List Int)) (n m : Nat) : Prop where
  len : T.length = n
  row : ∀ u ∈ T, u.length = m
structure Good (T : List (List Int)) (n m : Nat) : Prop extends Rect T n m where
  pos : ∀ u ∈ T, ∀ x ∈ u, 0 ≤ x
  n1 : 1 ≤ n
  n20 : n ≤ 20
  m1 : 1 ≤ m
  m20 : m ≤ 20
theorem Rect.rowAt {T : List (List Int)} {n m : Nat} (h : Rect T n m) {i : Nat} {u : List Int} (hu : T[i]? = some u) : u.length = m := h.row u (List.mem_of_getElem? hu)
theorem Rect.lt {T : List (List Int)} {n m : Nat} (h : Rect T n m) {i : Nat} (hi : i < n) : ∃ u, T[i]? = some u ∧ u.length = m := by
  have h2 : i < T.length := by rw [h.len]; exact hi
  exact ⟨T[i], by simp [h2], h.row _ (List.getElem_mem h2)⟩
theorem get_lt {u : List Int} {m j : Nat} (h : u.length = m) (hj : j < m) : ∃ x, u[j]? = some x ∧ u.getD j 0 = x := by
  have h2 : j < u.length := by omega
  exact ⟨u[j], by simp [h2], by simp [List.getD, h2]⟩
theorem getD_of {u : List Int} {j : Nat} {x : Int} (h : u[j]? = some x) : u.getD j 0 = x := by simp [List.getD, h]
theorem Rect.cell {T : List (List Int)} {n m : Nat} (h : Rect T n m) {i j : Nat} (hi : i < n) (hj : j < m) : ∃ u x, T[i]? = some u ∧ u.length = m ∧ u[j]? = some x := by
  obtain ⟨u, hu, hl⟩ := h.lt hi
  obtain ⟨x, hx, _⟩ := get_lt hl hj
  exact ⟨u, x, hu, hl, hx⟩
theorem Rect.set {T : List (List Int)} {n m : Nat} (h : Rect T n m) {i : Nat} {w : List Int} (hw : w.length = m) : Rect (T.set i w) n m := by
  refine ⟨by rw [List.length_set]; exact h.len, fun u hu => ?_⟩
  rcases List.mem_or_eq_of_mem_set hu with h1 | h1
  · exact h.row u h1
  · rw [h1]; exact hw
theorem colSums_len (T : List (List Int)) (m : Nat) : (colSums T m).length = m := by simp [colSums]
theorem colSums_at {T : List (List Int)} {m j : Nat} (h : j < m) : (colSums T m)[j]? = some (colAt T j) := by
  unfold colSums
  rw [List.getElem?_map, List.getElem?_range h]
  rfl
theorem rowSums_len (T : List (List Int)) : (rowSums T).length = T.length := by simp [rowSums]
theorem rowSums_at {T : List (List Int)} {i : Nat} {u : List Int} (h : T[i]? = some u) : (rowSums T)[i]? = some u.sum := by
  unfold rowSums
  rw [List.getElem?_map, h]
  rfl
theorem colAt_nil (j : Nat) : colAt [] j = 0 := rfl
theorem colAt_cons (u : List Int) (T : List (List Int)) (j : Nat) : colAt (u :: T) j = u.getD j 0 + colAt T j := by
  unfold colAt
  rw [List.map_cons, List.sum_cons]
/-- a cell set: the row's sum, the columns' sums -/
theorem colAt_set : ∀ {T : List (List Int)} {i : Nat} {u w : List Int}, T[i]? = some u → ∀ j, colAt (T.set i w) j = colAt T j - u.getD j 0 + w.getD j 0
  | [], i, u, w, h, j => by simp at h
  | a :: T, 0, u, w, h, j => by
    have e : a = u := Option.some.inj h
    subst e
    show colAt (w :: T) j = colAt (a :: T) j - _ + _
    rw [colAt_cons, colAt_cons]
    omega
  | a :: T, i + 1, u, w, h, j => by
    have ih := colAt_set (T := T) (i := i) (u := u) (w := w) h j
    show colAt (a :: T.set i w) j = colAt (a :: T) j - _ + _
    rw [colAt_cons, colAt_cons, ih]
    omega
theorem getD_set_self {u : List Int} {j : Nat} {x : Int} (h : j < u.length) : (u.set j x).getD j 0 = x := by
  unfold List.getD
  rw [List.getElem?_set_self h] <;> rfl
theorem getD_set_ne {u : List Int} {j k : Nat} {x : Int} (h : j ≠ k) : (u.set j x).getD k 0 = u.getD k 0 := by
  unfold List.getD
  rw [List.getElem?_set_ne h]
/-- the sum of a list by its places -/
theorem sum_range_get : ∀ (u : List Int) (m : Nat), u.length = m → ((List.range m).map fun j => u.getD j 0).sum = u.sum
  | [], m, h => by
    subst h
    rfl
  | a :: u, m, h => by
    subst h
    show ((List.range (u.length + 1)).map fun j => (a :: u).getD j 0).sum = _
    rw [List.range_succ_eq_map, List.map_cons, List.sum_cons, List.map_map, List.sum_cons]
    have ih := sum_range_get u u.length rfl
    have e : ((fun j => (a :: u).getD j 0) ∘ Nat.succ) = fun j => u.getD j 0 := by
      funext j
      simp [List.getD]
    rw [e, ih]
    rfl
theorem sum_map_add {α : Type} (f g : α → Int) : ∀ l : List α, (l.map fun x => f x + g x).sum = (l.map f).sum + (l.map g).sum
  | [] => rfl
  | a :: l => by
    rw [List.map_cons, List.map_cons, List.map_cons, List.sum_cons, List.sum_cons, List.sum_cons, sum_map_add f g l]
    omega
theorem sum_map_zero {α : Type} : ∀ l : List α, (l.map fun _ => (0 : Int)).sum = 0
  | [] => rfl
  | a :: l => by
    rw [List.map_cons, List.sum_cons, sum_map_zero l]
    rfl
theorem sum_map_sub {α : Type} (f g : α → Int) : ∀ l : List α, (l.map fun x => f x - g x).sum = (l.map f).sum - (l.map g).sum
  | [] => rfl
  | a :: l => by
    rw [List.map_cons, List.map_cons, List.map_cons, List.sum_cons, List.sum_cons, List.sum_cons, sum_map_sub f g l]
    omega
theorem sum_map_const {α : Type} (c : Int) : ∀ l : List α, (l.map fun _ => c).sum = (l.length : Int) * c
  | [] => by simp
  | a :: l => by
    rw [List.map_cons, List.sum_cons, sum_map_const c l, List.length_cons]
    have : ((l.length + 1 : Nat) : Int) * c = (l.length : Int) * c + c := by
      rw [Int.natCast_add, Int.add_mul]
      simp
    rw [this]
    omega
/-- both ways to add up a table -/
theorem sums_agree : ∀ {T : List (List Int)} {m : Nat}, (∀ u ∈ T, u.length = m) → (rowSums T).sum = (colSums T m).sum
  | [], m, _ => by
    show (0 : Int) = ((List.range m).map fun j => colAt [] j).sum
    have e : (fun j => colAt [] j) = fun _ => (0 : Int) := by
      funext j
      rfl
    rw [e, sum_map_zero]
  | u :: T, m, h => by
    have ih := sums_agree (T := T) (m := m) fun v hv => h v (List.mem_cons_of_mem _ hv)
    show (u.sum :: rowSums T).sum = ((List.range m).map fun j => colAt (u :: T) j).sum
    have e : (fun j => colAt (u :: T) j) = fun j => u.getD j 0 + colAt T j := by
      funext j
      exact colAt_cons u T j
    rw [e, sum_map_add, List.sum_cons, ih, sum_range_get u m (h u List.mem_cons_self)]
    rfl
theorem sum_nonneg : ∀ {l : List Int}, (∀ x ∈ l, 0 ≤ x) → 0 ≤ l.sum
  | [], _ => Int.le_refl 0
  | a :: l, h => by
    have ih := sum_nonneg (l := l) fun x hx => h x (List.mem_cons_of_mem _ hx)
    have ha := h a List.mem_cons_self
    rw [List.sum_cons]
    omega
theorem le_sum : ∀ {l : List Int}, (∀ x ∈ l, 0 ≤ x) → ∀ y ∈ l, y ≤ l.sum
  | [], _, y, hy => by cases hy
  | a :: l, h, y, hy => by
    have h0 := sum_nonneg (l := l) fun x hx => h x (List.mem_cons_of_mem _ hx)
    have ha := h a List.mem_cons_self
    rw [List.sum_cons]
    rcases List.mem_cons.mp hy with rfl | hy
    · omega
    · have := le_sum (l := l) (fun x hx => h x (List.mem_cons_of_mem _ hx)) y hy
      omega
theorem zero_of_sum {l : List Int} (h : ∀ x ∈ l, 0 ≤ x) (hs : l.sum = 0) : ∀ y ∈ l, y = 0 := fun y hy => by
  have h1 := le_sum h y hy
  have h2 := h y hy
  omega

/-! ### raising -/
structure Raised (T : List (List Int)) (n m : Nat) (hours : Int) (F : List (List Int)) : Prop where
  rect : Rect F (max n m) (max n m)
  le : ∀ i j, i < max n m → j < max n m → ((T.getD i []).getD j 0) ≤ (F.getD i []).getD j 0
  rows : ∀ u ∈ F, u.sum = hours
  cols : ∀ j, j < max n m → colAt F j = hours
/-- the padded table -/
def padded (T : List (List Int)) (n m : Nat) : List (List Int) := (T.map fun u => u ++ List.replicate (max n m - u.length) 0) ++ List.replicate (max n m - n) (List.replicate (max n m) 0)
theorem padded_rect {T : List (List Int)} {n m : Nat} (h : Rect T n m) : Rect (padded T n m) (max n m) (max n m) := by
  refine ⟨?_, fun u hu => ?_⟩
  · unfold padded
    rw [List.length_append, List.length_map, List.length_replicate, h.len]
    omega
  · unfold padded at hu
    rcases List.mem_append.mp hu with hu | hu
    · obtain ⟨v, hv, rfl⟩ := List.mem_map.mp hu
      have := h.row v hv
      rw [List.length_append, List.length_replicate]
      omega
    · rw [(List.mem_replicate.mp hu).2, List.length_replicate]
theorem padded_get {T : List (List Int)} {n m : Nat} (h : Rect T n m) (i j : Nat) : ((padded T n m).getD i []).getD j 0 = (T.getD i []).getD j 0 := by
  have rep0 : ∀ k, (List.replicate k (0 : Int)).getD j 0 = 0 := fun k => by
    unfold List.getD
    rw [List.getElem?_replicate]
    split <;> rfl
  unfold padded
  by_cases hi : i < n
  · have hi2 : i < T.length := by rw [h.len]; exact hi
    have e1 : (List.map (fun (u : List Int) => u ++ List.replicate (max n m - u.length) 0) T ++ List.replicate (max n m - n) (List.replicate (max n m) 0)).getD i [] = T[i] ++ List.replicate (max n m - T[i].length) 0 := by
      unfold List.getD
      rw [List.getElem?_append_left (by rw [List.length_map]; exact hi2), List.getElem?_map, List.getElem?_eq_getElem hi2]
      rfl
    have e2 : T.getD i [] = T[i] := by simp [List.getD, hi2]
    rw [e1, e2]
    unfold List.getD
    by_cases hj : j < T[i].length
    · rw [List.getElem?_append_left hj]
    · rw [List.getElem?_append_right (by omega), List.getElem?_replicate, List.getElem?_eq_none (by omega)]
      split <;> rfl
  · have e2 : T.getD i [] = [] := by
      unfold List.getD
      rw [List.getElem?_eq_none (by rw [h.len]; omega)]
      rfl
    rw [e2]
    have : (List.map (fun (u : List Int) => u ++ List.replicate (max n m - u.length) 0) T ++ List.replicate (max n m - n) (List.replicate (max n m) 0)).getD i [] = [] ∨ (List.map (fun (u : List Int) => u ++ List.replicate (max n m - u.length) 0) T ++ List.replicate (max n m - n) (List.replicate (max n m) 0)).getD i [] = List.replicate (max n m) 0 := by
      unfold List.getD
      rw [List.getElem?_append_right (by rw [List.length_map, h.len]; omega), List.getElem?_replicate]
      split
      · exact .inr rfl
      · exact .inl rfl
    rcases this with e | e
    · rw [e]
    · rw [e, rep0]; rfl
/-- the state of the filling: the table so far, what each row and each column still wants -/
structure Fill (s : Nat) (F0 : List (List Int)) (hours : Int) (F : List (List Int)) (R C : List Int) : Prop where
  rect : Rect F s s
  le : ∀ i j, i < s → j < s → (F0.getD i []).getD j 0 ≤ (F.getD i []).getD j 0
  rl : R.length = s
  cl : C.length = s
  r0 : ∀ x ∈ R, 0 ≤ x
  c0 : ∀ x ∈ C, 0 ≤ x
  rs : ∀ (i : Nat) (u : List Int) (x : Int), F[i]? = some u → R[i]? = some x → u.sum + x = hours
  cs : ∀ (j : Nat) (x : Int), C[j]? = some x → colAt F j + x = hours
  eq : R.sum = C.sum
theorem mem_set {l : List Int} {i : Nat} {y x : Int} (h : x ∈ l.set i y) : x ∈ l ∨ x = y := List.mem_or_eq_of_mem_set h
theorem Fill.step {s : Nat} {F0 : List (List Int)} {hours : Int} {F : List (List Int)} {R C : List Int} (h : Fill s F0 hours F R C) {r c : Nat} {u : List Int} {z x y : Int} (hu : F[r]? = some u) (hz : u[c]? = some z) (hx : R[r]? = some x) (hy : C[c]? = some y) :
    Fill s F0 hours (F.set r (u.set c (z + min x y))) (R.set r (x - min x y)) (C.set c (y - min x y)) := by
  have hxm := h.r0 x (List.mem_of_getElem? hx)
  have hym := h.c0 y (List.mem_of_getElem? hy)
  have ul := h.rect.rowAt hu
  have hcl : c < u.length := (List.getElem?_eq_some_iff.mp hz).1
  have hrl : r < F.length := (List.getElem?_eq_some_iff.mp hu).1
  refine ⟨h.rect.set (by rw [List.length_set]; exact ul), fun i j hi hj => ?_, by rw [List.length_set]; exact h.rl, by rw [List.length_set]; exact h.cl, fun a ha => ?_, fun a ha => ?_, fun i v a hv ha => ?_, fun j a ha => ?_, ?_⟩
  · have h0 := h.le i j hi hj
    by_cases hir : i = r
    · subst hir
      have e1 : (F.set i (u.set c (z + min x y))).getD i [] = u.set c (z + min x y) := by
        unfold List.getD
        rw [List.getElem?_set_self hrl]
        rfl
      have e2 : F.getD i [] = u := by simp [List.getD, hu]
      rw [e1]
      rw [e2] at h0
      by_cases hjc : c = j
      · subst hjc
        rw [getD_set_self hcl]
        rw [getD_of hz] at h0
        omega
      · rw [getD_set_ne hjc]
        exact h0
    · have e1 : (F.set r (u.set c (z + min x y))).getD i [] = F.getD i [] := by
        unfold List.getD
        rw [List.getElem?_set_ne (Ne.symm hir)]
      rw [e1]
      exact h0
  · rcases mem_set ha with h1 | h1
    · exact h.r0 a h1
    · omega
  · rcases mem_set ha with h1 | h1
    · exact h.c0 a h1
    · omega
  · by_cases hir : i = r
    · subst hir
      have hrl2 : i < R.length := (List.getElem?_eq_some_iff.mp hx).1
      rw [List.getElem?_set_self hrl] at hv
      rw [List.getElem?_set_self hrl2] at ha
      cases hv
      cases ha
      have := h.rs i u x hu hx
      rw [sum_set hz]
      omega
    · rw [List.getElem?_set_ne (Ne.symm hir)] at hv ha
      exact h.rs i v a hv ha
  · rw [colAt_set hu]
    by_cases hjc : c = j
    · subst hjc
      have hcl2 : c < C.length := (List.getElem?_eq_some_iff.mp hy).1
      rw [List.getElem?_set_self hcl2] at ha
      cases ha
      have := h.cs c y hy
      rw [getD_of hz, getD_set_self hcl]
      omega
    · rw [List.getElem?_set_ne hjc] at ha
      have := h.cs j a ha
      rw [getD_set_ne hjc]
      omega
  · rw [sum_set hx, sum_set hy]
    have := h.eq
    omega
/-- rows before r are full; in row r: it is full, or the columns before c are -/
structure FillAt (s : Nat) (F0 : List (List Int)) (hours : Int) (r c : Nat) (F : List (List Int)) (R C : List Int) : Prop extends Fill s F0 hours F R C where
  done : ∀ (i : Nat) (x : Int), i < r → R[i]? = some x → x = 0
  here : (∀ x : Int, R[r]? = some x → x = 0) ∨ ∀ (j : Nat) (x : Int), j < c → C[j]? = some x → x = 0
theorem FillAt.step {s : Nat} {F0 : List (List Int)} {hours : Int} {F : List (List Int)} {R C : List Int} {r c : Nat} (h : FillAt s F0 hours r c F R C) {u : List Int} {z x y : Int} (hu : F[r]? = some u) (hz : u[c]? = some z) (hx : R[r]? = some x) (hy : C[c]? = some y) :
    FillAt s F0 hours r (c + 1) (F.set r (u.set c (z + min x y))) (R.set r (x - min x y)) (C.set c (y - min x y)) := by
  have hxm := h.r0 x (List.mem_of_getElem? hx)
  have hym := h.c0 y (List.mem_of_getElem? hy)
  have hrl : r < R.length := (List.getElem?_eq_some_iff.mp hx).1
  have hcl : c < C.length := (List.getElem?_eq_some_iff.mp hy).1
  refine { h.toFill.step hu hz hx hy with done := fun i a hi ha => ?_, here := ?_ }
  · rw [List.getElem?_set_ne (by omega)] at ha
    exact h.done i a hi ha
  · rcases h.here with h1 | h1
    · refine .inl fun a ha => ?_
      have := h1 x hx
      rw [List.getElem?_set_self hrl] at ha
      cases ha
      omega
    · by_cases hxy : x ≤ y
      · refine .inl fun a ha => ?_
        rw [List.getElem?_set_self hrl] at ha
        cases ha
        omega
      · refine .inr fun j a hj ha => ?_
        by_cases hjc : c = j
        · subst hjc
          rw [List.getElem?_set_self hcl] at ha
          cases ha
          omega
        · rw [List.getElem?_set_ne hjc] at ha
          exact h1 j a (by omega) ha
theorem FillAt.row {s : Nat} {F0 : List (List Int)} {hours : Int} {F : List (List Int)} {R C : List Int} {r : Nat} (h : FillAt s F0 hours r s F R C) : FillAt s F0 hours (r + 1) 0 F R C := by
  refine { h.toFill with done := fun i a hi ha => ?_, here := .inr fun j x hj => by omega }
  by_cases hir : i < r
  · exact h.done i a hir ha
  · have : i = r := by omega
    subst this
    rcases h.here with h1 | h1
    · exact h1 a ha
    · have hC : C.sum = 0 := by
        have e : ∀ x ∈ C, x = 0 := fun x hx => by
          obtain ⟨j, hj⟩ := List.mem_iff_getElem?.mp hx
          exact h1 j x (by rw [← h.cl]; exact (List.getElem?_eq_some_iff.mp hj).1) hj
        have e2 : C = C.map fun _ => (0 : Int) := by
          rw [List.map_congr_left (g := id)]
          · simp
          · intro x hx
            rw [e x hx]
            rfl
        rw [e2, sum_map_zero]
      exact zero_of_sum h.r0 (by rw [h.eq, hC]) a (List.mem_of_getElem? ha)
theorem FillAt.all {s : Nat} {F0 : List (List Int)} {hours : Int} {F : List (List Int)} {R C : List Int} (h : FillAt s F0 hours s 0 F R C) : (∀ u ∈ F, u.sum = hours) ∧ ∀ j, j < s → colAt F j = hours := by
  have hR : ∀ x ∈ R, x = 0 := fun x hx => by
    obtain ⟨j, hj⟩ := List.mem_iff_getElem?.mp hx
    exact h.done j x (by rw [← h.rl]; exact (List.getElem?_eq_some_iff.mp hj).1) hj
  have hRs : R.sum = 0 := by
    have e2 : R = R.map fun _ => (0 : Int) := by
      rw [List.map_congr_left (g := id)]
      · simp
      · intro x hx
        rw [hR x hx]
        rfl
    rw [e2, sum_map_zero]
  have hC := zero_of_sum h.c0 (by rw [← h.eq]; exact hRs)
  refine ⟨fun u hu => ?_, fun j hj => ?_⟩
  · obtain ⟨i, hi⟩ := List.mem_iff_getElem?.mp hu
    have hil : i < R.length := by rw [h.rl, ← h.rect.len]; exact (List.getElem?_eq_some_iff.mp hi).1
    have := h.rs i u R[i] hi (by simp [hil])
    have h0 := hR R[i] (List.getElem_mem hil)
    omega
  · have hjl : j < C.length := by rw [h.cl]; exact hj
    have := h.cs j C[j] (by simp [hjl])
    have h0 := hC C[j] (List.getElem_mem hjl)
    omega
/-- where the filling begins -/
theorem fill_start {s : Nat} {F0 : List (List Int)} {hours : Int} (h : Rect F0 s s) (hr : ∀ u ∈ F0, u.sum ≤ hours) (hc : ∀ j, j < s → colAt F0 j ≤ hours) : FillAt s F0 hours 0 0 F0 ((rowSums F0).map fun x => hours - x) ((colSums F0 s).map fun x => hours - x) := by
  refine ⟨⟨h, fun _ _ _ _ => Int.le_refl _, by simp [rowSums, h.len], by simp [colSums], fun x hx => ?_, fun x hx => ?_, fun i u x hu hx => ?_, fun j x hx => ?_, ?_⟩, fun i x hi => by omega, .inr fun j x hj => by omega⟩
  · obtain ⟨y, hy, rfl⟩ := List.mem_map.mp hx
    obtain ⟨u, hu, rfl⟩ := List.mem_map.mp hy
    have := hr u hu
    omega
  · obtain ⟨y, hy, rfl⟩ := List.mem_map.mp hx
    obtain ⟨j, hj, rfl⟩ := List.mem_map.mp hy
    have := hc j (List.mem_range.mp hj)
    omega
  · rw [List.getElem?_map, rowSums_at hu] at hx
    cases hx
    show u.sum + (hours - u.sum) = hours
    omega
  · have hj : j < s := by
      have := (List.getElem?_eq_some_iff.mp hx).1
      simpa [colSums] using this
    rw [List.getElem?_map, colSums_at hj] at hx
    cases hx
    show colAt F0 j + (hours - colAt F0 j) = hours
    omega
  · rw [sum_map_sub (fun _ => hours) (fun x => x), sum_map_sub (fun _ => hours) (fun x => x), sum_map_const, sum_map_const, List.map_id', List.map_id', sums_agree h.row, rowSums_len, colSums_len, h.len]
theorem fill_end {T : List (List Int)} {n m : Nat} {hours : Int} {F : List (List Int)} {R C : List Int} (hT : Rect T n m) (h : FillAt (max n m) (padded T n m) hours (max n m) 0 F R C) : Raised T n m hours F := by
  obtain ⟨h1, h2⟩ := h.all
  refine ⟨h.rect, fun i j hi hj => ?_, h1, h2⟩
  have := h.le i j hi hj
  rw [padded_get hT] at this
  exact this
theorem sum_replicate0 (k : Nat) : (List.replicate k (0 : Int)).sum = 0 := by
  induction k with
  | zero => rfl
  | succ k ih => rw [List.replicate_succ, List.sum_cons, ih]; rfl
theorem padded_rows {T : List (List Int)} {n m : Nat} {hours : Int} (h : ∀ u ∈ T, u.sum ≤ hours) (h0 : 0 ≤ hours) : ∀ u ∈ padded T n m, u.sum ≤ hours := fun u hu => by
  unfold padded at hu
  rcases List.mem_append.mp hu with hu | hu
  · obtain ⟨v, hv, rfl⟩ := List.mem_map.mp hu
    rw [List.sum_append, sum_replicate0]
    have := h v hv
    omega
  · rw [(List.mem_replicate.mp hu).2, sum_replicate0]
    exact h0
theorem colAt_append (A B : List (List Int)) (j : Nat) : colAt (A ++ B) j = colAt A j + colAt B j := by
  unfold colAt
  rw [List.map_append, List.sum_append]
theorem colAt_zero (k s j : Nat) : colAt (List.replicate k (List.replicate s 0)) j = 0 := by
  induction k with
  | zero => rfl
  | succ k ih =>
    rw [List.replicate_succ, colAt_cons, ih]
    unfold List.getD
    rw [List.getElem?_replicate]
    split <;> rfl
theorem colAt_pad (f : List Int → Nat) (j : Nat) : ∀ T : List (List Int), colAt (T.map fun u => u ++ List.replicate (f u) 0) j = colAt T j
  | [] => rfl
  | u :: T => by
    rw [List.map_cons, colAt_cons, colAt_cons, colAt_pad f j T]
    congr 1
    unfold List.getD
    by_cases hj : j < u.length
    · rw [List.getElem?_append_left hj]
    · rw [List.getElem?_append_right (by omega), List.getElem?_replicate, List.getElem?_eq_none (by omega)]
      split <;> rfl
theorem colAt_out {T : List (List Int)} {n m : Nat} (h : Rect T n m) {j : Nat} (hj : m ≤ j) : colAt T j = 0 := by
  unfold colAt
  have e : (T.map fun r => r.getD j 0) = T.map fun _ => (0 : Int) := List.map_congr_left fun u hu => by
    have := h.row u hu
    unfold List.getD
    rw [List.getElem?_eq_none (by omega)]
    rfl
  rw [e, sum_map_zero]
theorem padded_cols {T : List (List Int)} {n m : Nat} {hours : Int} (h : Rect T n m) (hc : ∀ j, j < m → colAt T j ≤ hours) (h0 : 0 ≤ hours) : ∀ j, j < max n m → colAt (padded T n m) j ≤ hours := fun j hj => by
  unfold padded
  rw [colAt_append, colAt_zero, colAt_pad]
  by_cases hm : j < m
  · have := hc j hm
    omega
  · rw [colAt_out h (by omega)]
    omega
end Lh

namespace Lh
open PySem PySem.Spec PyProof.Rows L2 Evl
/-! ### the module's names -/
structure Mg (mg : Str → Option Value) : Prop where
  len : mg "len" = none
  isinstance : mg "isinstance" = none
  all : mg "all" = none
  sum : mg "sum" = none
  range : mg "range" = none
  max : mg "max" = none
  min : mg "min" = none
  enumerate : mg "enumerate" = none
  sorted : mg "sorted" = none
  any : mg "any" = none
  zip : mg "zip" = none
  abs : mg "abs" = none
  int_ : mg "int" = none
  bool_ : mg "bool" = none
  list_ : mg "list" = none
  tuple_ : mg "tuple" = none
  set_ : mg "set" = none
  MOST : ∃ t, mg "MOST" = some (.int 20 t)
theorem pe_globI {X : Cx} {x : Str} {i : Int} {pos : Pos} (hg : Gl X x) (hm : ∃ t, X.mg x = some (.int i t)) (hd : (x == ("__debug__" : Str)) = false := by decide) : PE X (.Name x pos) (tC (.int i)) := by
  obtain ⟨t, h⟩ := hm
  exact pe_glob hg h ⟨t, rfl⟩ hd
/-! ### types, growing heaps -/
theorem tyx_mono {K : PySem.W.Frag} {H H' : Hp} {x : V} {t : Value} (e : Ex H H') (h : TyX K H x t) : TyX K H' x t := by
  cases h with
  | base b =>
    refine .base ?_
    cases b with
    | non => exact .non
    | bl y => exact .bl y
    | int i => exact .int i
    | str y => exact .str y
    | flt y => exact .flt y
    | lst h => exact .lst (e _ _ h)
    | frz h => exact .frz (e _ _ h)
    | tup h => exact .tup (e _ _ h)
    | dK h => exact .dK (e _ _ h)
    | dT h => exact .dT (e _ _ h)
    | ins h a b c d f => exact .ins (e _ _ h) a b c d f
  | byt b => exact .byt b
  | set h => exact .set (e _ _ h)
  | kList h c => exact .kList h c
  | kTuple h c => exact .kTuple h c
  | kDict h c => exact .kDict h c
  | fTuple h => exact .fTuple (e _ _ h)
  | fDict h => exact .fDict (e _ _ h)
/-! ### xs.index(y) -/
theorem idx_before : ∀ {ns : List Int} {y : Int} {m : Nat} {z : Int}, m < ns.idxOf y → ns[m]? = some z → z ≠ y
  | [], y, m, z, h, hz => by simp at hz
  | a :: r, y, m, z, h, hz => by
    rw [List.idxOf_cons] at h
    by_cases e : a = y
    · subst e
      simp at h
    · have e2 : (a == y) = false := by simp [e]
      rw [e2] at h
      cases m with
      | zero =>
        have : a = z := Option.some.inj hz
        rw [← this]
        exact e
      | succ m => exact idx_before (ns := r) (by simpa using h) (by simpa using hz)
theorem ev_index {K : PySem.W.Frag} {σ : L2.St} {H : Hp} {ta tb : TE} {a : Addr} {ns : List Int} {y : Int} (ha : Ev ta σ H (.ref a)) (hb : Ev tb σ H (.int y)) (hs : SqL K H a (ns.map V.int)) (hy : y ∈ ns) : Ev (tBM K "list" (rIndex K) ta (tCons tb tNil)) σ H (.int (ns.idxOf y : Nat)) := fun H1 e Q q =>
  ha H1 e _ fun H2 e2 => ⟨Or.inl ⟨rfl, _, ex_l (e.trans e2) hs⟩, hb H2 (e.trans e2) _ fun H3 e3 => by
    have hl : ns.idxOf y < ns.length := List.idxOf_lt_length_of_mem hy
    refine ⟨a, ns.map V.int, .int y, ns.idxOf y, .int y, rfl, rfl, ex_l ((e.trans e2).trans e3) hs, rfl, by simp [flatV], ?_, ?_, ?_, q H3 (e2.trans e3)⟩
    · rw [List.getElem?_map, List.getElem?_eq_getElem hl, List.getElem_idxOf]
      rfl
    · simp [eqV]
    · intro m z' hm hz
      rw [List.getElem?_map, List.getElem?_eq_getElem (by omega)] at hz
      cases hz
      have h := idx_before (z := ns[m]) hm (List.getElem?_eq_getElem (by omega))
      simp [eqV, h]⟩

/-! ### the fullest -/
def fullM (T : List (List Int)) (m : Nat) : Int := max (maxI (rowSums T)) (maxI (colSums T m))
def fullB (T : List (List Int)) (m : Nat) : Bool := decide (maxI (colSums T m) ≤ maxI (rowSums T))
def fullW (T : List (List Int)) (m : Nat) : Str := if fullB T m = true then "teacher" else "class"
def fullI (T : List (List Int)) (m : Nat) : Int := if fullB T m = true then ((rowSums T).idxOf (maxI (rowSums T)) : Nat) else ((colSums T m).idxOf (maxI (colSums T m)) : Nat)
abbrev NewFull (T : List (List Int)) (m : Nat) : Hp → V → Hp → Prop := fun _ v H2 => ∃ p q, v = .ref p ∧ H2 p = some (.tup [.int (fullM T m), .ref q]) ∧ H2 q = some (.tup [.str (fullW T m), .int (fullI T m)])

/-! ### promises -/
def sp_is_number (K : PySem.W.Frag) : Sp := fun vs H Q _ => ∃ (x : V) (T : String) (b1 b2 : Bool), vs = [x] ∧ TyX K H x (.type T) ∧ kitB T "int" = some b1 ∧ kitB T "bool" = some b2 ∧ Ret (IsV (.bl (b1 && !b2))) H Q
def sp_asked_table (K : PySem.W.Frag) : Sp := fun vs H Q _ => ∃ a rs T n m, vs = [.ref a] ∧ Tab H a rs T ∧ Good T n m ∧ Ret (IsV .non) H Q
def sp_column_sums (K : PySem.W.Frag) : Sp := fun vs H Q _ => ∃ a rs T n m, vs = [.ref a] ∧ Tab H a rs T ∧ Rect T n m ∧ 1 ≤ n ∧ n ≤ 1000 ∧ m ≤ 1000 ∧ Ret (NewL ((colSums T m).map V.int)) H Q
def sp_fullest_of (K : PySem.W.Frag) : Sp := fun vs H Q _ => ∃ a rs T n m, vs = [.ref a] ∧ Tab H a rs T ∧ Rect T n m ∧ 1 ≤ n ∧ n ≤ 1000 ∧ 1 ≤ m ∧ m ≤ 1000 ∧ Ret (NewFull T m) H Q
def sp_fullest (K : PySem.W.Frag) : Sp := fun vs H Q _ => ∃ a rs T n m, vs = [.ref a] ∧ Tab H a rs T ∧ Good T n m ∧ Ret (NewFull T m) H Q
def sp_raised_of (K : PySem.W.Frag) : Sp := fun vs H Q _ => ∃ a rs T n m h, vs = [.ref a, .int h] ∧ Tab H a rs T ∧ Rect T n m ∧ 1 ≤ n ∧ n ≤ 1000 ∧ 1 ≤ m ∧ m ≤ 1000 ∧ (∀ u ∈ T, u.sum ≤ h) ∧ (∀ j, j < m → colAt T j ≤ h) ∧ 0 ≤ h ∧ ∀ F, Raised T n m h F → Ret (NewT F) H Q
def sp_raised (K : PySem.W.Frag) : Sp := fun vs H Q _ => ∃ a rs T n m h, vs = [.ref a, .int h] ∧ Tab H a rs T ∧ Good T n m ∧ fullM T m ≤ h ∧ ∀ F, Raised T n m h F → Ret (NewT F) H Q
def sp__law_number (K : PySem.W.Frag) : Sp := fun vs H Q _ => ∃ c a w, vs = [.int c, .int a, .int w] ∧ 0 ≤ a ∧ a ≤ 1000 ∧ Builtin.Int.intBits c ≤ 1048576 ∧ Ret IsI H Q
def sp__law_table (K : PySem.W.Frag) : Sp := fun vs H Q _ => ∃ (a : Addr) (ns : List Int) (r c : Nat), vs = [.ref a, .int r, .int c] ∧ SqL K H a (ns.map V.int) ∧ ns.length ≤ 63 ∧ (∀ z ∈ ns, Builtin.Int.intBits z ≤ 1048576) ∧ 1 ≤ r ∧ r ≤ 20 ∧ 1 ≤ c ∧ c ≤ 20 ∧ ∀ T, Good T r c → Ret (NewT T) H Q
def sp__law_sums (K : PySem.W.Frag) : Sp := fun vs H Q _ => ∃ a rs T n m, vs = [.ref a] ∧ Tab H a rs T ∧ Rect T n m ∧ 1 ≤ n ∧ n ≤ 1000 ∧ m ≤ 1000 ∧ Ret (NewL ((rowSums T ++ colSums T m).map V.int)) H Q
def sp__law_sizes (K : PySem.W.Frag) : Sp := fun vs H Q _ => ∃ (a : Addr) (ns : List Int), vs = [.ref a] ∧ SqL K H a (ns.map V.int) ∧ ∀ r c : Nat, 1 ≤ r → r ≤ 20 → 1 ≤ c → c ≤ 20 → Ret (NewU [.int r, .int c]) H Q
def sp__law_whole (K : PySem.W.Frag) : Sp := sp_is_number K
def sp__law_raised_right (K : PySem.W.Frag) : Sp := fun vs H Q _ => ∃ a rs T n m h, vs = [.ref a, .int h] ∧ Tab H a rs T ∧ Good T n m ∧ fullM T m ≤ h ∧ Ret (IsV (.bl true)) H Q
def sp_law (K : PySem.W.Frag) : Sp := fun vs H Q _ => ∃ (a : Addr) (ns : List Int), vs = [.ref a] ∧ SqL K H a (ns.map V.int) ∧ ns.length ≤ 63 ∧ (∀ z ∈ ns, Builtin.Int.intBits z ≤ 1048576) ∧ ∀ H', Q (.bl true) H'
end Lh

namespace Lh
open PySem PySem.Spec PyProof.Rows L2 Evl
def top (i : Nat) : Stmt := PySem.Challenge.pw_lessonhours_k01_whole_tables.main.body.getD i (.Pass ⟨0, 0, 0, 0⟩)
abbrev s_is_number : Stmt := (top 6)
theorem sc_is_number : FnScope ["thing"] ["thing"] (defScope s_is_number) := ⟨rfl, rfl, rfl, by decide +kernel, rfl, by decide +kernel, by decide +kernel⟩
abbrev s_asked_table : Stmt := (top 7)
theorem sc_asked_table : FnScope ["table", "row", "hours"] ["table"] (defScope s_asked_table) := ⟨rfl, rfl, rfl, by decide +kernel, rfl, by decide +kernel, by decide +kernel⟩
abbrev s_column_sums : Stmt := (top 8)
theorem sc_column_sums : FnScope ["table", "place", "row"] ["table"] (defScope s_column_sums) := ⟨rfl, rfl, rfl, by decide +kernel, rfl, by decide +kernel, by decide +kernel⟩
abbrev s_fullest_of : Stmt := (top 9)
theorem sc_fullest_of : FnScope ["table", "rows", "columns", "row"] ["table"] (defScope s_fullest_of) := ⟨rfl, rfl, rfl, by decide +kernel, rfl, by decide +kernel, by decide +kernel⟩
abbrev s_fullest : Stmt := (top 10)
theorem sc_fullest : FnScope ["table"] ["table"] (defScope s_fullest) := ⟨rfl, rfl, rfl, by decide +kernel, rfl, by decide +kernel, by decide +kernel⟩
abbrev s_raised_of : Stmt := (top 11)
theorem sc_raised_of : FnScope ["table", "hours", "size", "found", "rows", "columns", "row", "place", "more", "one"] ["table", "hours"] (defScope s_raised_of) := ⟨rfl, rfl, rfl, by decide +kernel, rfl, by decide +kernel, by decide +kernel⟩
abbrev s_raised : Stmt := (top 12)
theorem sc_raised : FnScope ["table", "hours"] ["table", "hours"] (defScope s_raised) := ⟨rfl, rfl, rfl, by decide +kernel, rfl, by decide +kernel, by decide +kernel⟩
abbrev s__law_number : Stmt := (top 14)
theorem sc__law_number : FnScope ["_law_cell", "_law_at", "_law_whole_here", "_law_mixed", "_law_more"] ["_law_cell", "_law_at", "_law_whole_here"] (defScope s__law_number) := ⟨rfl, rfl, rfl, by decide +kernel, rfl, by decide +kernel, by decide +kernel⟩
abbrev s__law_table : Stmt := (top 15)
theorem sc__law_table : FnScope ["_law_script", "_law_rows", "_law_columns", "_law_cells", "_law_whole_here", "_law_most", "_law_found", "_law_who", "_law_row", "_law_place", "_law_at", "_law_number_here", "_law_cell"] ["_law_script", "_law_rows", "_law_columns"] (defScope s__law_table) := ⟨rfl, rfl, rfl, by decide +kernel, rfl, by decide +kernel, by decide +kernel⟩
abbrev s__law_sums : Stmt := (top 16)
theorem sc__law_sums : FnScope ["_law_table_here", "_law_found", "_law_row", "_law_place"] ["_law_table_here"] (defScope s__law_sums) := ⟨rfl, rfl, rfl, by decide +kernel, rfl, by decide +kernel, by decide +kernel⟩
abbrev s__law_sizes : Stmt := (top 17)
theorem sc__law_sizes : FnScope ["_law_script", "_law_whole_here"] ["_law_script"] (defScope s__law_sizes) := ⟨rfl, rfl, rfl, by decide +kernel, rfl, by decide +kernel, by decide +kernel⟩
abbrev s__law_whole : Stmt := (top 18)
theorem sc__law_whole : FnScope ["_law_number_here"] ["_law_number_here"] (defScope s__law_whole) := ⟨rfl, rfl, rfl, by decide +kernel, rfl, by decide +kernel, by decide +kernel⟩
abbrev s__law_raised_right : Stmt := (top 19)
theorem sc__law_raised_right : FnScope ["_law_table_here", "_law_hours", "_law_handed", "_law_size", "_law_again", "_law_found", "_law_who", "_law_row", "_law_place", "_law_one", "_law_due", "_law_kept"] ["_law_table_here", "_law_hours"] (defScope s__law_raised_right) := ⟨rfl, rfl, rfl, by decide +kernel, rfl, by decide +kernel, by decide +kernel⟩
abbrev s_law : Stmt := (top 20)
theorem sc_law : FnScope ["_law_script", "_law_whole_here", "_law_rows", "_law_columns", "_law_table_here", "_law_sums_here", "_law_most", "_law_at", "_law_due", "_law_handed", "_law_found", "_law_hours", "_law_row"] ["_law_script"] (defScope s_law) := ⟨rfl, rfl, rfl, by decide +kernel, rfl, by decide +kernel, by decide +kernel⟩
end Lh

namespace Lh
open PySem PySem.Spec PyProof.Rows L2 Evl
theorem ok_is_number {P : Program} {w : World} {K : PySem.W.Frag} {mg : Str → Option Value} {base : Heap} (M : Mg mg) (D : Def K mg "is_number" s_is_number ["thing"]) : Cal P w K mg base 1 "is_number" ["thing"] (sp_is_number K) := by
  refine D.cal sc_is_number (fun vs H Q E h => ?_) (fun f cdv A outer s H vs Q E hr h => ?_)
  · obtain ⟨x, T, b1, b2, rfl, _⟩ := h
    rfl
  · obtain ⟨x, T, b1, b2, rfl, ty, h1, h2, k⟩ := h
    refine ⟨_, (pss_one (ps_ret (pe_and (pe_callB call_isi (by rfl) M.isinstance (by decide +kernel) (pa_cons (pv 0) (pa_cons (pe_bltn (v := .ty "int") (u := .type "int") (by rfl) M.int_ (by decide +kernel) rfl) pa_nil))) (pe_one (pe_not (pe_callB call_isi (by rfl) M.isinstance (by decide +kernel) (pa_cons (pv 0) (pa_cons (pe_bltn (v := .ty "bool") (u := .type "bool") (by rfl) M.bool_ (by decide +kernel) rfl) pa_nil)))))))), ?_⟩
    exact s_ret (v := .bl (b1 && !b2)) (ev_andV (ev_isi (ev_var rfl) (fun H1 e => tyx_mono e ty) h1) fun _ => ev_notV (ev_isi (ev_var rfl) (fun H1 e => tyx_mono e ty) h2)) fun H1 e => k _ H1 e rfl
end Lh

namespace Lh
open PySem PySem.Spec PyProof.Rows L2 Evl
theorem ok_asked_table {P : Program} {w : World} {K : PySem.W.Frag} {mg : Str → Option Value} {base : Heap} (M : Mg mg) (D : Def K mg "asked_table" s_asked_table ["table"]) (C_is_number : Cal P w K mg base 1 "is_number" ["thing"] (sp_is_number K)) : Cal P w K mg base 2 "asked_table" ["table"] (sp_asked_table K) := by
  refine D.cal sc_asked_table (fun vs H Q E h => ?_) (fun f cdv A outer s H vs Q E hr h => ?_)
  · obtain ⟨a, rs, T, n, m, rfl, _⟩ := h
    rfl
  · obtain ⟨a, rs, T, n, m, rfl, hT, hG, k⟩ := h
    have hR := hG.toRect
    have b1 := hG.n1
    have b2 := hG.n20
    have b3 := hG.m1
    have b4 := hG.m20
    obtain ⟨u0, hu0, hl0⟩ := hR.lt (show 0 < n by omega)
    obtain ⟨r0, hr0, h0⟩ := hT.at hu0
    have el : ((rs.map V.ref).length : Int) = (n : Int) := by rw [List.length_map, hT.len, hR.len]
    have el0 : ((u0.map V.int).length : Int) = (m : Int) := by rw [List.length_map, hl0]
    refine ⟨_, (pss_cons (ps_if (PW.pt (pw_or (pt_not (pt_val (pe_callB call_isi (by rfl) M.isinstance (by decide +kernel) (pa_cons (pv 0) (pa_cons (pe_bltn (v := .ty "list") (u := .type "list") (by rfl) M.list_ (by decide +kernel) rfl) pa_nil))))) (pw_or (pt_not (pt_chain op_le op_le pe_int (pe_callB call_len_seq (by rfl) M.len (by decide +kernel) (pa_cons (pv 0) pa_nil)) (pe_globI (by rfl) M.MOST))) (pw_or1 (pt_not (pt_val (pe_callB call_isi (by rfl) M.isinstance (by decide +kernel) (pa_cons (pe_ix ix_list (pv 0) pe_int (fun _ _ => rfl)) (pa_cons (pe_bltn (v := .ty "list") (u := .type "list") (by rfl) M.list_ (by decide +kernel) rfl) pa_nil)))))))))
  (pss_one ps_never)
  pss_nil)
  (pss_cons (ps_if (pt_not (pt_chain op_le op_le pe_int (pe_callB call_len_seq (by rfl) M.len (by decide +kernel) (pa_cons (pe_ix ix_list (pv 0) pe_int (fun _ _ => rfl)) pa_nil)) (pe_globI (by rfl) M.MOST)))
  (pss_one ps_never)
  pss_nil)
  (pss_one (ps_for PassesOwn.never rfl (pi_list (pv 0)) (pg_name (i := 1) sc_asked_table.nd rfl (Or.inl rfl))
  (pss_cons (ps_if (PW.pt (pw_or (pt_not (pt_val (pe_callB call_isi (by rfl) M.isinstance (by decide +kernel) (pa_cons (pv 1) (pa_cons (pe_bltn (v := .ty "list") (u := .type "list") (by rfl) M.list_ (by decide +kernel) rfl) pa_nil))))) (pw_or1 (pt_cmpR op_ne (pe_callB call_len_seq (by rfl) M.len (by decide +kernel) (pa_cons (pv 1) pa_nil)) (pe_callB call_len_seq (by rfl) M.len (by decide +kernel) (pa_cons (pe_ix ix_list (pv 0) pe_int (fun _ _ => rfl)) pa_nil)) (nomark _)))))
  (pss_one ps_never)
  pss_nil)
  (pss_one (ps_if (pt_not (pt_val (pe_callB (cr_all rfl) (by rfl) M.all (by decide +kernel) (pa_cons (pe_lc (own := [("hours", 2)]) (wi := (iList K (tVar 1))) (g := gName 2) (tt := tYes) (te := (tAndV (tCall _ [] E0 (tCons (tVar 2) tNil)) (tOp _ (tVar 2) _))) (by rfl) sc_asked_table.nd  (pi_list (pv 1)) (blkOk_by (by kernel_rfl)) (fun _ _ _ _ _ => (pg_name (i := 2) sc_asked_table.nd rfl (Or.inl rfl))) (fun _ _ _ _ _ => pts_nil) (fun _ _ _ _ _ => (pe_and (pe_cal C_is_number hr (by rfl) (pa_cons (pv 2) pa_nil)) (pe_one (pe_cmpR op_ge (pv 2) pe_int (nomark _)))))) pa_nil))))
  (pss_one ps_never)
  pss_nil))))))), ?_⟩
    refine q_when (b := false) ?_ (fun h => nomatch h) fun _ H1 e1 => ?_
    · refine et_is (et_or (et_not (et_B (isi_list (ev_var rfl) hT.top))) fun _ => et_or (et_not (et_test (ev_chain (k := true) (k' := true) ev_c (ev_lenL (ev_var rfl) hT.sq) (rv_leD (decide_eq_true (by omega))) (fun _ => ev_c) (fun _ => rv_leD (decide_eq_true (by omega)))))) fun _ => et_not (et_B (isi_list (ev_ixL (ev_var rfl) ev_c hT.sq (atI_of (j := 0) rfl (ref_at hr0))) h0))) rfl
    refine q_when (b := false) ?_ (fun h => nomatch h) fun _ H2 e2 => ?_
    · refine et_is (et_not (et_test (ev_chain (k := true) (k' := true) ev_c (ev_lenL (ev_ixL (ev_var rfl) ev_c (hT.mono e1).sq (atI_of (j := 0) rfl (ref_at hr0))) (sq_of (e1 _ _ h0))) (rv_leD (decide_eq_true (by omega))) (fun _ => ev_c) (fun _ => rv_leD (decide_eq_true (by omega)))))) rfl
    refine s_forLn (ev_var rfl) (hT.mono (e1.trans e2)).sq (fun i σ' H' => (∃ y1 y2, σ' = [some (.ref a), y1, y2]) ∧ Ex H H') (fun H3 e3 => ⟨⟨none, none, rfl⟩, (e1.trans e2).trans e3⟩) (fun i σ' H' _ p => (hT.mono p.2).sq) (fun i x σ' H' hx p => ?_) (fun σ' H' p => k _ H' p.2 rfl)
    obtain ⟨⟨y1, y2, rfl⟩, ex⟩ := p
    have hT' := hT.mono ex
    have hi : i < n := by
      have := (List.getElem?_eq_some_iff.mp hx).1
      rw [List.length_map, hT.len, hR.len] at this
      exact this
    obtain ⟨u, hu, hl⟩ := hR.lt hi
    obtain ⟨r, hr1, h1⟩ := hT'.at hu
    have exr : x = .ref r := Option.some.inj (hx.symm.trans (ref_at hr1))
    subst exr
    have elu : ((u.map V.int).length : Int) = (m : Int) := by rw [List.length_map, hl]
    refine q_when (b := false) ?_ (fun h => nomatch h) fun _ H4 e4 => ?_
    · refine et_is (et_or (et_not (et_B (isi_list (ev_var rfl) h1))) fun _ => et_ne (k := false) (ev_lenL (ev_var rfl) (sq_of h1)) (ev_lenL (ev_ixL (ev_var rfl) ev_c hT'.sq (atI_of (j := 0) rfl (ref_at hr0))) (sq_of (ex _ _ h0))) (by rw [elu, el0]; simp)) rfl
    refine s_when (b := false) ?_ (fun h => nomatch h) fun _ H5 e5 => ⟨⟨_, _, rfl⟩, (ex.trans e4).trans e5⟩
    have hal : EvL (tLc (iList K (tVar 1)) (gName 2) tYes (tAndV (tCall (sp_is_number K) [] E0 (tCons (tVar 2) tNil)) (tOp (rI0 fun i j => .bl (decide (j ≤ i))) (tVar 2) (tC (.int 0)))) [2]) [some (.ref a), some (.ref r), y2] H4 ((List.replicate u.length true).map V.bl) := by
      have hg : (List.replicate u.length true).map V.bl = given (u.map V.int).length (fun _ => true) (fun _ => .bl true) := by
        refine (given_all (by simp) fun i x hx => ?_).symm
        rw [List.getElem?_map, List.getElem?_replicate] at hx
        split at hx
        · exact Option.some.inj hx
        · cases hx
      rw [hg]
      refine el_lcL _ _ (ev_var rfl) (sq_of (e4 _ _ h1)) (by rw [List.length_map]; omega) (fun x => rfl) (fun z x H2 e2 hz => et_yes) (fun z x H2 e2 hz _ => ?_)
      rw [List.getElem?_map] at hz
      cases hq : u[z]? with
      | none => rw [hq] at hz; cases hz
      | some y =>
        rw [hq] at hz
        have ey : V.int y = x := Option.some.inj hz
        subst ey
        have h0y := hG.pos u (List.mem_of_getElem? hu) y (List.mem_of_getElem? hq)
        refine ev_is (ev_andV (a := true) (b := true) (ev_callV (ea_cons (ev_var rfl) ea_nil) fun H1 e Q k => ⟨.int y, "int", true, false, rfl, tx_int, by decide +kernel, by decide +kernel, k⟩) fun _ => ev_is (ev_ge (ev_var rfl) ev_c) ?_) rfl
        rw [decide_eq_true h0y]
    refine et_is (et_not (et_B (ev_allL hal))) ?_
    rw [List.all_replicate]
    split <;> rfl
end Lh

namespace Lh
open PySem PySem.Spec PyProof.Rows L2 Evl
theorem ok_column_sums {P : Program} {w : World} {K : PySem.W.Frag} {mg : Str → Option Value} {base : Heap} (M : Mg mg) (D : Def K mg "column_sums" s_column_sums ["table"]) : Cal P w K mg base 1 "column_sums" ["table"] (sp_column_sums K) := by
  refine D.cal sc_column_sums (fun vs H Q E h => ?_) (fun f cdv A outer s H vs Q E hr h => ?_)
  · obtain ⟨a, rs, T, n, m, rfl, _⟩ := h
    rfl
  · obtain ⟨a, rs, T, n, m, rfl, hT, hR, hn, hn2, hm2, k⟩ := h
    obtain ⟨u0, hu0, hl0⟩ := hR.lt (show 0 < n by omega)
    obtain ⟨r0, hr0, h0⟩ := hT.at hu0
    refine ⟨_, (pss_one (ps_ret (pe_lc (own := [("place", 1)]) (wi := (iRng1 (tCons (tCB (rLenS K) (tCons (tOp (rIxL K) (tVar 0) _) tNil)) tNil))) (g := gName 1) (tt := tYes) (te := (tCB (rSum K) (tCons (tLc (iList K (tVar 0)) (gName 2) tYes (tOp (rIxL K) (tVar 2) (tVar 1)) [2]) tNil))) (by rfl) sc_column_sums.nd  (pi_range1 (by rfl) M.range (pa_cons (pe_callB call_len_seq (by rfl) M.len (by decide +kernel) (pa_cons (pe_ix ix_list (pv 0) pe_int (fun _ _ => rfl)) pa_nil)) pa_nil)) (blkOk_by (by kernel_rfl)) (fun _ _ _ _ _ => (pg_name (i := 1) sc_column_sums.nd rfl (Or.inr rfl))) (fun _ _ _ _ _ => pts_nil) (fun _ _ _ _ _ => (pe_callB (cr_sum rfl) (by rfl) M.sum (by decide +kernel) (pa_cons (pe_lc (own := [("row", 2)]) (wi := (iList K (tVar 0))) (g := gName 2) (tt := tYes) (te := (tOp (rIxL K) (tVar 2) (tVar 1))) (by rfl) sc_column_sums.nd  (pi_list (pv 0)) (blkOk_by (by kernel_rfl)) (fun _ _ _ _ _ => (pg_name (i := 2) sc_column_sums.nd rfl (Or.inl rfl))) (fun _ _ _ _ _ => pts_nil) (fun _ _ _ _ _ => (pe_ix ix_list (pv 2) (pv 1) (fun _ _ => rfl)))) pa_nil)))))), ?_⟩
    have e0 : ((u0.map V.int).length : Int) = (m : Int) := by rw [List.length_map, hl0]
    refine s_retL (xs := (colSums T m).map V.int) ?_ fun p H1 hp e1 h1 => k _ H1 e1 ⟨p, rfl, hp, h1⟩
    have hg : (colSums T m).map V.int = given (m : Int).toNat (fun _ => true) (fun j => .int (colAt T j)) := by
      refine (given_all (by rw [List.length_map, colSums_len]; omega) fun i x hx => ?_).symm
      have hi : i < m := by
        have := (List.getElem?_eq_some_iff.mp hx).1
        rw [List.length_map, colSums_len] at this
        exact this
      rw [List.getElem?_map, colSums_at hi] at hx
      exact Option.some.inj hx
    rw [hg]
    refine el_lcR1 (n := (m : Int)) _ _ (ea_cons (ev_is (ev_lenL (ev_ixL (ev_var rfl) ev_c hT.sq (atI_of (j := 0) rfl (ref_at hr0))) (sq_of h0)) (by rw [e0])) ea_nil) (by omega) (fun x => rfl) (fun i H1 e1 hi => et_yes) (fun i H1 e1 hi _ => ?_)
    have hi : i < m := by omega
    refine ev_sumL (ns := T.map fun r => r.getD i 0) ?_
    have hg2 : (T.map fun r => r.getD i 0).map V.int = given (rs.map V.ref).length (fun _ => true) (fun z => .int ((T.getD z []).getD i 0)) := by
      refine (given_all (by rw [List.length_map, List.length_map, List.length_map, hT.len]) fun z x hx => ?_).symm
      rw [List.getElem?_map, List.getElem?_map] at hx
      cases hz : T[z]? with
      | none => rw [hz] at hx; cases hx
      | some u =>
        rw [hz] at hx
        have e : T.getD z [] = u := by simp [List.getD, hz]
        rw [e]
        exact Option.some.inj hx
    rw [hg2]
    have hT' := hT.mono e1
    refine el_lcL _ _ (ev_var rfl) hT'.sq (by rw [List.length_map, hT.len, hR.len]; omega) (fun x => rfl) (fun z x H2 e2 hz => et_yes) (fun z x H2 e2 hz _ => ?_)
    have hz2 : z < n := by
      have := (List.getElem?_eq_some_iff.mp hz).1
      rw [List.length_map, hT.len, hR.len] at this
      exact this
    obtain ⟨u, y, hu, hul, hy⟩ := hR.cell hz2 hi
    obtain ⟨r, hr, h5⟩ := (hT'.mono e2).at hu
    have e6 : (T.getD z []).getD i 0 = y := by
      have : T.getD z [] = u := by simp [List.getD, hu]
      rw [this]
      exact getD_of hy
    have ex : x = .ref r := Option.some.inj (hz.symm.trans (ref_at hr))
    rw [e6, ex]
    exact ev_ixL (ev_var rfl) (ev_var rfl) (sq_of h5) (atI_nat (int_at hy))
end Lh

namespace Lh
open PySem PySem.Spec PyProof.Rows L2 Evl
theorem rowSums_given {rs : List Addr} {T : List (List Int)} (hl : rs.length = T.length) : (rowSums T).map V.int = given (rs.map V.ref).length (fun _ => true) (fun z => .int (T.getD z []).sum) := by
  refine (given_all (by rw [List.length_map, rowSums_len, List.length_map, hl]) fun z x hx => ?_).symm
  rw [List.getElem?_map] at hx
  cases hz : T[z]? with
  | none =>
    rw [List.getElem?_eq_none (by rw [rowSums_len]; exact List.getElem?_eq_none_iff.mp hz)] at hx
    cases hx
  | some u =>
    rw [rowSums_at hz] at hx
    have e : T.getD z [] = u := by simp [List.getD, hz]
    rw [e]
    exact Option.some.inj hx
theorem ok_fullest_of {P : Program} {w : World} {K : PySem.W.Frag} {mg : Str → Option Value} {base : Heap} (M : Mg mg) (D : Def K mg "fullest_of" s_fullest_of ["table"]) (C_column_sums : Cal P w K mg base 1 "column_sums" ["table"] (sp_column_sums K)) : Cal P w K mg base 2 "fullest_of" ["table"] (sp_fullest_of K) := by
  refine D.cal sc_fullest_of (fun vs H Q E h => ?_) (fun f cdv A outer s H vs Q E hr h => ?_)
  · obtain ⟨a, rs, T, n, m, rfl, _⟩ := h
    rfl
  · obtain ⟨a, rs, T, n, m, rfl, hT, hR, hn, hn2, hm, hm2, k⟩ := h
    refine ⟨_, (pss_cons (ps_setLc (i := 1) (own := [("row", 3)]) (wi := (iList K (tVar 0))) (g := gName 3) (tt := tYes) (te := (tCB (rSum K) (tCons (tVar 3) tNil))) (by rfl) sc_fullest_of.nd rfl rfl (sw_true rfl rfl rfl (by decide +kernel)) (pi_list (pv 0)) (blkOk_by (by kernel_rfl)) (fun _ _ _ _ _ => (pg_name (i := 3) sc_fullest_of.nd rfl (Or.inl rfl))) (fun _ _ _ _ _ => pts_nil) (fun _ _ _ _ _ => (pe_callB (cr_sum rfl) (by rfl) M.sum (by decide +kernel) (pa_cons (pv 3) pa_nil))))
  (pss_cons (ps_set (i := 2) sc_fullest_of.nd rfl (Or.inl rfl) (pe_cal C_column_sums hr (by rfl) (pa_cons (pv 0) pa_nil)))
  (pss_cons (ps_if (pt_cmpR op_ge (pe_callB (cr_max rfl) (by rfl) M.max (by decide +kernel) (pa_cons (pv 1) pa_nil)) (pe_callB (cr_max rfl) (by rfl) M.max (by decide +kernel) (pa_cons (pv 2) pa_nil)) (nomark _))
  (pss_one (ps_ret (pe_tup (pa_cons (pe_callB (cr_max rfl) (by rfl) M.max (by decide +kernel) (pa_cons (pv 1) pa_nil)) (pa_cons (pe_tup (pa_cons pe_str (pa_cons (pe_bm PySem.F.plainAttrs_list PySem.F.slot_list_index PySem.F.type_list_index mt_index (pv 1) (pa_cons (pe_callB (cr_max rfl) (by rfl) M.max (by decide +kernel) (pa_cons (pv 1) pa_nil)) pa_nil)) pa_nil))) pa_nil)))))
  pss_nil)
  (pss_one (ps_ret (pe_tup (pa_cons (pe_callB (cr_max rfl) (by rfl) M.max (by decide +kernel) (pa_cons (pv 2) pa_nil)) (pa_cons (pe_tup (pa_cons pe_str (pa_cons (pe_bm PySem.F.plainAttrs_list PySem.F.slot_list_index PySem.F.type_list_index mt_index (pv 2) (pa_cons (pe_callB (cr_max rfl) (by rfl) M.max (by decide +kernel) (pa_cons (pv 2) pa_nil)) pa_nil)) pa_nil))) pa_nil)))))))), ?_⟩
    have rne : rowSums T ≠ [] := fun z => by
      have := rowSums_len T
      rw [z, hR.len] at this
      simp at this
      omega
    have cne : colSums T m ≠ [] := fun z => by
      have := colSums_len T m
      rw [z] at this
      simp at this
      omega
    refine q_asgL (xs := (rowSums T).map V.int) ?_ fun p1 H1 n1 e1 h1 => ?_
    · rw [rowSums_given hT.len]
      refine el_lcL _ _ (ev_var rfl) hT.sq (by rw [List.length_map, hT.len, hR.len]; omega) (fun x => rfl) (fun z x H2 e2 hz => et_yes) (fun z x H2 e2 hz _ => ?_)
      have hz2 : z < n := by
        have := (List.getElem?_eq_some_iff.mp hz).1
        rw [List.length_map, hT.len, hR.len] at this
        exact this
      obtain ⟨u, hu, hul⟩ := hR.lt hz2
      obtain ⟨r, hr, h5⟩ := (hT.mono e2).at hu
      have ex : x = .ref r := Option.some.inj (hz.symm.trans (ref_at hr))
      have e6 : T.getD z [] = u := by simp [List.getD, hu]
      rw [e6, ex]
      exact ev_sum (ev_var rfl) (sq_of h5)
    refine qp_asg (P := NewL ((colSums T m).map V.int)) (evp_call (ea_cons (ev_var rfl) ea_nil) down_l fun H2 e2 Q2 q2 => ⟨a, rs, T, n, m, rfl, hT.mono (e1.trans e2), hR, hn, hn2, hm2, q2⟩) fun v H2 e2 ⟨p2, hv, n2, h2⟩ => ?_
    subst hv
    have h1' := e2 _ _ h1
    refine q_when (b := fullB T m) (et_ge (ev_max (ev_var rfl) (sq_of h1') rne) (ev_max (ev_var rfl) (sq_of h2) cne) rfl) (fun hb H3 e3 => ?_) (fun hb H3 e3 => ?_)
    · have hmx : fullM T m = maxI (rowSums T) := by
        have := of_decide_eq_true hb
        unfold fullM
        omega
      have hw : fullW T m = "teacher" := by unfold fullW; rw [if_pos hb]
      have hi : fullI T m = ((rowSums T).idxOf (maxI (rowSums T)) : Nat) := by unfold fullI; rw [if_pos hb]
      refine r_tup (cV (ev_max (ev_var rfl) (sq_of (e3 _ _ h1')) rne) fun H4 e4 => cU (eu_tup (ea_cons ev_c (ea_cons (ev_index (ev_var rfl) (ev_max (ev_var rfl) (sq_of (e4 _ _ (e3 _ _ h1'))) rne) (sq_of (e4 _ _ (e3 _ _ h1'))) (maxI_mem rne)) ea_nil)) (by show 2 ≤ 100000; decide)) fun q H5 hq e5 h5 => cN ?_)
      refine ⟨sz_of (by show 2 ≤ 100000; decide), fun p hp => ?_⟩
      refine k _ _ (((((e1.trans e2).trans e3).trans e4).trans e5).trans (Ex.new hp)) ⟨p, q, rfl, ?_, ?_⟩
      · rw [upd_same, hmx]
      · rw [Ex.new hp _ _ h5, hw, hi]
    · have hmx : fullM T m = maxI (colSums T m) := by
        have := of_decide_eq_false hb
        unfold fullM
        omega
      have hb' : ¬ fullB T m = true := by rw [hb]; exact Bool.false_ne_true
      have hw : fullW T m = "class" := by unfold fullW; rw [if_neg hb']
      have hi : fullI T m = ((colSums T m).idxOf (maxI (colSums T m)) : Nat) := by unfold fullI; rw [if_neg hb']
      refine r_tup (cV (ev_max (ev_var rfl) (sq_of (e3 _ _ h2)) cne) fun H4 e4 => cU (eu_tup (ea_cons ev_c (ea_cons (ev_index (ev_var rfl) (ev_max (ev_var rfl) (sq_of (e4 _ _ (e3 _ _ h2))) cne) (sq_of (e4 _ _ (e3 _ _ h2))) (maxI_mem cne)) ea_nil)) (by show 2 ≤ 100000; decide)) fun q H5 hq e5 h5 => cN ?_)
      refine ⟨sz_of (by show 2 ≤ 100000; decide), fun p hp => ?_⟩
      refine k _ _ (((((e1.trans e2).trans e3).trans e4).trans e5).trans (Ex.new hp)) ⟨p, q, rfl, ?_, ?_⟩
      · rw [upd_same, hmx]
      · rw [Ex.new hp _ _ h5, hw, hi]
end Lh

namespace Lh
open PySem PySem.Spec PyProof.Rows L2 Evl
theorem ok_fullest {P : Program} {w : World} {K : PySem.W.Frag} {mg : Str → Option Value} {base : Heap} (M : Mg mg) (D : Def K mg "fullest" s_fullest ["table"]) (C_asked_table : Cal P w K mg base 2 "asked_table" ["table"] (sp_asked_table K)) (C_fullest_of : Cal P w K mg base 2 "fullest_of" ["table"] (sp_fullest_of K)) : Cal P w K mg base 3 "fullest" ["table"] (sp_fullest K) := by
  refine D.cal sc_fullest (fun vs H Q E h => ?_) (fun f cdv A outer s H vs Q E hr h => ?_)
  · obtain ⟨a, rs, T, n, m, rfl, _⟩ := h
    rfl
  · obtain ⟨a, rs, T, n, m, rfl, hT, hG, k⟩ := h
    have b1 := hG.n1
    have b2 := hG.n20
    have b3 := hG.m1
    have b4 := hG.m20
    refine ⟨_, (pss_cons (ps_expr (pe_cal C_asked_table hr (by rfl) (pa_cons (pv 0) pa_nil)))
  (pss_one (ps_ret (pe_cal C_fullest_of hr (by rfl) (pa_cons (pv 0) pa_nil))))), ?_⟩
    refine q_drop (ev_callV (ea_cons (ev_var rfl) ea_nil) fun H1 e1 Q1 q1 => ⟨a, rs, T, n, m, rfl, hT.mono e1, hG, q1⟩) fun H1 e1 => ?_
    exact sp_ret (P := NewFull T m) (evp_call (ea_cons (ev_var rfl) ea_nil) down_c fun H2 e2 Q2 q2 => ⟨a, rs, T, n, m, rfl, hT.mono (e1.trans e2), hG.toRect, by omega, by omega, by omega, by omega, q2⟩) fun v H2 e2 hv => k v H2 (e1.trans e2) hv
end Lh

namespace Lh
open PySem PySem.Spec PyProof.Rows L2 Evl
theorem set_int_map (u : List Int) (j : Nat) (x : Int) : (u.map V.int).set j (.int x) = (u.set j x).map V.int := by rw [List.map_set]
/-- the table under way and the two lists of what is wanted, each a thing of its own -/
structure Filling (H0 H : Hp) (p : Addr) (rs : List Addr) (pr pc : Addr) (F : List (List Int)) (R C : List Int) : Prop where
  ex : Ex H0 H
  tab : Tab H p rs F
  rr : H pr = some (.lst (R.map V.int))
  cc : H pc = some (.lst (C.map V.int))
structure Apart (H0 : Hp) (p : Addr) (rs : List Addr) (pr pc : Addr) : Prop where
  p0 : H0 p = none
  nd : rs.Nodup
  r0 : ∀ r ∈ rs, H0 r = none
  pr0 : H0 pr = none
  pc0 : H0 pc = none
  rc : pr ≠ pc
  pr1 : pr ≠ p
  pc1 : pc ≠ p
  pr2 : pr ∉ rs
  pc2 : pc ∉ rs
section
variable {H0 H H' : Hp} {p : Addr} {rs : List Addr} {pr pc : Addr} {F : List (List Int)} {R C : List Int}
theorem Filling.mono (h : Filling H0 H p rs pr pc F R C) (e : Ex H H') : Filling H0 H' p rs pr pc F R C := ⟨h.ex.trans e, h.tab.mono e, e _ _ h.rr, e _ _ h.cc⟩
theorem Filling.cell (h : Filling H0 H p rs pr pc F R C) (A : Apart H0 p rs pr pc) {i : Nat} {r : Addr} {u w : List Int} (hr : rs[i]? = some r) (hu : F[i]? = some u) : Filling H0 (upd H r (.lst (w.map V.int))) p rs pr pc (F.set i w) R C := by
  have hm := List.mem_of_getElem? hr
  refine ⟨Ex.mut h.ex (A.r0 r hm), h.tab.set A.nd hr hu, ?_, ?_⟩
  · rw [upd_ne (fun z : pr = r => A.pr2 (z ▸ hm))]; exact h.rr
  · rw [upd_ne (fun z : pc = r => A.pc2 (z ▸ hm))]; exact h.cc
theorem Filling.rows (h : Filling H0 H p rs pr pc F R C) (A : Apart H0 p rs pr pc) (R' : List Int) : Filling H0 (upd H pr (.lst (R'.map V.int))) p rs pr pc F R' C :=
  ⟨Ex.mut h.ex A.pr0, h.tab.keep A.pr1 A.pr2, upd_same, by rw [upd_ne A.rc.symm]; exact h.cc⟩
theorem Filling.cols (h : Filling H0 H p rs pr pc F R C) (A : Apart H0 p rs pr pc) (C' : List Int) : Filling H0 (upd H pc (.lst (C'.map V.int))) p rs pr pc F R C' :=
  ⟨Ex.mut h.ex A.pc0, h.tab.keep A.pc1 A.pc2, by rw [upd_ne A.rc]; exact h.rr, upd_same⟩
end
theorem ok_raised_of {P : Program} {w : World} {K : PySem.W.Frag} {mg : Str → Option Value} {base : Heap} (M : Mg mg) (D : Def K mg "raised_of" s_raised_of ["table", "hours"]) (C_column_sums : Cal P w K mg base 1 "column_sums" ["table"] (sp_column_sums K)) : Cal P w K mg base 2 "raised_of" ["table", "hours"] (sp_raised_of K) := by
  refine D.cal sc_raised_of (fun vs H Q E h => ?_) (fun f cdv A outer s H vs Q E hr h => ?_)
  · obtain ⟨a, rs, T, n, m, h, rfl, _⟩ := h
    rfl
  · obtain ⟨a, rs, T, n, m, h, rfl, hT, hR, hn, hn2, hm, hm2, hrow, hcol, hh0, k⟩ := h
    obtain ⟨u0, hu0, hl0⟩ := hR.lt (show 0 < n by omega)
    obtain ⟨r0, hr0, h0⟩ := hT.at hu0
    have e0 : ((u0.map V.int).length : Int) = (m : Int) := by rw [List.length_map, hl0]
    have en : ((rs.map V.ref).length : Int) = (n : Int) := by rw [List.length_map, hT.len, hR.len]
    have enn : (rs.map V.ref).length = n := by rw [List.length_map, hT.len, hR.len]
    refine ⟨_, (pss_cons (ps_set (i := 2) sc_raised_of.nd rfl (Or.inr rfl) (pe_callB (call_max2 rfl) (by rfl) M.max (by decide +kernel) (pa_cons (pe_callB call_len_seq (by rfl) M.len (by decide +kernel) (pa_cons (pv 0) pa_nil)) (pa_cons (pe_callB call_len_seq (by rfl) M.len (by decide +kernel) (pa_cons (pe_ix ix_list (pv 0) pe_int (fun _ _ => rfl)) pa_nil)) pa_nil))))
  (pss_cons (ps_setLc (i := 3) (own := [("row", 6)]) (wi := (iList K (tVar 0))) (g := gName 6) (tt := tYes) (te := (tOp _ (tVar 6) (tOp _ (tLst (tCons _ tNil)) (tOp _ (tVar 2) (tCB (rLenS K) (tCons (tVar 6) tNil)))))) (by rfl) sc_raised_of.nd rfl rfl (sw_true rfl rfl rfl (by decide +kernel)) (pi_list (pv 0)) (blkOk_by (by kernel_rfl)) (fun _ _ _ _ _ => (pg_name (i := 6) sc_raised_of.nd rfl (Or.inl rfl))) (fun _ _ _ _ _ => pts_nil) (fun _ _ _ _ _ => (pe_op op_cat (pv 6) (pe_op op_rep (pe_lst (pa_cons pe_int pa_nil)) (pe_op op_sub (pv 2) (pe_callB call_len_seq (by rfl) M.len (by decide +kernel) (pa_cons (pv 6) pa_nil)))))))
  (pss_cons (ps_expr (pe_bm PySem.F.plainAttrs_list PySem.F.slot_list_extend PySem.F.type_list_extend mt_extend (pv 3) (pa_cons (pe_lc (own := [("row", 6)]) (wi := (iRng1 (tCons (tOp _ (tVar 2) (tCB (rLenS K) (tCons (tVar 0) tNil))) tNil))) (g := gName 6) (tt := tYes) (te := (tOp _ (tLst (tCons _ tNil)) (tVar 2))) (by rfl) sc_raised_of.nd  (pi_range1 (by rfl) M.range (pa_cons (pe_op op_sub (pv 2) (pe_callB call_len_seq (by rfl) M.len (by decide +kernel) (pa_cons (pv 0) pa_nil))) pa_nil)) (blkOk_by (by kernel_rfl)) (fun _ _ _ _ _ => (pg_name (i := 6) sc_raised_of.nd rfl (Or.inl rfl))) (fun _ _ _ _ _ => pts_nil) (fun _ _ _ _ _ => (pe_op op_rep (pe_lst (pa_cons pe_int pa_nil)) (pv 2)))) pa_nil)))
  (pss_cons (ps_setLc (i := 4) (own := [("row", 6)]) (wi := (iList K (tVar 3))) (g := gName 6) (tt := tYes) (te := (tOp _ (tVar 1) (tCB (rSum K) (tCons (tVar 6) tNil)))) (by rfl) sc_raised_of.nd rfl rfl (sw_true rfl rfl rfl (by decide +kernel)) (pi_list (pv 3)) (blkOk_by (by kernel_rfl)) (fun _ _ _ _ _ => (pg_name (i := 6) sc_raised_of.nd rfl (Or.inl rfl))) (fun _ _ _ _ _ => pts_nil) (fun _ _ _ _ _ => (pe_op op_sub (pv 1) (pe_callB (cr_sum rfl) (by rfl) M.sum (by decide +kernel) (pa_cons (pv 6) pa_nil)))))
  (pss_cons (ps_setLc (i := 5) (own := [("one", 9)]) (wi := (iList K (tCall _ [] E0 (tCons (tVar 3) tNil)))) (g := gName 9) (tt := tYes) (te := (tOp _ (tVar 1) (tVar 9))) (by rfl) sc_raised_of.nd rfl rfl (sw_true rfl rfl rfl (by decide +kernel)) (pi_list (pe_cal C_column_sums hr (by rfl) (pa_cons (pv 3) pa_nil))) (blkOk_by (by kernel_rfl)) (fun _ _ _ _ _ => (pg_name (i := 9) sc_raised_of.nd rfl (Or.inl rfl))) (fun _ _ _ _ _ => pts_nil) (fun _ _ _ _ _ => (pe_op op_sub (pv 1) (pv 9))))
  (pss_cons (ps_for PassesOwn.never rfl (pi_range1 (by rfl) M.range (pa_cons (pv 2) pa_nil)) (pg_name (i := 6) sc_raised_of.nd rfl (Or.inl rfl))
  (pss_one (ps_for PassesOwn.never rfl (pi_range1 (by rfl) M.range (pa_cons (pv 2) pa_nil)) (pg_name (i := 7) sc_raised_of.nd rfl (Or.inl rfl))
  (pss_cons (ps_set (i := 8) sc_raised_of.nd rfl (Or.inl rfl) (pe_callB (call_min2 rfl) (by rfl) M.min (by decide +kernel) (pa_cons (pe_ix ix_list (pv 4) (pv 6) (fun _ _ => rfl)) (pa_cons (pe_ix ix_list (pv 5) (pv 7) (fun _ _ => rfl)) pa_nil))))
  (pss_cons (ps_asg (pe_op op_add (pe_ix ix_list (pe_ix ix_list (pv 3) (pv 6) (fun _ _ => rfl)) (pv 7) (fun _ _ => rfl)) (pv 8)) (pg_sub (pe_ix ix_list (pv 3) (pv 6) (fun _ _ => rfl)) (pv 7) set_list))
  (pss_cons (ps_asg (pe_op op_sub (pe_ix ix_list (pv 4) (pv 6) (fun _ _ => rfl)) (pv 8)) (pg_sub (pv 4) (pv 6) set_list))
  (pss_one (ps_asg (pe_op op_sub (pe_ix ix_list (pv 5) (pv 7) (fun _ _ => rfl)) (pv 8)) (pg_sub (pv 5) (pv 7) set_list)))))))))
  (pss_one (ps_ret (pv 3))))))))), ?_⟩
    -- size
    refine q_asg (v := .int ((max n m : Nat) : Int)) (ev_is (ev_mx2 (ev_lenL (ev_var rfl) hT.sq) (ev_lenL (ev_ixL (ev_var rfl) ev_c hT.sq (atI_of (j := 0) rfl (ref_at hr0))) (sq_of h0))) (by rw [en, e0]; congr 1; omega)) fun H1 e1 => ?_
    have hT1 := hT.mono e1
    -- found
    refine qp_asg (P := NewRows (rs.map V.ref).length (fun i => ((T.getD i []).map V.int ++ List.replicate (((max n m : Nat) : Int) - (m : Int)).toNat (.int 0)))) ?_ fun v H2 e2 ⟨p, ps, hv, np, lp, ndp, frp, hp, hps⟩ => ?_
    · refine evp_rowsL _ (ev_var rfl) hT1.sq (by rw [enn]; omega) (fun x => rfl) (fun i x H2 e2 hx => ?_)
      have hi : i < n := by
        have := (List.getElem?_eq_some_iff.mp hx).1
        rw [enn] at this
        exact this
      obtain ⟨u, hu, hl⟩ := hR.lt hi
      obtain ⟨r, hr1, hr2⟩ := (hT1.mono e2).at hu
      have exr : x = .ref r := Option.some.inj (hx.symm.trans (ref_at hr1))
      subst exr
      have eu : T.getD i [] = u := by simp [List.getD, hu]
      have el : ((u.map V.int).length : Int) = (m : Int) := by rw [List.length_map, hl]
      rw [eu]
      refine el_catN (ev_var rfl) (el_rep1 (el_lst (ea_cons ev_c ea_nil) (by show 1 ≤ 100000; decide)) (ev_is (ev_sub (ev_var rfl) (ev_lenL (ev_var rfl) (sq_of hr2))) (by rw [el])) (by omega)) hr2 (by rw [List.length_map, List.length_replicate, hl]; omega)
    subst hv
    rw [enn] at lp
    have hT2 := hT1.mono e2
    -- found.extend(..)
    have e3 : Ex H2 H2 := Ex.refl H2
    refine qP_ext (P := NewRows (((max n m : Nat) : Int) - (n : Int)).toNat (fun _ => List.replicate (((max n m : Nat) : Int)).toNat (.int 0))) hp (ev_var rfl) (evp_rowsR _ (ea_cons (ev_is (ev_sub (ev_var rfl) (ev_lenL (ev_var rfl) hT2.sq)) (by rw [en])) ea_nil) (by omega) (fun x => rfl) fun i H4 e4 hi => el_rep1 (el_lst (ea_cons ev_c ea_nil) (by show 1 ≤ 100000; decide)) (ev_var rfl) (by omega)) down_rows fun v H4 e4 ⟨q, qs, hv, nq, lq, ndq, frq, hq, hqs⟩ => ?_
    subst hv
    have hp4 := e4 _ _ (e3 _ _ hp)
    have hqp : q ≠ p := fun z => by rw [z, e3 _ _ hp] at nq; cases nq
    refine ⟨q, qs.map V.ref, rfl, hq, by rw [List.length_map, List.length_map, lp, lq]; omega, ?_⟩
    have e14 : Ex H1 H4 := (e2.trans e3).trans e4
    have p0 : H p = none := fresh_back e1 np
    -- the rows of found
    have ndr : (ps ++ qs).Nodup := List.nodup_append.mpr ⟨ndp, ndq, fun x hx y hy hxy => by
      obtain ⟨i, hi⟩ := List.mem_iff_getElem?.mp hx
      have h1 := hps i x hi
      have h2 := (frq y hy).1
      rw [← hxy, e3 _ _ h1] at h2
      cases h2⟩
    have fr : ∀ r ∈ ps ++ qs, H r = none := fun r hr => by
      rcases List.mem_append.mp hr with hr | hr
      · exact fresh_back e1 (frp r hr).1
      · exact fresh_back ((e1.trans e2).trans e3) (frq r hr).1
    have pnr : p ∉ ps ++ qs := fun hr => by
      rcases List.mem_append.mp hr with hr | hr
      · exact (frp p hr).2 rfl
      · have h2 := (frq p hr).1
        rw [e3 _ _ hp] at h2
        cases h2
    have hF0 := padded_rect hR
    have tab0 : Tab (upd H4 p (.lst (ps.map V.ref ++ qs.map V.ref))) p (ps ++ qs) (padded T n m) := by
      refine ⟨by rw [upd_same, List.map_append], by rw [List.length_append, lp, lq, hF0.len]; omega, fun i r u hi hu => ?_⟩
      rw [upd_ne (fun z : r = p => pnr (z ▸ List.mem_of_getElem? hi))]
      unfold padded at hu
      by_cases hin : i < n
      · rw [List.getElem?_append_left (by omega)] at hi
        rw [List.getElem?_append_left (by rw [List.length_map, hR.len]; exact hin), List.getElem?_map] at hu
        obtain ⟨v, hv, hvl⟩ := hR.lt hin
        rw [hv] at hu
        have hu : v ++ List.replicate (max n m - v.length) 0 = u := Option.some.inj hu
        rw [e4 _ _ (e3 _ _ (hps i r hi))]
        have ev : T.getD i [] = v := by simp [List.getD, hv]
        dsimp only
        rw [ev, ← hu, hvl, List.map_append, List.map_replicate, show (((max n m : Nat) : Int) - (m : Int)).toNat = max n m - m by omega]
      · rw [List.getElem?_append_right (by omega)] at hi
        rw [List.getElem?_append_right (by rw [List.length_map, hR.len]; omega), List.getElem?_replicate] at hu
        split at hu
        · have hu : List.replicate (max n m) 0 = u := Option.some.inj hu
          rw [hqs _ r hi, ← hu, List.map_replicate]
          dsimp only
          rw [show (((max n m : Nat) : Int)).toNat = max n m by omega]
        · cases hu
    generalize hH5 : upd H4 p (.lst (ps.map V.ref ++ qs.map V.ref)) = H5 at tab0
    have e5 : Ex H H5 := by
      rw [← hH5]
      exact Ex.mut (e1.trans e14) p0
    generalize hrs : ps ++ qs = fs at tab0 ndr fr pnr
    generalize hFF : padded T n m = F0 at tab0 hF0
    generalize hs : max n m = sz at *
    have hsz : sz ≤ 1000 := by omega
    have efl : (fs.map V.ref).length = sz := by rw [List.length_map, tab0.len, hF0.len]
    have hrow0 : ∀ u ∈ F0, u.sum ≤ h := by rw [← hFF]; exact padded_rows hrow hh0
    have hcol0 : ∀ j, j < sz → colAt F0 j ≤ h := by rw [← hFF, ← hs]; exact padded_cols hR hcol hh0
    -- rows
    refine q_asgL (xs := ((rowSums F0).map fun x => h - x).map V.int) ?_ fun pr H6 nr e6 h6 => ?_
    · have hg : ((rowSums F0).map fun x => h - x).map V.int = given (fs.map V.ref).length (fun _ => true) (fun z => .int (h - (F0.getD z []).sum)) := by
        refine (given_all (by rw [List.length_map, List.length_map, rowSums_len, efl, hF0.len]) fun z x hx => ?_).symm
        rw [List.getElem?_map, List.getElem?_map] at hx
        cases hz : F0[z]? with
        | none =>
          rw [List.getElem?_eq_none (by rw [rowSums_len]; exact List.getElem?_eq_none_iff.mp hz)] at hx
          cases hx
        | some u =>
          rw [rowSums_at hz] at hx
          have e : F0.getD z [] = u := by simp [List.getD, hz]
          rw [e]
          exact Option.some.inj hx
      rw [hg]
      refine el_lcL _ _ (ev_var rfl) tab0.sq (by rw [efl]; omega) (fun x => rfl) (fun z x H2 e2 hz => et_yes) (fun z x H2 e2 hz _ => ?_)
      have hz2 : z < sz := by
        have := (List.getElem?_eq_some_iff.mp hz).1
        rw [efl] at this
        exact this
      obtain ⟨u, hu, hul⟩ := hF0.lt hz2
      obtain ⟨r, hr, h5⟩ := (tab0.mono e2).at hu
      have ex : x = .ref r := Option.some.inj (hz.symm.trans (ref_at hr))
      have e6 : F0.getD z [] = u := by simp [List.getD, hu]
      rw [e6, ex]
      exact ev_sub (ev_var rfl) (ev_sum (ev_var rfl) (sq_of h5))
    -- columns
    have tab6 := tab0.mono e6
    refine q_asgL (xs := ((colSums F0 sz).map fun x => h - x).map V.int) ?_ fun pc H7 nc e7 h7 => ?_
    · have hg : ((colSums F0 sz).map fun x => h - x).map V.int = given ((colSums F0 sz).map V.int).length (fun _ => true) (fun z => .int (h - colAt F0 z)) := by
        refine (given_all (by rw [List.length_map, List.length_map, List.length_map]) fun z x hx => ?_).symm
        have hz : z < sz := by
          have := (List.getElem?_eq_some_iff.mp hx).1
          rw [List.length_map, List.length_map, colSums_len] at this
          exact this
        rw [List.getElem?_map, List.getElem?_map, colSums_at hz] at hx
        exact Option.some.inj hx
      rw [hg]
      refine el_lcNL _ _ (el_ofp (evp_call (ea_cons (ev_var rfl) ea_nil) down_l fun H2 e2 Q2 q2 => ⟨p, fs, F0, sz, sz, rfl, tab6.mono e2, hF0, by omega, by omega, by omega, q2⟩)) (by rw [List.length_map, colSums_len]; omega) (fun x => rfl) (fun z x H2 e2 hz => et_yes) (fun z x H2 e2 hz _ => ?_)
      have hz2 : z < sz := by
        have := (List.getElem?_eq_some_iff.mp hz).1
        rw [List.length_map, colSums_len] at this
        exact this
      rw [List.getElem?_map, colSums_at hz2] at hz
      have ex : V.int (colAt F0 z) = x := Option.some.inj hz
      subst ex
      exact ev_sub (ev_var rfl) (ev_var rfl)
    -- the state
    have AP : Apart H p fs pr pc := by
      have tr : ∀ r ∈ fs, ∃ o, H5 r = some o := fun r hr => by
        obtain ⟨i, hi⟩ := List.mem_iff_getElem?.mp hr
        obtain ⟨u, _, hu⟩ := tab0.ref hi
        exact ⟨_, hu⟩
      refine ⟨p0, ndr, fr, fresh_back e5 nr, fresh_back (e5.trans e6) nc, ?_, ?_, ?_, ?_, ?_⟩
      · exact ne_of_none h6 nc
      · exact (ne_of_none tab0.top nr).symm
      · exact (ne_of_none tab6.top nc).symm
      · intro z
        obtain ⟨o, ho⟩ := tr pr z
        rw [nr] at ho
        cases ho
      · intro z
        obtain ⟨o, ho⟩ := tr pc z
        rw [e6 _ _ ho] at nc
        cases nc
    have FL : Filling H H7 p fs pr pc F0 ((rowSums F0).map fun x => h - x) ((colSums F0 sz).map fun x => h - x) := ⟨(e5.trans e6).trans e7, tab6.mono e7, e7 _ _ h6, h7⟩
    refine q_forR1 (n := (sz : Int)) (ea_cons (ev_var rfl) ea_nil) (by omega) (fun r σ' H' => (∃ y6 y7 y8 y9, σ' = [some (.ref a), some (.int h), some (.int (sz : Int)), some (.ref p), some (.ref pr), some (.ref pc), y6, y7, y8, y9]) ∧ ∃ F R C, Filling H H' p fs pr pc F R C ∧ FillAt sz F0 h r 0 F R C)
      (fun H8 e8 => ⟨⟨none, none, none, none, rfl⟩, _, _, _, FL.mono e8, fill_start hF0 hrow0 hcol0⟩) (fun r σ' H' hr q => ?_) (fun σ' H' q => ?_)
    · obtain ⟨⟨y6, y7, y8, y9, rfl⟩, F, R, C, hf, hfa⟩ := q
      have hr2 : r < sz := by omega
      refine s_forR1 (n := (sz : Int)) (ea_cons (ev_var rfl) ea_nil) (by omega) (fun c σ' H' => (∃ y7 y8 y9, σ' = [some (.ref a), some (.int h), some (.int (sz : Int)), some (.ref p), some (.ref pr), some (.ref pc), some (.int (r : Int)), y7, y8, y9]) ∧ ∃ F R C, Filling H H' p fs pr pc F R C ∧ FillAt sz F0 h r c F R C)
        (fun H8 e8 => ⟨⟨y7, y8, y9, rfl⟩, F, R, C, hf.mono e8, hfa⟩) (fun c σ' H' hc q => ?_) (fun σ' H' q => ?_)
      · obtain ⟨⟨z7, z8, z9, rfl⟩, F, R, C, hf, hfa⟩ := q
        have hc2 : c < sz := by omega
        obtain ⟨u, z, hu, hul, hz⟩ := hfa.rect.cell hr2 hc2
        obtain ⟨x, hx, _⟩ := get_lt hfa.rl hr2
        obtain ⟨y, hy, _⟩ := get_lt hfa.cl hc2
        obtain ⟨fr1, hfr, _⟩ := hf.tab.at hu
        -- more
        refine q_asg (ev_min2 (ev_ixL (ev_var rfl) (ev_var rfl) (sq_of hf.rr) (atI_nat (int_at hx))) (ev_ixL (ev_var rfl) (ev_var rfl) (sq_of hf.cc) (atI_nat (int_at hy)))) fun H8 e8 => ?_
        have hf8 := hf.mono e8
        -- found[row][place] = ..
        refine q_setL (hf8.tab.row r fr1 u hfr hu) (ev_add (ev_cell (ev_var rfl) (ev_var rfl) (ev_var rfl) hf8.tab hu hz) (ev_var rfl)) (ev_row (ev_var rfl) (ev_var rfl) hf8.tab hfr) (ev_var rfl) (by rw [List.length_map, hul]; exact hc2) fun H9 e9 => ?_
        rw [set_int_map]
        have hf9 := (hf8.mono e9).cell AP (w := u.set c (z + min x y)) hfr hu
        -- rows[row] = ..
        refine q_setL hf9.rr (ev_sub (ev_ixL (ev_var rfl) (ev_var rfl) (sq_of hf9.rr) (atI_nat (int_at hx))) (ev_var rfl)) (ev_var rfl) (ev_var rfl) (by rw [List.length_map, hfa.rl]; exact hr2) fun H10 e10 => ?_
        rw [set_int_map]
        have hf10 := (hf9.mono e10).rows AP (R.set r (x - min x y))
        refine s_setL hf10.cc (ev_sub (ev_ixL (ev_var rfl) (ev_var rfl) (sq_of hf10.cc) (atI_nat (int_at hy))) (ev_var rfl)) (ev_var rfl) (ev_var rfl) (by rw [List.length_map, hfa.cl]; exact hc2) fun H11 e11 => ?_
        rw [set_int_map]
        exact ⟨⟨_, _, _, rfl⟩, _, _, _, (hf10.mono e11).cols AP (C.set c (y - min x y)), hfa.step hu hz hx hy⟩
      · obtain ⟨⟨z7, z8, z9, rfl⟩, F, R, C, hf, hfa⟩ := q
        exact ⟨⟨_, _, _, _, rfl⟩, F, R, C, hf, FillAt.row hfa⟩
    · obtain ⟨⟨y6, y7, y8, y9, rfl⟩, F, R, C, hf, hfa⟩ := q
      have hfin : Raised T n m h F := by
        have hfa' : FillAt sz F0 h sz 0 F R C := hfa
        subst hs hFF
        exact fill_end hR hfa'
      exact s_ret (ev_var rfl) fun H8 e8 => k F hfin _ H8 (hf.ex.trans e8) ⟨p, fs, rfl, p0, ndr, fr, hf.tab.mono e8⟩
end Lh

namespace Lh
open PySem PySem.Spec PyProof.Rows L2 Evl
theorem full_rows {T : List (List Int)} {m : Nat} {h : Int} (hh : fullM T m ≤ h) : ∀ u ∈ T, u.sum ≤ h := fun u hu => by
  have h1 : u.sum ∈ rowSums T := List.mem_map.mpr ⟨u, hu, rfl⟩
  have h2 := maxI_le h1
  unfold fullM at hh
  omega
theorem full_cols {T : List (List Int)} {m : Nat} {h : Int} (hh : fullM T m ≤ h) : ∀ j, j < m → colAt T j ≤ h := fun j hj => by
  have h1 : colAt T j ∈ colSums T m := List.mem_map.mpr ⟨j, List.mem_range.mpr hj, rfl⟩
  have h2 := maxI_le h1
  unfold fullM at hh
  omega
theorem full_nn {T : List (List Int)} {n m : Nat} (hG : Good T n m) : 0 ≤ fullM T m := by
  have b1 := hG.n1
  obtain ⟨u, hu, _⟩ := hG.toRect.lt (show 0 < n by omega)
  have hm := List.mem_of_getElem? hu
  have h1 := full_rows (Int.le_refl (fullM T m)) u hm
  have h2 := sum_nonneg (hG.pos u hm)
  omega
theorem ok_raised {P : Program} {w : World} {K : PySem.W.Frag} {mg : Str → Option Value} {base : Heap} (M : Mg mg) (D : Def K mg "raised" s_raised ["table", "hours"]) (C_is_number : Cal P w K mg base 1 "is_number" ["thing"] (sp_is_number K)) (C_asked_table : Cal P w K mg base 2 "asked_table" ["table"] (sp_asked_table K)) (C_fullest_of : Cal P w K mg base 2 "fullest_of" ["table"] (sp_fullest_of K)) (C_raised_of : Cal P w K mg base 2 "raised_of" ["table", "hours"] (sp_raised_of K)) : Cal P w K mg base 3 "raised" ["table", "hours"] (sp_raised K) := by
  refine D.cal sc_raised (fun vs H Q E h => ?_) (fun f cdv A outer s H vs Q E hr h => ?_)
  · obtain ⟨a, rs, T, n, m, h, rfl, _⟩ := h
    rfl
  · obtain ⟨a, rs, T, n, m, h, rfl, hT, hG, hh, k⟩ := h
    have b1 := hG.n1
    have b2 := hG.n20
    have b3 := hG.m1
    have b4 := hG.m20
    refine ⟨_, (pss_cons (ps_expr (pe_cal C_asked_table hr (by rfl) (pa_cons (pv 0) pa_nil)))
  (pss_cons (ps_if (PW.pt (pw_or (pt_not (pt_val (pe_cal C_is_number hr (by rfl) (pa_cons (pv 1) pa_nil)))) (pw_or1 (pt_cmpR op_lt (pv 1) (pe_ix ix_tup (pe_cal C_fullest_of hr (by rfl) (pa_cons (pv 0) pa_nil)) pe_int (fun _ _ => rfl)) (nomark _)))))
  (pss_one ps_never)
  pss_nil)
  (pss_one (ps_ret (pe_cal C_raised_of hr (by rfl) (pa_cons (pv 0) (pa_cons (pv 1) pa_nil))))))), ?_⟩
    refine q_drop (ev_callV (ea_cons (ev_var rfl) ea_nil) fun H1 e1 Q1 q1 => ⟨a, rs, T, n, m, rfl, hT.mono e1, hG, q1⟩) fun H1 e1 => ?_
    refine q_when (b := false) ?_ (fun h => nomatch h) fun _ H2 e2 => ?_
    · refine et_is (et_or (et_not (et_B (ev_callV (v := .bl true) (ea_cons (ev_var rfl) ea_nil) fun H2 e2 Q2 q2 => ⟨.int h, "int", true, false, rfl, tx_int, by decide +kernel, by decide +kernel, q2⟩))) fun _ => et_lt (k := false) (j := fullM T m) (ev_var rfl) ?_ (decide_eq_false (by omega))) rfl
      refine ev_ixPT (P := NewFull T m) (evp_call (ea_cons (ev_var rfl) ea_nil) down_c fun H2 e2 Q2 q2 => ⟨a, rs, T, n, m, rfl, hT.mono (e1.trans e2), hG.toRect, by omega, by omega, by omega, by omega, q2⟩) (fun H2 e2 => ev_c) (fun H2 u H3 ⟨p, q, hu, hp, hq⟩ => ⟨p, _, hu, st_of hp, atI_of (j := 0) rfl rfl⟩)
    refine sp_ret (P := fun H1 v H2 => ∃ F, Raised T n m h F ∧ NewT F H1 v H2) (evp_call (ea_cons (ev_var rfl) (ea_cons (ev_var rfl) ea_nil)) (fun H1 H2 v H3 e ⟨F, hF, hv⟩ => ⟨F, hF, down_t _ _ _ _ e hv⟩) fun H3 e3 Q3 q3 => ⟨a, rs, T, n, m, h, rfl, hT.mono ((e1.trans e2).trans e3), hG.toRect, by omega, by omega, by omega, by omega, full_rows hh, full_cols hh, ?_, fun F hF v H4 e4 hv => q3 v H4 e4 ⟨F, hF, hv⟩⟩) fun v H3 e3 ⟨F, hF, hv⟩ => k F hF v H3 ((e1.trans e2).trans e3) (down_t _ _ _ _ (e1.trans e2) hv)
    have := full_nn hG
    omega
end Lh

namespace Lh
open PySem PySem.Spec PyProof.Rows L2 Evl
theorem ok__law_number {P : Program} {w : World} {K : PySem.W.Frag} {mg : Str → Option Value} {base : Heap} (M : Mg mg) (D : Def K mg "_law_number" s__law_number ["_law_cell", "_law_at", "_law_whole_here"]) : Cal P w K mg base 1 "_law_number" ["_law_cell", "_law_at", "_law_whole_here"] (sp__law_number K) := by
  refine D.cal sc__law_number (fun vs H Q E h => ?_) (fun f cdv A outer s H vs Q E hr h => ?_)
  · obtain ⟨c, a, z, rfl, _⟩ := h
    rfl
  · obtain ⟨c, a, z, rfl, ha0, ha1, hb, k⟩ := h
    refine ⟨_, (pss_cons (ps_if (pt_cmpR op_ge (pv 0) (pe_op op_pow pe_int pe_int) (nomark _))
  (pss_one (ps_ret (pe_op op_fdiv (pv 0) (pe_op op_add pe_int (pe_op op_mod (pv 1) pe_int)))))
  pss_nil)
  (pss_cons (ps_set (i := 3) sc__law_number.nd rfl (Or.inl rfl) (pe_op op_mod (pe_op op_add (pe_op op_mulX (pe_op op_add (pv 0) (pe_op op_mulX pe_int (pv 1))) pe_int) (pv 2)) pe_int))
  (pss_cons (ps_set (i := 4) sc__law_number.nd rfl (Or.inl rfl) (pe_op op_mulX (pv 3) (pe_op op_add (pe_op op_add (pv 0) (pe_op op_mulX pe_int (pv 1))) pe_int)))
  (pss_one (ps_ret (pe_op op_fdiv (pe_op op_mulX (pe_op op_mulX (pv 4) (pe_op op_add (pe_op op_add (pv 3) (pv 0)) pe_int)) (pe_op op_add (pe_op op_mulX (pv 3) (pv 3)) pe_int)) (pe_op op_add pe_int (pv 1)))))))), ?_⟩
    refine q_when (b := decide ((10 : Int) ^ (18 : Int).toNat ≤ c)) (et_ge (ev_var rfl) (ev_pow ev_c ev_c ⟨by decide, by decide, by decide⟩) rfl) (fun _ H1 e1 => ?_) (fun _ H1 e1 => ?_)
    · exact s_ret (ev_div (ev_var rfl) (ev_add ev_c (ev_mod (ev_var rfl) ev_c (by decide))) (by omega) (by omega)) fun H2 e2 => k _ H2 (e1.trans e2) ⟨_, rfl⟩
    have m1 : IntMulOk (977 : Int) a := mulOk_small (by decide) (by decide)
    have m2 : IntMulOk (c + 977 * a) (48271 : Int) := mulOk_smallR (by decide) (by decide)
    refine q_asg (ev_mod (ev_add (ev_mul (ev_add (ev_var rfl) (ev_mul ev_c (ev_var rfl) m1)) ev_c m2) (ev_var rfl)) ev_c (by decide)) fun H2 e2 => ?_
    generalize hx : ((c + 977 * a) * 48271 + z) % 2147483647 = x
    have x0 : 0 ≤ x := by omega
    have x1 : x < 2147483647 := by omega
    clear hx
    have m3 : IntMulOk (31 : Int) a := mulOk_small (by decide) (by decide)
    have m4 : IntMulOk x (c + 31 * a + 7) := mulOk_small (by omega) (by omega)
    refine q_asg (ev_mul (ev_var rfl) (ev_add (ev_add (ev_var rfl) (ev_mul ev_c (ev_var rfl) m3)) ev_c) m4) fun H3 e3 => ?_
    have sx : Builtin.Int.intBits x ≤ 31 := bits_lt (by omega)
    have b1 : Builtin.Int.intBits (c + 31 * a + 7) ≤ 1048578 := bits_add (bits_add hb (bits_mono (bits_lt (n := 20) (by omega)) (by decide))) (bits_mono (bits_lt (n := 3) (by decide)) (by decide))
    have b2 := bits_mul sx b1
    have b3 : Builtin.Int.intBits (x + c + 5) ≤ 1048578 := bits_add (bits_add (bits_mono sx (by decide)) hb) (bits_mono (bits_lt (n := 3) (by decide)) (by decide))
    have m5 : IntMulOk (x * (c + 31 * a + 7)) (x + c + 5) := mulOk_bits b2 b3 (by decide)
    have m6 : IntMulOk x x := mulOk_small (by omega) (by omega)
    have b4 : Builtin.Int.intBits (x * x + 11) ≤ 63 := bits_add (bits_mul sx sx) (bits_mono (bits_lt (n := 4) (by decide)) (by decide))
    have m7 : IntMulOk (x * (c + 31 * a + 7) * (x + c + 5)) (x * x + 11) := IntMulOk.of_right (Nat.le_trans b4 (by decide))
    exact s_ret (ev_div (ev_mul (ev_mul (ev_var rfl) (ev_add (ev_add (ev_var rfl) (ev_var rfl)) ev_c) m5) (ev_add (ev_mul (ev_var rfl) (ev_var rfl) m6) ev_c) m7) (ev_add ev_c (ev_var rfl)) (by omega) (by omega)) fun H4 e4 => k _ H4 (((e1.trans e2).trans e3).trans e4) ⟨_, rfl⟩
end Lh

namespace Lh
open PySem PySem.Spec PyProof.Rows L2 Evl
theorem cut_take {α : Type} (xs : List V) (k : Nat) : cutV xs none (some (k : Int)) = xs.take k := by
  unfold cutV
  rw [HT.sIx_none, HT.sIx_nat, List.drop_zero, Nat.sub_zero]
  by_cases h : k ≤ xs.length
  · rw [Nat.min_eq_left h]
  · rw [Nat.min_eq_right (by omega), List.take_of_length_le (Nat.le_refl _), List.take_of_length_le (by omega)]
structure Under (H0 H : Hp) (F : Addr) (rs : List Addr) (T : List (List Int)) (i c : Nat) : Prop where
  ex : Ex H0 H
  tab : Tab H F rs T
  nd : rs.Nodup
  fr : ∀ r ∈ rs, H0 r = none
  rect : Rect T i c
  pos : ∀ u ∈ T, ∀ x ∈ u, 0 ≤ x
theorem Under.mono {H0 H H' : Hp} {F : Addr} {rs : List Addr} {T : List (List Int)} {i c : Nat} (h : Under H0 H F rs T i c) (e : Ex H H') : Under H0 H' F rs T i c := ⟨h.ex.trans e, h.tab.mono e, h.nd, h.fr, h.rect, h.pos⟩
theorem pick4 {a b c d z : Int} (h0 : 0 ≤ z) (h1 : z < 4) : ∃ x, atI [V.int a, .int b, .int c, .int d] z = some (.int x) ∧ (x = a ∨ x = b ∨ x = c ∨ x = d) := by
  have h : z = 0 ∨ z = 1 ∨ z = 2 ∨ z = 3 := by omega
  rcases h with rfl | rfl | rfl | rfl
  · exact ⟨a, rfl, .inl rfl⟩
  · exact ⟨b, rfl, .inr (.inl rfl)⟩
  · exact ⟨c, rfl, .inr (.inr (.inl rfl))⟩
  · exact ⟨d, rfl, .inr (.inr (.inr rfl))⟩
theorem ok__law_table {P : Program} {w : World} {K : PySem.W.Frag} {mg : Str → Option Value} {base : Heap} (M : Mg mg) (D : Def K mg "_law_table" s__law_table ["_law_script", "_law_rows", "_law_columns"]) (C__law_number : Cal P w K mg base 1 "_law_number" ["_law_cell", "_law_at", "_law_whole_here"] (sp__law_number K)) : Cal P w K mg base 2 "_law_table" ["_law_script", "_law_rows", "_law_columns"] (sp__law_table K) := by
  refine D.cal sc__law_table (fun vs H Q E h => ?_) (fun f cdv A outer s H vs Q E hr h => ?_)
  · obtain ⟨a, ns, r, c, rfl, _⟩ := h
    rfl
  · obtain ⟨a, ns, r, c, rfl, hS, hlen, hbits, hr1, hr2, hc1, hc2, k⟩ := h
    refine ⟨_, (pss_cons (ps_set (i := 3) sc__law_table.nd rfl (Or.inl rfl) (pe_ifExp (pt_cmpR (op_neD hr.units) (pv 0) (pe_lst pa_nil) (nomark _)) (pe_slice sl_list (pv 0) po_none (po_some pe_int)) (pe_lst (pa_cons pe_int pa_nil))))
  (pss_cons (ps_set (i := 4) sc__law_table.nd rfl (Or.inl rfl) (pe_callB (cr_sum rfl) (by rfl) M.sum (by decide +kernel) (pa_cons (pv 3) pa_nil)))
  (pss_cons (ps_set (i := 5) sc__law_table.nd rfl (Or.inl rfl) (pe_ix ix_tup (pe_tup (pa_cons pe_int (pa_cons pe_int (pa_cons pe_int (pa_cons (pe_op op_pow pe_int pe_int) pa_nil))))) (pe_op op_mod (pe_op op_fdiv (pv 4) pe_int) pe_int) (fun _ _ => rfl)))
  (pss_cons (ps_set (i := 6) sc__law_table.nd rfl (Or.inl rfl) (pe_lst pa_nil))
  (pss_cons (ps_for PassesOwn.never rfl (pi_range1 (by rfl) M.range (pa_cons (pv 1) pa_nil)) (pg_name (i := 7) sc__law_table.nd rfl (Or.inl rfl))
  (pss_cons (ps_set (i := 8) sc__law_table.nd rfl (Or.inl rfl) (pe_lst pa_nil))
  (pss_cons (ps_for PassesOwn.never rfl (pi_range1 (by rfl) M.range (pa_cons (pv 2) pa_nil)) (pg_name (i := 9) sc__law_table.nd rfl (Or.inl rfl))
  (pss_cons (ps_set (i := 10) sc__law_table.nd rfl (Or.inl rfl) (pe_op op_add (pe_op op_mulX (pv 7) (pv 2)) (pv 9)))
  (pss_cons (ps_set (i := 11) sc__law_table.nd rfl (Or.inl rfl) (pe_cal C__law_number hr (by rfl) (pa_cons (pe_op op_fdiv (pe_ix ix_list (pv 3) (pe_op op_mod (pv 10) (pe_callB call_len_seq (by rfl) M.len (by decide +kernel) (pa_cons (pv 3) pa_nil))) (fun _ _ => rfl)) (pe_op op_add pe_int (pe_op op_fdiv (pv 10) (pe_callB call_len_seq (by rfl) M.len (by decide +kernel) (pa_cons (pv 3) pa_nil))))) (pa_cons (pv 10) (pa_cons (pv 4) pa_nil)))))
  (pss_one (ps_expr (pe_bm PySem.F.plainAttrs_list PySem.F.slot_list_append PySem.F.type_list_append mt_append (pv 8) (pa_cons (pe_ifExp (pt_cmpR op_lt (pe_op op_mod (pv 11) pe_int) (pe_ix ix_tup (pe_tup (pa_cons pe_int (pa_cons pe_int (pa_cons pe_int (pa_cons pe_int pa_nil))))) (pe_op op_mod (pe_op op_fdiv (pv 4) pe_int) pe_int) (fun _ _ => rfl)) (nomark _)) (pe_op op_mod (pe_op op_fdiv (pv 11) pe_int) (pv 5)) pe_int) pa_nil)))))))
  (pss_one (ps_expr (pe_bm PySem.F.plainAttrs_list PySem.F.slot_list_append PySem.F.type_list_append mt_append (pv 6) (pa_cons (pv 8) pa_nil)))))))
  (pss_cons (ps_if (pt_cmpR op_eq (pe_op op_mod (pe_op op_fdiv (pv 4) pe_int) pe_int) pe_int (nomark _))
  (pss_one (ps_for PassesOwn.never rfl (pi_enum (by rfl) M.enumerate (pa_cons (pe_slice sl_list (pv 3) po_none (po_some pe_int)) pa_nil)) (pg_tup rfl (pgs_cons (pg_name (i := 10) sc__law_table.nd rfl (Or.inl rfl)) (pgs_cons (pg_name (i := 12) sc__law_table.nd rfl (Or.inl rfl)) pgs_nil)))
  (pss_cons (ps_set (i := 11) sc__law_table.nd rfl (Or.inl rfl) (pe_cal C__law_number hr (by rfl) (pa_cons (pv 12) (pa_cons (pe_op op_add (pv 10) pe_int) (pa_cons (pv 4) pa_nil)))))
  (pss_one (ps_for PassesOwn.never rfl (pi_range1 (by rfl) M.range (pa_cons (pv 1) pa_nil)) (pg_name (i := 7) sc__law_table.nd rfl (Or.inl rfl))
  (pss_cons (ps_set (i := 9) sc__law_table.nd rfl (Or.inl rfl) (pe_op op_mod (pe_op op_add (pe_op op_mulX (pv 7) (pe_op op_add pe_int (pe_op op_mod (pv 11) pe_int))) (pe_op op_fdiv (pv 11) pe_int)) (pv 2)))
  (pss_one (ps_asg (pe_op op_add (pe_ix ix_list (pe_ix ix_list (pv 6) (pv 7) (fun _ _ => rfl)) (pv 9) (fun _ _ => rfl)) (pe_op op_mod (pe_op op_fdiv (pv 11) pe_int) (pv 5))) (pg_sub (pe_ix ix_list (pv 6) (pv 7) (fun _ _ => rfl)) (pv 9) set_list)))))))))
  pss_nil)
  (pss_one (ps_ret (pv 6))))))))), ?_⟩
    -- cells
    refine qp_asg (P := fun _ u H2 => ∃ (pc : Addr) (cs : List Int), u = .ref pc ∧ H2 pc = some (.lst (cs.map V.int)) ∧ 1 ≤ cs.length ∧ cs.length ≤ 63 ∧ ∀ z ∈ cs, Builtin.Int.intBits z ≤ 1048576) ?_ fun v H1 e1 ⟨pc, cs, hv, hcs, hcl, hcu, hcb⟩ => ?_
    · refine evp_if (b := !PyData.eqv (intsD ns) (intsD [])) (et_test (ev_neDL (ev_var rfl) (el_lst ea_nil (by show 0 ≤ 100000; decide)) (fun H1 e => .lst (ex_l e hS) (dpa_ints ns)) (fun p H1 e h => dp_ints (ns := []) h) (shaped_ints _) (shaped_ints _))) (fun hb => ?_) (fun hb => ?_) down_c
      · have hne : ns ≠ [] := by
          rw [eqv_ints] at hb
          intro z
          rw [z] at hb
          simp at hb
        have hcut : cutV (ns.map V.int) none (some 63) = (ns.take 63).map V.int := by
          rw [List.map_take]
          exact cut_take (α := V) _ 63
        have hl : 0 < ns.length := List.length_pos_iff.mpr hne
        refine (evp_l (el_sl (ev_var rfl) eo_none (eo_some ev_c) hS)).imp fun H1 v H2 _ _ ⟨p, hv, _, h2⟩ => ⟨p, ns.take 63, hv, by rw [← hcut]; exact h2, by rw [List.length_take]; omega, by rw [List.length_take]; omega, fun z hz => hbits z (List.mem_of_mem_take hz)⟩
      · exact (evp_l (el_lst (ea_cons ev_c ea_nil) (by show 1 ≤ 100000; decide))).imp fun H1 v H2 _ _ ⟨p, hv, _, h2⟩ => ⟨p, [3], hv, h2, by decide, by decide, fun z hz => by
          have : z = 3 := by simpa using hz
          subst this
          exact bits_mono (bits_lt (n := 2) (by decide)) (by decide)⟩
    subst hv
    -- whole_here
    refine q_asg (ev_sum (ev_var rfl) (sq_of hcs)) fun H2 e2 => ?_
    generalize cs.sum = wh
    -- most
    obtain ⟨mo, hmo, hmo2⟩ := pick4 (a := 2) (b := 4) (c := 9) (d := (10 : Int) ^ (30 : Int).toNat) (z := wh / 240 % 4) (by omega) (by omega)
    have mo0 : 0 < mo := by
      have : (0 : Int) < (10 : Int) ^ (30 : Int).toNat := by decide
      rcases hmo2 with h | h | h | h <;> omega
    refine q_asg (ev_ixNT (eu_tup (ea_cons ev_c (ea_cons ev_c (ea_cons ev_c (ea_cons (ev_pow ev_c ev_c ⟨by decide, by decide, by decide⟩) ea_nil)))) (by show 4 ≤ 100000; decide)) (ev_mod (ev_div (ev_var rfl) ev_c (by decide) (by decide)) ev_c (by decide)) hmo) fun H3 e3 => ?_
    have hcs3 := e3 _ _ (e2 _ _ hcs)
    have e03 : Ex H H3 := (e1.trans e2).trans e3
    -- found = []
    refine q_asgL (el_lst ea_nil (by show 0 ≤ 100000; decide)) fun F H4 nF e4 hF => ?_
    have F0 : H F = none := fresh_back e03 nF
    obtain ⟨t5, ht5, _⟩ := pick4 (a := 5) (b := 3) (c := 2) (d := 1) (z := wh / 960 % 4) (by omega) (by omega)
    have ecs : ((cs.map V.int).length : Int) = (cs.length : Int) := by rw [List.length_map]
    -- the rows
    refine q_forR1 (n := (r : Int)) (ea_cons (ev_var rfl) ea_nil) (by omega) (fun i σ' H' => (∃ y7 y8 y9 y10 y11 y12, σ' = [some (.ref a), some (.int r), some (.int c), some (.ref pc), some (.int wh), some (.int mo), some (.ref F), y7, y8, y9, y10, y11, y12]) ∧ ∃ rs T, Under H3 H' F rs T i c)
      (fun H5 e5 => ⟨⟨_, _, _, _, _, _, rfl⟩, [], [], e4.trans e5, ⟨e5 _ _ hF, rfl, fun i r u h => by simp at h⟩, List.nodup_nil, by simp, ⟨rfl, by simp⟩, by simp⟩) (fun i σ' H5 hi q => ?_) (fun σ' H5 q => ?_)
    · obtain ⟨⟨y7, y8, y9, y10, y11, y12, rfl⟩, rs, T, hu⟩ := q
      have hi2 : i < r := by omega
      refine q_asgL (el_lst ea_nil (by show 0 ≤ 100000; decide)) fun R H6 nR e6 hR => ?_
      refine q_forR1 (n := (c : Int)) (ea_cons (ev_var rfl) ea_nil) (by omega) (fun j σ' H' => (∃ y9 y10 y11 y12, σ' = [some (.ref a), some (.int r), some (.int c), some (.ref pc), some (.int wh), some (.int mo), some (.ref F), some (.int (i : Int)), some (.ref R), y9, y10, y11, y12]) ∧ Ex H5 H' ∧ ∃ u : List Int, H' R = some (.lst (u.map V.int)) ∧ u.length = j ∧ ∀ x ∈ u, 0 ≤ x)
        (fun H7 e7 => ⟨⟨y9, y10, y11, y12, rfl⟩, e6.trans e7, [], e7 _ _ hR, rfl, by simp⟩) (fun j σ' H7 hj q => ?_) (fun σ' H7 q => ?_)
      · obtain ⟨⟨z9, z10, z11, z12, rfl⟩, e57, u, hRu, hul, hup⟩ := q
        have hj2 : j < c := by omega
        have hcs7 := e57 _ _ (hu.ex _ _ hcs3)
        have hprod : (i : Int) * (c : Int) ≤ 19 * 20 := by
          have h1 : (i : Int) * (c : Int) ≤ 19 * (c : Int) := Int.mul_le_mul_of_nonneg_right (by omega) (by omega)
          omega
        have hprod0 : 0 ≤ (i : Int) * (c : Int) := Int.mul_nonneg (by omega) (by omega)
        refine q_asg (ev_add (ev_mul (ev_var rfl) (ev_var rfl) (mulOk_small (by omega) (by omega))) (ev_var rfl)) fun H8 e8 => ?_
        generalize hat : (i : Int) * (c : Int) + (j : Int) = at_
        have at0 : 0 ≤ at_ := by omega
        have at1 : at_ ≤ 1000 := by omega
        clear hat
        have hcs8 := e8 _ _ hcs7
        have hL : (0 : Int) < (cs.length : Int) := by omega
        have hm0 : 0 ≤ at_ % (cs.length : Int) := Int.emod_nonneg _ (by omega)
        have hm1 : at_ % (cs.length : Int) < (cs.length : Int) := Int.emod_lt_of_pos _ hL
        have hd0 : 0 ≤ at_ / (cs.length : Int) := Int.ediv_nonneg at0 (by omega)
        have hd1 : at_ / (cs.length : Int) ≤ at_ := Int.ediv_le_self _ at0
        have hq : (at_ % (cs.length : Int)).toNat < cs.length := by omega
        have hget : cs[(at_ % (cs.length : Int)).toNat]? = some cs[(at_ % (cs.length : Int)).toNat] := by simp [hq]
        have hbz : Builtin.Int.intBits (cs[(at_ % (cs.length : Int)).toNat] / (1 + at_ / (cs.length : Int))) ≤ 1048576 := bits_div (hcb _ (List.getElem_mem hq)) (by omega)
        refine qp_asg (P := IsI) (evp_call (ea_cons (ev_div (ev_ixL (ev_var rfl) (ev_mod (ev_var rfl) (ev_is (ev_lenL (ev_var rfl) (sq_of hcs8)) (by rw [ecs])) hL) (sq_of hcs8) (atI_of (by omega) (int_at hget))) (ev_add ev_c (ev_div (ev_var rfl) (ev_is (ev_lenL (ev_var rfl) (sq_of hcs8)) (by rw [ecs])) hL (by omega))) (by omega) (by omega)) (ea_cons (ev_var rfl) (ea_cons (ev_var rfl) ea_nil))) down_i fun H9 e9 Q9 q9 => ⟨_, _, _, rfl, at0, at1, hbz, q9⟩) fun v H9 e9 ⟨nu, hv⟩ => ?_
        subst hv
        refine sP_app (P := fun _ u _ => ∃ x : Int, u = .int x ∧ 0 ≤ x) (e9 _ _ (e8 _ _ hRu)) (ev_var rfl) ?_ down_c (by rw [List.length_map]; omega) fun v H10 e10 ⟨x, hv, hx⟩ => ⟨⟨_, _, _, _, rfl⟩, ?_, u ++ [x], ?_, by rw [List.length_append, hul]; rfl, fun y hy => ?_⟩
        · refine evp_if (b := decide (nu % 5 < t5)) (et_lt (ev_mod (ev_var rfl) ev_c (by decide)) (ev_ixNT (eu_tup (ea_cons ev_c (ea_cons ev_c (ea_cons ev_c (ea_cons ev_c ea_nil)))) (by show 4 ≤ 100000; decide)) (ev_mod (ev_div (ev_var rfl) ev_c (by decide) (by decide)) ev_c (by decide)) ht5) rfl) (fun _ => ?_) (fun _ => ?_) down_c
          · exact (evp_of (ev_mod (ev_div (ev_var rfl) ev_c (by decide) (by decide)) (ev_var rfl) mo0)).imp fun _ _ _ _ _ hv => ⟨_, hv, Int.emod_nonneg _ (by omega)⟩
          · exact (evp_of ev_c).imp fun _ _ _ _ _ hv => ⟨0, hv, Int.le_refl 0⟩
        · exact Ex.mut (((e57.trans e8).trans e9).trans e10) nR
        · rw [upd_same, hv, List.map_append]
          rfl
        · rcases List.mem_append.mp hy with hy | hy
          · exact hup y hy
          · have : y = x := by simpa using hy
            rw [this]
            exact hx
      · obtain ⟨⟨z9, z10, z11, z12, rfl⟩, e57, u, hRu, hul, hup⟩ := q
        have hu7 := hu.mono e57
        have hRF : R ≠ F := (ne_of_none hu.tab.top nR).symm
        refine s_app hu7.tab.top (ev_var rfl) (ev_var (v := .ref R) rfl) (by rw [List.length_map, hu.tab.len, hu.rect.len]; omega) fun H8 e8 => ⟨⟨_, _, _, _, _, _, rfl⟩, rs ++ [R], T ++ [u], ?_, ?_, ?_, ?_, ?_, ?_⟩
        · exact Ex.mut (hu7.ex.trans e8) nF
        · exact (hu7.tab.mono e8).snoc (e8 _ _ hRu) hRF
        · refine List.nodup_append.mpr ⟨hu.nd, by simp, fun x hx y hy hxy => ?_⟩
          have : y = R := by simpa using hy
          subst this
          obtain ⟨z, hz⟩ := List.mem_iff_getElem?.mp hx
          obtain ⟨_, _, ho⟩ := hu.tab.ref hz
          rw [hxy, nR] at ho
          cases ho
        · intro x hx
          rcases List.mem_append.mp hx with hx | hx
          · exact hu.fr x hx
          · have : x = R := by simpa using hx
            rw [this]
            exact fresh_back hu.ex nR
        · refine ⟨by rw [List.length_append, hu.rect.len]; rfl, fun x hx => ?_⟩
          rcases List.mem_append.mp hx with hx | hx
          · exact hu.rect.row x hx
          · have : x = u := by simpa using hx
            rw [this, hul]
            omega
        · intro x hx
          rcases List.mem_append.mp hx with hx | hx
          · exact hu.pos x hx
          · have : x = u := by simpa using hx
            rw [this]
            exact hup
    · obtain ⟨⟨y7, y8, y9, y10, y11, y12, rfl⟩, rs, T, hu⟩ := q
      have hu : Under H3 H5 F rs T r c := hu
      have fin : ∀ (σ' : L2.St) (H' : Hp), (∃ y7 y8 y9 y10 y11 y12, σ' = [some (.ref a), some (.int r), some (.int c), some (.ref pc), some (.int wh), some (.int mo), some (.ref F), y7, y8, y9, y10, y11, y12]) ∧ (∃ T, Under H3 H' F rs T r c) → tRet (tVar 6) { nx := fun _ H' => Q .non H', rt := Q } σ' H' := fun σ' H' q => by
        obtain ⟨⟨y7, y8, y9, y10, y11, y12, rfl⟩, T, hu⟩ := q
        exact s_ret (ev_var rfl) fun H8 e8 => k T ⟨hu.rect, hu.pos, hr1, hr2, hc1, hc2⟩ _ H8 ((e03.trans hu.ex).trans e8) ⟨F, rs, rfl, F0, hu.nd, fun x hx => fresh_back e03 (hu.fr x hx), hu.tab.mono e8⟩
      refine q_when (b := decide (wh / 3840 % 4 = 1)) (et_eq (ev_mod (ev_div (ev_var rfl) ev_c (by decide) (by decide)) ev_c (by decide)) ev_c rfl) (fun _ H6 e6 => ?_) (fun _ H6 e6 => ?_)
      · have hcut : cutV (cs.map V.int) none (some 5) = (cs.take 5).map V.int := by
          rw [List.map_take]
          exact cut_take (α := V) _ 5
        have hcs6 := e6 _ _ (hu.ex _ _ hcs3)
        refine s_forNE (xs := (cs.take 5).map V.int) (by rw [← hcut]; exact el_sl (ev_var rfl) eo_none (eo_some ev_c) (sq_of hcs6)) (fun pq i σ' H' => ((∃ y7 y8 y9 y10 y11 y12, σ' = [some (.ref a), some (.int r), some (.int c), some (.ref pc), some (.int wh), some (.int mo), some (.ref F), y7, y8, y9, y10, y11, y12]) ∧ (∃ T, Under H3 H' F rs T r c)) ∧ H' pq = some (.lst ((cs.take 5).map V.int)) ∧ pq ∉ rs) (fun pq H7 npq e7 h7 => ⟨⟨⟨_, _, _, _, _, _, rfl⟩, T, (hu.mono e6).mono e7⟩, h7, fun hx => ?_⟩) (fun pq i σ' H' _ q => sq_of q.2.1) (fun pq i x σ' H' hx q H7 e7 => ?_) (fun pq σ' H' q => fin σ' H' q.1)
        · obtain ⟨z, hz⟩ := List.mem_iff_getElem?.mp hx
          obtain ⟨_, _, ho⟩ := (hu.mono e6).tab.ref hz
          rw [npq] at ho
          cases ho
        · obtain ⟨⟨⟨y7, y8, y9, y10, y11, y12, rfl⟩, T, hu'⟩, hpq, hpr⟩ := q
          rw [List.getElem?_map] at hx
          cases hz : (cs.take 5)[i]? with
          | none => rw [hz] at hx; cases hx
          | some z =>
            rw [hz] at hx
            have ex : V.int z = x := Option.some.inj hx
            subst ex
            have hi5 : i < 5 := by
              have := (List.getElem?_eq_some_iff.mp hz).1
              rw [List.length_take] at this
              omega
            have hzb := hcb z (List.mem_of_mem_take (List.mem_of_getElem? hz))
            refine qp_asg (P := IsI) (evp_call (ea_cons (ev_var rfl) (ea_cons (ev_add (ev_var rfl) ev_c) (ea_cons (ev_var rfl) ea_nil))) down_i fun H9 e9 Q9 q9 => ⟨z, (i : Int) + 50, wh, rfl, by omega, by omega, hzb, q9⟩) fun v H8 e8 ⟨nu, hv⟩ => ?_
            subst hv
            refine s_forR1 (n := (r : Int)) (ea_cons (ev_var rfl) ea_nil) (by omega) (fun i' σ' H' => ((∃ y7 y8 y9 y10 y12, σ' = [some (.ref a), some (.int r), some (.int c), some (.ref pc), some (.int wh), some (.int mo), some (.ref F), y7, y8, y9, y10, some (.int nu), y12]) ∧ (∃ T, Under H3 H' F rs T r c)) ∧ H' pq = some (.lst ((cs.take 5).map V.int)) ∧ pq ∉ rs)
              (fun H9 e9 => ⟨⟨⟨_, _, _, _, _, rfl⟩, T, (hu'.mono (e7.trans e8)).mono e9⟩, e9 _ _ (e8 _ _ (e7 _ _ hpq)), hpr⟩) (fun i' σ' H9 hi' q => ?_) (fun σ' H9 q => ?_)
            · obtain ⟨⟨⟨x7, x8, x9, x10, x12, rfl⟩, T, hu9⟩, hpq9, hpr9⟩ := q
              have hir : i' < r := by omega
              have hmul : IntMulOk (i' : Int) (1 + nu % 3) := mulOk_small (by omega) (by omega)
              refine q_asg (ev_mod (ev_add (ev_mul (ev_var rfl) (ev_add ev_c (ev_mod (ev_var rfl) ev_c (by decide))) hmul) (ev_div (ev_var rfl) ev_c (by decide) (by decide))) (ev_var rfl) (by omega)) fun H10 e10 => ?_
              generalize hpl : ((i' : Int) * (1 + nu % 3) + nu / 3) % (c : Int) = pl
              have pl0 : 0 ≤ pl := by rw [← hpl]; exact Int.emod_nonneg _ (by omega)
              have pl1 : pl < c := by rw [← hpl]; exact Int.emod_lt_of_pos _ (by omega)
              obtain ⟨pn, rfl⟩ : ∃ pn : Nat, pl = (pn : Int) := ⟨pl.toNat, by omega⟩
              have hu10 := hu9.mono e10
              obtain ⟨u, z, hu1, hul, hz⟩ := hu10.rect.cell hir (show pn < c by omega)
              obtain ⟨fr1, hfr, _⟩ := hu10.tab.at hu1
              refine s_setL (hu10.tab.row i' fr1 u hfr hu1) (ev_add (ev_cell (ev_var rfl) (ev_var rfl) (ev_var rfl) hu10.tab hu1 hz) (ev_mod (ev_div (ev_var rfl) ev_c (by decide) (by decide)) (ev_var rfl) mo0)) (ev_row (ev_var rfl) (ev_var rfl) hu10.tab hfr) (ev_var rfl) (by rw [List.length_map, hul]; omega) fun H11 e11 => ?_
              have hu11 := hu10.mono e11
              have hmem := List.mem_of_getElem? hfr
              rw [map_set_int]
              refine ⟨⟨⟨_, _, _, _, _, rfl⟩, T.set i' (u.set pn (z + nu / 30 % mo)), Ex.mut hu11.ex (hu11.fr _ hmem), hu11.tab.set hu11.nd hfr hu1, hu11.nd, hu11.fr, hu11.rect.set (by rw [List.length_set]; exact hul), fun x hx y hy => ?_⟩, ?_, hpr9⟩
              · have hzu := hu10.pos u (List.mem_of_getElem? hu1)
                rcases List.mem_or_eq_of_mem_set hx with h1 | h1
                · exact hu11.pos x h1 y hy
                · subst h1
                  rcases mem_set hy with h2 | h2
                  · exact hzu y h2
                  · have h3 := hzu z (List.mem_of_getElem? hz)
                    have h4 := Int.emod_nonneg (nu / 30) (show mo ≠ 0 by omega)
                    omega
              · rw [upd_ne (fun z : pq = fr1 => hpr9 (z ▸ hmem))]
                exact e11 _ _ (e10 _ _ hpq9)
            · obtain ⟨⟨⟨x7, x8, x9, x10, x12, rfl⟩, T, hu9⟩, hpq9, hpr9⟩ := q
              exact ⟨⟨⟨_, _, _, _, _, _, rfl⟩, T, hu9⟩, hpq9, hpr9⟩
      · exact fin _ H6 ⟨⟨_, _, _, _, _, _, rfl⟩, T, hu.mono e6⟩
end Lh

namespace Lh
open PySem PySem.Spec PyProof.Rows L2 Evl
theorem ok__law_sums {P : Program} {w : World} {K : PySem.W.Frag} {mg : Str → Option Value} {base : Heap} (M : Mg mg) (D : Def K mg "_law_sums" s__law_sums ["_law_table_here"]) : Cal P w K mg base 1 "_law_sums" ["_law_table_here"] (sp__law_sums K) := by
  refine D.cal sc__law_sums (fun vs H Q E h => ?_) (fun f cdv A outer s H vs Q E hr h => ?_)
  · obtain ⟨a, rs, T, n, m, rfl, _⟩ := h
    rfl
  · obtain ⟨a, rs, T, n, m, rfl, hT, hR, hn, hn2, hm2, k⟩ := h
    obtain ⟨u0, hu0, hl0⟩ := hR.lt (show 0 < n by omega)
    obtain ⟨r0, hr0, h0⟩ := hT.at hu0
    have e0 : ((u0.map V.int).length : Int) = (m : Int) := by rw [List.length_map, hl0]
    refine ⟨_, (pss_cons (ps_set (i := 1) sc__law_sums.nd rfl (Or.inl rfl) (pe_lst pa_nil))
  (pss_cons (ps_for PassesOwn.never rfl (pi_list (pv 0)) (pg_name (i := 2) sc__law_sums.nd rfl (Or.inl rfl))
  (pss_one (ps_expr (pe_bm PySem.F.plainAttrs_list PySem.F.slot_list_append PySem.F.type_list_append mt_append (pv 1) (pa_cons (pe_callB (cr_sum rfl) (by rfl) M.sum (by decide +kernel) (pa_cons (pv 2) pa_nil)) pa_nil)))))
  (pss_cons (ps_for PassesOwn.never rfl (pi_range1 (by rfl) M.range (pa_cons (pe_callB call_len_seq (by rfl) M.len (by decide +kernel) (pa_cons (pe_ix ix_list (pv 0) pe_int (fun _ _ => rfl)) pa_nil)) pa_nil)) (pg_name (i := 3) sc__law_sums.nd rfl (Or.inr rfl))
  (pss_one (ps_expr (pe_bm PySem.F.plainAttrs_list PySem.F.slot_list_append PySem.F.type_list_append mt_append (pv 1) (pa_cons (pe_callB (cr_sum rfl) (by rfl) M.sum (by decide +kernel) (pa_cons (pe_lc (own := [("_law_row", 2)]) (wi := (iList K (tVar 0))) (g := gName 2) (tt := tYes) (te := (tOp (rIxL K) (tVar 2) (tVar 3))) (by rfl) sc__law_sums.nd  (pi_list (pv 0)) (blkOk_by (by kernel_rfl)) (fun _ _ _ _ _ => (pg_name (i := 2) sc__law_sums.nd rfl (Or.inl rfl))) (fun _ _ _ _ _ => pts_nil) (fun _ _ _ _ _ => (pe_ix ix_list (pv 2) (pv 3) (fun _ _ => rfl)))) pa_nil)) pa_nil)))))
  (pss_one (ps_ret (pv 1)))))), ?_⟩
    refine q_asgL (el_lst ea_nil (by show 0 ≤ 100000; decide)) fun p H1 n1 e1 h1 => ?_
    refine q_forLn (ev_var rfl) (hT.mono e1).sq (fun i σ' H' => (∃ y2 y3, σ' = [some (.ref a), some (.ref p), y2, y3]) ∧ Ex H H' ∧ H' p = some (.lst (((rowSums T).take i).map V.int))) (fun H2 e2 => ⟨⟨none, none, rfl⟩, e1.trans e2, by rw [e2 _ _ h1]; rfl⟩) (fun i σ' H' _ q => (hT.mono q.2.1).sq) (fun i x σ' H' hx q => ?_) (fun σ' H' q => ?_)
    · obtain ⟨⟨y2, y3, rfl⟩, ex, hp⟩ := q
      have hi : i < n := by
        have := (List.getElem?_eq_some_iff.mp hx).1
        rw [List.length_map, hT.len, hR.len] at this
        exact this
      obtain ⟨u, hu, hl⟩ := hR.lt hi
      obtain ⟨r, hr1, hr2⟩ := (hT.mono ex).at hu
      have exr : x = .ref r := Option.some.inj (hx.symm.trans (ref_at hr1))
      subst exr
      refine s_app hp (ev_var rfl) (ev_sum (ev_var rfl) (sq_of hr2)) (by rw [List.length_map, List.length_take]; have := rowSums_len T; rw [hR.len] at this; omega) fun H2 e2 => ⟨⟨_, _, rfl⟩, Ex.mut (ex.trans e2) n1, ?_⟩
      rw [upd_same, List.take_add_one, rowSums_at hu, List.map_append] <;> rfl
    · obtain ⟨⟨y2, y3, rfl⟩, ex, hp⟩ := q
      have hall : (rowSums T).take (rs.map V.ref).length = rowSums T := List.take_of_length_le (by rw [rowSums_len, List.length_map, hT.len]; exact Nat.le_refl _)
      rw [hall] at hp
      have hT' := hT.mono ex
      refine q_forR1 (n := (m : Int)) (ea_cons (ev_is (ev_lenL (ev_ixL (ev_var rfl) ev_c hT'.sq (atI_of (j := 0) rfl (ref_at hr0))) (sq_of (ex _ _ h0))) (by rw [e0])) ea_nil) (by omega) (fun i σ' H' => (∃ y2 y3, σ' = [some (.ref a), some (.ref p), y2, y3]) ∧ Ex H H' ∧ H' p = some (.lst ((rowSums T ++ (colSums T m).take i).map V.int))) (fun H2 e2 => ⟨⟨y2, y3, rfl⟩, ex.trans e2, by rw [e2 _ _ hp]; simp⟩) (fun j σ' H' hj q => ?_) (fun σ' H' q => ?_)
      · obtain ⟨⟨z2, z3, rfl⟩, ex', hp'⟩ := q
        have hj2 : j < m := by omega
        have hT2 := hT.mono ex'
        have hg2 : (T.map fun r => r.getD j 0).map V.int = given (rs.map V.ref).length (fun _ => true) (fun z => .int ((T.getD z []).getD j 0)) := by
          refine (given_all (by rw [List.length_map, List.length_map, List.length_map, hT.len]) fun z x hx => ?_).symm
          rw [List.getElem?_map, List.getElem?_map] at hx
          cases hz : T[z]? with
          | none => rw [hz] at hx; cases hx
          | some u =>
            rw [hz] at hx
            have e : T.getD z [] = u := by simp [List.getD, hz]
            rw [e]
            exact Option.some.inj hx
        refine s_app (v := .int (colAt T j)) hp' (ev_var rfl) (ev_sumL (ns := T.map fun r => r.getD j 0) ?_) (by rw [List.length_map, List.length_append, List.length_take, rowSums_len, hR.len]; omega) fun H2 e2 => ⟨⟨_, _, rfl⟩, Ex.mut (ex'.trans e2) n1, ?_⟩
        · rw [hg2]
          refine el_lcL _ _ (ev_var rfl) hT2.sq (by rw [List.length_map, hT.len, hR.len]; omega) (fun x => rfl) (fun z x H2 e2 hz => et_yes) (fun z x H2 e2 hz _ => ?_)
          have hz2 : z < n := by
            have := (List.getElem?_eq_some_iff.mp hz).1
            rw [List.length_map, hT.len, hR.len] at this
            exact this
          obtain ⟨u, y, hu, hul, hy⟩ := hR.cell hz2 hj2
          obtain ⟨r, hr, h5⟩ := (hT2.mono e2).at hu
          have e6 : (T.getD z []).getD j 0 = y := by
            have : T.getD z [] = u := by simp [List.getD, hu]
            rw [this]
            exact getD_of hy
          have ex : x = .ref r := Option.some.inj (hz.symm.trans (ref_at hr))
          rw [e6, ex]
          exact ev_ixL (ev_var rfl) (ev_var rfl) (sq_of h5) (atI_nat (int_at hy))
        · rw [upd_same, List.take_add_one, colSums_at hj2]
          simp
      · obtain ⟨⟨z2, z3, rfl⟩, ex', hp'⟩ := q
        have hall2 : (colSums T m).take (m : Int).toNat = colSums T m := List.take_of_length_le (by rw [colSums_len]; omega)
        rw [hall2] at hp'
        exact s_ret (ev_var rfl) fun H3 e3 => k _ H3 (ex'.trans e3) ⟨p, rfl, n1, e3 _ _ hp'⟩
end Lh

namespace Lh
open PySem PySem.Spec PyProof.Rows L2 Evl
theorem ok__law_sizes {P : Program} {w : World} {K : PySem.W.Frag} {mg : Str → Option Value} {base : Heap} (M : Mg mg) (D : Def K mg "_law_sizes" s__law_sizes ["_law_script"]) : Cal P w K mg base 1 "_law_sizes" ["_law_script"] (sp__law_sizes K) := by
  refine D.cal sc__law_sizes (fun vs H Q E h => ?_) (fun f cdv A outer s H vs Q E hr h => ?_)
  · obtain ⟨a, ns, rfl, _⟩ := h
    rfl
  · obtain ⟨a, ns, rfl, hS, k⟩ := h
    refine ⟨_, (pss_cons (ps_set (i := 1) sc__law_sizes.nd rfl (Or.inl rfl) (pe_callB (cr_sum rfl) (by rfl) M.sum (by decide +kernel) (pa_cons (pe_slice sl_list (pv 0) po_none (po_some pe_int)) pa_nil)))
  (pss_cons (ps_if (pt_cmpR op_eq (pe_op op_mod (pe_op op_fdiv (pv 1) pe_int) pe_int) pe_int (nomark _))
  (pss_one (ps_ret (pe_tup (pa_cons (pe_op op_add pe_int (pe_op op_mod (pe_op op_fdiv (pv 1) pe_int) pe_int)) (pa_cons (pe_op op_add pe_int (pe_op op_mod (pe_op op_fdiv (pv 1) pe_int) pe_int)) pa_nil)))))
  pss_nil)
  (pss_one (ps_ret (pe_tup (pa_cons (pe_op op_add pe_int (pe_op op_mod (pv 1) pe_int)) (pa_cons (pe_op op_add pe_int (pe_op op_mod (pe_op op_fdiv (pv 1) pe_int) pe_int)) pa_nil))))))), ?_⟩
    have hc : cutV (ns.map V.int) none (some 63) = ((ns.drop (HT.sIx ns.length 0 none)).take (HT.sIx ns.length ns.length (some 63) - HT.sIx ns.length 0 none)).map V.int := by
      unfold cutV
      rw [List.map_take, List.map_drop, List.length_map]
    generalize hw : (ns.drop (HT.sIx ns.length 0 none)).take (HT.sIx ns.length ns.length (some 63) - HT.sIx ns.length 0 none) = ws at hc
    refine q_asg (v := .int ws.sum) (ev_sumL ?_) fun H1 e1 => ?_
    · rw [← hc]
      exact el_sl (ev_var rfl) eo_none (eo_some ev_c) hS
    generalize ws.sum = z
    have fin : ∀ x y : Int, 1 ≤ x → x ≤ 20 → 1 ≤ y → y ≤ 20 → ∀ H2, Ex H H2 → ∀ p H3, H2 p = none → Ex H2 H3 → H3 p = some (.tup [.int x, .int y]) → Q (.ref p) H3 := fun x y h1 h2 h3 h4 H2 e2 p H3 hp e3 h => by
      have := k x.toNat y.toNat (by omega) (by omega) (by omega) (by omega) (.ref p) H3 (e2.trans e3) ⟨p, rfl, fresh_back e2 hp, ?_⟩
      · exact this
      · rw [show ((x.toNat : Nat) : Int) = x by omega, show ((y.toNat : Nat) : Int) = y by omega]
        exact h
    refine q_when (b := decide (z / 36 % 16 = 9)) (et_eq (ev_mod (ev_div (ev_var rfl) ev_c (by decide) (by decide)) ev_c (by decide)) ev_c rfl) (fun _ H2 e2 => ?_) (fun _ H2 e2 => ?_)
    · exact s_retU (eu_tup (ea_cons (ev_add ev_c (ev_mod (ev_div (ev_var rfl) ev_c (by decide) (by decide)) ev_c (by decide))) (ea_cons (ev_add ev_c (ev_mod (ev_div (ev_var rfl) ev_c (by decide) (by decide)) ev_c (by decide))) ea_nil)) (by show 2 ≤ 100000; decide)) fun p H3 hp e3 h3 => fin _ _ (by omega) (by omega) (by omega) (by omega) H2 (e1.trans e2) p H3 hp e3 h3
    · exact s_retU (eu_tup (ea_cons (ev_add ev_c (ev_mod (ev_var rfl) ev_c (by decide))) (ea_cons (ev_add ev_c (ev_mod (ev_div (ev_var rfl) ev_c (by decide) (by decide)) ev_c (by decide))) ea_nil)) (by show 2 ≤ 100000; decide)) fun p H3 hp e3 h3 => fin _ _ (by omega) (by omega) (by omega) (by omega) H2 (e1.trans e2) p H3 hp e3 h3
end Lh

namespace Lh
open PySem PySem.Spec PyProof.Rows L2 Evl
theorem ok__law_whole {P : Program} {w : World} {K : PySem.W.Frag} {mg : Str → Option Value} {base : Heap} (M : Mg mg) (D : Def K mg "_law_whole" s__law_whole ["_law_number_here"]) : Cal P w K mg base 1 "_law_whole" ["_law_number_here"] (sp__law_whole K) := by
  refine D.cal sc__law_whole (fun vs H Q E h => ?_) (fun f cdv A outer s H vs Q E hr h => ?_)
  · obtain ⟨x, T, b1, b2, rfl, _⟩ := h
    rfl
  · obtain ⟨x, T, b1, b2, rfl, ty, h1, h2, k⟩ := h
    refine ⟨_, (pss_one (ps_ret (pe_and (pe_callB call_isi (by rfl) M.isinstance (by decide +kernel) (pa_cons (pv 0) (pa_cons (pe_bltn (v := .ty "int") (u := .type "int") (by rfl) M.int_ (by decide +kernel) rfl) pa_nil))) (pe_one (pe_not (pe_callB call_isi (by rfl) M.isinstance (by decide +kernel) (pa_cons (pv 0) (pa_cons (pe_bltn (v := .ty "bool") (u := .type "bool") (by rfl) M.bool_ (by decide +kernel) rfl) pa_nil)))))))), ?_⟩
    exact s_ret (v := .bl (b1 && !b2)) (ev_andV (ev_isi (ev_var rfl) (fun H1 e => tyx_mono e ty) h1) fun _ => ev_notV (ev_isi (ev_var rfl) (fun H1 e => tyx_mono e ty) h2)) fun H1 e => k _ H1 e rfl
end Lh

namespace Lh
open PySem PySem.Spec PyProof.Rows L2 Evl
theorem sums_all {T F : List (List Int)} {n m : Nat} {h : Int} (hF : Raised T n m h F) : rowSums F ++ colSums F (max n m) = List.replicate (2 * (max n m)) h := by
  refine List.eq_replicate_iff.mpr ⟨by rw [List.length_append, rowSums_len, colSums_len, hF.rect.len]; omega, fun x hx => ?_⟩
  rcases List.mem_append.mp hx with hx | hx
  · obtain ⟨u, hu, rfl⟩ := List.mem_map.mp hx
    exact hF.rows u hu
  · obtain ⟨j, hj, rfl⟩ := List.mem_map.mp hx
    exact hF.cols j (List.mem_range.mp hj)
theorem ok__law_raised_right {P : Program} {w : World} {K : PySem.W.Frag} {mg : Str → Option Value} {base : Heap} (M : Mg mg) (D : Def K mg "_law_raised_right" s__law_raised_right ["_law_table_here", "_law_hours"]) (C_raised : Cal P w K mg base 3 "raised" ["table", "hours"] (sp_raised K)) (C__law_whole : Cal P w K mg base 1 "_law_whole" ["_law_number_here"] (sp__law_whole K)) (C__law_sums : Cal P w K mg base 1 "_law_sums" ["_law_table_here"] (sp__law_sums K)) : Cal P w K mg base 4 "_law_raised_right" ["_law_table_here", "_law_hours"] (sp__law_raised_right K) := by
  refine D.cal sc__law_raised_right (fun vs H Q E h => ?_) (fun f cdv A outer s H vs Q E hr h => ?_)
  · obtain ⟨a, rs, T, n, m, h, rfl, _⟩ := h
    rfl
  · obtain ⟨a, rs, T, n, m, h, rfl, hT, hG, hh, k⟩ := h
    have hR := hG.toRect
    have b1 := hG.n1
    have b2 := hG.n20
    have b3 := hG.m1
    have b4 := hG.m20
    obtain ⟨u0, hu0, hl0⟩ := hR.lt (show 0 < n by omega)
    obtain ⟨r0, hr0, h0⟩ := hT.at hu0
    have e0 : ((u0.map V.int).length : Int) = (m : Int) := by rw [List.length_map, hl0]
    have en : ((rs.map V.ref).length : Int) = (n : Int) := by rw [List.length_map, hT.len, hR.len]
    refine ⟨_, (pss_cons (ps_setLc (i := 2) (own := [("_law_row", 7)]) (wi := (iList K (tVar 0))) (g := gName 7) (tt := tYes) (te := (tCB (rListS K) (tCons (tVar 7) tNil))) (by rfl) sc__law_raised_right.nd rfl rfl (sw_true rfl rfl rfl (by decide +kernel)) (pi_list (pv 0)) (blkOk_by (by kernel_rfl)) (fun _ _ _ _ _ => (pg_name (i := 7) sc__law_raised_right.nd rfl (Or.inl rfl))) (fun _ _ _ _ _ => pts_nil) (fun _ _ _ _ _ => (pe_callTy call_list_of (by rfl) M.list_ (by decide +kernel) (pa_cons (pv 7) pa_nil))))
  (pss_cons (ps_set (i := 3) sc__law_raised_right.nd rfl (Or.inl rfl) (pe_callB (call_max2 rfl) (by rfl) M.max (by decide +kernel) (pa_cons (pe_callB call_len_seq (by rfl) M.len (by decide +kernel) (pa_cons (pv 0) pa_nil)) (pa_cons (pe_callB call_len_seq (by rfl) M.len (by decide +kernel) (pa_cons (pe_ix ix_list (pv 0) pe_int (fun _ _ => rfl)) pa_nil)) pa_nil))))
  (pss_cons (ps_for PassesOwn.never rfl (pi_range1 (by rfl) M.range (pa_cons pe_int pa_nil)) (pg_name (i := 4) sc__law_raised_right.nd rfl (Or.inl rfl))
  (pss_cons (ps_set (i := 5) sc__law_raised_right.nd rfl (Or.inl rfl) (pe_cal C_raised hr (by rfl) (pa_cons (pv 2) (pa_cons (pv 1) pa_nil))))
  (pss_cons (ps_if (PW.pt (pw_or (pt_not (pt_val (pe_callB call_isi (by rfl) M.isinstance (by decide +kernel) (pa_cons (pv 5) (pa_cons (pe_bltn (v := .ty "list") (u := .type "list") (by rfl) M.list_ (by decide +kernel) rfl) pa_nil))))) (pw_or (pt_cmpR op_ne (pe_callB call_len_seq (by rfl) M.len (by decide +kernel) (pa_cons (pv 5) pa_nil)) (pv 3) (nomark _)) (pw_or1 (pt_cmpR (op_neD hr.units) (pv 2) (pv 0) (nomark _))))))
  (pss_one (ps_ret pe_bl))
  pss_nil)
  (pss_cons (ps_for PassesOwn.never rfl (pi_enum (by rfl) M.enumerate (pa_cons (pv 5) pa_nil)) (pg_tup rfl (pgs_cons (pg_name (i := 6) sc__law_raised_right.nd rfl (Or.inl rfl)) (pgs_cons (pg_name (i := 7) sc__law_raised_right.nd rfl (Or.inl rfl)) pgs_nil)))
  (pss_cons (ps_if (PW.pt (pw_or (pt_not (pt_val (pe_callB call_isi (by rfl) M.isinstance (by decide +kernel) (pa_cons (pv 7) (pa_cons (pe_bltn (v := .ty "list") (u := .type "list") (by rfl) M.list_ (by decide +kernel) rfl) pa_nil))))) (pw_or (pt_cmpR op_ne (pe_callB call_len_seq (by rfl) M.len (by decide +kernel) (pa_cons (pv 7) pa_nil)) (pv 3) (nomark _)) (pw_or1 (pt_not (pt_val (pe_callB (cr_all rfl) (by rfl) M.all (by decide +kernel) (pa_cons (pe_lc (own := [("_law_one", 9)]) (wi := (iList K (tVar 7))) (g := gName 9) (tt := tYes) (te := (tCall _ [] E0 (tCons (tVar 9) tNil))) (by rfl) sc__law_raised_right.nd  (pi_list (pv 7)) (blkOk_by (by kernel_rfl)) (fun _ _ _ _ _ => (pg_name (i := 9) sc__law_raised_right.nd rfl (Or.inl rfl))) (fun _ _ _ _ _ => pts_nil) (fun _ _ _ _ _ => (pe_cal C__law_whole hr (by rfl) (pa_cons (pv 9) pa_nil)))) pa_nil))))))))
  (pss_one (ps_ret pe_bl))
  pss_nil)
  (pss_one (ps_for PassesOwn.never rfl (pi_enum (by rfl) M.enumerate (pa_cons (pv 7) pa_nil)) (pg_tup rfl (pgs_cons (pg_name (i := 8) sc__law_raised_right.nd rfl (Or.inl rfl)) (pgs_cons (pg_name (i := 9) sc__law_raised_right.nd rfl (Or.inl rfl)) pgs_nil)))
  (pss_cons (ps_set (i := 10) sc__law_raised_right.nd rfl (Or.inl rfl) (pe_ifExp (PW.pt (pw_and (pt_cmpR op_lt (pv 6) (pe_callB call_len_seq (by rfl) M.len (by decide +kernel) (pa_cons (pv 0) pa_nil)) (nomark _)) (pw_and1 (pt_cmpR op_lt (pv 8) (pe_callB call_len_seq (by rfl) M.len (by decide +kernel) (pa_cons (pe_ix ix_list (pv 0) pe_int (fun _ _ => rfl)) pa_nil)) (nomark _))))) (pe_ix ix_list (pe_ix ix_list (pv 0) (pv 6) (fun _ _ => rfl)) (pv 8) (fun _ _ => rfl)) pe_int))
  (pss_one (ps_if (pt_cmpR op_lt (pv 9) (pv 10) (nomark _))
  (pss_one (ps_ret pe_bl))
  pss_nil)))))))
  (pss_cons (ps_if (pt_cmpR (op_neD hr.units) (pe_cal C__law_sums hr (by rfl) (pa_cons (pv 5) pa_nil)) (pe_op op_rep (pe_lst (pa_cons (pv 1) pa_nil)) (pe_op op_mulX pe_int (pv 3))) (nomark _))
  (pss_one (ps_ret pe_bl))
  pss_nil)
  (pss_cons (ps_setLc (i := 11) (own := [("_law_row", 7)]) (wi := (iList K (tVar 5))) (g := gName 7) (tt := tYes) (te := (tCB (rListS K) (tCons (tVar 7) tNil))) (by rfl) sc__law_raised_right.nd rfl rfl (sw_true rfl rfl rfl (by decide +kernel)) (pi_list (pv 5)) (blkOk_by (by kernel_rfl)) (fun _ _ _ _ _ => (pg_name (i := 7) sc__law_raised_right.nd rfl (Or.inl rfl))) (fun _ _ _ _ _ => pts_nil) (fun _ _ _ _ _ => (pe_callTy call_list_of (by rfl) M.list_ (by decide +kernel) (pa_cons (pv 7) pa_nil))))
  (pss_cons (ps_expr (pe_bm PySem.F.plainAttrs_list PySem.F.slot_list_append PySem.F.type_list_append mt_append (pe_ix ix_list (pv 5) pe_int (fun _ _ => rfl)) (pa_cons pe_int pa_nil)))
  (pss_cons (ps_if (pt_cmpR (op_neD hr.units) (pe_slice sl_list (pv 5) (po_some pe_int) po_none) (pe_slice sl_list (pv 11) (po_some pe_int) po_none) (nomark _))
  (pss_one (ps_ret pe_bl))
  pss_nil)
  (pss_one (ps_expr (pe_bm PySem.F.plainAttrs_list PySem.F.slot_list_append PySem.F.type_list_append mt_append (pv 5) (pa_cons (pe_lst pa_nil) pa_nil))))))))))))
  (pss_one (ps_ret (pe_cmpR (op_eqD hr.units) (pv 2) (pv 0) (nomark _))))))), ?_⟩
    -- handed
    refine qp_asg (P := NewT T) (evp_copyT (ev_var rfl) hT (by rw [hR.len]; omega) (by show 7 < 12; decide) (fun x => rfl)) fun v H1 e1 ⟨ph, hs, hv, nph, ndh, frh, hTh⟩ => ?_
    subst hv
    have hT1 := hT.mono e1
    -- size
    refine q_asg (v := .int ((max n m : Nat) : Int)) (ev_is (ev_mx2 (ev_lenL (ev_var rfl) hT1.sq) (ev_lenL (ev_ixL (ev_var rfl) ev_c hT1.sq (atI_of (j := 0) rfl (ref_at hr0))) (sq_of (e1 _ _ h0)))) (by rw [en, e0]; congr 1; omega)) fun H2 e2 => ?_
    have hsz1 : 1 ≤ max n m := by omega
    have hsz2 : max n m ≤ 20 := by omega
    generalize hsz : max n m = sz at hsz1 hsz2
    have hTh2 := hTh.mono e2
    have hT2 := hT1.mono e2
    -- twice
    refine q_forR1 (n := (2 : Int)) (ea_cons ev_c ea_nil) (by omega) (fun i σ' H' => (∃ y4 y5 y6 y7 y8 y9 y10 y11, σ' = [some (.ref a), some (.int h), some (.ref ph), some (.int (sz : Int)), y4, y5, y6, y7, y8, y9, y10, y11]) ∧ Ex H2 H')
      (fun H3 e3 => ⟨⟨_, _, _, _, _, _, _, _, rfl⟩, e3⟩) (fun i σ' H3 hi q => ?_) (fun σ' H3 q => ?_)
    · obtain ⟨⟨y4, y5, y6, y7, y8, y9, y10, y11, rfl⟩, e3⟩ := q
      have hTh3 := hTh2.mono e3
      have hT3 := hT2.mono e3
      have h03 := e3 _ _ (e2 _ _ (e1 _ _ h0))
      -- found = raised(handed, hours)
      refine qp_asg (P := fun H1 v H2 => ∃ F, Raised T n m h F ∧ NewT F H1 v H2) (evp_call (ea_cons (ev_var rfl) (ea_cons (ev_var rfl) ea_nil)) (fun H1 H2 v H3 e ⟨F, hF, hv⟩ => ⟨F, hF, down_t _ _ _ _ e hv⟩) fun H4 e4 Q4 q4 => ⟨ph, hs, T, n, m, h, rfl, hTh3.mono e4, hG, hh, fun F hF v H5 e5 hv => q4 v H5 e5 ⟨F, hF, hv⟩⟩) fun v H4 e4 ⟨F, hF, p, fs, hv, np, ndf, frf, hTf⟩ => ?_
      subst hv
      have hFr := hF.rect
      rw [hsz] at hFr
      have ef : ((fs.map V.ref).length : Int) = (sz : Int) := by rw [List.length_map, hTf.len, hFr.len]
      have hTh4 := hTh3.mono e4
      have hT4 := hT3.mono e4
      refine q_when (b := false) ?_ (fun h => nomatch h) fun _ H5 e5 => ?_
      · refine et_is (et_or (et_not (et_B (isi_list (ev_var rfl) hTf.top))) fun _ => et_or (et_ne (k := false) (ev_lenL (ev_var rfl) hTf.sq) (ev_var rfl) (by rw [ef]; simp)) fun _ => et_test (ev_neD (ev_var rfl) (ev_var rfl) (fun H5 e5 => (hTh4.mono e5).dp) (fun H5 e5 => (hT4.mono e5).dp) (shaped_tab T) (shaped_tab T))) ?_
        rw [eqv_tab]
        simp
      have hTf5 := hTf.mono e5
      have hT5 := hT4.mono e5
      have h05 := e5 _ _ (e4 _ _ h03)
      -- each row
      refine q_forE (ev_var rfl) hTf5.sq (fun _ σ' H' => (∃ y6 y7 y8 y9 y10 y11, σ' = [some (.ref a), some (.int h), some (.ref ph), some (.int (sz : Int)), some (.int (i : Int)), some (.ref p), y6, y7, y8, y9, y10, y11]) ∧ Ex H5 H') (fun H6 e6 => ⟨⟨_, _, _, _, _, _, rfl⟩, e6⟩) (fun z σ' H' _ q => (hTf5.mono q.2).sq) (fun z x σ' H6 hx q H7 e7 => ?_) (fun σ' H6 q => ?_)
      · obtain ⟨⟨x6, x7, x8, x9, x10, x11, rfl⟩, e6⟩ := q
        have hz : z < sz := by
          have := (List.getElem?_eq_some_iff.mp hx).1
          rw [List.length_map, hTf.len, hFr.len] at this
          exact this
        have hTf7 := (hTf5.mono e6).mono e7
        have hT7 := (hT5.mono e6).mono e7
        have h07 := e7 _ _ (e6 _ _ h05)
        obtain ⟨u, hu, hul⟩ := hFr.lt hz
        obtain ⟨r, hr1, hr2⟩ := hTf7.at hu
        have exr : x = .ref r := Option.some.inj (hx.symm.trans (ref_at hr1))
        subst exr
        have elu : ((u.map V.int).length : Int) = (sz : Int) := by rw [List.length_map, hul]
        refine q_when (b := false) ?_ (fun h => nomatch h) fun _ H8 e8 => ?_
        · have hal : EvL (tLc (iList K (tVar 7)) (gName 9) tYes (tCall (sp__law_whole K) [] E0 (tCons (tVar 9) tNil)) [9]) [some (.ref a), some (.int h), some (.ref ph), some (.int (sz : Int)), some (.int (i : Int)), some (.ref p), some (.int (z : Nat)), some (.ref r), x8, x9, x10, x11] H7 ((List.replicate u.length true).map V.bl) := by
            have hg : (List.replicate u.length true).map V.bl = given (u.map V.int).length (fun _ => true) (fun _ => .bl true) := by
              refine (given_all (by simp) fun i x hx => ?_).symm
              rw [List.getElem?_map, List.getElem?_replicate] at hx
              split at hx
              · exact Option.some.inj hx
              · cases hx
            rw [hg]
            refine el_lcL _ _ (ev_var rfl) (sq_of hr2) (by rw [List.length_map]; omega) (fun x => rfl) (fun z x H2 e2 hz => et_yes) (fun z x H2 e2 hz _ => ?_)
            rw [List.getElem?_map] at hz
            cases hq : u[z]? with
            | none => rw [hq] at hz; cases hz
            | some y =>
              rw [hq] at hz
              have ey : V.int y = x := Option.some.inj hz
              subst ey
              exact ev_callV (ea_cons (ev_var rfl) ea_nil) fun H1 e Q k => ⟨.int y, "int", true, false, rfl, tx_int, by decide +kernel, by decide +kernel, k⟩
          refine et_is (et_or (et_not (et_B (isi_list (ev_var rfl) hr2))) fun _ => et_or (et_ne (k := false) (ev_lenL (ev_var rfl) (sq_of hr2)) (ev_var rfl) (by rw [elu]; simp)) fun _ => et_not (et_B (ev_allL hal))) ?_
          rw [List.all_replicate]
          split <;> rfl
        have hT8 := hT7.mono e8
        have hr8 := e8 _ _ hr2
        have h08 := e8 _ _ h07
        refine s_forE (ev_var rfl) (sq_of hr8) (fun _ σ' H' => (∃ y8 y9 y10 y11, σ' = [some (.ref a), some (.int h), some (.ref ph), some (.int (sz : Int)), some (.int (i : Int)), some (.ref p), some (.int (z : Nat)), some (.ref r), y8, y9, y10, y11]) ∧ Ex H8 H') (fun H9 e9 => ⟨⟨_, _, _, _, rfl⟩, e9⟩) (fun z σ' H' _ q => sq_of (q.2 _ _ hr8)) (fun j x σ' H9 hx q H10 e10 => ?_) (fun σ' H9 q => ?_)
        · obtain ⟨⟨x8, x9, x10, x11, rfl⟩, e9⟩ := q
          have hj : j < sz := by
            have := (List.getElem?_eq_some_iff.mp hx).1
            rw [List.length_map, hul] at this
            exact this
          obtain ⟨y, hy, hyd⟩ := get_lt hul hj
          have ey : x = .int y := Option.some.inj (hx.symm.trans (int_at hy))
          subst ey
          have hT10 := (hT8.mono e9).mono e10
          have h010 := e10 _ _ (e9 _ _ h08)
          have hle : (T.getD z []).getD j 0 ≤ y := by
            have := hF.le z j (by omega) (by omega)
            have e1 : F.getD z [] = u := by simp [List.getD, hu]
            rw [e1, hyd] at this
            exact this
          refine q_asg (v := .int ((T.getD z []).getD j 0)) ?_ fun H11 e11 => ?_
          · refine ev_if (b := decide (z < n) && decide (j < m)) (et_is (et_and (et_lt (k := decide (z < n)) (ev_var rfl) (ev_lenL (ev_var rfl) hT10.sq) ?_) fun _ => et_lt (k := decide (j < m)) (ev_var rfl) (ev_lenL (ev_ixL (ev_var rfl) ev_c hT10.sq (atI_of (j := 0) rfl (ref_at hr0))) (sq_of h010)) ?_) rfl) (fun hb => ?_) (fun hb => ?_)
            · rw [en]
              exact decide_eq_decide.mpr (by omega)
            · rw [e0]
              exact decide_eq_decide.mpr (by omega)
            · rw [Bool.and_eq_true] at hb
              have hz2 := of_decide_eq_true hb.1
              have hj2 := of_decide_eq_true hb.2
              obtain ⟨v, t, hv, hvl, ht⟩ := hR.cell hz2 hj2
              have e1 : T.getD z [] = v := by simp [List.getD, hv]
              rw [e1, getD_of ht]
              exact ev_cell (ev_var rfl) (ev_var rfl) (ev_var rfl) hT10 hv ht
            · have : (T.getD z []).getD j 0 = 0 := by
                by_cases hz2 : z < n
                · have hj2 : ¬ j < m := fun hj2 => by
                    rw [decide_eq_true hz2, decide_eq_true hj2] at hb
                    cases hb
                  obtain ⟨v, hv, hvl⟩ := hR.lt hz2
                  have e1 : T.getD z [] = v := by simp [List.getD, hv]
                  rw [e1]
                  unfold List.getD
                  rw [List.getElem?_eq_none (by omega)]
                  rfl
                · have e1 : T.getD z [] = [] := by
                    unfold List.getD
                    rw [List.getElem?_eq_none (by rw [hR.len]; omega)]
                    rfl
                  rw [e1]
                  rfl
              rw [this]
              exact ev_c
          refine s_when (b := false) (et_lt (ev_var rfl) (ev_var rfl) (decide_eq_false (by omega))) (fun h => nomatch h) fun _ H12 e12 => ⟨⟨_, _, _, _, rfl⟩, ((e9.trans e10).trans e11).trans e12⟩
        · obtain ⟨⟨x8, x9, x10, x11, rfl⟩, e9⟩ := q
          exact ⟨⟨_, _, _, _, _, _, rfl⟩, ((e6.trans e7).trans e8).trans e9⟩
      · obtain ⟨⟨x6, x7, x8, x9, x10, x11, rfl⟩, e6⟩ := q
        have hTf6 := hTf5.mono e6
        have hmul : IntMulOk (2 : Int) (sz : Int) := mulOk_small (by decide) (by decide)
        refine q_when (b := false) ?_ (fun h => nomatch h) fun _ H7 e7 => ?_
        · have hsum := sums_all hF
          rw [hsz] at hsum
          have hd1 : EvP (tCall (sp__law_sums K) [] E0 (tCons (tVar 5) tNil)) [some (.ref a), some (.int h), some (.ref ph), some (.int (sz : Int)), some (.int (i : Int)), some (.ref p), x6, x7, x8, x9, x10, x11] H6 (IsD K (intsD (List.replicate (2 * sz) h))) := by
            rw [← hsum]
            exact (evp_call (P := NewL ((rowSums F ++ colSums F sz).map V.int)) (ea_cons (ev_var rfl) ea_nil) down_l fun H7 e7 Q7 q7 => ⟨p, fs, F, sz, sz, rfl, hTf6.mono e7, hFr, by omega, by omega, by omega, q7⟩).imp fun H1 v H2 _ _ ⟨q, hv, _, h2⟩ => by
              subst hv
              exact dp_ints h2
          have hd2 : EvP (tOp rRep (tLst (tCons (tVar 1) tNil)) (tOp (rI IntMulOk fun i j => .int (i * j)) (tC (.int 2)) (tVar 3))) [some (.ref a), some (.int h), some (.ref ph), some (.int (sz : Int)), some (.int (i : Int)), some (.ref p), x6, x7, x8, x9, x10, x11] H6 (IsD K (intsD (List.replicate (2 * sz) h))) := by
            refine (evp_l (el_rep1 (v := .int h) (k := 2 * (sz : Int)) (el_lst (ea_cons (ev_var rfl) ea_nil) (by show 1 ≤ 100000; decide)) (ev_mul ev_c (ev_var rfl) hmul) (by omega))).imp fun H1 v H2 _ _ ⟨q, hv, _, h2⟩ => ?_
            subst hv
            refine dp_ints ?_
            rw [h2, List.map_replicate, show (2 * (sz : Int)).toNat = 2 * sz by omega]
          refine et_is (et_test (ev_neDP hd1 hd2 (shaped_ints _) (shaped_ints _))) ?_
          rw [eqv_ints]
          simp
        have hTf7 := hTf6.mono e7
        -- kept
        refine qp_asg (P := NewT F) (evp_copyT (ev_var rfl) hTf7 (by rw [hFr.len]; omega) (by show 7 < 12; decide) (fun x => rfl)) fun v H8 e8 ⟨pk, ks, hv, npk, ndk, frk, hTk⟩ => ?_
        subst hv
        have hTf8 := hTf7.mono e8
        -- found[0].append(7)
        obtain ⟨v0, hv0, hvl0⟩ := hFr.lt (show 0 < sz by omega)
        obtain ⟨q0, hq0, hq1⟩ := hTf8.at hv0
        have hmem := List.mem_of_getElem? hq0
        refine q_app hq1 (ev_ixL (ev_var rfl) ev_c hTf8.sq (atI_of (j := 0) rfl (ref_at hq0))) ev_c (by rw [List.length_map]; omega) fun H9 e9 => ?_
        have hw : v0.map V.int ++ [V.int 7] = (v0 ++ [7]).map V.int := by rw [List.map_append]; rfl
        rw [hw]
        have hTf9 := (hTf8.mono e9).set ndf (w := v0 ++ [7]) hq0 hv0
        have hq0t : H7 q0 = some (.lst (v0.map V.int)) := hTf7.row 0 q0 v0 hq0 hv0
        have hTk9 := (hTk.mono e9).keep (p := q0) (o := .lst ((v0 ++ [7]).map V.int)) (ne_of_none hq0t npk) (fun hx => by
          have := frk q0 hx
          rw [hq0t] at this
          cases this)
        generalize hH9 : upd H9 q0 (.lst ((v0 ++ [7]).map V.int)) = H10 at hTf9 hTk9
        have ex10 : Ex H3 H10 := by
          rw [← hH9]
          exact Ex.mut (((((e4.trans e5).trans e6).trans e7).trans e8).trans e9) (frf q0 hmem)
        refine q_when (b := false) ?_ (fun h => nomatch h) fun _ H11 e11 => ?_
        · have hdr : (F.set 0 (v0 ++ [7])).drop 1 = F.drop 1 := by
            cases F with
            | nil => rfl
            | cons x r => rfl
          have hs1 : EvP (tSl (rSlL K) (tVar 5) (tPart (tC (.int 1))) tNoPart) [some (.ref a), some (.int h), some (.ref ph), some (.int (sz : Int)), some (.int (i : Int)), some (.ref p), x6, x7, x8, x9, x10, some (.ref pk)] H10 (IsD K (tabD (F.drop 1))) := by
            refine (evp_l (el_sl (ev_var rfl) (eo_some ev_c) eo_none hTf9.sq)).imp fun H1 v H2 ea eb ⟨q, hv, _, h2⟩ => ?_
            subst hv
            have hc := cut_drop (fs.map V.ref) 1
            have h2 : H2 q = some (.lst ((fs.map V.ref).drop 1)) := by rw [h2]; exact congrArg (fun z => some (HO.lst z)) hc
            have := ((hTf9.mono (ea.trans eb)).drop 1 h2).dp (K := K)
            rw [hdr] at this
            exact this
          have hs2 : EvP (tSl (rSlL K) (tVar 11) (tPart (tC (.int 1))) tNoPart) [some (.ref a), some (.int h), some (.ref ph), some (.int (sz : Int)), some (.int (i : Int)), some (.ref p), x6, x7, x8, x9, x10, some (.ref pk)] H10 (IsD K (tabD (F.drop 1))) := by
            refine (evp_l (el_sl (ev_var rfl) (eo_some ev_c) eo_none hTk9.sq)).imp fun H1 v H2 ea eb ⟨q, hv, _, h2⟩ => ?_
            subst hv
            have hc := cut_drop (ks.map V.ref) 1
            have h2 : H2 q = some (.lst ((ks.map V.ref).drop 1)) := by rw [h2]; exact congrArg (fun z => some (HO.lst z)) hc
            exact ((hTk9.mono (ea.trans eb)).drop 1 h2).dp (K := K)
          refine et_is (et_test (ev_neDP hs1 hs2 (shaped_tab _) (shaped_tab _))) ?_
          rw [eqv_tab]
          simp
        refine s_appL (hTf9.mono e11).top (ev_var rfl) (el_lst ea_nil (by show 0 ≤ 100000; decide)) (by rw [List.length_map, hTf.len, hFr.len]; omega) fun q H12 nq e12 h12 => ⟨⟨_, _, _, _, _, _, _, _, rfl⟩, ?_⟩
        exact Ex.mut (e3.trans ((ex10.trans e11).trans e12)) (fresh_back e3 np)
    · obtain ⟨⟨y4, y5, y6, y7, y8, y9, y10, y11, rfl⟩, e3⟩ := q
      refine s_ret (v := .bl true) (ev_is (ev_eqD (ev_var rfl) (ev_var rfl) (fun H5 e5 => ((hTh2.mono e3).mono e5).dp) (fun H5 e5 => ((hT2.mono e3).mono e5).dp) (shaped_tab T) (shaped_tab T)) (by rw [eqv_tab]; simp)) fun H4 e4 => k _ H4 (((e1.trans e2).trans e3).trans e4) rfl
end Lh

namespace Lh
open PySem PySem.Spec PyProof.Rows L2 Evl
theorem idx_app_l {x : Int} {B : List Int} : ∀ {A : List Int}, x ∈ A → (A ++ B).idxOf x = A.idxOf x
  | [], h => by cases h
  | a :: A, h => by
    show (a :: (A ++ B)).idxOf x = (a :: A).idxOf x
    rw [List.idxOf_cons, List.idxOf_cons]
    by_cases e : a = x
    · simp [e]
    · have e2 : (a == x) = false := by simp [e]
      rw [e2]
      have : x ∈ A := by
        rcases List.mem_cons.mp h with h | h
        · exact absurd h.symm e
        · exact h
      simp [idx_app_l this]
theorem idx_app_r {x : Int} {B : List Int} : ∀ {A : List Int}, x ∉ A → (A ++ B).idxOf x = A.length + B.idxOf x
  | [], h => by simp
  | a :: A, h => by
    show (a :: (A ++ B)).idxOf x = _
    rw [List.idxOf_cons]
    have e : ¬ a = x := fun e => h (by rw [e]; simp)
    have e2 : (a == x) = false := by simp [e]
    rw [e2, List.length_cons]
    simp [idx_app_r (B := B) (fun z => h (List.mem_cons_of_mem _ z) : x ∉ A)]
    omega
theorem maxI_append {A B : List Int} (ha : A ≠ []) (hb : B ≠ []) : maxI (A ++ B) = max (maxI A) (maxI B) := by
  refine (maxI_is ?_ fun y hy => ?_).symm
  · by_cases h : maxI A ≤ maxI B
    · rw [Int.max_eq_right h]
      exact List.mem_append_right _ (maxI_mem hb)
    · rw [Int.max_eq_left (by omega)]
      exact List.mem_append_left _ (maxI_mem ha)
  · rcases List.mem_append.mp hy with hy | hy
    · have := maxI_le hy
      omega
    · have := maxI_le hy
      omega
theorem due_at {T : List (List Int)} {r c : Nat} (hG : Good T r c) : (fullB T c = true → (rowSums T ++ colSums T c).idxOf (fullM T c) < r ∧ (((rowSums T ++ colSums T c).idxOf (fullM T c) : Nat) : Int) = fullI T c) ∧ (fullB T c = false → ¬ (rowSums T ++ colSums T c).idxOf (fullM T c) < r ∧ (((rowSums T ++ colSums T c).idxOf (fullM T c) : Nat) : Int) - (r : Int) = fullI T c) := by
  have b1 := hG.n1
  have b3 := hG.m1
  have rl : (rowSums T).length = r := by rw [rowSums_len, hG.len]
  have rne : rowSums T ≠ [] := fun z => by rw [z] at rl; simp at rl; omega
  have cne : colSums T c ≠ [] := fun z => by
    have := colSums_len T c
    rw [z] at this
    simp at this
    omega
  refine ⟨fun hb => ?_, fun hb => ?_⟩
  · have hm : fullM T c = maxI (rowSums T) := by
      have := of_decide_eq_true hb
      unfold fullM
      omega
    have hmem : fullM T c ∈ rowSums T := by rw [hm]; exact maxI_mem rne
    rw [idx_app_l hmem]
    refine ⟨by rw [← rl]; exact List.idxOf_lt_length_of_mem hmem, ?_⟩
    unfold fullI
    rw [if_pos hb, hm]
  · have hlt := of_decide_eq_false hb
    have hm : fullM T c = maxI (colSums T c) := by
      unfold fullM
      omega
    have hmem : fullM T c ∉ rowSums T := fun z => by
      have := maxI_le z
      rw [hm] at this
      omega
    rw [idx_app_r hmem, rl]
    refine ⟨by omega, ?_⟩
    unfold fullI
    rw [if_neg (by rw [hb]; exact Bool.false_ne_true), hm]
    omega
theorem raised_00 {F : List (List Int)} (h : Raised [[0]] 1 1 0 F) : F = [[0]] := by
  have hr := h.rect
  have hl : F.length = 1 := hr.len
  match F, hl with
  | [u], _ =>
    have hu : u.length = 1 := hr.row u (by simp)
    match u, hu with
    | [x], _ =>
      have := h.rows [x] (by simp)
      simp at this
      rw [this]
theorem raised_21 {F : List (List Int)} (h : Raised [[2, 1]] 1 2 3 F) : F = [[2, 1], [1, 2]] := by
  have hr := h.rect
  have hl : F.length = 2 := hr.len
  match F, hl with
  | [u, v], _ =>
    have hu : u.length = 2 := hr.row u (by simp)
    have hv : v.length = 2 := hr.row v (by simp)
    match u, hu, v, hv with
    | [a, b], _, [c, d], _ =>
      have r1 := h.rows [a, b] (by simp)
      have r2 := h.rows [c, d] (by simp)
      have c1 := h.cols 0 (by decide)
      have c2 := h.cols 1 (by decide)
      have l1 := h.le 0 0 (by decide) (by decide)
      have l2 := h.le 0 1 (by decide) (by decide)
      simp [colAt] at r1 r2 c1 c2 l1 l2
      have : a = 2 ∧ b = 1 ∧ c = 1 ∧ d = 2 := by omega
      obtain ⟨rfl, rfl, rfl, rfl⟩ := this
      rfl
def fullD (T : List (List Int)) (m : Nat) : PyData := .tuple [.int (fullM T m), .tuple [.str (fullW T m), .int (fullI T m)]]
theorem full_dp {K : PySem.W.Frag} {T : List (List Int)} {m : Nat} {H1 H2 : Hp} {v : V} (h : NewFull T m H1 v H2) : Dp K H2 v (fullD T m) := by
  obtain ⟨p, q, rfl, hp, hq⟩ := h
  exact .tup (st_of hp) (.cons (.int _) (.cons (.tup (st_of hq) (.cons (.str _) (.cons (.int _) .nil))) .nil))
theorem fullW_or (T : List (List Int)) (m : Nat) : fullW T m = "teacher" ∨ fullW T m = "class" := by
  unfold fullW
  split
  · exact .inl rfl
  · exact .inr rfl
theorem shaped_full (T : List (List Int)) (m : Nat) : SeqAt.shaped (fullD T m) = true := by
  unfold fullD
  rcases fullW_or T m with h | h <;> rw [h]
  · have : SeqAt.shaped (.tuple [.int (fullM T m), .tuple [.str "teacher", .int (fullI T m)]]) = SeqAt.shaped (.tuple [.int 0, .tuple [.str "teacher", .int 0]]) := rfl
    rw [this]
    decide +kernel
  · have : SeqAt.shaped (.tuple [.int (fullM T m), .tuple [.str "class", .int (fullI T m)]]) = SeqAt.shaped (.tuple [.int 0, .tuple [.str "class", .int 0]]) := rfl
    rw [this]
    decide +kernel
theorem ok_law {P : Program} {w : World} {K : PySem.W.Frag} {mg : Str → Option Value} {base : Heap} (M : Mg mg) (D : Def K mg "law" s_law ["_law_script"]) (C__law_sizes : Cal P w K mg base 1 "_law_sizes" ["_law_script"] (sp__law_sizes K)) (C__law_table : Cal P w K mg base 2 "_law_table" ["_law_script", "_law_rows", "_law_columns"] (sp__law_table K)) (C__law_sums : Cal P w K mg base 1 "_law_sums" ["_law_table_here"] (sp__law_sums K)) (C__law_whole : Cal P w K mg base 1 "_law_whole" ["_law_number_here"] (sp__law_whole K)) (C_fullest : Cal P w K mg base 3 "fullest" ["table"] (sp_fullest K)) (C_raised : Cal P w K mg base 3 "raised" ["table", "hours"] (sp_raised K)) (C__law_raised_right : Cal P w K mg base 4 "_law_raised_right" ["_law_table_here", "_law_hours"] (sp__law_raised_right K)) : Cal P w K mg base 5 "law" ["_law_script"] (sp_law K) := by
  refine D.cal sc_law (fun vs H Q E h => ?_) (fun f cdv A outer s H vs Q E hr h => ?_)
  · obtain ⟨a, ns, rfl, _⟩ := h
    rfl
  · obtain ⟨a, ns, rfl, hS, hlen, hbits, k⟩ := h
    refine ⟨_, (pss_cons (ps_set (i := 1) sc_law.nd rfl (Or.inl rfl) (pe_callB (cr_sum rfl) (by rfl) M.sum (by decide +kernel) (pa_cons (pe_slice sl_list (pv 0) po_none (po_some pe_int)) pa_nil)))
  (pss_cons (ps_asg (pe_cal C__law_sizes hr (by rfl) (pa_cons (pv 0) pa_nil)) (pg_tup rfl (pgs_cons (pg_name (i := 2) sc_law.nd rfl (Or.inl rfl)) (pgs_cons (pg_name (i := 3) sc_law.nd rfl (Or.inl rfl)) pgs_nil))))
  (pss_cons (ps_set (i := 4) sc_law.nd rfl (Or.inl rfl) (pe_cal C__law_table hr (by rfl) (pa_cons (pv 0) (pa_cons (pv 2) (pa_cons (pv 3) pa_nil)))))
  (pss_cons (ps_set (i := 5) sc_law.nd rfl (Or.inl rfl) (pe_cal C__law_sums hr (by rfl) (pa_cons (pv 4) pa_nil)))
  (pss_cons (ps_set (i := 6) sc_law.nd rfl (Or.inl rfl) (pe_callB (cr_max rfl) (by rfl) M.max (by decide +kernel) (pa_cons (pv 5) pa_nil)))
  (pss_cons (ps_set (i := 7) sc_law.nd rfl (Or.inl rfl) (pe_bm PySem.F.plainAttrs_list PySem.F.slot_list_index PySem.F.type_list_index mt_index (pv 5) (pa_cons (pv 6) pa_nil)))
  (pss_cons (ps_set (i := 8) sc_law.nd rfl (Or.inl rfl) (pe_tup (pa_cons (pv 6) (pa_cons (pe_ifExp (pt_cmpR op_lt (pv 7) (pv 2) (nomark _)) (pe_tup (pa_cons pe_str (pa_cons (pv 7) pa_nil))) (pe_tup (pa_cons pe_str (pa_cons (pe_op op_sub (pv 7) (pv 2)) pa_nil)))) pa_nil))))
  (pss_cons (ps_setLc (i := 9) (own := [("_law_row", 12)]) (wi := (iList K (tVar 4))) (g := gName 12) (tt := tYes) (te := (tCB (rListS K) (tCons (tVar 12) tNil))) (by rfl) sc_law.nd rfl rfl (sw_true rfl rfl rfl (by decide +kernel)) (pi_list (pv 4)) (blkOk_by (by kernel_rfl)) (fun _ _ _ _ _ => (pg_name (i := 12) sc_law.nd rfl (Or.inl rfl))) (fun _ _ _ _ _ => pts_nil) (fun _ _ _ _ _ => (pe_callTy call_list_of (by rfl) M.list_ (by decide +kernel) (pa_cons (pv 12) pa_nil))))
  (pss_cons (ps_set (i := 10) sc_law.nd rfl (Or.inl rfl) (pe_cal C_fullest hr (by rfl) (pa_cons (pv 9) pa_nil)))
  (pss_cons (ps_if (PW.pt (pw_or (pt_not (pt_val (pe_callB call_isi (by rfl) M.isinstance (by decide +kernel) (pa_cons (pv 10) (pa_cons (pe_bltn (v := .ty "tuple") (u := .type "tuple") (by rfl) M.tuple_ (by decide +kernel) rfl) pa_nil))))) (pw_or (pt_cmpR (op_neD hr.units) (pv 10) (pv 8) (nomark _)) (pw_or (pt_not (pt_val (pe_cal C__law_whole hr (by rfl) (pa_cons (pe_ix ix_tup (pv 10) pe_int (fun _ _ => rfl)) pa_nil)))) (pw_or1 (pt_not (pt_val (pe_cal C__law_whole hr (by rfl) (pa_cons (pe_ix ix_tup (pe_ix ix_tup (pv 10) pe_int (fun _ _ => rfl)) pe_int (fun _ _ => rfl)) pa_nil)))))))))
  (pss_one (ps_ret pe_bl))
  pss_nil)
  (pss_cons (ps_if (PW.pt (pw_or (pt_not (pt_val (pe_callB call_isi (by rfl) M.isinstance (by decide +kernel) (pa_cons (pe_ix ix_tup (pv 10) pe_int (fun _ _ => rfl)) (pa_cons (pe_bltn (v := .ty "tuple") (u := .type "tuple") (by rfl) M.tuple_ (by decide +kernel) rfl) pa_nil))))) (pw_or1 (pt_cmpR (op_neD hr.units) (pv 9) (pv 4) (nomark _)))))
  (pss_one (ps_ret pe_bl))
  pss_nil)
  (pss_cons (ps_for PassesOwn.never rfl (pi_list (pe_lst (pa_cons (pv 6) (pa_cons (pe_op op_add (pv 6) pe_int) (pa_cons (pe_op op_add (pv 6) (pe_op op_mod (pv 1) pe_int)) (pa_cons (pe_op op_add (pv 6) (pe_op op_pow pe_int pe_int)) pa_nil)))))) (pg_name (i := 11) sc_law.nd rfl (Or.inl rfl))
  (pss_one (ps_if (pt_not (pt_val (pe_cal C__law_raised_right hr (by rfl) (pa_cons (pv 4) (pa_cons (pv 11) pa_nil)))))
  (pss_one (ps_ret pe_bl))
  pss_nil)))
  (pss_cons (ps_if (PW.pt (pw_or (pt_cmpR (op_neD hr.units) (pe_cal C_fullest hr (by rfl) (pa_cons (pe_lst (pa_cons (pe_lst (pa_cons pe_int pa_nil)) pa_nil)) pa_nil)) (pe_tup (pa_cons pe_int (pa_cons (pe_tup (pa_cons pe_str (pa_cons pe_int pa_nil))) pa_nil))) (nomark _)) (pw_or1 (pt_cmpR (op_neD hr.units) (pe_cal C_fullest hr (by rfl) (pa_cons (pe_lst (pa_cons (pe_lst (pa_cons pe_int (pa_cons pe_int pa_nil))) (pa_cons (pe_lst (pa_cons pe_int (pa_cons pe_int pa_nil))) pa_nil))) pa_nil)) (pe_tup (pa_cons pe_int (pa_cons (pe_tup (pa_cons pe_str (pa_cons pe_int pa_nil))) pa_nil))) (nomark _)))))
  (pss_one (ps_ret pe_bl))
  pss_nil)
  (pss_one (ps_ret (pe_and (pe_cmpR (op_eqD hr.units) (pe_cal C_raised hr (by rfl) (pa_cons (pe_lst (pa_cons (pe_lst (pa_cons pe_int pa_nil)) pa_nil)) (pa_cons pe_int pa_nil))) (pe_lst (pa_cons (pe_lst (pa_cons pe_int pa_nil)) pa_nil)) (nomark _)) (pe_one (pe_cmpR (op_eqD hr.units) (pe_cal C_raised hr (by rfl) (pa_cons (pe_lst (pa_cons (pe_lst (pa_cons pe_int (pa_cons pe_int pa_nil))) pa_nil)) (pa_cons pe_int pa_nil))) (pe_lst (pa_cons (pe_lst (pa_cons pe_int (pa_cons pe_int pa_nil))) (pa_cons (pe_lst (pa_cons pe_int (pa_cons pe_int pa_nil))) pa_nil))) (nomark _))))))))))))))))))), ?_⟩
    -- whole_here
    have hcut : cutV (ns.map V.int) none (some 63) = (ns.take 63).map V.int := by
      rw [List.map_take]
      exact cut_take (α := V) _ 63
    refine q_asg (v := .int (ns.take 63).sum) (ev_sumL (by rw [← hcut]; exact el_sl (ev_var rfl) eo_none (eo_some ev_c) hS)) fun H1 e1 => ?_
    generalize (ns.take 63).sum = wh
    -- rows, columns
    refine qp_asg2 (P := fun H1 v H2 => ∃ r c : Nat, 1 ≤ r ∧ r ≤ 20 ∧ 1 ≤ c ∧ c ≤ 20 ∧ NewU [.int r, .int c] H1 v H2) (evp_call (ea_cons (ev_var rfl) ea_nil) (fun H1 H2 v H3 e ⟨r, c, h1, h2, h3, h4, hv⟩ => ⟨r, c, h1, h2, h3, h4, down_u _ _ _ _ e hv⟩) fun H2 e2 Q2 q2 => ⟨a, ns, rfl, ex_l (e1.trans e2) hS, fun r c h1 h2 h3 h4 v H3 e3 hv => q2 v H3 e3 ⟨r, c, h1, h2, h3, h4, hv⟩⟩) fun v H2 e2 ⟨r, c, hr1, hr2, hc1, hc2, q, hv, _, hq⟩ => ⟨q, .int r, .int c, hv, st_of hq, ?_⟩
    -- table
    refine qp_asg (P := fun H1 v H2 => ∃ T, Good T r c ∧ NewT T H1 v H2) (evp_call (ea_cons (ev_var rfl) (ea_cons (ev_var rfl) (ea_cons (ev_var rfl) ea_nil))) (fun H1 H2 v H3 e ⟨T, hG, hv⟩ => ⟨T, hG, down_t _ _ _ _ e hv⟩) fun H3 e3 Q3 q3 => ⟨a, ns, r, c, rfl, ex_l ((e1.trans e2).trans e3) hS, hlen, hbits, hr1, hr2, hc1, hc2, fun T hG v H4 e4 hv => q3 v H4 e4 ⟨T, hG, hv⟩⟩) fun v H3 e3 ⟨T, hG, pt, rs, hv, npt, nd, fr, hT⟩ => ?_
    subst hv
    have hR := hG.toRect
    have rl : (rowSums T).length = r := by rw [rowSums_len, hG.len]
    have rne : rowSums T ≠ [] := fun z => by rw [z] at rl; simp at rl; omega
    have cne : colSums T c ≠ [] := fun z => by
      have := colSums_len T c
      rw [z] at this
      simp at this
      omega
    -- sums
    refine qp_asg (P := NewL ((rowSums T ++ colSums T c).map V.int)) (evp_call (ea_cons (ev_var rfl) ea_nil) down_l fun H4 e4 Q4 q4 => ⟨pt, rs, T, r, c, rfl, hT.mono e4, hR, by omega, by omega, by omega, q4⟩) fun v H4 e4 ⟨ps, hv, _, hps⟩ => ?_
    subst hv
    have hT4 := hT.mono e4
    have sne : rowSums T ++ colSums T c ≠ [] := fun z => rne (List.append_eq_nil_iff.mp z).1
    have hmx : maxI (rowSums T ++ colSums T c) = fullM T c := maxI_append rne cne
    have hmm : fullM T c ∈ rowSums T ++ colSums T c := by rw [← hmx]; exact maxI_mem sne
    -- most, at
    refine q_asg (v := .int (fullM T c)) (ev_is (ev_max (ev_var rfl) (sq_of hps) sne) (by rw [hmx])) fun H5 e5 => ?_
    refine q_asg (ev_index (ev_var rfl) (ev_var rfl) (sq_of (e5 _ _ hps)) hmm) fun H6 e6 => ?_
    obtain ⟨due1, due2⟩ := due_at hG
    generalize hat : (rowSums T ++ colSums T c).idxOf (fullM T c) = at_ at due1 due2
    -- due
    refine q_tup (cV (ev_var rfl) fun H7 e7 => cP (P := fun _ u H2 => ∃ q, u = .ref q ∧ H2 q = some (.tup [.str (fullW T c), .int (fullI T c)])) ?_ fun v H8 e8 ⟨dq, hv, hdq⟩ => cN ⟨sz_of (by show 2 ≤ 100000; decide), fun dp hdp => ?_⟩)
    · refine evp_if (b := decide ((at_ : Int) < (r : Int))) (et_lt (ev_var rfl) (ev_var rfl) rfl) (fun hb => ?_) (fun hb => ?_) down_c
      · have hb := of_decide_eq_true hb
        have hB : fullB T c = true := by
          cases hB : fullB T c with
          | true => rfl
          | false =>
            have := (due2 hB).1
            omega
        have hW : fullW T c = "teacher" := by unfold fullW; rw [if_pos hB]
        exact (evp_u (eu_tup (ea_cons ev_c (ea_cons (ev_var rfl) ea_nil)) (by show 2 ≤ 100000; decide))).imp fun H1 v H2 _ _ ⟨q, hv, _, h2⟩ => ⟨q, hv, by rw [h2, hW, ← (due1 hB).2]⟩
      · have hb := of_decide_eq_false hb
        have hB : fullB T c = false := by
          cases hB : fullB T c with
          | false => rfl
          | true =>
            have := (due1 hB).1
            omega
        have hW : fullW T c = "class" := by unfold fullW; rw [if_neg (by rw [hB]; exact Bool.false_ne_true)]
        exact (evp_u (eu_tup (ea_cons ev_c (ea_cons (ev_sub (ev_var rfl) (ev_var rfl)) ea_nil)) (by show 2 ≤ 100000; decide))).imp fun H1 v H2 _ _ ⟨q, hv, _, h2⟩ => ⟨q, hv, by rw [h2, hW, ← (due2 hB).2]⟩
    subst hv
    have e48 : Ex H4 H8 := ((e5.trans e6).trans e7).trans e8
    have e09 : Ex H8 (upd H8 dp (.tup [.int (fullM T c), .ref dq])) := Ex.new hdp
    have hdue : NewFull T c H8 (.ref dp) (upd H8 dp (.tup [.int (fullM T c), .ref dq])) := ⟨dp, dq, rfl, upd_same, e09 _ _ hdq⟩
    have hT9 := (hT4.mono e48).mono e09
    have hdD := full_dp (K := K) hdue
    generalize hH9 : upd H8 dp (.tup [.int (fullM T c), .ref dq]) = H9 at hT9 hdD
    -- handed
    refine qp_asg (P := NewT T) (evp_copyT (ev_var rfl) hT9 (by rw [hR.len]; omega) (by show 12 < 13; decide) (fun x => rfl)) fun v H10 e10 ⟨ph, hs, hv, nph, ndh, frh, hTh⟩ => ?_
    subst hv
    -- found = fullest(handed)
    refine qp_asg (P := NewFull T c) (evp_call (ea_cons (ev_var rfl) ea_nil) down_c fun H11 e11 Q11 q11 => ⟨ph, hs, T, r, c, rfl, hTh.mono e11, hG, q11⟩) fun v H11 e11 hv => ?_
    have hfD := full_dp (K := K) hv
    obtain ⟨fp, fq, rfl, hfp, hfq⟩ := hv
    have hTh11 := hTh.mono e11
    have hT11 := hT9.mono (e10.trans e11)
    have hdD11 := Dp.mono (e10.trans e11) _ _ hdD
    refine q_when (b := false) ?_ (fun h => nomatch h) fun _ H12 e12 => ?_
    · refine et_is (et_or (et_not (et_B (isi_tup (ev_var rfl) hfp))) fun _ => et_or (et_test (ev_neD (ev_var rfl) (ev_var rfl) (fun H5 e5 => Dp.mono e5 _ _ hfD) (fun H5 e5 => Dp.mono e5 _ _ hdD11) (shaped_full T c) (shaped_full T c))) fun _ => et_or (et_not (et_B (ev_callV (v := .bl true) (ea_cons (ev_ixT (ev_var rfl) ev_c (st_of hfp) (atI_of (j := 0) rfl rfl)) ea_nil) fun H1 e Q k => ⟨_, "int", true, false, rfl, tx_int, by decide +kernel, by decide +kernel, k⟩))) fun _ => et_not (et_B (ev_callV (v := .bl true) (ea_cons (ev_ixT (ev_ixT (ev_var rfl) ev_c (st_of hfp) (atI_of (j := 1) rfl rfl)) ev_c (st_of hfq) (atI_of (j := 1) rfl rfl)) ea_nil) fun H1 e Q k => ⟨_, "int", true, false, rfl, tx_int, by decide +kernel, by decide +kernel, k⟩))) ?_
      rw [SeqAt.eqv_refl _ (SeqAt.canLay_of_shaped (shaped_full T c))]
      rfl
    refine q_when (b := false) ?_ (fun h => nomatch h) fun _ H13 e13 => ?_
    · refine et_is (et_or (et_not (et_B (isi_tup (ev_ixT (ev_var rfl) ev_c (st_of (e12 _ _ hfp)) (atI_of (j := 1) rfl rfl)) (e12 _ _ hfq)))) fun _ => et_test (ev_neD (ev_var rfl) (ev_var rfl) (fun H5 e5 => ((hTh11.mono e12).mono e5).dp) (fun H5 e5 => ((hT11.mono e12).mono e5).dp) (shaped_tab T) (shaped_tab T))) ?_
      rw [eqv_tab]
      simp
    have hT13 := (hT11.mono e12).mono e13
    -- the hours
    have hfn := full_nn hG
    refine q_forNLn (xs := [fullM T c, fullM T c + 1, fullM T c + wh % 50, fullM T c + (10 : Int) ^ (30 : Int).toNat].map V.int) (el_lst (ea_cons (ev_var rfl) (ea_cons (ev_add (ev_var rfl) ev_c) (ea_cons (ev_add (ev_var rfl) (ev_mod (ev_var rfl) ev_c (by decide))) (ea_cons (ev_add (ev_var rfl) (ev_pow ev_c ev_c ⟨by decide, by decide, by decide⟩)) ea_nil)))) (by show 4 ≤ 100000; decide))
      (fun pl i σ' H' => (∃ y11 y12, σ' = [some (.ref a), some (.int wh), some (.int r), some (.int c), some (.ref pt), some (.ref ps), some (.int (fullM T c)), some (.int (at_ : Int)), some (.ref dp), some (.ref ph), some (.ref fp), y11, y12]) ∧ Ex H13 H' ∧ H' pl = some (.lst ([fullM T c, fullM T c + 1, fullM T c + wh % 50, fullM T c + (10 : Int) ^ (30 : Int).toNat].map V.int)))
      (fun pl H14 n14 e14 h14 => ⟨⟨_, _, rfl⟩, e14, h14⟩) (fun pl i σ' H' _ q => sq_of q.2.2) (fun pl i x σ' H14 hx q => ?_) (fun pl σ' H14 q => ?_)
    · obtain ⟨⟨y11, y12, rfl⟩, e14, h14⟩ := q
      have hge : ∃ hh : Int, x = .int hh ∧ fullM T c ≤ hh := by
        rw [List.getElem?_map] at hx
        have p10 : (0 : Int) ≤ (10 : Int) ^ (30 : Int).toNat := by decide
        match i, hx with
        | 0, hx => exact ⟨_, (Option.some.inj hx).symm, Int.le_refl _⟩
        | 1, hx => exact ⟨_, (Option.some.inj hx).symm, by omega⟩
        | 2, hx => exact ⟨_, (Option.some.inj hx).symm, by omega⟩
        | 3, hx => exact ⟨_, (Option.some.inj hx).symm, by omega⟩
        | i + 4, hx => simp at hx
      obtain ⟨hh, rfl, hle⟩ := hge
      refine s_when (b := false) (et_is (et_not (et_B (ev_callV (v := .bl true) (ea_cons (ev_var rfl) (ea_cons (ev_var rfl) ea_nil)) fun H15 e15 Q15 q15 => ⟨pt, rs, T, r, c, hh, rfl, (hT13.mono e14).mono e15, hG, hle, q15⟩))) rfl) (fun h => nomatch h) fun _ H15 e15 => ⟨⟨_, _, rfl⟩, e14.trans e15, e15 _ _ h14⟩
    · obtain ⟨⟨y11, y12, rfl⟩, e14, h14⟩ := q
      have gd : ∀ (T : List (List Int)) (n m : Nat), (T.length == n && T.all (fun u => u.length == m && u.all fun x => decide (0 ≤ x)) && decide (1 ≤ n) && decide (n ≤ 20) && decide (1 ≤ m) && decide (m ≤ 20)) = true → Good T n m := fun T n m hb => by
        simp only [Bool.and_eq_true, beq_iff_eq, List.all_eq_true, decide_eq_true_eq] at hb
        obtain ⟨⟨⟨⟨⟨h1, h2⟩, h3⟩, h4⟩, h5⟩, h6⟩ := hb
        exact ⟨⟨h1, fun u hu => (h2 u hu).1⟩, fun u hu x hx => (h2 u hu).2 x hx, h3, h4, h5, h6⟩
      have g1 : Good [[0]] 1 1 := gd _ _ _ (by decide)
      have g2 : Good [[1, 2], [3, 0]] 2 2 := gd _ _ _ (by decide)
      have g3 : Good [[2, 1]] 1 2 := gd _ _ _ (by decide)
      refine q_when (b := false) ?_ (fun h => nomatch h) fun _ H15 e15 => ?_
      · refine et_is (et_or (et_test (ev_neDP (d := fullD [[0]] 1) (e := fullD [[0]] 1) ((evp_call1 (P := NewFull [[0]] 1) (evp_dispT (T := [[0]]) (er_cons (el_ints (u := [0]) (ei_cons ev_c ei_nil) (by decide)) er_nil) (by decide)) down_c fun v Ha Hb _ _ ⟨p, rs, hv, _, _, _, hT⟩ Q q => ⟨p, rs, [[0]], 1, 1, by rw [hv]; rfl, hT, g1, q⟩).imp fun _ v _ _ _ hv => full_dp hv) (ed_tup (eds_cons (ed_int ev_c) (eds_cons (ed_tup (eds_cons (ed_str ev_c) (eds_cons (ed_int ev_c) eds_nil)) (by decide)) eds_nil)) (by decide)) (shaped_full _ _) (shaped_full _ _))) fun _ => et_test (ev_neDP (d := fullD [[1, 2], [3, 0]] 2) (e := fullD [[1, 2], [3, 0]] 2) ((evp_call1 (P := NewFull [[1, 2], [3, 0]] 2) (evp_dispT (T := [[1, 2], [3, 0]]) (er_cons (el_ints (u := [1, 2]) (ei_cons ev_c (ei_cons ev_c ei_nil)) (by decide)) (er_cons (el_ints (u := [3, 0]) (ei_cons ev_c (ei_cons ev_c ei_nil)) (by decide)) er_nil)) (by decide)) down_c fun v Ha Hb _ _ ⟨p, rs, hv, _, _, _, hT⟩ Q q => ⟨p, rs, [[1, 2], [3, 0]], 2, 2, by rw [hv]; rfl, hT, g2, q⟩).imp fun _ v _ _ _ hv => full_dp hv) (ed_tup (eds_cons (ed_int ev_c) (eds_cons (ed_tup (eds_cons (ed_str ev_c) (eds_cons (ed_int ev_c) eds_nil)) (by decide)) eds_nil)) (by decide)) (shaped_full _ _) (shaped_full _ _))) ?_
        rw [SeqAt.eqv_refl _ (SeqAt.canLay_of_shaped (shaped_full _ _)), SeqAt.eqv_refl _ (SeqAt.canLay_of_shaped (shaped_full _ _))]
        rfl
      refine s_ret (v := .bl true) (ev_is (ev_andV (ev_eqDP (d := tabD [[0]]) (e := tabD [[0]]) ((evp_call2 (P := fun H1 v H2 => ∃ F, Raised [[0]] 1 1 0 F ∧ NewT F H1 v H2) (evp_dispT (T := [[0]]) (er_cons (el_ints (u := [0]) (ei_cons ev_c ei_nil) (by decide)) er_nil) (by decide)) (fun H1 e1 => ev_c) (fun H1 H2 v H3 e ⟨F, hF, hv⟩ => ⟨F, hF, down_t _ _ _ _ e hv⟩) fun v Ha Hb Hc _ _ ec ⟨p, rs, hv, _, _, _, hT⟩ Q q => ⟨p, rs, [[0]], 1, 1, 0, by rw [hv]; rfl, hT.mono ec, g1, by decide, fun F hF v H5 e5 hv => q v H5 e5 ⟨F, hF, hv⟩⟩).imp fun H1 v H2 _ _ ⟨F, hF, p, rs, hv, _, _, _, hT⟩ => by
          rw [hv, ← raised_00 hF]
          exact hT.dp) (ed_lst (eds_cons (ed_lst (eds_cons (ed_int ev_c) eds_nil) (by decide)) eds_nil) (by decide)) (shaped_tab _) (shaped_tab _)) fun _ => ev_eqDP (d := tabD [[2, 1], [1, 2]]) (e := tabD [[2, 1], [1, 2]]) ((evp_call2 (P := fun H1 v H2 => ∃ F, Raised [[2, 1]] 1 2 3 F ∧ NewT F H1 v H2) (evp_dispT (T := [[2, 1]]) (er_cons (el_ints (u := [2, 1]) (ei_cons ev_c (ei_cons ev_c ei_nil)) (by decide)) er_nil) (by decide)) (fun H1 e1 => ev_c) (fun H1 H2 v H3 e ⟨F, hF, hv⟩ => ⟨F, hF, down_t _ _ _ _ e hv⟩) fun v Ha Hb Hc _ _ ec ⟨p, rs, hv, _, _, _, hT⟩ Q q => ⟨p, rs, [[2, 1]], 1, 2, 3, by rw [hv]; rfl, hT.mono ec, g3, by decide, fun F hF v H5 e5 hv => q v H5 e5 ⟨F, hF, hv⟩⟩).imp fun H1 v H2 _ _ ⟨F, hF, p, rs, hv, _, _, _, hT⟩ => by
          rw [hv, ← raised_21 hF]
          exact hT.dp) (ed_lst (eds_cons (ed_lst (eds_cons (ed_int ev_c) (eds_cons (ed_int ev_c) eds_nil)) (by decide)) (eds_cons (ed_lst (eds_cons (ed_int ev_c) (eds_cons (ed_int ev_c) eds_nil)) (by decide)) eds_nil)) (by decide)) (shaped_tab _) (shaped_tab _)) (by rw [eqv_tab, eqv_tab]; rfl)) fun H16 e16 => k H16
end Lh

namespace Lh
open PySem PySem.Spec PyProof.Rows L2 Evl
theorem all_mk {P : Program} {w : World} {K : PySem.W.Frag} {mg : Str → Option Value} (M : Mg mg)
    (D0 : Def K mg "is_number" s_is_number ["thing"])
    (D1 : Def K mg "asked_table" s_asked_table ["table"])
    (D2 : Def K mg "column_sums" s_column_sums ["table"])
    (D3 : Def K mg "fullest_of" s_fullest_of ["table"])
    (D4 : Def K mg "fullest" s_fullest ["table"])
    (D5 : Def K mg "raised_of" s_raised_of ["table", "hours"])
    (D6 : Def K mg "raised" s_raised ["table", "hours"])
    (D7 : Def K mg "_law_number" s__law_number ["_law_cell", "_law_at", "_law_whole_here"])
    (D8 : Def K mg "_law_table" s__law_table ["_law_script", "_law_rows", "_law_columns"])
    (D9 : Def K mg "_law_sums" s__law_sums ["_law_table_here"])
    (D10 : Def K mg "_law_sizes" s__law_sizes ["_law_script"])
    (D11 : Def K mg "_law_whole" s__law_whole ["_law_number_here"])
    (D12 : Def K mg "_law_raised_right" s__law_raised_right ["_law_table_here", "_law_hours"])
    (D13 : Def K mg "law" s_law ["_law_script"])
    : Def K mg "law" s_law ["_law_script"] ∧ ∀ base : Heap, Cal P w K mg base 5 "law" ["_law_script"] (sp_law K) := by
  refine ⟨D13, fun base => ?_⟩
  have c0 := ok_is_number (P := P) (w := w) (base := base) M D0 
  have c1 := ok_asked_table (P := P) (w := w) (base := base) M D1 c0
  have c2 := ok_column_sums (P := P) (w := w) (base := base) M D2 
  have c3 := ok_fullest_of (P := P) (w := w) (base := base) M D3 c2
  have c4 := ok_fullest (P := P) (w := w) (base := base) M D4 c1 c3
  have c5 := ok_raised_of (P := P) (w := w) (base := base) M D5 c2
  have c6 := ok_raised (P := P) (w := w) (base := base) M D6 c0 c1 c3 c5
  have c7 := ok__law_number (P := P) (w := w) (base := base) M D7 
  have c8 := ok__law_table (P := P) (w := w) (base := base) M D8 c7
  have c9 := ok__law_sums (P := P) (w := w) (base := base) M D9 
  have c10 := ok__law_sizes (P := P) (w := w) (base := base) M D10 
  have c11 := ok__law_whole (P := P) (w := w) (base := base) M D11 
  have c12 := ok__law_raised_right (P := P) (w := w) (base := base) M D12 c6 c11 c9
  have c13 := ok_law (P := P) (w := w) (base := base) M D13 c10 c8 c9 c11 c4 c6 c12
  exact c13
end Lh
open PySem PySem.W PyProof.Rows in
set_option maxRecDepth 100000 in
set_option maxHeartbeats 0 in
theorem PySem.Challenge.cw_lessonhours_k01_whole_tables_holds : PySem.Challenge.rw_lessonhours_k01_whole_tables.Holds := by
  w_on; o_law; k_head; (case hw => w_witness2)
  k_fill
  refine Lh.walk_end (l := PySem.Challenge.rw_lessonhours_k01_whole_tables) (k := 5) (st := Lh.s_law) (sp := Lh.sp_law) rfl rfl ⟨rfl, by decide, by decide⟩ (fun w h Y => PySem.W.kIn_of Y) rfl (fun K H a ns hl hb hS => ⟨a, ns, rfl, hS, hl, hb, fun _ => rfl⟩) ?F
  case F =>
    intro w mg h KX G
    refine' Lh.all_mk ⟨(PySem.W.mg_none_of KX G ?zlen), (PySem.W.mg_none_of KX G ?zisinstance), (PySem.W.mg_none_of KX G ?zall), (PySem.W.mg_none_of KX G ?zsum), (PySem.W.mg_none_of KX G ?zrange), (PySem.W.mg_none_of KX G ?zmax), (PySem.W.mg_none_of KX G ?zmin), (PySem.W.mg_none_of KX G ?zenumerate), (PySem.W.mg_none_of KX G ?zsorted), (PySem.W.mg_none_of KX G ?zany), (PySem.W.mg_none_of KX G ?zzip), (PySem.W.mg_none_of KX G ?zabs), (PySem.W.mg_none_of KX G ?zint), (PySem.W.mg_none_of KX G ?zbool), (PySem.W.mg_none_of KX G ?zlist), (PySem.W.mg_none_of KX G ?ztuple), (PySem.W.mg_none_of KX G ?zset), (Lh.int_mk KX G ?zMOST)⟩ (Lh.def_mk KX G ?a0 ?l0 ?c0 ?k0 fun _ _ _ _ _ _ us hl => match us, hl with | [_], _ => rfl) (Lh.def_mk KX G ?a1 ?l1 ?c1 ?k1 fun _ _ _ _ _ _ us hl => match us, hl with | [_], _ => rfl) (Lh.def_mk KX G ?a2 ?l2 ?c2 ?k2 fun _ _ _ _ _ _ us hl => match us, hl with | [_], _ => rfl) (Lh.def_mk KX G ?a3 ?l3 ?c3 ?k3 fun _ _ _ _ _ _ us hl => match us, hl with | [_], _ => rfl) (Lh.def_mk KX G ?a4 ?l4 ?c4 ?k4 fun _ _ _ _ _ _ us hl => match us, hl with | [_], _ => rfl) (Lh.def_mk KX G ?a5 ?l5 ?c5 ?k5 fun _ _ _ _ _ _ us hl => match us, hl with | [_, _], _ => rfl) (Lh.def_mk KX G ?a6 ?l6 ?c6 ?k6 fun _ _ _ _ _ _ us hl => match us, hl with | [_, _], _ => rfl) (Lh.def_mk KX G ?a7 ?l7 ?c7 ?k7 fun _ _ _ _ _ _ us hl => match us, hl with | [_, _, _], _ => rfl) (Lh.def_mk KX G ?a8 ?l8 ?c8 ?k8 fun _ _ _ _ _ _ us hl => match us, hl with | [_, _, _], _ => rfl) (Lh.def_mk KX G ?a9 ?l9 ?c9 ?k9 fun _ _ _ _ _ _ us hl => match us, hl with | [_], _ => rfl) (Lh.def_mk KX G ?a10 ?l10 ?c10 ?k10 fun _ _ _ _ _ _ us hl => match us, hl with | [_], _ => rfl) (Lh.def_mk KX G ?a11 ?l11 ?c11 ?k11 fun _ _ _ _ _ _ us hl => match us, hl with | [_], _ => rfl) (Lh.def_mk KX G ?a12 ?l12 ?c12 ?k12 fun _ _ _ _ _ _ us hl => match us, hl with | [_, _], _ => rfl) (Lh.def_mk KX G ?a13 ?l13 ?c13 ?k13 fun _ _ _ _ _ _ us hl => match us, hl with | [_], _ => rfl)
    (case zlen => k_is)
    (case zisinstance => k_is)
    (case zall => k_is)
    (case zsum => k_is)
    (case zrange => k_is)
    (case zmax => k_is)
    (case zmin => k_is)
    (case zenumerate => k_is)
    (case zsorted => k_is)
    (case zany => k_is)
    (case zzip => k_is)
    (case zabs => k_is)
    (case zint => k_is)
    (case zbool => k_is)
    (case zlist => k_is)
    (case ztuple => k_is)
    (case zset => k_is)
    (case zMOST => k_is)
    (case a0 => k_is)
    (case l0 => k_is)
    (case c0 => k_is)
    (case k0 => k_is)
    (case a1 => k_is)
    (case l1 => k_is)
    (case c1 => k_is)
    (case k1 => k_is)
    (case a2 => k_is)
    (case l2 => k_is)
    (case c2 => k_is)
    (case k2 => k_is)
    (case a3 => k_is)
    (case l3 => k_is)
    (case c3 => k_is)
    (case k3 => k_is)
    (case a4 => k_is)
    (case l4 => k_is)
    (case c4 => k_is)
    (case k4 => k_is)
    (case a5 => k_is)
    (case l5 => k_is)
    (case c5 => k_is)
    (case k5 => k_is)
    (case a6 => k_is)
    (case l6 => k_is)
    (case c6 => k_is)
    (case k6 => k_is)
    (case a7 => k_is)
    (case l7 => k_is)
    (case c7 => k_is)
    (case k7 => k_is)
    (case a8 => k_is)
    (case l8 => k_is)
    (case c8 => k_is)
    (case k8 => k_is)
    (case a9 => k_is)
    (case l9 => k_is)
    (case c9 => k_is)
    (case k9 => k_is)
    (case a10 => k_is)
    (case l10 => k_is)
    (case c10 => k_is)
    (case k10 => k_is)
    (case a11 => k_is)
    (case l11 => k_is)
    (case c11 => k_is)
    (case k11 => k_is)
    (case a12 => k_is)
    (case l12 => k_is)
    (case c12 => k_is)
    (case k12 => k_is)
    (case a13 => k_is)
    (case l13 => k_is)
    (case c13 => k_is)
    (case k13 => k_is)
