import PyProof.Rows.All
import Wide.All
import OpenK.AllK
import Wide.FinOn
import HandS.ForMost
import HandS.Style
import HandS.IsInst
import HandS.Wide
import HandS.TupLe
import HandS.TupAny
import PySem.Challenge.RW_onionpost_k73_parts_reckoned
set_option Elab.async false
set_option linter.all false
set_option maxRecDepth 100000
set_option maxHeartbeats 4000000
/-! # a small layer of my own: a def under its name (Df), its promise (C0), heaps that grow -/
namespace Ly
open PySem PySem.Spec PyProof.Rows L2
/-- a def of the module as it stands behind the top, under its name -/
structure Df (K : PySem.W.Frag) (mg : Str → Option Value) (x : Str) (st : Stmt) (ps : List Str) : Prop where
  ex : ∃ (f : Addr) (fd : FuncData), Fun K x x st f fd ∧ mg x = some (.ref f) ∧ Binds K fd ps []
/-- a def that may be called by its name and keeps a promise; CX tells what may leave it -/
structure C0 (P : Program) (w : World) (K : PySem.W.Frag) (mg : Str → Option Value) (base : Heap) (k : Nat) (x : Str) (sp : Sp) : Prop where
  ex : ∃ (f : Addr) (fd : FuncData) (ps : List Str), FnOk P w K mg base CX0 k f fd ps sp ∧ mg x = some (.ref f) ∧ PySem.W.keepIn K (.ref f) = true ∧ Binds K fd ps []
section
variable {P : Program} {w : World} {K : PySem.W.Frag} {mg : Str → Option Value} {base : Heap}
theorem C0.mk' {x : Str} {st : Stmt} {N ps : List Str} {k : Nat} {sp : Sp} (D : Df K mg x st ps) (S : FnScope N ps (defScope st)) (len : ∀ vs H Q E, sp vs H Q E → vs.length = ps.length)
    (hbody : ∀ (f : Addr) (cdv : Value) (A : Around) (outer : List Env) (s : Shared) (H : Hp) (vs : List V) (Q : VK) (E : XK), Room k (A.deeper (envOfC x (defScope st) s.heap.objs.size f cdv)) → sp vs H Q E →
      ∃ t, PSs (cxOf CX0 P w K mg base N x (defScope st) f cdv A outer s H E).nox (defBody st) t ∧ t { nx := fun _ H' => Q .non H', rt := Q } (start N vs) H) : C0 P w K mg base (k + 1) x sp := by
  obtain ⟨f, fd, F, hm, b⟩ := D.ex
  exact ⟨f, fd, ps, F.ok S len (hbody f), hm, F.kp, b⟩
theorem C0.mono {j k : Nat} {x : Str} {sp : Sp} (c : C0 P w K mg base j x sp) (h : j ≤ k) : C0 P w K mg base k x sp := by
  obtain ⟨f, fd, ps, F, r⟩ := c.ex
  exact ⟨f, fd, ps, F.mono h, r⟩
theorem C0.imp {k : Nat} {x : Str} {sp sp' : Sp} (c : C0 P w K mg base k x sp) (h : ∀ vs H Q E, sp' vs H Q E → sp vs H Q E) : C0 P w K mg base k x sp' := by
  obtain ⟨f, fd, ps, F, r⟩ := c.ex
  exact ⟨f, fd, ps, F.imp h, r⟩
end
section
variable {X : Cx} {k j : Nat} {x : Str} {sp : Sp} {p pos : Pos} {e : Expr} {es : List Expr} {t : TA}
theorem pe_cC (c : C0 X.prog X.w X.K X.mg X.base k x sp) (hr : Room j X.A) (hk : k ≤ j) (hg : Gl X x) (ha : PA X (e :: es) t)
    (hdb : (x == ("__debug__" : Str)) = false := by decide) (he : starEach (e :: es) X.env = (false, eval e X.env) :: starEach es X.env := by rfl) (hpl : (backTo pos (starEach es X.env)).any (·.1) = false := by rfl) :
    PE X (.Call (.Name x p) (e :: es) [] pos) (tCall sp [] E0 t) := by
  obtain ⟨f, fd, ps, F, hm, kp, b⟩ := c.ex
  exact pe_call F (hr.mono hk) hg hm kp b .nil pass0 ha hdb he hpl
end
/-! ### heaps -/
theorem Same.upd {H : Hp} {p : Addr} {o : HO} (h : H p = none) : Same H (upd H p o) := fun b x e => by
  rw [upd_ne (ne_of_none e h)]
  exact e
theorem Same.tup {K : PySem.W.Frag} {H H' : Hp} {a : Addr} {xs : List V} (e : Same H H') (h : SqT K H a xs) : SqT K H' a xs := by
  rcases h with (h | ⟨o, h⟩) | h
  · exact .inl (.inl (e _ _ h))
  · exact .inl (.inr ⟨o, e _ _ h⟩)
  · exact .inr h
theorem sqT_of {K : PySem.W.Frag} {H : Hp} {a : Addr} {xs : List V} (h : H a = some (.tup xs)) : SqT K H a xs := .inl (.inl h)
theorem sqL_of {K : PySem.W.Frag} {H : Hp} {a : Addr} {xs : List V} (h : H a = some (.lst xs)) : SqL K H a xs := .inl (.inl h)
theorem at0 {x : V} {xs : List V} : atI (x :: xs) 0 = some x := atI_nat (j := 0) rfl
theorem at1 {x y : V} {xs : List V} : atI (x :: y :: xs) 1 = some y := atI_nat (j := 1) rfl
theorem at2 {x y z : V} {xs : List V} : atI (x :: y :: z :: xs) 2 = some z := atI_nat (j := 2) rfl
mutual
theorem dp_same {K : PySem.W.Frag} {H H' : Hp} (e : Same H H') : ∀ (d : PyData) {v : V}, Dp K H v d → Dp K H' v d
  | .none, _, h => by cases h; exact .non
  | .bool b, _, h => by cases h; exact .bl b
  | .int i, _, h => by cases h; exact .int i
  | .str x, _, h => by cases h; exact .str x
  | .list ds, _, h => by
    cases h with
    | lst hs ha => exact .lst (e.seq hs) (dpAll_same e ds ha)
  | .tuple ds, _, h => by
    cases h with
    | tup hs ha => exact .tup (Same.tup e hs) (dpAll_same e ds ha)
  | .dict _, _, h => by cases h
theorem dpAll_same {K : PySem.W.Frag} {H H' : Hp} (e : Same H H') : ∀ (ds : List PyData) {vs : List V}, DpAll K H vs ds → DpAll K H' vs ds
  | [], _, h => by cases h; exact .nil
  | d :: ds, _, h => by
    cases h with
    | cons h1 h2 => exact .cons (dp_same e d h1) (dpAll_same e ds h2)
end
/-! ### data of tuples and scalars alone stays where no tuple is changed -/
def isT : HO → Bool
  | .tup _ => true
  | .frz _ (.tup _) => true
  | _ => false
def TSame (H H' : Hp) : Prop := ∀ b o, isT o = true → H b = some o → H' b = some o
theorem TSame.refl (H : Hp) : TSame H H := fun _ _ _ h => h
theorem TSame.trans {H H1 H2 : Hp} (a : TSame H H1) (b : TSame H1 H2) : TSame H H2 := fun c o t h => b c o t (a c o t h)
theorem Same.t {H H' : Hp} (h : Same H H') : TSame H H' := fun b o _ e => h b o e
theorem TSame.upd {H : Hp} {p : Addr} {o u : HO} (h : H p = some u) (t : isT u = false) : TSame H (upd H p o) := fun b x tx e => by
  rw [upd_ne fun z => by rw [z, h] at e; cases e; rw [t] at tx; cases tx]
  exact e
theorem TSame.tup {K : PySem.W.Frag} {H H' : Hp} {a : Addr} {xs : List V} (e : TSame H H') (h : SqT K H a xs) : SqT K H' a xs := by
  rcases h with (h | ⟨o, h⟩) | h
  · exact .inl (.inl (e _ _ rfl h))
  · exact .inl (.inr ⟨o, e _ _ rfl h⟩)
  · exact .inr h
mutual
def tOnly : PyData → Bool
  | .none => true | .bool _ => true | .int _ => true | .str _ => true
  | .tuple ds => tOnlyA ds
  | .list _ => false | .dict _ => false
def tOnlyA : List PyData → Bool
  | [] => true
  | d :: ds => tOnly d && tOnlyA ds
end
mutual
theorem dp_keep {K : PySem.W.Frag} {H H' : Hp} (e : TSame H H') : ∀ (d : PyData) {v : V}, tOnly d = true → Dp K H v d → Dp K H' v d
  | .none, _, _, h => by cases h; exact .non
  | .bool b, _, _, h => by cases h; exact .bl b
  | .int i, _, _, h => by cases h; exact .int i
  | .str x, _, _, h => by cases h; exact .str x
  | .list ds, _, t, h => nomatch t
  | .tuple ds, _, t, h => by
    cases h with
    | tup hs ha => exact .tup (TSame.tup e hs) (dpAll_keep e ds t ha)
  | .dict _, _, _, h => by cases h
theorem dpAll_keep {K : PySem.W.Frag} {H H' : Hp} (e : TSame H H') : ∀ (ds : List PyData) {vs : List V}, tOnlyA ds = true → DpAll K H vs ds → DpAll K H' vs ds
  | [], _, _, h => by cases h; exact .nil
  | d :: ds, _, t, h => by
    have t' : (tOnly d && tOnlyA ds) = true := t
    rw [Bool.and_eq_true] at t'
    cases h with
    | cons h1 h2 => exact .cons (dp_keep e d t'.1 h1) (dpAll_keep e ds t'.2 h2)
end
theorem tOnlyA_of : ∀ {ds : List PyData}, (∀ d ∈ ds, tOnly d = true) → tOnlyA ds = true
  | [], _ => rfl
  | d :: ds, h => by
    show (tOnly d && tOnlyA ds) = true
    rw [h d (List.mem_cons_self ..), tOnlyA_of fun x hx => h x (List.mem_cons_of_mem _ hx)]
    rfl
theorem dpAll_len {K : PySem.W.Frag} {H : Hp} : ∀ {vs : List V} {ds : List PyData}, DpAll K H vs ds → vs.length = ds.length
  | _, [], h => by cases h; rfl
  | _, d :: ds, h => by
    cases h with
    | cons h1 h2 => rw [List.length_cons, List.length_cons, dpAll_len h2]
theorem dpAll_get {K : PySem.W.Frag} {H : Hp} : ∀ {ds : List PyData} {vs : List V} {i : Nat} {v : V}, DpAll K H vs ds → vs[i]? = some v → ∃ d, ds[i]? = some d ∧ Dp K H v d
  | [], _, i, v, h, e => by cases h; simp at e
  | d :: ds, _, 0, v, h, e => by
    cases h with
    | cons h1 h2 => cases e; exact ⟨d, rfl, h1⟩
  | d :: ds, _, i + 1, v, h, e => by
    cases h with
    | cons h1 h2 => exact dpAll_get (i := i) h2 e
theorem dpAll_at {K : PySem.W.Frag} {H : Hp} : ∀ {ds : List PyData} {vs : List V} {i : Nat} {d : PyData}, DpAll K H vs ds → ds[i]? = some d → ∃ v, vs[i]? = some v ∧ Dp K H v d
  | [], _, i, v, h, e => by simp at e
  | d :: ds, _, 0, v, h, e => by
    cases h with
    | cons h1 h2 => cases e; exact ⟨_, rfl, h1⟩
  | d :: ds, _, i + 1, v, h, e => by
    cases h with
    | cons h1 h2 => exact dpAll_at (i := i) h2 e
theorem dpAll_app {K : PySem.W.Frag} {H : Hp} {ws : List V} {es : List PyData} (h2 : DpAll K H ws es) : ∀ {ds : List PyData} {vs : List V}, DpAll K H vs ds → DpAll K H (vs ++ ws) (ds ++ es)
  | [], _, h => by cases h; exact h2
  | d :: ds, _, h => by
    cases h with
    | cons h1 h3 => exact .cons h1 (dpAll_app h2 h3)
theorem dpAll_one {K : PySem.W.Frag} {H : Hp} {v : V} {d : PyData} (h : Dp K H v d) : DpAll K H [v] [d] := .cons h .nil
theorem dpAll_ints {K : PySem.W.Frag} {H : Hp} : ∀ (ns : List Int), DpAll K H (ns.map V.int) (ns.map PyData.int)
  | [] => .nil
  | n :: ns => .cons (.int n) (dpAll_ints ns)
theorem take_more {α : Type} {l : List α} {i : Nat} {x : α} (h : l[i]? = some x) : l.take (i + 1) = l.take i ++ [x] := by
  rw [List.take_add_one, h]
  rfl
theorem cxK {CX : CXT} {P : Program} {w : World} {K : PySem.W.Frag} {mg : Str → Option Value} {base : Heap} {N : List Str} {q : Str} {sc : Scope} {f : Addr} {cd : Value} {A : Around} {outer : List Env} {s : Shared} {H : Hp} {E : XK} : (cxOf CX P w K mg base N q sc f cd A outer s H E).K = K := rfl
theorem cxnK {CX : CXT} {P : Program} {w : World} {K : PySem.W.Frag} {mg : Str → Option Value} {base : Heap} {N : List Str} {q : Str} {sc : Scope} {f : Addr} {cd : Value} {A : Around} {outer : List Env} {s : Shared} {H : Hp} {E : XK} : (cxOf CX P w K mg base N q sc f cd A outer s H E).nox.K = K := rfl
/-! ### readings, applied: for simp -/
section
variable {K : PySem.W.Frag} {σ : L2.St} {H : Hp} {Q : VK} {D : Ends} {i j : Nat} {v : V} {ta tb te : TE} {t u : TT} {a b : TS} {g : TG} {as : TA}
theorem tVar_ap : tVar i σ H Q = (∃ v, σ[i]? = some (some v) ∧ Q v H) := rfl
theorem tC_ap : tC v σ H Q = Q v H := rfl
theorem tOp_ap {r : R2} : tOp r ta tb σ H Q = (ta σ H fun x H1 => tb σ H1 fun y H2 => r x y H2 Q) := rfl
theorem tUn_ap {r : V → Hp → VK → Prop} : tUn r ta σ H Q = (ta σ H fun x H1 => r x H1 Q) := rfl
theorem rI_ap {C : Int → Int → Prop} {f : Int → Int → V} {x y : V} : rI C f x y H Q = (∃ i, x = .int i ∧ ∃ j, y = .int j ∧ C i j ∧ Q (f i j) H) := by
  unfold rI
  simp only [exists_and_left]
theorem rI0_ap {f : Int → Int → V} {x y : V} : rI0 f x y H Q = (∃ i, x = .int i ∧ ∃ j, y = .int j ∧ Q (f i j) H) := by
  unfold rI0
  simp only [exists_and_left]
theorem rU_ap {f : Int → V} {x : V} : rU f x H Q = (∃ i, x = .int i ∧ Q (f i) H) := rfl
theorem rEq_ap {x y : V} : rEq x y H Q = (scal x y = true ∧ Q (.bl (decide (x = y))) H) := rfl
theorem rNe_ap {x y : V} : rNe x y H Q = (scal x y = true ∧ Q (.bl (!decide (x = y))) H) := rfl
theorem tTest_ap {Q : Bool → Hp → Prop} : tTest te σ H Q = (te σ H fun x H' => ∃ k, x = .bl k ∧ Q k H') := rfl
theorem tB_ap {Q : Bool → Hp → Prop} : tB te σ H Q = (te σ H fun x H' => ∃ k, x = .bl k ∧ Q k H') := rfl
theorem tAnd_ap {Q : Bool → Hp → Prop} : tAnd t u σ H Q = (t σ H fun c H1 => if c = true then u σ H1 Q else Q false H1) := rfl
theorem tOr_ap {Q : Bool → Hp → Prop} : tOr t u σ H Q = (t σ H fun c H1 => if c = true then Q true H1 else u σ H1 Q) := rfl
theorem tNot_ap {Q : Bool → Hp → Prop} : tNot t σ H Q = (t σ H fun c H1 => Q (!c) H1) := rfl
theorem tYes_ap {Q : Bool → Hp → Prop} : tYes σ H Q = Q true H := rfl
theorem tAndV_ap : tAndV ta tb σ H Q = (ta σ H fun x H1 => ∃ c, x = .bl c ∧ if c = true then tb σ H1 Q else Q (.bl false) H1) := rfl
theorem tOrV_ap : tOrV ta tb σ H Q = (ta σ H fun x H1 => ∃ c, x = .bl c ∧ if c = true then Q (.bl true) H1 else tb σ H1 Q) := rfl
theorem tNotV_ap : tNotV ta σ H Q = (ta σ H fun x H1 => ∃ c, x = .bl c ∧ Q (.bl (!c)) H1) := rfl
theorem tIf_ap : tIf t ta tb σ H Q = (t σ H fun c H1 => if c = true then ta σ H1 Q else tb σ H1 Q) := rfl
theorem tNext_ap : tNext D σ H = D.nx σ H := rfl
theorem tSeq_ap : tSeq a b D σ H = a { D with nx := b D } σ H := rfl
theorem seqI (h : a { D with nx := b D } σ H) : tSeq a b D σ H := h
theorem tBreak_ap : tBreak D σ H = D.bk σ H := rfl
theorem tCont_ap : tCont D σ H = D.ct σ H := rfl
theorem tDrop_ap : tDrop te D σ H = (te σ H fun _ H1 => D.nx σ H1) := rfl
theorem tRet_ap : tRet te D σ H = te σ H D.rt := rfl
theorem tRetN_ap : tRetN D σ H = D.rt .non H := rfl
theorem tIfS_ap : tIfS t a b D σ H = (t σ H fun c H1 => if c = true then a D σ H1 else b D σ H1) := rfl
theorem gName_ap {Q : L2.St → Hp → Prop} : gName i v σ H Q = Q (σ.set i (some v)) H := rfl
theorem gTup_ap {n : Nat} {gs : TGs} {Q : L2.St → Hp → Prop} : gTup K n gs v σ H Q = (∃ p, v = .ref p ∧ ∃ xs, SqT K H p xs ∧ xs.length = n ∧ gs xs σ H Q) := by
  unfold gTup
  simp only [exists_and_left]
theorem gCons_ap {gs : TGs} {vs : List V} {Q : L2.St → Hp → Prop} : gCons g gs vs σ H Q = (∃ v r, vs = v :: r ∧ g v σ H fun σ' H' => gs r σ' H' Q) := rfl
theorem gNil_ap {vs : List V} {Q : L2.St → Hp → Prop} : gNil vs σ H Q = (vs = [] ∧ Q σ H) := rfl
theorem tAsg_ap : tAsg te g D σ H = (te σ H fun x H1 => g x σ H1 D.nx) := rfl
theorem tPar_ap : tPar i j as D σ H = (as σ H fun vs H1 => ∃ v w, vs = [v, w] ∧ D.nx ((σ.set i (some v)).set j (some w)) H1) := rfl
theorem tAug_ap {ti : TIp} : tAug i te ti D σ H = (∃ x, σ[i]? = some (some x) ∧ te σ H fun y H1 => ti x y H1 fun z H2 => D.nx (σ.set i (some z)) H2) := rfl
theorem tNil_ap {Q : List V → Hp → Prop} : tNil σ H Q = Q [] H := rfl
theorem tCons_ap {Q : List V → Hp → Prop} : tCons ta as σ H Q = (ta σ H fun x H1 => as σ H1 fun xs H2 => Q (x :: xs) H2) := rfl
theorem tTup_ap : tTup as σ H Q = (as σ H fun xs H1 => xs.length ≤ sizeLine ∧ ∀ p, H1 p = none → Q (.ref p) (upd H1 p (.tup xs))) := rfl
theorem tLst_ap : tLst as σ H Q = (as σ H fun xs H1 => xs.length ≤ sizeLine ∧ ∀ p, H1 p = none → Q (.ref p) (upd H1 p (.lst xs))) := rfl
theorem tCall_ap {sp : Sp} {dvs : List V} {E : XK} : tCall sp dvs E as σ H Q = (as σ H fun vs H1 => sp (vs ++ dvs) H1 Q E) := rfl
theorem tCB_ap {r : List V → Hp → VK → Prop} : tCB r as σ H Q = (as σ H fun vs H1 => r vs H1 Q) := rfl
theorem tBM_ap {T : String} {r : V → List V → Hp → VK → Prop} : tBM K T r te as σ H Q = (te σ H fun x H1 => tyV K T x H1 ∧ as σ H1 fun xs H2 => r x xs H2 Q) := rfl
theorem tBM0_ap {T : String} {r : V → List V → Hp → VK → Prop} : tBM0 K T r te σ H Q = (te σ H fun x H1 => tyV K T x H1 ∧ r x [] H1 Q) := rfl
theorem rIxT_ap {x y : V} : rIxT K x y H Q = (∃ p, x = .ref p ∧ ∃ i, y = .int i ∧ ∃ xs, SqT K H p xs ∧ ∃ v, atI xs i = some v ∧ Q v H) := by
  unfold rIxT
  refine propext ⟨?_, ?_⟩
  · rintro ⟨p, xs, i, v, h1, h2, h3, h4, h5⟩
    exact ⟨p, h1, i, h2, xs, h3, v, h4, h5⟩
  · rintro ⟨p, h1, i, h2, xs, h3, v, h4, h5⟩
    exact ⟨p, xs, i, v, h1, h2, h3, h4, h5⟩
theorem rIxL_ap {x y : V} : rIxL K x y H Q = (∃ p, x = .ref p ∧ ∃ i, y = .int i ∧ ∃ xs, SqL K H p xs ∧ ∃ v, atI xs i = some v ∧ Q v H) := by
  unfold rIxL
  refine propext ⟨?_, ?_⟩
  · rintro ⟨p, xs, i, v, h1, h2, h3, h4, h5⟩
    exact ⟨p, h1, i, h2, xs, h3, v, h4, h5⟩
  · rintro ⟨p, h1, i, h2, xs, h3, v, h4, h5⟩
    exact ⟨p, xs, i, v, h1, h2, h3, h4, h5⟩
theorem rAppend_ap {x : V} {vs : List V} : rAppend x vs H Q = (∃ l, x = .ref l ∧ ∃ y, vs = [y] ∧ ∃ xs, H l = some (.lst xs) ∧ xs.length < sizeLine ∧ Q .non (upd H l (.lst (xs ++ [y])))) := by
  unfold rAppend
  refine propext ⟨?_, ?_⟩
  · rintro ⟨l, xs, y, h1, h2, h3, h4, h5⟩
    exact ⟨l, h1, y, h2, xs, h3, h4, h5⟩
  · rintro ⟨l, h1, y, h2, xs, h3, h4, h5⟩
    exact ⟨l, xs, y, h1, h2, h3, h4, h5⟩
end
theorem tyV_list {K : PySem.W.Frag} {H : Hp} {p : Addr} : tyV K "list" (.ref p) H = (∃ xs, SqL K H p xs) := by
  refine propext ⟨fun h => ?_, fun h => .inl ⟨rfl, h⟩⟩
  rcases h with ⟨_, h⟩ | ⟨e, _⟩ | ⟨e, _⟩ | ⟨e, _⟩
  · exact h
  · exact absurd e (by decide)
  · exact absurd e (by decide)
  · exact absurd e (by decide)
theorem tRevL_ap {K : PySem.W.Frag} {te : TE} {σ : L2.St} {H : Hp} {Q : VK} : tRevL K te σ H Q = (te σ H fun x H1 => ∃ a, x = .ref a ∧ ∃ xs, SqL K H1 a xs ∧ ∀ p, H1 p = none → Q (.ref p) (upd H1 p (.lst xs.reverse))) := by
  unfold tRevL
  simp only [exists_and_left]
theorem tSl_ap {r : V → Option Int → Option Int → Hp → VK → Prop} {te : TE} {tl th : TO} {σ : L2.St} {H : Hp} {Q : VK} : tSl r te tl th σ H Q = (te σ H fun x H1 => tl σ H1 fun l H2 => th σ H2 fun u H3 => r x l u H3 Q) := rfl
theorem tNoPart_ap {σ : L2.St} {H : Hp} {Q : Option Int → Hp → Prop} : tNoPart σ H Q = Q none H := rfl
theorem tPart_ap {te : TE} {σ : L2.St} {H : Hp} {Q : Option Int → Hp → Prop} : tPart te σ H Q = (te σ H fun x H1 => ∃ i, x = .int i ∧ Q (some i) H1) := rfl
theorem rSlL_ap {K : PySem.W.Frag} {x : V} {lo hi : Option Int} {H : Hp} {Q : VK} : rSlL K x lo hi H Q = (∃ a, x = .ref a ∧ ∃ xs, SqL K H a xs ∧ ∀ p, H p = none → Q (.ref p) (upd H p (.lst (cutV xs lo hi)))) := by
  unfold rSlL
  simp only [exists_and_left]
theorem rCat_ap {x y : V} {H : Hp} {Q : VK} : rCat x y H Q = (∃ l, x = .ref l ∧ ∃ b, y = .ref b ∧ ∃ xs zs, H l = some (.lst xs) ∧ H b = some (.lst zs) ∧ xs.length + zs.length ≤ sizeLine ∧ ∀ p, H p = none → Q (.ref p) (upd H p (.lst (xs ++ zs)))) := by
  unfold rCat
  refine propext ⟨?_, ?_⟩
  · rintro ⟨l, b, xs, zs, h1, h2, h3⟩
    exact ⟨l, h1, b, h2, xs, zs, h3⟩
  · rintro ⟨l, h1, b, h2, xs, zs, h3⟩
    exact ⟨l, b, xs, zs, h1, h2, h3⟩
/-! ### loops -/
section
variable {K : PySem.W.Frag} {a : Addr} {xs : List V} {g : TG} {tb : TS} {D : Ends} {σ : L2.St} {H : Hp} {i : Nat} {te : TE}
/-- the turns of a walk J -/
def tForJ (J : It) (g : TG) (tb : TS) (D : Ends) (σ : L2.St) (H : Hp) : Prop :=
  ∃ W : Nat → Nat → L2.St → Hp → Prop, (∃ m, W 0 m σ H) ∧ ∀ i m σ H, W i m σ H → (J.stop i H ∧ D.nx σ H) ∨ (J.go i H ∧ ∃ Nx : L2.St → Hp → Prop, (∀ σ' H', Nx σ' H' → ∃ m', m' < m ∧ W (i + 1) m' σ' H') ∧
    ∀ x H', J.yld i H x H' → g x σ H' fun σ2 H2 => tb { D with nx := Nx, ct := Nx, bk := D.nx } σ2 H2)
theorem tForL_ap {tl : TE} : tFor (iList K tl) g tb D σ H = (tl σ H fun x H1 => ∃ a, x = .ref a ∧ (∃ xs, SqL K H1 a xs) ∧ tForJ (Itl K a) g tb D σ H1) := rfl
theorem tForT_ap {tl : TE} : tFor (iTup K tl) g tb D σ H = (tl σ H fun x H1 => ∃ a, x = .ref a ∧ (∃ xs, SqT K H1 a xs) ∧ tForJ (Itt K a) g tb D σ H1) := rfl
/-- for x in l: a list that stands still -/
theorem forL (xs : List V) (Pv : Nat → L2.St → Hp → Prop) (h0 : Pv 0 σ H) (hl : ∀ i σ H, i ≤ xs.length → Pv i σ H → SqL K H a xs)
    (hs : ∀ i x σ H, xs[i]? = some x → Pv i σ H → g x σ H fun σ2 H2 => tb { D with nx := Pv (i + 1), ct := Pv (i + 1), bk := D.nx } σ2 H2) (hd : ∀ σ H, Pv xs.length σ H → D.nx σ H) : tForJ (Itl K a) g tb D σ H := for_list Pv h0 hl hs hd
/-- for x in t: a tuple -/
theorem forT (xs : List V) (Pv : Nat → L2.St → Hp → Prop) (h0 : Pv 0 σ H) (hl : ∀ i σ H, i ≤ xs.length → Pv i σ H → SqT K H a xs)
    (hs : ∀ i x σ H, xs[i]? = some x → Pv i σ H → g x σ H fun σ2 H2 => tb { D with nx := Pv (i + 1), ct := Pv (i + 1), bk := D.nx } σ2 H2) (hd : ∀ σ H, Pv xs.length σ H → D.nx σ H) : tForJ (Itt K a) g tb D σ H := for_tup Pv h0 hl hs hd
/-- for k in range(e): e read first -/
theorem forR (n : Nat) (Pv : Nat → L2.St → Hp → Prop) (h0 : Pv 0 σ H)
    (hs : ∀ i σ H, i < n → Pv i σ H → g (.int (i : Int)) σ H fun σ2 H2 => tb { D with nx := Pv (i + 1), ct := Pv (i + 1), bk := D.nx } σ2 H2) (hd : ∀ σ H, Pv n σ H → D.nx σ H) : tForJ (Itr 0 n) g tb D σ H :=
  for_range (lo := 0) (n := n) Pv h0 (fun i σ H hi hp => by rw [Int.zero_add]; exact hs i σ H hi hp) hd
/-- what for k in range(e) asks once e is read: j the int -/
theorem tForRng_ap {ta : TA} : tFor (iRng1 ta) g tb D σ H = (ta σ H fun vs H1 => ∃ j : Int, vs = [.int j] ∧ -(2 ^ 62) ≤ j ∧ j < 2 ^ 62 ∧ tForJ (Itr 0 j.toNat) g tb D σ H1) := rfl
/-- the body of a while, from a turn that leaves less than m turns -/
def tWB (Pv : Nat → L2.St → Hp → Prop) (m : Nat) (tb : TS) (D : Ends) (σ : L2.St) (H1 : Hp) : Prop :=
  ∃ N : L2.St → Hp → Prop, (∀ σ' H', N σ' H' → ∃ m', m' < m ∧ Pv m' σ' H') ∧ tb { D with nx := N, ct := N, bk := D.nx } σ H1
theorem wB {Pv : Nat → L2.St → Hp → Prop} {m : Nat} (h : tb { D with nx := fun σ' H' => ∃ m', m' < m ∧ Pv m' σ' H', ct := fun σ' H' => ∃ m', m' < m ∧ Pv m' σ' H', bk := D.nx } σ H) : tWB Pv m tb D σ H := ⟨_, fun _ _ z => z, h⟩
/-- while, by an invariant that tells its measure -/
theorem whileR {c : TT} (Pv : Nat → L2.St → Hp → Prop) (m0 : Nat) (h0 : Pv m0 σ H)
    (hs : ∀ m σ H, Pv m σ H → c σ H fun b H1 => if b = true then tWB Pv m tb D σ H1 else D.nx σ H1) : tWhile c tb D σ H := ⟨Pv, ⟨m0, h0⟩, hs⟩
/-- the turns of a list comprehension: what is made stands at L -/
def tLcJ (J : It) (g : TG) (tt : TT) (te : TE) (vs : List Nat) (σ : L2.St) (H1 : Hp) (L : Addr) (Qd : Hp → Prop) : Prop :=
  ∃ W : Nat → Nat → Hp → Prop, (∃ m, W 0 m (upd H1 L (.lst []))) ∧ ∀ i m H, W i m H → (J.stop i H ∧ Qd H) ∨ (J.go i H ∧ ∃ Nx : Hp → Prop, (∀ H', Nx H' → ∃ m', m' < m ∧ W (i + 1) m' H') ∧
    ∀ x H', J.yld i H x H' → g x (wipe σ vs) H' fun σ2 H2 => wipe σ2 vs = wipe σ vs ∧ tt σ2 H2 fun b H3 => if b = true then te σ2 H3 fun y H4 => ∃ acc, H4 L = some (.lst acc) ∧ acc.length < sizeLine ∧ Nx (upd H4 L (.lst (acc ++ [y]))) else Nx H3)
theorem tLcL_ap {tl : TE} {tt : TT} {vs : List Nat} {Q : VK} : tLc (iList K tl) g tt te vs σ H Q = (tl σ H fun x H1 => ∃ a, x = .ref a ∧ (∃ xs, SqL K H1 a xs) ∧ ∀ L, H1 L = none → tLcJ (Itl K a) g tt te vs σ H1 L fun H2 => Q (.ref L) H2) := rfl
theorem tLcT_ap {tl : TE} {tt : TT} {vs : List Nat} {Q : VK} : tLc (iTup K tl) g tt te vs σ H Q = (tl σ H fun x H1 => ∃ a, x = .ref a ∧ (∃ xs, SqT K H1 a xs) ∧ ∀ L, H1 L = none → tLcJ (Itt K a) g tt te vs σ H1 L fun H2 => Q (.ref L) H2) := rfl
theorem tLcR_ap {ta : TA} {tt : TT} {vs : List Nat} {Q : VK} : tLc (iRng1 ta) g tt te vs σ H Q = (ta σ H fun us H1 => ∃ j : Int, us = [.int j] ∧ -(2 ^ 62) ≤ j ∧ j < 2 ^ 62 ∧ ∀ L, H1 L = none → tLcJ (Itr 0 j.toNat) g tt te vs σ H1 L fun H2 => Q (.ref L) H2) := rfl
theorem lcL {tt : TT} {vs : List Nat} {L : Addr} {Qd : Hp → Prop} (xs : List V) (Pv : Nat → Hp → Prop) (h0 : Pv 0 (upd H L (.lst []))) (hl : ∀ i H, i ≤ xs.length → Pv i H → SqL K H a xs)
    (hs : ∀ i x H, xs[i]? = some x → Pv i H → g x (wipe σ vs) H fun σ2 H2 => wipe σ2 vs = wipe σ vs ∧ tt σ2 H2 fun b H3 =>
      if b = true then te σ2 H3 fun y H4 => ∃ acc, H4 L = some (.lst acc) ∧ acc.length < sizeLine ∧ Pv (i + 1) (upd H4 L (.lst (acc ++ [y]))) else Pv (i + 1) H3) (hd : ∀ H, Pv xs.length H → Qd H) : tLcJ (Itl K a) g tt te vs σ H L Qd :=
  lc_list Pv h0 hl hs hd
theorem lcR {tt : TT} {vs : List Nat} {L : Addr} {Qd : Hp → Prop} (n : Nat) (Pv : Nat → Hp → Prop) (h0 : Pv 0 (upd H L (.lst [])))
    (hs : ∀ i H, i < n → Pv i H → g (.int (i : Int)) (wipe σ vs) H fun σ2 H2 => wipe σ2 vs = wipe σ vs ∧ tt σ2 H2 fun b H3 =>
      if b = true then te σ2 H3 fun y H4 => ∃ acc, H4 L = some (.lst acc) ∧ acc.length < sizeLine ∧ Pv (i + 1) (upd H4 L (.lst (acc ++ [y]))) else Pv (i + 1) H3) (hd : ∀ H, Pv n H → Qd H) : tLcJ (Itr 0 n) g tt te vs σ H L Qd :=
  lc_range (lo := 0) (n := n) Pv h0 (fun i H hi hp => by rw [Int.zero_add]; exact hs i H hi hp) hd
end
end Ly
namespace K73
/-! ### normal forms of parts -/
def nf (a b : Nat) : Nat × Nat := (a / Nat.gcd a b, b / Nat.gcd a b)
theorem nf_scale (k a b : Nat) (hk : 0 < k) : nf (k * a) (k * b) = nf a b := by
  unfold nf
  rw [Nat.gcd_mul_left, Nat.mul_div_mul_left _ _ hk, Nat.mul_div_mul_left _ _ hk]
theorem nf_cross {a b c d : Nat} (hb : 0 < b) (hd : 0 < d) (h : a * d = c * b) : nf a b = nf c d := by
  rw [← nf_scale d a b hd, ← nf_scale b c d hb, Nat.mul_comm d a, Nat.mul_comm b c, h, Nat.mul_comm d b]
theorem gcd_pos_r {a b : Nat} (hb : 0 < b) : 0 < Nat.gcd a b := Nat.gcd_pos_of_pos_right a hb
theorem nf_parts {a b : Nat} : (nf a b).1 * Nat.gcd a b = a ∧ (nf a b).2 * Nat.gcd a b = b :=
  ⟨Nat.div_mul_cancel (Nat.gcd_dvd_left a b), Nat.div_mul_cancel (Nat.gcd_dvd_right a b)⟩
theorem nf_pos {a b : Nat} (hb : 0 < b) : 0 < (nf a b).2 := by
  have h := (nf_parts (a := a) (b := b)).2
  have g := gcd_pos_r (a := a) hb
  exact Nat.pos_of_ne_zero fun e => by rw [e] at h; omega
theorem nf_le1 (a b : Nat) : (nf a b).1 ≤ a := Nat.div_le_self _ _
theorem nf_le2 (a b : Nat) : (nf a b).2 ≤ b := Nat.div_le_self _ _
theorem nf_cross_self {a b : Nat} : (nf a b).1 * b = a * (nf a b).2 := by
  have h := nf_parts (a := a) (b := b)
  generalize nf a b = p at *
  generalize Nat.gcd a b = g at *
  obtain ⟨h1, h2⟩ := h
  subst h1
  have : b = p.2 * g := h2.symm
  subst this
  grind
theorem nf_idem {a b : Nat} (hb : 0 < b) : nf (nf a b).1 (nf a b).2 = nf a b := nf_cross (nf_pos hb) hb nf_cross_self
/-- the sum of two -/
def pl (x y : Nat × Nat) : Nat × Nat := nf (x.1 * y.2 + y.1 * x.2) (x.2 * y.2)
theorem pl_nf {o u : Nat} (hu : 0 < u) {y : Nat × Nat} (hy : 0 < y.2) : pl (nf o u) y = nf (o * y.2 + y.1 * u) (u * y.2) := by
  have h1 : (nf o u).1 * u = o * (nf o u).2 := nf_cross_self
  have h2 : 0 < (nf o u).2 := nf_pos hu
  refine nf_cross (Nat.mul_pos h2 hy) (Nat.mul_pos hu hy) ?_
  generalize nf o u = p at *
  grind
/-! ### sums of several: numerator and denominator, without shortening -/
def stp (s : Nat × Nat) (y : Nat × Nat) : Nat × Nat := (s.1 * y.2 + y.1 * s.2, s.2 * y.2)
def NN : List (Nat × Nat) → Nat
  | [] => 0
  | y :: l => y.1 * (l.map (·.2)).foldr (· * ·) 1 + y.2 * NN l
def DD (l : List (Nat × Nat)) : Nat := (l.map (·.2)).foldr (· * ·) 1
theorem DD_cons (y : Nat × Nat) (l : List (Nat × Nat)) : DD (y :: l) = y.2 * DD l := rfl
theorem NN_cons (y : Nat × Nat) (l : List (Nat × Nat)) : NN (y :: l) = y.1 * DD l + y.2 * NN l := rfl
theorem fold_stp : ∀ (l : List (Nat × Nat)) (o u : Nat), l.foldl stp (o, u) = (o * DD l + u * NN l, u * DD l)
  | [], o, u => by simp [DD, NN]
  | y :: l, o, u => by
    rw [List.foldl_cons, show stp (o, u) y = (o * y.2 + y.1 * u, u * y.2) from rfl, fold_stp l, DD_cons, NN_cons]
    refine Prod.ext ?_ ?_ <;> simp only <;> grind
theorem DD_app : ∀ (l m : List (Nat × Nat)), DD (l ++ m) = DD l * DD m
  | [], m => by simp [DD]
  | y :: l, m => by rw [List.cons_append, DD_cons, DD_cons, DD_app l m]; grind
theorem NN_app : ∀ (l m : List (Nat × Nat)), NN (l ++ m) = NN l * DD m + DD l * NN m
  | [], m => by simp [NN, DD]
  | y :: l, m => by rw [List.cons_append, NN_cons, NN_cons, DD_cons, DD_app, NN_app l m]; grind
theorem DD_rev : ∀ l : List (Nat × Nat), DD l.reverse = DD l
  | [] => rfl
  | y :: l => by rw [List.reverse_cons, DD_app, DD_rev l, DD_cons, DD_cons]; simp [DD]; grind
theorem NN_rev : ∀ l : List (Nat × Nat), NN l.reverse = NN l
  | [] => rfl
  | y :: l => by
    rw [List.reverse_cons, NN_app, NN_rev l, DD_rev, NN_cons, NN_cons, DD_cons]
    simp [DD, NN]; grind
theorem DD_pos : ∀ {l : List (Nat × Nat)}, (∀ y ∈ l, 0 < y.2) → 0 < DD l
  | [], _ => Nat.one_pos
  | y :: l, h => Nat.mul_pos (h y (List.mem_cons_self ..)) (DD_pos fun z hz => h z (List.mem_cons_of_mem _ hz))
theorem DD_take_le {l : List (Nat × Nat)} (h : ∀ y ∈ l, 0 < y.2) (i : Nat) : DD (l.take i) ≤ DD l := by
  have e := DD_app (l.take i) (l.drop i)
  rw [List.take_append_drop] at e
  have p : 0 < DD (l.drop i) := DD_pos fun y hy => h y (List.mem_of_mem_drop hy)
  rw [e]
  exact Nat.le_mul_of_pos_right _ p
theorem NN_take_le {l : List (Nat × Nat)} (h : ∀ y ∈ l, 0 < y.2) (i : Nat) : NN (l.take i) ≤ NN l := by
  have e := NN_app (l.take i) (l.drop i)
  rw [List.take_append_drop] at e
  have p : 0 < DD (l.drop i) := DD_pos fun y hy => h y (List.mem_of_mem_drop hy)
  rw [e]
  exact Nat.le_trans (Nat.le_mul_of_pos_right _ p) (Nat.le_add_right _ _)
/-- bounds: each below 2 ^ B -/
theorem DD_lt {B : Nat} : ∀ {l : List (Nat × Nat)}, (∀ y ∈ l, y.2 ≤ 2 ^ B) → DD l ≤ 2 ^ (B * l.length)
  | [], _ => by simp [DD]
  | y :: l, h => by
    rw [DD_cons, List.length_cons, Nat.mul_add, Nat.mul_one, Nat.pow_add, Nat.mul_comm]
    exact Nat.mul_le_mul (DD_lt fun z hz => h z (List.mem_cons_of_mem _ hz)) (h y (List.mem_cons_self ..))
theorem NN_lt {B : Nat} : ∀ {l : List (Nat × Nat)}, (∀ y ∈ l, y.1 ≤ 2 ^ B ∧ y.2 ≤ 2 ^ B) → NN l ≤ l.length * 2 ^ (B * l.length)
  | [], _ => by simp [NN]
  | y :: l, h => by
    have h1 := NN_lt (l := l) fun z hz => h z (List.mem_cons_of_mem _ hz)
    have h2 := DD_lt (l := l) fun z hz => (h z (List.mem_cons_of_mem _ hz)).2
    have hy := h y (List.mem_cons_self ..)
    have e : 2 ^ (B * (l.length + 1)) = 2 ^ B * 2 ^ (B * l.length) := by rw [Nat.mul_add, Nat.mul_one, Nat.pow_add, Nat.mul_comm]
    rw [NN_cons, List.length_cons, e]
    generalize 2 ^ (B * l.length) = T at *
    generalize 2 ^ B = U at *
    have a1 : y.1 * DD l ≤ U * T := Nat.mul_le_mul hy.1 h2
    have a2 : y.2 * NN l ≤ U * (l.length * T) := Nat.mul_le_mul hy.2 h1
    have : (l.length + 1) * (U * T) = U * T + U * (l.length * T) := by grind
    omega
/-- the sum of the shortened ones is the shortened sum -/
theorem fold_pl : ∀ (l : List (Nat × Nat)) (o u : Nat), 0 < u → (∀ y ∈ l, 0 < y.2) → l.foldl pl (nf o u) = nf (l.foldl stp (o, u)).1 (l.foldl stp (o, u)).2
  | [], _, _, _, _ => rfl
  | y :: l, o, u, hu, h => by
    have hy := h y (List.mem_cons_self ..)
    rw [List.foldl_cons, List.foldl_cons, pl_nf hu hy]
    exact fold_pl l _ _ (Nat.mul_pos hu hy) fun z hz => h z (List.mem_cons_of_mem _ hz)
def tot (l : List (Nat × Nat)) : Nat × Nat := l.foldl pl (0, 1)
theorem tot_eq {l : List (Nat × Nat)} (h : ∀ y ∈ l, 0 < y.2) : tot l = nf (NN l) (DD l) := by
  have e : ((0, 1) : Nat × Nat) = nf 0 1 := by decide
  unfold tot
  rw [e, fold_pl l 0 1 Nat.one_pos h, fold_stp]
  simp
theorem tot_rev {l : List (Nat × Nat)} (h : ∀ y ∈ l, 0 < y.2) : tot l.reverse = tot l := by
  rw [tot_eq h, tot_eq fun y hy => h y (List.mem_reverse.mp hy), NN_rev, DD_rev]
theorem stp_tot {l : List (Nat × Nat)} (h : ∀ y ∈ l, 0 < y.2) : nf (l.foldl stp (0, 1)).1 (l.foldl stp (0, 1)).2 = tot l := by
  rw [tot_eq h, fold_stp]
  simp
/-! ### parts of a whole add to 1 -/
theorem sum_parts {W : Nat} (hW : 0 < W) : ∀ ws : List Nat, NN (ws.map fun w => nf w W) * W = ws.sum * DD (ws.map fun w => nf w W)
  | [] => by simp [NN]
  | w :: ws => by
    have ih := sum_parts hW ws
    have h1 : (nf w W).1 * W = w * (nf w W).2 := nf_cross_self
    rw [List.map_cons, NN_cons, DD_cons, List.sum_cons]
    generalize NN (ws.map fun w => nf w W) = n at *
    generalize DD (ws.map fun w => nf w W) = d at *
    generalize nf w W = p at *
    grind
theorem shared_one {ws : List Nat} (h : 0 < ws.sum) : tot (ws.map fun w => nf w ws.sum) = (1, 1) := by
  have hp : ∀ y ∈ ws.map fun w => nf w ws.sum, 0 < y.2 := fun y hy => by
    obtain ⟨w, _, rfl⟩ := List.mem_map.mp hy
    exact nf_pos h
  rw [tot_eq hp, show ((1, 1) : Nat × Nat) = nf 1 1 from by decide]
  refine nf_cross (DD_pos hp) Nat.one_pos ?_
  have e := sum_parts h ws
  rw [Nat.mul_comm ws.sum] at e
  have e2 := Nat.eq_of_mul_eq_mul_right h e
  rw [e2]
  grind
/-! ### Euclid's steps -/
def eu (s : Nat × Nat) : Nat × Nat := if s.2 = 0 then s else (s.2, s.1 % s.2)
def eus : Nat → Nat × Nat → Nat × Nat
  | 0, s => s
  | n + 1, s => eu (eus n s)
theorem eu_gcd (s : Nat × Nat) : Nat.gcd (eu s).1 (eu s).2 = Nat.gcd s.1 s.2 := by
  unfold eu
  split
  · rfl
  · show Nat.gcd s.2 (s.1 % s.2) = Nat.gcd s.1 s.2
    rw [Nat.gcd_comm s.1 s.2, Nat.gcd_rec s.2 s.1, Nat.gcd_comm]
theorem eus_gcd (s : Nat × Nat) : ∀ n, Nat.gcd (eus n s).1 (eus n s).2 = Nat.gcd s.1 s.2
  | 0 => rfl
  | n + 1 => (eu_gcd _).trans (eus_gcd s n)
theorem eu_lt {s : Nat × Nat} (h : s.2 ≠ 0) : (eu s).2 < (eu s).1 := by
  unfold eu
  rw [if_neg h]
  exact Nat.mod_lt _ (Nat.pos_of_ne_zero h)
/-- once the second is below the first, each step halves the product -/
theorem eu_half {f s : Nat} (hs : s < f) : 2 * ((eu (f, s)).1 * (eu (f, s)).2) ≤ f * s := by
  unfold eu
  by_cases h : s = 0
  · simp [h]
  · rw [if_neg (by exact h)]
    show 2 * (s * (f % s)) ≤ f * s
    have h1 : f % s < s := Nat.mod_lt _ (Nat.pos_of_ne_zero h)
    have h2 : s + f % s ≤ f := by
      have e := Nat.div_add_mod f s
      have d : 1 ≤ f / s := (Nat.le_div_iff_mul_le (Nat.pos_of_ne_zero h)).mpr (by omega)
      have m : s ≤ s * (f / s) := Nat.le_mul_of_pos_right _ d
      omega
    have h3 : 2 * (f % s) ≤ f := by omega
    calc 2 * (s * (f % s)) = (2 * (f % s)) * s := by grind
      _ ≤ f * s := Nat.mul_le_mul_right _ h3
theorem eus_inv {a b B : Nat} (hb : 0 < b) (hB : b * (a % b) ≤ B) : ∀ n, (eus (n + 1) (a, b)).2 < (eus (n + 1) (a, b)).1 ∧ 2 ^ n * ((eus (n + 1) (a, b)).1 * (eus (n + 1) (a, b)).2) ≤ B
  | 0 => by
    refine ⟨eu_lt (s := (a, b)) (by exact Nat.ne_of_gt hb), ?_⟩
    show 2 ^ 0 * ((eu (a, b)).1 * (eu (a, b)).2) ≤ B
    unfold eu
    rw [if_neg (by exact Nat.ne_of_gt hb)]
    simpa using hB
  | n + 1 => by
    obtain ⟨h1, h2⟩ := eus_inv hb hB n
    show (eu (eus (n + 1) (a, b))).2 < (eu (eus (n + 1) (a, b))).1 ∧ 2 ^ (n + 1) * ((eu (eus (n + 1) (a, b))).1 * (eu (eus (n + 1) (a, b))).2) ≤ B
    generalize eus (n + 1) (a, b) = s at *
    obtain ⟨f, s⟩ := s
    simp only at h1 h2
    refine ⟨?_, ?_⟩
    · by_cases h : s = 0
      · unfold eu; rw [if_pos (by exact h)]; exact h1
      · exact eu_lt (s := (f, s)) h
    · have h3 := eu_half h1
      generalize (eu (f, s)).1 * (eu (f, s)).2 = z at *
      rw [Nat.pow_succ]
      have h4 := Nat.mul_le_mul_left (2 ^ n) h3
      grind
/-- 400 steps do where the product is below 2 ^ 399 -/
theorem eus_done {a b : Nat} (hb : 0 < b) (h : b * b < 2 ^ 399) : eus 400 (a, b) = (Nat.gcd a b, 0) := by
  have h0 : b * (a % b) ≤ 2 ^ 399 - 1 := by
    have := Nat.mul_le_mul_left b (Nat.le_of_lt (Nat.mod_lt a hb))
    omega
  obtain ⟨h1, h2⟩ := eus_inv (a := a) hb h0 399
  have g := eus_gcd (a, b) 400
  generalize eus 400 (a, b) = s at *
  obtain ⟨f, s⟩ := s
  simp only at h1 h2 g
  have hz : f * s = 0 := by
    apply Classical.byContradiction
    intro hne
    have : 1 ≤ f * s := Nat.pos_of_ne_zero hne
    have := Nat.mul_le_mul_left (2 ^ 399) this
    have : 0 < 2 ^ 399 := Nat.two_pow_pos _
    omega
  have hs : s = 0 := by
    rcases Nat.mul_eq_zero.mp hz with e | e
    · omega
    · exact e
  subst hs
  rw [Nat.gcd_zero_right] at g
  rw [g]
end K73
local macro_rules | `(tactic| walk_at "wp") => `(tactic| try simp only [Ly.cxK, Ly.cxnK, Ly.tVar_ap, Ly.tC_ap, Ly.tOp_ap, Ly.tUn_ap, Ly.rI_ap, Ly.rI0_ap, Ly.rU_ap, Ly.rEq_ap, Ly.rNe_ap, Ly.tTest_ap, Ly.tB_ap, Ly.tAnd_ap, Ly.tOr_ap, Ly.tNot_ap, Ly.tYes_ap, Ly.tAndV_ap, Ly.tOrV_ap, Ly.tNotV_ap, Ly.tIf_ap, Ly.tNext_ap, Ly.tSeq_ap, Ly.tBreak_ap, Ly.tCont_ap, Ly.tDrop_ap, Ly.tRet_ap, Ly.tRetN_ap, Ly.tIfS_ap, Ly.gName_ap, Ly.gTup_ap, Ly.gCons_ap, Ly.gNil_ap, Ly.tAsg_ap, Ly.tPar_ap, Ly.tAug_ap, Ly.tNil_ap, Ly.tCons_ap, Ly.tTup_ap, Ly.tLst_ap, Ly.tCall_ap, Ly.tCB_ap, Ly.tBM_ap, Ly.tBM0_ap, Ly.rIxT_ap, Ly.rIxL_ap, Ly.rAppend_ap, Ly.tRevL_ap, Ly.tSl_ap, Ly.tNoPart_ap, Ly.tPart_ap, Ly.rSlL_ap, Ly.rCat_ap, not_true_eq_false, not_false_eq_true, Ly.tForL_ap, Ly.tForT_ap, Ly.tForRng_ap, Ly.tLcL_ap, Ly.tLcT_ap, Ly.tLcR_ap, L2.start, L2.wipe, Ly.tyV_list, Nat.reduceSub, Nat.reduceAdd, List.replicate_succ, List.replicate_zero,
  List.map_cons, List.map_nil, List.length_cons, List.length_nil, List.append_eq, List.cons_append, List.nil_append, List.append_nil, List.getElem?_cons_zero, List.getElem?_cons_succ, List.set_cons_zero, List.set_cons_succ, Option.some.injEq, L2.V.int.injEq, L2.V.bl.injEq, L2.V.ref.injEq, L2.V.str.injEq, exists_eq_left', exists_eq_left, exists_and_left, and_assoc, exists_eq', exists_eq, List.cons.injEq, and_true, true_and, and_self, false_and, and_false, or_false, false_or, exists_false, exists_const, L2.scal, decide_eq_true_eq, Bool.not_eq_true', decide_eq_false_iff_not, Bool.not_true, Bool.not_false, if_true, if_false, Bool.false_eq_true, reduceIte, reduceCtorEq, Ly.at0, Ly.at1, Ly.at2])
local macro_rules | `(tactic| walk_at "ix") => `(tactic| (refine Exists.intro _ (And.intro (by assumption) (Exists.intro _ (And.intro (by first | exact Ly.at0 | exact Ly.at1 | exact Ly.at2) ?_))); walk_at "w1"))
local macro_rules | `(tactic| walk_at "w1") => `(tactic| try simp only [Ly.cxK, Ly.cxnK, Ly.tVar_ap, Ly.tC_ap, Ly.tOp_ap, Ly.tUn_ap, Ly.rI_ap, Ly.rI0_ap, Ly.rU_ap, Ly.rEq_ap, Ly.rNe_ap, Ly.tTest_ap, Ly.tB_ap, Ly.tAnd_ap, Ly.tOr_ap, Ly.tNot_ap, Ly.tYes_ap, Ly.tAndV_ap, Ly.tOrV_ap, Ly.tNotV_ap, Ly.tIf_ap, Ly.tNext_ap, Ly.tBreak_ap, Ly.tCont_ap, Ly.tDrop_ap, Ly.tRet_ap, Ly.tRetN_ap, Ly.tIfS_ap, Ly.gName_ap, Ly.gTup_ap, Ly.gCons_ap, Ly.gNil_ap, Ly.tAsg_ap, Ly.tPar_ap, Ly.tAug_ap, Ly.tNil_ap, Ly.tCons_ap, Ly.tTup_ap, Ly.tLst_ap, Ly.tCall_ap, Ly.tCB_ap, Ly.tBM_ap, Ly.tBM0_ap, Ly.rIxT_ap, Ly.rIxL_ap, Ly.rAppend_ap, Ly.tRevL_ap, Ly.tSl_ap, Ly.tNoPart_ap, Ly.tPart_ap, Ly.rSlL_ap, Ly.rCat_ap, not_true_eq_false, not_false_eq_true, Ly.tForL_ap, Ly.tForT_ap, Ly.tForRng_ap, Ly.tLcL_ap, Ly.tLcT_ap, Ly.tLcR_ap, L2.start, L2.wipe, Ly.tyV_list, Nat.reduceSub, Nat.reduceAdd, List.replicate_succ, List.replicate_zero,
  List.map_cons, List.map_nil, List.length_cons, List.length_nil, List.append_eq, List.cons_append, List.nil_append, List.append_nil, List.getElem?_cons_zero, List.getElem?_cons_succ, List.set_cons_zero, List.set_cons_succ, Option.some.injEq, L2.V.int.injEq, L2.V.bl.injEq, L2.V.ref.injEq, L2.V.str.injEq, exists_eq_left', exists_eq_left, exists_and_left, and_assoc, exists_eq', exists_eq, List.cons.injEq, and_true, true_and, and_self, false_and, and_false, or_false, false_or, exists_false, exists_const, L2.scal, decide_eq_true_eq, Bool.not_eq_true', decide_eq_false_iff_not, Bool.not_true, Bool.not_false, if_true, if_false, Bool.false_eq_true, reduceIte, reduceCtorEq, Ly.at0, Ly.at1, Ly.at2])
local macro_rules | `(tactic| walk_at "sq") => `(tactic| (walk_at "w1"; refine Ly.seqI ?_; walk_at "w1"))
namespace K73
open PySem PySem.Spec PyProof.Rows L2 Ly
def top (i : Nat) : Stmt := PySem.Challenge.pw_onionpost_k73_parts_reckoned.main.body.getD i (.Pass ⟨0, 0, 0, 0⟩)
abbrev sIsInteger : Stmt := top 1
theorem scIsInteger : FnScope ["thing"] ["thing"] (defScope sIsInteger) := ⟨rfl, rfl, rfl, by decide +kernel, rfl, by decide +kernel, by decide +kernel⟩
abbrev sIsTupleOf : Stmt := top 2
theorem scIsTupleOf : FnScope ["thing", "many"] ["thing", "many"] (defScope sIsTupleOf) := ⟨rfl, rfl, rfl, by decide +kernel, rfl, by decide +kernel, by decide +kernel⟩
abbrev sCommon : Stmt := top 4
theorem scCommon : FnScope ["one", "other"] ["one", "other"] (defScope sCommon) := ⟨rfl, rfl, rfl, by decide +kernel, rfl, by decide +kernel, by decide +kernel⟩
abbrev sRatio : Stmt := top 5
theorem scRatio : FnScope ["over", "under", "divisor"] ["over", "under"] (defScope sRatio) := ⟨rfl, rfl, rfl, by decide +kernel, rfl, by decide +kernel, by decide +kernel⟩
abbrev sPlus : Stmt := top 6
theorem scPlus : FnScope ["one", "other"] ["one", "other"] (defScope sPlus) := ⟨rfl, rfl, rfl, by decide +kernel, rfl, by decide +kernel, by decide +kernel⟩
abbrev sTimes : Stmt := top 7
theorem scTimes : FnScope ["one", "other"] ["one", "other"] (defScope sTimes) := ⟨rfl, rfl, rfl, by decide +kernel, rfl, by decide +kernel, by decide +kernel⟩
abbrev sTotal : Stmt := top 8
theorem scTotal : FnScope ["ratios", "found", "one"] ["ratios"] (defScope sTotal) := ⟨rfl, rfl, rfl, by decide +kernel, rfl, by decide +kernel, by decide +kernel⟩
abbrev sIsMore : Stmt := top 9
theorem scIsMore : FnScope ["one", "other"] ["one", "other"] (defScope sIsMore) := ⟨rfl, rfl, rfl, by decide +kernel, rfl, by decide +kernel, by decide +kernel⟩
abbrev sIsRatio : Stmt := top 10
theorem scIsRatio : FnScope ["thing"] ["thing"] (defScope sIsRatio) := ⟨rfl, rfl, rfl, by decide +kernel, rfl, by decide +kernel, by decide +kernel⟩
abbrev sShared : Stmt := top 11
theorem scShared : FnScope ["weights", "whole", "one"] ["weights"] (defScope sShared) := ⟨rfl, rfl, rfl, by decide +kernel, rfl, by decide +kernel, by decide +kernel⟩
abbrev sLawMixed : Stmt := top 13
theorem scLawMixed : FnScope ["cell", "k", "first"] ["cell", "k"] (defScope sLawMixed) := ⟨rfl, rfl, rfl, by decide +kernel, rfl, by decide +kernel, by decide +kernel⟩
abbrev sLawRow : Stmt := top 14
theorem scLawRow : FnScope ["cell", "many", "top", "found", "left", "great", "k"] ["cell", "many", "top"] (defScope sLawRow) := ⟨rfl, rfl, rfl, by decide +kernel, rfl, by decide +kernel, by decide +kernel⟩
abbrev sLawAt : Stmt := top 15
theorem scLawAt : FnScope ["script", "k"] ["script", "k"] (defScope sLawAt) := ⟨rfl, rfl, rfl, by decide +kernel, rfl, by decide +kernel, by decide +kernel⟩
abbrev sLawRatio : Stmt := top 16
theorem scLawRatio : FnScope ["one", "other", "first", "second", "step"] ["one", "other"] (defScope sLawRatio) := ⟨rfl, rfl, rfl, by decide +kernel, rfl, by decide +kernel, by decide +kernel⟩
abbrev sLawFlag : Stmt := top 17
theorem scLawFlag : FnScope ["found", "due"] ["found", "due"] (defScope sLawFlag) := ⟨rfl, rfl, rfl, by decide +kernel, rfl, by decide +kernel, by decide +kernel⟩
abbrev sLaw : Stmt := top 18
theorem scLaw : FnScope ["script", "digits", "parts", "k", "part", "over", "under", "one", "other", "weights", "told", "bad", "thing"] ["script"] (defScope sLaw) := ⟨rfl, rfl, rfl, by decide +kernel, rfl, by decide +kernel, by decide +kernel⟩
/-- what the top has written -/
structure Txt (K : PySem.W.Frag) (mg : Str → Option Value) : Prop where
  d1 : Df K mg "is_integer" sIsInteger ["thing"]
  d2 : Df K mg "is_tuple_of" sIsTupleOf ["thing", "many"]
  d4 : Df K mg "common" sCommon ["one", "other"]
  d5 : Df K mg "ratio" sRatio ["over", "under"]
  d6 : Df K mg "plus" sPlus ["one", "other"]
  d7 : Df K mg "times" sTimes ["one", "other"]
  d8 : Df K mg "total" sTotal ["ratios"]
  d9 : Df K mg "is_more" sIsMore ["one", "other"]
  d10 : Df K mg "is_ratio" sIsRatio ["thing"]
  d11 : Df K mg "shared" sShared ["weights"]
  d13 : Df K mg "_law_mixed" sLawMixed ["cell", "k"]
  d14 : Df K mg "_law_row" sLawRow ["cell", "many", "top"]
  d15 : Df K mg "_law_at" sLawAt ["script", "k"]
  d16 : Df K mg "_law_ratio" sLawRatio ["one", "other"]
  d17 : Df K mg "_law_flag" sLawFlag ["found", "due"]
  m_all : mg "all" = none
  m_bool : mg "bool" = none
  m_int : mg "int" = none
  m_isinstance : mg "isinstance" = none
  m_len : mg "len" = none
  m_list : mg "list" = none
  m_range : mg "range" = none
  m_sum : mg "sum" = none
  m_tuple : mg "tuple" = none
/-! ### data -/
def pairV (x : Nat × Nat) : List V := [.int x.1, .int x.2]
def D2 (x : Nat × Nat) : PyData := .tuple [.int x.1, .int x.2]
theorem dp_D2 {K : PySem.W.Frag} {H : Hp} {v : V} {x : Nat × Nat} (h : Dp K H v (D2 x)) : ∃ p, v = .ref p ∧ SqT K H p (pairV x) := by
  unfold D2 at h
  cases h with
  | tup hs ha =>
    cases ha with
    | cons h1 h2 =>
      cases h2 with
      | cons h3 h4 =>
        cases h4
        cases h1
        cases h3
        exact ⟨_, rfl, hs⟩
theorem dp_of_pair {K : PySem.W.Frag} {H : Hp} {p : Addr} {x : Nat × Nat} (h : SqT K H p (pairV x)) : Dp K H (.ref p) (D2 x) := .tup h (.cons (.int _) (.cons (.int _) .nil))
theorem dp_new {K : PySem.W.Frag} {H : Hp} {p : Addr} {x : Nat × Nat} : Dp K (upd H p (.tup (pairV x))) (.ref p) (D2 x) := dp_of_pair (sqT_of upd_same)
section
variable {P : Program} {w : World} {K : PySem.W.Frag} {mg : Str → Option Value} {base : Heap}
/-! ### common -/
def spCommon : Sp := fun vs H Q _ => ∃ a b : Nat, vs = [.int a, .int b] ∧ Q (.int (Nat.gcd a b : Nat)) H
theorem ok_common (T : Txt K mg) : C0 P w K mg base 1 "common" spCommon := by
  refine C0.mk' T.d4 scCommon (fun vs H Q E h => ?_) (fun f cdv A outer s H vs Q E hr h => ?_)
  · obtain ⟨a, b, rfl, _⟩ := h
    rfl
  · obtain ⟨a, b, rfl, q⟩ := h
    refine ⟨_, (pss_cons (ps_while PassesOwn.never (pt_cmpR op_ne (pv 1) pe_int (nomark _))
    (pss_one (ps_par (i := 0) (j := 1) (by rfl) scCommon.nd rfl rfl (by decide) rfl rfl (pa_cons (pv 1) (pa_cons (pe_op op_mod (pv 0) (pv 1)) pa_nil)) (by rfl))))
      (pss_one (ps_ret (pv 0)))), ?_⟩
    refine whileR (fun m σ H' => ∃ x y : Nat, σ = [some (.int x), some (.int y)] ∧ H' = H ∧ Nat.gcd x y = Nat.gcd a b ∧ m = y) b ⟨a, b, rfl, rfl, rfl, rfl⟩ ?_
    rintro m σ H' ⟨x, y, rfl, rfl, g, rfl⟩
    walk_at "wp"
    refine ite2 (fun hy => wB ?_) (fun hy => ?_)
    · walk_at "wp"
      refine ⟨by omega, x % m, Nat.mod_lt _ (by omega), m, rfl, x % m, rfl, ?_, rfl⟩
      rw [← g, Nat.gcd_comm x m, Nat.gcd_rec m x, Nat.gcd_comm]
    · have e : m = 0 := by omega
      subst e
      rw [← g, Nat.gcd_zero_right] at q
      exact q
/-! ### ratio -/
def spRatio : Sp := fun vs H Q _ => ∃ a b : Nat, vs = [.int a, .int b] ∧ 0 < b ∧ b < 2 ^ 4000 ∧ ∀ p, H p = none → Q (.ref p) (upd H p (.tup (pairV (nf a b))))
theorem ok_ratio (T : Txt K mg) : C0 P w K mg base 2 "ratio" spRatio := by
  refine C0.mk' T.d5 scRatio (fun vs H Q E h => ?_) (fun f cdv A outer s H vs Q E hr h => ?_)
  · obtain ⟨a, b, rfl, _⟩ := h
    rfl
  · obtain ⟨a, b, rfl, hb, hb2, q⟩ := h
    refine ⟨_, (pss_cons (ps_set (i := 2) scRatio.nd rfl (.inl rfl) (pe_cC (ok_common T) hr (by decide) (by rfl) (pa_cons (pv 0) (pa_cons (pv 1) pa_nil))))
  (pss_one (ps_ret (pe_tup (pa_cons (pe_op op_fdivW (pv 0) (pv 2)) (pa_cons (pe_op op_fdivW (pv 1) (pv 2)) pa_nil)))))), ?_⟩
    walk_at "wp"
    refine ⟨a, b, rfl, ?_⟩
    walk_at "wp"
    have hg : 0 < Nat.gcd a b := gcd_pos_r hb
    have hw : CDivW a (Nat.gcd a b : Nat) := wide_div (b := 4000) (by omega) (Nat.lt_of_le_of_lt (Nat.gcd_le_right _ hb) hb2) (by decide) (by decide)
    exact ⟨hw, hw, by decide, q⟩
end
end K73
namespace K73
open PySem PySem.Spec PyProof.Rows L2 Ly
section
variable {P : Program} {w : World} {K : PySem.W.Frag} {mg : Str → Option Value} {base : Heap}
theorem mulW_of {a b : Nat} (ha : a < 2 ^ 1500) (hb : b < 2 ^ 1500) : CMulW a b := wide_mul (a := 1500) (b := 1500) (by simpa using ha) (by simpa using hb) (by decide) (by decide) (by decide)
theorem pow3001 {a b : Nat} (ha : a < 2 ^ 1500) (hb : b < 2 ^ 1500) : a * b < 2 ^ 4000 :=
  Nat.lt_of_lt_of_le (Nat.mul_lt_mul'' ha hb) (by rw [← Nat.pow_add]; exact Nat.pow_le_pow_right (by decide) (by decide))
/-! ### plus, times, is_more -/
def Sm (x : Nat × Nat) : Prop := 0 < x.2 ∧ x.1 < 2 ^ 1500 ∧ x.2 < 2 ^ 1500
def spPlus (K : PySem.W.Frag) (f : Nat × Nat → Nat × Nat → Nat × Nat) : Sp := fun vs H Q _ => ∃ u v x y, vs = [u, v] ∧ Dp K H u (D2 x) ∧ Dp K H v (D2 y) ∧ Sm x ∧ Sm y ∧ ∀ p, H p = none → Q (.ref p) (upd H p (.tup (pairV (f x y))))
theorem ok_plus (T : Txt K mg) : C0 P w K mg base 3 "plus" (spPlus K pl) := by
  refine C0.mk' T.d6 scPlus (fun vs H Q E h => ?_) (fun f cdv A outer s H vs Q E hr h => ?_)
  · obtain ⟨a, b, _, _, rfl, _⟩ := h
    rfl
  · obtain ⟨u, v, x, y, rfl, hu, hv, ⟨px, bx1, bx2⟩, ⟨py, by1, by2⟩, q⟩ := h
    obtain ⟨a, rfl, ha⟩ := dp_D2 hu
    obtain ⟨b, rfl, hb⟩ := dp_D2 hv
    refine ⟨_, (pss_one (ps_ret (pe_cC (ok_ratio T) hr (by decide) (by rfl) (pa_cons (pe_op op_add (pe_op op_mulW (pe_ix ix_tup (pv 0) pe_int (fun _ _ => rfl)) (pe_ix ix_tup (pv 1) pe_int (fun _ _ => rfl))) (pe_op op_mulW (pe_ix ix_tup (pv 1) pe_int (fun _ _ => rfl)) (pe_ix ix_tup (pv 0) pe_int (fun _ _ => rfl)))) (pa_cons (pe_op op_mulW (pe_ix ix_tup (pv 0) pe_int (fun _ _ => rfl)) (pe_ix ix_tup (pv 1) pe_int (fun _ _ => rfl))) pa_nil))))), ?_⟩
    walk_at "wp"
    walk_at "ix"
    walk_at "ix"
    refine ⟨mulW_of bx1 by2, ?_⟩
    walk_at "ix"
    walk_at "ix"
    refine ⟨mulW_of by1 bx2, ?_⟩
    walk_at "ix"
    walk_at "ix"
    refine ⟨mulW_of bx2 by2, ?_⟩
    exact ⟨x.1 * y.2 + y.1 * x.2, x.2 * y.2, by simp, Nat.mul_pos px py, pow3001 bx2 by2, q⟩
theorem ok_times (T : Txt K mg) : C0 P w K mg base 3 "times" (spPlus K fun x y => nf (x.1 * y.1) (x.2 * y.2)) := by
  refine C0.mk' T.d7 scTimes (fun vs H Q E h => ?_) (fun f cdv A outer s H vs Q E hr h => ?_)
  · obtain ⟨a, b, _, _, rfl, _⟩ := h
    rfl
  · obtain ⟨u, v, x, y, rfl, hu, hv, ⟨px, bx1, bx2⟩, ⟨py, by1, by2⟩, q⟩ := h
    obtain ⟨a, rfl, ha⟩ := dp_D2 hu
    obtain ⟨b, rfl, hb⟩ := dp_D2 hv
    refine ⟨_, (pss_one (ps_ret (pe_cC (ok_ratio T) hr (by decide) (by rfl) (pa_cons (pe_op op_mulW (pe_ix ix_tup (pv 0) pe_int (fun _ _ => rfl)) (pe_ix ix_tup (pv 1) pe_int (fun _ _ => rfl))) (pa_cons (pe_op op_mulW (pe_ix ix_tup (pv 0) pe_int (fun _ _ => rfl)) (pe_ix ix_tup (pv 1) pe_int (fun _ _ => rfl))) pa_nil))))), ?_⟩
    walk_at "wp"
    walk_at "ix"
    walk_at "ix"
    refine ⟨mulW_of bx1 by1, ?_⟩
    walk_at "ix"
    walk_at "ix"
    refine ⟨mulW_of bx2 by2, ?_⟩
    exact ⟨x.1 * y.1, x.2 * y.2, by simp, Nat.mul_pos px py, pow3001 bx2 by2, q⟩
def spIsMore (K : PySem.W.Frag) : Sp := fun vs H Q _ => ∃ u v x y, vs = [u, v] ∧ Dp K H u (D2 x) ∧ Dp K H v (D2 y) ∧ Sm x ∧ Sm y ∧ Q (.bl (decide (y.1 * x.2 < x.1 * y.2))) H
theorem ok_is_more (T : Txt K mg) : C0 P w K mg base 1 "is_more" (spIsMore K) := by
  refine C0.mk' T.d9 scIsMore (fun vs H Q E h => ?_) (fun f cdv A outer s H vs Q E hr h => ?_)
  · obtain ⟨a, b, _, _, rfl, _⟩ := h
    rfl
  · obtain ⟨u, v, x, y, rfl, hu, hv, ⟨px, bx1, bx2⟩, ⟨py, by1, by2⟩, q⟩ := h
    obtain ⟨a, rfl, ha⟩ := dp_D2 hu
    obtain ⟨b, rfl, hb⟩ := dp_D2 hv
    refine ⟨_, (pss_one (ps_ret (pe_cmpR op_gt (pe_op op_mulW (pe_ix ix_tup (pv 0) pe_int (fun _ _ => rfl)) (pe_ix ix_tup (pv 1) pe_int (fun _ _ => rfl))) (pe_op op_mulW (pe_ix ix_tup (pv 1) pe_int (fun _ _ => rfl)) (pe_ix ix_tup (pv 0) pe_int (fun _ _ => rfl))) (nomark _)))), ?_⟩
    walk_at "wp"
    walk_at "ix"
    walk_at "ix"
    refine ⟨mulW_of bx1 by2, ?_⟩
    walk_at "ix"
    walk_at "ix"
    refine ⟨mulW_of by1 bx2, ?_⟩
    have e : decide ((y.1 : Int) * (x.2 : Int) < (x.1 : Int) * (y.2 : Int)) = decide (y.1 * x.2 < x.1 * y.2) := by
      rw [← Int.natCast_mul, ← Int.natCast_mul]
      simp only [Int.ofNat_lt]
    rw [e]
    exact q
end
end K73
namespace K73
open PySem PySem.Spec PyProof.Rows L2 Ly
/-! ### the type of data -/
def tyN : PyData → String
  | .none => "NoneType" | .bool _ => "bool" | .int _ => "int" | .str _ => "str" | .list _ => "list" | .tuple _ => "tuple" | .dict _ => "dict"
theorem dp_ty {K : PySem.W.Frag} {H : Hp} {v : V} {d : PyData} (h : Dp K H v d) : TyX K H v (.type (tyN d)) := by
  cases h with
  | non => exact .base .non
  | bl b => exact .base (.bl b)
  | int i => exact .base (.int i)
  | str x => exact .base (.str x)
  | lst hs _ =>
    rcases hs with (h | ⟨o, h⟩) | ⟨o, its, n, h, c, _⟩
    · exact .base (.lst h)
    · exact .base (.frz h)
    · exact .kList h c
  | tup hs _ =>
    rcases hs with (h | ⟨o, h⟩) | ⟨o, its, n, h, c, _⟩
    · exact .base (.tup h)
    · exact .fTuple h
    · exact .kTuple h c
def isInt : PyData → Bool
  | .int _ => true | _ => false
def isInB : PyData → Bool
  | .int _ => true | .bool _ => true | _ => false
def isBool : PyData → Bool
  | .bool _ => true | _ => false
def isTup : PyData → Bool
  | .tuple _ => true | _ => false
def isTupN (n : Nat) : PyData → Bool
  | .tuple ds => decide (ds.length = n) | _ => false
theorem kbI : kitB "NoneType" "int" = some false ∧ kitB "bool" "int" = some true ∧ kitB "int" "int" = some true ∧ kitB "str" "int" = some false ∧ kitB "list" "int" = some false ∧ kitB "tuple" "int" = some false := by decide +kernel
theorem kbB : kitB "NoneType" "bool" = some false ∧ kitB "bool" "bool" = some true ∧ kitB "int" "bool" = some false ∧ kitB "str" "bool" = some false ∧ kitB "list" "bool" = some false ∧ kitB "tuple" "bool" = some false := by decide +kernel
theorem kbT : kitB "NoneType" "tuple" = some false ∧ kitB "bool" "tuple" = some false ∧ kitB "int" "tuple" = some false ∧ kitB "str" "tuple" = some false ∧ kitB "list" "tuple" = some false ∧ kitB "tuple" "tuple" = some true := by decide +kernel
theorem kit_int {K : PySem.W.Frag} {H : Hp} {v : V} {d : PyData} (h : Dp K H v d) : PySem.W.kitOne K (.type (tyN d)) (.type "int") = some (isInB d) := by
  obtain ⟨h1, h2, h3, h4, h5, h6⟩ := kbI
  cases h <;> exact kit_ty (by assumption)
theorem kit_bool {K : PySem.W.Frag} {H : Hp} {v : V} {d : PyData} (h : Dp K H v d) : PySem.W.kitOne K (.type (tyN d)) (.type "bool") = some (isBool d) := by
  obtain ⟨h1, h2, h3, h4, h5, h6⟩ := kbB
  cases h <;> exact kit_ty (by assumption)
theorem kit_tup {K : PySem.W.Frag} {H : Hp} {v : V} {d : PyData} (h : Dp K H v d) : PySem.W.kitOne K (.type (tyN d)) (.type "tuple") = some (isTup d) := by
  obtain ⟨h1, h2, h3, h4, h5, h6⟩ := kbT
  cases h <;> exact kit_ty (by assumption)
section
variable {P : Program} {w : World} {K : PySem.W.Frag} {mg : Str → Option Value} {base : Heap}
def spIsInteger (K : PySem.W.Frag) : Sp := fun vs H Q _ => ∃ v d, vs = [v] ∧ Dp K H v d ∧ Q (.bl (isInt d)) H
theorem ok_is_integer (T : Txt K mg) : C0 P w K mg base 1 "is_integer" (spIsInteger K) := by
  refine C0.mk' T.d1 scIsInteger (fun vs H Q E h => ?_) (fun f cdv A outer s H vs Q E hr h => ?_)
  · obtain ⟨a, b, rfl, _⟩ := h
    rfl
  · obtain ⟨v, d, rfl, hv, q⟩ := h
    refine ⟨_, (pss_one (ps_ret (pe_and (pe_callB call_isi (by rfl) T.m_isinstance (by decide +kernel) (pa_cons (pv 0) (pa_cons (pe_bltn (v := .ty "int") (by rfl) T.m_int (by decide +kernel) rfl) pa_nil))) (pe_one (pe_not (pe_callB call_isi (by rfl) T.m_isinstance (by decide +kernel) (pa_cons (pv 0) (pa_cons (pe_bltn (v := .ty "bool") (by rfl) T.m_bool (by decide +kernel) rfl) pa_nil)))))))), ?_⟩
    walk_at "wp"
    refine ⟨_, _, _, _, _, rfl, .ty _, dp_ty hv, kit_int hv, ?_⟩
    walk_at "wp"
    refine ite2 (fun h => ⟨_, _, _, _, _, rfl, .ty _, dp_ty hv, kit_bool hv, ?_⟩) (fun h => ?_)
    · walk_at "wp"
      have e : (!isBool d) = isInt d := by cases d <;> first | rfl | exact nomatch h
      rw [e]
      exact q
    · have e : false = isInt d := by cases d <;> first | rfl | (exact absurd rfl h)
      rw [e]
      exact q
def spIsTupleOf (K : PySem.W.Frag) : Sp := fun vs H Q _ => ∃ v d, ∃ n : Nat, vs = [v, .int n] ∧ Dp K H v d ∧ Q (.bl (isTupN n d)) H
theorem ok_is_tuple_of (T : Txt K mg) : C0 P w K mg base 1 "is_tuple_of" (spIsTupleOf K) := by
  refine C0.mk' T.d2 scIsTupleOf (fun vs H Q E h => ?_) (fun f cdv A outer s H vs Q E hr h => ?_)
  · obtain ⟨a, b, _, rfl, _⟩ := h
    rfl
  · obtain ⟨v, d, n, rfl, hv, q⟩ := h
    refine ⟨_, (pss_one (ps_ret (pe_and (pe_callB call_isi (by rfl) T.m_isinstance (by decide +kernel) (pa_cons (pv 0) (pa_cons (pe_bltn (v := .ty "tuple") (by rfl) T.m_tuple (by decide +kernel) rfl) pa_nil))) (pe_one (pe_cmpR op_eq (pe_callB call_len_seq (by rfl) T.m_len (by decide +kernel) (pa_cons (pv 0) pa_nil)) (pv 1) (nomark _)))))), ?_⟩
    walk_at "wp"
    refine ⟨_, _, _, _, _, rfl, .ty _, dp_ty hv, kit_tup hv, ?_⟩
    walk_at "wp"
    refine ite2 (fun h => ?_) (fun h => ?_)
    · cases hv with
      | @tup a xs ds hs ha =>
        walk_at "wp"
        refine ⟨_, .inr hs, ?_⟩
        walk_at "wp"
        have e : decide ((xs.length : Int) = (n : Int)) = isTupN n (.tuple ds) := by
          unfold isTupN
          rw [dpAll_len ha]
          simp only [Int.ofNat_inj]
        rw [e]
        exact q
      | _ => exact nomatch h
    · have e : false = isTupN n d := by cases d <;> first | rfl | (exact absurd rfl h)
      rw [e]
      exact q
end
end K73
namespace K73
open PySem PySem.Spec PyProof.Rows L2 Ly
theorem shaped_D2 (x : Nat × Nat) : SeqAt.shaped (D2 x) = true := rfl
theorem eqv_D2 (x y : Nat × Nat) : PyData.eqv (D2 x) (D2 y) = decide (x = y) := by
  obtain ⟨a, b⟩ := x
  obtain ⟨c, d⟩ := y
  simp only [D2, PyData.eqv, PyData.eqvAll, Bool.and_true]
  rw [Bool.eq_iff_iff]
  simp
  omega
/-- is it a part? -/
def isRat : PyData → Bool
  | .tuple [.int a, .int b] => decide (0 ≤ a) && (decide (0 < b) && decide (nf a.toNat b.toNat = (a.toNat, b.toNat)))
  | _ => false
def okRat : PyData → Prop
  | .tuple [.int a, .int b] => b < 2 ^ 1500
  | _ => True
section
variable {P : Program} {w : World} {K : PySem.W.Frag} {mg : Str → Option Value} {base : Heap}
def spIsRatio (K : PySem.W.Frag) : Sp := fun vs H Q _ => ∃ v d, vs = [v] ∧ Dp K H v d ∧ okRat d ∧ ∀ H', Same H H' → Q (.bl (isRat d)) H'
theorem isRat_not2 {d : PyData} (h : isTupN 2 d = false) : isRat d = false := by
  unfold isRat
  split
  · simp [isTupN] at h
  · rfl
theorem isTup2 {d : PyData} (h : isTupN 2 d = true) : ∃ a b, d = .tuple [a, b] := by
  cases d with
  | tuple ds =>
    match ds, h with
    | [a, b], _ => exact ⟨a, b, rfl⟩
    | [], h => simp [isTupN] at h
    | [_], h => simp [isTupN] at h
    | _ :: _ :: _ :: _, h => simp [isTupN] at h
  | _ => simp [isTupN] at h
theorem ok_is_ratio (T : Txt K mg) : C0 P w K mg base 3 "is_ratio" (spIsRatio K) := by
  refine C0.mk' T.d10 scIsRatio (fun vs H Q E h => ?_) (fun f cdv A outer s H vs Q E hr h => ?_)
  · obtain ⟨a, b, rfl, _⟩ := h
    rfl
  · obtain ⟨v, d, rfl, hv, hok, q⟩ := h
    refine ⟨_, (pss_cons (ps_if (PW.pt (pw_or (pt_not (pt_val (pe_cC (ok_is_tuple_of T) hr (by decide) (by rfl) (pa_cons (pv 0) (pa_cons pe_int pa_nil))))) (pw_or (pt_not (pt_val (pe_cC (ok_is_integer T) hr (by decide) (by rfl) (pa_cons (pe_ix ix_tup (pv 0) pe_int (fun _ _ => rfl)) pa_nil)))) (pw_or1 (pt_not (pt_val (pe_cC (ok_is_integer T) hr (by decide) (by rfl) (pa_cons (pe_ix ix_tup (pv 0) pe_int (fun _ _ => rfl)) pa_nil))))))))
    (pss_one (ps_ret pe_bl))
    pss_nil)
  (pss_one (ps_ret (pe_and (pe_cmpR op_ge (pe_ix ix_tup (pv 0) pe_int (fun _ _ => rfl)) pe_int (nomark _)) (pe_and (pe_cmpR op_gt (pe_ix ix_tup (pv 0) pe_int (fun _ _ => rfl)) pe_int (nomark _)) (pe_one (pe_cmpR (op_eqD hr.units) (pe_cC (ok_ratio T) hr (by decide) (by rfl) (pa_cons (pe_ix ix_tup (pv 0) pe_int (fun _ _ => rfl)) (pa_cons (pe_ix ix_tup (pv 0) pe_int (fun _ _ => rfl)) pa_nil))) (pv 0) (nomark _)))))))), ?_⟩
    walk_at "wp"
    refine ⟨v, d, 2, rfl, hv, ?_⟩
    walk_at "wp"
    cases h2 : isTupN 2 d with
    | false =>
      walk_at "wp"
      rw [← isRat_not2 h2]
      exact q _ (Same.refl _)
    | true =>
      obtain ⟨d0, d1, rfl⟩ := isTup2 h2
      cases hv with
      | @tup a xs ds hs ha =>
      cases ha with
      | @cons v0 vs1 _ _ hv0 ha1 =>
      cases ha1 with
      | @cons v1 vs2 _ _ hv1 ha2 =>
      cases ha2
      walk_at "wp"
      walk_at "ix"
      refine ⟨v0, d0, rfl, hv0, ?_⟩
      walk_at "wp"
      cases h0 : isInt d0 with
      | false =>
        walk_at "wp"
        have e : isRat (.tuple [d0, d1]) = false := by
          cases d0 <;> first | rfl | exact nomatch h0
        rw [← e]
        exact q _ (Same.refl _)
      | true =>
      walk_at "wp"
      walk_at "ix"
      refine ⟨v1, d1, rfl, hv1, ?_⟩
      walk_at "wp"
      cases h1 : isInt d1 with
      | false =>
        walk_at "wp"
        have e : isRat (.tuple [d0, d1]) = false := by
          cases d0 <;> cases d1 <;> first | rfl | exact nomatch h1
        rw [← e]
        exact q _ (Same.refl _)
      | true =>
      walk_at "wp"
      cases hv0 with
      | int i =>
        cases hv1 with
        | int j =>
          walk_at "ix"
          have hj : j < 2 ^ 1500 := hok
          have q' : ∀ H', Same H H' → Q (.bl (decide (0 ≤ i) && (decide (0 < j) && decide (nf i.toNat j.toNat = (i.toNat, j.toNat))))) H' := q
          refine ite2 (fun hi => ?_) (fun hi => ?_)
          · walk_at "ix"
            refine ite2 (fun hj0 => ?_) (fun hj0 => ?_)
            · walk_at "ix"
              walk_at "ix"
              refine ⟨i.toNat, j.toNat, by simp only [List.cons.injEq, V.int.injEq, and_true]; omega, by omega, by omega, fun p hp => ?_⟩
              refine ⟨D2 (nf i.toNat j.toNat), D2 (i.toNat, j.toNat), dp_new, ?_, shaped_D2 _, shaped_D2 _, ?_⟩
              · have e : pairV (i.toNat, j.toNat) = [.int i, .int j] := by
                  simp only [pairV, List.cons.injEq, V.int.injEq, and_true]; omega
                exact dp_of_pair (by rw [e]; exact Same.tup (Same.upd hp) hs)
              · rw [eqv_D2]
                have q2 := q' _ (Same.upd (o := .tup (pairV (nf i.toNat j.toNat))) hp)
                rw [decide_eq_true hi, decide_eq_true hj0] at q2
                exact q2
            · have q2 := q' _ (Same.refl H)
              rw [decide_eq_true hi, decide_eq_false hj0] at q2
              exact q2
          · have q2 := q' _ (Same.refl H)
            rw [decide_eq_false hi] at q2
            exact q2
        | _ => exact nomatch h1
      | _ => exact nomatch h0
end
end K73
namespace K73
open PySem PySem.Spec PyProof.Rows L2 Ly
def Pt (y : Nat × Nat) : Prop := 0 < y.2 ∧ y.1 ≤ 2 ^ 10 ∧ y.2 ≤ 2 ^ 10
theorem Pt.sm {y : Nat × Nat} (h : Pt y) : Sm y := ⟨h.1, Nat.lt_of_le_of_lt h.2.1 (Nat.pow_lt_pow_right (by decide) (by decide)), Nat.lt_of_le_of_lt h.2.2 (Nat.pow_lt_pow_right (by decide) (by decide))⟩
theorem tot_sm {l : List (Nat × Nat)} (h : ∀ y ∈ l, Pt y) (hl : l.length ≤ 64) : Sm (tot l) := by
  have hp : ∀ y ∈ l, 0 < y.2 := fun y hy => (h y hy).1
  have b1 := NN_lt (B := 10) fun y hy => (h y hy).2
  have b2 := DD_lt (B := 10) fun y hy => (h y hy).2.2
  rw [tot_eq hp]
  have e : 2 ^ (10 * l.length) ≤ 2 ^ 640 := Nat.pow_le_pow_right (by decide) (by omega)
  have e2 : l.length * 2 ^ (10 * l.length) ≤ 64 * 2 ^ 640 := Nat.mul_le_mul hl e
  have e3 : 64 * 2 ^ 640 = 2 ^ 646 := by rw [show (64 : Nat) = 2 ^ 6 from rfl, ← Nat.pow_add]
  have l1 : 2 ^ 646 < 2 ^ 1500 := Nat.pow_lt_pow_right (by decide) (by decide)
  have l2 : 2 ^ 640 < 2 ^ 1500 := Nat.pow_lt_pow_right (by decide) (by decide)
  refine ⟨nf_pos (DD_pos hp), Nat.lt_of_le_of_lt (nf_le1 _ _) ?_, Nat.lt_of_le_of_lt (nf_le2 _ _) ?_⟩
  · exact Nat.lt_of_le_of_lt (Nat.le_trans b1 e2) (by rw [e3]; exact l1)
  · exact Nat.lt_of_le_of_lt (Nat.le_trans b2 e) l2
section
variable {P : Program} {w : World} {K : PySem.W.Frag} {mg : Str → Option Value} {base : Heap}
def spTotal (K : PySem.W.Frag) : Sp := fun vs H Q _ => ∃ a vl, ∃ l : List (Nat × Nat), vs = [.ref a] ∧ SqL K H a vl ∧ DpAll K H vl (l.map D2) ∧ (∀ y ∈ l, Pt y) ∧ l.length ≤ 64 ∧ ∀ H' v, Same H H' → Dp K H' v (D2 (tot l)) → Q v H'
theorem ok_total (T : Txt K mg) : C0 P w K mg base 4 "total" (spTotal K) := by
  refine C0.mk' T.d8 scTotal (fun vs H Q E h => ?_) (fun f cdv A outer s H vs Q E hr h => ?_)
  · obtain ⟨a, b, _, rfl, _⟩ := h
    rfl
  · obtain ⟨a, vl, l, rfl, hS, hA, hP, hl, q⟩ := h
    refine ⟨_, (pss_cons (ps_set (i := 1) scTotal.nd rfl (.inl rfl) (pe_tup (pa_cons pe_int (pa_cons pe_int pa_nil))))
  (pss_cons (ps_for PassesOwn.never rfl (pi_list (pv 0)) (pg_name (i := 2) scTotal.nd rfl (.inl rfl))
    (pss_one (ps_set (i := 1) scTotal.nd rfl (.inl rfl) (pe_cC (ok_plus T) hr (by decide) (by rfl) (pa_cons (pv 1) (pa_cons (pv 2) pa_nil))))))
  (pss_one (ps_ret (pv 1))))), ?_⟩
    walk_at "wp"
    refine ⟨by decide, fun p0 hp0 => ?_⟩
    have s0 : Same H (upd H p0 (.tup [.int 0, .int 1])) := Same.upd hp0
    refine ⟨⟨vl, s0.seq hS⟩, ?_⟩
    have len := dpAll_len hA
    rw [List.length_map] at len
    refine forL vl (fun i σ H' => ∃ u y, σ = [some (.ref a), some u, y] ∧ Same H H' ∧ Dp K H' u (D2 (tot (l.take i)))) ⟨.ref p0, none, rfl, s0, dp_of_pair (x := (0, 1)) (sqT_of upd_same)⟩
      (fun i σ H' _ ⟨u, y, _, s1, _⟩ => s1.seq hS) ?_ ?_
    · rintro i x σ H' hx ⟨u, y, rfl, s1, hu⟩
      walk_at "wp"
      obtain ⟨d, hd, hdp⟩ := dpAll_get hA hx
      rw [List.getElem?_map] at hd
      cases hy : l[i]? with
      | none => rw [hy] at hd; cases hd
      | some z =>
        rw [hy] at hd
        cases hd
        have hz : z ∈ l := List.mem_of_getElem? hy
        refine ⟨u, x, _, z, rfl, hu, dp_same s1 _ hdp, tot_sm (fun y hy => hP y (List.mem_of_mem_take hy)) (by rw [List.length_take]; omega), (hP z hz).sm, fun p hp => ?_⟩
        refine ⟨s1.trans (Same.upd hp), ?_⟩
        have e : tot (l.take (i + 1)) = pl (tot (l.take i)) z := by
          unfold tot
          rw [take_more hy, List.foldl_append]
          rfl
        rw [e]
        exact dp_new
    · rintro σ H' ⟨u, y, rfl, s1, hu⟩
      walk_at "wp"
      rw [List.take_of_length_le (by omega)] at hu
      exact q H' u s1 hu
/-! ### shared -/
def spShared (K : PySem.W.Frag) : Sp := fun vs H Q _ => ∃ a, ∃ ws : List Nat, vs = [.ref a] ∧ SqL K H a (ws.map fun n : Nat => V.int (n : Int)) ∧ 0 < ws.sum ∧ ws.sum < 2 ^ 1500 ∧ ws.length ≤ 64 ∧ ∀ H' v, Same H H' → Dp K H' v (.tuple (ws.map fun n => D2 (nf n ws.sum))) → Q v H'
theorem sum_cast : ∀ ws : List Nat, (ws.map fun n : Nat => (n : Int)).sum = (ws.sum : Nat)
  | [] => rfl
  | n :: ws => by
    rw [List.map_cons, List.sum_cons, List.sum_cons, sum_cast ws, Int.natCast_add]
theorem map_cast (ws : List Nat) : (ws.map fun n : Nat => (n : Int)).map V.int = ws.map fun n : Nat => V.int (n : Int) := by
  rw [List.map_map]
  rfl
theorem ok_shared (T : Txt K mg) : C0 P w K mg base 3 "shared" (spShared K) := by
  refine C0.mk' T.d11 scShared (fun vs H Q E h => ?_) (fun f cdv A outer s H vs Q E hr h => ?_)
  · obtain ⟨a, b, rfl, _⟩ := h
    rfl
  · obtain ⟨a, ws, rfl, hS, h0, hb, hl, q⟩ := h
    refine ⟨_, (pss_cons (ps_set (i := 1) scShared.nd rfl (.inr rfl) (pe_callB (cr_sum rfl) (by rfl) T.m_sum (by decide +kernel) (pa_cons (pv 0) pa_nil)))
  (pss_one (ps_ret (pe_callTy call_tuple_of (by rfl) T.m_tuple (by decide +kernel) (pa_cons (pe_lc (own := [("one", 2)]) (g := gName 2) (tt := tYes) (by rfl) scShared.nd (pi_list (pv 0)) (blkOk_by (own := [("one", 2)]) (N := ["weights", "whole", "one"]) (sc := defScope sShared) (by decide +kernel)) (fun _ _ _ _ _ => (pg_name (i := 2) scShared.nd rfl (.inl rfl))) (fun _ _ _ _ _ => pts_nil) (fun _ _ _ _ _ => (pe_cC (ok_ratio T) hr (by decide) (by rfl) (pa_cons (pv 2) (pa_cons (pv 1) pa_nil))))) pa_nil))))), ?_⟩
    walk_at "wp"
    refine ⟨a, ws.map fun n : Nat => (n : Int), rfl, by rw [map_cast]; exact hS, ?_⟩
    rw [sum_cast]
    walk_at "wp"
    refine ⟨⟨_, hS⟩, fun L hL => ?_⟩
    refine lcL (ws.map fun n : Nat => V.int (n : Int)) (fun i H' => ∃ acc, H' L = some (.lst acc) ∧ acc.length = i ∧ Same H H' ∧ DpAll K H' acc ((ws.take i).map fun n => D2 (nf n ws.sum)))
      ⟨[], upd_same, rfl, Same.upd hL, .nil⟩ (fun i H' _ ⟨acc, _, _, s1, _⟩ => s1.seq hS) ?_ ?_
    · rintro i x H' hx ⟨acc, hacc, hlen, s1, hA⟩
      rw [List.getElem?_map] at hx
      cases hy : ws[i]? with
      | none => rw [hy] at hx; cases hx
      | some n =>
        rw [hy] at hx
        cases hx
        walk_at "wp"
        refine ⟨n, ws.sum, rfl, h0, Nat.lt_trans hb (Nat.pow_lt_pow_right (by decide) (by decide)), fun p hp => ?_⟩
        have np : L ≠ p := ne_of_none hacc hp
        have hi : i < ws.length := (List.getElem?_eq_some_iff.mp hy).1
        refine ⟨acc, by rw [upd_ne np]; exact hacc, small1000 (by omega), acc ++ [.ref p], upd_same, by rw [List.length_append, hlen]; rfl, ?_, ?_⟩
        · intro b o e
          have hbL : b ≠ L := ne_of_none e hL
          rw [upd_ne hbL]
          exact Same.upd hp _ _ (s1 _ _ e)
        · have t1 : Same H' (upd H' p (.tup (pairV (nf n ws.sum)))) := Same.upd hp
          have t2 : TSame (upd H' p (.tup (pairV (nf n ws.sum)))) (upd (upd H' p (.tup (pairV (nf n ws.sum)))) L (.lst (acc ++ [.ref p]))) := TSame.upd (by rw [upd_ne np]; exact hacc) rfl
          rw [take_more hy, List.map_append]
          refine dpAll_app (dpAll_one (dp_keep t2 _ rfl dp_new)) (dpAll_keep t2 _ (tOnlyA_of ?_) (dpAll_same t1 _ hA))
          intro d hd
          obtain ⟨m, _, rfl⟩ := List.mem_map.mp hd
          rfl
    · rintro H' ⟨acc, hacc, hlen, s1, hA⟩
      walk_at "wp"
      rw [List.length_map, List.take_length] at hA
      refine ⟨acc, .inl ⟨sqL_of hacc, fun p hp => ?_⟩⟩
      exact q _ _ (s1.trans (Same.upd hp)) (.tup (sqT_of upd_same) (dpAll_same (Same.upd hp) _ hA))
end
end K73
namespace K73
open PySem PySem.Spec PyProof.Rows L2 Ly
section
variable {P : Program} {w : World} {K : PySem.W.Frag} {mg : Str → Option Value} {base : Heap}
theorem cmul_r {i j : Int} (h : -(2 ^ 64) < j ∧ j < 2 ^ 64) : CMul i j := .inr h
def spMixed : Sp := fun vs H Q _ => ∃ c k : Int, vs = [.int c, .int k] ∧ ∀ r : Int, 0 ≤ r → r < 2147483647 → Q (.int r) H
theorem ok_law_mixed (T : Txt K mg) : C0 P w K mg base 1 "_law_mixed" spMixed := by
  refine C0.mk' T.d13 scLawMixed (fun vs H Q E h => ?_) (fun f cdv A outer s H vs Q E hr h => ?_)
  · obtain ⟨a, b, rfl, _⟩ := h
    rfl
  · obtain ⟨c, k, rfl, q⟩ := h
    refine ⟨_, (pss_cons (ps_set (i := 2) scLawMixed.nd rfl (.inl rfl) (pe_op op_add (pe_op op_add (pe_op op_mul (pe_callTy call_int1 (by rfl) T.m_int (by decide +kernel) (pa_cons (pv 0) pa_nil)) pe_int) (pe_op op_mul (pv 1) pe_int)) pe_int))
  (pss_one (ps_ret (pe_op op_mod (pe_callTy call_int1 (by rfl) T.m_int (by decide +kernel) (pa_cons (pe_op op_add (pe_op op_mul (pv 2) pe_int) (pe_op op_fdiv (pv 2) pe_int)) pa_nil)) pe_int)))), ?_⟩
    walk_at "wp"
    refine ⟨cmul_r (by decide), cmul_r (by decide), cmul_r (by decide), ⟨by decide, by decide⟩, ?_⟩
    exact ⟨by decide, q _ (Int.emod_nonneg _ (by decide)) (Int.emod_lt_of_pos _ (by decide))⟩
def spRow : Sp := fun vs H Q _ => ∃ (c : Int) (n t : Nat), vs = [.int c, .int n, .int t] ∧ n ≤ 1000 ∧ 0 < t ∧ t < 1073741824 ∧
  ∀ H' L, ∀ ds : List Nat, Same H H' → H L = none → H' L = some (.lst (ds.map fun d : Nat => V.int (d : Int))) → ds.length = n → (∀ d ∈ ds, d < t) → Q (.ref L) H'
theorem ok_law_row (T : Txt K mg) : C0 P w K mg base 2 "_law_row" spRow := by
  refine C0.mk' T.d14 scLawRow (fun vs H Q E h => ?_) (fun f cdv A outer s H vs Q E hr h => ?_)
  · obtain ⟨a, b, _, rfl, _⟩ := h
    rfl
  · obtain ⟨c, n, t, rfl, hn, ht, ht2, q⟩ := h
    refine ⟨_, (pss_cons (ps_set (i := 3) scLawRow.nd rfl (.inl rfl) (pe_lst pa_nil))
  (pss_cons (ps_set (i := 4) scLawRow.nd rfl (.inl rfl) (pe_callTy call_int1 (by rfl) T.m_int (by decide +kernel) (pa_cons (pv 0) pa_nil)))
  (pss_cons (ps_set (i := 5) scLawRow.nd rfl (.inl rfl) (pe_cmpR op_ge (pv 4) pe_int (nomark _)))
  (pss_cons (ps_for PassesOwn.never rfl (pi_range1 (by rfl) T.m_range (pa_cons (pv 1) pa_nil)) (pg_name (i := 6) scLawRow.nd rfl (.inl rfl))
    (pss_one (ps_if (pt_val (pv 5))
      (pss_cons (ps_expr (pe_bm PySem.F.plainAttrs_list PySem.F.slot_list_append PySem.F.type_list_append mt_append (pv 3) (pa_cons (pe_op op_mod (pe_callTy call_int1 (by rfl) T.m_int (by decide +kernel) (pa_cons (pv 4) pa_nil)) (pv 2)) pa_nil)))
      (pss_one (ps_set (i := 4) scLawRow.nd rfl (.inl rfl) (pe_op op_fdiv (pv 4) (pv 2)))))
      (pss_one (ps_expr (pe_bm PySem.F.plainAttrs_list PySem.F.slot_list_append PySem.F.type_list_append mt_append (pv 3) (pa_cons (pe_op op_mod (pe_op op_fdiv (pe_cC (ok_law_mixed T) hr (by decide) (by rfl) (pa_cons (pv 0) (pa_cons (pv 6) pa_nil))) pe_int) (pv 2)) pa_nil)))))))
  (pss_one (ps_ret (pv 3))))))), ?_⟩
    walk_at "wp"
    refine ⟨by decide, fun L hL => ⟨by omega, by omega, ?_⟩⟩
    rw [Int.toNat_natCast]
    refine forR n (fun i σ H' => ∃ l y, ∃ ds : List Nat, σ = [some (.int c), some (.int n), some (.int t), some (.ref L), some (.int l), some (.bl (decide (1000000000000000000 ≤ c))), y] ∧ Same H H' ∧ H' L = some (.lst (ds.map fun d : Nat => V.int (d : Int))) ∧ ds.length = i ∧ ∀ d ∈ ds, d < t)
      ⟨c, none, [], rfl, Same.upd hL, upd_same, rfl, fun _ h => nomatch h⟩ ?_ ?_
    · rintro i σ H' hi ⟨l, y, ds, rfl, s1, hds, hlen, hb⟩
      have turn : ∀ m : Int, 0 ≤ m → m < t → Same H (upd H' L (.lst (ds.map (fun d : Nat => V.int (d : Int)) ++ [.int m]))) ∧ ∃ ds' : List Nat, (upd H' L (.lst (ds.map (fun d : Nat => V.int (d : Int)) ++ [.int m]))) L = some (.lst (ds'.map fun d : Nat => V.int (d : Int))) ∧ ds'.length = i + 1 ∧ ∀ d ∈ ds', d < t := by
        intro m h0 h1
        refine ⟨fun b o e => ?_, ds ++ [m.toNat], ?_, by rw [List.length_append, hlen]; rfl, fun d hd => ?_⟩
        · rw [upd_ne (ne_of_none e hL)]
          exact s1 _ _ e
        · rw [upd_same, List.map_append]
          have e : ((m.toNat : Nat) : Int) = m := by omega
          simp only [List.map_cons, List.map_nil, e]
        · rcases List.mem_append.mp hd with h | h
          · exact hb d h
          · rw [List.mem_singleton.mp h]
            omega
      have hz : (ds.map fun d : Nat => V.int (d : Int)).length < sizeLine := small1000 (by rw [List.length_map]; omega)
      walk_at "wp"
      refine ite2 (fun hg => ?_) (fun hg => ?_)
      · refine ⟨⟨_, sqL_of hds⟩, ?_⟩
        refine ⟨by omega, _, hds, hz, ⟨by omega, by omega⟩, ?_⟩
        exact turn _ (Int.emod_nonneg _ (by omega)) (Int.emod_lt_of_pos _ (by omega))
      · refine ⟨⟨_, sqL_of hds⟩, c, i, rfl, fun r h0 h1 => ?_⟩
        walk_at "wp"
        refine ⟨⟨by decide, by decide⟩, by omega, _, hds, hz, ?_⟩
        exact turn _ (Int.emod_nonneg _ (by omega)) (Int.emod_lt_of_pos _ (by omega))
    · rintro σ H' ⟨l, y, ds, rfl, s1, hds, hlen, hb⟩
      walk_at "wp"
      exact q H' L ds s1 hL hds hlen hb
def spAt (K : PySem.W.Frag) : Sp := fun vs H Q _ => ∃ a, ∃ ns : List Int, ∃ k : Nat, vs = [.ref a, .int k] ∧ SqL K H a (ns.map V.int) ∧ ∀ r : Int, Q (.int r) H
theorem ok_law_at (T : Txt K mg) : C0 P w K mg base 1 "_law_at" (spAt K) := by
  refine C0.mk' T.d15 scLawAt (fun vs H Q E h => ?_) (fun f cdv A outer s H vs Q E hr h => ?_)
  · obtain ⟨a, b, _, rfl, _⟩ := h
    rfl
  · obtain ⟨a, ns, k, rfl, hS, q⟩ := h
    refine ⟨_, (pss_cons (ps_if (pt_cmpR op_lt (pv 1) (pe_callB call_len_seq (by rfl) T.m_len (by decide +kernel) (pa_cons (pv 0) pa_nil)) (nomark _))
    (pss_one (ps_ret (pe_callTy call_int1 (by rfl) T.m_int (by decide +kernel) (pa_cons (pe_ix ix_list (pv 0) (pv 1) (fun _ _ => rfl)) pa_nil))))
    pss_nil)
  (pss_one (ps_ret (pe_op op_add pe_int (pe_op op_mul pe_int (pv 1)))))), ?_⟩
    walk_at "wp"
    refine ⟨_, .inl hS, ?_⟩
    walk_at "wp"
    refine ite2 (fun h => ?_) (fun h => ?_)
    · have hk : k < ns.length := by
        rw [List.length_map] at h
        omega
      refine ⟨_, hS, .int ns[k], atI_nat (by rw [List.getElem?_map, List.getElem?_eq_getElem hk]; rfl), ?_⟩
      walk_at "wp"
      exact q _
    · exact ⟨.inl (by decide), q _⟩
def spLawRatio : Sp := fun vs H Q _ => ∃ a b : Nat, vs = [.int a, .int b] ∧ 0 < b ∧ b < 2 ^ 199 ∧ ∀ p, H p = none → Q (.ref p) (upd H p (.tup (pairV (nf a b))))
theorem ok_law_ratio (T : Txt K mg) : C0 P w K mg base 1 "_law_ratio" spLawRatio := by
  refine C0.mk' T.d16 scLawRatio (fun vs H Q E h => ?_) (fun f cdv A outer s H vs Q E hr h => ?_)
  · obtain ⟨a, b, rfl, _⟩ := h
    rfl
  · obtain ⟨a, b, rfl, hb, hb2, q⟩ := h
    refine ⟨_, (pss_cons (ps_set (i := 2) scLawRatio.nd rfl (.inl rfl) (pv 0))
  (pss_cons (ps_set (i := 3) scLawRatio.nd rfl (.inl rfl) (pv 1))
  (pss_cons (ps_for PassesOwn.never rfl (pi_range1 (by rfl) T.m_range (pa_cons pe_int pa_nil)) (pg_name (i := 4) scLawRatio.nd rfl (.inl rfl))
    (pss_one (ps_if (pt_cmpR op_ne (pv 3) pe_int (nomark _))
      (pss_one (ps_par (i := 2) (j := 3) (by rfl) scLawRatio.nd rfl rfl (by decide) rfl rfl (pa_cons (pv 3) (pa_cons (pe_op op_mod (pe_callTy call_int1 (by rfl) T.m_int (by decide +kernel) (pa_cons (pv 2) pa_nil)) (pv 3)) pa_nil)) (by rfl)))
      pss_nil)))
  (pss_one (ps_ret (pe_tup (pa_cons (pe_op op_fdivW (pv 0) (pv 2)) (pa_cons (pe_op op_fdivW (pv 1) (pv 2)) pa_nil)))))))), ?_⟩
    walk_at "wp"
    refine ⟨by decide, by decide, ?_⟩
    rw [show (400 : Int).toNat = 400 from rfl]
    refine forR 400 (fun i σ H' => ∃ y, σ = [some (.int a), some (.int b), some (.int (eus i (a, b)).1), some (.int (eus i (a, b)).2), y] ∧ H' = H) ⟨none, rfl, rfl⟩ ?_ ?_
    · rintro i σ H' hi ⟨y, rfl, rfl⟩
      walk_at "wp"
      have e : eus (i + 1) (a, b) = eu (eus i (a, b)) := rfl
      rw [e]
      generalize eus i (a, b) = st
      obtain ⟨x, z⟩ := st
      refine ite2 (fun h => ?_) (fun h => ?_)
      · have e2 : eu (x, z) = (z, x % z) := if_neg (by intro h2; exact h (by rw [show z = 0 from h2]; rfl))
        rw [e2]
        refine ⟨by simp only at h; omega, ?_⟩
        simp
      · have e2 : eu (x, z) = (x, z) := if_pos (by simp only at h; show z = 0; omega)
        rw [e2]
        simp
    · rintro σ H' ⟨y, rfl, rfl⟩
      have hbb : b * b < 2 ^ 399 := Nat.lt_trans (Nat.mul_lt_mul'' hb2 hb2) (by rw [← Nat.pow_add]; exact Nat.pow_lt_pow_right (by decide) (by decide))
      rw [eus_done hb hbb]
      walk_at "wp"
      have hw : CDivW a (Nat.gcd a b : Nat) := wide_div (b := 199) (by have := gcd_pos_r (a := a) hb; omega) (Nat.lt_of_le_of_lt (Nat.gcd_le_right _ hb) hb2) (by decide) (by decide)
      exact ⟨hw, hw, by decide, q⟩
def spFlag : Sp := fun vs H Q _ => ∃ a b : Bool, vs = [.bl a, .bl b] ∧ Q (.bl (a == b)) H
theorem ok_law_flag (T : Txt K mg) : C0 P w K mg base 1 "_law_flag" spFlag := by
  refine C0.mk' T.d17 scLawFlag (fun vs H Q E h => ?_) (fun f cdv A outer s H vs Q E hr h => ?_)
  · obtain ⟨a, b, rfl, _⟩ := h
    rfl
  · obtain ⟨a, b, rfl, q⟩ := h
    refine ⟨_, (pss_cons (ps_if (pt_val (pv 1))
    (pss_one (ps_ret (pe_cmpR op_is_bl (pv 0) pe_bl (nomark _))))
    pss_nil)
  (pss_one (ps_ret (pe_cmpR op_is_bl (pv 0) pe_bl (nomark _))))), ?_⟩
    walk_at "wp"
    cases b with
    | true =>
      walk_at "wp"
      cases a <;> exact q
    | false =>
      walk_at "wp"
      cases a <;> exact q
end
end K73
namespace K73
open PySem PySem.Spec PyProof.Rows L2 Ly
def dgs (ds : List Nat) : List V := ds.map fun d : Nat => V.int (d : Int)
theorem dg_at {ds : List Nat} {k : Nat} (h : k < ds.length) : atI (dgs ds) (k : Int) = some (.int ((ds.getD k 0 : Nat) : Int)) :=
  atI_nat (by unfold dgs; rw [List.getElem?_map, List.getD_eq_getElem?_getD, List.getElem?_eq_getElem h]; rfl)
theorem dg_lt {ds : List Nat} {k t : Nat} (hb : ∀ d ∈ ds, d < t) (h : k < ds.length) : ds.getD k 0 < t := by
  rw [List.getD_eq_getElem?_getD, List.getElem?_eq_getElem h]
  exact hb _ (List.getElem_mem h)
theorem pt_nf {a b : Nat} (ha : a ≤ 2 ^ 10) (hb : b ≤ 2 ^ 10) (h0 : 0 < b) : Pt (nf a b) := ⟨nf_pos h0, Nat.le_trans (nf_le1 _ _) ha, Nat.le_trans (nf_le2 _ _) hb⟩
theorem isRat_D2 {a b : Nat} (h0 : 0 < b) : isRat (D2 (nf a b)) = true := by
  have h1 := nf_pos (a := a) h0
  have h2 := nf_idem (a := a) h0
  unfold D2 isRat
  generalize nf a b = p at *
  obtain ⟨x, y⟩ := p
  simp only at h1 h2 ⊢
  simp only [Int.toNat_natCast, Bool.and_eq_true, decide_eq_true_eq]
  exact ⟨by omega, by omega, h2⟩
theorem dg_at2 {ds : List Nat} {k : Nat} {z : Int} (h : k < ds.length) (e : z = (k : Int)) : atI (dgs ds) z = some (.int ((ds.getD k 0 : Nat) : Int)) := by
  rw [e]
  exact dg_at h
theorem neD2 {K : PySem.W.Frag} {H : Hp} {u v : V} {x y : Nat × Nat} {Q : VK} (h1 : Dp K H u (D2 x)) (h2 : Dp K H v (D2 y)) (q : Q (.bl (!decide (x = y))) H) : rNeD K u v H Q :=
  ⟨D2 x, D2 y, h1, h2, shaped_D2 x, shaped_D2 y, by rw [eqv_D2]; exact q⟩
/-- what is known of the parts' list -/
def Parts (K : PySem.W.Frag) (H : Hp) (Lp : Addr) (ps : List (Nat × Nat)) : Prop := ∃ vp, H Lp = some (.lst vp) ∧ DpAll K H vp (ps.map D2)
theorem Parts.same {K : PySem.W.Frag} {H H' : Hp} {Lp : Addr} {ps : List (Nat × Nat)} (e : Same H H') (h : Parts K H Lp ps) : Parts K H' Lp ps := by
  obtain ⟨vp, h1, h2⟩ := h
  exact ⟨vp, e _ _ h1, dpAll_same e _ h2⟩
theorem tOnly_D2 (l : List (Nat × Nat)) : tOnlyA (l.map D2) = true := tOnlyA_of fun d hd => by
  obtain ⟨x, _, rfl⟩ := List.mem_map.mp hd
  rfl
theorem Parts.push {K : PySem.W.Frag} {H : Hp} {Lp : Addr} {ps : List (Nat × Nat)} {vp : List V} {v : V} {x : Nat × Nat} (g : H Lp = some (.lst vp)) (h : DpAll K H vp (ps.map D2)) (hv : Dp K H v (D2 x)) : Parts K (upd H Lp (.lst (vp ++ [v]))) Lp (ps ++ [x]) := by
  have t : TSame H (upd H Lp (.lst (vp ++ [v]))) := TSame.upd g rfl
  refine ⟨_, upd_same, ?_⟩
  rw [List.map_append]
  exact dpAll_app (dpAll_one (dp_keep t _ rfl hv)) (dpAll_keep t _ (tOnly_D2 ps) h)
theorem okRat_D2 {x : Nat × Nat} (h : x.2 < 2 ^ 1500) : okRat (D2 x) := by
  show ((x.2 : Nat) : Int) < 2 ^ 1500
  have := Int.ofNat_lt.mpr h
  simpa using this
theorem map_get {l : List (Nat × Nat)} {i : Nat} {d : PyData} (h : (l.map D2)[i]? = some d) : ∃ y, l[i]? = some y ∧ y ∈ l ∧ d = D2 y := by
  rw [List.getElem?_map] at h
  cases hy : l[i]? with
  | none => rw [hy] at h; cases h
  | some y =>
    rw [hy] at h
    cases h
    exact ⟨y, rfl, List.mem_of_getElem? hy, rfl⟩
theorem fold_lt {l : List (Nat × Nat)} (h : ∀ y ∈ l, Pt y) (hl : l.length ≤ 9) : (l.foldl stp (0, 1)).1 < 2 ^ 199 ∧ (l.foldl stp (0, 1)).2 < 2 ^ 199 ∧ 0 < (l.foldl stp (0, 1)).2 := by
  have hp : ∀ y ∈ l, 0 < y.2 := fun y hy => (h y hy).1
  have b1 := NN_lt (B := 10) fun y hy => (h y hy).2
  have b2 := DD_lt (B := 10) fun y hy => (h y hy).2.2
  have b3 := DD_pos hp
  have e : 2 ^ (10 * l.length) ≤ 2 ^ 90 := Nat.pow_le_pow_right (by decide) (by omega)
  have e2 : l.length * 2 ^ (10 * l.length) ≤ 9 * 2 ^ 90 := Nat.mul_le_mul hl e
  rw [fold_stp]
  simp only [Nat.zero_mul, Nat.zero_add, Nat.one_mul]
  refine ⟨Nat.lt_of_le_of_lt (Nat.le_trans b1 e2) (by decide), Nat.lt_of_le_of_lt (Nat.le_trans b2 e) (by decide), b3⟩
theorem lt1500 {n : Nat} (h : n < 2 ^ 199) : n < 2 ^ 1500 := Nat.lt_trans h (Nat.pow_lt_pow_right (by decide) (by decide))
theorem dpAll_rev {K : PySem.W.Frag} {H : Hp} : ∀ {ds : List PyData} {vs : List V}, DpAll K H vs ds → DpAll K H vs.reverse ds.reverse
  | [], _, h => by cases h; exact .nil
  | d :: ds, _, h => by
    cases h with
    | cons h1 h2 =>
      rw [List.reverse_cons, List.reverse_cons]
      exact dpAll_app (dpAll_one h1) (dpAll_rev h2)
theorem mul_lt199 {x y : Nat × Nat} (hx : Pt x) (hy : Pt y) : 0 < x.2 * y.2 ∧ x.2 * y.2 < 2 ^ 199 :=
  ⟨Nat.mul_pos hx.1 hy.1, Nat.lt_of_le_of_lt (Nat.mul_le_mul hx.2.2 hy.2.2) (by decide)⟩
structure Fa (K : PySem.W.Frag) (Ld Lp : Addr) (ds : List Nat) (vp : List V) (ps : List (Nat × Nat)) (H : Hp) : Prop where
  d : H Ld = some (.lst (dgs ds))
  p : H Lp = some (.lst vp)
  A : DpAll K H vp (ps.map D2)
theorem Fa.same {K : PySem.W.Frag} {Ld Lp : Addr} {ds : List Nat} {vp : List V} {ps : List (Nat × Nat)} {H H' : Hp} (f : Fa K Ld Lp ds vp ps H) (e : Same H H') : Fa K Ld Lp ds vp ps H' := ⟨e _ _ f.d, e _ _ f.p, dpAll_same e _ f.A⟩
theorem canLayA {l : List (Nat × Nat)} : PyData.canLayAll0 (l.map D2) = true := by
  induction l with
  | nil => rfl
  | cons x l ih =>
    show (PyData.canLay0 (D2 x) && PyData.canLayAll0 (l.map D2)) = true
    rw [ih]
    rfl
theorem depthA (l : List (Nat × Nat)) : PyData.depthAll (l.map D2) ≤ 1 + 1 := by
  induction l with
  | nil => decide
  | cons x l ih =>
    show max (PyData.depth (D2 x)) (PyData.depthAll (l.map D2)) ≤ 1 + 1
    exact Nat.max_le.mpr ⟨Nat.le_succ 1, ih⟩
theorem shaped_tup (l : List (Nat × Nat)) : SeqAt.shaped (.tuple (l.map D2)) = true := by
  unfold SeqAt.shaped
  have h1 : PyData.canLay0 (.tuple (l.map D2)) = true := canLayA
  have h2 : PyData.depth (.tuple (l.map D2)) ≤ 64 := by
    have := depthA l
    show PyData.depthAll (l.map D2) + 1 ≤ 64
    omega
  rw [h1, decide_eq_true h2]
  rfl
theorem neSelf {K : PySem.W.Frag} {H : Hp} {u v : V} {d : PyData} {Q : VK} (h1 : Dp K H u d) (h2 : Dp K H v d) (hs : SeqAt.shaped d = true) (q : Q (.bl false) H) : rNeD K u v H Q :=
  ⟨d, d, h1, h2, hs, hs, by rw [SeqAt.eqv_refl d (SeqAt.canLay_of_shaped hs)]; exact q⟩
theorem cut_dgs {ds : List Nat} {m : Nat} (h : 1 + m ≤ ds.length) : cutV (dgs ds) (some 1) (some (1 + (m : Int))) = dgs ((ds.drop 1).take m) := by
  have hl : (dgs ds).length = ds.length := by unfold dgs; rw [List.length_map]
  unfold cutV
  rw [hl, show HT.sIx ds.length 0 (some 1) = min 1 ds.length from HT.sIx_nat ds.length 0 1, show (1 + (m : Int)) = ((1 + m : Nat) : Int) by omega, HT.sIx_nat,
    show min (1 + m) ds.length - min 1 ds.length = m by omega, show min 1 ds.length = 1 by omega]
  unfold dgs
  rw [List.map_take, List.map_drop]
theorem sum_le {b : Nat} : ∀ {l : List Nat}, (∀ d ∈ l, d ≤ b) → l.sum ≤ b * l.length
  | [], _ => by simp
  | x :: l, h => by
    have h1 := h x (List.mem_cons_self ..)
    have h2 := sum_le (l := l) fun d hd => h d (List.mem_cons_of_mem _ hd)
    rw [List.sum_cons, List.length_cons, Nat.mul_add, Nat.mul_one]
    omega
theorem stepT {K : PySem.W.Frag} {H : Hp} {p : Addr} {xs vs : List V} {ds es : List PyData} (c : DpAll K H vs es) (hp : H p = none) (h : DpAll K (upd H p (.tup xs)) xs ds) : DpAll K (upd H p (.tup xs)) (vs ++ [.ref p]) (es ++ [.tuple ds]) :=
  dpAll_app (dpAll_one (.tup (sqT_of upd_same) h)) (dpAll_same (Same.upd hp) _ c)
theorem stepL {K : PySem.W.Frag} {H : Hp} {p : Addr} {xs vs : List V} {ds es : List PyData} (c : DpAll K H vs es) (hp : H p = none) (h : DpAll K (upd H p (.lst xs)) xs ds) : DpAll K (upd H p (.lst xs)) (vs ++ [.ref p]) (es ++ [.list ds]) :=
  dpAll_app (dpAll_one (.lst (sqL_of upd_same) h)) (dpAll_same (Same.upd hp) _ c)
def badD : List PyData := [.none, .tuple [.int 1], .tuple [.int 2, .int 4], .tuple [.int 0, .int 2], .tuple [.int 1, .int 0], .tuple [.int (0 - 1), .int 2], .list [.int 1, .int 2], .tuple [.bool true, .int 2], .tuple [.int 1, .int 2, .int 3], .tuple [.str "1", .int 2], .tuple [.int 3, .int (0 - 1)]]
theorem badD_no : ∀ d ∈ badD, isRat d = false ∧ okRat d := by
  intro d hd
  simp only [badD, List.mem_cons, List.not_mem_nil, or_false] at hd
  rcases hd with rfl | rfl | rfl | rfl | rfl | rfl | rfl | rfl | rfl | rfl | rfl <;> refine ⟨by first | rfl | decide, ?_⟩ <;> first | exact True.intro | (show (_ : Int) < 2 ^ 1500; exact Int.lt_of_lt_of_le (by decide : (_ : Int) < 1024) (by have : ((2 ^ 10 : Nat) : Int) ≤ ((2 ^ 1500 : Nat) : Int) := Int.ofNat_le.mpr (Nat.pow_le_pow_right (by decide) (by decide)); simpa using this))
theorem repl_end (i : Nat) : (List.replicate i true).map V.bl ++ [V.bl (decide True)] = V.bl true :: (List.replicate i true).map V.bl := by
  rw [List.map_replicate, show V.bl (decide True) = V.bl true from rfl]
  exact (List.replicate_succ' (n := i) (a := V.bl true)).symm.trans List.replicate_succ
section
variable {P : Program} {w : World} {K : PySem.W.Frag} {mg : Str → Option Value} {base : Heap}
def spLaw (K : PySem.W.Frag) : Sp := fun vs H Q _ => ∃ a, ∃ ns : List Int, vs = [.ref a] ∧ SqL K H a (ns.map V.int) ∧ ∀ H', Q (.bl true) H'
theorem ok_law {f : Addr} {fd : FuncData} (T : Txt K mg) (F : Fun K "law" "law" sLaw f fd) : FnOk P w K mg base CX0 5 f fd ["script"] (spLaw K) := by
  refine F.ok scLaw (fun vs H Q E h => ?_) (fun cdv A outer s H vs Q E hr h => ?_)
  · obtain ⟨a, b, rfl, _⟩ := h
    rfl
  · obtain ⟨a, ns, rfl, hS, q⟩ := h
    refine ⟨_, (pss_cons (ps_set (i := 1) scLaw.nd rfl (.inl rfl) (pe_cC (ok_law_row T) hr (by decide) (by rfl) (pa_cons (pe_cC (ok_law_at T) hr (by decide) (by rfl) (pa_cons (pv 0) (pa_cons pe_int pa_nil))) (pa_cons pe_int (pa_cons pe_int pa_nil)))))
      (pss_cons (ps_set (i := 2) scLaw.nd rfl (.inl rfl) (pe_lst pa_nil))
      (pss_cons (ps_for PassesOwn.never rfl (pi_range1 (by rfl) T.m_range (pa_cons (pe_op op_add pe_int (pe_op op_mod (pe_ix ix_list (pv 1) pe_int (fun _ _ => rfl)) pe_int)) pa_nil)) (pg_name (i := 3) scLaw.nd rfl (.inl rfl))
        (pss_cons (ps_set (i := 4) scLaw.nd rfl (.inl rfl) (pe_cC (ok_ratio T) hr (by decide) (by rfl) (pa_cons (pe_ix ix_list (pv 1) (pe_op op_add pe_int (pe_op op_mul pe_int (pv 3))) (fun _ _ => rfl)) (pa_cons (pe_op op_add pe_int (pe_ix ix_list (pv 1) (pe_op op_add pe_int (pe_op op_mul pe_int (pv 3))) (fun _ _ => rfl))) pa_nil))))
        (pss_cons (ps_if (PW.pt (pw_or (pt_cmpR (op_neD hr.units) (pv 4) (pe_cC (ok_law_ratio T) hr (by decide) (by rfl) (pa_cons (pe_ix ix_list (pv 1) (pe_op op_add pe_int (pe_op op_mul pe_int (pv 3))) (fun _ _ => rfl)) (pa_cons (pe_op op_add pe_int (pe_ix ix_list (pv 1) (pe_op op_add pe_int (pe_op op_mul pe_int (pv 3))) (fun _ _ => rfl))) pa_nil))) (nomark _)) (pw_or1 (pt_cmpR op_isnot_bl (pe_cC (ok_is_ratio T) hr (by decide) (by rfl) (pa_cons (pv 4) pa_nil)) pe_bl (nomark _)))))
          (pss_one (ps_ret pe_bl))
          pss_nil)
        (pss_one (ps_expr (pe_bm PySem.F.plainAttrs_list PySem.F.slot_list_append PySem.F.type_list_append mt_append (pv 2) (pa_cons (pv 4) pa_nil)))))))
      (pss_cons (ps_set (i := 5) scLaw.nd rfl (.inl rfl) pe_int)
      (pss_cons (ps_set (i := 6) scLaw.nd rfl (.inl rfl) pe_int)
      (pss_cons (ps_for PassesOwn.never rfl (pi_list (pv 2)) (pg_name (i := 4) scLaw.nd rfl (.inl rfl))
        (pss_cons (ps_set (i := 5) scLaw.nd rfl (.inl rfl) (pe_op op_add (pe_op op_mulW (pv 5) (pe_ix ix_tup (pv 4) pe_int (fun _ _ => rfl))) (pe_op op_mulW (pe_ix ix_tup (pv 4) pe_int (fun _ _ => rfl)) (pv 6))))
        (pss_one (ps_set (i := 6) scLaw.nd rfl (.inl rfl) (pe_op op_mulW (pv 6) (pe_ix ix_tup (pv 4) pe_int (fun _ _ => rfl)))))))
      (pss_cons (ps_if (PW.pt (pw_or (pt_cmpR (op_neD hr.units) (pe_cC (ok_total T) hr (by decide) (by rfl) (pa_cons (pv 2) pa_nil)) (pe_cC (ok_law_ratio T) hr (by decide) (by rfl) (pa_cons (pv 5) (pa_cons (pv 6) pa_nil))) (nomark _)) (pw_or (pt_cmpR (op_neD hr.units) (pe_cC (ok_total T) hr (by decide) (by rfl) (pa_cons (pe_revL (pv 2)) pa_nil)) (pe_cC (ok_total T) hr (by decide) (by rfl) (pa_cons (pv 2) pa_nil)) (nomark _)) (pw_or1 (pt_cmpR (op_neD hr.units) (pe_cC (ok_total T) hr (by decide) (by rfl) (pa_cons (pe_lst pa_nil) pa_nil)) (pe_tup (pa_cons pe_int (pa_cons pe_int pa_nil))) (nomark _))))))
        (pss_one (ps_ret pe_bl))
        pss_nil)
      (pss_cons (ps_for PassesOwn.never rfl (pi_list (pv 2)) (pg_name (i := 7) scLaw.nd rfl (.inl rfl))
        (pss_one (ps_for PassesOwn.never rfl (pi_list (pv 2)) (pg_name (i := 8) scLaw.nd rfl (.inl rfl))
          (pss_cons (ps_if (pt_cmpR (op_neD hr.units) (pe_cC (ok_plus T) hr (by decide) (by rfl) (pa_cons (pv 7) (pa_cons (pv 8) pa_nil))) (pe_cC (ok_law_ratio T) hr (by decide) (by rfl) (pa_cons (pe_op op_add (pe_op op_mulW (pe_ix ix_tup (pv 7) pe_int (fun _ _ => rfl)) (pe_ix ix_tup (pv 8) pe_int (fun _ _ => rfl))) (pe_op op_mulW (pe_ix ix_tup (pv 8) pe_int (fun _ _ => rfl)) (pe_ix ix_tup (pv 7) pe_int (fun _ _ => rfl)))) (pa_cons (pe_op op_mulW (pe_ix ix_tup (pv 7) pe_int (fun _ _ => rfl)) (pe_ix ix_tup (pv 8) pe_int (fun _ _ => rfl))) pa_nil))) (nomark _))
            (pss_one (ps_ret pe_bl))
            pss_nil)
          (pss_cons (ps_if (pt_cmpR (op_neD hr.units) (pe_cC (ok_times T) hr (by decide) (by rfl) (pa_cons (pv 7) (pa_cons (pv 8) pa_nil))) (pe_cC (ok_law_ratio T) hr (by decide) (by rfl) (pa_cons (pe_op op_mulW (pe_ix ix_tup (pv 7) pe_int (fun _ _ => rfl)) (pe_ix ix_tup (pv 8) pe_int (fun _ _ => rfl))) (pa_cons (pe_op op_mulW (pe_ix ix_tup (pv 7) pe_int (fun _ _ => rfl)) (pe_ix ix_tup (pv 8) pe_int (fun _ _ => rfl))) pa_nil))) (nomark _))
            (pss_one (ps_ret pe_bl))
            pss_nil)
          (pss_one (ps_if (pt_not (pt_val (pe_cC (ok_law_flag T) hr (by decide) (by rfl) (pa_cons (pe_cC (ok_is_more T) hr (by decide) (by rfl) (pa_cons (pv 7) (pa_cons (pv 8) pa_nil))) (pa_cons (pe_cmpR op_gt (pe_op op_mulW (pe_ix ix_tup (pv 7) pe_int (fun _ _ => rfl)) (pe_ix ix_tup (pv 8) pe_int (fun _ _ => rfl))) (pe_op op_mulW (pe_ix ix_tup (pv 8) pe_int (fun _ _ => rfl)) (pe_ix ix_tup (pv 7) pe_int (fun _ _ => rfl))) (nomark _)) pa_nil)))))
            (pss_one (ps_ret pe_bl))
            pss_nil)))))))
      (pss_cons (ps_set (i := 9) scLaw.nd rfl (.inr rfl) (pe_op op_cat (pe_callTy call_list_of (by rfl) T.m_list (by decide +kernel) (pa_cons (pe_slice sl_list (pv 1) (po_some pe_int) (po_some (pe_op op_add pe_int (pe_callB call_len_seq (by rfl) T.m_len (by decide +kernel) (pa_cons (pv 2) pa_nil))))) pa_nil)) (pe_lst (pa_cons pe_int pa_nil))))
      (pss_cons (ps_set (i := 10) scLaw.nd rfl (.inl rfl) (pe_cC (ok_shared T) hr (by decide) (by rfl) (pa_cons (pv 9) pa_nil)))
      (pss_cons (ps_if (PW.pt (pw_or (pt_cmpR (op_neD hr.units) (pv 10) (pe_callTy call_tuple_of (by rfl) T.m_tuple (by decide +kernel) (pa_cons (pe_lc (own := [("one", 7)]) (g := gName 7) (tt := tYes) (by rfl) scLaw.nd (pi_list (pv 9)) (blkOk_by (own := [("one", 7)]) (N := ["script", "digits", "parts", "k", "part", "over", "under", "one", "other", "weights", "told", "bad", "thing"]) (sc := defScope sLaw) (by decide +kernel)) (fun _ _ _ _ _ => (pg_name (i := 7) scLaw.nd rfl (.inl rfl))) (fun _ _ _ _ _ => pts_nil) (fun _ _ _ _ _ => (pe_cC (ok_law_ratio T) hr (by decide) (by rfl) (pa_cons (pv 7) (pa_cons (pe_callB (id := "sum") (r := rSum K) (cr_sum rfl) (by rfl) T.m_sum (by decide +kernel) (pa_cons (pv 9) pa_nil)) pa_nil))))) pa_nil)) (nomark _)) (pw_or1 (pt_cmpR (op_neD hr.units) (pe_cC (ok_total T) hr (by decide) (by rfl) (pa_cons (pe_callTy call_list_of (by rfl) T.m_list (by decide +kernel) (pa_cons (pv 10) pa_nil)) pa_nil)) (pe_tup (pa_cons pe_int (pa_cons pe_int pa_nil))) (nomark _)))))
        (pss_one (ps_ret pe_bl))
        pss_nil)
      (pss_cons (ps_set (i := 11) scLaw.nd rfl (.inl rfl) (pe_lst (pa_cons pe_non (pa_cons (pe_tup (pa_cons pe_int pa_nil)) (pa_cons (pe_tup (pa_cons pe_int (pa_cons pe_int pa_nil))) (pa_cons (pe_tup (pa_cons pe_int (pa_cons pe_int pa_nil))) (pa_cons (pe_tup (pa_cons pe_int (pa_cons pe_int pa_nil))) (pa_cons (pe_tup (pa_cons (pe_op op_sub pe_int pe_int) (pa_cons pe_int pa_nil))) (pa_cons (pe_lst (pa_cons pe_int (pa_cons pe_int pa_nil))) (pa_cons (pe_tup (pa_cons pe_bl (pa_cons pe_int pa_nil))) (pa_cons (pe_tup (pa_cons pe_int (pa_cons pe_int (pa_cons pe_int pa_nil)))) (pa_cons (pe_tup (pa_cons pe_str (pa_cons pe_int pa_nil))) (pa_cons (pe_tup (pa_cons pe_int (pa_cons (pe_op op_sub pe_int pe_int) pa_nil))) pa_nil)))))))))))))
      (pss_one (ps_ret (pe_and (pe_callB (cr_all rfl) (by rfl) T.m_all (by decide +kernel) (pa_cons (pe_lc (own := [("thing", 12)]) (g := gName 12) (tt := tYes) (by rfl) scLaw.nd (pi_list (pv 11)) (blkOk_by (own := [("thing", 12)]) (N := ["script", "digits", "parts", "k", "part", "over", "under", "one", "other", "weights", "told", "bad", "thing"]) (sc := defScope sLaw) (by decide +kernel)) (fun _ _ _ _ _ => (pg_name (i := 12) scLaw.nd rfl (.inl rfl))) (fun _ _ _ _ _ => pts_nil) (fun _ _ _ _ _ => (pe_cmpR op_is_bl (pe_cC (ok_is_ratio T) hr (by decide) (by rfl) (pa_cons (pv 12) pa_nil)) pe_bl (nomark _)))) pa_nil)) (pe_and (pe_cmpR op_is_bl (pe_cC (ok_is_ratio T) hr (by decide) (by rfl) (pa_cons (pe_tup (pa_cons pe_int (pa_cons pe_int pa_nil))) pa_nil)) pe_bl (nomark _)) (pe_one (pe_cmpR op_is_bl (pe_cC (ok_is_ratio T) hr (by decide) (by rfl) (pa_cons (pe_tup (pa_cons pe_int (pa_cons pe_int pa_nil))) pa_nil)) pe_bl (nomark _))))))))))))))))))), ?_⟩
    walk_at "wp"
    refine ⟨a, ns, 0, rfl, hS, fun r => ?_⟩
    walk_at "wp"
    refine ⟨r, 17, 60, rfl, by decide, by decide, by decide, fun H1 Ld ds s1 hLd0 hLd hlen hb => ?_⟩
    walk_at "wp"
    refine ⟨by decide, fun Lp hLp => ?_⟩
    have hne : Ld ≠ Lp := ne_of_none hLd hLp
    have hLd2 : (upd H1 Lp (.lst [])) Ld = some (.lst (dgs ds)) := by rw [upd_ne hne]; exact hLd
    refine ⟨_, sqL_of hLd2, _, dg_at (k := 0) (by omega), ?_⟩
    walk_at "wp"
    refine ⟨by decide, by omega, by omega, ?_⟩
    rw [show (1 + ((ds.getD 0 0 : Nat) : Int) % 8).toNat = 1 + ds.getD 0 0 % 8 by omega]
    have hm8 : 1 + ds.getD 0 0 % 8 ≤ 8 ∧ 1 ≤ 1 + ds.getD 0 0 % 8 := by omega
    generalize 1 + ds.getD 0 0 % 8 = m at *
    refine forR m (fun i σ H' => ∃ ps y3 y4, σ = [some (.ref a), some (.ref Ld), some (.ref Lp), y3, y4, none, none, none, none, none, none, none, none] ∧ H' Ld = some (.lst (dgs ds)) ∧ Parts K H' Lp ps ∧ ps.length = i ∧ ∀ y ∈ ps, Pt y) ⟨[], none, none, rfl, hLd2, ⟨[], upd_same, .nil⟩, rfl, fun _ h => nomatch h⟩ ?_ ?_
    · rintro i σ H' hi ⟨ps, y3, y4, rfl, gd, ⟨vp, gp, gA⟩, gl, gP⟩
      walk_at "wp"
      have i1 : 1 + 2 * i < ds.length := by omega
      have i2 : 2 + 2 * i < ds.length := by omega
      have b1 := dg_lt hb i1
      have b2 := dg_lt hb i2
      have a1 := dg_at2 (z := 1 + 2 * (i : Int)) i1 (by omega)
      have a2 := dg_at2 (z := 2 + 2 * (i : Int)) i2 (by omega)
      generalize ds.getD (1 + 2 * i) 0 = p at *
      generalize ds.getD (2 + 2 * i) 0 = q' at *
      refine ⟨.inl (by decide), _, sqL_of gd, _, a1, ?_⟩
      walk_at "wp"
      refine ⟨.inl (by decide), _, sqL_of gd, _, a2, ?_⟩
      walk_at "wp"
      refine ⟨p, 1 + q', by simp, by omega, Nat.lt_of_lt_of_le (m := 2 ^ 10) (by omega) (Nat.pow_le_pow_right (by decide) (by decide)), fun t1 ht1 => ?_⟩
      walk_at "wp"
      have e1 : Same H' (upd H' t1 (.tup (pairV (nf p (1 + q'))))) := Same.upd ht1
      refine ⟨.inl (by decide), _, sqL_of (e1 _ _ gd), _, a1, ?_⟩
      walk_at "wp"
      refine ⟨.inl (by decide), _, sqL_of (e1 _ _ gd), _, a2, ?_⟩
      walk_at "wp"
      refine ⟨p, 1 + q', by simp, by omega, Nat.lt_of_lt_of_le (m := 2 ^ 10) (by omega) (Nat.pow_le_pow_right (by decide) (by decide)), fun t2 ht2 => ?_⟩
      have e2 := Same.upd (o := .tup (pairV (nf p (1 + q')))) ht2
      have d1 : Dp K (upd H' t1 (.tup (pairV (nf p (1 + q'))))) (.ref t1) (D2 (nf p (1 + q'))) := dp_new
      refine neD2 (dp_same e2 _ d1) dp_new ?_
      walk_at "wp"
      have hr := isRat_D2 (a := p) (b := 1 + q') (by omega)
      refine ⟨_, _, rfl, dp_same e2 _ d1, okRat_D2 (pt_nf (a := p) (b := 1 + q') (by omega) (by omega) (by omega)).sm.2.2, fun H3 s3 => ?_⟩
      rw [hr]
      walk_at "wp"
      have e3 := (e1.trans e2).trans s3
      refine ⟨⟨_, sqL_of (e3 _ _ gp)⟩, _, e3 _ _ gp, small1000 ?_, ?_⟩
      · have := dpAll_len gA
        rw [List.length_map] at this
        omega
      · refine ⟨by rw [upd_ne hne]; exact e3 _ _ gd, ps ++ [nf p (1 + q')], Parts.push (e3 _ _ gp) (dpAll_same e3 _ gA) (dp_same (e2.trans s3) _ d1), by rw [List.length_append, gl]; rfl, fun y hy => ?_⟩
        rcases List.mem_append.mp hy with h | h
        · exact gP y h
        · rw [List.mem_singleton.mp h]
          exact pt_nf (by omega) (by omega) (by omega)
    · rintro σ H' ⟨ps, y3, y4, rfl, gd, ⟨vp, gp, gA⟩, gl, gP⟩
      walk_at "wp"
      have vlen : vp.length = ps.length := by
        have := dpAll_len gA
        rw [List.length_map] at this
        exact this
      refine ⟨⟨_, sqL_of gp⟩, ?_⟩
      refine forL vp (fun i σ H'' => H'' = H' ∧ ∃ y4, σ = [some (.ref a), some (.ref Ld), some (.ref Lp), y3, y4, some (.int ((ps.take i).foldl stp (0, 1)).1), some (.int ((ps.take i).foldl stp (0, 1)).2), none, none, none, none, none, none]) ⟨rfl, y4, rfl⟩ (fun i σ H'' _ ⟨e, _⟩ => by rw [e]; exact sqL_of gp) ?_ ?_
      · rintro i x σ H'' hx ⟨rfl, z4, rfl⟩
        obtain ⟨d, hd, hdp⟩ := dpAll_get gA hx
        obtain ⟨y, hy, hyl, rfl⟩ := map_get hd
        obtain ⟨t, rfl, ht⟩ := dp_D2 hdp
        have hf := fold_lt (l := ps.take i) (fun y hy => gP y (List.mem_of_mem_take hy)) (by rw [List.length_take]; omega)
        have hsm := (gP y hyl).sm
        rw [take_more hy, List.foldl_append]
        generalize (ps.take i).foldl stp (0, 1) = s at *
        walk_at "wp"
        walk_at "ix"
        refine ⟨mulW_of (lt1500 hf.1) hsm.2.2, ?_⟩
        walk_at "ix"
        refine ⟨mulW_of hsm.2.1 (lt1500 hf.2.1), ?_⟩
        walk_at "ix"
        refine ⟨mulW_of (lt1500 hf.2.1) hsm.2.2, ?_⟩
        simp only [List.foldl_cons, List.foldl_nil, stp, Int.natCast_add, Int.natCast_mul, and_self]
      · rintro σ H'' ⟨rfl, z4, rfl⟩
        have hf := fold_lt (l := ps) gP (by omega)
        have hst := stp_tot (l := ps) fun y hy => (gP y hy).1
        have htake : ps.take vp.length = ps := List.take_of_length_le (by omega)
        rw [htake]
        have hA : (∀ y ∈ ps, Pt y) ∧ ps.length ≤ 64 := ⟨gP, by omega⟩
        generalize ps.foldl stp (0, 1) = s at *
        walk_at "wp"
        -- total(parts) != _law_ratio(over, under)
        refine ⟨Lp, vp, ps, rfl, sqL_of gp, gA, hA.1, hA.2, fun H2 v1 s2 dv1 => ?_⟩
        refine ⟨s.1, s.2, rfl, hf.2.2, hf.2.1, fun t2 ht2 => ?_⟩
        rw [hst]
        have e2 := Same.upd (o := .tup (pairV (tot ps))) ht2
        refine neD2 (dp_same e2 _ dv1) dp_new ?_
        have s3 := s2.trans e2
        generalize upd H2 t2 (.tup (pairV (tot ps))) = H3 at *
        walk_at "wp"
        -- total(parts[::-1]) != total(parts)
        refine ⟨vp, sqL_of (s3 _ _ gp), fun p3 hp3 => ?_⟩
        have s4 := s3.trans (Same.upd (o := .lst vp.reverse) hp3)
        refine ⟨p3, vp.reverse, ps.reverse, rfl, sqL_of upd_same, by rw [List.map_reverse]; exact dpAll_rev (dpAll_same s4 _ gA), fun y hy => hA.1 y (List.mem_reverse.mp hy), by rw [List.length_reverse]; exact hA.2, fun H4 v4 t4 dv4 => ?_⟩
        rw [tot_rev fun y hy => (hA.1 y hy).1] at dv4
        have s5 := s4.trans t4
        refine ⟨Lp, vp, ps, rfl, sqL_of (s5 _ _ gp), dpAll_same s5 _ gA, hA.1, hA.2, fun H5 v5 t5 dv5 => ?_⟩
        refine neD2 (dp_same t5 _ dv4) dv5 ?_
        have s6 := s5.trans t5
        clear s5 s4 s3 s2 e2 dv1 dv4 dv5 t4 t5 ht2 hp3
        walk_at "wp"
        -- total([]) != (0, 1)
        refine ⟨by decide, fun p6 hp6 => ?_⟩
        have s7 := s6.trans (Same.upd (o := .lst []) hp6)
        refine ⟨p6, [], [], rfl, sqL_of upd_same, .nil, (fun _ h => nomatch h), by decide, fun H7 v7 t7 dv7 => ?_⟩
        have s8 := s7.trans t7
        refine ⟨by decide, fun p8 hp8 => ?_⟩
        have s9 := s8.trans (Same.upd (o := .tup [.int 0, .int 1]) hp8)
        refine neD2 (dp_same (Same.upd hp8) _ dv7) (dp_of_pair (x := (0, 1)) (sqT_of upd_same)) ?_
        rw [show tot [] = (0, 1) from rfl]
        have gd' := s9 _ _ gd
        have gp' := s9 _ _ gp
        have gA' := dpAll_same s9 _ gA
        generalize upd H7 p8 (.tup [.int 0, .int 1]) = H9 at *
        clear s9 s8 s7 s6 t7 dv7 hp6 hp8 gd gp gA
        walk_at "wp"
        -- one by one
        have fa : Fa K Ld Lp ds vp ps H9 := ⟨gd', gp', gA'⟩
        clear gd' gp' gA'
        refine ⟨⟨_, sqL_of fa.p⟩, ?_⟩
        refine forL vp (fun i σ H' => Fa K Ld Lp ds vp ps H' ∧ ∃ y7 y8, σ = [some (.ref a), some (.ref Ld), some (.ref Lp), y3, z4, some (.int s.1), some (.int s.2), y7, y8, none, none, none, none]) ⟨fa, none, none, rfl⟩ (fun i σ H' _ ⟨e, _⟩ => sqL_of e.p) ?_ ?_
        · rintro i x σ H' hx ⟨fa1, y7, y8, rfl⟩
          walk_at "wp"
          refine ⟨⟨_, sqL_of fa1.p⟩, ?_⟩
          obtain ⟨d, hd, hdp⟩ := dpAll_get fa1.A hx
          obtain ⟨y, hy, hyl, rfl⟩ := map_get hd
          obtain ⟨t, rfl, _⟩ := dp_D2 hdp
          refine forL vp (fun j σ H' => Fa K Ld Lp ds vp ps H' ∧ Dp K H' (.ref t) (D2 y) ∧ ∃ y8, σ = [some (.ref a), some (.ref Ld), some (.ref Lp), y3, z4, some (.int s.1), some (.int s.2), some (.ref t), y8, none, none, none, none]) ⟨fa1, hdp, y8, rfl⟩ (fun i σ H' _ ⟨e, _⟩ => sqL_of e.p) ?_ ?_
          · rintro j x2 σ H2 hx2 ⟨fa2, dt, y8, rfl⟩
            obtain ⟨d2, hd2, hdp2⟩ := dpAll_get fa2.A hx2
            obtain ⟨y2, hy2, hyl2, rfl⟩ := map_get hd2
            obtain ⟨t2, rfl, ht2⟩ := dp_D2 hdp2
            obtain ⟨t', e', ht⟩ := dp_D2 dt
            cases e'
            have P1 := hA.1 y hyl
            have P2 := hA.1 y2 hyl2
            obtain ⟨k1, k2⟩ := mul_lt199 P1 P2
            walk_at "wp"
            refine ⟨.ref t, .ref t2, y, y2, rfl, dt, hdp2, P1.sm, P2.sm, fun p1 hp1 => ?_⟩
            have s1 := Same.upd (o := .tup (pairV (pl y y2))) hp1
            have n1 : Dp K (upd H2 p1 (.tup (pairV (pl y y2)))) (.ref p1) (D2 (pl y y2)) := dp_new
            replace ht := Same.tup s1 ht
            replace ht2 := Same.tup s1 ht2
            replace fa2 := fa2.same s1
            generalize upd H2 p1 (.tup (pairV (pl y y2))) = H3 at *
            walk_at "ix"
            walk_at "ix"
            refine ⟨mulW_of P1.sm.2.1 P2.sm.2.2, ?_⟩
            walk_at "ix"
            walk_at "ix"
            refine ⟨mulW_of P2.sm.2.1 P1.sm.2.2, ?_⟩
            walk_at "ix"
            walk_at "ix"
            refine ⟨mulW_of P1.sm.2.2 P2.sm.2.2, ?_⟩
            refine ⟨y.1 * y2.2 + y2.1 * y.2, y.2 * y2.2, by simp, k1, k2, fun p2 hp2 => ?_⟩
            have s2 := Same.upd (o := .tup (pairV (nf (y.1 * y2.2 + y2.1 * y.2) (y.2 * y2.2)))) hp2
            refine neD2 (dp_same s2 _ n1) dp_new ?_
            replace ht := Same.tup s2 ht
            replace ht2 := Same.tup s2 ht2
            replace fa2 := fa2.same s2
            generalize upd H3 p2 (.tup (pairV (nf (y.1 * y2.2 + y2.1 * y.2) (y.2 * y2.2)))) = H4 at *
            clear n1 s2 s1 hp1 hp2 dt hdp2
            rw [show pl y y2 = nf (y.1 * y2.2 + y2.1 * y.2) (y.2 * y2.2) from rfl]
            walk_at "wp"
            refine ⟨.ref t, .ref t2, y, y2, rfl, dp_of_pair ht, dp_of_pair ht2, P1.sm, P2.sm, fun p1 hp1 => ?_⟩
            have s1 := Same.upd (o := .tup (pairV (nf (y.1 * y2.1) (y.2 * y2.2)))) hp1
            have n1 : Dp K (upd H4 p1 (.tup (pairV (nf (y.1 * y2.1) (y.2 * y2.2))))) (.ref p1) (D2 (nf (y.1 * y2.1) (y.2 * y2.2))) := dp_new
            replace ht := Same.tup s1 ht
            replace ht2 := Same.tup s1 ht2
            replace fa2 := fa2.same s1
            generalize upd H4 p1 (.tup (pairV (nf (y.1 * y2.1) (y.2 * y2.2)))) = H5 at *
            walk_at "ix"
            walk_at "ix"
            refine ⟨mulW_of P1.sm.2.1 P2.sm.2.1, ?_⟩
            walk_at "ix"
            walk_at "ix"
            refine ⟨mulW_of P1.sm.2.2 P2.sm.2.2, ?_⟩
            refine ⟨y.1 * y2.1, y.2 * y2.2, by simp, k1, k2, fun p2 hp2 => ?_⟩
            have s2 := Same.upd (o := .tup (pairV (nf (y.1 * y2.1) (y.2 * y2.2)))) hp2
            refine neD2 (dp_same s2 _ n1) dp_new ?_
            replace ht := Same.tup s2 ht
            replace ht2 := Same.tup s2 ht2
            replace fa2 := fa2.same s2
            generalize upd H5 p2 (.tup (pairV (nf (y.1 * y2.1) (y.2 * y2.2)))) = H6 at *
            walk_at "wp"
            refine ⟨.ref t, .ref t2, y, y2, rfl, dp_of_pair ht, dp_of_pair ht2, P1.sm, P2.sm, ?_⟩
            walk_at "ix"
            walk_at "ix"
            refine ⟨mulW_of P1.sm.2.1 P2.sm.2.2, ?_⟩
            walk_at "ix"
            walk_at "ix"
            refine ⟨mulW_of P2.sm.2.1 P1.sm.2.2, ?_⟩
            refine ⟨_, _, rfl, ?_⟩
            have e : (decide (y2.1 * y.2 < y.1 * y2.2) == decide ((y2.1 : Int) * (y.2 : Int) < (y.1 : Int) * (y2.2 : Int))) = true := by
              rw [← Int.natCast_mul, ← Int.natCast_mul]
              simp only [Int.ofNat_lt, beq_self_eq_true]
            rw [e]
            walk_at "wp"
            exact ⟨fa2, dp_of_pair ht⟩
          · rintro σ H2 ⟨fa2, dt, y8, rfl⟩
            walk_at "wp"
            exact fa2
        · rintro σ H' ⟨fa1, y7, y8, rfl⟩
          walk_at "sq"
          -- weights = list(digits[1:1 + len(parts)]) + [1]
          refine ⟨vp, .inl (sqL_of fa1.p), dgs ds, sqL_of fa1.d, fun pa hpa => ⟨dgs ((ds.drop 1).take m), .inl (sqL_of ?_), fun pb hpb => ⟨by decide, fun pc hpc => ⟨dgs ((ds.drop 1).take m), ?_, _, upd_same, ?_, fun pd hpd => ?_⟩⟩⟩⟩
          · rw [upd_same, vlen, gl, cut_dgs (by omega)]
          · rw [upd_ne (ne_of_none upd_same hpc), upd_same]
          · have : (dgs ((ds.drop 1).take m)).length ≤ 8 := by
              unfold dgs
              rw [List.length_map, List.length_take]
              omega
            have := small1000 (n := (dgs ((ds.drop 1).take m)).length + 1) (by omega)
            exact Nat.le_of_lt this
          have hw : dgs ((ds.drop 1).take m) ++ [.int 1] = dgs ((ds.drop 1).take m ++ [1]) := by
            unfold dgs
            rw [List.map_append]
            rfl
          have hwb : ∀ d ∈ (ds.drop 1).take m ++ [1], d ≤ 60 := fun d hd => by
            rcases List.mem_append.mp hd with h | h
            · exact Nat.le_of_lt (hb d (List.mem_of_mem_drop (List.mem_of_mem_take h)))
            · rw [List.mem_singleton.mp h]
              decide
          have hwl : ((ds.drop 1).take m ++ [1]).length ≤ 9 := by
            rw [List.length_append, List.length_take]
            show min m _ + 1 ≤ 9
            omega
          have hw0 : 0 < ((ds.drop 1).take m ++ [1]).sum := by
            rw [List.sum_append]
            show 0 < _ + 1
            omega
          have hws := sum_le hwb
          rw [hw]
          generalize (ds.drop 1).take m ++ [1] = ws at *
          have hsum : ws.sum ≤ 540 := by omega
          generalize hHW : upd _ pd (.lst (dgs ws)) = HW
          have gw : HW pd = some (.lst (dgs ws)) := by rw [← hHW]; exact upd_same
          clear hHW hpd hpc hpb hpa fa1
          walk_at "sq"
          -- told = shared(weights)
          refine ⟨pd, ws, rfl, sqL_of gw, hw0, lt1500 (Nat.lt_of_le_of_lt hsum (by decide)), by omega, fun H2 v2 s2 dv2 => ?_⟩
          have gw2 := s2 _ _ gw
          walk_at "sq"
          refine ⟨⟨_, sqL_of gw2⟩, fun L hL => ?_⟩
          have hmap : (ws.map fun n => D2 (nf n ws.sum)) = (ws.map fun n => nf n ws.sum).map D2 := by
            rw [List.map_map]
            rfl
          rw [hmap] at dv2
          refine lcL (dgs ws) (fun i H' => ∃ acc, H' L = some (.lst acc) ∧ acc.length = i ∧ Same H2 H' ∧ DpAll K H' acc (((ws.take i).map fun n => nf n ws.sum).map D2))
            ⟨[], upd_same, rfl, Same.upd hL, .nil⟩ (fun i H' _ ⟨acc, _, _, s1, _⟩ => sqL_of (s1 _ _ gw2)) ?_ ?_
          · rintro i x H' hx ⟨acc, hacc, hlen, s1, hAc⟩
            have hy : ∃ n, ws[i]? = some n ∧ x = .int (n : Int) := by
              unfold dgs at hx
              rw [List.getElem?_map] at hx
              cases hy : ws[i]? with
              | none => rw [hy] at hx; cases hx
              | some n => rw [hy] at hx; cases hx; exact ⟨n, rfl, rfl⟩
            obtain ⟨n, hy, rfl⟩ := hy
            have hi : i < ws.length := (List.getElem?_eq_some_iff.mp hy).1
            walk_at "w1"
            refine ⟨pd, ws.map fun n : Nat => (n : Int), rfl, by rw [map_cast]; exact sqL_of (s1 _ _ gw2), ?_⟩
            rw [sum_cast]
            refine ⟨n, ws.sum, rfl, hw0, Nat.lt_of_le_of_lt hsum (by decide), fun p hp => ?_⟩
            have np : L ≠ p := ne_of_none hacc hp
            refine ⟨acc, by rw [upd_ne np]; exact hacc, small1000 (by omega), acc ++ [.ref p], upd_same, by rw [List.length_append, hlen]; rfl, ?_, ?_⟩
            · intro b o e
              have hbL : b ≠ L := ne_of_none e hL
              rw [upd_ne hbL]
              exact Same.upd hp _ _ (s1 _ _ e)
            · have t1 : Same H' (upd H' p (.tup (pairV (nf n ws.sum)))) := Same.upd hp
              have t2 : TSame (upd H' p (.tup (pairV (nf n ws.sum)))) (upd (upd H' p (.tup (pairV (nf n ws.sum)))) L (.lst (acc ++ [.ref p]))) := TSame.upd (by rw [upd_ne np]; exact hacc) rfl
              rw [take_more hy, List.map_append, List.map_append]
              exact dpAll_app (dpAll_one (dp_keep t2 _ rfl dp_new)) (dpAll_keep t2 _ (tOnly_D2 _) (dpAll_same t1 _ hAc))
          · rintro H3 ⟨acc, hacc, hlen, s3, hAc⟩
            rw [show (dgs ws).length = ws.length by unfold dgs; rw [List.length_map], List.take_length] at hAc
            walk_at "w1"
            refine ⟨acc, .inl ⟨sqL_of hacc, fun p4 hp4 => ?_⟩⟩
            have s4 := s3.trans (Same.upd (o := .tup acc) hp4)
            refine neSelf (dp_same s4 _ dv2) (.tup (sqT_of upd_same) (dpAll_same (Same.upd hp4) _ hAc)) (shaped_tup _) ?_
            generalize upd H3 p4 (.tup acc) = H4 at *
            clear hAc hacc hp4
            walk_at "w1"
            have dv4 := dp_same s4 _ dv2
            cases dv4 with
            | @tup tt us _ hsu hau =>
            cases dv2 with
            | @tup _ _ _ _ _ =>
            walk_at "w1"
            refine ⟨us, .inr hsu, fun l hl => ?_⟩
            refine ⟨l, us, ws.map fun n => nf n ws.sum, rfl, sqL_of upd_same, dpAll_same (Same.upd hl) _ hau, fun y hy => ?_, by rw [List.length_map]; omega, fun H5 v5 s5 dv5 => ?_⟩
            · obtain ⟨n, hn, rfl⟩ := List.mem_map.mp hy
              have := hwb n hn
              exact pt_nf (by omega) (by omega) hw0
            rw [shared_one hw0] at dv5
            refine ⟨by decide, fun p hp => neD2 (dp_same (Same.upd hp) _ dv5) (dp_of_pair (x := (1, 1)) (sqT_of upd_same)) ?_⟩
            generalize upd H5 p (.tup [.int 1, .int 1]) = H6 at *
            clear dv5 s5 hp hl hau hsu s4 s3 s2 gw2 gw
            walk_at "w1"
            walk_at "sq"
            -- bad = [..]
            have c0 : DpAll K H6 [.non] [.none] := .cons .non .nil
            refine ⟨by decide, fun q1 hq1 => ?_⟩
            have c1 := stepT (xs := [.int 1]) c0 hq1 (.cons (.int 1) .nil)
            generalize upd H6 q1 (.tup [.int 1]) = G1 at *
            clear c0 hq1
            refine ⟨by decide, fun q2 hq2 => ?_⟩
            have c2 := stepT (xs := [.int 2, .int 4]) c1 hq2 (.cons (.int 2) (.cons (.int 4) .nil))
            generalize upd G1 q2 (.tup [.int 2, .int 4]) = G2 at *
            clear c1 hq2
            refine ⟨by decide, fun q3 hq3 => ?_⟩
            have c3 := stepT (xs := [.int 0, .int 2]) c2 hq3 (.cons (.int 0) (.cons (.int 2) .nil))
            generalize upd G2 q3 (.tup [.int 0, .int 2]) = G3 at *
            clear c2 hq3
            refine ⟨by decide, fun q4 hq4 => ?_⟩
            have c4 := stepT (xs := [.int 1, .int 0]) c3 hq4 (.cons (.int 1) (.cons (.int 0) .nil))
            generalize upd G3 q4 (.tup [.int 1, .int 0]) = G4 at *
            clear c3 hq4
            refine ⟨by decide, fun q5 hq5 => ?_⟩
            have c5 := stepT (xs := [.int (0 - 1), .int 2]) c4 hq5 (.cons (.int (0 - 1)) (.cons (.int 2) .nil))
            generalize upd G4 q5 (.tup [.int (0 - 1), .int 2]) = G5 at *
            clear c4 hq5
            refine ⟨by decide, fun q6 hq6 => ?_⟩
            have c6 := stepL (xs := [.int 1, .int 2]) c5 hq6 (.cons (.int 1) (.cons (.int 2) .nil))
            generalize upd G5 q6 (.lst [.int 1, .int 2]) = G6 at *
            clear c5 hq6
            refine ⟨by decide, fun q7 hq7 => ?_⟩
            have c7 := stepT (xs := [.bl true, .int 2]) c6 hq7 (.cons (.bl true) (.cons (.int 2) .nil))
            generalize upd G6 q7 (.tup [.bl true, .int 2]) = G7 at *
            clear c6 hq7
            refine ⟨by decide, fun q8 hq8 => ?_⟩
            have c8 := stepT (xs := [.int 1, .int 2, .int 3]) c7 hq8 (.cons (.int 1) (.cons (.int 2) (.cons (.int 3) .nil)))
            generalize upd G7 q8 (.tup [.int 1, .int 2, .int 3]) = G8 at *
            clear c7 hq8
            refine ⟨by decide, fun q9 hq9 => ?_⟩
            have c9 := stepT (xs := [.str "1", .int 2]) c8 hq9 (.cons (.str "1") (.cons (.int 2) .nil))
            generalize upd G8 q9 (.tup [.str "1", .int 2]) = G9 at *
            clear c8 hq9
            refine ⟨by decide, fun q10 hq10 => ?_⟩
            have c10 := stepT (xs := [.int 3, .int (0 - 1)]) c9 hq10 (.cons (.int 3) (.cons (.int (0 - 1)) .nil))
            generalize upd G9 q10 (.tup [.int 3, .int (0 - 1)]) = G10 at *
            clear c9 hq10
            refine ⟨by decide, fun Lb hLb => ?_⟩
            have cB : DpAll K (upd G10 Lb (.lst [.non, .ref q1, .ref q2, .ref q3, .ref q4, .ref q5, .ref q6, .ref q7, .ref q8, .ref q9, .ref q10])) [.non, .ref q1, .ref q2, .ref q3, .ref q4, .ref q5, .ref q6, .ref q7, .ref q8, .ref q9, .ref q10] badD := dpAll_same (Same.upd hLb) _ c10
            have gB : (upd G10 Lb (.lst [.non, .ref q1, .ref q2, .ref q3, .ref q4, .ref q5, .ref q6, .ref q7, .ref q8, .ref q9, .ref q10])) Lb = some (.lst [.non, .ref q1, .ref q2, .ref q3, .ref q4, .ref q5, .ref q6, .ref q7, .ref q8, .ref q9, .ref q10]) := upd_same
            generalize upd G10 Lb (.lst [.non, .ref q1, .ref q2, .ref q3, .ref q4, .ref q5, .ref q6, .ref q7, .ref q8, .ref q9, .ref q10]) = HB at *
            generalize [V.non, .ref q1, .ref q2, .ref q3, .ref q4, .ref q5, .ref q6, .ref q7, .ref q8, .ref q9, .ref q10] = vb at *
            clear c10 hLb
            walk_at "w1"
            refine ⟨⟨_, sqL_of gB⟩, fun L hL => ?_⟩
            refine lcL vb (fun i H' => H' L = some (.lst ((List.replicate i true).map V.bl)) ∧ Same HB H') ⟨upd_same, Same.upd hL⟩ (fun i H' _ ⟨_, s1⟩ => sqL_of (s1 _ _ gB)) ?_ ?_
            · rintro i x H' hx ⟨hacc, s1⟩
              obtain ⟨d, hd, hdp⟩ := dpAll_get cB hx
              have hbd := badD_no d (List.mem_of_getElem? hd)
              have hi : i < 11 := (List.getElem?_eq_some_iff.mp hd).1
              walk_at "w1"
              refine ⟨x, d, rfl, dp_same s1 _ hdp, hbd.2, fun H2 s2 => ?_⟩
              rw [hbd.1]
              walk_at "w1"
              refine ⟨_, s2 _ _ hacc, small1000 (by rw [List.length_map, List.length_replicate]; omega), ?_, fun b o e => ?_⟩
              · rw [upd_same]
                exact congrArg (fun l => some (HO.lst l)) (repl_end i)
              · rw [upd_ne (ne_of_none e hL)]
                exact s2 _ _ (s1 _ _ e)
            · rintro H2 ⟨hacc, s1⟩
              walk_at "w1"
              refine ⟨L, List.replicate vb.length true, rfl, sqL_of hacc, ?_⟩
              have e : (List.replicate vb.length true).all id = true := by
                rw [List.all_eq_true]
                intro b hb
                rw [(List.mem_replicate.mp hb).2]
                rfl
              rw [e]
              walk_at "w1"
              refine ⟨by decide, fun p hp => ?_⟩
              refine ⟨.ref p, D2 (0, 1), rfl, dp_of_pair (x := (0, 1)) (sqT_of upd_same), okRat_D2 (by exact lt1500 (by decide)), fun H3 s3 => ?_⟩
              have e1 : isRat (D2 (0, 1)) = true := by decide
              rw [e1]
              walk_at "w1"
              refine ⟨by decide, fun p hp => ?_⟩
              refine ⟨.ref p, D2 (7, 1), rfl, dp_of_pair (x := (7, 1)) (sqT_of upd_same), okRat_D2 (by exact lt1500 (by decide)), fun H3 s3 => ?_⟩
              have e1 : isRat (D2 (7, 1)) = true := by decide
              rw [e1]
              walk_at "w1"
              exact q _
end
end K73
namespace K73
open PySem PySem.Spec PyProof.Rows L2 Ly
theorem all_mk {l : PySem.W.OpenLaw} {w : World} {K : PySem.W.Frag} {h : Heap} {mg : Str → Option Value} {fa f0 f1 f2 f3 f4 f5 f6 f7 f8 f9 f10 f11 f12 f13 f14 f15 : Addr} (X : K.In h) (G : h.Ns mainGlobals mg) (hfa : mg "law" = some (.ref fa))
    {od0 an0 od1 an1 od2 an2 od3 an3 od4 an4 od5 an5 od6 an6 od7 an7 od8 an8 od9 an9 od10 an10 od11 an11 od12 an12 od13 an13 od14 an14 od15 an15 : Option Addr} {sl0 sl1 sl2 sl3 sl4 sl5 sl6 sl7 sl8 sl9 sl10 sl11 sl12 sl13 sl14 sl15 : Array (Option Value)} {oc0 kV0 dc0 pm0 cd0 ct0 oc1 kV1 dc1 pm1 cd1 ct1 oc2 kV2 dc2 pm2 cd2 ct2 oc3 kV3 dc3 pm3 cd3 ct3 oc4 kV4 dc4 pm4 cd4 ct4 oc5 kV5 dc5 pm5 cd5 ct5 oc6 kV6 dc6 pm6 cd6 ct6 oc7 kV7 dc7 pm7 cd7 ct7 oc8 kV8 dc8 pm8 cd8 ct8 oc9 kV9 dc9 pm9 cd9 ct9 oc10 kV10 dc10 pm10 cd10 ct10 oc11 kV11 dc11 pm11 cd11 ct11 oc12 kV12 dc12 pm12 cd12 ct12 oc13 kV13 dc13 pm13 cd13 ct13 oc14 kV14 dc14 pm14 cd14 ct14 oc15 kV15 dc15 pm15 cd15 ct15 : Value}
    (a0 : PySem.W.nsIn K mainGlobals "is_integer" = some (some (.ref f0))) (l0 : K.lookup f0 = some ⟨oc0, od0, .func (PySem.W.fnOf "is_integer" "is_integer" (defArgs sIsInteger) (defBody sIsInteger) (defScope sIsInteger) .none kV0 dc0 pm0 an0 cd0 ct0), sl0⟩) (c0 : PySem.W.codeIn K cd0 "is_integer" = true) (k0 : PySem.W.keepIn K (.ref f0) = true)
    (a1 : PySem.W.nsIn K mainGlobals "is_tuple_of" = some (some (.ref f1))) (l1 : K.lookup f1 = some ⟨oc1, od1, .func (PySem.W.fnOf "is_tuple_of" "is_tuple_of" (defArgs sIsTupleOf) (defBody sIsTupleOf) (defScope sIsTupleOf) .none kV1 dc1 pm1 an1 cd1 ct1), sl1⟩) (c1 : PySem.W.codeIn K cd1 "is_tuple_of" = true) (k1 : PySem.W.keepIn K (.ref f1) = true)
    (a2 : PySem.W.nsIn K mainGlobals "common" = some (some (.ref f2))) (l2 : K.lookup f2 = some ⟨oc2, od2, .func (PySem.W.fnOf "common" "common" (defArgs sCommon) (defBody sCommon) (defScope sCommon) .none kV2 dc2 pm2 an2 cd2 ct2), sl2⟩) (c2 : PySem.W.codeIn K cd2 "common" = true) (k2 : PySem.W.keepIn K (.ref f2) = true)
    (a3 : PySem.W.nsIn K mainGlobals "ratio" = some (some (.ref f3))) (l3 : K.lookup f3 = some ⟨oc3, od3, .func (PySem.W.fnOf "ratio" "ratio" (defArgs sRatio) (defBody sRatio) (defScope sRatio) .none kV3 dc3 pm3 an3 cd3 ct3), sl3⟩) (c3 : PySem.W.codeIn K cd3 "ratio" = true) (k3 : PySem.W.keepIn K (.ref f3) = true)
    (a4 : PySem.W.nsIn K mainGlobals "plus" = some (some (.ref f4))) (l4 : K.lookup f4 = some ⟨oc4, od4, .func (PySem.W.fnOf "plus" "plus" (defArgs sPlus) (defBody sPlus) (defScope sPlus) .none kV4 dc4 pm4 an4 cd4 ct4), sl4⟩) (c4 : PySem.W.codeIn K cd4 "plus" = true) (k4 : PySem.W.keepIn K (.ref f4) = true)
    (a5 : PySem.W.nsIn K mainGlobals "times" = some (some (.ref f5))) (l5 : K.lookup f5 = some ⟨oc5, od5, .func (PySem.W.fnOf "times" "times" (defArgs sTimes) (defBody sTimes) (defScope sTimes) .none kV5 dc5 pm5 an5 cd5 ct5), sl5⟩) (c5 : PySem.W.codeIn K cd5 "times" = true) (k5 : PySem.W.keepIn K (.ref f5) = true)
    (a6 : PySem.W.nsIn K mainGlobals "total" = some (some (.ref f6))) (l6 : K.lookup f6 = some ⟨oc6, od6, .func (PySem.W.fnOf "total" "total" (defArgs sTotal) (defBody sTotal) (defScope sTotal) .none kV6 dc6 pm6 an6 cd6 ct6), sl6⟩) (c6 : PySem.W.codeIn K cd6 "total" = true) (k6 : PySem.W.keepIn K (.ref f6) = true)
    (a7 : PySem.W.nsIn K mainGlobals "is_more" = some (some (.ref f7))) (l7 : K.lookup f7 = some ⟨oc7, od7, .func (PySem.W.fnOf "is_more" "is_more" (defArgs sIsMore) (defBody sIsMore) (defScope sIsMore) .none kV7 dc7 pm7 an7 cd7 ct7), sl7⟩) (c7 : PySem.W.codeIn K cd7 "is_more" = true) (k7 : PySem.W.keepIn K (.ref f7) = true)
    (a8 : PySem.W.nsIn K mainGlobals "is_ratio" = some (some (.ref f8))) (l8 : K.lookup f8 = some ⟨oc8, od8, .func (PySem.W.fnOf "is_ratio" "is_ratio" (defArgs sIsRatio) (defBody sIsRatio) (defScope sIsRatio) .none kV8 dc8 pm8 an8 cd8 ct8), sl8⟩) (c8 : PySem.W.codeIn K cd8 "is_ratio" = true) (k8 : PySem.W.keepIn K (.ref f8) = true)
    (a9 : PySem.W.nsIn K mainGlobals "shared" = some (some (.ref f9))) (l9 : K.lookup f9 = some ⟨oc9, od9, .func (PySem.W.fnOf "shared" "shared" (defArgs sShared) (defBody sShared) (defScope sShared) .none kV9 dc9 pm9 an9 cd9 ct9), sl9⟩) (c9 : PySem.W.codeIn K cd9 "shared" = true) (k9 : PySem.W.keepIn K (.ref f9) = true)
    (a10 : PySem.W.nsIn K mainGlobals "_law_mixed" = some (some (.ref f10))) (l10 : K.lookup f10 = some ⟨oc10, od10, .func (PySem.W.fnOf "_law_mixed" "_law_mixed" (defArgs sLawMixed) (defBody sLawMixed) (defScope sLawMixed) .none kV10 dc10 pm10 an10 cd10 ct10), sl10⟩) (c10 : PySem.W.codeIn K cd10 "_law_mixed" = true) (k10 : PySem.W.keepIn K (.ref f10) = true)
    (a11 : PySem.W.nsIn K mainGlobals "_law_row" = some (some (.ref f11))) (l11 : K.lookup f11 = some ⟨oc11, od11, .func (PySem.W.fnOf "_law_row" "_law_row" (defArgs sLawRow) (defBody sLawRow) (defScope sLawRow) .none kV11 dc11 pm11 an11 cd11 ct11), sl11⟩) (c11 : PySem.W.codeIn K cd11 "_law_row" = true) (k11 : PySem.W.keepIn K (.ref f11) = true)
    (a12 : PySem.W.nsIn K mainGlobals "_law_at" = some (some (.ref f12))) (l12 : K.lookup f12 = some ⟨oc12, od12, .func (PySem.W.fnOf "_law_at" "_law_at" (defArgs sLawAt) (defBody sLawAt) (defScope sLawAt) .none kV12 dc12 pm12 an12 cd12 ct12), sl12⟩) (c12 : PySem.W.codeIn K cd12 "_law_at" = true) (k12 : PySem.W.keepIn K (.ref f12) = true)
    (a13 : PySem.W.nsIn K mainGlobals "_law_ratio" = some (some (.ref f13))) (l13 : K.lookup f13 = some ⟨oc13, od13, .func (PySem.W.fnOf "_law_ratio" "_law_ratio" (defArgs sLawRatio) (defBody sLawRatio) (defScope sLawRatio) .none kV13 dc13 pm13 an13 cd13 ct13), sl13⟩) (c13 : PySem.W.codeIn K cd13 "_law_ratio" = true) (k13 : PySem.W.keepIn K (.ref f13) = true)
    (a14 : PySem.W.nsIn K mainGlobals "_law_flag" = some (some (.ref f14))) (l14 : K.lookup f14 = some ⟨oc14, od14, .func (PySem.W.fnOf "_law_flag" "_law_flag" (defArgs sLawFlag) (defBody sLawFlag) (defScope sLawFlag) .none kV14 dc14 pm14 an14 cd14 ct14), sl14⟩) (c14 : PySem.W.codeIn K cd14 "_law_flag" = true) (k14 : PySem.W.keepIn K (.ref f14) = true)
    (a15 : PySem.W.nsIn K mainGlobals "law" = some (some (.ref f15))) (l15 : K.lookup f15 = some ⟨oc15, od15, .func (PySem.W.fnOf "law" "law" (defArgs sLaw) (defBody sLaw) (defScope sLaw) .none kV15 dc15 pm15 an15 cd15 ct15), sl15⟩) (c15 : PySem.W.codeIn K cd15 "law" = true) (k15 : PySem.W.keepIn K (.ref f15) = true)
    (z0 : PySem.W.nsIn K mainGlobals "all" = some none) (z1 : PySem.W.nsIn K mainGlobals "bool" = some none) (z2 : PySem.W.nsIn K mainGlobals "int" = some none) (z3 : PySem.W.nsIn K mainGlobals "isinstance" = some none) (z4 : PySem.W.nsIn K mainGlobals "len" = some none) (z5 : PySem.W.nsIn K mainGlobals "list" = some none) (z6 : PySem.W.nsIn K mainGlobals "range" = some none) (z7 : PySem.W.nsIn K mainGlobals "sum" = some none) (z8 : PySem.W.nsIn K mainGlobals "tuple" = some none) :
    ∃ fd : FuncData, (∀ (s : Shared) (v : Value), BindsTo s fd ⟨[v], []⟩ [("script", v)]) ∧ ∀ base : Heap, K.In base → base.Ns mainGlobals mg → FnOk l.prog w K mg base CX0 5 fa fd ["script"] (spLaw K) := by
  have e := hfa.symm.trans (PySem.W.mg_of X G a15)
  cases e
  have F0 := fun_mk (st := sIsInteger) l0 c0 k0
  have F1 := fun_mk (st := sIsTupleOf) l1 c1 k1
  have F2 := fun_mk (st := sCommon) l2 c2 k2
  have F3 := fun_mk (st := sRatio) l3 c3 k3
  have F4 := fun_mk (st := sPlus) l4 c4 k4
  have F5 := fun_mk (st := sTimes) l5 c5 k5
  have F6 := fun_mk (st := sTotal) l6 c6 k6
  have F7 := fun_mk (st := sIsMore) l7 c7 k7
  have F8 := fun_mk (st := sIsRatio) l8 c8 k8
  have F9 := fun_mk (st := sShared) l9 c9 k9
  have F10 := fun_mk (st := sLawMixed) l10 c10 k10
  have F11 := fun_mk (st := sLawRow) l11 c11 k11
  have F12 := fun_mk (st := sLawAt) l12 c12 k12
  have F13 := fun_mk (st := sLawRatio) l13 c13 k13
  have F14 := fun_mk (st := sLawFlag) l14 c14 k14
  have F15 := fun_mk (st := sLaw) l15 c15 k15
  have b0 := F0.binds (ps := ["thing"]) fun _ _ _ _ _ _ us hl => match us, hl with | [_], _ => rfl
  have b1 := F1.binds (ps := ["thing", "many"]) fun _ _ _ _ _ _ us hl => match us, hl with | [_, _], _ => rfl
  have b2 := F2.binds (ps := ["one", "other"]) fun _ _ _ _ _ _ us hl => match us, hl with | [_, _], _ => rfl
  have b3 := F3.binds (ps := ["over", "under"]) fun _ _ _ _ _ _ us hl => match us, hl with | [_, _], _ => rfl
  have b4 := F4.binds (ps := ["one", "other"]) fun _ _ _ _ _ _ us hl => match us, hl with | [_, _], _ => rfl
  have b5 := F5.binds (ps := ["one", "other"]) fun _ _ _ _ _ _ us hl => match us, hl with | [_, _], _ => rfl
  have b6 := F6.binds (ps := ["ratios"]) fun _ _ _ _ _ _ us hl => match us, hl with | [_], _ => rfl
  have b7 := F7.binds (ps := ["one", "other"]) fun _ _ _ _ _ _ us hl => match us, hl with | [_, _], _ => rfl
  have b8 := F8.binds (ps := ["thing"]) fun _ _ _ _ _ _ us hl => match us, hl with | [_], _ => rfl
  have b9 := F9.binds (ps := ["weights"]) fun _ _ _ _ _ _ us hl => match us, hl with | [_], _ => rfl
  have b10 := F10.binds (ps := ["cell", "k"]) fun _ _ _ _ _ _ us hl => match us, hl with | [_, _], _ => rfl
  have b11 := F11.binds (ps := ["cell", "many", "top"]) fun _ _ _ _ _ _ us hl => match us, hl with | [_, _, _], _ => rfl
  have b12 := F12.binds (ps := ["script", "k"]) fun _ _ _ _ _ _ us hl => match us, hl with | [_, _], _ => rfl
  have b13 := F13.binds (ps := ["one", "other"]) fun _ _ _ _ _ _ us hl => match us, hl with | [_, _], _ => rfl
  have b14 := F14.binds (ps := ["found", "due"]) fun _ _ _ _ _ _ us hl => match us, hl with | [_, _], _ => rfl
  have T : Txt K mg := ⟨⟨_, _, F0, PySem.W.mg_of X G a0, b0⟩, ⟨_, _, F1, PySem.W.mg_of X G a1, b1⟩, ⟨_, _, F2, PySem.W.mg_of X G a2, b2⟩, ⟨_, _, F3, PySem.W.mg_of X G a3, b3⟩, ⟨_, _, F4, PySem.W.mg_of X G a4, b4⟩, ⟨_, _, F5, PySem.W.mg_of X G a5, b5⟩, ⟨_, _, F6, PySem.W.mg_of X G a6, b6⟩, ⟨_, _, F7, PySem.W.mg_of X G a7, b7⟩, ⟨_, _, F8, PySem.W.mg_of X G a8, b8⟩, ⟨_, _, F9, PySem.W.mg_of X G a9, b9⟩, ⟨_, _, F10, PySem.W.mg_of X G a10, b10⟩, ⟨_, _, F11, PySem.W.mg_of X G a11, b11⟩, ⟨_, _, F12, PySem.W.mg_of X G a12, b12⟩, ⟨_, _, F13, PySem.W.mg_of X G a13, b13⟩, ⟨_, _, F14, PySem.W.mg_of X G a14, b14⟩, PySem.W.mg_none_of X G z0, PySem.W.mg_none_of X G z1, PySem.W.mg_none_of X G z2, PySem.W.mg_none_of X G z3, PySem.W.mg_none_of X G z4, PySem.W.mg_none_of X G z5, PySem.W.mg_none_of X G z6, PySem.W.mg_none_of X G z7, PySem.W.mg_none_of X G z8⟩
  exact ⟨PySem.W.fnOf "law" "law" (defArgs sLaw) (defBody sLaw) (defScope sLaw) .none kV15 dc15 pm15 an15 cd15 ct15, fun s v => .of_eq rfl, fun base _ _ => ok_law T F15⟩
end K73
open PySem PySem.W PyProof.Rows
set_option maxRecDepth 100000 in
set_option maxHeartbeats 0 in
theorem PySem.Challenge.cw_onionpost_k73_parts_reckoned_holds : PySem.Challenge.rw_onionpost_k73_parts_reckoned.Holds := by
  w_on; o_law; k_head; (case hw => w_witness2)
  k_fill
  refine L2.walk_of (l := PySem.Challenge.rw_onionpost_k73_parts_reckoned) (n := 63) (k := 5) (x := "script") (CX := fun _ => L2.CX0) (sp := fun w => K73.spLaw _) rfl (by decide) rfl ⟨rfl, by decide, by decide⟩ (fun w h Y => PySem.W.kIn_of Y) ?F (fun _ _ a ns hl _ hS => ⟨a, ns, rfl, hS, fun _ => rfl⟩) (fun _ _ _ _ _ h => h)
  case F =>
    intro w mg fa h KX G hmg
    refine' K73.all_mk KX G hmg ?a0 ?l0 ?c0 ?k0 ?a1 ?l1 ?c1 ?k1 ?a2 ?l2 ?c2 ?k2 ?a3 ?l3 ?c3 ?k3 ?a4 ?l4 ?c4 ?k4 ?a5 ?l5 ?c5 ?k5 ?a6 ?l6 ?c6 ?k6 ?a7 ?l7 ?c7 ?k7 ?a8 ?l8 ?c8 ?k8 ?a9 ?l9 ?c9 ?k9 ?a10 ?l10 ?c10 ?k10 ?a11 ?l11 ?c11 ?k11 ?a12 ?l12 ?c12 ?k12 ?a13 ?l13 ?c13 ?k13 ?a14 ?l14 ?c14 ?k14 ?a15 ?l15 ?c15 ?k15 ?z0 ?z1 ?z2 ?z3 ?z4 ?z5 ?z6 ?z7 ?z8
    (case a0 => k_is)
    (case l0 => k_is)
    (case c0 => k_is)
    (case k0 => k_is)
    (case a1 => k_is)
    (case l1 => k_is)
    (case c1 => k_is)
    (case k1 => k_is)
    (case a2 => k_is)
    (case l2 => k_is)
    (case c2 => k_is)
    (case k2 => k_is)
    (case a3 => k_is)
    (case l3 => k_is)
    (case c3 => k_is)
    (case k3 => k_is)
    (case a4 => k_is)
    (case l4 => k_is)
    (case c4 => k_is)
    (case k4 => k_is)
    (case a5 => k_is)
    (case l5 => k_is)
    (case c5 => k_is)
    (case k5 => k_is)
    (case a6 => k_is)
    (case l6 => k_is)
    (case c6 => k_is)
    (case k6 => k_is)
    (case a7 => k_is)
    (case l7 => k_is)
    (case c7 => k_is)
    (case k7 => k_is)
    (case a8 => k_is)
    (case l8 => k_is)
    (case c8 => k_is)
    (case k8 => k_is)
    (case a9 => k_is)
    (case l9 => k_is)
    (case c9 => k_is)
    (case k9 => k_is)
    (case a10 => k_is)
    (case l10 => k_is)
    (case c10 => k_is)
    (case k10 => k_is)
    (case a11 => k_is)
    (case l11 => k_is)
    (case c11 => k_is)
    (case k11 => k_is)
    (case a12 => k_is)
    (case l12 => k_is)
    (case c12 => k_is)
    (case k12 => k_is)
    (case a13 => k_is)
    (case l13 => k_is)
    (case c13 => k_is)
    (case k13 => k_is)
    (case a14 => k_is)
    (case l14 => k_is)
    (case c14 => k_is)
    (case k14 => k_is)
    (case a15 => k_is)
    (case l15 => k_is)
    (case c15 => k_is)
    (case k15 => k_is)
    (case z0 => k_is)
    (case z1 => k_is)
    (case z2 => k_is)
    (case z3 => k_is)
    (case z4 => k_is)
    (case z5 => k_is)
    (case z6 => k_is)
    (case z7 => k_is)
    (case z8 => k_is)
