import PyProof.Rows.All
import Wide.All
import OpenK.AllK
import Wide.FinOn
import KE.KStateDown
import HandS.ForMost
import HandS.More
import HandS.Exc
import HandS.Defaults
import HandS.Codes
import HandS.IsInst
import HandS.Flow
import HandS.Style
import HandS.Conv
import HandS.Walk
import KE.OsSort
import HandS.Zip
import HandS.TupAny
import HandS.TupMul
import PyProof.ListMulRoad
import PyProof.FactsAll.tuple_2
import HandS.TupSets
import HandS.Deep
import HandS.SortInts
import HandS.Head0
import HandS.Head1
import HandS.Head2
import HandS.HeadEnd
import HandS.HeadHook1
import HandS.HeadHook2
import HandS.HeadHook3
import HandS.HeadHook4
import KE.GoesMore
import KE.GoesNew
import HandS.Nested
import HandS.Sort
import HandS.SortOrd
import KE.KSortKey
import HandS.HeadWalk
import HandS.ExcValue
import PySem.Challenge.RW_surfacehall_k06_at_rest_by_own_laying
set_option Elab.async false
set_option linter.all false
set_option maxRecDepth 100000
set_option maxHeartbeats 4000000
/-! readings answered by lemmas, one a word -/
namespace U
open PySem PySem.Spec PyProof.Rows L2

section
variable {K : PySem.W.Frag} {σ : L2.St} {H : Hp} {Q : VK} {ta tb te : TE} {v x y : V}
section
variable {nx bk ct : L2.St → Hp → Prop} {rt : VK}
theorem iSeq {t u : TS} (h : t ⟨u ⟨nx, rt, bk, ct⟩, rt, bk, ct⟩ σ H) : tSeq t u ⟨nx, rt, bk, ct⟩ σ H := h
theorem iNext (h : nx σ H) : tNext ⟨nx, rt, bk, ct⟩ σ H := h
theorem iAsg {te : TE} {g : TG} (h : te σ H fun x H1 => g x σ H1 nx) : tAsg te g ⟨nx, rt, bk, ct⟩ σ H := h
theorem iName {i : Nat} {R : L2.St → Hp → Prop} (h : R (σ.set i (some v)) H) : gName i v σ H R := h
theorem iRet (h : te σ H rt) : tRet te ⟨nx, rt, bk, ct⟩ σ H := h
theorem iRetN (h : rt .non H) : tRetN ⟨nx, rt, bk, ct⟩ σ H := h
theorem iDrop (h : te σ H fun _ H1 => nx σ H1) : tDrop te ⟨nx, rt, bk, ct⟩ σ H := h
theorem iIfS {c : TT} {t u : TS} {D : Ends} (h : c σ H fun b H1 => if b = true then t D σ H1 else u D σ H1) : tIfS c t u D σ H := h
theorem iPar {i j : Nat} {ta : TA} (h : ta σ H fun vs H1 => ∃ v w, vs = [v, w] ∧ nx ((σ.set i (some v)).set j (some w)) H1) : tPar i j ta ⟨nx, rt, bk, ct⟩ σ H := h
theorem iPar3 {i j l : Nat} {ta : TA} (h : ta σ H fun vs H1 => ∃ u v w, vs = [u, v, w] ∧ nx (((σ.set i (some u)).set j (some v)).set l (some w)) H1) : tPar3 i j l ta ⟨nx, rt, bk, ct⟩ σ H := h
end
theorem iVar {i : Nat} (h : σ[i]? = some (some v)) (q : Q v H) : tVar i σ H Q := ⟨v, h, q⟩
theorem iC (q : Q v H) : tC v σ H Q := q
theorem iOp {r : R2} (h : ta σ H fun x H1 => tb σ H1 fun y H2 => r x y H2 Q) : tOp r ta tb σ H Q := h
theorem iUn {r : V → Hp → VK → Prop} (h : ta σ H fun x H1 => r x H1 Q) : tUn r ta σ H Q := h
theorem iI0 {g : Int → Int → V} {i j : Int} (q : Q (g i j) H) : rI0 g (.int i) (.int j) H Q := ⟨i, j, rfl, rfl, q⟩
theorem iI {C : Int → Int → Prop} {g : Int → Int → V} {i j : Int} (c : C i j) (q : Q (g i j) H) : rI C g (.int i) (.int j) H Q := ⟨i, j, rfl, rfl, c, q⟩
theorem iU {g : Int → V} {i : Int} (q : Q (g i) H) : rU g (.int i) H Q := ⟨i, rfl, q⟩
theorem iTest {t : TE} {R : Bool → Hp → Prop} (h : t σ H fun x H' => ∃ k, x = .bl k ∧ R k H') : tTest t σ H R := h
theorem iB {t : TE} {R : Bool → Hp → Prop} (h : t σ H fun x H1 => ∃ c, x = .bl c ∧ R c H1) : tB t σ H R := h
theorem iAnd {t u : TT} {R : Bool → Hp → Prop} (h : t σ H fun c H1 => if c = true then u σ H1 R else R false H1) : tAnd t u σ H R := h
theorem iOr {t u : TT} {R : Bool → Hp → Prop} (h : t σ H fun c H1 => if c = true then R true H1 else u σ H1 R) : tOr t u σ H R := h
theorem iNot {t : TT} {R : Bool → Hp → Prop} (h : t σ H fun c H1 => R (!c) H1) : tNot t σ H R := h
theorem iAndV (h : ta σ H fun x H1 => ∃ c, x = .bl c ∧ if c = true then tb σ H1 Q else Q (.bl false) H1) : tAndV ta tb σ H Q := h
theorem iOrV (h : ta σ H fun x H1 => ∃ c, x = .bl c ∧ if c = true then Q (.bl true) H1 else tb σ H1 Q) : tOrV ta tb σ H Q := h
theorem iNotV (h : ta σ H fun x H1 => ∃ c, x = .bl c ∧ Q (.bl (!c)) H1) : tNotV ta σ H Q := h
theorem iIf {t : TT} (h : t σ H fun c H1 => if c = true then ta σ H1 Q else tb σ H1 Q) : tIf t ta tb σ H Q := h
theorem iChain {r r' : R2} {tc : TE} (h : ta σ H fun x H1 => tb σ H1 fun y H2 => r x y H2 fun z H3 => ∃ k, z = .bl k ∧ (if k = true then tc σ H3 fun w' H4 => r' y w' H4 Q else Q (.bl false) H3)) : tChain r r' ta tb tc σ H Q := h
theorem iNil {R : List V → Hp → Prop} (q : R [] H) : tNil σ H R := q
theorem iCons {tr : TA} {R : List V → Hp → Prop} (h : ta σ H fun x H1 => tr σ H1 fun xs H2 => R (x :: xs) H2) : tCons ta tr σ H R := h
theorem iTupX {t : TA} (h : t σ H fun xs H1 => xs.length ≤ sizeLine ∧ ∀ p, H1 p = none → Q (.ref p) (upd H1 p (.tup xs))) : tTup t σ H Q := h
theorem iLst {t : TA} (h : t σ H fun xs H1 => xs.length ≤ sizeLine ∧ ∀ p, H1 p = none → Q (.ref p) (upd H1 p (.lst xs))) : tLst t σ H Q := h
theorem iCB {r : List V → Hp → VK → Prop} {t : TA} (h : t σ H fun vs H1 => r vs H1 Q) : tCB r t σ H Q := h
theorem iCall {sp : Sp} {dvs : List V} {E : XK} {t : TA} (h : t σ H fun vs H1 => sp (vs ++ dvs) H1 Q E) : tCall sp dvs E t σ H Q := h
theorem iSl {r : V → Option Int → Option Int → Hp → VK → Prop} {tl th : TO} (h : te σ H fun x H1 => tl σ H1 fun l H2 => th σ H2 fun u H3 => r x l u H3 Q) : tSl r te tl th σ H Q := h
theorem iNoPart {R : Option Int → Hp → Prop} (q : R none H) : tNoPart σ H R := q
theorem iPart {R : Option Int → Hp → Prop} (h : te σ H fun x H1 => ∃ i, x = .int i ∧ R (some i) H1) : tPart te σ H R := h
theorem iBM {T : String} {r : V → List V → Hp → VK → Prop} {to : TE} {t : TA} (h : to σ H fun x H1 => tyV K T x H1 ∧ t σ H1 fun xs H2 => r x xs H2 Q) : tBM K T r to t σ H Q := h
theorem iBM0 {T : String} {r : V → List V → Hp → VK → Prop} {to : TE} (h : to σ H fun x H1 => tyV K T x H1 ∧ r x [] H1 Q) : tBM0 K T r to σ H Q := h
theorem iSub {to ti : TE} {t : TSet} {v : V} {R : L2.St → Hp → Prop} (h : to σ H fun o H1 => ti σ H1 fun i H2 => t o i v H2 fun H3 => R σ H3) : gSub to ti t v σ H R := h

/-! equal, by kinds -/
theorem iEqI {i j : Int} (q : Q (.bl (decide (i = j))) H) : rEq (.int i) (.int j) H Q := ⟨rfl, by rw [show decide (V.int i = V.int j) = decide (i = j) by simp]; exact q⟩
theorem iNeI {i j : Int} (q : Q (.bl (!decide (i = j))) H) : rNe (.int i) (.int j) H Q := ⟨rfl, by rw [show decide (V.int i = V.int j) = decide (i = j) by simp]; exact q⟩
theorem iEqS {i j : Str} (q : Q (.bl (decide (i = j))) H) : rEq (.str i) (.str j) H Q := ⟨rfl, by rw [show decide (V.str i = V.str j) = decide (i = j) by simp]; exact q⟩
theorem iNeS {i j : Str} (q : Q (.bl (!decide (i = j))) H) : rNe (.str i) (.str j) H Q := ⟨rfl, by rw [show decide (V.str i = V.str j) = decide (i = j) by simp]; exact q⟩
theorem iEqB {i j : Bool} (q : Q (.bl (decide (i = j))) H) : rEq (.bl i) (.bl j) H Q := ⟨rfl, by rw [show decide (V.bl i = V.bl j) = decide (i = j) by simp]; exact q⟩
theorem iNeB {i j : Bool} (q : Q (.bl (!decide (i = j))) H) : rNe (.bl i) (.bl j) H Q := ⟨rfl, by rw [show decide (V.bl i = V.bl j) = decide (i = j) by simp]; exact q⟩
theorem iEqIN {i : Int} (q : Q (.bl false) H) : rEq (.int i) .non H Q := ⟨rfl, q⟩
theorem iEqNI {i : Int} (q : Q (.bl false) H) : rEq .non (.int i) H Q := ⟨rfl, q⟩
theorem iEqNN (q : Q (.bl true) H) : rEq .non .non H Q := ⟨rfl, q⟩

/-! is None -/
abbrev rIsN : R2 := fun x y H Q => y = .non ∧ Q (.bl (decide (x = .non))) H
abbrev rNoN : R2 := fun x y H Q => y = .non ∧ Q (.bl (!decide (x = .non))) H

/-! items -/
theorem iIxL {p : Addr} {xs : List V} {i : Int} {v : V} (h : SqL K H p xs) (e : atI xs i = some v) (q : Q v H) : rIxL K (.ref p) (.int i) H Q := ⟨p, xs, i, v, rfl, rfl, h, e, q⟩
theorem iIxT {p : Addr} {xs : List V} {i : Int} {v : V} (h : SqT K H p xs) (e : atI xs i = some v) (q : Q v H) : rIxT K (.ref p) (.int i) H Q := ⟨p, xs, i, v, rfl, rfl, h, e, q⟩
theorem iSetL {p : Addr} {xs : List V} {k : Int} {j : Nat} {v : V} {R : Hp → Prop} (h : H p = some (.lst xs)) (e : ixN xs.length k = some j) (q : R (upd H p (.lst (xs.set j v)))) : rSetL (.ref p) (.int k) v H R := ⟨p, xs, k, j, rfl, rfl, h, e, q⟩
theorem iAppend {p : Addr} {xs : List V} {y : V} (h : H p = some (.lst xs)) (z : xs.length < sizeLine) (q : Q .non (upd H p (.lst (xs ++ [y])))) : rAppend (.ref p) [y] H Q := ⟨p, xs, y, rfl, rfl, h, z, q⟩
end

/-! ### what is kept -/
/-- all that stood but what stands at S; tuples and locked things -/
structure Fr (S : List Addr) (H H' : Hp) : Prop where
  at_ : ∀ a o, H a = some o → a ∉ S → H' a = some o
  tu : ∀ a xs, H a = some (.tup xs) → H' a = some (.tup xs)
  fz : ∀ a o u, H a = some (.frz o u) → H' a = some (.frz o u)
  dm : ∀ a, H' a = none → H a = none
def isMut : HO → Bool
  | .tup _ => false
  | .frz _ _ => false
  | .tbl _ => false
  | _ => true
theorem Fr.same {S : List Addr} {H H' : Hp} (h : Same H H') : Fr S H H' := ⟨fun a o e _ => h a o e, fun a _ e => h a _ e, fun a _ _ e => h a _ e, fun a e => Same.free h e⟩
theorem Fr.refl {S : List Addr} {H : Hp} : Fr S H H := Fr.same (Same.refl H)
theorem Fr.trans {S : List Addr} {H H1 H2 : Hp} (a : Fr S H H1) (b : Fr S H1 H2) : Fr S H H2 := ⟨fun x o h n => b.at_ x o (a.at_ x o h n) n, fun x o h => b.tu x o (a.tu x o h), fun x o u h => b.fz x o u (a.fz x o u h), fun x h => a.dm x (b.dm x h)⟩
theorem Fr.mono {S T : List Addr} {H H' : Hp} (a : Fr S H H') (h : ∀ x ∈ S, x ∈ T) : Fr T H H' := ⟨fun x o e n => a.at_ x o e fun z => n (h x z), a.tu, a.fz, a.dm⟩
theorem Fr.new {S : List Addr} {H : Hp} {p : Addr} {o : HO} (h : H p = none) : Fr S H (upd H p o) := Fr.same fun a u e => by
  rw [upd_ne (ne_of_none e h)]
  exact e
theorem Fr.set {S : List Addr} {H : Hp} {p : Addr} {o u : HO} (e : H p = some u) (m : isMut u = true) (h : p ∈ S) : Fr S H (upd H p o) :=
  ⟨fun a v ea n => by
    rw [upd_ne fun z => n (by rw [z]; exact h)]
    exact ea, fun a xs ea => by
    rw [upd_ne fun z => by rw [z, e] at ea; rw [Option.some.inj ea] at m; cases m]
    exact ea, fun a w v ea => by
    rw [upd_ne fun z => by rw [z, e] at ea; rw [Option.some.inj ea] at m; cases m]
    exact ea, fun a ea => by
    by_cases z : a = p
    · rw [z, upd_same] at ea; cases ea
    · rw [upd_ne z] at ea; exact ea⟩
theorem Fr.free {S : List Addr} {H H' : Hp} {a : Addr} (f : Fr S H H') (h : H' a = none) : H a = none := f.dm a h
theorem Fr.sqT {S : List Addr} {H H' : Hp} {K : PySem.W.Frag} {a : Addr} {xs : List V} (f : Fr S H H') (h : SqT K H a xs) : SqT K H' a xs := by
  rcases h with (h | ⟨o, h⟩) | h
  · exact .inl (.inl (f.tu _ _ h))
  · exact .inl (.inr ⟨o, f.fz _ _ _ h⟩)
  · exact .inr h
theorem Fr.sqL {S : List Addr} {H H' : Hp} {K : PySem.W.Frag} {a : Addr} {xs : List V} (f : Fr S H H') (h : SqL K H a xs) (n : a ∉ S) : SqL K H' a xs := by
  rcases h with (h | ⟨o, h⟩) | h
  · exact .inl (.inl (f.at_ _ _ h n))
  · exact .inl (.inr ⟨o, f.fz _ _ _ h⟩)
  · exact .inr h
theorem same_new {H : Hp} {p : Addr} {o : HO} (h : H p = none) : Same H (upd H p o) := fun b x e => by
  rw [upd_ne (ne_of_none e h)]
  exact e
end U
namespace U
open PySem PySem.Spec PyProof.Rows L2
open C8 (Cal Met Mak pe_c pe_mk pe_mt pe_mt0)
section
variable {P : Program} {w : World} {K : PySem.W.Frag} {mg : Str → Option Value} {base : Heap}
/-! ### defs by their data -/
theorem cal_mk {x : Str} {params : Arguments} {body : List Stmt} {scope : Scope} {N ps : List Str} {k : Nat} {sp : Sp} (hF : ∃ fd, FunD K x x params body scope [] [] (He.fAd K (x, none)) fd) (hm : mg x = some (.ref (He.ga K x)))
    (S : FnScope N ps scope) (hb : ∀ (kV doc pm : Value) (an : Option Addr) (cdv ct : Value) (us : List Value), us.length = ps.length → bindArgs (PySem.W.fnOf x x params body scope .none kV doc pm an cdv ct) ⟨us, []⟩ = pure (ps.zip us))
    (len : ∀ vs H Q E, sp vs H Q E → vs.length = ps.length)
    (hbody : ∀ (cdv : Value) (A : Around) (outer : List Env) (s : Shared) (H : Hp) (vs : List V) (Q : VK) (E : XK), Room k (A.deeper (envOfC x scope s.heap.objs.size (He.fAd K (x, none)) cdv)) → sp vs H Q E →
      ∃ t, PSs (cxOf CX0 P w K mg base N x scope (He.fAd K (x, none)) cdv A outer s H E).nox body t ∧ t { nx := fun _ H' => Q .non H', rt := Q } (start N vs) H) : Cal P w K mg base (k + 1) x sp [] := by
  obtain ⟨fd, F⟩ := hF
  refine ⟨He.ga K x, fd, ps, [], FunD.ok F S len fun cdv A outer s H vs Q E hr h => ?_, hm, F.kp, F.bindsN hb, .nil⟩
  obtain ⟨t, p, q⟩ := hbody cdv A outer s H vs Q E hr h
  exact ⟨t, p.nox, q⟩
theorem met_mk {C m : Str} {qual : Str} {params : Arguments} {body : List Stmt} {scope : Scope} {N ps : List Str} {k : Nat} {sp : Sp} (hF : ∃ fd, FunD K m qual params body scope [] [] (He.fAd K (C, some m)) fd) (c : Cls K (He.ga K C)) (me : Meth K (He.ga K C) m (He.ma K (He.ga K C) m))
    (S : FnScope N ps scope) (hb : ∀ (kV doc pm : Value) (an : Option Addr) (cdv ct : Value) (us : List Value), us.length = ps.length → bindArgs (PySem.W.fnOf m qual params body scope .none kV doc pm an cdv ct) ⟨us, []⟩ = pure (ps.zip us))
    (len : ∀ vs H Q E, sp vs H Q E → vs.length = ps.length)
    (hbody : ∀ (cdv : Value) (A : Around) (outer : List Env) (s : Shared) (H : Hp) (vs : List V) (Q : VK) (E : XK), Room k (A.deeper (envOfC qual scope s.heap.objs.size (He.fAd K (C, some m)) cdv)) → sp vs H Q E →
      ∃ t, PSs (cxOf CX0 P w K mg base N qual scope (He.fAd K (C, some m)) cdv A outer s H E).nox body t ∧ t { nx := fun _ H' => Q .non H', rt := Q } (start N vs) H) : Met P w K mg base (k + 1) (He.ga K C) m sp [] := by
  obtain ⟨fd, F⟩ := hF
  refine ⟨He.ma K (He.ga K C) m, fd, ps, [], c, me, FunD.ok F S len fun cdv A outer s H vs Q E hr h => ?_, F.bindsN hb, .nil⟩
  obtain ⟨t, p, q⟩ := hbody cdv A outer s H vs Q E hr h
  exact ⟨t, p.nox, q⟩
theorem mak_mk {C : Str} {qual : Str} {params : Arguments} {body : List Stmt} {scope : Scope} {N ps : List Str} {k : Nat} {sp : Sp} (hF : ∃ fd, FunD K "__init__" qual params body scope [] [] (He.fAd K (C, some "__init__")) fd) (M : Mk K (He.ga K C) (He.ma K (He.ga K C) "__init__")) (hm : mg C = some (.ref (He.ga K C)))
    (S : FnScope N ps scope) (hb : ∀ (kV doc pm : Value) (an : Option Addr) (cdv ct : Value) (us : List Value), us.length = ps.length → bindArgs (PySem.W.fnOf "__init__" qual params body scope .none kV doc pm an cdv ct) ⟨us, []⟩ = pure (ps.zip us))
    (len : ∀ vs H Q E, sp vs H Q E → vs.length = ps.length)
    (hbody : ∀ (cdv : Value) (A : Around) (outer : List Env) (s : Shared) (H : Hp) (vs : List V) (Q : VK) (E : XK), Room k (A.deeper (envOfC qual scope s.heap.objs.size (He.fAd K (C, some "__init__")) cdv)) → sp vs H Q E →
      ∃ t, PSs (cxOf CX0 P w K mg base N qual scope (He.fAd K (C, some "__init__")) cdv A outer s H E).nox body t ∧ t { nx := fun _ H' => Q .non H', rt := Q } (start N vs) H) : Mak P w K mg base (k + 1) C (He.ga K C) sp [] := by
  obtain ⟨fd, F⟩ := hF
  refine ⟨He.ma K (He.ga K C) "__init__", fd, ps, [], M, FunD.ok F S len fun cdv A outer s H vs Q E hr h => ?_, hm, F.bindsN hb, .nil⟩
  obtain ⟨t, p, q⟩ := hbody cdv A outer s H vs Q E hr h
  exact ⟨t, p.nox, q⟩
/-- a table's value is a tuple of these -/
def tupIn (K : PySem.W.Frag) (d : Addr) (k : Str) (vs : List He.Dv) : Bool := match PySem.W.nsIn K d k with
  | some (some (.ref a)) => (match K.lookup a with
    | some ⟨.type c, _, .seq its _, _⟩ => decide (c = "tuple") && (decide (its.size ≤ sizeLine) && He.relAll (vs.map (He.Dv.v K)) its.toList)
    | _ => false)
  | _ => false
theorem tupIn_ok {d : Addr} {k : Str} {vs : List He.Dv} (h : tupIn K d k vs = true) : ∃ a, PySem.W.nsIn K d k = some (some (.ref a)) ∧ ∀ H : Hp, SqT K H a (vs.map (He.Dv.v K)) := by
  unfold tupIn at h
  cases e : PySem.W.nsIn K d k with
  | none =>
    rw [e] at h
    cases h
  | some r =>
    rw [e] at h
    cases r with
    | none => cases h
    | some u =>
      cases u with
      | ref a =>
        refine ⟨a, rfl, fun H => ?_⟩
        have h2 : (match K.lookup a with
          | some ⟨.type c, _, .seq its _, _⟩ => decide (c = "tuple") && (decide (its.size ≤ sizeLine) && He.relAll (vs.map (He.Dv.v K)) its.toList)
          | _ => false) = true := h
        cases q : K.lookup a with
        | none =>
          rw [q] at h2
          cases h2
        | some o =>
          obtain ⟨oc, od, dt, osl⟩ := o
          rw [q] at h2
          cases oc with
          | type c =>
            cases dt with
            | seq its n =>
              obtain ⟨h3, h4⟩ := He.ba (show (decide (c = "tuple") && (decide (its.size ≤ sizeLine) && He.relAll (vs.map (He.Dv.v K)) its.toList)) = true from h2)
              obtain ⟨h5, h6⟩ := He.ba h4
              exact .inr ⟨_, its, n, q, congrArg Value.type (of_decide_eq_true h3), rfl, of_decide_eq_true h5, He.relAll_ok h6⟩
            | _ => cases h2
          | _ => cases dt <;> cases h2
      | _ => cases h
/-- the law's end -/
def spLaw (K : PySem.W.Frag) : Sp := fun vs H Q _ => ∃ (a : Addr) (ns : List Int), vs = [.ref a] ∧ SqL K H a (ns.map V.int) ∧ ns.length ≤ 63 ∧ ∀ H', Q (.bl true) H'
end
end U
namespace U
open PySem PySem.Spec PyProof.Rows L2
open C8 (Cal Met Mak pe_c pe_mk pe_mt pe_mt0)
section
variable {X : Cx} {k j : Nat} {C : Addr} {x m : Str} {sp : Sp} {dvs : List V} {p pos apos : Pos} {o : Expr} {ta : TE} {t : TA}
theorem pe_c0 (c : Cal X.prog X.w X.K X.mg X.base k x sp dvs) (hr : Room j X.A) (hk : k ≤ j) (hg : Gl X x) (hdb : (x == ("__debug__" : Str)) = false := by decide) : PE X (.Call (.Name x p) [] [] pos) (tCall sp dvs E0 tNil) := by
  obtain ⟨f, fd, ps, ds, F, hm, kp, b, d⟩ := c.ex
  exact pe_call0 F (hr.mono hk) hg hm kp b d pass0 hdb
theorem pe_mk0 (c : Mak X.prog X.w X.K X.mg X.base k x C sp dvs) (hr : Room j X.A) (hk : k + 1 ≤ j) (hg : Gl X x) (hdb : (x == ("__debug__" : Str)) = false := by decide) : PE X (.Call (.Name x p) [] [] pos) (tMake C sp dvs E0 tNil) := by
  obtain ⟨f, fd, ps, ds, M, F, hm, b, d⟩ := c.ex
  exact pe_make0 M F (hr.mono hk) hg hm b d pass0 hdb
end
end U
/-! ### named readings -/
namespace U
open PySem PySem.Spec PyProof.Rows L2
section
variable {X : Cx} {K : PySem.W.Frag} {σ : L2.St} {H : Hp} {Q : VK}
def rLenU (K : PySem.W.Frag) : List V → Hp → VK → Prop := fun xs H Q => ∃ p ys, xs = [.ref p] ∧ (SqL K H p ys ∨ SqT K H p ys) ∧ Q (.int ys.length) H
def rLenS : List V → Hp → VK → Prop := fun xs H Q => ∃ z, xs = [.str z] ∧ z.length ≤ sizeLine ∧ Q (.int z.length) H
def rMax2 : List V → Hp → VK → Prop := fun xs H Q => ∃ i j, xs = [.int i, .int j] ∧ Q (.int (if j > i then j else i)) H
def rMin2 : List V → Hp → VK → Prop := fun xs H Q => ∃ i j, xs = [.int i, .int j] ∧ Q (.int (if j < i then j else i)) H
def rStrI : List V → Hp → VK → Prop := fun xs H Q => ∃ i, xs = [.int i] ∧ i.natAbs.log2 < 1920 ∧ Q (.str (toString i)) H
def rIntS : List V → Hp → VK → Prop := fun xs H Q => ∃ a n, xs = [.str a] ∧ PySem.intText? a = some n ∧ a.length ≤ 640 ∧ Q (.int n) H
def rListOf (K : PySem.W.Frag) : List V → Hp → VK → Prop := fun xs H Q => ∃ p ys, xs = [.ref p] ∧ (SqL K H p ys ∨ SqT K H p ys) ∧ ∀ l, H l = none → Q (.ref l) (upd H l (.lst ys))
def rTupOf (K : PySem.W.Frag) : List V → Hp → VK → Prop := fun xs H Q => ∃ p ys, xs = [.ref p] ∧ ((SqL K H p ys ∧ ∀ l, H l = none → Q (.ref l) (upd H l (.tup ys))) ∨ (SqT K H p ys ∧ Q (.ref p) H))
def rSorDI : List V → Hp → VK → Prop := fun xs H Q => ∃ (a : Addr) (kvs : List (Key × V)) (ks : List Int), xs = [.ref a] ∧ Rd H a (.dK kvs) ∧ kvs.map (·.1) = ks.map Sum.inl ∧ ks.length < 64 ∧ ∀ (ys : List Int) (p : Addr), ys.Perm ks → ys.Pairwise (· ≤ ·) → H p = none → Q (.ref p) (upd H p (.lst (ys.map V.int)))
def rIsNon : R2 := fun x y H Q => y = .non ∧ Q (.bl (decide (x = .non))) H
def rNotNon : R2 := fun x y H Q => y = .non ∧ Q (.bl (!decide (x = .non))) H
def rAddS : R2 := fun x y H Q => ∃ i j, x = .str i ∧ y = .str j ∧ i.length + j.length ≤ sizeLine ∧ Q (.str (i ++ j)) H
def rInS : R2 := fun x y H Q => ∃ i j, x = .str i ∧ y = .str j ∧ Q (.bl (!(Builtin.Str.occurrences j i 0 j.length 1).isEmpty)) H
def rNotInS : R2 := fun x y H Q => ∃ i j, x = .str i ∧ y = .str j ∧ Q (.bl (!(!(Builtin.Str.occurrences j i 0 j.length 1).isEmpty))) H
theorem c_len : CallR X (.builtin "len") (rLenU X.K) := call_len_seq
theorem c_lenS : CallR X (.builtin "len") rLenS := call_len_str
theorem c_max2 (hc : X.calm = true) : CallR X (.builtin "max") rMax2 := call_max2 hc
theorem c_min2 (hc : X.calm = true) : CallR X (.builtin "min") rMin2 := call_min2 hc
theorem c_str : CallR X (.type "str") rStrI := call_str_int
theorem c_int : CallR X (.type "int") rIntS := call_int_str
theorem c_list : CallR X (.type "list") (rListOf X.K) := call_list_of
theorem c_tuple : CallR X (.type "tuple") (rTupOf X.K) := call_tuple_of
theorem c_sorDI (hc : X.calm = true) : CallR X (.builtin "sorted") rSorDI := call_sortedDI hc
theorem o_isN : OpR X (compareOp .Is) rIsNon := op_isN
theorem o_notN : OpR X (compareOp .IsNot) rNotNon := op_notN
theorem o_addS : OpR X (binaryOp .Add) rAddS := op_add_str
theorem o_inS : OpR X (compareOp .In) rInS := op_in_str
theorem o_notInS : OpR X (compareOp .NotIn) rNotInS := op_notin_str
theorem iLenL {p : Addr} {ys : List V} (h : SqL K H p ys) (q : Q (.int ys.length) H) : rLenU K [.ref p] H Q := ⟨p, ys, rfl, .inl h, q⟩
theorem iLenT {p : Addr} {ys : List V} (h : SqT K H p ys) (q : Q (.int ys.length) H) : rLenU K [.ref p] H Q := ⟨p, ys, rfl, .inr h, q⟩
theorem iLenS {z : Str} (h : z.length ≤ sizeLine) (q : Q (.int z.length) H) : rLenS [.str z] H Q := ⟨z, rfl, h, q⟩
theorem iMax2 {i j : Int} (q : Q (.int (if j > i then j else i)) H) : rMax2 [.int i, .int j] H Q := ⟨i, j, rfl, q⟩
theorem iMin2 {i j : Int} (q : Q (.int (if j < i then j else i)) H) : rMin2 [.int i, .int j] H Q := ⟨i, j, rfl, q⟩
theorem iStrI {i : Int} (h : i.natAbs.log2 < 1920) (q : Q (.str (toString i)) H) : rStrI [.int i] H Q := ⟨i, rfl, h, q⟩
theorem iIntS {a : Str} {n : Int} (h : PySem.intText? a = some n) (z : a.length ≤ 640) (q : Q (.int n) H) : rIntS [.str a] H Q := ⟨a, n, rfl, h, z, q⟩
theorem iListL {p : Addr} {ys : List V} (h : SqL K H p ys) (q : ∀ l, H l = none → Q (.ref l) (upd H l (.lst ys))) : rListOf K [.ref p] H Q := ⟨p, ys, rfl, .inl h, q⟩
theorem iListT {p : Addr} {ys : List V} (h : SqT K H p ys) (q : ∀ l, H l = none → Q (.ref l) (upd H l (.lst ys))) : rListOf K [.ref p] H Q := ⟨p, ys, rfl, .inr h, q⟩
theorem iTupL {p : Addr} {ys : List V} (h : SqL K H p ys) (q : ∀ l, H l = none → Q (.ref l) (upd H l (.tup ys))) : rTupOf K [.ref p] H Q := ⟨p, ys, rfl, .inl ⟨h, q⟩⟩
theorem iTupT {p : Addr} {ys : List V} (h : SqT K H p ys) (q : Q (.ref p) H) : rTupOf K [.ref p] H Q := ⟨p, ys, rfl, .inr ⟨h, q⟩⟩
theorem iIsNN (q : Q (.bl true) H) : rIsNon .non .non H Q := ⟨rfl, q⟩
theorem iIsNI {i : Int} (q : Q (.bl false) H) : rIsNon (.int i) .non H Q := ⟨rfl, q⟩
theorem iIsNR {i : Addr} (q : Q (.bl false) H) : rIsNon (.ref i) .non H Q := ⟨rfl, q⟩
theorem iIsNS {i : Str} (q : Q (.bl false) H) : rIsNon (.str i) .non H Q := ⟨rfl, q⟩
theorem iNoNN (q : Q (.bl false) H) : rNotNon .non .non H Q := ⟨rfl, q⟩
theorem iNoNI {i : Int} (q : Q (.bl true) H) : rNotNon (.int i) .non H Q := ⟨rfl, q⟩
theorem iNoNR {i : Addr} (q : Q (.bl true) H) : rNotNon (.ref i) .non H Q := ⟨rfl, q⟩
theorem iNoNS {i : Str} (q : Q (.bl true) H) : rNotNon (.str i) .non H Q := ⟨rfl, q⟩
theorem iIsV {x : V} (q : Q (.bl (decide (x = .non))) H) : rIsNon x .non H Q := ⟨rfl, q⟩
theorem iNoV {x : V} (q : Q (.bl (!decide (x = .non))) H) : rNotNon x .non H Q := ⟨rfl, q⟩
theorem iAddS {i j : Str} (h : i.length + j.length ≤ sizeLine) (q : Q (.str (i ++ j)) H) : rAddS (.str i) (.str j) H Q := ⟨i, j, rfl, rfl, h, q⟩
end

/-! ### data -/
mutual
/-- data without truth values and dicts -/
def nb : PyData → Bool
  | .none => true
  | .int _ => true
  | .str _ => true
  | .list xs => nbAll xs
  | .tuple xs => nbAll xs
  | _ => false
def nbAll : List PyData → Bool
  | [] => true
  | x :: xs => nb x && nbAll xs
end
mutual
theorem eqv_of : ∀ {d e : PyData}, nb d = true → nb e = true → PyData.eqv d e = true → d = e
  | .none, e, _, he, h => by cases e <;> first | rfl | (simp [PyData.eqv] at h)
  | .int i, e, _, he, h => by
    cases e with
    | int j => simp [PyData.eqv] at h; rw [h]
    | bool b => simp [nb] at he
    | _ => simp [PyData.eqv] at h
  | .str i, e, _, he, h => by
    cases e with
    | str j => simp [PyData.eqv] at h; rw [h]
    | _ => simp [PyData.eqv] at h
  | .list xs, e, hd, he, h => by
    cases e with
    | list ys =>
      simp only [PyData.eqv] at h
      simp only [nb] at hd he
      rw [eqvAll_of hd he h]
    | _ => simp [PyData.eqv] at h
  | .tuple xs, e, hd, he, h => by
    cases e with
    | tuple ys =>
      simp only [PyData.eqv] at h
      simp only [nb] at hd he
      rw [eqvAll_of hd he h]
    | _ => simp [PyData.eqv] at h
  | .bool b, _, hd, _, _ => by simp [nb] at hd
  | .dict b, _, hd, _, _ => by simp [nb] at hd
theorem eqvAll_of : ∀ {d e : List PyData}, nbAll d = true → nbAll e = true → PyData.eqvAll d e = true → d = e
  | [], [], _, _, _ => rfl
  | [], _ :: _, _, _, h => by simp [PyData.eqvAll] at h
  | _ :: _, [], _, _, h => by simp [PyData.eqvAll] at h
  | x :: xs, y :: ys, hd, he, h => by
    simp only [nbAll, Bool.and_eq_true] at hd he
    simp only [PyData.eqvAll, Bool.and_eq_true] at h
    rw [eqv_of hd.1 he.1 h.1, eqvAll_of hd.2 he.2 h.2]
end
theorem eqv_yes {d : PyData} (hs : SeqAt.shaped d = true) : PyData.eqv d d = true := SeqAt.eqv_refl _ (SeqAt.canLay_of_shaped hs)
theorem eqv_no {d e : PyData} (hd : nb d = true) (he : nb e = true) (h : d ≠ e) : PyData.eqv d e = false := by
  cases q : PyData.eqv d e with
  | false => rfl
  | true => exact absurd (eqv_of hd he q) h
def dI (ns : List Int) : PyData := .list (ns.map .int)
theorem nbAll_ints : ∀ ns : List Int, nbAll (ns.map PyData.int) = true
  | [] => rfl
  | n :: ns => by simp only [List.map_cons, nbAll, nb, nbAll_ints ns]; rfl
theorem canLay_ints : ∀ ns : List Int, PyData.canLayAll0 (ns.map PyData.int) = true
  | [] => by simp [PyData.canLayAll0]
  | n :: ns => by simp [PyData.canLayAll0, PyData.canLay0, canLay_ints ns]
theorem depth_ints : ∀ ns : List Int, PyData.depthAll (ns.map PyData.int) = 0
  | [] => by simp [PyData.depthAll]
  | n :: ns => by simp [PyData.depthAll, PyData.depth, depth_ints ns]
theorem shaped_dI (ns : List Int) : SeqAt.shaped (dI ns) = true := by
  simp [SeqAt.shaped, dI, PyData.canLay0, canLay_ints, PyData.depth, depth_ints]
theorem dI_inj {a b : List Int} : dI a = dI b ↔ a = b := by
  constructor
  · intro h
    have h2 : a.map PyData.int = b.map PyData.int := by
      unfold dI at h
      injection h
    exact List.map_inj_right (fun x y e => by injection e) |>.mp h2
  · intro h
    rw [h]
theorem nb_dI (ns : List Int) : nb (dI ns) = true := by simp [nb, dI, nbAll_ints]
theorem eqv_dI (a b : List Int) : PyData.eqv (dI a) (dI b) = decide (a = b) := by
  by_cases h : a = b
  · subst h
    rw [eqv_yes (shaped_dI a), decide_eq_true rfl]
  · rw [eqv_no (nb_dI a) (nb_dI b) (fun z => h (dI_inj.mp z)), decide_eq_false h]
section
variable {K : PySem.W.Frag} {H : Hp} {Q : VK}
theorem dp_ints : ∀ ns : List Int, DpAll K H (ns.map V.int) (ns.map PyData.int)
  | [] => .nil
  | n :: ns => .cons (.int n) (dp_ints ns)
theorem iEqDI {p q : Addr} {ns ms : List Int} (h : SqL K H p (ns.map V.int)) (h2 : SqL K H q (ms.map V.int)) (k : Q (.bl (decide (ns = ms))) H) : rEqD K (.ref p) (.ref q) H Q :=
  ⟨dI ns, dI ms, .lst h (dp_ints ns), .lst h2 (dp_ints ms), shaped_dI _, shaped_dI _, by rw [eqv_dI]; exact k⟩
theorem iNeDI {p q : Addr} {ns ms : List Int} (h : SqL K H p (ns.map V.int)) (h2 : SqL K H q (ms.map V.int)) (k : Q (.bl (!decide (ns = ms))) H) : rNeD K (.ref p) (.ref q) H Q :=
  ⟨dI ns, dI ms, .lst h (dp_ints ns), .lst h2 (dp_ints ms), shaped_dI _, shaped_dI _, by rw [eqv_dI]; exact k⟩
end
/-! tests -/
theorem iteD {p A B : Prop} [Decidable p] (h1 : p → A) (h2 : ¬p → B) : if decide p = true then A else B := by
  by_cases h : p
  · rw [if_pos (decide_eq_true h)]
    exact h1 h
  · rw [if_neg (by rw [decide_eq_false h]; exact Bool.false_ne_true)]
    exact h2 h
theorem iteN {p A B : Prop} [Decidable p] (h1 : ¬p → A) (h2 : p → B) : if (!decide p) = true then A else B := by
  by_cases h : p
  · rw [decide_eq_true h]
    exact iteF (h2 h)
  · rw [decide_eq_false h]
    exact iteT (h1 h)
theorem iteYes {p A B : Prop} [Decidable p] (h : p) (h1 : A) : if decide p = true then A else B := by
  rw [if_pos (decide_eq_true h)]
  exact h1
theorem iteNo {p A B : Prop} [Decidable p] (h : ¬p) (h1 : B) : if decide p = true then A else B := by
  rw [if_neg (by rw [decide_eq_false h]; exact Bool.false_ne_true)]
  exact h1
theorem iteNYes {p A B : Prop} [Decidable p] (h : ¬p) (h1 : A) : if (!decide p) = true then A else B := by
  rw [decide_eq_false h]
  exact iteT h1
theorem iteNNo {p A B : Prop} [Decidable p] (h : p) (h1 : B) : if (!decide p) = true then A else B := by
  rw [decide_eq_true h]
  exact iteF h1
end U
/-! ### ways that join, sizes, places -/
namespace U
open PySem PySem.Spec PyProof.Rows L2
section
variable {K : PySem.W.Frag} {σ : L2.St} {H : Hp} {Q : VK} {ta tb te : TE} {nx bk ct : L2.St → Hp → Prop} {rt : VK}
theorem iIfK {t : TT} (M : VK) (h : ∀ Q' : VK, (∀ v H', M v H' → Q' v H') → t σ H fun c H1 => if c = true then ta σ H1 Q' else tb σ H1 Q') (k : ∀ v H', M v H' → Q v H') : tIf t ta tb σ H Q := h Q k
theorem iSeqK {t u : TS} (M : L2.St → Hp → Prop) (h : ∀ nx' : L2.St → Hp → Prop, (∀ σ' H', M σ' H' → nx' σ' H') → t ⟨nx', rt, bk, ct⟩ σ H) (k : ∀ σ' H', M σ' H' → u ⟨nx, rt, bk, ct⟩ σ' H') : tSeq t u ⟨nx, rt, bk, ct⟩ σ H := h _ k
theorem iTK {t : TT} {R : Bool → Hp → Prop} (M : Bool → Hp → Prop) (h : ∀ R' : Bool → Hp → Prop, (∀ b H', M b H' → R' b H') → t σ H R') (k : ∀ b H', M b H' → R b H') : t σ H R := h R k
theorem iK (M : VK) {te : TE} (h : ∀ Q' : VK, (∀ v H', M v H' → Q' v H') → te σ H Q') (k : ∀ v H', M v H' → Q v H') : te σ H Q := h Q k
theorem iSz {xs : List V} {R : Prop} (h : Nat.ble xs.length 1000 = true) (q : R) : xs.length ≤ sizeLine ∧ R := ⟨Nat.le_trans (Nat.le_of_ble_eq_true h) (by decide), q⟩
theorem ixN_nat {n j : Nat} {i : Int} (e : i = (j : Int)) (h : j < n) : ixN n i = some j := by
  subst e
  unfold ixN
  rw [if_pos (by omega), if_pos (by omega)]
  simp
theorem at_ints {cs : List Int} {j : Nat} {i : Int} (e : i = (j : Int)) (h : j < cs.length) : atI (cs.map V.int) i = some (.int cs[j]) := at_of e (by rw [List.getElem?_map, List.getElem?_eq_getElem h]; rfl)
theorem set_ints {cs : List Int} {j : Nat} {x : Int} : (cs.map V.int).set j (.int x) = (cs.set j x).map V.int := List.map_set.symm
end
end U
namespace U
open PySem PySem.Spec PyProof.Rows L2
section
variable {K : PySem.W.Frag} {σ : L2.St} {H : Hp} {Q : VK}
theorem gVar {i : Nat} (h : ∃ v, σ[i]? = some (some v) ∧ Q v H) : tVar i σ H Q := h
theorem gIxL {p : Addr} {i : Int} (h : ∃ xs, SqL K H p xs ∧ ∃ v, atI xs i = some v ∧ Q v H) : rIxL K (.ref p) (.int i) H Q := let ⟨xs, a, v, b, c⟩ := h; ⟨p, xs, i, v, rfl, rfl, a, b, c⟩
theorem gIxT {p : Addr} {i : Int} (h : ∃ xs, SqT K H p xs ∧ ∃ v, atI xs i = some v ∧ Q v H) : rIxT K (.ref p) (.int i) H Q := let ⟨xs, a, v, b, c⟩ := h; ⟨p, xs, i, v, rfl, rfl, a, b, c⟩
theorem gLenL {p : Addr} (h : ∃ ys, SqL K H p ys ∧ Q (.int ys.length) H) : rLenU K [.ref p] H Q := let ⟨ys, a, b⟩ := h; ⟨p, ys, rfl, .inl a, b⟩
theorem gLenT {p : Addr} (h : ∃ ys, SqT K H p ys ∧ Q (.int ys.length) H) : rLenU K [.ref p] H Q := let ⟨ys, a, b⟩ := h; ⟨p, ys, rfl, .inr a, b⟩
theorem gSetL {p : Addr} {k : Int} {v : V} {R : Hp → Prop} (h : ∃ xs, H p = some (.lst xs) ∧ ∃ j, ixN xs.length k = some j ∧ R (upd H p (.lst (xs.set j v)))) : rSetL (.ref p) (.int k) v H R := let ⟨xs, a, j, b, c⟩ := h; ⟨p, xs, k, j, rfl, rfl, a, b, c⟩
theorem gAppend {p : Addr} {y : V} (h : ∃ xs, H p = some (.lst xs) ∧ xs.length < sizeLine ∧ Q .non (upd H p (.lst (xs ++ [y])))) : rAppend (.ref p) [y] H Q := let ⟨xs, a, b, c⟩ := h; ⟨p, xs, y, rfl, rfl, a, b, c⟩
end
end U
/-! ### loops and comprehensions -/
namespace U
open PySem PySem.Spec PyProof.Rows L2
def LoopS (J : It) (g : TG) (tb : TS) (nx : L2.St → Hp → Prop) (rt : VK) (σ : L2.St) (H1 : Hp) : Prop := ∃ W : Nat → Nat → L2.St → Hp → Prop, (∃ m, W 0 m σ H1) ∧ ∀ i m σ H, W i m σ H →
  (J.stop i H ∧ nx σ H) ∨ (J.go i H ∧ ∃ N : L2.St → Hp → Prop, (∀ σ' H', N σ' H' → ∃ m', m' < m ∧ W (i + 1) m' σ' H') ∧ ∀ x H', J.yld i H x H' → g x σ H' fun σ2 H2 => tb ⟨N, rt, nx, N⟩ σ2 H2)
def CompS (J : It) (g : TG) (tt : TT) (te : TE) (vs : List Nat) (σ : L2.St) (D : Addr) (Qd : Hp → Prop) (H1 : Hp) : Prop := ∃ W : Nat → Nat → Hp → Prop, (∃ m, W 0 m (upd H1 D (.lst []))) ∧ ∀ i m H, W i m H →
  (J.stop i H ∧ Qd H) ∨ (J.go i H ∧ ∃ Nx : Hp → Prop, (∀ H', Nx H' → ∃ m', m' < m ∧ W (i + 1) m' H') ∧ ∀ x H', J.yld i H x H' → g x (wipe σ vs) H' fun σ2 H2 => wipe σ2 vs = wipe σ vs ∧ tt σ2 H2 fun b H3 =>
    if b = true then te σ2 H3 fun y H4 => ∃ acc, H4 D = some (.lst acc) ∧ acc.length < sizeLine ∧ Nx (upd H4 D (.lst (acc ++ [y]))) else Nx H3)
def WL (K : PySem.W.Frag) (R : It → Hp → Prop) (x : V) (H1 : Hp) : Prop := ∃ a, x = .ref a ∧ (∃ xs, SqL K H1 a xs) ∧ R (Itl K a) H1
def WT (K : PySem.W.Frag) (R : It → Hp → Prop) (x : V) (H1 : Hp) : Prop := ∃ a, x = .ref a ∧ (∃ xs, SqT K H1 a xs) ∧ R (Itt K a) H1
def WE (K : PySem.W.Frag) (R : It → Hp → Prop) (vs : List V) (H1 : Hp) : Prop := ∃ a xs, vs = [.ref a] ∧ SqL K H1 a xs ∧ R (Ite K a) H1
def WR1 (R : It → Hp → Prop) (vs : List V) (H1 : Hp) : Prop := ∃ j : Int, vs = [.int j] ∧ -(2 ^ 62) ≤ j ∧ j < 2 ^ 62 ∧ R (Itr 0 j.toNat) H1
def WR2 (R : It → Hp → Prop) (vs : List V) (H1 : Hp) : Prop := ∃ i j : Int, vs = [.int i, .int j] ∧ (-(2 ^ 62) ≤ i ∧ i < 2 ^ 62 ∧ -(2 ^ 62) ≤ j ∧ j < 2 ^ 62) ∧ R (Itr i (j - i).toNat) H1
def WS (R : It → Hp → Prop) (v : V) (H1 : Hp) : Prop := ∃ x, v = .str x ∧ R (Its x) H1
section
variable {K : PySem.W.Frag} {σ : L2.St} {H : Hp} {Q : VK} {nx bk ct : L2.St → Hp → Prop} {rt : VK} {R : It → Hp → Prop} {tl : TE} {ta : TA} {J : It} {g : TG} {tb : TS}
theorem iFor {wi : TI} (h : wi σ H fun J H1 => LoopS J g tb nx rt σ H1) : tFor wi g tb ⟨nx, rt, bk, ct⟩ σ H := h
theorem iLc {wi : TI} {tt : TT} {te : TE} {vs : List Nat} (h : wi σ H fun J H1 => ∀ D, H1 D = none → CompS J g tt te vs σ D (fun H' => Q (.ref D) H') H1) : tLc wi g tt te vs σ H Q := h
theorem iWL (h : tl σ H (WL K R)) : iList K tl σ H R := h
theorem iWT (h : tl σ H (WT K R)) : L2.iTup K tl σ H R := h
theorem iWE (h : ta σ H (WE K R)) : iEnum K ta σ H R := h
theorem iWR1 (h : ta σ H (WR1 R)) : iRng1 ta σ H R := h
theorem iWR2 (h : ta σ H (WR2 R)) : iRng2 ta σ H R := h
theorem iWS (h : tl σ H (WS R)) : iStr tl σ H R := h
theorem gWL {a : Addr} (h : ∃ xs, SqL K H a xs ∧ R (Itl K a) H) : WL K R (.ref a) H := let ⟨xs, p, q⟩ := h; ⟨a, rfl, ⟨xs, p⟩, q⟩
theorem gWT {a : Addr} (h : ∃ xs, SqT K H a xs ∧ R (Itt K a) H) : WT K R (.ref a) H := let ⟨xs, p, q⟩ := h; ⟨a, rfl, ⟨xs, p⟩, q⟩
theorem gWE {a : Addr} (h : ∃ xs, SqL K H a xs ∧ R (Ite K a) H) : WE K R [.ref a] H := let ⟨xs, p, q⟩ := h; ⟨a, xs, rfl, p, q⟩
theorem gWR1 {j : Int} (h : -(2 ^ 62) ≤ j ∧ j < 2 ^ 62) (q : R (Itr 0 j.toNat) H) : WR1 R [.int j] H := ⟨j, rfl, h.1, h.2, q⟩
theorem gWR2 {i j : Int} (h : -(2 ^ 62) ≤ i ∧ i < 2 ^ 62 ∧ -(2 ^ 62) ≤ j ∧ j < 2 ^ 62) (q : R (Itr i (j - i).toNat) H) : WR2 R [.int i, .int j] H := ⟨i, j, rfl, h, q⟩
theorem gWS {x : Str} (q : R (Its x) H) : WS R (.str x) H := ⟨x, rfl, q⟩
/-- a loop over anything walked -/
theorem eFor {n : Nat} {G : Hp → Prop} {Y : Nat → Hp → V → Hp → Prop} (w : Walk J n G Y) (I : Nat → L2.St → Hp → Prop) (h0 : I 0 σ H) (hG : ∀ i σ H, i ≤ n → I i σ H → G H)
    (hs : ∀ i x σ H H', i < n → I i σ H → Y i H x H' → g x σ H' fun σ2 H2 => tb ⟨I (i + 1), rt, nx, I (i + 1)⟩ σ2 H2) (hd : ∀ σ H, I n σ H → nx σ H) : LoopS J g tb nx rt σ H :=
  for_it w (D := ⟨nx, rt, nx, nx⟩) I h0 hG hs hd
theorem eForL {a : Addr} {xs : List V} (I : Nat → L2.St → Hp → Prop) (h0 : I 0 σ H) (hG : ∀ i σ H, i ≤ xs.length → I i σ H → SqL K H a xs)
    (hs : ∀ i x σ H, xs[i]? = some x → I i σ H → g x σ H fun σ2 H2 => tb ⟨I (i + 1), rt, nx, I (i + 1)⟩ σ2 H2) (hd : ∀ σ H, I xs.length σ H → nx σ H) : LoopS (Itl K a) g tb nx rt σ H :=
  eFor walk_list I h0 hG (fun i x σ H H' _ h ⟨e, y⟩ => by subst e; exact hs i x σ _ y h) hd
theorem eForT {a : Addr} {xs : List V} (I : Nat → L2.St → Hp → Prop) (h0 : I 0 σ H) (hG : ∀ i σ H, i ≤ xs.length → I i σ H → SqT K H a xs)
    (hs : ∀ i x σ H, xs[i]? = some x → I i σ H → g x σ H fun σ2 H2 => tb ⟨I (i + 1), rt, nx, I (i + 1)⟩ σ2 H2) (hd : ∀ σ H, I xs.length σ H → nx σ H) : LoopS (Itt K a) g tb nx rt σ H :=
  eFor walk_tup I h0 hG (fun i x σ H H' _ h ⟨e, y⟩ => by subst e; exact hs i x σ _ y h) hd
theorem eForR {lo : Int} {n : Nat} (I : Nat → L2.St → Hp → Prop) (h0 : I 0 σ H)
    (hs : ∀ i σ H, i < n → I i σ H → g (.int (lo + i)) σ H fun σ2 H2 => tb ⟨I (i + 1), rt, nx, I (i + 1)⟩ σ2 H2) (hd : ∀ σ H, I n σ H → nx σ H) : LoopS (Itr lo n) g tb nx rt σ H :=
  eFor walk_range I h0 (fun _ _ _ _ _ => trivial) (fun i x σ H H' hi h ⟨e, y⟩ => by subst e y; exact hs i σ _ hi h) hd
theorem eForE {a : Addr} {xs : List V} (I : Nat → L2.St → Hp → Prop) (h0 : I 0 σ H) (hG : ∀ i σ H, i ≤ xs.length → I i σ H → SqL K H a xs)
    (hs : ∀ i x σ H T, xs[i]? = some x → I i σ H → H T = none → g (.ref T) σ (upd H T (.tup [.int (i : Nat), x])) fun σ2 H2 => tb ⟨I (i + 1), rt, nx, I (i + 1)⟩ σ2 H2) (hd : ∀ σ H, I xs.length σ H → nx σ H) : LoopS (Ite K a) g tb nx rt σ H :=
  eFor walk_enum I h0 hG (fun i x σ H H' _ h ⟨T, a, b, e1, e2, e3, e4, e5⟩ => by
    subst e1 e3
    cases (Option.some.inj e4)
    exact hs i b σ _ T e5 h e2) hd
/-- a comprehension over anything walked -/
theorem eLc {n : Nat} {G : Hp → Prop} {Y : Nat → Hp → V → Hp → Prop} {tt : TT} {te : TE} {vs : List Nat} {D : Addr} {Qd : Hp → Prop} (w : Walk J n G Y) (I : Nat → Hp → Prop) (h0 : I 0 (upd H D (.lst []))) (hG : ∀ i H, i ≤ n → I i H → G H)
    (hs : ∀ i x H H', i < n → I i H → Y i H x H' → g x (wipe σ vs) H' fun σ2 H2 => wipe σ2 vs = wipe σ vs ∧ tt σ2 H2 fun b H3 =>
      if b = true then te σ2 H3 fun y H4 => ∃ acc, H4 D = some (.lst acc) ∧ acc.length < sizeLine ∧ I (i + 1) (upd H4 D (.lst (acc ++ [y]))) else I (i + 1) H3) (hd : ∀ H, I n H → Qd H) : CompS J g tt te vs σ D Qd H := lc_it w I h0 hG hs hd
theorem eLcL {a : Addr} {xs : List V} {tt : TT} {te : TE} {vs : List Nat} {D : Addr} {Qd : Hp → Prop} (I : Nat → Hp → Prop) (h0 : I 0 (upd H D (.lst []))) (hG : ∀ i H, i ≤ xs.length → I i H → SqL K H a xs)
    (hs : ∀ i x H, xs[i]? = some x → I i H → g x (wipe σ vs) H fun σ2 H2 => wipe σ2 vs = wipe σ vs ∧ tt σ2 H2 fun b H3 =>
      if b = true then te σ2 H3 fun y H4 => ∃ acc, H4 D = some (.lst acc) ∧ acc.length < sizeLine ∧ I (i + 1) (upd H4 D (.lst (acc ++ [y]))) else I (i + 1) H3) (hd : ∀ H, I xs.length H → Qd H) : CompS (Itl K a) g tt te vs σ D Qd H :=
  eLc walk_list I h0 hG (fun i x H H' _ h ⟨e, y⟩ => by subst e; exact hs i x _ y h) hd
theorem eLcT {a : Addr} {xs : List V} {tt : TT} {te : TE} {vs : List Nat} {D : Addr} {Qd : Hp → Prop} (I : Nat → Hp → Prop) (h0 : I 0 (upd H D (.lst []))) (hG : ∀ i H, i ≤ xs.length → I i H → SqT K H a xs)
    (hs : ∀ i x H, xs[i]? = some x → I i H → g x (wipe σ vs) H fun σ2 H2 => wipe σ2 vs = wipe σ vs ∧ tt σ2 H2 fun b H3 =>
      if b = true then te σ2 H3 fun y H4 => ∃ acc, H4 D = some (.lst acc) ∧ acc.length < sizeLine ∧ I (i + 1) (upd H4 D (.lst (acc ++ [y]))) else I (i + 1) H3) (hd : ∀ H, I xs.length H → Qd H) : CompS (Itt K a) g tt te vs σ D Qd H :=
  eLc walk_tup I h0 hG (fun i x H H' _ h ⟨e, y⟩ => by subst e; exact hs i x _ y h) hd
theorem eLcR {lo : Int} {n : Nat} {tt : TT} {te : TE} {vs : List Nat} {D : Addr} {Qd : Hp → Prop} (I : Nat → Hp → Prop) (h0 : I 0 (upd H D (.lst [])))
    (hs : ∀ i H, i < n → I i H → g (.int (lo + i)) (wipe σ vs) H fun σ2 H2 => wipe σ2 vs = wipe σ vs ∧ tt σ2 H2 fun b H3 =>
      if b = true then te σ2 H3 fun y H4 => ∃ acc, H4 D = some (.lst acc) ∧ acc.length < sizeLine ∧ I (i + 1) (upd H4 D (.lst (acc ++ [y]))) else I (i + 1) H3) (hd : ∀ H, I n H → Qd H) : CompS (Itr lo n) g tt te vs σ D Qd H :=
  eLc walk_range I h0 (fun _ _ _ _ => trivial) (fun i x H H' hi h ⟨e, y⟩ => by subst e y; exact hs i _ hi h) hd
theorem iYes {R : Bool → Hp → Prop} (q : R true H) : tYes σ H R := q
theorem gTupE {n : Nat} {t : TGs} {a : Addr} {S : L2.St → Hp → Prop} (h : ∃ xs, SqT K H a xs ∧ xs.length = n ∧ t xs σ H S) : gTup K n t (.ref a) σ H S := let ⟨xs, p, q, r⟩ := h; ⟨a, xs, rfl, p, q, r⟩
theorem gConsE {t : TG} {u : TGs} {v : V} {r : List V} {S : L2.St → Hp → Prop} (h : t v σ H fun σ' H' => u r σ' H' S) : gCons t u (v :: r) σ H S := ⟨v, r, rfl, h⟩
theorem gNilE {S : L2.St → Hp → Prop} (h : S σ H) : gNil [] σ H S := ⟨rfl, h⟩
end
end U
namespace U
open PySem PySem.Spec PyProof.Rows L2
theorem gBl {b : Bool} {R : Bool → Prop} (h : R b) : ∃ k, V.bl b = V.bl k ∧ R k := ⟨b, rfl, h⟩
theorem gInt {b : Int} {R : Int → Prop} (h : R b) : ∃ k, V.int b = V.int k ∧ R k := ⟨b, rfl, h⟩
theorem gPar {v w : V} {R : V → V → Prop} (h : R v w) : ∃ v' w', [v, w] = [v', w'] ∧ R v' w' := ⟨v, w, rfl, h⟩
theorem gPar3 {u v w : V} {R : V → V → V → Prop} (h : R u v w) : ∃ u' v' w', [u, v, w] = [u', v', w'] ∧ R u' v' w' := ⟨u, v, w, rfl, h⟩
theorem gWipe2 {a b : L2.St} {R : Prop} (e : a = b) (h : R) : a = b ∧ R := ⟨e, h⟩
theorem gWipe {σ : L2.St} {R : Prop} (h : R) : σ = σ ∧ R := ⟨rfl, h⟩
end U
/-! ### tuples -/
namespace U
open PySem PySem.Spec PyProof.Rows L2
theorem tuple_mul1 (l : Addr) (items : Array Value) (n : Nat) (dd : Option Addr) (sl : Array (Option Value)) (u : Tok) :
    Meets (Builtin.«tuple.__mul__» ⟨[.ref l, .int 1 u], []⟩) (fun _ R s => s.heap.get? l = some { cls := .type "tuple", dict := dd, data := .seq items n, slots := sl } ∧ R (.ok (.ret (.ref l))) s) :=
  .of_wp fun prog w A R s h => by
    obtain ⟨hp, g, d, tk, os⟩ := s
    obtain ⟨hl, h⟩ := h
    have f1 := AutoSeq1.idx_int
    have c0 : (decide ((1 : Int) < -(2 ^ 63)) || decide ((1 : Int) ≥ 2 ^ 63)) = false := by decide
    have c1 : (items.isEmpty || (1 : Int) == 1) = true := by simp
    wp_walk using wpAny_loadPart' hl
    repeat (first
      | (refine wpAny_ite_false (decide_eq_false (by rw [c0]; exact Bool.false_ne_true)) ?_; wp_walk using wpAny_loadPart' hl)
      | (refine wpAny_ite_true (decide_eq_true c1) ?_; wp_walk using wpAny_loadPart' hl))
    exact ⟨_, rfl, h⟩
section
variable {X : Cx} {K : PySem.W.Frag} {H : Hp} {Q : VK}
def rRep1 (K : PySem.W.Frag) : R2 := fun x y H Q => ∃ l xs, x = .ref l ∧ y = .int 1 ∧ SqT K H l xs ∧ Q (.ref l) H
theorem op_rep1 : OpR X (binaryOp .Mult) (rRep1 X.K) := by
  intro pins s σ H x y v u Q I rx ry h
  obtain ⟨l, xs, rfl, rfl, hT, q⟩ := h
  cases rx
  obtain ⟨t, rfl⟩ := ry
  obtain ⟨its, r, ⟨⟨cls, dd, data, sl⟩, ho, hc, n, hd⟩, hs⟩ := I.tuple hT
  simp only at hc hd
  subst hc hd
  refine wpAny_binaryOp_repeat_ref (T := "tuple") (U := "int") (by decide) ⟨_, ho, rfl⟩ (fun s' => typeIs_int s' 1 t) noFill_tuple_mul F.fills_int_mul F.slot_int_rmul repeat_tuple F.slot_int_index.lookup
    (call_meets F.slot_int_rmul (typeIs_int s 1 t) F.entry_int_rmul (F.args_int_rmul_2 _ _) (int_rmul_tuple 1 t l its.toArray n dd sl)
      ⟨ho, rfl, ⟨_, ho, rfl⟩, call_meets F.slot_tuple_mul ⟨_, ho, rfl⟩ F.entry_tuple_mul (F.args_tuple_mul_2 _ _) (tuple_mul1 l its.toArray n dd sl t) ⟨ho, ?_⟩⟩)
  exact ⟨.ref l, H, I, rfl, q⟩
def rRepA (K : PySem.W.Frag) : R2 := fun x y H Q => rRepT K x y H Q ∨ rRep1 K x y H Q
theorem op_repTA : OpR X (binaryOp .Mult) (rRepA X.K) := OpR.or op_repT op_rep1
/-- a tuple k times, 1 or more -/
theorem iRepA {l : Addr} {k : Int} {xs : List V} (h : SqT K H l xs) (hne : xs ≠ []) (k1 : 1 ≤ k) (k2 : k ≤ 1000) (hl : xs.length ≤ 1000) (q : ∀ c H', Same H H' → SqT K H' c (List.replicate k.toNat xs).flatten → Q (.ref c) H') : rRepA K (.ref l) (.int k) H Q := by
  by_cases h1 : k = 1
  · subst h1
    refine .inr ⟨l, xs, rfl, rfl, h, q l H (Same.refl H) ?_⟩
    simpa using h
  · exact .inl ⟨l, k, xs, rfl, rfl, h, hne, by omega, k2, hl, fun p np => q p _ (same_new np) (SqT.of upd_same)⟩
theorem iCatA {a b : Addr} {xs ys : List V} (h : SqT K H a xs) (h2 : SqT K H b ys) (z : xs.length + ys.length ≤ sizeLine) (q : ∀ c H', Same H H' → SqT K H' c (xs ++ ys) → Q (.ref c) H') : rCatA K (.ref a) (.ref b) H Q :=
  ⟨a, b, xs, ys, rfl, rfl, h, h2, z, fun e => q b H (Same.refl H) (by rw [e]; exact h2), fun _ e => q a H (Same.refl H) (by rw [e, List.append_nil]; exact h), fun _ _ p np => q p _ (same_new np) (SqT.of upd_same)⟩
theorem cutV_all {xs : List V} {lo hi : Option Int} (e : HT.sIx xs.length 0 lo = 0 ∧ HT.sIx xs.length xs.length hi = xs.length) : cutV xs lo hi = xs := by
  unfold cutV
  rw [e.1, e.2]
  simp
theorem iSlA {a : Addr} {xs : List V} {lo hi : Option Int} (h : SqT K H a xs) (q : ∀ c H', Same H H' → SqT K H' c (cutV xs lo hi) → Q (.ref c) H') : rSlA K (.ref a) lo hi H Q :=
  ⟨a, xs, rfl, h, fun e => q a H (Same.refl H) (by rw [cutV_all e]; exact h), fun _ p np => q p _ (same_new np) (SqT.of upd_same)⟩
theorem iSlL {a : Addr} {xs : List V} {lo hi : Option Int} (h : SqL K H a xs) (q : ∀ p, H p = none → Q (.ref p) (upd H p (.lst (cutV xs lo hi)))) : rSlL K (.ref a) lo hi H Q := ⟨a, xs, rfl, h, q⟩
theorem Same.sqT {H' : Hp} {a : Addr} {xs : List V} (s : Same H H') (h : SqT K H a xs) : SqT K H' a xs := (Fr.same (S := []) s).sqT h
end
end U
/-! ### dicts -/
namespace U
open PySem PySem.Spec PyProof.Rows L2
section
variable {X : Cx} {K : PySem.W.Frag} {σ : L2.St} {H : Hp} {Q : VK}
theorem mergeK_le : ∀ (ks kvs : List (Key × V)), (mergeK kvs ks).length ≤ kvs.length + ks.length
  | [], kvs => Nat.le_refl _
  | k :: ks, kvs => by
    have h := mergeK_le ks (putK kvs k.1 k.2)
    have h2 : (putK kvs k.1 k.2).length ≤ kvs.length + 1 := by
      unfold putK
      split
      · rw [List.length_map]; omega
      · rw [List.length_append]; simp
    show (mergeK (putK kvs k.1 k.2) ks).length ≤ _
    rw [List.length_cons]
    omega
def rUpdK : V → List V → Hp → VK → Prop := fun x vs H Q => ∃ a b kvs ks, x = .ref a ∧ vs = [.ref b] ∧ a ≠ b ∧ H a = some (.dK kvs) ∧ H b = some (.dK ks) ∧ kvs.length + ks.length ≤ sizeLine ∧ Q .non (upd H a (.dK (mergeK kvs ks)))
theorem mt_update : MtR X "dict.update" rUpdK := by
  intro pins s σ H x xs v us Q I rx rxs h
  obtain ⟨a, b, kvs, ks, rfl, rfl, ne, ea, eb, hz, q⟩ := h
  cases rx
  obtain ⟨u1, rfl, r1⟩ := vals1 rxs
  cases r1
  obtain ⟨z, hd, vs, rel, dd⟩ := dk_of I.hok ea
  obtain ⟨z2, hd2, vs2, rel2, dd2⟩ := dk_of I.hok eb
  refine call_meetsIn PySem.F.slot_dict_update dd.typeIs PySem.F.entry_dict_update (PySem.F.args_dict_update_2 _ _) (meets_dict_update (mixKind X.prog X.w) a b ne hd2) ⟨vs, vs2, dd, dd2, by rw [← rel.length, ← rel2.length]; exact hz, fun h' dd' _ hs => ?_⟩
  have he : ∃ q, h'.get? a = some q := let ⟨q, _, _, hq, _⟩ := dd'; ⟨q, hq⟩
  exact ⟨.non, _, d_write (t' := s.toks) I (by rw [ea]; exact True.intro) hs he (dk_new (Nat.le_trans (mergeK_le ks kvs) hz) hd (KV.merge rel2 rel) dd'), rfl, q⟩
def rDGet : V → V → Hp → VK → Prop := fun x y H Q => ∃ a v, x = .ref a ∧ DGet H a y (some v) ∧ Q v H
def rDIn : V → V → Hp → VK → Prop := fun y x H Q => ∃ a o, x = .ref a ∧ DGet H a y o ∧ Q (.bl o.isSome) H
def rDNotIn : V → V → Hp → VK → Prop := fun y x H Q => ∃ a o, x = .ref a ∧ DGet H a y o ∧ Q (.bl (!o.isSome)) H
theorem iDGetE {td ty : TE} (h : td σ H fun x H1 => ty σ H1 fun y H2 => rDGet x y H2 Q) : tDGet td ty σ H Q := h
theorem iDInE {td ty : TE} (h : ty σ H fun y H1 => td σ H1 fun x H2 => rDIn y x H2 Q) : tDIn ty td σ H Q := h
theorem iDNotInE {td ty : TE} (h : ty σ H fun y H1 => td σ H1 fun x H2 => rDNotIn y x H2 Q) : tDNotIn ty td σ H Q := h
theorem iDGI {a : Addr} {kvs : List (Key × V)} {k : Int} {v : V} (h : H a = some (.dK kvs)) (e : valV kvs (.inl k) = some v) (q : Q v H) : rDGet (.ref a) (.int k) H Q := ⟨a, v, rfl, by rw [← e]; exact DGet.k (k := .inl k) h, q⟩
theorem iDGS {a : Addr} {kvs : List (Key × V)} {k : Str} {v : V} (h : H a = some (.dK kvs)) (e : valV kvs (.inr k) = some v) (q : Q v H) : rDGet (.ref a) (.str k) H Q := ⟨a, v, rfl, by rw [← e]; exact DGet.k (k := .inr k) h, q⟩
theorem iDII {a : Addr} {kvs : List (Key × V)} {k : Int} (h : H a = some (.dK kvs)) (q : Q (.bl (valV kvs (.inl k)).isSome) H) : rDIn (.int k) (.ref a) H Q := ⟨a, _, rfl, DGet.k (k := .inl k) h, q⟩
theorem iDNI {a : Addr} {kvs : List (Key × V)} {k : Int} (h : H a = some (.dK kvs)) (q : Q (.bl (!(valV kvs (.inl k)).isSome)) H) : rDNotIn (.int k) (.ref a) H Q := ⟨a, _, rfl, DGet.k (k := .inl k) h, q⟩
theorem iDIS {a : Addr} {kvs : List (Key × V)} {k : Str} (h : H a = some (.dK kvs)) (q : Q (.bl (valV kvs (.inr k)).isSome) H) : rDIn (.str k) (.ref a) H Q := ⟨a, _, rfl, DGet.k (k := .inr k) h, q⟩
end
section
variable {σ : L2.St} {H : Hp} {nx bk ct : L2.St → Hp → Prop} {rt : VK} {td ty tv : TE}
def rDPut (x y v : V) (H : Hp) (R : Hp → Prop) : Prop := ∃ a H4, x = .ref a ∧ DPut H a y v H4 ∧ R H4
theorem iDPutE (h : tv σ H fun v H1 => td σ H1 fun x H2 => ty σ H2 fun y H3 => rDPut x y v H3 fun H4 => nx σ H4) : sDPut td ty tv ⟨nx, rt, bk, ct⟩ σ H := h
theorem iDPI {a : Addr} {kvs : List (Key × V)} {k : Int} {v : V} {R : Hp → Prop} (h : H a = some (.dK kvs)) (hl : kvs.length < sizeLine) (q : R (upd H a (.dK (putK kvs (.inl k) v)))) : rDPut (.ref a) (.int k) v H R := ⟨a, _, rfl, DPut.k (k := .inl k) h hl, q⟩
theorem iDPS {a : Addr} {kvs : List (Key × V)} {k : Str} {v : V} {R : Hp → Prop} (h : H a = some (.dK kvs)) (hl : kvs.length < sizeLine) (q : R (upd H a (.dK (putK kvs (.inr k) v)))) : rDPut (.ref a) (.str k) v H R := ⟨a, _, rfl, DPut.k (k := .inr k) h hl, q⟩
end
end U
namespace U
open PySem PySem.Spec PyProof.Rows L2
theorem gTyL {K : PySem.W.Frag} {H : Hp} {p : Addr} {R : Prop} (h : ∃ xs, SqL K H p xs) (q : R) : tyV K "list" (.ref p) H ∧ R := ⟨.inl ⟨rfl, h⟩, q⟩
theorem gTyD {K : PySem.W.Frag} {H : Hp} {p : Addr} {R : Prop} (h : ∃ xs, H p = some (.dK xs)) (q : R) : tyV K "dict" (.ref p) H ∧ R := ⟨.inr (.inr (.inl ⟨rfl, .inl h⟩)), q⟩
theorem sqT_same {K : PySem.W.Frag} {H H' : Hp} {a : Addr} {xs : List V} (s : Same H H') (h : SqT K H a xs) : SqT K H' a xs := (Fr.same (S := []) s).sqT h
theorem pGet {α β : Type} {R : α → β → Prop} : ∀ {as : List α} {bs : List β} {i : Nat} {b : β}, Paired R as bs → bs[i]? = some b → ∃ a, as[i]? = some a ∧ R a b
  | _, _, _, _, .nil, e => by simp at e
  | _, _, 0, _, .cons r _, e => by simp at e; subst e; exact ⟨_, rfl, r⟩
  | _, _, i + 1, b, .cons _ t, e => by
    obtain ⟨a, h1, h2⟩ := pGet (i := i) (b := b) t (by simpa using e)
    exact ⟨a, by simpa using h1, h2⟩
theorem pGetL {α β : Type} {R : α → β → Prop} : ∀ {as : List α} {bs : List β} {i : Nat} {a : α}, Paired R as bs → as[i]? = some a → ∃ b, bs[i]? = some b ∧ R a b
  | _, _, _, _, .nil, e => by simp at e
  | _, _, 0, _, .cons r _, e => by simp at e; subst e; exact ⟨_, rfl, r⟩
  | _, _, i + 1, b, .cons _ t, e => by
    obtain ⟨a, h1, h2⟩ := pGetL (i := i) (a := b) t (by simpa using e)
    exact ⟨a, by simpa using h1, h2⟩
theorem pSnoc {α β : Type} {R : α → β → Prop} : ∀ {as : List α} {bs : List β} {a : α} {b : β}, Paired R as bs → R a b → Paired R (as ++ [a]) (bs ++ [b])
  | _, _, _, _, .nil, r => .cons r .nil
  | _, _, _, _, .cons q t, r => .cons q (pSnoc t r)
theorem pSet {α β : Type} {R : α → β → Prop} {a : α} {b : β} (r : R a b) : ∀ {as : List α} {bs : List β} (i : Nat), Paired R as bs → Paired R (as.set i a) (bs.set i b)
  | _, _, _, .nil => .nil
  | _, _, 0, .cons _ t => .cons r t
  | _, _, i + 1, .cons q t => .cons q (pSet r i t)
theorem pLen {α β : Type} {R : α → β → Prop} {as : List α} {bs : List β} (h : Paired R as bs) : as.length = bs.length := Paired.length h
theorem pMap {α β : Type} {F G : α → β → Prop} {l₁ : List α} {l₂ : List β} (h : Paired F l₁ l₂) (f : ∀ a b, F a b → G a b) : Paired G l₁ l₂ := Paired.mapP h f
theorem pMapL {α β γ : Type} {R : α → β → Prop} (f : γ → α) {S : γ → β → Prop} (h : ∀ c b, S c b → R (f c) b) : ∀ {cs : List γ} {bs : List β}, Paired S cs bs → Paired R (cs.map f) bs
  | _, _, .nil => .nil
  | _, _, .cons r t => .cons (h _ _ r) (pMapL f h t)
theorem take_succ {α : Type} {l : List α} {i : Nat} {x : α} (h : l[i]? = some x) : l.take (i + 1) = l.take i ++ [x] := by rw [List.take_add_one, h]; rfl
theorem rep_one {α : Type} (x : α) (n : Nat) : (List.replicate n [x]).flatten = List.replicate n x := by
  induction n with
  | zero => rfl
  | succ n ih => rw [List.replicate_succ, List.replicate_succ, List.flatten_cons, ih]; rfl
theorem cut_to {xs : List V} {n : Nat} : cutV xs none (some (n : Int)) = xs.take n := by
  unfold cutV
  rw [show HT.sIx xs.length 0 none = 0 from HT.sIx_none .., HT.sIx_nat]
  rw [List.drop_zero, Nat.sub_zero]
  by_cases h : n ≤ xs.length
  · rw [Nat.min_eq_left h]
  · rw [Nat.min_eq_right (by omega), List.take_of_length_le (Nat.le_refl _), List.take_of_length_le (by omega)]
theorem cut_from {xs : List V} {n : Nat} : cutV xs (some (n : Int)) none = xs.drop n := by
  unfold cutV
  rw [HT.sIx_nat, HT.sIx_none]
  by_cases h : n ≤ xs.length
  · rw [Nat.min_eq_left h, List.take_of_length_le (by rw [List.length_drop]; exact Nat.le_refl _)]
  · rw [Nat.min_eq_right (by omega), List.drop_of_length_le (Nat.le_refl _), List.drop_of_length_le (by omega)]
    simp
end U
namespace U
open PySem PySem.Spec PyProof.Rows L2
theorem hUpd {H : Hp} {a b : Addr} {o u : HO} (n : b ≠ a) (h : H b = some u) : upd H a o b = some u := (upd_ne n).trans h
theorem neN {H : Hp} {a b : Addr} {o : HO} (hb : H b = none) (ha : H a = some o) : a ≠ b := ne_of_none ha hb
theorem sameAt {H H' : Hp} {p : Addr} {o : HO} (s : Same H H') (h : H p = some o) : H' p = some o := s p o h
end U
namespace U
open PySem PySem.Spec PyProof.Rows L2
section
variable {σ σ' : L2.St} {H : Hp} {nx bk ct : L2.St → Hp → Prop} {rt : VK}
theorem nName {i : Nat} {v : V} {R : L2.St → Hp → Prop} (e : σ.set i (some v) = σ') (h : R σ' H) : gName i v σ H R := by subst e; exact h
def PR (nx : L2.St → Hp → Prop) (i j : Nat) (σ : L2.St) (vs : List V) (H1 : Hp) : Prop := ∃ v w, vs = [v, w] ∧ nx ((σ.set i (some v)).set j (some w)) H1
def PR3 (nx : L2.St → Hp → Prop) (i j l : Nat) (σ : L2.St) (vs : List V) (H1 : Hp) : Prop := ∃ u v w, vs = [u, v, w] ∧ nx (((σ.set i (some u)).set j (some v)).set l (some w)) H1
theorem nPar {i j : Nat} {ta : TA} (h : ta σ H (PR nx i j σ)) : tPar i j ta ⟨nx, rt, bk, ct⟩ σ H := h
theorem nPar3 {i j l : Nat} {ta : TA} (h : ta σ H (PR3 nx i j l σ)) : tPar3 i j l ta ⟨nx, rt, bk, ct⟩ σ H := h
theorem nPR {i j : Nat} {v w : V} (e : (σ.set i (some v)).set j (some w) = σ') (h : nx σ' H) : PR nx i j σ [v, w] H := ⟨v, w, rfl, by rw [e]; exact h⟩
theorem nPR3 {i j l : Nat} {u v w : V} (e : ((σ.set i (some u)).set j (some v)).set l (some w) = σ') (h : nx σ' H) : PR3 nx i j l σ [u, v, w] H := ⟨u, v, w, rfl, by rw [e]; exact h⟩
end
end U
namespace U
open PySem PySem.Spec PyProof.Rows L2
theorem kNox {CX : CXT} {P : Program} {w : World} {K : PySem.W.Frag} {mg : Str → Option Value} {base : Heap} {N : List Str} {q : Str} {sc : Scope} {f : Addr} {cd : Value} {A : Around} {o : List Env} {s : Shared} {H : Hp} {E : XK} : (cxOf CX P w K mg base N q sc f cd A o s H E).nox.K = K := rfl
end U
namespace U
open PySem PySem.Spec PyProof.Rows L2
section
variable {H : Hp} {Q : VK}
theorem gCat {l b : Addr} (h : ∃ xs, H l = some (.lst xs) ∧ ∃ zs, H b = some (.lst zs) ∧ xs.length + zs.length ≤ sizeLine ∧ ∀ p, H p = none → Q (.ref p) (upd H p (.lst (xs ++ zs)))) : rCat (.ref l) (.ref b) H Q := let ⟨xs, a, zs, c, d, e⟩ := h; ⟨l, b, xs, zs, rfl, rfl, a, c, d, e⟩
theorem gSorDI {a : Addr} {kvs : List (Key × V)} {ks : List Int} (h : H a = some (.dK kvs)) (e : kvs.map (·.1) = ks.map Sum.inl) (l : ks.length < 64) (q : ∀ p, H p = none → Q (.ref p) (upd H p (.lst ((ks.mergeSort fun a b => decide (a ≤ b)).map V.int)))) : rSorDI [.ref a] H Q :=
  ⟨a, kvs, ks, rfl, .inl h, e, l, fun ys p hp hs np => by rw [PySem.W.os_sorted_mergeSort hp hs]; exact q p np⟩
end
end U
namespace U
section
variable {A B : Prop} {α : Type} {x : α}
theorem oSN (h : B) : if (!(some x).isSome) = true then A else B := h
theorem oNN (h : A) : if (!(none : Option α).isSome) = true then A else B := h
theorem oS (h : A) : if (some x).isSome = true then A else B := h
theorem oN (h : B) : if (none : Option α).isSome = true then A else B := h
theorem oIS (h : B) : if (some x).isNone = true then A else B := h
theorem oIN (h : A) : if (none : Option α).isNone = true then A else B := h
theorem oISN (h : A) : if (!(some x).isNone) = true then A else B := h
theorem oINN (h : B) : if (!(none : Option α).isNone) = true then A else B := h
theorem oNT (h : B) : if (!true) = true then A else B := h
theorem oNF (h : A) : if (!false) = true then A else B := h
end
end U
namespace U
open PySem PySem.Spec PyProof.Rows L2
section
variable {σ : L2.St} {H : Hp} {Q : VK} {td ty tk tv : TE}
theorem iDisp {trs : List (TE × TE)} (h : ∀ p, H p = none → tPairs trs σ (upd H p (.dK [])) fun ps H2 => H2 p = some (.dK []) ∧ ∃ kvs : List (Key × V), ps = kvs.map (fun kv => (kV kv.1, kv.2)) ∧ kvs.length ≤ 15 ∧ Q (.ref p) (upd H2 p (.dK (mergeK [] kvs)))) : tDisp trs σ H Q := h
theorem iPairsN {R : List (V × V) → Hp → Prop} (h : R [] H) : tPairs [] σ H R := h
theorem iPairsC {r : List (TE × TE)} {R : List (V × V) → Hp → Prop} (h : tk σ H fun x H1 => tv σ H1 fun y H2 => tPairs r σ H2 fun ps H3 => R ((x, y) :: ps) H3) : tPairs ((tk, tv) :: r) σ H R := h
def rPopA (ty : TE) (σ : L2.St) (Q : VK) (x : V) (H1 : Hp) : Prop := ∃ a, x = .ref a ∧ IsD H1 a ∧ ty σ H1 fun y H2 => ∃ kvs k v, H2 a = some (.dK kvs) ∧ y = kV k ∧ valV kvs k = some v ∧ Q v (upd H2 a (.dK (dropK kvs k)))
theorem iDPop1 (h : td σ H (rPopA ty σ Q)) : tDPop1 td ty σ H Q := h
theorem gPopA {a : Addr} {kvs : List (Key × V)} (e : H a = some (.dK kvs)) (h : ty σ H fun y H2 => ∃ kvs k v, H2 a = some (.dK kvs) ∧ y = kV k ∧ valV kvs k = some v ∧ Q v (upd H2 a (.dK (dropK kvs k)))) : rPopA ty σ Q (.ref a) H := ⟨a, rfl, .inl ⟨kvs, .inl e⟩, h⟩
theorem iUpdK {a b : Addr} {kvs ks : List (Key × V)} (n : a ≠ b) (ea : H a = some (.dK kvs)) (eb : H b = some (.dK ks)) (z : kvs.length + ks.length ≤ sizeLine) (q : Q .non (upd H a (.dK (mergeK kvs ks)))) : rUpdK (.ref a) [.ref b] H Q := ⟨a, b, kvs, ks, rfl, rfl, n, ea, eb, z, q⟩
end
end U

/-! ### zip of a tuple and a text -/
namespace U
open PySem PySem.Spec PyProof.Rows L2
/-- items with their place in a text: what a turn asks, gives, where it ends -/
def ItzS (Sq : Hp → List V → Prop) (y : Str) : It where
  go i H := ∃ xs x, Sq H xs ∧ xs[i]? = some x ∧ i < y.cps.size
  yld i H v H' := ∃ T x c, v = .ref T ∧ H T = none ∧ H' = upd H T (.tup [x, .str ⟨#[c]⟩]) ∧ (∀ xs, Sq H xs → xs[i]? = some x) ∧ y.cps[i]? = some c
  stop i H := ∃ xs, Sq H xs ∧ i = min xs.length y.cps.size
/-- what a sequence at a gives to zip: St i1 is the state of its iterator i1 -/
structure Src (K : PySem.W.Frag) (a : Addr) (Sq : Hp → List V → Prop) (St : Addr → Nat → Heap → Prop) : Prop where
  there : ∀ {i1 i h}, St i1 i h → ∃ o, h.get? i1 = some o ∧ ∀ v, o.data ≠ .cell v
  stays : ∀ {i1 i h h'}, St i1 i h → (∀ o, h.get? i1 = some o → h'.get? i1 = some o) → St i1 i h'
  inj : ∀ {X : Cx} {pins σ H s xs ys}, X.K = K → Inv X pins σ H s → Sq H xs → Sq H ys → xs = ys
  data : ∀ {X : Cx} {pins σ H s xs}, X.K = K → Inv X pins σ H s → Sq H xs → ∃ (its : List Value) (C : Heap → Prop), Vals xs its ∧ C s.heap ∧ a < s.heap.objs.size ∧ (∃ o, Begins (.ref a) o C ∧ ∀ i1 h, h.get? i1 = some o → St i1 0 h) ∧
    ∀ i1, a ≠ i1 → X.A.in1.handled = none → Draws X.prog X.w X.A.in1 i1 [i1, a] its.toArray.size (fun i v => its.toArray[i]? = some v) (fun i h => St i1 i h ∧ C h)
theorem srcT (K : PySem.W.Frag) (a : Addr) : Src K a (fun H => SqT K H a) (fun i1 i h => h.IsTupleIter i1 a i) where
  there := fun ⟨o, e, _, d⟩ => ⟨o, e, fun v z => by rw [d] at z; cases z⟩
  stays h k := h.at k
  inj := fun e I h h' => by subst e; exact I.tuple_inj h h'
  data := fun e I h => by
    subst e
    obtain ⟨its, rv, p, _⟩ := I.tuple h
    exact ⟨its, fun h => h.IsTuple a its.toArray, rv, p, let ⟨_, e, _⟩ := p; Heap.lt_size e, ⟨_, begins_tuple a _, fun _ _ e => ⟨_, e, rfl, rfl⟩⟩, fun i1 n hh => Draws.tuple hh i1 a n _⟩
section
variable {P : Program} {w : World} {K : PySem.W.Frag} {elts : List Expr} {kk : Nat} {tpos : Pos} {a z TI TO i1 i2 : Addr} {y : Str} {t : Tok} {Sq : Hp → List V → Prop} {St : Addr → Nat → Heap → Prop}
theorem zsep (D : ZipApart z TI TO i1 i2 a a) : ZipSep2 z TI TO i1 i2 [i1, a] [i2] := by
  obtain ⟨_, _, _, _, _, _, _, _, _, _, _, _⟩ := D
  constructor <;> simp_all [eq_comm]
/-- zip's five objects as the walk stands at i -/
abbrev zipAt (St : Addr → Nat → Heap → Prop) (z TI TO i1 i2 : Addr) (y : Str) (t : Tok) (i : Nat) (h : Heap) : Prop := IsZip h z TI TO .none ∧ IsTupOf2 h TI (.ref i1) (.ref i2) ∧ (∃ x y, IsTupOf2 h TO x y) ∧ St i1 i h ∧ h.IsStrIter i2 (strIterType y) y t i
theorem zipAt_obj (S : Src K a Sq St) {i : Nat} {h : Heap} (st : zipAt St z TI TO i1 i2 y t i h) : ∀ b ∈ [z, TI, TO, i1, i2], ∃ o, h.get? b = some o ∧ ∀ v, o.data ≠ .cell v := by
  obtain ⟨hz, hI, ⟨_, _, hO⟩, h1, o2, e2, _, d2⟩ := st
  simp only [List.forall_mem_cons, List.not_mem_nil, false_implies, implies_true, and_true]
  exact ⟨⟨_, hz, nofun⟩, ⟨_, hI, nofun⟩, ⟨_, hO, nofun⟩, S.there h1, o2, e2, fun v q => by rw [d2] at q; cases q⟩
theorem zip_four {b : Addr} (n : b ∉ [z, TI, TO, i1, i2]) : b ∉ [z, TO, i1, i2] := fun m => n ((List.mem_cons.mp m).elim (fun e => e ▸ List.mem_cons_self) fun m => .tail _ (.tail _ m))
theorem turn_zipS (S : Src K a Sq St) (D : ZipApart z TI TO i1 i2 a a) : Turn P w K (.Tuple elts kk tpos) (ItzS Sq y) [z, TI, TO, i1, i2] z (zipAt St z TI TO i1 i2 y t) where
  mem := List.mem_cons_self
  obj _ _ := zipAt_obj S
  keep i h h' st k := by
    simp only [List.forall_mem_cons, List.not_mem_nil, false_implies, implies_true, and_true] at k
    obtain ⟨hz, hI, ⟨x, y', hO⟩, h1, o2, e2, r2⟩ := st
    obtain ⟨kz, kI, kO, k1, k2⟩ := k
    exact ⟨kz _ hz, kI _ hI, ⟨x, y', kO _ hO⟩, S.stays h1 k1, o2, k2 _ e2, r2⟩
  item X eP ew eK hc i pins s σ H E I hf st := by
    rintro ⟨xs, x, hq, hx, hi⟩
    subst eP ew
    have hh : X.A.in1.handled = none := I.ok.hd hc
    obtain ⟨its, C, rv, hC, _, _, D1⟩ := S.data eK I hq
    obtain ⟨u, hu, ru⟩ := rv.get hx
    have hu' : its.toArray[i]? = some u := by rw [List.getElem?_toArray]; exact hu
    refine (GoesN.zip2 (elts := elts) (x1 := kk) (pos := tpos) (zsep D) (D1 i1 D.l1i1 hh) (Draws.text hh i2 y t)).goes i s _ E (Nat.lt_min.mpr ⟨(Array.getElem?_eq_some_iff.mp hu').1, hi⟩) ⟨st.1, st.2.1, st.2.2.1, ⟨st.2.2.2.1, hC⟩, st.2.2.2.2⟩ ?_
    rintro _ h' tk ⟨T, x', _, rfl, new, hx', ⟨c, tk2, hc', rfl⟩, o, ho, hcl, n, hd⟩ st' hk -
    obtain rfl : u = x' := Option.some.inj (hu'.symm.trans hx')
    refine ⟨.ref T, _, I.turnedNew (ob := .tup [x, .str ⟨#[c]⟩]) (fun b o n e => hk b o (zip_four n) e) hf new ⟨by show 2 ≤ sizeLine; decide, _, .cons ru (.cons ⟨tk2, rfl⟩ .nil), o, ho, hcl, n, hd⟩, rfl,
      ⟨T, x, c, rfl, I.hok.fresh new, rfl, fun l hl => by rw [S.inj eK I hl hq]; exact hx, hc'⟩, ⟨st'.1, st'.2.1, st'.2.2.1, st'.2.2.2.1.1, st'.2.2.2.2⟩, fun b hb => ?_⟩
    obtain ⟨_, e, _⟩ := zipAt_obj S st b hb
    exact (upd_ne (Nat.ne_of_lt (Nat.lt_of_lt_of_le (Heap.lt_size e) new))).trans (hf b hb).1
  done X eP ew eK hc i pins s σ H E I hf st := by
    rintro ⟨xs, hq, hi⟩
    subst eP ew
    have hh : X.A.in1.handled = none := I.ok.hd hc
    obtain ⟨its, C, rv, hC, _, _, D1⟩ := S.data eK I hq
    have G := GoesN.zip2 (elts := elts) (x1 := kk) (pos := tpos) (zsep D) (D1 i1 D.l1i1 hh) (Draws.text hh i2 y t)
    rw [List.size_toArray, ← rv.length, ← hi] at G
    exact G.stops s _ E ⟨st.1, st.2.1, st.2.2.1, ⟨st.2.2.2.1, hC⟩, st.2.2.2.2⟩ fun h' tk hk _ => I.turnedL (t' := tk) (ch := [z, TI, TO, i1, i2]) (fun b o n e => hk b o (zip_four n) e) hf
  self _ _ _ _ _ st h := wpAny_pyIter_zip st.1 h
end
theorem five {n b : Nat} (h : b ∈ [n + 4, n + 2, n + 3, n, n + 1]) : n ≤ b := by simp only [List.mem_cons, List.not_mem_nil, or_false] at h; omega
/-- zip(a, y) begins -/
theorem zip_on {X : Cx} {a : Addr} {Sq : Hp → List V → Prop} {St : Addr → Nat → Heap → Prop} {elts : List Expr} {kk : Nat} {tpos : Pos} {pins : List (Addr × Obj)} {σ : L2.St} {H : Hp} {s : Shared} {R : It → Hp → Prop} {E : Value → Shared → Prop} {xs : List V} {y : Str} {t : Tok}
    (S : Src X.K a Sq St) (I : Inv X pins σ H s) (hq : Sq H xs) (h : R (ItzS Sq y) H) : wpAny (model X.prog X.w) X.A (call (.type "zip") [.ref a, .str y t]) (fun v s1 => wpAny (model X.prog X.w) X.A (pyIter v) (PIE X pins σ (.Tuple elts kk tpos) R) E s1) E s := by
  obtain ⟨its, C, _, hC, lt, ⟨o, B, st0⟩, _⟩ := S.data rfl I hq
  refine zip_begins2 B (begins_text y t) hC trivial fun h' hz hI hO h1 h2 _ hk => wpAny_pyIter_zip hz ?_
  exact ⟨_, _, _, _, H, rfl, I.kept (t' := s.toks) hk, turn_zipS S (PySem.W.ktu_apart s.heap.objs.size a a lt lt), ⟨hz, hI, ⟨_, _, hO⟩, st0 _ _ h1, _, h2, rfl, rfl⟩, fun b hb => I.fpOk (five hb) (I.hok.fresh (five hb)), h⟩
theorem pi_zipS {X : Cx} {e e2 : Expr} {ta : TA} {p pos tpos : Pos} {elts : List Expr} {kk : Nat} {Sq : Addr → Hp → List V → Prop} {St : Addr → Addr → Nat → Heap → Prop} (S : ∀ a, Src X.K a (Sq a) (St a)) (hg : Gl X "zip") (hm : X.mg "zip" = none) (ha : PA X [e, e2] ta)
    (two : starEach [e, e2] X.env = (false, eval e X.env) :: starEach [e2] X.env) (plain : (backTo pos (starEach [e2] X.env)).any (·.1) = false) :
    PI X (.Tuple elts kk tpos) (.Call (.Name "zip" p) [e, e2] [] pos) (fun σ H R => ta σ H fun vs H1 => ∃ a y xs, vs = [.ref a, .str y] ∧ Sq a H1 xs ∧ R (ItzS (Sq a) y) H1) :=
  ⟨fun pins s σ H R I h => Call_ (ld_blt I hg hm PyProof.Rows.boot_zip (PyProof.Rows.callWith_type1 (thn (ha.run pos pins s σ H _ I h) fun us s1 ⟨_, _, I1, r1, a, y, xs, ev, hq, q⟩ => by
    subst ev
    obtain ⟨_, _, rfl, rfl, t, rfl⟩ := vals2 r1
    exact zip_on (S a) I1 hq q) two plain))⟩
def iZipTS (K : PySem.W.Frag) (ta : TA) : TI := fun σ H R => ta σ H fun vs H1 => ∃ a y xs, vs = [.ref a, .str y] ∧ SqT K H1 a xs ∧ R (ItzS (fun H => SqT K H a) y) H1
theorem pi_zipTS {X : Cx} {e e2 : Expr} {ta : TA} {p pos tpos : Pos} {elts : List Expr} {kk : Nat} (hg : Gl X "zip") (hm : X.mg "zip" = none) (ha : PA X [e, e2] ta) (two : starEach [e, e2] X.env = (false, eval e X.env) :: starEach [e2] X.env := by rfl) (plain : (backTo pos (starEach [e2] X.env)).any (·.1) = false := by rfl) :
    PI X (.Tuple elts kk tpos) (.Call (.Name "zip" p) [e, e2] [] pos) (iZipTS X.K ta) := pi_zipS (srcT X.K) hg hm ha two plain
/-- a walk of n turns over it -/
theorem walk_zipS {Sq : Hp → List V → Prop} {xs : List V} {y : Str} {n : Nat} (hn : n = min xs.length y.cps.size) : Walk (ItzS Sq y) n (fun H => Sq H xs) (fun i H v H' => ∃ T x c, v = .ref T ∧ H T = none ∧ H' = upd H T (.tup [x, .str ⟨#[c]⟩]) ∧ xs[i]? = some x ∧ y.cps[i]? = some c) :=
  ⟨fun i _ hi q => ⟨xs, xs[i]'(by omega), q, List.getElem?_eq_getElem _, by omega⟩, fun _ q => ⟨xs, q, hn⟩, fun _ _ _ _ _ q ⟨T, x, c, h1, h2, h3, h4, h5⟩ => ⟨T, x, c, h1, h2, h3, h4 xs q, h5⟩⟩
def WZ (K : PySem.W.Frag) (R : It → Hp → Prop) (vs : List V) (H1 : Hp) : Prop := ∃ a y xs, vs = [.ref a, .str y] ∧ SqT K H1 a xs ∧ R (ItzS (fun H => SqT K H a) y) H1
theorem iWZ {K : PySem.W.Frag} {R : It → Hp → Prop} {ta : TA} {σ : L2.St} {H : Hp} (h : ta σ H (WZ K R)) : iZipTS K ta σ H R := h
theorem walk_zipTS {K : PySem.W.Frag} {a : Addr} {xs : List V} {y : Str} {n : Nat} (hn : n = min xs.length y.cps.size) : Walk (ItzS (fun H => SqT K H a) y) n (fun H => SqT K H a xs) (fun i H v H' => ∃ T x c, v = .ref T ∧ H T = none ∧ H' = upd H T (.tup [x, .str ⟨#[c]⟩]) ∧ xs[i]? = some x ∧ y.cps[i]? = some c) := walk_zipS (Sq := fun H => SqT K H a) hn
end U

namespace U
open PySem PySem.Spec PyProof.Rows L2
section
variable {X : Cx} {K : PySem.W.Frag} {w : World} {σ : L2.St} {H : Hp} {Q : VK} {d : Addr}
/-! ### tables -/
def rInKd (K : PySem.W.Frag) (d : Addr) : R2 := fun x y H Q => ∃ (z : Str) (r : Option Value), x = .str z ∧ y = .ref d ∧ PySem.W.nsIn K d z = some r ∧ Q (.bl r.isSome) H
def rNotInKd (K : PySem.W.Frag) (d : Addr) : R2 := fun x y H Q => ∃ (z : Str) (r : Option Value), x = .str z ∧ y = .ref d ∧ PySem.W.nsIn K d z = some r ∧ Q (.bl (!r.isSome)) H
theorem op_inKd (D : ∃ es n, KDict X.K X.w d es n) : OpR X (compareOp .In) (rInKd X.K d) := let ⟨_, _, D⟩ := D; op_in_kd D
theorem op_notInKd (D : ∃ es n, KDict X.K X.w d es n) : OpR X (compareOp .NotIn) (rNotInKd X.K d) := let ⟨_, _, D⟩ := D; op_notIn_kd D
theorem iNotInKd {z : Str} {r : Option Value} (e : PySem.W.nsIn K d z = some r) (q : Q (.bl (!r.isSome)) H) : rNotInKd K d (.str z) (.ref d) H Q := ⟨z, r, rfl, rfl, e, q⟩
theorem iIxKd {z : Str} {u : Value} {v : V} (D : ∃ es n, KDict K w d es n) (e : PySem.W.nsIn K d z = some (some u)) (r : RelV v u) (q : Q v H) : rIxD K w (.ref d) (.str z) H Q := let ⟨es, n, D⟩ := D; ⟨d, z, v, rfl, rfl, ⟨es, n, u, D.at_, D.lit, e, r⟩, q⟩
/-! ### kinds -/
theorem tyT {a : Addr} {xs : List V} (h : SqT K H a xs) : TyX K H (.ref a) (.type "tuple") := by
  rcases h with (h | ⟨o, h⟩) | h
  · exact .base (.tup h)
  · exact .fTuple h
  · obtain ⟨o, its, n, e, c, _⟩ := h
    exact .kTuple e c
theorem tyL {a : Addr} {xs : List V} (h : SqL K H a xs) : TyX K H (.ref a) (.type "list") := by
  rcases h with (h | ⟨o, h⟩) | h
  · exact .base (.lst h)
  · exact .base (.frz h)
  · obtain ⟨o, its, n, e, c, _⟩ := h
    exact .kList e c
theorem iIsi {x : V} {a b : String} {r : Bool} (ty : TyX K H x (.type a)) (k : kitB a b = some r) (q : Q (.bl r) H) : rIsi K [x, .ty b] H Q := ⟨x, .ty b, .type a, .type b, r, rfl, .ty b, ty, kit_ty k, q⟩
theorem iIsiI {i : Int} {b : String} {r : Bool} (k : kitB "int" b = some r) (q : Q (.bl r) H) : rIsi K [.int i, .ty b] H Q := iIsi (.base (.int i)) k q
theorem iIsiS {i : Str} {b : String} {r : Bool} (k : kitB "str" b = some r) (q : Q (.bl r) H) : rIsi K [.str i, .ty b] H Q := iIsi (.base (.str i)) k q
theorem iIsiB {i : Bool} {b : String} {r : Bool} (k : kitB "bool" b = some r) (q : Q (.bl r) H) : rIsi K [.bl i, .ty b] H Q := iIsi (.base (.bl i)) k q
theorem iIsiN {b : String} {r : Bool} (k : kitB "NoneType" b = some r) (q : Q (.bl r) H) : rIsi K [.non, .ty b] H Q := iIsi (.base .non) k q
theorem iDNewK (h : ∀ p, H p = none → Q (.ref p) (upd H p (.dK []))) : tDNewK σ H Q := h
end
end U

/-! ### the same rules, for blocks inside: K named -/
namespace U
open PySem PySem.Spec PyProof.Rows L2
section
variable {X : Cx} {K : PySem.W.Frag} {w : World}
theorem ixLK (e : X.K = K := by rfl) : IxR X (rIxL K) := e ▸ ix_list
theorem ixTK (e : X.K = K := by rfl) : IxR X (rIxT K) := e ▸ ix_tup
theorem ixDK (e : X.K = K := by rfl) (e2 : X.w = w := by rfl) : IxR X (rIxD K w) := e ▸ e2 ▸ ix_kdict
theorem lenK (e : X.K = K := by rfl) : CallR X (.builtin "len") (rLenU K) := e ▸ c_len
theorem eqDK (hu : X.A.units + 64 < cLine) (e : X.K = K := by rfl) : OpR X (compareOp .Eq) (rEqD K) := e ▸ op_eqD hu
theorem neDK (hu : X.A.units + 64 < cLine) (e : X.K = K := by rfl) : OpR X (compareOp .NotEq) (rNeD K) := e ▸ op_neD hu
theorem listK (e : X.K = K := by rfl) : CallR X (.type "list") (rListOf K) := e ▸ c_list
theorem tupleK (e : X.K = K := by rfl) : CallR X (.type "tuple") (rTupOf K) := e ▸ c_tuple
theorem isiK (e : X.K = K := by rfl) : CallR X (.builtin "isinstance") (rIsi K) := e ▸ call_isi
theorem isiTK (e : X.K = K := by rfl) : CallR X (.builtin "isinstance") (rIsiT K) := e ▸ call_isiT
theorem repTAK (e : X.K = K := by rfl) : OpR X (binaryOp .Mult) (rRepA K) := e ▸ op_repTA
theorem inKdK {d : Addr} (D : ∃ es n, KDict K w d es n) (e : X.K = K := by rfl) (e2 : X.w = w := by rfl) : OpR X (compareOp .In) (rInKd K d) := by
  subst e e2
  exact op_inKd D
theorem notInKdK {d : Addr} (D : ∃ es n, KDict K w d es n) (e : X.K = K := by rfl) (e2 : X.w = w := by rfl) : OpR X (compareOp .NotIn) (rNotInKd K d) := by
  subst e e2
  exact op_notInKd D
theorem pgTupK {es : List Expr} {k : Nat} {t : TGs} {n : Nat} {pos : Pos} (hc : X.calm = true) (h : PGs X es t) (e : X.K = K := by rfl)
    (hn : (assignEach es X.env).length = n := by rfl) (hst : (assignEach es X.env).findIdx? (·.1) = none := by rfl) : PG X (.Tuple es k pos) (gTup K n t) := e ▸ pg_tup hc h hn hst
end
end U
namespace U
open PySem PySem.Spec PyProof.Rows L2
section
variable {σ : L2.St} {H : Hp} {Q : VK} {K : PySem.W.Frag}
theorem iSlX {z : Str} {lo hi : Option Int} (hz : z.length ≤ sizeLine) (q : Q (.str (Txt.slice z lo hi)) H) : C8.rSlX (.str z) lo hi H Q := ⟨z, rfl, hz, q⟩
theorem iIxS {z : Str} {i : Int} {c : Nat} (hz : z.length ≤ sizeLine) (e : atI z.cps.toList i = some c) (q : Q (.str ⟨#[c]⟩) H) : rIxS (.str z) (.int i) H Q := ⟨z, i, c, rfl, rfl, hz, e, q⟩
theorem iNotInS {i j : Str} (q : Q (.bl (!(!(Builtin.Str.occurrences j i 0 j.length 1).isEmpty))) H) : rNotInS (.str i) (.str j) H Q := ⟨i, j, rfl, rfl, q⟩
theorem iInS {i j : Str} (q : Q (.bl (!(Builtin.Str.occurrences j i 0 j.length 1).isEmpty)) H) : rInS (.str i) (.str j) H Q := ⟨i, j, rfl, rfl, q⟩
def M1 (r : V → List V → Hp → VK → Prop) (te : TE) (σ : L2.St) (Q : VK) (x : V) (H1 : Hp) : Prop := (∃ a, x = .str a) ∧ te σ H1 fun y H2 => r x [y] H2 Q
theorem iM1 {r : V → List V → Hp → VK → Prop} {to te : TE} (h : to σ H (M1 r te σ Q)) : tM1 r to te σ H Q := h
theorem gM1 {r : V → List V → Hp → VK → Prop} {te : TE} {a : Str} (h : te σ H fun y H2 => r (.str a) [y] H2 Q) : M1 r te σ Q (.str a) H := ⟨⟨a, rfl⟩, h⟩
theorem iExtend {l b : Addr} {xs zs : List V} (h : H l = some (.lst xs)) (h2 : H b = some (.lst zs)) (z : xs.length + zs.length ≤ sizeLine) (q : Q .non (upd H l (.lst (xs ++ zs)))) : rExtend (.ref l) [.ref b] H Q := ⟨l, b, xs, zs, rfl, rfl, h, h2, z, q⟩
theorem gJoin {X : Cx} {a : Str} {p : Addr} {ys : List Str} (h : SqL X.K H p (ys.map V.str)) (z : (ys.map (·.length)).sum + ys.length * a.length ≤ 16777216) (q : Q (.str (Txt.join a ys)) H) : (fun x xs H Q => ∃ a p, ∃ ys : List Str, x = .str a ∧ xs = [.ref p] ∧ (SqL X.K H p (ys.map V.str) ∨ SqT X.K H p (ys.map V.str)) ∧
      (ys.map (·.length)).sum + ys.length * a.length ≤ 16777216 ∧ Q (.str (Txt.join a ys)) H : V → List V → Hp → VK → Prop) (.str a) [.ref p] H Q := ⟨a, p, ys, rfl, rfl, .inl h, z, q⟩
theorem gSplit {a b : Str} (hb : (b.length == 0) = false) (ha : a.length + 2 ≤ sizeLine) (q : ∀ p, H p = none → Q (.ref p) (upd H p (.lst ((Txt.split a b).map V.str)))) : (fun x xs H Q => ∃ a b, x = .str a ∧ xs = [.str b] ∧ (b.length == 0) = false ∧ a.length + 2 ≤ sizeLine ∧ rNewStrs (Txt.split a b) H Q : V → List V → Hp → VK → Prop) (.str a) [.str b] H Q := ⟨a, b, rfl, rfl, hb, ha, q⟩
end
end U

/-! ### a lambda of parameters and captured names, called by a built-in -/
namespace U
open PySem PySem.Spec PyProof.Rows L2 LamX NdefX
abbrev lmF (q : Str) (params : Arguments) (scope : Scope) (cl : List (Str × Addr)) (c : Addr) : NF := ⟨"<lambda>", q, params, [], scope, cl, c⟩
section
variable {X : Cx} {pins : List (Addr × Obj)} {σ : L2.St} {H : Hp} {s : Shared} {k : Nat} {N ps fr : List Str}
theorem lamRun {A' : Around} {q : Str} {params : Arguments} {body : Expr} {scope : Scope} {cl : List (Str × Addr)} {pm ctv : Value} {f c' : Addr} {us : List Value} {vs : List V} {ws : List (Option V)} {tb : TE} {Q : VK} {Er : Value → Shared → Prop}
    (I : Inv X pins σ H s) (S : NScope N ps fr scope) (hf : s.heap.get? f = some (PySem.W.kla_obj "<lambda>" q params body scope cl pm c' ctv)) (hc : H c' = some (CodeO c' q)) (C : CellsAt cl fr ws s.heap H)
    (hr : Room (k + 1) A') (hfr : A'.frames = some X.stack) (hb : bindArgs (PySem.W.kla_fn "<lambda>" q params body scope cl pm (.ref c') ctv) ⟨us, []⟩ = pure (ps.zip us)) (r : Vals vs us) (hl : vs.length = ps.length)
    (hbody : Room k (A'.deeper (envF (lmF q params scope cl c') f s.heap.objs.size)) → PE (ncx L2.CX0 X.prog X.w X.K X.mg X.base N (lmF q params scope cl c') f A' X.stack s H C8.E0) body tb) (ht : tb (startF N vs ws) H Q) :
    wpAny (model X.prog X.w) A' (call (.ref f) us) (EP X pins σ Q) Er s := by
  have e0 : Env0 X.prog X.w X.K X.mg X.base A' X.stack s H := { I.env0 with frames := hfr }
  have rc : codeAny (model X.prog X.w) A' (.call (.ref f) ⟨us, []⟩) (CR L2.CX0 X.stack X.prog X.w H s Q C8.E0) s := by
    refine PySem.W.kla_callFunE hr.depth hf rfl S.co S.gen rfl (codeO_at I.hok hc) ?_
    rw [hb]
    refine wpAny_pure (wpAny_newFunctionEnv S.nocell (fun y hy => S.par y.1 (List.of_mem_zip (show (y.1, y.2) ∈ _ from hy)).1) (fun h1 hns hsb => ⟨I.nolimit.fresh _ hsb, ?_⟩) S.kind)
    have kp : ∀ b o, s.heap.get? b = some o → h1.get? b = some o := fun b o e => hsb.extBut b o (Nat.ne_of_lt (Heap.lt_size e)) (Heap.get?_push_of_some _ e)
    have J := inv_startN (CX := L2.CX0) (f := f) (E := C8.E0) (F := lmF q params scope cl c') (tk := s.toks + (ps.zip us).length) S hr.hd e0 hl r C hns kp
    show codeAny _ _ (.expr body (envF (lmF q params scope cl c') f s.heap.objs.size)) _ _
    refine PySem.W.kla_codeExpr (wpAny_mono ((hbody (hr.deeper _)).run [] _ _ H Q J ht) (fun v s2 z => ?_) fun e s2 z => z)
    obtain ⟨w2, H2, J2, rv, z⟩ := z
    exact ⟨w2, H2, J2.os, J2.bare, J2.base, J2.hok, rv, z⟩
  refine wpAny_call (codeAny_mono rc fun r2 s2 z => ?_)
  match r2, z with
  | .error e, z => exact (show False from z).elim
  | .ok (.ret u), z => exact I.after z
  | .ok .next, z => exact False.elim z
  | .ok .brk, z => exact False.elim z
  | .ok .cont, z => exact False.elim z
end
/-- a lambda's object made: all that stood but the tables stands, nothing is lost -/
theorem lamMake {X : Cx} {pins : List (Addr × Obj)} {σ : L2.St} {H : Hp} {s : Shared} {T : List (Addr × Str)} {c P : Addr} {pa : Arguments} {bo : Expr} {sc : Scope} {lp : Pos} {Er R : Value → Shared → Prop} (J : Inv X pins σ H s) (B : TabB X.base X.mg c P) (ec : X.env.code = .ref c)
    (inT : (P, X.env.qual ++ "<lambda>") ∈ T) (one : ∀ z ∈ T, z.1 = P → z.2 = X.env.qual ++ "<lambda>") (tT : Tabs T H) (nodef : defaultsOf pa X.env = ([], [])) (cells : ∀ y ∈ sc.names, y.2 = .free → ∃ c, X.env.cells.lookup y.1 = some c)
    (go : ∀ (f d : Addr) (pm ct : Value) (G : Hp) (s' : Shared), Inv X pins σ G s' → Fr [P] H G → Tabs T G → s'.heap.get? f = some (PySem.W.kla_obj "<lambda>" (X.env.qual ++ "<lambda>") pa bo sc (cloFrom X.env.cells sc.names []) pm d ct) → G f = none → f ∉ frs X.stack →
      G d = some (CodeO d (X.env.qual ++ "<lambda>")) → R (.ref f) s') : wpAny (model X.prog X.w) X.A (eval (.Lambda pa bo sc lp) X.env) R Er s := by
  obtain ⟨tb, hP, t3, nm⟩ := tT _ inT
  have oP : s.heap.get? P = some { cls := .none, data := .fields tb } := J.hok P _ hP
  have ba : s.heap.BuiltinsAt X.mg P := B.bm.keeps J.bk
  have far : ∀ f, s.heap.objs.size ≤ f → f ∉ frs X.stack := fun f le z => (List.mem_cons.mp (J.stkSub f z)).elim (fun e => absurd (Nat.lt_of_lt_of_le J.lt (e ▸ le)) (Nat.lt_irrefl _)) (J.nofs le)
  refine PySem.W.kla_eval nodef ?_
  cases q : codeAmong lp tb.toList with
  | some cv =>
    obtain ⟨d, rfl, hd⟩ := nm lp cv q
    refine PySem.W.kla_makeFunctionHit (mg := X.mg) (c := c) (P := P) (ps := tb) (closure_ok cells) J.ok.glob (J.mod.glob.keeps J.bk) ec (B.code.keeps J.bk) oP t3 q ba fun ct g tk up le => ?_
    have J1 := Inv.kept (t' := tk) (h' := g.push (PySem.W.kla_obj "<lambda>" (X.env.qual ++ "<lambda>") pa bo sc (cloFrom X.env.cells sc.names []) ((X.mg "__name__").getD .none) d ct)) J fun b o e => Heap.get?_push_of_some _ (up b o e)
    exact go _ d _ ct H _ J1 Fr.refl tT (Heap.get?_push_size _ rfl) (J.hok.fresh le) (far _ le) hd
  | none =>
    refine PySem.W.kla_makeFunction (mg := X.mg) (c := c) (P := P) (ps := tb) (closure_ok cells) J.ok.glob (J.mod.glob.keeps J.bk) ec (B.code.keeps J.bk) oP t3 q B.gP ba fun d ct g tk up ge lt rc tab => ?_
    obtain ⟨d2, oc, vv, tt, ed, e1, e2, e3⟩ := rc
    cases ed
    have nd : H d = none := J.hok.fresh ge
    have le : s.heap.objs.size ≤ g.objs.size := Nat.le_trans ge (Nat.le_of_lt lt)
    have J1 := inv_table (t' := tk) (more := #[rawInt lp.line, rawInt lp.col, .ref d]) (h' := g.push (PySem.W.kla_obj "<lambda>" (X.env.qual ++ "<lambda>") pa bo sc (cloFrom X.env.cells sc.names []) ((X.mg "__name__").getD .none) d ct)) J hP
      (fun b o ne e => Heap.get?_push_of_some _ (up b o ne e)) (Heap.get?_push_of_some _ tab) ge ⟨oc, vv, tt, Heap.get?_push_of_some _ e1, e2, e3⟩
    have kp : ExtN H (upd (upd H P (.tbl (tb ++ #[rawInt lp.line, rawInt lp.col, .ref d]))) d (CodeO d (X.env.qual ++ "<lambda>"))) := fun b o e no => by
      have n1 : b ≠ P := fun z => by subst z; rw [hP] at e; exact no tb (Option.some.inj e).symm
      rw [upd_ne (ne_of_none e nd), upd_ne n1]
      exact e
    have ls : (tb ++ #[rawInt lp.line, rawInt lp.col, .ref d]).toList = tb.toList ++ [rawInt lp.line, rawInt lp.col, .ref d] := by simp
    have kp2 : ∀ b o, H b = some o → b ≠ P → upd (upd H P (.tbl (tb ++ #[rawInt lp.line, rawInt lp.col, .ref d]))) d (CodeO d (X.env.qual ++ "<lambda>")) b = some o := fun b o e n1 => by
      rw [upd_ne (ne_of_none e nd), upd_ne n1]
      exact e
    refine go _ d _ ct _ _ J1 ⟨fun b o e n => kp2 b o e (by simpa using n), fun b o e => kp _ _ e (fun ps z => by cases z), fun b o u e => kp _ _ e (fun ps z => by cases z), fun b z => upd_none (upd_none z)⟩ (fun z hz => ?_) (Heap.get?_push_size _ rfl) ?_ (far _ le) upd_same
    · by_cases e : z.1 = P
      · rw [one z hz e, e]
        refine ⟨_, (upd_ne (ne_of_none hP nd)).trans upd_same, by rw [ls]; exact PySem.TriplesOk_snoc _ _ _ _ t3, fun pp cv hc => ?_⟩
        rw [ls] at hc
        refine (among_app _ t3 hc).elim (fun old => ?_) fun e => ⟨d, e, upd_same⟩
        obtain ⟨d0, a1, a2⟩ := nm pp cv old
        exact ⟨d0, a1, kp _ _ a2 codeO_ne⟩
      · obtain ⟨tz, a1, a2, a3⟩ := tT z hz
        refine ⟨tz, (upd_ne (ne_of_none a1 nd)).trans ((upd_ne e).trans a1), a2, fun pp cv hc => ?_⟩
        obtain ⟨d0, b1, b2⟩ := a3 pp cv hc
        exact ⟨d0, b1, kp _ _ b2 codeO_ne⟩
    · have n1 : g.objs.size ≠ d := Nat.ne_of_gt lt
      have n2 : g.objs.size ≠ P := Nat.ne_of_gt (Nat.lt_of_lt_of_le (Heap.lt_size oP) le)
      exact (upd_ne n1).trans ((upd_ne n2).trans (J.hok.fresh le))
/-! ### sorted by a key -/
/-- a key's value as two ints -/
def kpr (H : Hp) : Value → Int × Int
  | .ref t => match H t with
    | some (.tup [.int a, .int b]) => (a, b)
    | _ => (0, 0)
  | _ => (0, 0)
section
variable {X : Cx} {pins : List (Addr × Obj)} {σ : L2.St} {H : Hp} {s : Shared}
theorem fp_pin (I : Inv X pins σ H s) {D : Addr} {o : Obj} (h : FpOk X pins H D) (e : s.heap.get? D = some o) (hc : ∀ v, o.data ≠ .cell v) : Inv X ((D, o) :: pins) σ H s :=
  I.pins_of fun p hp => by
    rcases List.mem_cons.mp hp with z | z
    · subst z
      exact ⟨e, h.1, h.2.1, h.2.2.1, hc⟩
    · exact I.pin p (List.mem_append_right _ z)
theorem fp_unpin {D : Addr} {o : Obj} (I : Inv X ((D, o) :: pins) σ H s) : Inv X pins σ H s ∧ s.heap.get? D = some o ∧ H D = none :=
  ⟨I.pins_of fun p hp => I.pin p (List.mem_append_right _ (List.mem_cons_of_mem _ hp)), (I.pin (D, o) (List.mem_append_right _ (List.mem_cons_self ..))).1, (I.pin (D, o) (List.mem_append_right _ (List.mem_cons_self ..))).2.1⟩
theorem fp_mv {H' : Hp} {D : Addr} (h : FpOk X pins H D) (n : H' D = none) : FpOk X pins H' D := ⟨n, h.2⟩
theorem fp_cons {D E : Addr} {o : Obj} (h : FpOk X pins H D) (n : E ≠ D) : FpOk X ((E, o) :: pins) H D := ⟨h.1, h.2.1, h.2.2.1, h.2.2.2.1, h.2.2.2.2.1, fun p hp => by
  rcases List.mem_append.mp hp with z | z
  · exact h.2.2.2.2.2 p (List.mem_append_left _ z)
  · rcases List.mem_cons.mp z with z | z
    · subst z; exact n
    · exact h.2.2.2.2.2 p (List.mem_append_right _ z)⟩
/-- the keys made so far -/
structure KyS (X : Cx) (pins : List (Addr × Obj)) (σ : L2.St) (H0 : Hp) (D kS : Addr) (e1 : Nat) (ns : List Int) (kx : Int → Int × Int) (i : Nat) (s : Shared) : Prop where
  ex : ∃ (H : Hp) (kvs : List Value) (e : Nat), Inv X pins σ H s ∧ Same H0 H ∧ s.heap.get? D = some (seqObj "list" #[] e1) ∧ s.heap.get? kS = some (seqObj "list" kvs.toArray e) ∧ FpOk X pins H D ∧ FpOk X pins H kS ∧ kvs.length = i ∧
    ∀ j n, ns[j]? = some n → j < i → ∃ t, kvs[j]? = some (.ref t) ∧ H t = some (.tup [.int (kx n).1, .int (kx n).2])
theorem sortKeyTree {A' : Around} {f D : Addr} {its : List Value} {ns : List Int} {n : Nat} {kx : Int → Int × Int} {R : PySem.Fin → Shared → Prop} {E : Value → Shared → Prop} (I : Inv X pins σ H s) (hi : IntsAre its ns) (hD : s.heap.get? D = some (seqObj "list" its.toArray n)) (fD : FpOk X pins H D) (hz : ns.length ≤ 1000)
    (turn : ∀ (m : Int) (t : Tok) (H' : Hp) (s' : Shared) (pins' : List (Addr × Obj)), m ∈ ns → Same H H' → Inv X pins' σ H' s' → (∀ p ∈ pins, p ∈ pins') →
      wpAny (model X.prog X.w) A' (call (.ref f) [.int m t]) (EP X pins' σ fun v H'' => Same H' H'' ∧ ∃ t, v = .ref t ∧ H'' t = some (.tup [.int (kx m).1, .int (kx m).2])) (fun _ _ => False) s')
    (done : ∀ H' s' out ns' n', Inv X pins σ H' s' → Same H H' → s'.heap.get? D = some (seqObj "list" out n') → FpOk X pins H' D → IntsAre out.toList ns' → ns'.Perm ns → ns'.Pairwise (fun a b => SrtO.lexB (kx b) (kx a) = false) → R (.done (.ret .none)) s') :
    wpAny (model X.prog X.w) A' (ksk_tree D (.ref f) false) R E s := by
  have hlen := hi.length
  have hits : its.length ≤ sizeLine := Nat.le_trans (show _ ≤ 1000 by omega) (by decide)
  unfold ksk_tree
  refine wpAny_bind (listItems_at hD rfl ?_)
  refine wpAny_bind (listUpdate_at hD rfl ?_ (by rw [List.size_toArray]; exact hits) (Nat.zero_le _))
  obtain ⟨e1, hD1⟩ : ∃ e1, (s.heap.update D (Obj.mapSeq fun _ => (#[] : Array Value))).get? D = some (seqObj "list" #[] e1) := ⟨_, get?_update_seq hD fun _ => #[]⟩
  have I1 : Inv X pins σ H { s with heap := s.heap.update D (Obj.mapSeq fun _ => (#[] : Array Value)) } := I.turnedL (t' := s.toks) (ch := [D]) (fun b o hb e => (Heap.get?_update_ne _ _ _ _ (by simpa using hb)).trans e) fun b hb => by rw [List.mem_singleton.mp hb]; exact fD
  refine wpAny_bind (seqEpoch_at hD1 rfl ?_)
  refine wpAny_bind (wpAny_newTuple ?_ (by exact hits))
  have I2 : Inv X pins σ H { s with heap := (s.heap.update D (Obj.mapSeq fun _ => (#[] : Array Value))).push (seqObj "tuple" its.toArray 0) } := I1.kept (t' := s.toks) fun b o e => Heap.get?_push_of_some _ e
  refine wpAny_bind (wpAny_newList ?_ (Nat.zero_le _))
  have I3 : Inv X pins σ H { s with heap := ((s.heap.update D (Obj.mapSeq fun _ => (#[] : Array Value))).push (seqObj "tuple" its.toArray 0)).push (seqObj "list" #[] 0) } := I2.kept (t' := s.toks) fun b o e => Heap.get?_push_of_some _ e
  have hkS := Heap.get?_push_size ((s.heap.update D (Obj.mapSeq fun _ => (#[] : Array Value))).push (seqObj "tuple" its.toArray 0)) (o := seqObj "list" #[] 0) rfl
  have hD3 := Heap.get?_push_of_some (seqObj "list" #[] 0) (Heap.get?_push_of_some (seqObj "tuple" its.toArray 0) hD1)
  have fK := I2.fpOk (Nat.le_refl _) (I2.hok.fresh (Nat.le_refl _))
  refine wpAny_holding ?_
  show wpAny _ _ (ksk_rest D (.ref f) false its.toArray e1 (.ref ((s.heap.update D (Obj.mapSeq fun _ => (#[] : Array Value))).push (seqObj "tuple" its.toArray 0)).objs.size)) R E { s with heap := ((s.heap.update D (Obj.mapSeq fun _ => (#[] : Array Value))).push (seqObj "tuple" its.toArray 0)).push (seqObj "list" #[] 0) }
  have hDk : D ≠ ((s.heap.update D (Obj.mapSeq fun _ => (#[] : Array Value))).push (seqObj "tuple" its.toArray 0)).objs.size := fun z => by
    have := Heap.lt_size (Heap.get?_push_of_some (seqObj "tuple" its.toArray 0) hD1)
    rw [← z] at this
    exact Nat.lt_irrefl _ this
  generalize ((s.heap.update D (Obj.mapSeq fun _ => (#[] : Array Value))).push (seqObj "tuple" its.toArray 0)).objs.size = kS at hkS fK hDk
  generalize ((s.heap.update D (Obj.mapSeq fun _ => (#[] : Array Value))).push (seqObj "tuple" its.toArray 0)).push (seqObj "list" #[] 0) = h3 at I3 hkS hD3
  unfold ksk_rest
  refine wpAny_bind (wpAny_rule ?_)
  rw [← Array.forIn_toList]
  refine wpAny_bind (ksk_fold (KyS X pins σ H D kS e1 ns kx) its 0 { s with heap := h3 } ⟨⟨H, [], 0, I3, Same.refl H, hD3, hkS, fD, fK, rfl, fun j n _ hj => absurd hj (Nat.not_lt_zero _)⟩⟩ ?step ?done)
  case step =>
    rintro j x s' hx ⟨⟨H', kvs, e, J, sm, kD, kK, gD, gK, hkl, hks⟩⟩
    simp only [Nat.zero_add] at hkl hks ⊢
    have hj : j < its.length := (List.getElem?_eq_some_iff.mp hx).1
    obtain ⟨m, hm⟩ : ∃ m, ns[j]? = some m := ⟨_, List.getElem?_eq_getElem (by omega)⟩
    obtain ⟨t, ht⟩ := hi.get j m hm
    rw [ht] at hx
    obtain rfl := Option.some.inj hx
    have J2 := fp_pin (fp_pin J gD kD fun v z => nomatch z) (fp_cons gK hDk) kK fun v z => nomatch z
    refine wpAny_bind (wpAny_attempt (wpAny_mono (turn m t H' s' _ (List.mem_of_getElem? hm) sm J2 fun p hp => List.mem_cons_of_mem _ (List.mem_cons_of_mem _ hp)) (fun v s2 z => ?_) fun _ _ z => z.elim))
    obtain ⟨v', H2, J3, rv, sm2, ta, rfl, hta⟩ := z
    obtain rfl : v = Value.ref ta := rv
    obtain ⟨J4, k2, n2⟩ := fp_unpin J3
    obtain ⟨J5, d2, m2⟩ := fp_unpin J4
    try dsimp only
    have fK2 := fp_mv gK n2
    refine wpAny_bind (listUpdate_at k2 rfl ?_ (by rw [List.size_toArray, hkl]; exact Nat.le_trans (show _ ≤ 1000 by omega) (by decide)) (by rw [Array.size_push, List.size_toArray, hkl]; exact Nat.succ_le_succ (Nat.le_trans (show _ ≤ 1000 by omega) (by decide))))
    have J6 : Inv X pins σ H2 { s2 with heap := s2.heap.update kS (Obj.mapSeq (·.push (.ref ta))) } := J5.turnedL (t' := s2.toks) (ch := [kS]) (fun b o hb e => (Heap.get?_update_ne _ _ _ _ (by simpa using hb)).trans e) fun b hb => by rw [List.mem_singleton.mp hb]; exact fK2
    obtain ⟨ep, kp⟩ : ∃ ep, (s2.heap.update kS (Obj.mapSeq (·.push (Value.ref ta)))).get? kS = some (seqObj "list" (kvs.toArray.push (.ref ta)) ep) := ⟨_, get?_update_seq k2 (·.push (Value.ref ta))⟩
    refine wpAny_pure ⟨rfl, ⟨H2, kvs ++ [.ref ta], ep, J6, sm.trans sm2, (Heap.get?_update_ne _ _ _ _ hDk).trans d2, ?_, fp_mv gD m2, fK2, by rw [List.length_append, hkl]; rfl, fun i n hn hi' => ?_⟩⟩
    · rw [show (kvs ++ [Value.ref ta]).toArray = kvs.toArray.push (Value.ref ta) by simp]
      exact kp
    · by_cases hij : i < j
      · obtain ⟨t3, e3, h3⟩ := hks i n hn hij
        exact ⟨t3, (List.getElem?_append_left (by omega)).trans e3, sm2 _ _ h3⟩
      · have : i = j := by omega
        subst this
        rw [hm] at hn
        obtain rfl := Option.some.inj hn
        exact ⟨ta, by rw [List.getElem?_append_right (by omega), hkl, Nat.sub_self]; exact rfl, hta⟩
  case done =>
    rintro s' ⟨⟨H', kvs, e, J, sm, kD, kK, gD, gK, hkl, hks⟩⟩
    simp only [Nat.zero_add] at hkl hks
    have hk : ∀ (j : Nat) (n : Int), ns[j]? = some n → ∃ t, kvs[j]? = some (Value.ref t) ∧ H' t = some (.tup [.int (kx n).1, .int (kx n).2]) := fun j n hn => hks j n hn (by have := (List.getElem?_eq_some_iff.mp hn).1; omega)
    have hkp : ∀ (j : Nat) (n : Int) (v : Value), ns[j]? = some n → kvs[j]? = some v → kpr H' v = kx n := fun j n v h1 h2 => by
      obtain ⟨t, e3, h3⟩ := hk j n h1
      rw [h2] at e3
      obtain rfl := Option.some.inj e3
      simp only [kpr, h3]
    have hpr : ∀ v ∈ kvs, Srt.IsPair s'.heap v (kpr H' v).1 (kpr H' v).2 := fun v hv => by
      obtain ⟨j, hj⟩ := List.mem_iff_getElem?.mp hv
      obtain ⟨m, hm⟩ : ∃ m, ns[j]? = some m := ⟨_, List.getElem?_eq_getElem (by have := (List.getElem?_eq_some_iff.mp hj).1; omega)⟩
      obtain ⟨t, e3, h3⟩ := hk j m hm
      rw [hkp j m v hm hj]
      rw [hj] at e3
      obtain rfl := Option.some.inj e3
      obtain ⟨_, its2, r2, o, ho, hc, nn, hd⟩ := J.hok _ _ h3
      obtain ⟨u1, u2, rfl, ⟨t1, rfl⟩, t2, rfl⟩ := vals2 r2
      exact ⟨t, o, t1, t2, nn, rfl, ho, hc, hd⟩
    try dsimp only
    refine wpAny_bind (listItems_at kK rfl ?_)
    -- the end, whatever way it was sorted
    have fin : ∀ st : SortSt, (arrOf st).toList.Perm (kvs.zip its) → (arrOf st).toList.Pairwise (fun p q => SrtO.lexB (kpr H' q.1) (kpr H' p.1) = false) → failedOf st = none → wpAny (model X.prog X.w) A' (ksk_tail D false e1 (.ref kS) st) R E s' := by
      intro st hp hs hfl
      have hmem : ∀ p ∈ (arrOf st).toList, ∃ j m t, ns[j]? = some m ∧ kvs[j]? = some p.1 ∧ p.2 = .int m t := fun p hq => by
        obtain ⟨j, hj⟩ := List.mem_iff_getElem?.mp (hp.mem_iff.mp hq)
        rw [List.getElem?_zip_eq_some] at hj
        obtain ⟨m, hm⟩ : ∃ m, ns[j]? = some m := ⟨_, List.getElem?_eq_getElem (by have := (List.getElem?_eq_some_iff.mp hj.2).1; omega)⟩
        obtain ⟨t, ht⟩ := hi.get j m hm
        rw [ht] at hj
        exact ⟨j, m, t, hm, hj.1, (Option.some.inj hj.2).symm⟩
      have hsz2 : (arrOf st).size = its.length := by
        rw [← Array.length_toList, hp.length_eq, List.length_zip, hkl, Nat.min_self]
      unfold ksk_tail
      simp only [Bool.false_eq_true, if_false]
      refine wpAny_bind (listUpdate_at kK rfl ?_ (by rw [List.size_toArray, hkl]; exact hits) (Nat.zero_le _))
      have J6 : Inv X pins σ H' { s' with heap := s'.heap.update kS (Obj.mapSeq fun _ => (#[] : Array Value)) } := J.turnedL (t' := s'.toks) (ch := [kS]) (fun b o hb e => (Heap.get?_update_ne _ _ _ _ (by simpa using hb)).trans e) fun b hb => by rw [List.mem_singleton.mp hb]; exact gK
      have kD2 : (s'.heap.update kS (Obj.mapSeq fun _ => (#[] : Array Value))).get? D = some (seqObj "list" #[] e1) := (Heap.get?_update_ne _ _ _ _ hDk).trans kD
      refine wpAny_bind (wpAny_letGo ?_)
      refine wpAny_bind (seqEpoch_at kD2 rfl ?_)
      refine wpAny_bind (listUpdate_at kD2 rfl ?_ (Nat.zero_le _) (by rw [Array.size_map, hsz2]; exact Nat.le_succ_of_le hits))
      have J7 := Inv.turnedL (h' := (s'.heap.update kS (Obj.mapSeq fun _ => (#[] : Array Value))).update D (Obj.mapSeq fun _ => (arrOf st).map (·.2))) (t' := s'.toks) (ch := [D]) J6 (fun b o hb e => (Heap.get?_update_ne _ _ _ _ (by simpa using hb)).trans e) fun b hb => by rw [List.mem_singleton.mp hb]; exact gD
      have kD3 := get?_update_seq kD2 fun _ => (arrOf st).map (·.2)
      rw [hfl]
      simp only [bne_self_eq_false, Bool.false_eq_true, if_false]
      refine wpAny_pure (done H' _ _ ((arrOf st).toList.map fun p => SrtO.iv p.2) _ J7 sm kD3 gD ?_ ?_ ?_)
      · rw [Array.toList_map]
        have hI := SrtO.ints_iv (vs := (arrOf st).toList.map (·.2)) fun v hv => by
          obtain ⟨p, hq, rfl⟩ := List.mem_map.mp hv
          obtain ⟨j, m, t, _, _, h5⟩ := hmem p hq
          exact ⟨m, t, h5⟩
        rw [List.map_map] at hI
        exact hI
      · have h6 := hp.map fun p : Keyed => SrtO.iv p.2
        have e6 : (kvs.zip its).map (fun p : Keyed => SrtO.iv p.2) = ns := by
          have : (kvs.zip its).map (fun p : Keyed => SrtO.iv p.2) = ((kvs.zip its).map Prod.snd).map SrtO.iv := by rw [List.map_map]; rfl
          rw [this, List.map_snd_zip (by omega), SrtO.iv_ints hi]
        rw [e6] at h6
        exact h6
      · rw [List.pairwise_map]
        refine hs.imp_of_mem fun {p q} hp' hq' z => ?_
        obtain ⟨j, m, t, a1, a2, a3⟩ := hmem p hp'
        obtain ⟨j', m', t', b1, b2, b3⟩ := hmem q hq'
        rw [hkp j m _ a1 a2, hkp j' m' _ b1 b2] at z
        rw [a3, b3]
        exact z
    unfold ksk_end
    simp only [Bool.false_eq_true, if_false]
    have hzl : (kvs.toArray.zip its.toArray).toList = kvs.zip its := by simp
    by_cases h2 : its.toArray.size < 2
    · rw [if_pos h2, if_pos h2]
      refine wpAny_bind (wpAny_pure ?_)
      rw [StateT.run_pure]
      refine wpAny_bind (wpAny_pure ?_)
      try dsimp only
      refine fin (SortSt.mk' general' (kvs.toArray.zip its.toArray) #[] 7 none) (by show (kvs.toArray.zip its.toArray).toList.Perm _; rw [hzl]) ?_ rfl
      show (kvs.toArray.zip its.toArray).toList.Pairwise _
      rw [hzl]
      rw [List.size_toArray] at h2
      have h5 : (kvs.zip its).length ≤ 1 := by rw [List.length_zip]; omega
      match kvs.zip its, h5 with
      | [], _ => exact List.Pairwise.nil
      | [a], _ => exact List.pairwise_singleton _ _
      | _ :: _ :: l, h => exact absurd h (by rw [List.length_cons, List.length_cons]; omega)
    · rw [if_neg h2, if_neg h2]
      rw [List.size_toArray] at h2
      have h0 : 0 < kvs.length := by omega
      obtain ⟨κ, hkind, hT⟩ := SrtO.pairs_sortableO (prog := X.prog) (w := X.w) (A := A') (s := s') (a := D) h0 hpr (fun o ho c => by
        rw [kD] at ho
        obtain rfl := Option.some.inj ho
        exact absurd (Value.type.inj c) (by decide)) s'.heap fun b o _ e => e
      refine wpAny_bind (hkind _ _ ?_)
      refine wpAny_bind (wpAny_mono (SrtO.wpS_sortO (st0 := SortSt.mk' κ (kvs.toArray.zip its.toArray) #[] 7 none)
        (Q := fun _ st => SrtO.Srtd (SrtO.lt2 fun v u => SrtO.lexB (kpr H' v) (kpr H' u)) (arrOf st).toList ∧ SrtO.Stb (SrtO.lt2 fun v u => SrtO.lexB (kpr H' v) (kpr H' u)) (arrOf st).toList (kvs.toArray.zip its.toArray).toList ∧ failedOf st = none)
        (SrtO.swo2 (SrtO.swo_lex (kpr H'))) hT rfl (fun p hm => ?_) rfl rfl fun st a1 a2 a3 => ⟨a1, a2, a3⟩) ?_ fun _ _ z => z)
      · have hm : p ∈ (kvs.toArray.zip its.toArray).toList := hm
        rw [hzl] at hm
        exact (List.of_mem_zip (show (p.1, p.2) ∈ _ from hm)).1
      · rintro ⟨⟨⟩, st⟩ s2 ⟨rfl, a1, a2, a3⟩
        try dsimp only
        rw [hzl] at a2
        exact fin st a2.perm a1 a3
/-- an object of ours, not tracked till now -/
theorem track {D : Addr} {o : HO} (I : Inv X pins σ H s) (f : FpOk X pins H D) (new : ObjOk X.prog X.w (upd H D o) s.heap D o) : Inv X pins σ (upd H D o) s := by
  have ne : ∀ b u, H b = some u → b ≠ D := fun b u e z => by rw [z, f.1] at e; cases e
  exact I.step (h' := s.heap) (g' := s.gens) (d' := s.drawn) (t' := s.toks) (ch := [D]) (fun b hb => by rw [List.mem_singleton.mp hb]; exact ⟨f.2.2.2.1, f.2.1, f.2.2.2.2.1, f.2.2.2.2.2⟩) (fun b u _ _ _ e _ => e) (fun b u _ _ _ e _ => ⟨u.slots, e⟩)
    (fun b u hb _ n => by rw [upd_ne (by simpa using hb)]; exact n) (fun b u _ e => ⟨u, e⟩) (fun b xs e => by rw [upd_ne (ne _ _ e)]; exact e) (fun b u v e => by rw [upd_ne (ne _ _ e)]; exact e) (fun b ps e => ⟨#[], by rw [upd_ne (ne _ _ e), e]; simp⟩) (fun m hm => hm)
    (HOk.laidN I.hok (fun _ _ e => e) f.1 new) I.bare
def tSortLam (K : PySem.W.Frag) (T : List (Addr × Str)) (P : Addr) (N : List Str) (js : List Nat) (te tb : TE) : TE := fun σ H Q => te σ H fun v H1 => Tabs T H1 ∧ ∃ (a : Addr) (ns : List Int) (kx : Int → Int × Int), v = .ref a ∧ SqL K H1 a (ns.map V.int) ∧ ns.length ≤ 1000 ∧
  ∀ H2, Fr [P] H1 H2 → Tabs T H2 → (∀ m ∈ ns, ∀ H3, Same H2 H3 → tb (startF N [.int m] (js.map (slotAt σ))) H3 fun v H4 => Same H3 H4 ∧ ∃ t, v = .ref t ∧ H4 t = some (.tup [.int (kx m).1, .int (kx m).2])) ∧
    ∀ (ns' : List Int) (p : Addr) (H3 : Hp), Same H2 H3 → H2 p = none → ns'.Perm ns → ns'.Pairwise (fun a b => SrtO.lexB (kx b) (kx a) = false) → H3 p = some (.lst (ns'.map V.int)) → Q (.ref p) H3
theorem sqL_fr1 {K : PySem.W.Frag} {H H' : Hp} {P a : Addr} {tb : Array Value} {xs : List V} (f : Fr [P] H H') (hP : H P = some (.tbl tb)) (h : SqL K H a xs) : SqL K H' a xs := by
  rcases h with (h | ⟨o, h⟩) | h
  · exact .inl (.inl (f.at_ _ _ h fun z => by rw [List.mem_singleton.mp z, hP] at h; cases h))
  · exact .inl (.inr ⟨o, f.fz _ _ _ h⟩)
  · exact .inr h
end
section
variable {X : Cx}
theorem pe_sortLam {T : List (Addr × Str)} {c P : Addr} {k : Nat} {N fr : List Str} {js : List Nat} {a : Str} {params : Arguments} {body e : Expr} {scope : Scope} {te tb : TE} {p lpos kpos pos : Pos}
    (hg : Gl X "sorted") (hm : X.mg "sorted" = none) (TB : TabB X.base X.mg c P) (hcode : X.env.code = .ref c) (hmT : (P, X.env.qual ++ "<lambda>") ∈ T) (hu : ∀ p ∈ T, p.1 = P → p.2 = X.env.qual ++ "<lambda>") (hr : Room (k + 3) X.A)
    (S : NScope N [a] fr scope) (L : ndefB X.env.scope scope fr = true) (hjs : js.map (fun j => X.N[j]?) = fr.map some) (hdef : defaultsOf params X.env = ([], []))
    (hbind : ∀ (q : Str) (cl : List (Str × Addr)) (pm cv ctv u : Value), bindArgs (PySem.W.kla_fn "<lambda>" q params body scope cl pm cv ctv) ⟨[u], []⟩ = pure [(a, u)]) (he : PE X e te)
    (hbody : ∀ (A' : Around) (outer : List Env) (s : Shared) (H : Hp) (f c' : Addr) (cl : List (Str × Addr)), Room k (A'.deeper (envF (lmF (X.env.qual ++ "<lambda>") params scope cl c') f s.heap.objs.size)) → PE (ncx L2.CX0 X.prog X.w X.K X.mg X.base N (lmF (X.env.qual ++ "<lambda>") params scope cl c') f A' outer s H C8.E0) body tb)
    (hst : backTo pos (starEach [e] X.env) = (false, eval e X.env) :: backTo pos (starEach [] X.env) := by rfl) (hpl : (backTo pos (starEach [e] X.env)).any (·.1) = false := by rfl) :
    PE X (.Call (.Name "sorted" p) [e] [⟨some "key", .Lambda params body scope lpos, kpos⟩] pos) (tSortLam X.K T P N js te tb) := by
  refine ⟨fun pins s σ H Q I h => ?_⟩
  have hfree : ∀ y ∈ scope.names, y.2 = .free → ∃ c, X.env.cells.lookup y.1 = some c := fun y hy z => by
    rcases ndef_free L y hy z with q | q
    · exact I.ok.has _ (.inl q)
    · exact I.ok.has _ (.inr q)
  refine wpAny_Call_Name_kw (ld_blt I hg hm PyProof.Rows.boot_sorted ?_)
  refine PyProof.Rows.callWith_kw ?_ hst hpl (by rfl) (by rfl)
  rw [hst]
  refine Calls.spliced_cons (thn (he.run pins s σ H _ I h) fun u s1 ⟨v, H1, I1, r1, q1⟩ => ?_)
  refine Calls.spliced_nil ?_
  obtain ⟨hT, a1, ns, kx, ev, hL, hz, q⟩ := q1
  subst ev
  obtain rfl : u = Value.ref a1 := r1
  show wpAny _ _ (evalAll ((do let v ← eval (.Lambda params body scope lpos) X.env; standAt pos; pure v) :: [])) _ _ s1
  refine wpAny_evalAll_cons (wpAny_bind (lamMake I1 TB hcode hmT hu hT hdef hfree fun f c' pm ctv H2 s2 I2 eN T2 hf hfn hfr hco => wpAny_bind (wpAny_standAt (wpAny_pure (wpAny_evalAll_nil ?_)))))
  show wpAny _ _ (call (.builtin "sorted") [.ref a1] [(Str.ofString "key", .ref f)]) _ _ s2
  obtain ⟨key, q⟩ := q H2 eN T2
  have nfl : f ≠ X.env.locals := fun z => by
    obtain ⟨m, ⟨o, es, ep, ho, hd, _⟩, _⟩ := I2.loc
    rw [← z, hf] at ho
    obtain rfl := Option.some.inj ho
    cases hd
  have nff : f ∉ X.fs := fun z => hfr (by
    rcases I2.ok.stk with e | ⟨e, hfm⟩
    · rw [e]; exact z
    · rw [e]; unfold frs; rw [List.filterMap_cons, hfm]; exact List.mem_cons_of_mem _ z)
  have I3 : Inv X ((f, PySem.W.kla_obj "<lambda>" (X.env.qual ++ "<lambda>") params body scope (cloFrom X.env.cells scope.names []) pm c' ctv) :: pins) σ H2 s2 := I2.pins_of fun p hp => by
    rcases List.mem_cons.mp hp with z | z
    · subst z; exact ⟨hf, hfn, nfl, nff, fun v z => nomatch z⟩
    · exact I2.pin p (List.mem_append_right _ z)
  obtain ⟨tbP, hPt⟩ : ∃ tb, H1 P = some (.tbl tb) := let ⟨tb, e, _⟩ := hT _ hmT; ⟨tb, e⟩
  obtain ⟨its, rv, hl, hzl⟩ := I3.list (sqL_fr1 eN hPt hL)
  have hits : its.length ≤ sizeLine := by rw [← rv.length]; exact hzl
  refine PyProof.Rows.call_function_entry_kw PyProof.Rows.kind_sorted PyProof.Rows.plain_sorted PyProof.Rows.entry_sorted (PyProof.Rows.ksk_s1 _ _) ?_
  unfold Builtin.«sorted»
  refine wpAny_bind (m := checkCount "sorted" 1 1 _) (wpAny_pure (wpAny_bind (PyProof.Rows.collect_list hl.isList ?_ hits)))
  refine wpAny_bind (wpAny_newList ?_ hits)
  have I4 : Inv X ((f, PySem.W.kla_obj "<lambda>" (X.env.qual ++ "<lambda>") params body scope (cloFrom X.env.cells scope.names []) pm c' ctv) :: pins) σ H2 { s2 with heap := (s2.heap.push (seqObj "list" #[] 0)).update s2.heap.objs.size (Obj.mapSeq (· ++ its.toArray)) } :=
    I3.kept (t' := s2.toks) fun b o e => (Heap.get?_update_ne _ _ _ _ (Nat.ne_of_lt (Heap.lt_size e))).trans (Heap.get?_push_of_some _ e)
  show wpAny _ _ _ _ _ { s2 with heap := ((s2.heap.push (seqObj "list" #[] 0)).update s2.heap.objs.size (Obj.mapSeq (· ++ its.toArray))).push (seqObj "list" its.toArray 0) }
  have fD := I4.fpOk (Nat.le_refl _) (I4.hok.fresh (Nat.le_refl _))
  have hD := Heap.get?_push_size ((s2.heap.push (seqObj "list" #[] 0)).update s2.heap.objs.size (Obj.mapSeq (· ++ its.toArray))) (o := seqObj "list" its.toArray 0) rfl
  have I5 := Inv.kept (t' := s2.toks) (h' := ((s2.heap.push (seqObj "list" #[] 0)).update s2.heap.objs.size (Obj.mapSeq (· ++ its.toArray))).push (seqObj "list" its.toArray 0)) I4 fun b o e => Heap.get?_push_of_some _ e
  refine wpAny_bind (wpAny_holding (PyProof.Rows.wpAny_call_entry_kw PyProof.Rows.slot_list_sort ⟨_, hD, rfl⟩ PyProof.Rows.entry_list_sort ?body (PyProof.Rows.ksk_l1 _ _)))
  have e8 := PyProof.Rows.ksk_t1 f ((s2.heap.push (seqObj "list" #[] 0)).update s2.heap.objs.size (Obj.mapSeq (· ++ its.toArray))).objs.size
  have hns : its.length = ns.length := rv.ints.length
  generalize ((s2.heap.push (seqObj "list" #[] 0)).update s2.heap.objs.size (Obj.mapSeq (· ++ its.toArray))).objs.size = D at e8 fD hD
  show wpAny (model X.prog X.w) X.A.in1.in1 (Builtin.«list.sort» ⟨[.ref D], [(Str.ofString "key", .ref f)]⟩) _ _ _
  rw [e8]
  refine sortKeyTree (kx := kx) I5 rv.ints hD fD hz (fun m t H' s' pins' hm sm J hp => ?_) fun H' s' out ns' n' J sm oD gD hI pm2 ps => ⟨_, rfl, wpAny_pure ⟨_, rfl, ?_⟩⟩
  · have hfp := (J.pin (f, _) (List.mem_append_right _ (hp _ (List.mem_cons_self ..)))).1
    exact lamRun J S hfp (sm _ _ hco) (cells_of J (Caps.made J.ok (ndef_free L) (ndef_fr L) hjs)) hr.in1.in1 J.ok.frames (hbind _ _ _ _ _ _) (.cons (show RelV (V.int m) (Value.int m t) from ⟨t, rfl⟩) .nil) rfl (fun r2 => hbody _ _ _ _ _ _ _ r2) (key m hm H' sm)
  · obtain ⟨J2, _, _⟩ := fp_unpin J
    have gD2 : FpOk X pins H' D := ⟨gD.1, gD.2.1, gD.2.2.1, gD.2.2.2.1, gD.2.2.2.2.1, fun p hp => gD.2.2.2.2.2 p (by
      rcases List.mem_append.mp hp with z | z
      · exact List.mem_append_left _ z
      · exact List.mem_append_right _ (List.mem_cons_of_mem _ z))⟩
    have hl2 : ns'.length ≤ 1000 := by rw [pm2.length_eq]; exact hz
    refine ⟨.ref D, upd H' D (.lst (ns'.map V.int)), track J2 gD2 ⟨by rw [List.length_map]; exact Nat.le_trans hl2 (by decide), out.toList, n', vals_of_ints hI, by rw [Array.toArray_toList]; exact oD⟩, rfl, q ns' D _ (sm.trans (same_new gD.1)) ?_ pm2 ps upd_same⟩
    cases e9 : H2 D with
    | none => rfl
    | some o => have := sm _ _ e9; rw [gD.1] at this; cases this
end
end U

/-! ### targets: fields, slices; readings of fields -/
namespace U
open PySem PySem.Spec PyProof.Rows L2
section
variable {X : Cx} {K : PySem.W.Frag} {σ : L2.St} {H : Hp} {Q : VK}
def rFld (K : PySem.W.Frag) (f : Str) (Q : VK) (x : V) (H1 : Hp) : Prop := ∃ a C dx fs v, x = .ref a ∧ H1 a = some (.ins C dx fs) ∧ Cls K C ∧ NoAttr K C f ∧ fs.lookup f = some v ∧ Q v H1
theorem iFld {te : TE} {f : Str} (h : te σ H (rFld K f Q)) : tFld K te f σ H Q := h
theorem gFld {f : Str} {a C dx : Addr} {fs : List (Str × V)} {v : V} (e : H a = some (.ins C dx fs)) (c : Cls K C) (n : NoAttr K C f) (l : fs.lookup f = some v) (q : Q v H) : rFld K f Q (.ref a) H := ⟨a, C, dx, fs, v, rfl, e, c, n, l, q⟩
def wFld (K : PySem.W.Frag) (f : Str) (y : V) (R : Hp → Prop) (x : V) (H2 : Hp) : Prop := ∃ a C dx fs, x = .ref a ∧ H2 a = some (.ins C dx fs) ∧ Cls K C ∧ NoAttr K C f ∧ fs.length < 1000 ∧ R (upd H2 a (.ins C dx (putF f y fs)))
theorem iSFld {ta tv : TE} {f : Str} {nx bk ct : L2.St → Hp → Prop} {rt : VK} (h : tv σ H fun y H1 => ta σ H1 (wFld K f y fun H' => nx σ H')) : sFld K ta tv f ⟨nx, rt, bk, ct⟩ σ H := h
theorem gSFld {f : Str} {y : V} {R : Hp → Prop} {a C dx : Addr} {fs fs' : List (Str × V)} (e : H a = some (.ins C dx fs)) (c : Cls K C) (n : NoAttr K C f) (l : Nat.ble fs.length 900 = true) (e2 : putF f y fs = fs') (q : R (upd H a (.ins C dx fs'))) : wFld K f y R (.ref a) H :=
  ⟨a, C, dx, fs, rfl, e, c, n, Nat.lt_of_le_of_lt (Nat.le_of_ble_eq_true l) (by decide), by rw [e2]; exact q⟩
theorem slListK (e : X.K = K := by rfl) : SlR X (rSlL K) := e ▸ sl_list
theorem pe_fldK {e : Expr} {f : Str} {pos : Pos} {ta : TE} (he : PE X e ta) (hb : attributeBase e f X.env (eval e X.env) = eval e X.env) (e2 : X.K = K := by rfl) : PE X (.Attribute e f pos) (tFld K ta f) := e2 ▸ pe_fld he hb
def gFldT (K : PySem.W.Frag) (to : TE) (f : Str) : TG := fun v σ H R => to σ H (wFld K f v fun H' => R σ H')
theorem pg_fldU {o : Expr} {to : TE} {f : Str} {pos : Pos} (ho : PE X o to) : PG X (.Attribute o f pos) (gFldT X.K to f) := by
  refine ⟨fun pins s σ H v u Q I r h => PySem.W.kas_attr (thn (ho.run pins s σ H _ I h) fun ov s1 ⟨x, H1, I1, rx, z⟩ => ?_)⟩
  obtain ⟨a, C, dx, fs, rfl, ea, c, n, l, q⟩ := z
  obtain rfl : ov = Value.ref a := rx
  exact setattr_ok I1 ea c n l r fun s2 I2 => ⟨σ, _, I2, q⟩
theorem iFldT {to : TE} {f : Str} {v : V} {R : L2.St → Hp → Prop} (h : to σ H (wFld K f v fun H' => R σ H')) : gFldT K to f v σ H R := h
def wSl (v l u : V) (R : Hp → Prop) (o : V) (H3 : Hp) : Prop := ∃ (p b : Addr) (xs ys : List V) (a c : Int), o = .ref p ∧ v = .ref b ∧ l = .int a ∧ u = .int c ∧ H3 p = some (.lst xs) ∧ H3 b = some (.lst ys) ∧ p ≠ b ∧ 0 ≤ a ∧ a ≤ c ∧ c ≤ xs.length ∧ xs.length + ys.length ≤ sizeLine ∧
  R (upd H3 p (.lst (xs.take a.toNat ++ ys ++ xs.drop c.toNat)))
def gSlT (to tl th : TE) : TG := fun v σ H R => to σ H fun o H1 => tl σ H1 fun l H2 => th σ H2 fun u H3 => wSl v l u (fun H' => R σ H') o H3
theorem pg_slice {o lo hi : Expr} {to tl th : TE} {p2 pos : Pos} (ho : PE X o to) (hl : PE X lo tl) (hh : PE X hi th) : PG X (.Subscript o (.Slice (some lo) (some hi) none p2) pos) (gSlT to tl th) := by
  refine ⟨fun pins s σ H v u Q I r h => PySem.W.kas_sub (thn (ho.run pins s σ H _ I h) fun ov s1 ⟨x, H1, I1, rx, z⟩ => ?_)⟩
  refine wpAny_Slice ?_
  rw [evalPart_some, evalPart_some, evalPart_none]
  refine thn (hl.run pins s1 σ H1 _ I1 z) fun lv s2 ⟨l, H2, I2, rl, z⟩ => thn (hh.run pins s2 σ H2 _ I2 z) fun uv s3 ⟨u', H3, I3, ru, z⟩ => wpAny_pure ?_
  obtain ⟨p, b, xs, ys, a, c, rfl, rfl, rfl, rfl, hp, hb, ne, h1, h2, h3, h4, q⟩ := z
  obtain rfl : ov = Value.ref p := rx
  obtain rfl : u = Value.ref b := r
  have I4 : Inv X pins σ H3 { s3 with heap := s3.heap.push { cls := .type "slice", data := .fields #[lv, uv, .none] } } := I3.kept (t' := s3.toks) fun b ob q => Heap.get?_push_of_some _ q
  exact set_slice I4 hp hb ne (Heap.IsSliceOf.new ..) rl ru h1 h2 h3 h4 fun s' I5 => ⟨σ, _, I5, q⟩
theorem iSlT {to tl th : TE} {v : V} {R : L2.St → Hp → Prop} (h : to σ H fun o H1 => tl σ H1 fun l H2 => th σ H2 fun u H3 => wSl v l u (fun H' => R σ H') o H3) : gSlT to tl th v σ H R := h
theorem clsK {K' : PySem.W.Frag} {C : Addr} (h : Cls K C) (e : K' = K) : Cls K' C := e ▸ h
theorem naK {K' : PySem.W.Frag} {C : Addr} {f : Str} (h : NoAttr K C f) (e : K' = K) : NoAttr K' C f := e ▸ h
theorem upd2 {a : Addr} {o u : HO} : upd (upd H a o) a u = upd H a u := by
  funext b
  unfold upd
  split <;> rfl
theorem noneU {a b : Addr} {o : HO} (h : upd H a o b = none) : H b = none := by
  unfold upd at h
  split at h
  · cases h
  · exact h
theorem lvU {a r : Addr} {o : HO} (h : (H a).isSome = true) : (upd H r o a).isSome = true := by
  unfold upd
  split
  · rfl
  · exact h
theorem lvA {a : Addr} {o : HO} : (upd H a o a).isSome = true := by rw [upd_same]; rfl
theorem lvS {a : Addr} {o : HO} (h : H a = some o) : (H a).isSome = true := by rw [h]; rfl
theorem lvSame {H' : Hp} {a : Addr} (s : Same H H') (h : (H a).isSome = true) : (H' a).isSome = true := by
  obtain ⟨o, e⟩ := Option.isSome_iff_exists.mp h
  exact lvS (s _ _ e)
theorem lvFr {H' : Hp} {S : List Addr} {a : Addr} (f : Fr S H H') (h : (H a).isSome = true) : (H' a).isSome = true := by
  cases e : H' a with
  | none => rw [f.dm _ e] at h; exact h
  | some o => rfl
theorem neL {a b : Addr} (hb : H b = none) (ha : (H a).isSome = true) : a ≠ b := fun z => by rw [z, hb] at ha; cases ha
/-! calls of methods, new objects -/
def rMeth (C : Addr) (m : Str) (sp : Sp) (E : XK) (t : TA) (dvs : List V) (σ : L2.St) (Q : VK) (x : V) (H1 : Hp) : Prop := ∃ a dx fs, x = .ref a ∧ H1 a = some (.ins C dx fs) ∧ fs.lookup m = none ∧ t σ H1 fun vs H2 => sp (x :: (vs ++ dvs)) H2 Q E
theorem iMeth {C : Addr} {m : Str} {sp : Sp} {E : XK} {dvs : List V} {ta : TE} {t : TA} (h : ta σ H (rMeth C m sp E t dvs σ Q)) : tMeth C m sp dvs E ta t σ H Q := h
theorem gMeth {C : Addr} {m : Str} {sp : Sp} {E : XK} {dvs : List V} {t : TA} {a : Addr} (h : ∃ dx fs, H a = some (.ins C dx fs) ∧ fs.lookup m = none ∧ t σ H fun vs H2 => sp (.ref a :: (vs ++ dvs)) H2 Q E) : rMeth C m sp E t dvs σ Q (.ref a) H := let ⟨dx, fs, e, l, q⟩ := h; ⟨a, dx, fs, rfl, e, l, q⟩
theorem iMake {C : Addr} {sp : Sp} {E : XK} {dvs : List V} {t : TA} (h : t σ H fun vs H1 => ∀ x dx, H1 x = none → H1 dx = none → dx ≠ x → sp (.ref x :: (vs ++ dvs)) (upd (upd H1 dx (.own x)) x (.ins C dx [])) (fun v H2 => v = .non ∧ Q (.ref x) H2) E) : tMake C sp dvs E t σ H Q := h
theorem gFldX {f : Str} {a : Addr} (h : ∃ C dx fs, H a = some (.ins C dx fs) ∧ Cls K C ∧ NoAttr K C f ∧ ∃ v, fs.lookup f = some v ∧ Q v H) : rFld K f Q (.ref a) H := let ⟨C, dx, fs, e, c, n, v, l, q⟩ := h; ⟨a, C, dx, fs, v, rfl, e, c, n, l, q⟩
theorem gSFldX {f : Str} {y : V} {R : Hp → Prop} {a : Addr} (h : ∃ C dx fs, H a = some (.ins C dx fs) ∧ Cls K C ∧ NoAttr K C f ∧ Nat.ble fs.length 900 = true ∧ ∃ fs', putF f y fs = fs' ∧ R (upd H a (.ins C dx fs'))) : wFld K f y R (.ref a) H :=
  let ⟨C, dx, fs, e, c, n, l, fs', e2, q⟩ := h; gSFld e c n l e2 q
theorem iWSl {v l u : V} {R : Hp → Prop} {p b : Addr} {xs ys : List V} {a c : Int} (hp : H p = some (.lst xs)) (hb : H b = some (.lst ys)) (ne : p ≠ b) (h0 : 0 ≤ a) (h1 : a ≤ c) (h2 : c ≤ xs.length) (h3 : xs.length + ys.length ≤ sizeLine) (q : R (upd H p (.lst (xs.take a.toNat ++ ys ++ xs.drop c.toNat)))) : wSl (.ref b) (.int a) (.int c) R (.ref p) H :=
  ⟨p, b, xs, ys, a, c, rfl, rfl, rfl, rfl, hp, hb, ne, h0, h1, h2, h3, q⟩
theorem gRepL {a : Addr} {k : Int} {xs : List V} (h : H a = some (.lst xs)) (k0 : 0 ≤ k) (k1 : k ≤ 1000) (l : xs.length ≤ 1000) (q : ∀ p, H p = none → Q (.ref p) (upd H p (.lst (List.replicate k.toNat xs).flatten))) : rRep (.ref a) (.int k) H Q :=
  ⟨a, k, xs, rfl, rfl, h, by omega, by omega, Nat.le_trans (Nat.mul_le_mul l (show k.toNat ≤ 1000 by omega)) (by decide), q⟩
end
section
open C8 (Cal Met Mak)
variable {P : Program} {w : World} {K : PySem.W.Frag} {mg : Str → Option Value} {base : Heap}
/-- a def that makes a lambda: its code object is known -/
theorem cal_mkT {x : Str} {params : Arguments} {body : List Stmt} {scope : Scope} {N ps : List Str} {k : Nat} {sp : Sp} (hF : ∃ fd, FunD K x x params body scope [] [] (He.fAd K (x, none)) fd) (hm : mg x = some (.ref (He.ga K x)))
    (S : FnScope N ps scope) (hb : ∀ (kV doc pm : Value) (an : Option Addr) (cdv ct : Value) (us : List Value), us.length = ps.length → bindArgs (PySem.W.fnOf x x params body scope .none kV doc pm an cdv ct) ⟨us, []⟩ = pure (ps.zip us))
    (len : ∀ vs H Q E, sp vs H Q E → vs.length = ps.length)
    (hbody : ∀ (cdv : Value), cdv = .ref (He.codeOf K (x, none)) → ∀ (A : Around) (outer : List Env) (s : Shared) (H : Hp) (vs : List V) (Q : VK) (E : XK), Room k (A.deeper (envOfC x scope s.heap.objs.size (He.fAd K (x, none)) cdv)) → sp vs H Q E →
      ∃ t, PSs (cxOf CX0 P w K mg base N x scope (He.fAd K (x, none)) cdv A outer s H E).nox body t ∧ t { nx := fun _ H' => Q .non H', rt := Q } (start N vs) H) : Cal P w K mg base (k + 1) x sp [] := by
  obtain ⟨fd, F⟩ := hF
  refine ⟨He.ga K x, fd, ps, [], ?_, hm, F.kp, F.bindsN hb, .nil⟩
  obtain ⟨oc, od, dV, kV, doc, pm, an, cdv, ct, osl, rfl, lk, hcd, _, _⟩ := F.ex
  obtain ⟨c, ec⟩ := He.codeIn_ref hcd
  have e : cdv = .ref (He.codeOf K (x, none)) := by rw [He.codeOf_eq lk ec]; exact ec
  exact fn_of lk hcd S len fun A outer s H vs Q E hr h => let ⟨t, p, q⟩ := hbody cdv e A outer s H vs Q E hr h; ⟨t, p.nox, q⟩
end
end U

namespace U
open PySem PySem.Spec PyProof.Rows L2
open C8 (Cal Met Mak pe_c pe_mk pe_mt pe_mt0)
/-! the text by places -/
def topS (i : Nat) : Stmt := PySem.Challenge.pw_surfacehall_k06_at_rest_by_own_laying.main.body.getD i (.Pass ⟨0, 0, 0, 0⟩)
abbrev s_seen_under : Stmt := topS 6
abbrev s_laid : Stmt := topS 7
abbrev s_painted : Stmt := topS 8
abbrev s_LookDU_initDU : Stmt := inClass (topS 10) 0
abbrev s_Look_copied : Stmt := inClass (topS 10) 1
abbrev s_Look_size : Stmt := inClass (topS 10) 2
abbrev s_Look_paint : Stmt := inClass (topS 10) 3
abbrev s_SurfaceDU_initDU : Stmt := inClass (topS 11) 0
abbrev s_ClientDU_initDU : Stmt := inClass (topS 12) 0
abbrev s_Client_parts : Stmt := inClass (topS 12) 1
abbrev s_Client_all_under : Stmt := inClass (topS 12) 2
abbrev s_Client_show : Stmt := inClass (topS 12) 3
abbrev s_Client_may_tie : Stmt := inClass (topS 12) 4
abbrev s_Client_change : Stmt := inClass (topS 12) 5
abbrev s_is_number : Stmt := topS 21
abbrev s_is_letter : Stmt := topS 22
abbrev s_need_letter : Stmt := topS 23
abbrev s_need_size : Stmt := topS 24
abbrev s_at_rest : Stmt := topS 26
abbrev s_client_of : Stmt := topS 27
abbrev s_done : Stmt := topS 28
abbrev s_law_mix : Stmt := topS 30
abbrev s_law_next : Stmt := topS 31
abbrev s_law_alike : Stmt := topS 32
abbrev s_law_letter : Stmt := topS 33
abbrev s_law_odd : Stmt := topS 34
abbrev s_law_sized : Stmt := topS 35
abbrev s_law_pending : Stmt := topS 36
abbrev s_law_under : Stmt := topS 37
abbrev s_law_is_tied : Stmt := topS 38
abbrev s_law_does : Stmt := topS 39
abbrev s_law_book : Stmt := topS 40
abbrev s_law_alone : Stmt := topS 41
abbrev s_law_seen : Stmt := topS 42
abbrev s_law_laid : Stmt := topS 43
abbrev s_law_painted : Stmt := topS 44
abbrev s_law : Stmt := topS 45
abbrev N_seen_under : List Str := ["client", "names", "left", "top", "found", "some", "name", "look", "x", "y"]
theorem st_seen_under (a0 a1 a2 a3 : V) : L2.start N_seen_under [a0, a1, a2, a3] = [some a0, some a1, some a2, some a3, none, none, none, none, none, none] := rfl
theorem sc_seen_under : FnScope N_seen_under ["client", "names", "left", "top"] (defScope s_seen_under) := ⟨rfl, rfl, rfl, by decide +kernel, rfl, by decide +kernel, by decide +kernel⟩
abbrev N_laid : List Str := ["clients", "tops", "number", "client", "name", "found", "rank", "one"]
theorem st_laid (a0 : V) : L2.start N_laid [a0] = [some a0, none, none, none, none, none, none, none] := rfl
theorem sc_laid : FnScope N_laid ["clients"] (defScope s_laid) := ⟨rfl, rfl, rfl, by decide +kernel, rfl, by decide +kernel, by decide +kernel⟩
abbrev N_painted : List Str := ["wide", "high", "clients", "rows", "marks", "y", "owners", "number", "name", "left", "top", "look", "down", "row", "right", "mark", "x"]
theorem st_painted (a0 a1 a2 a3 : V) : L2.start N_painted [a0, a1, a2, a3] = [some a0, some a1, some a2, some a3, none, none, none, none, none, none, none, none, none, none, none, none, none] := rfl
theorem sc_painted : FnScope N_painted ["wide", "high", "clients", "rows"] (defScope s_painted) := ⟨rfl, rfl, rfl, by decide +kernel, rfl, by decide +kernel, by decide +kernel⟩
abbrev N_LookDU_initDU : List Str := ["self"]
theorem st_LookDU_initDU (a0 : V) : L2.start N_LookDU_initDU [a0] = [some a0] := rfl
theorem sc_LookDU_initDU : FnScope N_LookDU_initDU ["self"] (defScope s_LookDU_initDU) := ⟨rfl, rfl, rfl, by decide +kernel, rfl, by decide +kernel, by decide +kernel⟩
abbrev N_Look_copied : List Str := ["self", "found", "row"]
theorem st_Look_copied (a0 : V) : L2.start N_Look_copied [a0] = [some a0, none, none] := rfl
theorem sc_Look_copied : FnScope N_Look_copied ["self"] (defScope s_Look_copied) := ⟨rfl, rfl, rfl, by decide +kernel, rfl, by decide +kernel, by decide +kernel⟩
abbrev N_Look_size : List Str := ["self", "wide", "high", "rows", "row", "k"]
theorem st_Look_size (a0 a1 a2 : V) : L2.start N_Look_size [a0, a1, a2] = [some a0, some a1, some a2, none, none, none] := rfl
theorem sc_Look_size : FnScope N_Look_size ["self", "wide", "high"] (defScope s_Look_size) := ⟨rfl, rfl, rfl, by decide +kernel, rfl, by decide +kernel, by decide +kernel⟩
abbrev N_Look_paint : List Str := ["self", "x", "y", "wide", "high", "mark", "row"]
theorem st_Look_paint (a0 a1 a2 a3 a4 a5 : V) : L2.start N_Look_paint [a0, a1, a2, a3, a4, a5] = [some a0, some a1, some a2, some a3, some a4, some a5, none] := rfl
theorem sc_Look_paint : FnScope N_Look_paint ["self", "x", "y", "wide", "high", "mark"] (defScope s_Look_paint) := ⟨rfl, rfl, rfl, by decide +kernel, rfl, by decide +kernel, by decide +kernel⟩
abbrev N_SurfaceDU_initDU : List Str := ["self"]
theorem st_SurfaceDU_initDU (a0 : V) : L2.start N_SurfaceDU_initDU [a0] = [some a0] := rfl
theorem sc_SurfaceDU_initDU : FnScope N_SurfaceDU_initDU ["self"] (defScope s_SurfaceDU_initDU) := ⟨rfl, rfl, rfl, by decide +kernel, rfl, by decide +kernel, by decide +kernel⟩
abbrev N_ClientDU_initDU : List Str := ["self"]
theorem st_ClientDU_initDU (a0 : V) : L2.start N_ClientDU_initDU [a0] = [some a0] := rfl
theorem sc_ClientDU_initDU : FnScope N_ClientDU_initDU ["self"] (defScope s_ClientDU_initDU) := ⟨rfl, rfl, rfl, by decide +kernel, rfl, by decide +kernel, by decide +kernel⟩
abbrev N_Client_parts : List Str := ["self", "name", "other"]
theorem st_Client_parts (a0 a1 : V) : L2.start N_Client_parts [a0, a1] = [some a0, some a1, none] := rfl
theorem sc_Client_parts : FnScope N_Client_parts ["self", "name"] (defScope s_Client_parts) := ⟨rfl, rfl, rfl, by decide +kernel, rfl, by decide +kernel, by decide +kernel⟩
abbrev N_Client_all_under : List Str := ["self", "name", "found", "part"]
theorem st_Client_all_under (a0 a1 : V) : L2.start N_Client_all_under [a0, a1] = [some a0, some a1, none, none] := rfl
theorem sc_Client_all_under : FnScope N_Client_all_under ["self", "name"] (defScope s_Client_all_under) := ⟨rfl, rfl, rfl, by decide +kernel, rfl, by decide +kernel, by decide +kernel⟩
abbrev N_Client_show : List Str := ["self", "name", "surface", "found", "one"]
theorem st_Client_show (a0 a1 : V) : L2.start N_Client_show [a0, a1] = [some a0, some a1, none, none, none] := rfl
theorem sc_Client_show : FnScope N_Client_show ["self", "name"] (defScope s_Client_show) := ⟨rfl, rfl, rfl, by decide +kernel, rfl, by decide +kernel, by decide +kernel⟩
abbrev N_Client_may_tie : List Str := ["self", "name", "other", "one", "above"]
theorem st_Client_may_tie (a0 a1 a2 : V) : L2.start N_Client_may_tie [a0, a1, a2] = [some a0, some a1, some a2, none, none] := rfl
theorem sc_Client_may_tie : FnScope N_Client_may_tie ["self", "name", "other"] (defScope s_Client_may_tie) := ⟨rfl, rfl, rfl, by decide +kernel, rfl, by decide +kernel, by decide +kernel⟩
abbrev N_Client_change : List Str := ["self", "letter", "word", "name", "look"]
theorem st_Client_change (a0 a1 : V) : L2.start N_Client_change [a0, a1] = [some a0, some a1, none, none, none] := rfl
theorem sc_Client_change : FnScope N_Client_change ["self", "letter"] (defScope s_Client_change) := ⟨rfl, rfl, rfl, by decide +kernel, rfl, by decide +kernel, by decide +kernel⟩
abbrev N_is_number : List Str := ["part", "low", "high"]
theorem st_is_number (a0 a1 a2 : V) : L2.start N_is_number [a0, a1, a2] = [some a0, some a1, some a2] := rfl
theorem sc_is_number : FnScope N_is_number ["part", "low", "high"] (defScope s_is_number) := ⟨rfl, rfl, rfl, by decide +kernel, rfl, by decide +kernel, by decide +kernel⟩
abbrev N_is_letter : List Str := ["letter", "form", "part", "sort"]
theorem st_is_letter (a0 : V) : L2.start N_is_letter [a0] = [some a0, none, none, none] := rfl
theorem sc_is_letter : FnScope N_is_letter ["letter"] (defScope s_is_letter) := ⟨rfl, rfl, rfl, by decide +kernel, rfl, by decide +kernel, by decide +kernel⟩
abbrev N_need_letter : List Str := ["letter"]
theorem st_need_letter (a0 : V) : L2.start N_need_letter [a0] = [some a0] := rfl
theorem sc_need_letter : FnScope N_need_letter ["letter"] (defScope s_need_letter) := ⟨rfl, rfl, rfl, by decide +kernel, rfl, by decide +kernel, by decide +kernel⟩
abbrev N_need_size : List Str := ["wide", "high"]
theorem st_need_size (a0 a1 : V) : L2.start N_need_size [a0, a1] = [some a0, some a1] := rfl
theorem sc_need_size : FnScope N_need_size ["wide", "high"] (defScope s_need_size) := ⟨rfl, rfl, rfl, by decide +kernel, rfl, by decide +kernel, by decide +kernel⟩
abbrev N_at_rest : List Str := ["wide", "high", "books", "book", "letter", "clients"]
theorem st_at_rest (a0 a1 a2 : V) : L2.start N_at_rest [a0, a1, a2] = [some a0, some a1, some a2, none, none, none] := rfl
theorem sc_at_rest : FnScope N_at_rest ["wide", "high", "books"] (defScope s_at_rest) := ⟨rfl, rfl, rfl, by decide +kernel, rfl, by decide +kernel, by decide +kernel⟩
abbrev N_client_of : List Str := ["book", "client", "letter"]
theorem st_client_of (a0 : V) : L2.start N_client_of [a0] = [some a0, none, none] := rfl
theorem sc_client_of : FnScope N_client_of ["book"] (defScope s_client_of) := ⟨rfl, rfl, rfl, by decide +kernel, rfl, by decide +kernel, by decide +kernel⟩
abbrev N_done : List Str := ["client", "letter", "word", "name", "one"]
theorem st_done (a0 a1 : V) : L2.start N_done [a0, a1] = [some a0, some a1, none, none, none] := rfl
theorem sc_done : FnScope N_done ["client", "letter"] (defScope s_done) := ⟨rfl, rfl, rfl, by decide +kernel, rfl, by decide +kernel, by decide +kernel⟩
abbrev N_law_mix : List Str := ["_law_script", "_law_seed", "_law_mixed", "_law_cell"]
theorem st_law_mix (a0 a1 : V) : L2.start N_law_mix [a0, a1] = [some a0, some a1, none, none] := rfl
theorem sc_law_mix : FnScope N_law_mix ["_law_script", "_law_seed"] (defScope s_law_mix) := ⟨rfl, rfl, rfl, by decide +kernel, rfl, by decide +kernel, by decide +kernel⟩
abbrev N_law_next : List Str := ["_law_h", "_law_many", "_law_at", "_law_cell"]
theorem st_law_next (a0 a1 : V) : L2.start N_law_next [a0, a1] = [some a0, some a1, none, none] := rfl
theorem sc_law_next : FnScope N_law_next ["_law_h", "_law_many"] (defScope s_law_next) := ⟨rfl, rfl, rfl, by decide +kernel, rfl, by decide +kernel, by decide +kernel⟩
abbrev N_law_alike : List Str := ["_law_found", "_law_due", "_law_k"]
theorem st_law_alike (a0 a1 : V) : L2.start N_law_alike [a0, a1] = [some a0, some a1, none] := rfl
theorem sc_law_alike : FnScope N_law_alike ["_law_found", "_law_due"] (defScope s_law_alike) := ⟨rfl, rfl, rfl, by decide +kernel, rfl, by decide +kernel, by decide +kernel⟩
abbrev N_law_letter : List Str := ["_law_h", "_law_w", "_law_some", "_law_name", "_law_other", "_law_turn", "_law_fresh", "_law_one", "_law_marks", "_law_wide", "_law_high", "_law_x", "_law_y", "_law_far", "_law_words", "_law_word"]
theorem st_law_letter (a0 a1 : V) : L2.start N_law_letter [a0, a1] = [some a0, some a1, none, none, none, none, none, none, none, none, none, none, none, none, none, none] := rfl
theorem sc_law_letter : FnScope N_law_letter ["_law_h", "_law_w"] (defScope s_law_letter) := ⟨rfl, rfl, rfl, by decide +kernel, rfl, by decide +kernel, by decide +kernel⟩
abbrev N_law_odd : List Str := ["_law_h", "_law_w", "_law_name", "_law_some"]
theorem st_law_odd (a0 a1 : V) : L2.start N_law_odd [a0, a1] = [some a0, some a1, none, none] := rfl
theorem sc_law_odd : FnScope N_law_odd ["_law_h", "_law_w"] (defScope s_law_odd) := ⟨rfl, rfl, rfl, by decide +kernel, rfl, by decide +kernel, by decide +kernel⟩
abbrev N_law_sized : List Str := ["_law_marks", "_law_wide", "_law_high", "_law_found", "_law_y", "_law_row"]
theorem st_law_sized (a0 a1 a2 : V) : L2.start N_law_sized [a0, a1, a2] = [some a0, some a1, some a2, none, none, none] := rfl
theorem sc_law_sized : FnScope N_law_sized ["_law_marks", "_law_wide", "_law_high"] (defScope s_law_sized) := ⟨rfl, rfl, rfl, by decide +kernel, rfl, by decide +kernel, by decide +kernel⟩
abbrev N_law_pending : List Str := ["_law_look", "_law_letter_here", "_law_x", "_law_y", "_law_rank", "_law_veiled", "_law_marks", "_law_word", "_law_left", "_law_top", "_law_wide", "_law_high", "_law_mark", "_law_rows", "_law_k"]
theorem st_law_pending (a0 a1 : V) : L2.start N_law_pending [a0, a1] = [some a0, some a1, none, none, none, none, none, none, none, none, none, none, none, none, none] := rfl
theorem sc_law_pending : FnScope N_law_pending ["_law_look", "_law_letter_here"] (defScope s_law_pending) := ⟨rfl, rfl, rfl, by decide +kernel, rfl, by decide +kernel, by decide +kernel⟩
abbrev N_law_under : List Str := ["_law_w", "_law_name", "_law_found", "_law_part"]
theorem st_law_under (a0 a1 : V) : L2.start N_law_under [a0, a1] = [some a0, some a1, none, none] := rfl
theorem sc_law_under : FnScope N_law_under ["_law_w", "_law_name"] (defScope s_law_under) := ⟨rfl, rfl, rfl, by decide +kernel, rfl, by decide +kernel, by decide +kernel⟩
abbrev N_law_is_tied : List Str := ["_law_w", "_law_name", "_law_other", "_law_above"]
theorem st_law_is_tied (a0 a1 a2 : V) : L2.start N_law_is_tied [a0, a1, a2] = [some a0, some a1, some a2, none] := rfl
theorem sc_law_is_tied : FnScope N_law_is_tied ["_law_w", "_law_name", "_law_other"] (defScope s_law_is_tied) := ⟨rfl, rfl, rfl, by decide +kernel, rfl, by decide +kernel, by decide +kernel⟩
abbrev N_law_does : List Str := ["_law_w", "_law_letter_here", "_law_word", "_law_name", "_law_gone", "_law_one", "_law_found", "_law_look"]
theorem st_law_does (a0 a1 : V) : L2.start N_law_does [a0, a1] = [some a0, some a1, none, none, none, none, none, none] := rfl
theorem sc_law_does : FnScope N_law_does ["_law_w", "_law_letter_here"] (defScope s_law_does) := ⟨rfl, rfl, rfl, by decide +kernel, rfl, by decide +kernel, by decide +kernel⟩
abbrev N_law_book : List Str := ["_law_h", "_law_many", "_law_w", "_law_found", "_law_odd_here", "_law_k", "_law_letter_here"]
theorem st_law_book (a0 a1 : V) : L2.start N_law_book [a0, a1] = [some a0, some a1, none, none, none, none, none] := rfl
theorem sc_law_book : FnScope N_law_book ["_law_h", "_law_many"] (defScope s_law_book) := ⟨rfl, rfl, rfl, by decide +kernel, rfl, by decide +kernel, by decide +kernel⟩
abbrev N_law_alone : List Str := ["_law_book_here", "_law_w", "_law_letter_here"]
theorem st_law_alone (a0 : V) : L2.start N_law_alone [a0] = [some a0, none, none] := rfl
theorem sc_law_alone : FnScope N_law_alone ["_law_book_here"] (defScope s_law_alone) := ⟨rfl, rfl, rfl, by decide +kernel, rfl, by decide +kernel, by decide +kernel⟩
abbrev N_law_seen : List Str := ["_law_w", "_law_name", "_law_left", "_law_top", "_law_look", "_law_found", "_law_parts", "_law_one", "_law_rank", "_law_part"]
theorem st_law_seen (a0 a1 a2 a3 : V) : L2.start N_law_seen [a0, a1, a2, a3] = [some a0, some a1, some a2, some a3, none, none, none, none, none, none] := rfl
theorem sc_law_seen : FnScope N_law_seen ["_law_w", "_law_name", "_law_left", "_law_top"] (defScope s_law_seen) := ⟨rfl, rfl, rfl, by decide +kernel, rfl, by decide +kernel, by decide +kernel⟩
abbrev N_law_laid : List Str := ["_law_worlds", "_law_tops", "_law_k", "_law_name", "_law_found", "_law_rank", "_law_one"]
theorem st_law_laid (a0 : V) : L2.start N_law_laid [a0] = [some a0, none, none, none, none, none, none] := rfl
theorem sc_law_laid : FnScope N_law_laid ["_law_worlds"] (defScope s_law_laid) := ⟨rfl, rfl, rfl, by decide +kernel, rfl, by decide +kernel, by decide +kernel⟩
abbrev N_law_painted : List Str := ["_law_wide", "_law_high", "_law_worlds", "_law_rows", "_law_marks", "_law_owners", "_law_y", "_law_x", "_law_k", "_law_name", "_law_left", "_law_top", "_law_some"]
theorem st_law_painted (a0 a1 a2 : V) : L2.start N_law_painted [a0, a1, a2] = [some a0, some a1, some a2, none, none, none, none, none, none, none, none, none, none] := rfl
theorem sc_law_painted : FnScope N_law_painted ["_law_wide", "_law_high", "_law_worlds"] (defScope s_law_painted) := ⟨rfl, rfl, rfl, by decide +kernel, rfl, by decide +kernel, by decide +kernel⟩
abbrev N_law : List Str := ["_law_script", "_law_h", "_law_turn", "_law_wide", "_law_high", "_law_books", "_law_k", "_law_due", "_law_book_here", "_law_handed", "_law_again", "_law_found", "_law_row"]
theorem st_law (a0 : V) : L2.start N_law [a0] = [some a0, none, none, none, none, none, none, none, none, none, none, none, none] := rfl
theorem sc_law : FnScope N_law ["_law_script"] (defScope s_law) := ⟨rfl, rfl, rfl, by decide +kernel, rfl, by decide +kernel, by decide +kernel⟩
def dd : List He.DefD := [
  ⟨("seen_under", none), "seen_under", "seen_under", defArgs s_seen_under, defBody s_seen_under, defScope s_seen_under, [], []⟩,
  ⟨("laid", none), "laid", "laid", defArgs s_laid, defBody s_laid, defScope s_laid, [], []⟩,
  ⟨("painted", none), "painted", "painted", defArgs s_painted, defBody s_painted, defScope s_painted, [], []⟩,
  ⟨("Look", some "__init__"), "__init__", "Look.__init__", defArgs s_LookDU_initDU, defBody s_LookDU_initDU, defScope s_LookDU_initDU, [], []⟩,
  ⟨("Look", some "copied"), "copied", "Look.copied", defArgs s_Look_copied, defBody s_Look_copied, defScope s_Look_copied, [], []⟩,
  ⟨("Look", some "size"), "size", "Look.size", defArgs s_Look_size, defBody s_Look_size, defScope s_Look_size, [], []⟩,
  ⟨("Look", some "paint"), "paint", "Look.paint", defArgs s_Look_paint, defBody s_Look_paint, defScope s_Look_paint, [], []⟩,
  ⟨("Surface", some "__init__"), "__init__", "Surface.__init__", defArgs s_SurfaceDU_initDU, defBody s_SurfaceDU_initDU, defScope s_SurfaceDU_initDU, [], []⟩,
  ⟨("Client", some "__init__"), "__init__", "Client.__init__", defArgs s_ClientDU_initDU, defBody s_ClientDU_initDU, defScope s_ClientDU_initDU, [], []⟩,
  ⟨("Client", some "parts"), "parts", "Client.parts", defArgs s_Client_parts, defBody s_Client_parts, defScope s_Client_parts, [], []⟩,
  ⟨("Client", some "all_under"), "all_under", "Client.all_under", defArgs s_Client_all_under, defBody s_Client_all_under, defScope s_Client_all_under, [], []⟩,
  ⟨("Client", some "show"), "show", "Client.show", defArgs s_Client_show, defBody s_Client_show, defScope s_Client_show, [], []⟩,
  ⟨("Client", some "may_tie"), "may_tie", "Client.may_tie", defArgs s_Client_may_tie, defBody s_Client_may_tie, defScope s_Client_may_tie, [], []⟩,
  ⟨("Client", some "change"), "change", "Client.change", defArgs s_Client_change, defBody s_Client_change, defScope s_Client_change, [], []⟩,
  ⟨("is_number", none), "is_number", "is_number", defArgs s_is_number, defBody s_is_number, defScope s_is_number, [], []⟩,
  ⟨("is_letter", none), "is_letter", "is_letter", defArgs s_is_letter, defBody s_is_letter, defScope s_is_letter, [], []⟩,
  ⟨("need_letter", none), "need_letter", "need_letter", defArgs s_need_letter, defBody s_need_letter, defScope s_need_letter, [], []⟩,
  ⟨("need_size", none), "need_size", "need_size", defArgs s_need_size, defBody s_need_size, defScope s_need_size, [], []⟩,
  ⟨("at_rest", none), "at_rest", "at_rest", defArgs s_at_rest, defBody s_at_rest, defScope s_at_rest, [], []⟩,
  ⟨("client_of", none), "client_of", "client_of", defArgs s_client_of, defBody s_client_of, defScope s_client_of, [], []⟩,
  ⟨("done", none), "done", "done", defArgs s_done, defBody s_done, defScope s_done, [], []⟩,
  ⟨("_law_mix", none), "_law_mix", "_law_mix", defArgs s_law_mix, defBody s_law_mix, defScope s_law_mix, [], []⟩,
  ⟨("_law_next", none), "_law_next", "_law_next", defArgs s_law_next, defBody s_law_next, defScope s_law_next, [], []⟩,
  ⟨("_law_alike", none), "_law_alike", "_law_alike", defArgs s_law_alike, defBody s_law_alike, defScope s_law_alike, [], []⟩,
  ⟨("_law_letter", none), "_law_letter", "_law_letter", defArgs s_law_letter, defBody s_law_letter, defScope s_law_letter, [], []⟩,
  ⟨("_law_odd", none), "_law_odd", "_law_odd", defArgs s_law_odd, defBody s_law_odd, defScope s_law_odd, [], []⟩,
  ⟨("_law_sized", none), "_law_sized", "_law_sized", defArgs s_law_sized, defBody s_law_sized, defScope s_law_sized, [], []⟩,
  ⟨("_law_pending", none), "_law_pending", "_law_pending", defArgs s_law_pending, defBody s_law_pending, defScope s_law_pending, [], []⟩,
  ⟨("_law_under", none), "_law_under", "_law_under", defArgs s_law_under, defBody s_law_under, defScope s_law_under, [], []⟩,
  ⟨("_law_is_tied", none), "_law_is_tied", "_law_is_tied", defArgs s_law_is_tied, defBody s_law_is_tied, defScope s_law_is_tied, [], []⟩,
  ⟨("_law_does", none), "_law_does", "_law_does", defArgs s_law_does, defBody s_law_does, defScope s_law_does, [], []⟩,
  ⟨("_law_book", none), "_law_book", "_law_book", defArgs s_law_book, defBody s_law_book, defScope s_law_book, [], []⟩,
  ⟨("_law_alone", none), "_law_alone", "_law_alone", defArgs s_law_alone, defBody s_law_alone, defScope s_law_alone, [], []⟩,
  ⟨("_law_seen", none), "_law_seen", "_law_seen", defArgs s_law_seen, defBody s_law_seen, defScope s_law_seen, [], []⟩,
  ⟨("_law_laid", none), "_law_laid", "_law_laid", defArgs s_law_laid, defBody s_law_laid, defScope s_law_laid, [], []⟩,
  ⟨("_law_painted", none), "_law_painted", "_law_painted", defArgs s_law_painted, defBody s_law_painted, defScope s_law_painted, [], []⟩,
  ⟨("law", none), "law", "law", defArgs s_law, defBody s_law, defScope s_law, [], []⟩]
def ff : List He.Fa := [
  .free "bool",
  .free "enumerate",
  .free "int",
  .free "isinstance",
  .free "len",
  .free "list",
  .free "max",
  .free "min",
  .free "range",
  .free "sorted",
  .free "str",
  .free "tuple",
  .free "zip",
  .glo "seen_under",
  .glo "laid",
  .glo "painted",
  .glo "is_number",
  .glo "is_letter",
  .glo "need_letter",
  .glo "need_size",
  .glo "at_rest",
  .glo "client_of",
  .glo "done",
  .glo "_law_mix",
  .glo "_law_next",
  .glo "_law_alike",
  .glo "_law_letter",
  .glo "_law_odd",
  .glo "_law_sized",
  .glo "_law_pending",
  .glo "_law_under",
  .glo "_law_is_tied",
  .glo "_law_does",
  .glo "_law_book",
  .glo "_law_alone",
  .glo "_law_seen",
  .glo "_law_laid",
  .glo "_law_painted",
  .glo "law",
  .glo "HallError",
  .glo "BadSize",
  .glo "TooMany",
  .glo "BadLetter",
  .glo "Look",
  .glo "Surface",
  .glo "Client",
  .int "MOST_WIDE" (12),
  .int "MOST_HIGH" (8),
  .int "MOST_CLIENTS" (5),
  .int "MOST_NAME" (9),
  .int "MOST_FAR" (20),
  .glo "FORMS",
  .glo "BOUNDS",
  .cls "Look",
  .mkr "Look",
  .noat "Look" "x",
  .noat "Look" "y",
  .noat "Look" "rank",
  .noat "Look" "is_veiled",
  .noat "Look" "marks",
  .meth "Look" "copied",
  .meth "Look" "size",
  .meth "Look" "paint",
  .cls "Surface",
  .mkr "Surface",
  .noat "Surface" "pending",
  .noat "Surface" "ready",
  .noat "Surface" "shown",
  .noat "Surface" "top",
  .cls "Client",
  .mkr "Client",
  .noat "Client" "surfaces",
  .noat "Client" "row",
  .noat "Client" "ears",
  .noat "Client" "is_there",
  .meth "Client" "parts",
  .meth "Client" "all_under",
  .meth "Client" "show",
  .meth "Client" "may_tie",
  .meth "Client" "change"]
def tt : List He.Tab := [(fun K => He.ga K "FORMS", ["make", "drop", "size", "paint", "place", "rank", "veil", "unveil", "tie", "show", "hold", "let"]), (fun K => He.ga K "BOUNDS", ["n", "m", "W", "H", "x", "y", "p"])]
def ex (K : PySem.W.Frag) : Bool := He.valsB K (He.ga K "FORMS") [("make", .str "n"), ("drop", .str "n"), ("size", .str "nWH"), ("paint", .str "nxyWHm"), ("place", .str "npp"), ("rank", .str "nm"), ("veil", .str "n"), ("unveil", .str "n"), ("tie", .str "nn"), ("show", .str "n"), ("hold", .str "n"), ("let", .str "")] && tupIn K (He.ga K "BOUNDS") "n" [.int (0), .int (9)] && tupIn K (He.ga K "BOUNDS") "m" [.int (0), .int (9)] && tupIn K (He.ga K "BOUNDS") "W" [.int (1), .int (12)] && tupIn K (He.ga K "BOUNDS") "H" [.int (1), .int (8)] && tupIn K (He.ga K "BOUNDS") "x" [.int (0), .int (11)] && tupIn K (He.ga K "BOUNDS") "y" [.int (0), .int (7)] && tupIn K (He.ga K "BOUNDS") "p" [.int (-20), .int (20)]
def tf : List He.Defn := [("seen_under", none)]
structure Tx (w : World) (K : PySem.W.Frag) (mg : Str → Option Value) : Prop where
  x : ∃ h, K.In h ∧ h.Ns mainGlobals mg ∧ He.SaysX ff dd tt tf ex w h K
abbrev Ts (K : PySem.W.Frag) : List (Addr × Str) := [(He.tabOf K (He.codeOf K ("seen_under", none)), (("seen_under" : Str) ++ ".<locals>.") ++ "<lambda>")]
structure Tb (base : Heap) (K : PySem.W.Frag) (mg : Str → Option Value) : Prop where
  tb : ∀ p ∈ tf, LamX.TabB base mg (He.codeOf K p) (He.tabOf K (He.codeOf K p))
theorem ts_mem (K : PySem.W.Frag) : (He.tabOf K (He.codeOf K ("seen_under", none)), (("seen_under" : Str) ++ ".<locals>.") ++ "<lambda>") ∈ Ts K := List.mem_cons_self ..
theorem ts_one (K : PySem.W.Frag) : ∀ p ∈ Ts K, p.1 = He.tabOf K (He.codeOf K ("seen_under", none)) → p.2 = (("seen_under" : Str) ++ ".<locals>.") ++ "<lambda>" := fun p hp _ => by rw [List.mem_singleton.mp hp]
section
variable {P : Program} {w : World} {K : PySem.W.Frag} {mg : Str → Option Value} {base : Heap}
theorem f_bool (T : Tx w K mg) : mg "bool" = none := let ⟨h, X, G, s⟩ := T.x; He.free_ok X G (s.t.d.fact 0 rfl)
theorem f_enumerate (T : Tx w K mg) : mg "enumerate" = none := let ⟨h, X, G, s⟩ := T.x; He.free_ok X G (s.t.d.fact 1 rfl)
theorem f_int (T : Tx w K mg) : mg "int" = none := let ⟨h, X, G, s⟩ := T.x; He.free_ok X G (s.t.d.fact 2 rfl)
theorem f_isinstance (T : Tx w K mg) : mg "isinstance" = none := let ⟨h, X, G, s⟩ := T.x; He.free_ok X G (s.t.d.fact 3 rfl)
theorem f_len (T : Tx w K mg) : mg "len" = none := let ⟨h, X, G, s⟩ := T.x; He.free_ok X G (s.t.d.fact 4 rfl)
theorem f_list (T : Tx w K mg) : mg "list" = none := let ⟨h, X, G, s⟩ := T.x; He.free_ok X G (s.t.d.fact 5 rfl)
theorem f_max (T : Tx w K mg) : mg "max" = none := let ⟨h, X, G, s⟩ := T.x; He.free_ok X G (s.t.d.fact 6 rfl)
theorem f_min (T : Tx w K mg) : mg "min" = none := let ⟨h, X, G, s⟩ := T.x; He.free_ok X G (s.t.d.fact 7 rfl)
theorem f_range (T : Tx w K mg) : mg "range" = none := let ⟨h, X, G, s⟩ := T.x; He.free_ok X G (s.t.d.fact 8 rfl)
theorem f_sorted (T : Tx w K mg) : mg "sorted" = none := let ⟨h, X, G, s⟩ := T.x; He.free_ok X G (s.t.d.fact 9 rfl)
theorem f_str (T : Tx w K mg) : mg "str" = none := let ⟨h, X, G, s⟩ := T.x; He.free_ok X G (s.t.d.fact 10 rfl)
theorem f_tuple (T : Tx w K mg) : mg "tuple" = none := let ⟨h, X, G, s⟩ := T.x; He.free_ok X G (s.t.d.fact 11 rfl)
theorem f_zip (T : Tx w K mg) : mg "zip" = none := let ⟨h, X, G, s⟩ := T.x; He.free_ok X G (s.t.d.fact 12 rfl)
theorem g_seen_under (T : Tx w K mg) : mg "seen_under" = some (.ref (He.ga K "seen_under")) := let ⟨h, X, G, s⟩ := T.x; He.glo_ok X G (s.t.d.fact 13 rfl)
theorem g_laid (T : Tx w K mg) : mg "laid" = some (.ref (He.ga K "laid")) := let ⟨h, X, G, s⟩ := T.x; He.glo_ok X G (s.t.d.fact 14 rfl)
theorem g_painted (T : Tx w K mg) : mg "painted" = some (.ref (He.ga K "painted")) := let ⟨h, X, G, s⟩ := T.x; He.glo_ok X G (s.t.d.fact 15 rfl)
theorem g_is_number (T : Tx w K mg) : mg "is_number" = some (.ref (He.ga K "is_number")) := let ⟨h, X, G, s⟩ := T.x; He.glo_ok X G (s.t.d.fact 16 rfl)
theorem g_is_letter (T : Tx w K mg) : mg "is_letter" = some (.ref (He.ga K "is_letter")) := let ⟨h, X, G, s⟩ := T.x; He.glo_ok X G (s.t.d.fact 17 rfl)
theorem g_need_letter (T : Tx w K mg) : mg "need_letter" = some (.ref (He.ga K "need_letter")) := let ⟨h, X, G, s⟩ := T.x; He.glo_ok X G (s.t.d.fact 18 rfl)
theorem g_need_size (T : Tx w K mg) : mg "need_size" = some (.ref (He.ga K "need_size")) := let ⟨h, X, G, s⟩ := T.x; He.glo_ok X G (s.t.d.fact 19 rfl)
theorem g_at_rest (T : Tx w K mg) : mg "at_rest" = some (.ref (He.ga K "at_rest")) := let ⟨h, X, G, s⟩ := T.x; He.glo_ok X G (s.t.d.fact 20 rfl)
theorem g_client_of (T : Tx w K mg) : mg "client_of" = some (.ref (He.ga K "client_of")) := let ⟨h, X, G, s⟩ := T.x; He.glo_ok X G (s.t.d.fact 21 rfl)
theorem g_done (T : Tx w K mg) : mg "done" = some (.ref (He.ga K "done")) := let ⟨h, X, G, s⟩ := T.x; He.glo_ok X G (s.t.d.fact 22 rfl)
theorem g__law_mix (T : Tx w K mg) : mg "_law_mix" = some (.ref (He.ga K "_law_mix")) := let ⟨h, X, G, s⟩ := T.x; He.glo_ok X G (s.t.d.fact 23 rfl)
theorem g__law_next (T : Tx w K mg) : mg "_law_next" = some (.ref (He.ga K "_law_next")) := let ⟨h, X, G, s⟩ := T.x; He.glo_ok X G (s.t.d.fact 24 rfl)
theorem g__law_alike (T : Tx w K mg) : mg "_law_alike" = some (.ref (He.ga K "_law_alike")) := let ⟨h, X, G, s⟩ := T.x; He.glo_ok X G (s.t.d.fact 25 rfl)
theorem g__law_letter (T : Tx w K mg) : mg "_law_letter" = some (.ref (He.ga K "_law_letter")) := let ⟨h, X, G, s⟩ := T.x; He.glo_ok X G (s.t.d.fact 26 rfl)
theorem g__law_odd (T : Tx w K mg) : mg "_law_odd" = some (.ref (He.ga K "_law_odd")) := let ⟨h, X, G, s⟩ := T.x; He.glo_ok X G (s.t.d.fact 27 rfl)
theorem g__law_sized (T : Tx w K mg) : mg "_law_sized" = some (.ref (He.ga K "_law_sized")) := let ⟨h, X, G, s⟩ := T.x; He.glo_ok X G (s.t.d.fact 28 rfl)
theorem g__law_pending (T : Tx w K mg) : mg "_law_pending" = some (.ref (He.ga K "_law_pending")) := let ⟨h, X, G, s⟩ := T.x; He.glo_ok X G (s.t.d.fact 29 rfl)
theorem g__law_under (T : Tx w K mg) : mg "_law_under" = some (.ref (He.ga K "_law_under")) := let ⟨h, X, G, s⟩ := T.x; He.glo_ok X G (s.t.d.fact 30 rfl)
theorem g__law_is_tied (T : Tx w K mg) : mg "_law_is_tied" = some (.ref (He.ga K "_law_is_tied")) := let ⟨h, X, G, s⟩ := T.x; He.glo_ok X G (s.t.d.fact 31 rfl)
theorem g__law_does (T : Tx w K mg) : mg "_law_does" = some (.ref (He.ga K "_law_does")) := let ⟨h, X, G, s⟩ := T.x; He.glo_ok X G (s.t.d.fact 32 rfl)
theorem g__law_book (T : Tx w K mg) : mg "_law_book" = some (.ref (He.ga K "_law_book")) := let ⟨h, X, G, s⟩ := T.x; He.glo_ok X G (s.t.d.fact 33 rfl)
theorem g__law_alone (T : Tx w K mg) : mg "_law_alone" = some (.ref (He.ga K "_law_alone")) := let ⟨h, X, G, s⟩ := T.x; He.glo_ok X G (s.t.d.fact 34 rfl)
theorem g__law_seen (T : Tx w K mg) : mg "_law_seen" = some (.ref (He.ga K "_law_seen")) := let ⟨h, X, G, s⟩ := T.x; He.glo_ok X G (s.t.d.fact 35 rfl)
theorem g__law_laid (T : Tx w K mg) : mg "_law_laid" = some (.ref (He.ga K "_law_laid")) := let ⟨h, X, G, s⟩ := T.x; He.glo_ok X G (s.t.d.fact 36 rfl)
theorem g__law_painted (T : Tx w K mg) : mg "_law_painted" = some (.ref (He.ga K "_law_painted")) := let ⟨h, X, G, s⟩ := T.x; He.glo_ok X G (s.t.d.fact 37 rfl)
theorem g_law (T : Tx w K mg) : mg "law" = some (.ref (He.ga K "law")) := let ⟨h, X, G, s⟩ := T.x; He.glo_ok X G (s.t.d.fact 38 rfl)
theorem g_HallError (T : Tx w K mg) : mg "HallError" = some (.ref (He.ga K "HallError")) := let ⟨h, X, G, s⟩ := T.x; He.glo_ok X G (s.t.d.fact 39 rfl)
theorem g_BadSize (T : Tx w K mg) : mg "BadSize" = some (.ref (He.ga K "BadSize")) := let ⟨h, X, G, s⟩ := T.x; He.glo_ok X G (s.t.d.fact 40 rfl)
theorem g_TooMany (T : Tx w K mg) : mg "TooMany" = some (.ref (He.ga K "TooMany")) := let ⟨h, X, G, s⟩ := T.x; He.glo_ok X G (s.t.d.fact 41 rfl)
theorem g_BadLetter (T : Tx w K mg) : mg "BadLetter" = some (.ref (He.ga K "BadLetter")) := let ⟨h, X, G, s⟩ := T.x; He.glo_ok X G (s.t.d.fact 42 rfl)
theorem g_Look (T : Tx w K mg) : mg "Look" = some (.ref (He.ga K "Look")) := let ⟨h, X, G, s⟩ := T.x; He.glo_ok X G (s.t.d.fact 43 rfl)
theorem g_Surface (T : Tx w K mg) : mg "Surface" = some (.ref (He.ga K "Surface")) := let ⟨h, X, G, s⟩ := T.x; He.glo_ok X G (s.t.d.fact 44 rfl)
theorem g_Client (T : Tx w K mg) : mg "Client" = some (.ref (He.ga K "Client")) := let ⟨h, X, G, s⟩ := T.x; He.glo_ok X G (s.t.d.fact 45 rfl)
theorem int_MOST_WIDE (T : Tx w K mg) : ∃ u, mg "MOST_WIDE" = some u ∧ RelV (.int (12)) u := let ⟨h, X, G, s⟩ := T.x; let ⟨t, e⟩ := He.int_ok X G (s.t.d.fact 46 rfl); ⟨_, e, t, rfl⟩
theorem int_MOST_HIGH (T : Tx w K mg) : ∃ u, mg "MOST_HIGH" = some u ∧ RelV (.int (8)) u := let ⟨h, X, G, s⟩ := T.x; let ⟨t, e⟩ := He.int_ok X G (s.t.d.fact 47 rfl); ⟨_, e, t, rfl⟩
theorem int_MOST_CLIENTS (T : Tx w K mg) : ∃ u, mg "MOST_CLIENTS" = some u ∧ RelV (.int (5)) u := let ⟨h, X, G, s⟩ := T.x; let ⟨t, e⟩ := He.int_ok X G (s.t.d.fact 48 rfl); ⟨_, e, t, rfl⟩
theorem int_MOST_NAME (T : Tx w K mg) : ∃ u, mg "MOST_NAME" = some u ∧ RelV (.int (9)) u := let ⟨h, X, G, s⟩ := T.x; let ⟨t, e⟩ := He.int_ok X G (s.t.d.fact 49 rfl); ⟨_, e, t, rfl⟩
theorem int_MOST_FAR (T : Tx w K mg) : ∃ u, mg "MOST_FAR" = some u ∧ RelV (.int (20)) u := let ⟨h, X, G, s⟩ := T.x; let ⟨t, e⟩ := He.int_ok X G (s.t.d.fact 50 rfl); ⟨_, e, t, rfl⟩
theorem g_FORMS (T : Tx w K mg) : mg "FORMS" = some (.ref (He.ga K "FORMS")) := let ⟨h, X, G, s⟩ := T.x; He.glo_ok X G (s.t.d.fact 51 rfl)
theorem g_BOUNDS (T : Tx w K mg) : mg "BOUNDS" = some (.ref (He.ga K "BOUNDS")) := let ⟨h, X, G, s⟩ := T.x; He.glo_ok X G (s.t.d.fact 52 rfl)
theorem cls_Look (T : Tx w K mg) : Cls K (He.ga K "Look") := let ⟨h, X, G, s⟩ := T.x; He.cls_ok (s.t.d.fact 53 rfl)
theorem mkr_Look (T : Tx w K mg) : Mk K (He.ga K "Look") (He.ma K (He.ga K "Look") "__init__") := let ⟨h, X, G, s⟩ := T.x; He.mkr_ok (s.t.d.fact 54 rfl)
theorem na_Look_x (T : Tx w K mg) : NoAttr K (He.ga K "Look") "x" := let ⟨h, X, G, s⟩ := T.x; He.noat_ok (s.t.d.fact 55 rfl)
theorem na_Look_y (T : Tx w K mg) : NoAttr K (He.ga K "Look") "y" := let ⟨h, X, G, s⟩ := T.x; He.noat_ok (s.t.d.fact 56 rfl)
theorem na_Look_rank (T : Tx w K mg) : NoAttr K (He.ga K "Look") "rank" := let ⟨h, X, G, s⟩ := T.x; He.noat_ok (s.t.d.fact 57 rfl)
theorem na_Look_is_veiled (T : Tx w K mg) : NoAttr K (He.ga K "Look") "is_veiled" := let ⟨h, X, G, s⟩ := T.x; He.noat_ok (s.t.d.fact 58 rfl)
theorem na_Look_marks (T : Tx w K mg) : NoAttr K (He.ga K "Look") "marks" := let ⟨h, X, G, s⟩ := T.x; He.noat_ok (s.t.d.fact 59 rfl)
theorem mt_Look_copied (T : Tx w K mg) : Meth K (He.ga K "Look") "copied" (He.ma K (He.ga K "Look") "copied") := let ⟨h, X, G, s⟩ := T.x; He.meth_ok (s.t.d.fact 60 rfl)
theorem mt_Look_size (T : Tx w K mg) : Meth K (He.ga K "Look") "size" (He.ma K (He.ga K "Look") "size") := let ⟨h, X, G, s⟩ := T.x; He.meth_ok (s.t.d.fact 61 rfl)
theorem mt_Look_paint (T : Tx w K mg) : Meth K (He.ga K "Look") "paint" (He.ma K (He.ga K "Look") "paint") := let ⟨h, X, G, s⟩ := T.x; He.meth_ok (s.t.d.fact 62 rfl)
theorem cls_Surface (T : Tx w K mg) : Cls K (He.ga K "Surface") := let ⟨h, X, G, s⟩ := T.x; He.cls_ok (s.t.d.fact 63 rfl)
theorem mkr_Surface (T : Tx w K mg) : Mk K (He.ga K "Surface") (He.ma K (He.ga K "Surface") "__init__") := let ⟨h, X, G, s⟩ := T.x; He.mkr_ok (s.t.d.fact 64 rfl)
theorem na_Surface_pending (T : Tx w K mg) : NoAttr K (He.ga K "Surface") "pending" := let ⟨h, X, G, s⟩ := T.x; He.noat_ok (s.t.d.fact 65 rfl)
theorem na_Surface_ready (T : Tx w K mg) : NoAttr K (He.ga K "Surface") "ready" := let ⟨h, X, G, s⟩ := T.x; He.noat_ok (s.t.d.fact 66 rfl)
theorem na_Surface_shown (T : Tx w K mg) : NoAttr K (He.ga K "Surface") "shown" := let ⟨h, X, G, s⟩ := T.x; He.noat_ok (s.t.d.fact 67 rfl)
theorem na_Surface_top (T : Tx w K mg) : NoAttr K (He.ga K "Surface") "top" := let ⟨h, X, G, s⟩ := T.x; He.noat_ok (s.t.d.fact 68 rfl)
theorem cls_Client (T : Tx w K mg) : Cls K (He.ga K "Client") := let ⟨h, X, G, s⟩ := T.x; He.cls_ok (s.t.d.fact 69 rfl)
theorem mkr_Client (T : Tx w K mg) : Mk K (He.ga K "Client") (He.ma K (He.ga K "Client") "__init__") := let ⟨h, X, G, s⟩ := T.x; He.mkr_ok (s.t.d.fact 70 rfl)
theorem na_Client_surfaces (T : Tx w K mg) : NoAttr K (He.ga K "Client") "surfaces" := let ⟨h, X, G, s⟩ := T.x; He.noat_ok (s.t.d.fact 71 rfl)
theorem na_Client_row (T : Tx w K mg) : NoAttr K (He.ga K "Client") "row" := let ⟨h, X, G, s⟩ := T.x; He.noat_ok (s.t.d.fact 72 rfl)
theorem na_Client_ears (T : Tx w K mg) : NoAttr K (He.ga K "Client") "ears" := let ⟨h, X, G, s⟩ := T.x; He.noat_ok (s.t.d.fact 73 rfl)
theorem na_Client_is_there (T : Tx w K mg) : NoAttr K (He.ga K "Client") "is_there" := let ⟨h, X, G, s⟩ := T.x; He.noat_ok (s.t.d.fact 74 rfl)
theorem mt_Client_parts (T : Tx w K mg) : Meth K (He.ga K "Client") "parts" (He.ma K (He.ga K "Client") "parts") := let ⟨h, X, G, s⟩ := T.x; He.meth_ok (s.t.d.fact 75 rfl)
theorem mt_Client_all_under (T : Tx w K mg) : Meth K (He.ga K "Client") "all_under" (He.ma K (He.ga K "Client") "all_under") := let ⟨h, X, G, s⟩ := T.x; He.meth_ok (s.t.d.fact 76 rfl)
theorem mt_Client_show (T : Tx w K mg) : Meth K (He.ga K "Client") "show" (He.ma K (He.ga K "Client") "show") := let ⟨h, X, G, s⟩ := T.x; He.meth_ok (s.t.d.fact 77 rfl)
theorem mt_Client_may_tie (T : Tx w K mg) : Meth K (He.ga K "Client") "may_tie" (He.ma K (He.ga K "Client") "may_tie") := let ⟨h, X, G, s⟩ := T.x; He.meth_ok (s.t.d.fact 78 rfl)
theorem mt_Client_change (T : Tx w K mg) : Meth K (He.ga K "Client") "change" (He.ma K (He.ga K "Client") "change") := let ⟨h, X, G, s⟩ := T.x; He.meth_ok (s.t.d.fact 79 rfl)
theorem kd_FORMS (T : Tx w K mg) : ∃ es n, KDict K w (He.ga K "FORMS") es n := let ⟨h, X, G, s⟩ := T.x; s.t.tab 0 rfl
theorem kd_BOUNDS (T : Tx w K mg) : ∃ es n, KDict K w (He.ga K "BOUNDS") es n := let ⟨h, X, G, s⟩ := T.x; s.t.tab 1 rfl
theorem ex_0 (T : Tx w K mg) : (He.valsB K (He.ga K "FORMS") [("make", .str "n"), ("drop", .str "n"), ("size", .str "nWH"), ("paint", .str "nxyWHm"), ("place", .str "npp"), ("rank", .str "nm"), ("veil", .str "n"), ("unveil", .str "n"), ("tie", .str "nn"), ("show", .str "n"), ("hold", .str "n"), ("let", .str "")]) = true := let ⟨h, X, G, s⟩ := T.x; (Bool.and_eq_true_iff.mp (Bool.and_eq_true_iff.mp (Bool.and_eq_true_iff.mp (Bool.and_eq_true_iff.mp (Bool.and_eq_true_iff.mp (Bool.and_eq_true_iff.mp (Bool.and_eq_true_iff.mp s.more).1).1).1).1).1).1).1
theorem ex_1 (T : Tx w K mg) : (tupIn K (He.ga K "BOUNDS") "n" [.int (0), .int (9)]) = true := let ⟨h, X, G, s⟩ := T.x; (Bool.and_eq_true_iff.mp (Bool.and_eq_true_iff.mp (Bool.and_eq_true_iff.mp (Bool.and_eq_true_iff.mp (Bool.and_eq_true_iff.mp (Bool.and_eq_true_iff.mp (Bool.and_eq_true_iff.mp s.more).1).1).1).1).1).1).2
theorem ex_2 (T : Tx w K mg) : (tupIn K (He.ga K "BOUNDS") "m" [.int (0), .int (9)]) = true := let ⟨h, X, G, s⟩ := T.x; (Bool.and_eq_true_iff.mp (Bool.and_eq_true_iff.mp (Bool.and_eq_true_iff.mp (Bool.and_eq_true_iff.mp (Bool.and_eq_true_iff.mp (Bool.and_eq_true_iff.mp s.more).1).1).1).1).1).2
theorem ex_3 (T : Tx w K mg) : (tupIn K (He.ga K "BOUNDS") "W" [.int (1), .int (12)]) = true := let ⟨h, X, G, s⟩ := T.x; (Bool.and_eq_true_iff.mp (Bool.and_eq_true_iff.mp (Bool.and_eq_true_iff.mp (Bool.and_eq_true_iff.mp (Bool.and_eq_true_iff.mp s.more).1).1).1).1).2
theorem ex_4 (T : Tx w K mg) : (tupIn K (He.ga K "BOUNDS") "H" [.int (1), .int (8)]) = true := let ⟨h, X, G, s⟩ := T.x; (Bool.and_eq_true_iff.mp (Bool.and_eq_true_iff.mp (Bool.and_eq_true_iff.mp (Bool.and_eq_true_iff.mp s.more).1).1).1).2
theorem ex_5 (T : Tx w K mg) : (tupIn K (He.ga K "BOUNDS") "x" [.int (0), .int (11)]) = true := let ⟨h, X, G, s⟩ := T.x; (Bool.and_eq_true_iff.mp (Bool.and_eq_true_iff.mp (Bool.and_eq_true_iff.mp s.more).1).1).2
theorem ex_6 (T : Tx w K mg) : (tupIn K (He.ga K "BOUNDS") "y" [.int (0), .int (7)]) = true := let ⟨h, X, G, s⟩ := T.x; (Bool.and_eq_true_iff.mp (Bool.and_eq_true_iff.mp s.more).1).2
theorem ex_7 (T : Tx w K mg) : (tupIn K (He.ga K "BOUNDS") "p" [.int (-20), .int (20)]) = true := let ⟨h, X, G, s⟩ := T.x; (Bool.and_eq_true_iff.mp s.more).2
theorem mk_seen_under (T : Tx w K mg) {k : Nat} {sp : Sp} (len : ∀ vs H Q E, sp vs H Q E → vs.length = 4)
    (hbody : ∀ (cdv : Value), cdv = .ref (He.codeOf K ("seen_under", none)) → ∀ (A : Around) (outer : List Env) (s : Shared) (H : Hp) (vs : List V) (Q : VK) (E : XK), Room k (A.deeper (envOfC "seen_under" (defScope s_seen_under) s.heap.objs.size (He.fAd K ("seen_under", none)) cdv)) → sp vs H Q E →
      ∃ t, PSs (cxOf CX0 P w K mg base N_seen_under "seen_under" (defScope s_seen_under) (He.fAd K ("seen_under", none)) cdv A outer s H E).nox (defBody s_seen_under) t ∧ t { nx := fun _ H' => Q .non H', rt := Q } (start N_seen_under vs) H) : Cal P w K mg base (k + 1) "seen_under" sp [] :=
  let ⟨h, X, G, s⟩ := T.x; cal_mkT (s.t.d.def_ 0 rfl) (g_seen_under T) sc_seen_under (fun _ _ _ _ _ _ us hl => match us, hl with | [_, _, _, _], _ => rfl) len hbody
theorem mk_laid (T : Tx w K mg) {k : Nat} {sp : Sp} (len : ∀ vs H Q E, sp vs H Q E → vs.length = 1)
    (hbody : ∀ (cdv : Value) (A : Around) (outer : List Env) (s : Shared) (H : Hp) (vs : List V) (Q : VK) (E : XK), Room k (A.deeper (envOfC "laid" (defScope s_laid) s.heap.objs.size (He.fAd K ("laid", none)) cdv)) → sp vs H Q E →
      ∃ t, PSs (cxOf CX0 P w K mg base N_laid "laid" (defScope s_laid) (He.fAd K ("laid", none)) cdv A outer s H E).nox (defBody s_laid) t ∧ t { nx := fun _ H' => Q .non H', rt := Q } (start N_laid vs) H) : Cal P w K mg base (k + 1) "laid" sp [] :=
  let ⟨h, X, G, s⟩ := T.x; cal_mk (s.t.d.def_ 1 rfl) (g_laid T) sc_laid (fun _ _ _ _ _ _ us hl => match us, hl with | [_], _ => rfl) len hbody
theorem mk_painted (T : Tx w K mg) {k : Nat} {sp : Sp} (len : ∀ vs H Q E, sp vs H Q E → vs.length = 4)
    (hbody : ∀ (cdv : Value) (A : Around) (outer : List Env) (s : Shared) (H : Hp) (vs : List V) (Q : VK) (E : XK), Room k (A.deeper (envOfC "painted" (defScope s_painted) s.heap.objs.size (He.fAd K ("painted", none)) cdv)) → sp vs H Q E →
      ∃ t, PSs (cxOf CX0 P w K mg base N_painted "painted" (defScope s_painted) (He.fAd K ("painted", none)) cdv A outer s H E).nox (defBody s_painted) t ∧ t { nx := fun _ H' => Q .non H', rt := Q } (start N_painted vs) H) : Cal P w K mg base (k + 1) "painted" sp [] :=
  let ⟨h, X, G, s⟩ := T.x; cal_mk (s.t.d.def_ 2 rfl) (g_painted T) sc_painted (fun _ _ _ _ _ _ us hl => match us, hl with | [_, _, _, _], _ => rfl) len hbody
theorem mk_LookDU_initDU (T : Tx w K mg) {k : Nat} {sp : Sp} (len : ∀ vs H Q E, sp vs H Q E → vs.length = 1)
    (hbody : ∀ (cdv : Value) (A : Around) (outer : List Env) (s : Shared) (H : Hp) (vs : List V) (Q : VK) (E : XK), Room k (A.deeper (envOfC "Look.__init__" (defScope s_LookDU_initDU) s.heap.objs.size (He.fAd K ("Look", some "__init__")) cdv)) → sp vs H Q E →
      ∃ t, PSs (cxOf CX0 P w K mg base N_LookDU_initDU "Look.__init__" (defScope s_LookDU_initDU) (He.fAd K ("Look", some "__init__")) cdv A outer s H E).nox (defBody s_LookDU_initDU) t ∧ t { nx := fun _ H' => Q .non H', rt := Q } (start N_LookDU_initDU vs) H) : Mak P w K mg base (k + 1) "Look" (He.ga K "Look") sp [] :=
  let ⟨h, X, G, s⟩ := T.x; mak_mk (s.t.d.def_ 3 rfl) (mkr_Look T) (g_Look T) sc_LookDU_initDU (fun _ _ _ _ _ _ us hl => match us, hl with | [_], _ => rfl) len hbody
theorem mk_Look_copied (T : Tx w K mg) {k : Nat} {sp : Sp} (len : ∀ vs H Q E, sp vs H Q E → vs.length = 1)
    (hbody : ∀ (cdv : Value) (A : Around) (outer : List Env) (s : Shared) (H : Hp) (vs : List V) (Q : VK) (E : XK), Room k (A.deeper (envOfC "Look.copied" (defScope s_Look_copied) s.heap.objs.size (He.fAd K ("Look", some "copied")) cdv)) → sp vs H Q E →
      ∃ t, PSs (cxOf CX0 P w K mg base N_Look_copied "Look.copied" (defScope s_Look_copied) (He.fAd K ("Look", some "copied")) cdv A outer s H E).nox (defBody s_Look_copied) t ∧ t { nx := fun _ H' => Q .non H', rt := Q } (start N_Look_copied vs) H) : Met P w K mg base (k + 1) (He.ga K "Look") "copied" sp [] :=
  let ⟨h, X, G, s⟩ := T.x; met_mk (s.t.d.def_ 4 rfl) (cls_Look T) (mt_Look_copied T) sc_Look_copied (fun _ _ _ _ _ _ us hl => match us, hl with | [_], _ => rfl) len hbody
theorem mk_Look_size (T : Tx w K mg) {k : Nat} {sp : Sp} (len : ∀ vs H Q E, sp vs H Q E → vs.length = 3)
    (hbody : ∀ (cdv : Value) (A : Around) (outer : List Env) (s : Shared) (H : Hp) (vs : List V) (Q : VK) (E : XK), Room k (A.deeper (envOfC "Look.size" (defScope s_Look_size) s.heap.objs.size (He.fAd K ("Look", some "size")) cdv)) → sp vs H Q E →
      ∃ t, PSs (cxOf CX0 P w K mg base N_Look_size "Look.size" (defScope s_Look_size) (He.fAd K ("Look", some "size")) cdv A outer s H E).nox (defBody s_Look_size) t ∧ t { nx := fun _ H' => Q .non H', rt := Q } (start N_Look_size vs) H) : Met P w K mg base (k + 1) (He.ga K "Look") "size" sp [] :=
  let ⟨h, X, G, s⟩ := T.x; met_mk (s.t.d.def_ 5 rfl) (cls_Look T) (mt_Look_size T) sc_Look_size (fun _ _ _ _ _ _ us hl => match us, hl with | [_, _, _], _ => rfl) len hbody
theorem mk_Look_paint (T : Tx w K mg) {k : Nat} {sp : Sp} (len : ∀ vs H Q E, sp vs H Q E → vs.length = 6)
    (hbody : ∀ (cdv : Value) (A : Around) (outer : List Env) (s : Shared) (H : Hp) (vs : List V) (Q : VK) (E : XK), Room k (A.deeper (envOfC "Look.paint" (defScope s_Look_paint) s.heap.objs.size (He.fAd K ("Look", some "paint")) cdv)) → sp vs H Q E →
      ∃ t, PSs (cxOf CX0 P w K mg base N_Look_paint "Look.paint" (defScope s_Look_paint) (He.fAd K ("Look", some "paint")) cdv A outer s H E).nox (defBody s_Look_paint) t ∧ t { nx := fun _ H' => Q .non H', rt := Q } (start N_Look_paint vs) H) : Met P w K mg base (k + 1) (He.ga K "Look") "paint" sp [] :=
  let ⟨h, X, G, s⟩ := T.x; met_mk (s.t.d.def_ 6 rfl) (cls_Look T) (mt_Look_paint T) sc_Look_paint (fun _ _ _ _ _ _ us hl => match us, hl with | [_, _, _, _, _, _], _ => rfl) len hbody
theorem mk_SurfaceDU_initDU (T : Tx w K mg) {k : Nat} {sp : Sp} (len : ∀ vs H Q E, sp vs H Q E → vs.length = 1)
    (hbody : ∀ (cdv : Value) (A : Around) (outer : List Env) (s : Shared) (H : Hp) (vs : List V) (Q : VK) (E : XK), Room k (A.deeper (envOfC "Surface.__init__" (defScope s_SurfaceDU_initDU) s.heap.objs.size (He.fAd K ("Surface", some "__init__")) cdv)) → sp vs H Q E →
      ∃ t, PSs (cxOf CX0 P w K mg base N_SurfaceDU_initDU "Surface.__init__" (defScope s_SurfaceDU_initDU) (He.fAd K ("Surface", some "__init__")) cdv A outer s H E).nox (defBody s_SurfaceDU_initDU) t ∧ t { nx := fun _ H' => Q .non H', rt := Q } (start N_SurfaceDU_initDU vs) H) : Mak P w K mg base (k + 1) "Surface" (He.ga K "Surface") sp [] :=
  let ⟨h, X, G, s⟩ := T.x; mak_mk (s.t.d.def_ 7 rfl) (mkr_Surface T) (g_Surface T) sc_SurfaceDU_initDU (fun _ _ _ _ _ _ us hl => match us, hl with | [_], _ => rfl) len hbody
theorem mk_ClientDU_initDU (T : Tx w K mg) {k : Nat} {sp : Sp} (len : ∀ vs H Q E, sp vs H Q E → vs.length = 1)
    (hbody : ∀ (cdv : Value) (A : Around) (outer : List Env) (s : Shared) (H : Hp) (vs : List V) (Q : VK) (E : XK), Room k (A.deeper (envOfC "Client.__init__" (defScope s_ClientDU_initDU) s.heap.objs.size (He.fAd K ("Client", some "__init__")) cdv)) → sp vs H Q E →
      ∃ t, PSs (cxOf CX0 P w K mg base N_ClientDU_initDU "Client.__init__" (defScope s_ClientDU_initDU) (He.fAd K ("Client", some "__init__")) cdv A outer s H E).nox (defBody s_ClientDU_initDU) t ∧ t { nx := fun _ H' => Q .non H', rt := Q } (start N_ClientDU_initDU vs) H) : Mak P w K mg base (k + 1) "Client" (He.ga K "Client") sp [] :=
  let ⟨h, X, G, s⟩ := T.x; mak_mk (s.t.d.def_ 8 rfl) (mkr_Client T) (g_Client T) sc_ClientDU_initDU (fun _ _ _ _ _ _ us hl => match us, hl with | [_], _ => rfl) len hbody
theorem mk_Client_parts (T : Tx w K mg) {k : Nat} {sp : Sp} (len : ∀ vs H Q E, sp vs H Q E → vs.length = 2)
    (hbody : ∀ (cdv : Value) (A : Around) (outer : List Env) (s : Shared) (H : Hp) (vs : List V) (Q : VK) (E : XK), Room k (A.deeper (envOfC "Client.parts" (defScope s_Client_parts) s.heap.objs.size (He.fAd K ("Client", some "parts")) cdv)) → sp vs H Q E →
      ∃ t, PSs (cxOf CX0 P w K mg base N_Client_parts "Client.parts" (defScope s_Client_parts) (He.fAd K ("Client", some "parts")) cdv A outer s H E).nox (defBody s_Client_parts) t ∧ t { nx := fun _ H' => Q .non H', rt := Q } (start N_Client_parts vs) H) : Met P w K mg base (k + 1) (He.ga K "Client") "parts" sp [] :=
  let ⟨h, X, G, s⟩ := T.x; met_mk (s.t.d.def_ 9 rfl) (cls_Client T) (mt_Client_parts T) sc_Client_parts (fun _ _ _ _ _ _ us hl => match us, hl with | [_, _], _ => rfl) len hbody
theorem mk_Client_all_under (T : Tx w K mg) {k : Nat} {sp : Sp} (len : ∀ vs H Q E, sp vs H Q E → vs.length = 2)
    (hbody : ∀ (cdv : Value) (A : Around) (outer : List Env) (s : Shared) (H : Hp) (vs : List V) (Q : VK) (E : XK), Room k (A.deeper (envOfC "Client.all_under" (defScope s_Client_all_under) s.heap.objs.size (He.fAd K ("Client", some "all_under")) cdv)) → sp vs H Q E →
      ∃ t, PSs (cxOf CX0 P w K mg base N_Client_all_under "Client.all_under" (defScope s_Client_all_under) (He.fAd K ("Client", some "all_under")) cdv A outer s H E).nox (defBody s_Client_all_under) t ∧ t { nx := fun _ H' => Q .non H', rt := Q } (start N_Client_all_under vs) H) : Met P w K mg base (k + 1) (He.ga K "Client") "all_under" sp [] :=
  let ⟨h, X, G, s⟩ := T.x; met_mk (s.t.d.def_ 10 rfl) (cls_Client T) (mt_Client_all_under T) sc_Client_all_under (fun _ _ _ _ _ _ us hl => match us, hl with | [_, _], _ => rfl) len hbody
theorem mk_Client_show (T : Tx w K mg) {k : Nat} {sp : Sp} (len : ∀ vs H Q E, sp vs H Q E → vs.length = 2)
    (hbody : ∀ (cdv : Value) (A : Around) (outer : List Env) (s : Shared) (H : Hp) (vs : List V) (Q : VK) (E : XK), Room k (A.deeper (envOfC "Client.show" (defScope s_Client_show) s.heap.objs.size (He.fAd K ("Client", some "show")) cdv)) → sp vs H Q E →
      ∃ t, PSs (cxOf CX0 P w K mg base N_Client_show "Client.show" (defScope s_Client_show) (He.fAd K ("Client", some "show")) cdv A outer s H E).nox (defBody s_Client_show) t ∧ t { nx := fun _ H' => Q .non H', rt := Q } (start N_Client_show vs) H) : Met P w K mg base (k + 1) (He.ga K "Client") "show" sp [] :=
  let ⟨h, X, G, s⟩ := T.x; met_mk (s.t.d.def_ 11 rfl) (cls_Client T) (mt_Client_show T) sc_Client_show (fun _ _ _ _ _ _ us hl => match us, hl with | [_, _], _ => rfl) len hbody
theorem mk_Client_may_tie (T : Tx w K mg) {k : Nat} {sp : Sp} (len : ∀ vs H Q E, sp vs H Q E → vs.length = 3)
    (hbody : ∀ (cdv : Value) (A : Around) (outer : List Env) (s : Shared) (H : Hp) (vs : List V) (Q : VK) (E : XK), Room k (A.deeper (envOfC "Client.may_tie" (defScope s_Client_may_tie) s.heap.objs.size (He.fAd K ("Client", some "may_tie")) cdv)) → sp vs H Q E →
      ∃ t, PSs (cxOf CX0 P w K mg base N_Client_may_tie "Client.may_tie" (defScope s_Client_may_tie) (He.fAd K ("Client", some "may_tie")) cdv A outer s H E).nox (defBody s_Client_may_tie) t ∧ t { nx := fun _ H' => Q .non H', rt := Q } (start N_Client_may_tie vs) H) : Met P w K mg base (k + 1) (He.ga K "Client") "may_tie" sp [] :=
  let ⟨h, X, G, s⟩ := T.x; met_mk (s.t.d.def_ 12 rfl) (cls_Client T) (mt_Client_may_tie T) sc_Client_may_tie (fun _ _ _ _ _ _ us hl => match us, hl with | [_, _, _], _ => rfl) len hbody
theorem mk_Client_change (T : Tx w K mg) {k : Nat} {sp : Sp} (len : ∀ vs H Q E, sp vs H Q E → vs.length = 2)
    (hbody : ∀ (cdv : Value) (A : Around) (outer : List Env) (s : Shared) (H : Hp) (vs : List V) (Q : VK) (E : XK), Room k (A.deeper (envOfC "Client.change" (defScope s_Client_change) s.heap.objs.size (He.fAd K ("Client", some "change")) cdv)) → sp vs H Q E →
      ∃ t, PSs (cxOf CX0 P w K mg base N_Client_change "Client.change" (defScope s_Client_change) (He.fAd K ("Client", some "change")) cdv A outer s H E).nox (defBody s_Client_change) t ∧ t { nx := fun _ H' => Q .non H', rt := Q } (start N_Client_change vs) H) : Met P w K mg base (k + 1) (He.ga K "Client") "change" sp [] :=
  let ⟨h, X, G, s⟩ := T.x; met_mk (s.t.d.def_ 13 rfl) (cls_Client T) (mt_Client_change T) sc_Client_change (fun _ _ _ _ _ _ us hl => match us, hl with | [_, _], _ => rfl) len hbody
theorem mk_is_number (T : Tx w K mg) {k : Nat} {sp : Sp} (len : ∀ vs H Q E, sp vs H Q E → vs.length = 3)
    (hbody : ∀ (cdv : Value) (A : Around) (outer : List Env) (s : Shared) (H : Hp) (vs : List V) (Q : VK) (E : XK), Room k (A.deeper (envOfC "is_number" (defScope s_is_number) s.heap.objs.size (He.fAd K ("is_number", none)) cdv)) → sp vs H Q E →
      ∃ t, PSs (cxOf CX0 P w K mg base N_is_number "is_number" (defScope s_is_number) (He.fAd K ("is_number", none)) cdv A outer s H E).nox (defBody s_is_number) t ∧ t { nx := fun _ H' => Q .non H', rt := Q } (start N_is_number vs) H) : Cal P w K mg base (k + 1) "is_number" sp [] :=
  let ⟨h, X, G, s⟩ := T.x; cal_mk (s.t.d.def_ 14 rfl) (g_is_number T) sc_is_number (fun _ _ _ _ _ _ us hl => match us, hl with | [_, _, _], _ => rfl) len hbody
theorem mk_is_letter (T : Tx w K mg) {k : Nat} {sp : Sp} (len : ∀ vs H Q E, sp vs H Q E → vs.length = 1)
    (hbody : ∀ (cdv : Value) (A : Around) (outer : List Env) (s : Shared) (H : Hp) (vs : List V) (Q : VK) (E : XK), Room k (A.deeper (envOfC "is_letter" (defScope s_is_letter) s.heap.objs.size (He.fAd K ("is_letter", none)) cdv)) → sp vs H Q E →
      ∃ t, PSs (cxOf CX0 P w K mg base N_is_letter "is_letter" (defScope s_is_letter) (He.fAd K ("is_letter", none)) cdv A outer s H E).nox (defBody s_is_letter) t ∧ t { nx := fun _ H' => Q .non H', rt := Q } (start N_is_letter vs) H) : Cal P w K mg base (k + 1) "is_letter" sp [] :=
  let ⟨h, X, G, s⟩ := T.x; cal_mk (s.t.d.def_ 15 rfl) (g_is_letter T) sc_is_letter (fun _ _ _ _ _ _ us hl => match us, hl with | [_], _ => rfl) len hbody
theorem mk_need_letter (T : Tx w K mg) {k : Nat} {sp : Sp} (len : ∀ vs H Q E, sp vs H Q E → vs.length = 1)
    (hbody : ∀ (cdv : Value) (A : Around) (outer : List Env) (s : Shared) (H : Hp) (vs : List V) (Q : VK) (E : XK), Room k (A.deeper (envOfC "need_letter" (defScope s_need_letter) s.heap.objs.size (He.fAd K ("need_letter", none)) cdv)) → sp vs H Q E →
      ∃ t, PSs (cxOf CX0 P w K mg base N_need_letter "need_letter" (defScope s_need_letter) (He.fAd K ("need_letter", none)) cdv A outer s H E).nox (defBody s_need_letter) t ∧ t { nx := fun _ H' => Q .non H', rt := Q } (start N_need_letter vs) H) : Cal P w K mg base (k + 1) "need_letter" sp [] :=
  let ⟨h, X, G, s⟩ := T.x; cal_mk (s.t.d.def_ 16 rfl) (g_need_letter T) sc_need_letter (fun _ _ _ _ _ _ us hl => match us, hl with | [_], _ => rfl) len hbody
theorem mk_need_size (T : Tx w K mg) {k : Nat} {sp : Sp} (len : ∀ vs H Q E, sp vs H Q E → vs.length = 2)
    (hbody : ∀ (cdv : Value) (A : Around) (outer : List Env) (s : Shared) (H : Hp) (vs : List V) (Q : VK) (E : XK), Room k (A.deeper (envOfC "need_size" (defScope s_need_size) s.heap.objs.size (He.fAd K ("need_size", none)) cdv)) → sp vs H Q E →
      ∃ t, PSs (cxOf CX0 P w K mg base N_need_size "need_size" (defScope s_need_size) (He.fAd K ("need_size", none)) cdv A outer s H E).nox (defBody s_need_size) t ∧ t { nx := fun _ H' => Q .non H', rt := Q } (start N_need_size vs) H) : Cal P w K mg base (k + 1) "need_size" sp [] :=
  let ⟨h, X, G, s⟩ := T.x; cal_mk (s.t.d.def_ 17 rfl) (g_need_size T) sc_need_size (fun _ _ _ _ _ _ us hl => match us, hl with | [_, _], _ => rfl) len hbody
theorem mk_at_rest (T : Tx w K mg) {k : Nat} {sp : Sp} (len : ∀ vs H Q E, sp vs H Q E → vs.length = 3)
    (hbody : ∀ (cdv : Value) (A : Around) (outer : List Env) (s : Shared) (H : Hp) (vs : List V) (Q : VK) (E : XK), Room k (A.deeper (envOfC "at_rest" (defScope s_at_rest) s.heap.objs.size (He.fAd K ("at_rest", none)) cdv)) → sp vs H Q E →
      ∃ t, PSs (cxOf CX0 P w K mg base N_at_rest "at_rest" (defScope s_at_rest) (He.fAd K ("at_rest", none)) cdv A outer s H E).nox (defBody s_at_rest) t ∧ t { nx := fun _ H' => Q .non H', rt := Q } (start N_at_rest vs) H) : Cal P w K mg base (k + 1) "at_rest" sp [] :=
  let ⟨h, X, G, s⟩ := T.x; cal_mk (s.t.d.def_ 18 rfl) (g_at_rest T) sc_at_rest (fun _ _ _ _ _ _ us hl => match us, hl with | [_, _, _], _ => rfl) len hbody
theorem mk_client_of (T : Tx w K mg) {k : Nat} {sp : Sp} (len : ∀ vs H Q E, sp vs H Q E → vs.length = 1)
    (hbody : ∀ (cdv : Value) (A : Around) (outer : List Env) (s : Shared) (H : Hp) (vs : List V) (Q : VK) (E : XK), Room k (A.deeper (envOfC "client_of" (defScope s_client_of) s.heap.objs.size (He.fAd K ("client_of", none)) cdv)) → sp vs H Q E →
      ∃ t, PSs (cxOf CX0 P w K mg base N_client_of "client_of" (defScope s_client_of) (He.fAd K ("client_of", none)) cdv A outer s H E).nox (defBody s_client_of) t ∧ t { nx := fun _ H' => Q .non H', rt := Q } (start N_client_of vs) H) : Cal P w K mg base (k + 1) "client_of" sp [] :=
  let ⟨h, X, G, s⟩ := T.x; cal_mk (s.t.d.def_ 19 rfl) (g_client_of T) sc_client_of (fun _ _ _ _ _ _ us hl => match us, hl with | [_], _ => rfl) len hbody
theorem mk_done (T : Tx w K mg) {k : Nat} {sp : Sp} (len : ∀ vs H Q E, sp vs H Q E → vs.length = 2)
    (hbody : ∀ (cdv : Value) (A : Around) (outer : List Env) (s : Shared) (H : Hp) (vs : List V) (Q : VK) (E : XK), Room k (A.deeper (envOfC "done" (defScope s_done) s.heap.objs.size (He.fAd K ("done", none)) cdv)) → sp vs H Q E →
      ∃ t, PSs (cxOf CX0 P w K mg base N_done "done" (defScope s_done) (He.fAd K ("done", none)) cdv A outer s H E).nox (defBody s_done) t ∧ t { nx := fun _ H' => Q .non H', rt := Q } (start N_done vs) H) : Cal P w K mg base (k + 1) "done" sp [] :=
  let ⟨h, X, G, s⟩ := T.x; cal_mk (s.t.d.def_ 20 rfl) (g_done T) sc_done (fun _ _ _ _ _ _ us hl => match us, hl with | [_, _], _ => rfl) len hbody
theorem mk_law_mix (T : Tx w K mg) {k : Nat} {sp : Sp} (len : ∀ vs H Q E, sp vs H Q E → vs.length = 2)
    (hbody : ∀ (cdv : Value) (A : Around) (outer : List Env) (s : Shared) (H : Hp) (vs : List V) (Q : VK) (E : XK), Room k (A.deeper (envOfC "_law_mix" (defScope s_law_mix) s.heap.objs.size (He.fAd K ("_law_mix", none)) cdv)) → sp vs H Q E →
      ∃ t, PSs (cxOf CX0 P w K mg base N_law_mix "_law_mix" (defScope s_law_mix) (He.fAd K ("_law_mix", none)) cdv A outer s H E).nox (defBody s_law_mix) t ∧ t { nx := fun _ H' => Q .non H', rt := Q } (start N_law_mix vs) H) : Cal P w K mg base (k + 1) "_law_mix" sp [] :=
  let ⟨h, X, G, s⟩ := T.x; cal_mk (s.t.d.def_ 21 rfl) (g__law_mix T) sc_law_mix (fun _ _ _ _ _ _ us hl => match us, hl with | [_, _], _ => rfl) len hbody
theorem mk_law_next (T : Tx w K mg) {k : Nat} {sp : Sp} (len : ∀ vs H Q E, sp vs H Q E → vs.length = 2)
    (hbody : ∀ (cdv : Value) (A : Around) (outer : List Env) (s : Shared) (H : Hp) (vs : List V) (Q : VK) (E : XK), Room k (A.deeper (envOfC "_law_next" (defScope s_law_next) s.heap.objs.size (He.fAd K ("_law_next", none)) cdv)) → sp vs H Q E →
      ∃ t, PSs (cxOf CX0 P w K mg base N_law_next "_law_next" (defScope s_law_next) (He.fAd K ("_law_next", none)) cdv A outer s H E).nox (defBody s_law_next) t ∧ t { nx := fun _ H' => Q .non H', rt := Q } (start N_law_next vs) H) : Cal P w K mg base (k + 1) "_law_next" sp [] :=
  let ⟨h, X, G, s⟩ := T.x; cal_mk (s.t.d.def_ 22 rfl) (g__law_next T) sc_law_next (fun _ _ _ _ _ _ us hl => match us, hl with | [_, _], _ => rfl) len hbody
theorem mk_law_alike (T : Tx w K mg) {k : Nat} {sp : Sp} (len : ∀ vs H Q E, sp vs H Q E → vs.length = 2)
    (hbody : ∀ (cdv : Value) (A : Around) (outer : List Env) (s : Shared) (H : Hp) (vs : List V) (Q : VK) (E : XK), Room k (A.deeper (envOfC "_law_alike" (defScope s_law_alike) s.heap.objs.size (He.fAd K ("_law_alike", none)) cdv)) → sp vs H Q E →
      ∃ t, PSs (cxOf CX0 P w K mg base N_law_alike "_law_alike" (defScope s_law_alike) (He.fAd K ("_law_alike", none)) cdv A outer s H E).nox (defBody s_law_alike) t ∧ t { nx := fun _ H' => Q .non H', rt := Q } (start N_law_alike vs) H) : Cal P w K mg base (k + 1) "_law_alike" sp [] :=
  let ⟨h, X, G, s⟩ := T.x; cal_mk (s.t.d.def_ 23 rfl) (g__law_alike T) sc_law_alike (fun _ _ _ _ _ _ us hl => match us, hl with | [_, _], _ => rfl) len hbody
theorem mk_law_letter (T : Tx w K mg) {k : Nat} {sp : Sp} (len : ∀ vs H Q E, sp vs H Q E → vs.length = 2)
    (hbody : ∀ (cdv : Value) (A : Around) (outer : List Env) (s : Shared) (H : Hp) (vs : List V) (Q : VK) (E : XK), Room k (A.deeper (envOfC "_law_letter" (defScope s_law_letter) s.heap.objs.size (He.fAd K ("_law_letter", none)) cdv)) → sp vs H Q E →
      ∃ t, PSs (cxOf CX0 P w K mg base N_law_letter "_law_letter" (defScope s_law_letter) (He.fAd K ("_law_letter", none)) cdv A outer s H E).nox (defBody s_law_letter) t ∧ t { nx := fun _ H' => Q .non H', rt := Q } (start N_law_letter vs) H) : Cal P w K mg base (k + 1) "_law_letter" sp [] :=
  let ⟨h, X, G, s⟩ := T.x; cal_mk (s.t.d.def_ 24 rfl) (g__law_letter T) sc_law_letter (fun _ _ _ _ _ _ us hl => match us, hl with | [_, _], _ => rfl) len hbody
theorem mk_law_odd (T : Tx w K mg) {k : Nat} {sp : Sp} (len : ∀ vs H Q E, sp vs H Q E → vs.length = 2)
    (hbody : ∀ (cdv : Value) (A : Around) (outer : List Env) (s : Shared) (H : Hp) (vs : List V) (Q : VK) (E : XK), Room k (A.deeper (envOfC "_law_odd" (defScope s_law_odd) s.heap.objs.size (He.fAd K ("_law_odd", none)) cdv)) → sp vs H Q E →
      ∃ t, PSs (cxOf CX0 P w K mg base N_law_odd "_law_odd" (defScope s_law_odd) (He.fAd K ("_law_odd", none)) cdv A outer s H E).nox (defBody s_law_odd) t ∧ t { nx := fun _ H' => Q .non H', rt := Q } (start N_law_odd vs) H) : Cal P w K mg base (k + 1) "_law_odd" sp [] :=
  let ⟨h, X, G, s⟩ := T.x; cal_mk (s.t.d.def_ 25 rfl) (g__law_odd T) sc_law_odd (fun _ _ _ _ _ _ us hl => match us, hl with | [_, _], _ => rfl) len hbody
theorem mk_law_sized (T : Tx w K mg) {k : Nat} {sp : Sp} (len : ∀ vs H Q E, sp vs H Q E → vs.length = 3)
    (hbody : ∀ (cdv : Value) (A : Around) (outer : List Env) (s : Shared) (H : Hp) (vs : List V) (Q : VK) (E : XK), Room k (A.deeper (envOfC "_law_sized" (defScope s_law_sized) s.heap.objs.size (He.fAd K ("_law_sized", none)) cdv)) → sp vs H Q E →
      ∃ t, PSs (cxOf CX0 P w K mg base N_law_sized "_law_sized" (defScope s_law_sized) (He.fAd K ("_law_sized", none)) cdv A outer s H E).nox (defBody s_law_sized) t ∧ t { nx := fun _ H' => Q .non H', rt := Q } (start N_law_sized vs) H) : Cal P w K mg base (k + 1) "_law_sized" sp [] :=
  let ⟨h, X, G, s⟩ := T.x; cal_mk (s.t.d.def_ 26 rfl) (g__law_sized T) sc_law_sized (fun _ _ _ _ _ _ us hl => match us, hl with | [_, _, _], _ => rfl) len hbody
theorem mk_law_pending (T : Tx w K mg) {k : Nat} {sp : Sp} (len : ∀ vs H Q E, sp vs H Q E → vs.length = 2)
    (hbody : ∀ (cdv : Value) (A : Around) (outer : List Env) (s : Shared) (H : Hp) (vs : List V) (Q : VK) (E : XK), Room k (A.deeper (envOfC "_law_pending" (defScope s_law_pending) s.heap.objs.size (He.fAd K ("_law_pending", none)) cdv)) → sp vs H Q E →
      ∃ t, PSs (cxOf CX0 P w K mg base N_law_pending "_law_pending" (defScope s_law_pending) (He.fAd K ("_law_pending", none)) cdv A outer s H E).nox (defBody s_law_pending) t ∧ t { nx := fun _ H' => Q .non H', rt := Q } (start N_law_pending vs) H) : Cal P w K mg base (k + 1) "_law_pending" sp [] :=
  let ⟨h, X, G, s⟩ := T.x; cal_mk (s.t.d.def_ 27 rfl) (g__law_pending T) sc_law_pending (fun _ _ _ _ _ _ us hl => match us, hl with | [_, _], _ => rfl) len hbody
theorem mk_law_under (T : Tx w K mg) {k : Nat} {sp : Sp} (len : ∀ vs H Q E, sp vs H Q E → vs.length = 2)
    (hbody : ∀ (cdv : Value) (A : Around) (outer : List Env) (s : Shared) (H : Hp) (vs : List V) (Q : VK) (E : XK), Room k (A.deeper (envOfC "_law_under" (defScope s_law_under) s.heap.objs.size (He.fAd K ("_law_under", none)) cdv)) → sp vs H Q E →
      ∃ t, PSs (cxOf CX0 P w K mg base N_law_under "_law_under" (defScope s_law_under) (He.fAd K ("_law_under", none)) cdv A outer s H E).nox (defBody s_law_under) t ∧ t { nx := fun _ H' => Q .non H', rt := Q } (start N_law_under vs) H) : Cal P w K mg base (k + 1) "_law_under" sp [] :=
  let ⟨h, X, G, s⟩ := T.x; cal_mk (s.t.d.def_ 28 rfl) (g__law_under T) sc_law_under (fun _ _ _ _ _ _ us hl => match us, hl with | [_, _], _ => rfl) len hbody
theorem mk_law_is_tied (T : Tx w K mg) {k : Nat} {sp : Sp} (len : ∀ vs H Q E, sp vs H Q E → vs.length = 3)
    (hbody : ∀ (cdv : Value) (A : Around) (outer : List Env) (s : Shared) (H : Hp) (vs : List V) (Q : VK) (E : XK), Room k (A.deeper (envOfC "_law_is_tied" (defScope s_law_is_tied) s.heap.objs.size (He.fAd K ("_law_is_tied", none)) cdv)) → sp vs H Q E →
      ∃ t, PSs (cxOf CX0 P w K mg base N_law_is_tied "_law_is_tied" (defScope s_law_is_tied) (He.fAd K ("_law_is_tied", none)) cdv A outer s H E).nox (defBody s_law_is_tied) t ∧ t { nx := fun _ H' => Q .non H', rt := Q } (start N_law_is_tied vs) H) : Cal P w K mg base (k + 1) "_law_is_tied" sp [] :=
  let ⟨h, X, G, s⟩ := T.x; cal_mk (s.t.d.def_ 29 rfl) (g__law_is_tied T) sc_law_is_tied (fun _ _ _ _ _ _ us hl => match us, hl with | [_, _, _], _ => rfl) len hbody
theorem mk_law_does (T : Tx w K mg) {k : Nat} {sp : Sp} (len : ∀ vs H Q E, sp vs H Q E → vs.length = 2)
    (hbody : ∀ (cdv : Value) (A : Around) (outer : List Env) (s : Shared) (H : Hp) (vs : List V) (Q : VK) (E : XK), Room k (A.deeper (envOfC "_law_does" (defScope s_law_does) s.heap.objs.size (He.fAd K ("_law_does", none)) cdv)) → sp vs H Q E →
      ∃ t, PSs (cxOf CX0 P w K mg base N_law_does "_law_does" (defScope s_law_does) (He.fAd K ("_law_does", none)) cdv A outer s H E).nox (defBody s_law_does) t ∧ t { nx := fun _ H' => Q .non H', rt := Q } (start N_law_does vs) H) : Cal P w K mg base (k + 1) "_law_does" sp [] :=
  let ⟨h, X, G, s⟩ := T.x; cal_mk (s.t.d.def_ 30 rfl) (g__law_does T) sc_law_does (fun _ _ _ _ _ _ us hl => match us, hl with | [_, _], _ => rfl) len hbody
theorem mk_law_book (T : Tx w K mg) {k : Nat} {sp : Sp} (len : ∀ vs H Q E, sp vs H Q E → vs.length = 2)
    (hbody : ∀ (cdv : Value) (A : Around) (outer : List Env) (s : Shared) (H : Hp) (vs : List V) (Q : VK) (E : XK), Room k (A.deeper (envOfC "_law_book" (defScope s_law_book) s.heap.objs.size (He.fAd K ("_law_book", none)) cdv)) → sp vs H Q E →
      ∃ t, PSs (cxOf CX0 P w K mg base N_law_book "_law_book" (defScope s_law_book) (He.fAd K ("_law_book", none)) cdv A outer s H E).nox (defBody s_law_book) t ∧ t { nx := fun _ H' => Q .non H', rt := Q } (start N_law_book vs) H) : Cal P w K mg base (k + 1) "_law_book" sp [] :=
  let ⟨h, X, G, s⟩ := T.x; cal_mk (s.t.d.def_ 31 rfl) (g__law_book T) sc_law_book (fun _ _ _ _ _ _ us hl => match us, hl with | [_, _], _ => rfl) len hbody
theorem mk_law_alone (T : Tx w K mg) {k : Nat} {sp : Sp} (len : ∀ vs H Q E, sp vs H Q E → vs.length = 1)
    (hbody : ∀ (cdv : Value) (A : Around) (outer : List Env) (s : Shared) (H : Hp) (vs : List V) (Q : VK) (E : XK), Room k (A.deeper (envOfC "_law_alone" (defScope s_law_alone) s.heap.objs.size (He.fAd K ("_law_alone", none)) cdv)) → sp vs H Q E →
      ∃ t, PSs (cxOf CX0 P w K mg base N_law_alone "_law_alone" (defScope s_law_alone) (He.fAd K ("_law_alone", none)) cdv A outer s H E).nox (defBody s_law_alone) t ∧ t { nx := fun _ H' => Q .non H', rt := Q } (start N_law_alone vs) H) : Cal P w K mg base (k + 1) "_law_alone" sp [] :=
  let ⟨h, X, G, s⟩ := T.x; cal_mk (s.t.d.def_ 32 rfl) (g__law_alone T) sc_law_alone (fun _ _ _ _ _ _ us hl => match us, hl with | [_], _ => rfl) len hbody
theorem mk_law_seen (T : Tx w K mg) {k : Nat} {sp : Sp} (len : ∀ vs H Q E, sp vs H Q E → vs.length = 4)
    (hbody : ∀ (cdv : Value) (A : Around) (outer : List Env) (s : Shared) (H : Hp) (vs : List V) (Q : VK) (E : XK), Room k (A.deeper (envOfC "_law_seen" (defScope s_law_seen) s.heap.objs.size (He.fAd K ("_law_seen", none)) cdv)) → sp vs H Q E →
      ∃ t, PSs (cxOf CX0 P w K mg base N_law_seen "_law_seen" (defScope s_law_seen) (He.fAd K ("_law_seen", none)) cdv A outer s H E).nox (defBody s_law_seen) t ∧ t { nx := fun _ H' => Q .non H', rt := Q } (start N_law_seen vs) H) : Cal P w K mg base (k + 1) "_law_seen" sp [] :=
  let ⟨h, X, G, s⟩ := T.x; cal_mk (s.t.d.def_ 33 rfl) (g__law_seen T) sc_law_seen (fun _ _ _ _ _ _ us hl => match us, hl with | [_, _, _, _], _ => rfl) len hbody
theorem mk_law_laid (T : Tx w K mg) {k : Nat} {sp : Sp} (len : ∀ vs H Q E, sp vs H Q E → vs.length = 1)
    (hbody : ∀ (cdv : Value) (A : Around) (outer : List Env) (s : Shared) (H : Hp) (vs : List V) (Q : VK) (E : XK), Room k (A.deeper (envOfC "_law_laid" (defScope s_law_laid) s.heap.objs.size (He.fAd K ("_law_laid", none)) cdv)) → sp vs H Q E →
      ∃ t, PSs (cxOf CX0 P w K mg base N_law_laid "_law_laid" (defScope s_law_laid) (He.fAd K ("_law_laid", none)) cdv A outer s H E).nox (defBody s_law_laid) t ∧ t { nx := fun _ H' => Q .non H', rt := Q } (start N_law_laid vs) H) : Cal P w K mg base (k + 1) "_law_laid" sp [] :=
  let ⟨h, X, G, s⟩ := T.x; cal_mk (s.t.d.def_ 34 rfl) (g__law_laid T) sc_law_laid (fun _ _ _ _ _ _ us hl => match us, hl with | [_], _ => rfl) len hbody
theorem mk_law_painted (T : Tx w K mg) {k : Nat} {sp : Sp} (len : ∀ vs H Q E, sp vs H Q E → vs.length = 3)
    (hbody : ∀ (cdv : Value) (A : Around) (outer : List Env) (s : Shared) (H : Hp) (vs : List V) (Q : VK) (E : XK), Room k (A.deeper (envOfC "_law_painted" (defScope s_law_painted) s.heap.objs.size (He.fAd K ("_law_painted", none)) cdv)) → sp vs H Q E →
      ∃ t, PSs (cxOf CX0 P w K mg base N_law_painted "_law_painted" (defScope s_law_painted) (He.fAd K ("_law_painted", none)) cdv A outer s H E).nox (defBody s_law_painted) t ∧ t { nx := fun _ H' => Q .non H', rt := Q } (start N_law_painted vs) H) : Cal P w K mg base (k + 1) "_law_painted" sp [] :=
  let ⟨h, X, G, s⟩ := T.x; cal_mk (s.t.d.def_ 35 rfl) (g__law_painted T) sc_law_painted (fun _ _ _ _ _ _ us hl => match us, hl with | [_, _, _], _ => rfl) len hbody
abbrev FunLaw (K : PySem.W.Frag) (fd : FuncData) : Prop := FunD K "law" "law" (defArgs s_law) (defBody s_law) (defScope s_law) [] [] (He.fAd K ("law", none)) fd
theorem fun_law (T : Tx w K mg) : ∃ fd, FunLaw K fd := let ⟨h, X, G, s⟩ := T.x; s.t.d.def_ 36 rfl
theorem bind_law {fd : FuncData} (F : FunLaw K fd) (s : Shared) (u : Value) : BindsTo s fd ⟨[u], []⟩ [("_law_script", u)] := FunD.bindsA (ps := ["_law_script"]) F (fun _ _ _ _ _ _ us hl => match us, hl with | [_], _ => rfl) s [u] rfl
theorem mk_law {fd : FuncData} (F : FunLaw K fd) {k : Nat} {sp : Sp} (len : ∀ vs H Q E, sp vs H Q E → vs.length = 1)
    (hbody : ∀ (cdv : Value) (A : Around) (outer : List Env) (s : Shared) (H : Hp) (vs : List V) (Q : VK) (E : XK), Room k (A.deeper (envOfC "law" (defScope s_law) s.heap.objs.size (He.fAd K ("law", none)) cdv)) → sp vs H Q E →
      ∃ t, PSs (cxOf CX0 P w K mg base N_law "law" (defScope s_law) (He.fAd K ("law", none)) cdv A outer s H E).nox (defBody s_law) t ∧ t { nx := fun _ H' => Q .non H', rt := Q } (start N_law vs) H) : FnOk P w K mg base CX0 (k + 1) (He.fAd K ("law", none)) fd ["_law_script"] sp :=
  FunD.ok F sc_law len fun cdv A outer s H vs Q E hr h => let ⟨t, p, q⟩ := hbody cdv A outer s H vs Q E hr h; ⟨t, p.nox, q⟩
end
end U

namespace U
open PySem PySem.Spec PyProof.Rows L2
def names0 : List Str := ["seen_under", "laid", "painted", "is_number", "is_letter", "need_letter", "need_size", "at_rest", "client_of", "done", "_law_mix", "_law_next", "_law_alike", "_law_letter", "_law_odd", "_law_sized", "_law_pending", "_law_under", "_law_is_tied", "_law_does", "_law_book", "_law_alone", "_law_seen", "_law_laid", "_law_painted", "HallError", "BadSize", "TooMany", "BadLetter", "Look"]
def names1 : List Str := ["Surface", "Client", "MOST_WIDE", "MOST_HIGH", "MOST_CLIENTS", "MOST_NAME", "MOST_FAR", "FORMS", "BOUNDS"]
def names : List Str := names0 ++ names1
abbrev R : PySem.W.OpenRow := PySem.W.OpenLaw.row PySem.Challenge.rw_surfacehall_k06_at_rest_by_own_laying
abbrev hk : PySem.W.Hook := He.hookX 5 ff dd tt tf ex
def ob (s : PySem.W.SharedT) : He.AlX := He.obsX 5 ff dd tt tf ex (HandSHeadRun.getT s)
theorem ob_eq (s : PySem.W.SharedT) : ob s = hk.obs s.abs := He.obsX_eq (HandSHeadRun.getT_eq s)
theorem run (w : World) : HandSHeadRun.RunEq R (PySem.W.view R.prog [45]) hk ob 5000 names w := PySem.W.byRow2 (P := fun w => HandSHeadRun.RunEq R _ _ _ _ names w) "special-get-raises" (fun w os => by kernel_rfl) (fun w os => by kernel_rfl) w
theorem tabs_nil {K : PySem.W.Frag} {H : Hp} (h : ∀ p ∈ tf.map (He.cT K), H p.2 = some (.tbl #[])) : LamX.Tabs (Ts K) H := fun p hp => ⟨#[], by rw [List.mem_singleton.mp hp]; exact h _ (List.mem_map_of_mem (f := He.cT K) (List.mem_cons_self ..)), by first | trivial | rfl | simp [TriplesOk] | decide, fun pos cv hc => by cases hc⟩
end U

namespace U
open PySem PySem.Spec PyProof.Rows L2
open C8 (Cal Met Mak pe_c pe_mk pe_mt pe_mt0 pe_gc sl_txt)
local macro_rules | `(tactic| wtm_at "cl") => `(tactic| exact clsK (by with_reducible first | exact cls_Look (by assumption) | exact cls_Surface (by assumption) | exact cls_Client (by assumption) | exact cls_House (by assumption)) (by rfl))
local macro_rules | `(tactic| wtm_at "na") => `(tactic| exact naK (by with_reducible first | exact na_Look_x (by assumption) | exact na_Look_y (by assumption) | exact na_Look_rank (by assumption) | exact na_Look_is_veiled (by assumption) | exact na_Look_marks (by assumption) | exact na_Surface_pending (by assumption) | exact na_Surface_ready (by assumption) | exact na_Surface_shown (by assumption) | exact na_Surface_top (by assumption) | exact na_Client_surfaces (by assumption) | exact na_Client_row (by assumption) | exact na_Client_ears (by assumption) | exact na_Client_is_there (by assumption) | exact na_House_wide (by assumption) | exact na_House_high (by assumption) | exact na_House_rows_of (by assumption) | exact na_House_marks (by assumption) | exact na_House_owners (by assumption) | exact na_House_places (by assumption) | exact na_House_fresh (by assumption) | exact na_House_fingers (by assumption) | exact na_House_focus (by assumption) | exact na_House_holder (by assumption)) (by rfl))
local macro_rules | `(tactic| wtm_at "fl") => `(tactic| (first
  | with_reducible (first | refine iFld ?_ | refine iSFld ?_ | refine iFldT ?_ | refine iMeth ?_ | refine iSlT ?_)
  | ((with_reducible refine gFldX ?_); refine ⟨_, _, _, by wtm_at "hp", by wtm_at "cl", by wtm_at "na", _, rfl, ?_⟩)
  | ((with_reducible refine gSFldX ?_); refine ⟨_, _, _, by wtm_at "hp", by wtm_at "cl", by wtm_at "na", rfl, _, rfl, ?_⟩)
  | ((with_reducible refine gMeth ?_); refine ⟨_, _, by wtm_at "hp", by rfl, ?_⟩)
  | fail))
local macro_rules | `(tactic| wtm_at "st") => `(tactic| (simp only [wipe, List.map_cons, List.map_nil, List.foldl_cons, List.foldl_nil, List.set_cons_succ, List.set_cons_zero]; exact rfl))
local macro_rules | `(tactic| wtm_at "hq") => `(tactic| (first | with_reducible assumption | with_reducible exact upd_same | ((with_reducible refine hUpd ?_ ?_); (first | assumption | exact Ne.symm (by assumption)); (wtm_at "hq")) | exact sameAt (by with_reducible assumption) (by wtm_at "hq") | fail))
local macro_rules | `(tactic| wtm_at "lv") => `(tactic| (first | with_reducible exact lvA | ((with_reducible refine lvU ?_); (wtm_at "lv")) | with_reducible exact lvS (by assumption) | exact lvSame (by with_reducible assumption) (by wtm_at "lv") | exact lvFr (by with_reducible assumption) (by wtm_at "lv") | fail))
local macro_rules | `(tactic| wtm_at "ne") => `(tactic| (first
  | assumption | exact Ne.symm (by assumption) | exact neL (by with_reducible assumption) (by wtm_at "lv") | exact Ne.symm (neL (by with_reducible assumption) (by wtm_at "lv")) | exact neN (by with_reducible assumption) (by wtm_at "hq") | exact Ne.symm (neN (by with_reducible assumption) (by wtm_at "hq")) | exact ne_of (by with_reducible assumption) (by with_reducible assumption) (by nofun) | fail))
local macro_rules | `(tactic| wtm_at "hp") => `(tactic| (first | with_reducible assumption | with_reducible exact upd_same | ((with_reducible refine hUpd ?_ ?_); (wtm_at "ne"); (wtm_at "hp")) | exact sameAt (by with_reducible assumption) (by wtm_at "hp") | fail))
local macro_rules | `(tactic| wtm_at "sl") => `(tactic| (first | assumption | exact SqL.of (by wtm_at "hp") | exact SqT.of (by wtm_at "hp") | fail))
local macro_rules | `(tactic| wtm_at "cc") => `(tactic| (first | (show (0 : Int) < _; omega) | exact ⟨by omega, by omega⟩ | exact .inl ⟨by omega, by omega⟩ | exact .inr ⟨by omega, by omega⟩ | exact ⟨by omega, by omega, by decide⟩ | fail))
local macro_rules | `(tactic| wtm_at "go") => `(tactic| repeat (first
  | with_reducible (first
    | refine iSeq ?_ | refine iNext ?_ | refine iAsg ?_ | refine iRet ?_ | refine iRetN ?_ | refine iDrop ?_ | refine iIfS ?_ | refine nPar ?_ | refine nPar3 ?_
    | refine iC ?_ | refine iOp ?_ | refine iUn ?_ | refine iI0 ?_ | refine iU ?_ | refine iTest ?_ | refine iB ?_ | refine iAnd ?_ | refine iOr ?_ | refine iNot ?_
    | refine iAndV ?_ | refine iOrV ?_ | refine iNotV ?_ | refine iChain ?_ | refine iNil ?_ | refine iCons ?_ | refine iTupX ?_ | refine iLst ?_ | refine iCB ?_ | refine iCall ?_ | refine iSl ?_ | refine iNoPart ?_ | refine iPart ?_
    | refine iBM ?_ | refine iBM0 ?_ | refine iDGetE ?_ | refine iDInE ?_ | refine iDNotInE ?_ | refine iSub ?_ | refine iDPutE ?_ | refine iDisp ?_ | refine iPairsN ?_ | refine iPairsC ?_ | refine iDPop1 ?_
    | refine iEqI ?_ | refine iNeI ?_ | refine iEqS ?_ | refine iNeS ?_ | refine iEqB ?_ | refine iNeB ?_ | refine iEqIN ?_ | refine iEqNI ?_ | refine iEqNN ?_
    | refine iIsNN ?_ | refine iIsNI ?_ | refine iIsNR ?_ | refine iIsNS ?_ | refine iNoNN ?_ | refine iNoNI ?_ | refine iNoNR ?_ | refine iNoNS ?_
    | refine iMax2 ?_ | refine iMin2 ?_ | refine iFor ?_ | refine iLc ?_ | refine iWL ?_ | refine iWT ?_ | refine iWE ?_ | refine iWR1 ?_ | refine iWR2 ?_ | refine iWS ?_ | refine gWS ?_ | refine iYes ?_ | refine gConsE ?_ | refine gNilE ?_ | refine iteT ?_ | refine iteF ?_ | refine oSN ?_ | refine oNN ?_ | refine oS ?_ | refine oN ?_ | refine oIS ?_ | refine oIN ?_ | refine oISN ?_ | refine oINN ?_ | refine oNT ?_ | refine oNF ?_
    | refine gBl ?_ | refine gInt ?_ | refine gWipe ?_)
  | ((with_reducible refine gWipe2 ?_ ?_); (simp only [wipe, List.map_cons, List.map_nil, List.foldl_cons, List.foldl_nil, List.set_cons_succ, List.set_cons_zero]))
  | with_reducible refine iteYes rfl ?_ | with_reducible refine iteNNo rfl ?_
  | ((with_reducible refine iteNo ?_ ?_); decide +kernel) | ((with_reducible refine iteNYes ?_ ?_); decide +kernel)
  | with_reducible refine nName (by wtm_at "st") ?_ | with_reducible refine nPR (by wtm_at "st") ?_ | with_reducible refine nPR3 (by wtm_at "st") ?_
  | ((with_reducible refine gVar ?_); refine ⟨_, rfl, ?_⟩)
  | ((with_reducible refine iI ?_ ?_); wtm_at "cc")
  | ((with_reducible refine gIxL ?_); refine ⟨_, by wtm_at "sl", _, rfl, ?_⟩)
  | ((with_reducible refine gIxT ?_); refine ⟨_, by wtm_at "sl", _, rfl, ?_⟩)
  | ((with_reducible refine gLenL ?_); refine ⟨_, by wtm_at "sl", ?_⟩)
  | ((with_reducible refine gLenT ?_); refine ⟨_, by wtm_at "sl", ?_⟩)
  | ((with_reducible refine gSetL ?_); refine ⟨_, by wtm_at "hp", _, rfl, ?_⟩)
  | ((with_reducible refine gWL ?_); refine ⟨_, by wtm_at "sl", ?_⟩)
  | ((with_reducible refine gWT ?_); refine ⟨_, by wtm_at "sl", ?_⟩)
  | ((with_reducible refine gWE ?_); refine ⟨_, by wtm_at "sl", ?_⟩)
  | ((with_reducible refine gWR1 ?_ ?_); exact ⟨by omega, by omega⟩)
  | ((with_reducible refine gWR2 ?_ ?_); exact ⟨by omega, by omega, by omega, by omega⟩)
  | ((with_reducible refine gTupE ?_); refine ⟨_, by wtm_at "sl", rfl, ?_⟩)
  | ((with_reducible refine gTyL ?_ ?_); exact ⟨_, by wtm_at "sl"⟩)
  | ((with_reducible refine gTyD ?_ ?_); exact ⟨_, by wtm_at "hp"⟩)
  | ((with_reducible refine iSz ?_ ?_); rfl)
  | wtm_at "fl"
  | fail))
local macro_rules | `(tactic| wtm_at "ii") => `(tactic| (first | with_reducible refine iIsiI (r := true) (by decide +kernel) ?_ | with_reducible refine iIsiI (r := false) (by decide +kernel) ?_ | with_reducible refine iIsiS (r := true) (by decide +kernel) ?_ | with_reducible refine iIsiS (r := false) (by decide +kernel) ?_ | with_reducible refine iIsiB (r := true) (by decide +kernel) ?_ | with_reducible refine iIsiB (r := false) (by decide +kernel) ?_ | with_reducible refine iIsiN (r := true) (by decide +kernel) ?_ | with_reducible refine iIsiN (r := false) (by decide +kernel) ?_ | fail))
/-! ### what is drawn from -/
def Drw (H : Hp) (ph pl : Addr) : Prop := ∃ (m : Int) (cs : List Int) (k : Int), H ph = some (.lst [.int m, .ref pl, .int k]) ∧ H pl = some (.lst (cs.map V.int)) ∧ 0 ≤ m ∧ m < 2147483647 ∧ cs.length ≤ 63
def spMix (K : PySem.W.Frag) : Sp := fun vs H Q _ => ∃ (a : Addr) (ns : List Int) (n : Int), vs = [.ref a, .int n] ∧ SqL K H a (ns.map V.int) ∧ ns.length ≤ 63 ∧ 0 ≤ n ∧ n < 2147483647 ∧ ∀ H' ph pl, Drw H' ph pl → Same H H' → H ph = none → H pl = none → Q (.ref ph) H'
def spNext : Sp := fun vs H Q _ => ∃ (ph pl : Addr) (n : Int), vs = [.ref ph, .int n] ∧ Drw H ph pl ∧ 0 < n ∧ n < 1073741824 ∧ ∀ H' r, Drw H' ph pl → Fr [ph, pl] H H' → 0 ≤ r → r < n → Q (.int r) H'
section
variable {P : Program} {w : World} {K : PySem.W.Frag} {mg : Str → Option Value} {base : Heap}
theorem ok_law_next (T : Tx w K mg) : Cal P w K mg base 1 "_law_next" spNext [] := by
  refine mk_law_next T (fun vs H Q E h => ?_) (fun cdv A outer s H vs Q E hr h => ?_)
  · obtain ⟨ph, pl, n, rfl, _⟩ := h
    rfl
  · obtain ⟨ph, pl, n, rfl, ⟨m, cs, k, eh, el, m0, m1, hl⟩, n0, n1, q⟩ := h
    refine ⟨_, (pss_cons (ps_set (i := 2) sc_law_next.nd rfl (.inl rfl) (pe_op op_mod (pe_ix ix_list (pv 0) pe_int (fun _ _ => rfl)) (pe_callB (c_max2 rfl) (by rfl) (f_max T) (by decide +kernel) (pa_cons pe_int (pa_cons (pe_callB c_len (by rfl) (f_len T) (by decide +kernel) (pa_cons (pe_ix ix_list (pv 0) pe_int (fun _ _ => rfl)) pa_nil)) pa_nil)))))
  (pss_cons (ps_set (i := 3) sc_law_next.nd rfl (.inl rfl) (pe_ifExp (pt_cmpR (op_neD hr.units) (pe_ix ix_list (pv 0) pe_int (fun _ _ => rfl)) (pe_lst pa_nil) (nomark _)) (pe_ix ix_list (pe_ix ix_list (pv 0) pe_int (fun _ _ => rfl)) (pv 2) (fun _ _ => rfl)) pe_int))
  (pss_cons (ps_if (pt_cmpR op_ge (pv 3) (pe_op op_pow pe_int pe_int) (nomark _)) (pss_cons (ps_asg (pe_op op_fdiv (pv 3) (pv 1)) (pg_sub (pe_ix ix_list (pv 0) pe_int (fun _ _ => rfl)) (pv 2) set_list))
  (pss_one (ps_ret (pe_op op_mod (pv 3) (pv 1))))) pss_nil)
  (pss_cons (ps_asg (pe_op op_mod (pe_op op_add (pe_op op_add (pe_op op_mul (pe_ix ix_list (pv 0) pe_int (fun _ _ => rfl)) pe_int) (pe_op op_mul (pv 3) pe_int)) pe_int) pe_int) (pg_sub (pv 0) pe_int set_list))
  (pss_cons (ps_asg (pe_op op_add (pe_ix ix_list (pv 0) pe_int (fun _ _ => rfl)) pe_int) (pg_sub (pv 0) pe_int set_list))
  (pss_one (ps_ret (pe_op op_mod (pe_op op_fdiv (pe_ix ix_list (pv 0) pe_int (fun _ _ => rfl)) pe_int) (pv 1))))))))), ?_⟩
    rw [st_law_next]
    have npl : ph ≠ pl := fun e => by
      rw [e, el] at eh
      have z := HO.lst.inj (Option.some.inj eh)
      match cs, z with
      | [_, _, _], z => simp at z
    wtm_at "go"
    generalize ea : k % (if ((cs.map V.int).length : Int) > 1 then ((cs.map V.int).length : Int) else 1) = at_
    refine iIfK (fun v H' => ∃ c : Int, v = .int c ∧ Same H H' ∧ (cs = [] → c = 0) ∧ (cs ≠ [] → 0 ≤ at_ ∧ at_.toNat < cs.length)) (fun Q' k' => ?_) (fun v H1 hv => ?_)
    · wtm_at "go"
      intro p np
      refine iNeDI (ns := cs) (ms := []) (by wtm_at "sl") (SqL.of upd_same) ?_
      wtm_at "go"
      first | refine iteD (fun e => ?_) (fun e => ?_) | refine iteN (fun e => ?_) (fun e => ?_) | refine ite2 (fun e => ?_) (fun e => ?_)
      · have hp : 0 < cs.length := by
          cases cs with
          | nil => exact absurd rfl e
          | cons _ _ => simp
        have b0 : 0 ≤ at_ := by
          rw [← ea, List.length_map]
          exact Int.emod_nonneg _ (by split <;> omega)
        have b1 : at_ < (cs.length : Int) := by
          rw [← ea, List.length_map]
          split
          · exact Int.emod_lt_of_pos _ (by omega)
          · have := Int.emod_lt_of_pos k (show (0 : Int) < 1 by decide)
            omega
        wtm_at "go"
        refine iIxL (by wtm_at "sl") (at_ints (j := at_.toNat) (by omega) (by omega)) (k' _ _ ⟨_, rfl, same_new np, fun z => absurd z e, fun _ => ⟨b0, by omega⟩⟩)
      · wtm_at "go"
        exact k' _ _ ⟨0, rfl, same_new np, fun _ => rfl, fun z => absurd e z⟩
    · obtain ⟨c, rfl, s1, c0, c1⟩ := hv
      have eh1 := s1 _ _ eh
      have el1 := s1 _ _ el
      wtm_at "go"
      first | refine iteD (fun e => ?_) (fun e => ?_) | refine iteN (fun e => ?_) (fun e => ?_) | refine ite2 (fun e => ?_) (fun e => ?_)
      · have hne : cs ≠ [] := fun z => by
          rw [c0 z] at e
          exact absurd e (by decide)
        obtain ⟨b0, b1⟩ := c1 hne
        wtm_at "go"
        refine iSetL (by wtm_at "hp") (ixN_nat (j := at_.toNat) (by omega) (by rw [List.length_map]; exact b1)) ?_
        wtm_at "go"
        refine q _ _ ⟨m, cs.set at_.toNat (c / n), k, ?_, ?_, m0, m1, by rw [List.length_set]; exact hl⟩ ((Fr.same s1).trans (Fr.set el1 rfl (by simp))) (Int.emod_nonneg _ (by omega)) (Int.emod_lt_of_pos _ n0)
        · wtm_at "hp"
        · rw [upd_same, set_ints]
      · wtm_at "go"
        refine q _ _ ⟨(m * 48271 + c * 69621 + 11) % 2147483647, cs, k + 1, upd_same, (by wtm_at "hp"), Int.emod_nonneg _ (by decide), Int.emod_lt_of_pos _ (by decide), hl⟩ (((Fr.same s1).trans (Fr.set eh1 rfl (by simp))).trans (Fr.set upd_same rfl (by simp))) (Int.emod_nonneg _ (by omega)) (Int.emod_lt_of_pos _ n0)
theorem ok_law_mix (T : Tx w K mg) : Cal P w K mg base 1 "_law_mix" (spMix K) [] := by
  refine mk_law_mix T (fun vs H Q E h => ?_) (fun cdv A outer s H vs Q E hr h => ?_)
  · obtain ⟨a, ns, n, rfl, _⟩ := h
    rfl
  · obtain ⟨a, ns, n, rfl, hS, hl, n0, n1, q⟩ := h
    refine ⟨_, (pss_cons (ps_set (i := 2) sc_law_mix.nd rfl (.inl rfl) (pv 1))
  (pss_cons (ps_for PassesOwn.never rfl (pi_list (pv 0)) (pg_name (i := 3) sc_law_mix.nd rfl (.inl rfl)) (pss_one (ps_set (i := 2) sc_law_mix.nd rfl (.inl rfl) (pe_op op_mod (pe_op op_add (pe_op op_add (pe_op op_mul (pv 2) pe_int) (pe_op op_mod (pv 3) pe_int)) pe_int) pe_int))))
  (pss_one (ps_ret (pe_lst (pa_cons (pv 2) (pa_cons (pe_callTy c_list (by rfl) (f_list T) (by decide +kernel) (pa_cons (pv 0) pa_nil)) (pa_cons pe_int pa_nil)))))))), ?_⟩
    rw [st_law_mix]
    wtm_at "go"
    refine eForL (xs := ns.map V.int) (fun i σ H' => H' = H ∧ ∃ (m : Int) (y : Option V), σ = [some (.ref a), some (.int n), some (.int m), y] ∧ 0 ≤ m ∧ m < 2147483647) ⟨rfl, n, _, rfl, n0, n1⟩ ?_ ?_ ?_
    · rintro i σ' H' _ ⟨rfl, _⟩
      exact hS
    · rintro i x σ' H' hx ⟨rfl, m, y, rfl, m0, m1⟩
      obtain ⟨c, rfl⟩ : ∃ c, x = V.int c := by
        rw [List.getElem?_map] at hx
        cases e : ns[i]? with
        | none => rw [e] at hx; cases hx
        | some c => rw [e] at hx; exact ⟨c, (Option.some.inj hx).symm⟩
      wtm_at "go"
      exact ⟨rfl, _, _, rfl, Int.emod_nonneg _ (by decide), Int.emod_lt_of_pos _ (by decide)⟩
    · rintro σ' H' ⟨rfl, m, y, rfl, m0, m1⟩
      wtm_at "go"
      refine iListL (by wtm_at "sl") (fun l nl => ?_)
      wtm_at "go"
      intro p np
      have npl : l ≠ p := (by wtm_at "ne")
      exact q _ p l ⟨m, ns, 0, upd_same, (by wtm_at "hp"), m0, m1, hl⟩ ((same_new nl).trans (same_new np)) ((same_new nl).free np) nl
end

/-! ### what surfaces are: plain -/
structure Lk where
  x : Int
  y : Int
  rank : Int
  veiled : Bool
  marks : List (List Int)
def Lk.new : Lk := ⟨0, 0, 0, false, [[0]]⟩
structure Sf where
  pending : Lk
  ready : Option Lk
  shown : Option Lk
  top : Option Int
def Sf.new : Sf := ⟨Lk.new, none, none, none⟩
abbrev Wd := List (Int × Sf)
def Wd.get (W : Wd) (n : Int) : Option Sf := W.lookup n
def Wd.put (W : Wd) (n : Int) (f : Sf → Sf) : Wd := W.map fun e => if e.1 = n then (e.1, f e.2) else e
def Wd.del (W : Wd) (n : Int) : Wd := W.filter fun e => decide (e.1 ≠ n)
def Wd.names (W : Wd) : List Int := W.map (·.1)
inductive Lt where
  | make (n : Int) | drop (n : Int) | size (n w h : Int) | paint (n x y w h m : Int) | place (n x y : Int) | rank (n r : Int) | veil (n : Int) | unveil (n : Int) | tie (n o : Int) | shw (n : Int) | hold (n : Int) | lt
def Lt.word : Lt → Str
  | .make _ => "make" | .drop _ => "drop" | .size _ _ _ => "size" | .paint _ _ _ _ _ _ => "paint" | .place _ _ _ => "place" | .rank _ _ => "rank" | .veil _ => "veil" | .unveil _ => "unveil" | .tie _ _ => "tie" | .shw _ => "show" | .hold _ => "hold" | .lt => "let"
def Lt.nums : Lt → List Int
  | .make n => [n] | .drop n => [n] | .size n w h => [n, w, h] | .paint n x y w h m => [n, x, y, w, h, m] | .place n x y => [n, x, y] | .rank n r => [n, r] | .veil n => [n] | .unveil n => [n] | .tie n o => [n, o] | .shw n => [n] | .hold n => [n] | .lt => []
def Lt.vs (l : Lt) : List V := .str l.word :: l.nums.map V.int
def Nm (n : Int) : Prop := 0 ≤ n ∧ n ≤ 9
/-- a letter of this paper: every number within its bounds -/
def Lt.ok : Lt → Prop
  | .make n => Nm n | .drop n => Nm n | .size n w h => Nm n ∧ (1 ≤ w ∧ w ≤ 12) ∧ 1 ≤ h ∧ h ≤ 8
  | .paint n x y w h m => Nm n ∧ (0 ≤ x ∧ x ≤ 11) ∧ (0 ≤ y ∧ y ≤ 7) ∧ (1 ≤ w ∧ w ≤ 12) ∧ (1 ≤ h ∧ h ≤ 8) ∧ 0 ≤ m ∧ m ≤ 9
  | .place n x y => Nm n ∧ (-20 ≤ x ∧ x ≤ 20) ∧ -20 ≤ y ∧ y ≤ 20 | .rank n r => Nm n ∧ 0 ≤ r ∧ r ≤ 9 | .veil n => Nm n | .unveil n => Nm n | .tie n o => Nm n ∧ Nm o | .shw n => Nm n | .hold n => Nm n | .lt => True
/-! sizes, paint -/
def sizedR (row : List Int) (w : Nat) : List Int := (row ++ List.replicate w 0).take w
def sized (m : List (List Int)) (w h : Nat) : List (List Int) := (List.range h).map fun y => sizedR (m.getD y []) w
def paintR (row : List Int) (x w : Nat) (c : Int) : List Int := row.take x ++ List.replicate w c ++ row.drop (x + w)
def paintM (m : List (List Int)) (x y w h : Nat) (c : Int) : List (List Int) := (List.range m.length).map fun k => if y ≤ k ∧ k < y + h then paintR (m.getD k []) x w c else m.getD k []
/-- a look behind a letter of size, paint, place, rank, veil, unveil -/
def pend (l : Lk) : Lt → Option Lk
  | .size _ w h => some { l with marks := sized l.marks w.toNat h.toNat }
  | .paint _ x y w h c => if x + w > ((l.marks.headD []).length : Int) ∨ y + h > (l.marks.length : Int) then none else some { l with marks := paintM l.marks x.toNat y.toNat w.toNat h.toNat c }
  | .place _ x y => some { l with x := x, y := y }
  | .rank _ r => some { l with rank := r }
  | .veil _ => some { l with veiled := true }
  | _ => some { l with veiled := false }
/-! parts -/
def sortI (l : List Int) : List Int := l.mergeSort (fun a b => decide (a ≤ b))
def Wd.parts (W : Wd) (n : Option Int) : List Int := (sortI W.names).filter fun p => decide ((W.get p).map (·.top) = some n)
def under : Nat → Wd → Int → List Int
  | 0, _, n => [n]
  | f + 1, W, n => n :: (W.parts (some n)).flatMap (under f W)
/-- whether n may be tied to o -/
def mayTie (W : Wd) (n o : Int) : Bool :=
  match W.get n, W.get o with
  | some s, some t => !decide (n = o) && s.shown.isNone && s.ready.isNone && s.top.isNone && (W.parts (some n)).isEmpty && (match t.top with | none => true | some u => (match W.get u with | some s' => s'.top.isNone | none => false))
  | _, _ => false
def Lt.name : Lt → Int
  | .make n => n | .drop n => n | .size n _ _ => n | .paint n _ _ _ _ _ => n | .place n _ _ => n | .rank n _ => n | .veil n => n | .unveil n => n | .tie n _ => n | .shw n => n | .hold n => n | .lt => 0
/-- what show shows: those that are ready, under n -/
def showns (W : Wd) (n : Int) : List Int := (under 3 W n).filter fun p => match W.get p with | some s => s.ready.isSome | none => false
def showOne (s : Sf) : Sf := { s with shown := s.ready, ready := none }
def doShow (W : Wd) (n : Int) : Wd × List Int :=
  let W1 := W.put n fun s => { s with ready := some s.pending }
  match (W.get n).bind (·.top) with
  | some _ => (W1, [])
  | none => ((showns W1 n).foldl (fun V p => V.put p showOne) W1, showns W1 n)
def doDrop (W : Wd) (n : Int) : Wd := (under 3 W n).foldl (fun V p => V.del p) W
/-- a letter done: the surfaces behind it, those shown, those dropped; none where it can't be -/
def does (W : Wd) : Lt → Option (Wd × List Int × List Int)
  | .lt => some (W, [], [])
  | .make n => if (W.get n).isSome then none else some (W ++ [(n, Sf.new)], [], [])
  | .tie n o => if mayTie W n o then some (W.put n fun s => { s with top := some o }, [], []) else none
  | .hold n => if (W.get n).isSome then some (W, [], []) else none
  | .drop n => if (W.get n).isSome then some (doDrop W n, [], under 3 W n) else none
  | .shw n => if (W.get n).isSome then some ((doShow W n).1, (doShow W n).2, []) else none
  | l => match W.get l.name with
    | none => none
    | some s => (pend s.pending l).map fun k => (W.put l.name fun s => { s with pending := k }, [], [])

/-! ### the law's surfaces: how they lie -/
section
variable (K : PySem.W.Frag) (H : Hp)
def RowT (v : V) (r : List Int) : Prop := ∃ a, v = .ref a ∧ SqT K H a (r.map V.int)
def MkT (v : V) (m : List (List Int)) : Prop := ∃ a vs, v = .ref a ∧ SqT K H a vs ∧ Paired (RowT K H) vs m
def LkT (v : V) (l : Lk) : Prop := ∃ a vm, v = .ref a ∧ SqT K H a [.int l.x, .int l.y, .int l.rank, .bl l.veiled, vm] ∧ MkT K H vm l.marks
def OLk (v : V) : Option Lk → Prop
  | none => v = .non
  | some l => LkT K H v l
end
def oI : Option Int → V
  | none => .non
  | some i => .int i
section
variable {K : PySem.W.Frag} {H H' : Hp} {S : List Addr}
theorem RowT.fr {v : V} {r : List Int} (f : Fr S H H') (h : RowT K H v r) : RowT K H' v r := let ⟨a, e, q⟩ := h; ⟨a, e, f.sqT q⟩
theorem MkT.fr {v : V} {m : List (List Int)} (f : Fr S H H') (h : MkT K H v m) : MkT K H' v m := let ⟨a, vs, e, q, p⟩ := h; ⟨a, vs, e, f.sqT q, pMap p fun _ _ z => RowT.fr f z⟩
theorem LkT.fr {v : V} {l : Lk} (f : Fr S H H') (h : LkT K H v l) : LkT K H' v l := let ⟨a, vm, e, q, p⟩ := h; ⟨a, vm, e, f.sqT q, p.fr f⟩
theorem OLk.fr {v : V} : ∀ {o : Option Lk}, Fr S H H' → OLk K H v o → OLk K H' v o
  | none, _, h => h
  | some _, f, h => LkT.fr f h
end
section
variable {P : Program} {w : World} {K : PySem.W.Frag} {mg : Str → Option Value} {base : Heap}
def spSized (K : PySem.W.Frag) : Sp := fun vs H Q _ => ∃ v m wd hg, vs = [v, .int wd, .int hg] ∧ MkT K H v m ∧ m.length ≤ 8 ∧ (∀ r ∈ m, r.length ≤ 12) ∧ (1 ≤ wd ∧ wd ≤ 12) ∧ (1 ≤ hg ∧ hg ≤ 8) ∧ ∀ H' u, Same H H' → MkT K H' u (sized m wd.toNat hg.toNat) → Q u H'
theorem ok_law_sized (T : Tx w K mg) : Cal P w K mg base 1 "_law_sized" (spSized K) [] := by
  refine mk_law_sized T (fun vs H Q E h => ?_) (fun cdv A outer s H vs Q E hr h => ?_)
  · obtain ⟨v, m, wd, hg, rfl, _⟩ := h
    rfl
  · obtain ⟨v, m, wd, hg, rfl, ⟨a, rs, rfl, hM, hP⟩, hml, hrl, hw, hh, q⟩ := h
    refine ⟨_, (pss_cons (ps_set (i := 3) sc_law_sized.nd rfl (.inl rfl) (pe_lst pa_nil))
  (pss_cons (ps_for PassesOwn.never rfl (pi_range1 rfl (f_range T) (pa_cons (pv 2) pa_nil)) (pg_name (i := 4) sc_law_sized.nd rfl (.inl rfl)) (pss_cons (ps_set (i := 5) sc_law_sized.nd rfl (.inl rfl) (pe_ifExp (pt_cmpR op_lt (pv 4) (pe_callB c_len (by rfl) (f_len T) (by decide +kernel) (pa_cons (pv 0) pa_nil)) (nomark _)) (pe_ix ix_tup (pv 0) (pv 4) (fun _ _ => rfl)) (pe_tup pa_nil)))
  (pss_one (ps_expr (pe_bm PySem.F.plainAttrs_list PySem.F.slot_list_append PySem.F.type_list_append mt_append (pv 3) (pa_cons (pe_slice sl_tupA (pe_op op_catA (pv 5) (pe_op op_repTA (pe_tup (pa_cons pe_int pa_nil)) (pv 1))) po_none (po_some (pv 1))) pa_nil))))))
  (pss_one (ps_ret (pe_callTy c_tuple (by rfl) (f_tuple T) (by decide +kernel) (pa_cons (pv 3) pa_nil)))))), ?_⟩
    rw [st_law_sized]
    wtm_at "go"
    intro p np
    wtm_at "go"
    have hrs : rs.length = m.length := pLen hP
    refine eForR (lo := 0) (n := hg.toNat) (fun i σ H' => ∃ ys y4 y5, σ = [some (.ref a), some (.int wd), some (.int hg), some (.ref p), y4, y5] ∧ Same H H' ∧ H p = none ∧ H' p = some (.lst ys) ∧ Paired (RowT K H') ys ((sized m wd.toNat hg.toNat).take i))
      ⟨[], _, _, rfl, same_new np, np, upd_same, .nil⟩ ?_ ?_
    · rintro i σ H1 hi ⟨ys, y4, y5, rfl, sm, _, hp, hys⟩
      wtm_at "go"
      refine iIfK (fun v H' => Same H1 H' ∧ RowT K H' v (m.getD i [])) (fun Q' k' => ?_) (fun v H2 hv => ?_)
      · wtm_at "go"
        refine gLenT ⟨_, sqT_same sm hM, ?_⟩
        wtm_at "go"
        first | refine iteD (fun e => ?_) (fun e => ?_) | refine iteN (fun e => ?_) (fun e => ?_) | refine ite2 (fun e => ?_) (fun e => ?_)
        · have hi2 : i < m.length := by omega
          obtain ⟨rv, e1, e2⟩ := pGet hP (List.getElem?_eq_getElem hi2)
          obtain ⟨ra, rfl, hra⟩ := e2
          wtm_at "go"
          refine iIxT (sqT_same sm hM) (at_of (j := i) (by omega) e1) (k' _ _ ⟨Same.refl _, ra, rfl, ?_⟩)
          rw [List.getD_eq_getElem?_getD, List.getElem?_eq_getElem hi2]
          exact sqT_same sm hra
        · wtm_at "go"
          intro t nt
          refine k' _ _ ⟨same_new nt, t, rfl, ?_⟩
          rw [List.getD_eq_getElem?_getD, List.getElem?_eq_none (by omega)]
          exact SqT.of upd_same
      · obtain ⟨s2, ra, rfl, hra⟩ := hv
        wtm_at "go"
        intro t nt
        wtm_at "go"
        refine iRepA (xs := [.int 0]) (SqT.of upd_same) (by simp) hw.1 (by omega) (by decide) (fun c H3 s3 hc => ?_)
        rw [rep_one] at hc
        have s23 : Same H2 H3 := (same_new nt).trans s3
        refine iCatA (sqT_same s23 hra) hc ?_ (fun c2 H4 s4 hc2 => ?_)
        · have : (m.getD i []).length ≤ 12 := by
            rw [List.getD_eq_getElem?_getD]
            cases e : m[i]? with
            | none => exact Nat.zero_le _
            | some r => exact hrl r (List.mem_of_getElem? e)
          rw [List.length_map, List.length_replicate]
          exact Nat.le_trans (show _ ≤ 24 by omega) (by decide)
        · wtm_at "go"
          refine iSlA hc2 (fun c3 H5 s5 hc3 => ?_)
          wtm_at "go"
          have s15 : Same H1 H5 := s2.trans (s23.trans (s4.trans s5))
          have hyl : ys.length ≤ 8 := by
            have := pLen hys
            rw [List.length_take] at this
            omega
          refine gAppend ⟨_, s15 _ _ hp, Nat.lt_of_le_of_lt hyl (by decide), ?_⟩
          refine ⟨_, _, _, rfl, fun b o e => ?_, np, upd_same, ?_⟩
          · rw [upd_ne (ne_of_none e np)]
            exact s15 _ _ (sm _ _ e)
          · rw [take_succ (x := sizedR (m.getD i []) wd.toNat)]
            · refine pSnoc (pMap hys fun _ _ z => ?_) ⟨c3, rfl, ?_⟩
              · exact (RowT.fr (Fr.same (S := [p]) s15) z).fr (Fr.set (S := [p]) (s15 _ _ hp) rfl (by simp))
              · refine (Fr.set (S := [p]) (s15 _ _ hp) rfl (by simp)).sqT ?_
                have ew : wd = ((wd.toNat : Nat) : Int) := by omega
                rw [ew, cut_to] at hc3
                rw [sizedR, List.map_take, List.map_append, List.map_replicate]
                exact hc3
            · unfold sized
              rw [List.getElem?_map, List.getElem?_range hi]
              rfl
    · rintro σ H1 ⟨ys, y4, y5, rfl, sm, _, hp, hys⟩
      wtm_at "go"
      refine iTupL (SqL.of hp) (fun t nt => ?_)
      refine q _ _ (sm.trans (same_new nt)) ⟨t, ys, rfl, SqT.of upd_same, ?_⟩
      rw [List.take_of_length_le (by simp [sized])] at hys
      exact pMap hys fun _ _ z => z.fr (Fr.new (S := []) nt)
end

/-! ### a look behind a letter -/
/-- rows of one width, marks of this paper -/
structure Rect (m : List (List Int)) : Prop where
  h1 : 1 ≤ m.length
  h8 : m.length ≤ 8
  w1 : 1 ≤ (m.headD []).length
  w12 : (m.headD []).length ≤ 12
  all : ∀ r ∈ m, r.length = (m.headD []).length
theorem Rect.le (h : Rect m) : ∀ r ∈ m, r.length ≤ 12 := fun r hr => by rw [h.all r hr]; exact h.w12
theorem Rect.row (h : Rect m) {k : Nat} (hk : k < m.length) : (m.getD k []).length = (m.headD []).length := by
  rw [List.getD_eq_getElem?_getD, List.getElem?_eq_getElem hk]
  exact h.all _ (List.getElem_mem hk)
theorem headD_getD (m : List (List Int)) : m.headD [] = m.getD 0 [] := by cases m <;> rfl
theorem paintM_len (m : List (List Int)) (x y w h : Nat) (c : Int) : (paintM m x y w h c).length = m.length := by simp [paintM]
theorem paintM_get {m : List (List Int)} {x y w h : Nat} {c : Int} {k : Nat} (hk : k < m.length) : (paintM m x y w h c)[k]? = some (if y ≤ k ∧ k < y + h then paintR (m.getD k []) x w c else m.getD k []) := by
  unfold paintM
  rw [List.getElem?_map, List.getElem?_range hk]
  rfl
theorem paintM_zero (m : List (List Int)) (x y w : Nat) (c : Int) : paintM m x y w 0 c = m := by
  apply List.ext_getElem?
  intro k
  by_cases hk : k < m.length
  · rw [paintM_get hk, if_neg (by omega), List.getD_eq_getElem?_getD, List.getElem?_eq_getElem hk]
    rfl
  · rw [List.getElem?_eq_none (by rw [paintM_len]; omega), List.getElem?_eq_none (by omega)]
theorem paintM_step {m : List (List Int)} {x y w i : Nat} {c : Int} (h : y + i < m.length) : (paintM m x y w i c).set (y + i) (paintR (m.getD (y + i) []) x w c) = paintM m x y w (i + 1) c := by
  apply List.ext_getElem?
  intro k
  by_cases hk : k < m.length
  · rw [paintM_get hk]
    by_cases e : k = y + i
    · subst e
      rw [List.getElem?_set_self (by rw [paintM_len]; exact h), if_pos (by omega)]
    · rw [List.getElem?_set_ne (by omega), paintM_get hk]
      by_cases g : y ≤ k ∧ k < y + i
      · rw [if_pos g, if_pos (by omega)]
      · rw [if_neg g, if_neg (by omega)]
  · rw [List.getElem?_eq_none (by rw [List.length_set, paintM_len]; omega), List.getElem?_eq_none (by rw [paintM_len]; omega)]
/-- a letter that changes what is pending -/
def Lt.chg : Lt → Bool
  | .size _ _ _ => true | .paint _ _ _ _ _ _ => true | .place _ _ _ => true | .rank _ _ => true | .veil _ => true | .unveil _ => true | _ => false
section
variable {P : Program} {w : World} {K : PySem.W.Frag} {mg : Str → Option Value} {base : Heap}
def spPending (K : PySem.W.Frag) : Sp := fun vs H Q _ => ∃ v la k l, vs = [v, .ref la] ∧ LkT K H v k ∧ Rect k.marks ∧ SqT K H la (Lt.vs l) ∧ l.ok ∧ l.chg = true ∧ ∀ H' u, Same H H' → OLk K H' u (pend k l) → Q u H'
theorem ok_law_pending (T : Tx w K mg) : Cal P w K mg base 2 "_law_pending" (spPending K) [] := by
  refine mk_law_pending T (fun vs H Q E h => ?_) (fun cdv A outer s H vs Q E hr h => ?_)
  · obtain ⟨v, la, k, l, rfl, _⟩ := h
    rfl
  · obtain ⟨v, la, k, l, rfl, ⟨a, vm, rfl, hk, hm⟩, hR, hl, hok, hc, q⟩ := h
    refine ⟨_, (pss_cons (ps_asg (pv 0) (pg_tup (n := 5) rfl (pgs_cons (pg_name (i := 2) sc_law_pending.nd rfl (.inl rfl)) (pgs_cons (pg_name (i := 3) sc_law_pending.nd rfl (.inl rfl)) (pgs_cons (pg_name (i := 4) sc_law_pending.nd rfl (.inl rfl)) (pgs_cons (pg_name (i := 5) sc_law_pending.nd rfl (.inl rfl)) (pgs_cons (pg_name (i := 6) sc_law_pending.nd rfl (.inl rfl)) pgs_nil)))))))
  (pss_cons (ps_set (i := 7) sc_law_pending.nd rfl (.inl rfl) (pe_ix ix_tup (pv 1) pe_int (fun _ _ => rfl)))
  (pss_cons (ps_if (pt_cmpR op_eq (pv 7) pe_str (nomark _)) (pss_one (ps_ret (pe_tup (pa_cons (pv 2) (pa_cons (pv 3) (pa_cons (pv 4) (pa_cons (pv 5) (pa_cons (pe_c (ok_law_sized T) hr (by omega) rfl (pa_cons (pv 6) (pa_cons (pe_ix ix_tup (pv 1) pe_int (fun _ _ => rfl)) (pa_cons (pe_ix ix_tup (pv 1) pe_int (fun _ _ => rfl)) pa_nil)))) pa_nil)))))))) pss_nil)
  (pss_cons (ps_if (pt_cmpR op_eq (pv 7) pe_str (nomark _)) (pss_cons (ps_asg (pe_slice sl_tupA (pv 1) (po_some pe_int) po_none) (pg_tup (n := 5) rfl (pgs_cons (pg_name (i := 8) sc_law_pending.nd rfl (.inl rfl)) (pgs_cons (pg_name (i := 9) sc_law_pending.nd rfl (.inl rfl)) (pgs_cons (pg_name (i := 10) sc_law_pending.nd rfl (.inl rfl)) (pgs_cons (pg_name (i := 11) sc_law_pending.nd rfl (.inl rfl)) (pgs_cons (pg_name (i := 12) sc_law_pending.nd rfl (.inl rfl)) pgs_nil)))))))
  (pss_cons (ps_if (PW.pt (pw_or (pt_cmpR op_gt (pe_op op_add (pv 8) (pv 10)) (pe_callB c_len (by rfl) (f_len T) (by decide +kernel) (pa_cons (pe_ix ix_tup (pv 6) pe_int (fun _ _ => rfl)) pa_nil)) (nomark _)) (pw_or1 (pt_cmpR op_gt (pe_op op_add (pv 9) (pv 11)) (pe_callB c_len (by rfl) (f_len T) (by decide +kernel) (pa_cons (pv 6) pa_nil)) (nomark _))))) (pss_one (ps_ret pe_non)) pss_nil)
  (pss_cons (ps_set (i := 13) sc_law_pending.nd rfl (.inl rfl) (pe_callTy c_list (by rfl) (f_list T) (by decide +kernel) (pa_cons (pv 6) pa_nil)))
  (pss_cons (ps_for PassesOwn.never rfl (pi_range2 rfl (f_range T) (pa_cons (pv 9) (pa_cons (pe_op op_add (pv 9) (pv 11)) pa_nil))) (pg_name (i := 14) sc_law_pending.nd rfl (.inl rfl)) (pss_one (ps_asg (pe_op op_catA (pe_op op_catA (pe_slice sl_tupA (pe_ix ix_list (pv 13) (pv 14) (fun _ _ => rfl)) po_none (po_some (pv 8))) (pe_op op_repTA (pe_tup (pa_cons (pv 12) pa_nil)) (pv 10))) (pe_slice sl_tupA (pe_ix ix_list (pv 13) (pv 14) (fun _ _ => rfl)) (po_some (pe_op op_add (pv 8) (pv 10))) po_none)) (pg_sub (pv 13) (pv 14) set_list))))
  (pss_one (ps_ret (pe_tup (pa_cons (pv 2) (pa_cons (pv 3) (pa_cons (pv 4) (pa_cons (pv 5) (pa_cons (pe_callTy c_tuple (by rfl) (f_tuple T) (by decide +kernel) (pa_cons (pv 13) pa_nil)) pa_nil)))))))))))) pss_nil)
  (pss_cons (ps_if (pt_cmpR op_eq (pv 7) pe_str (nomark _)) (pss_one (ps_ret (pe_tup (pa_cons (pe_ix ix_tup (pv 1) pe_int (fun _ _ => rfl)) (pa_cons (pe_ix ix_tup (pv 1) pe_int (fun _ _ => rfl)) (pa_cons (pv 4) (pa_cons (pv 5) (pa_cons (pv 6) pa_nil)))))))) pss_nil)
  (pss_cons (ps_if (pt_cmpR op_eq (pv 7) pe_str (nomark _)) (pss_one (ps_ret (pe_tup (pa_cons (pv 2) (pa_cons (pv 3) (pa_cons (pe_ix ix_tup (pv 1) pe_int (fun _ _ => rfl)) (pa_cons (pv 5) (pa_cons (pv 6) pa_nil)))))))) pss_nil)
  (pss_one (ps_ret (pe_tup (pa_cons (pv 2) (pa_cons (pv 3) (pa_cons (pv 4) (pa_cons (pe_cmpR op_eq (pv 7) pe_str (nomark _)) (pa_cons (pv 6) pa_nil)))))))))))))), ?_⟩
    rw [st_law_pending]
    wtm_at "go"
    cases l with
    | size n wd hg =>
      have hl : SqT K H la [.str "size", .int n, .int wd, .int hg] := hl
      obtain ⟨_, hw, hh⟩ := hok
      wtm_at "go"
      refine ⟨vm, k.marks, wd, hg, rfl, hm, hR.h8, hR.le, hw, hh, fun H' u s1 hu => ?_⟩
      wtm_at "go"
      intro t nt
      refine q _ _ (s1.trans (same_new nt)) ⟨t, u, rfl, SqT.of upd_same, hu.fr (Fr.new (S := []) nt)⟩
    | paint n x y wd hg c =>
      have hl : SqT K H la [.str "paint", .int n, .int x, .int y, .int wd, .int hg, .int c] := hl
      obtain ⟨_, hx, hy, hw, hh, _⟩ := hok
      obtain ⟨am, rs, rfl, hM, hP⟩ := id hm
      wtm_at "go"
      refine iSlA hl (fun cc H1 s1 hc1 => ?_)
      rw [show (2 : Int) = ((2 : Nat) : Int) from rfl, cut_from] at hc1
      have hc1 : SqT K H1 cc [.int x, .int y, .int wd, .int hg, .int c] := hc1
      have hk1 := sqT_same s1 hk
      have hM1 := sqT_same s1 hM
      have h0 : 0 < k.marks.length := hR.h1
      obtain ⟨v0, e0, a0, rfl, hr0⟩ := pGet hP (List.getElem?_eq_getElem h0)
      have hr1 := sqT_same s1 hr0
      have ehd : k.marks.headD [] = k.marks[0] := by
        rw [headD_getD, List.getD_eq_getElem?_getD, List.getElem?_eq_getElem h0]
        rfl
      have erl : rs.length = k.marks.length := pLen hP
      wtm_at "go"
      refine iIxT hM1 (at_of (j := 0) rfl e0) ?_
      wtm_at "go"
      refine ite2 (fun e1 => ?_) (fun e1 => ?_)
      · wtm_at "go"
        refine q _ _ s1 ?_
        have e2 := of_decide_eq_true e1
        rw [List.length_map] at e2
        have : pend k (.paint n x y wd hg c) = none := if_pos (.inl (by rw [ehd]; omega))
        rw [this]
        rfl
      · have e2 : ¬ _ := fun z => e1 (decide_eq_true z)
        rw [List.length_map] at e2
        wtm_at "go"
        refine ite2 (fun e3 => ?_) (fun e3 => ?_)
        · wtm_at "go"
          refine q _ _ s1 ?_
          have e4 := of_decide_eq_true e3
          have : pend k (.paint n x y wd hg c) = none := if_pos (.inr (by omega))
          rw [this]
          rfl
        · have e4 : ¬ _ := fun z => e3 (decide_eq_true z)
          have epd : pend k (.paint n x y wd hg c) = some { k with marks := paintM k.marks x.toNat y.toNat wd.toNat hg.toNat c } := if_neg (by rw [ehd]; omega)
          rw [epd] at q
          wtm_at "go"
          refine iListT hM1 (fun p np => ?_)
          wtm_at "go"
          have ehg : (y + hg - y).toNat = hg.toNat := by omega
          rw [ehg]
          refine eForR (lo := y) (n := hg.toNat) (fun i σ H' => ∃ ys z14, σ = [some (.ref a), some (.ref la), some (.int k.x), some (.int k.y), some (.int k.rank), some (.bl k.veiled), some (.ref am), some (.str "paint"), some (.int x), some (.int y), some (.int wd), some (.int hg), some (.int c), some (.ref p), z14] ∧ Fr [p] H1 H' ∧ H' p = some (.lst ys) ∧ Paired (RowT K H') ys (paintM k.marks x.toNat y.toNat wd.toNat i c))
            ⟨rs, _, rfl, Fr.new np, upd_same, ?_⟩ ?_ ?_
          · rw [paintM_zero]
            exact pMap hP fun _ _ z => (z.fr (Fr.same (S := []) s1)).fr (Fr.new (S := []) np)
          · rintro i σ H2 hi ⟨ys, z14, rfl, f2, hp2, hys⟩
            have hyi : y.toNat + i < k.marks.length := by omega
            have hyl : ys.length = k.marks.length := by rw [pLen hys, paintM_len]
            obtain ⟨vr, er, ar, rfl, hrr⟩ := pGet hys (paintM_get hyi)
            rw [if_neg (by omega)] at hrr
            have hrl : (k.marks.getD (y.toNat + i) []).length ≤ 12 := by rw [hR.row hyi]; exact hR.w12
            wtm_at "go"
            refine iIxL (SqL.of hp2) (at_of (j := y.toNat + i) (by omega) er) ?_
            wtm_at "go"
            refine iSlA hrr (fun c3 H3 s3 hc3 => ?_)
            rw [show x = ((x.toNat : Nat) : Int) by omega, cut_to] at hc3
            wtm_at "go"
            intro t nt
            wtm_at "go"
            refine iRepA (xs := [.int c]) (SqT.of upd_same) (by simp) hw.1 (by omega) (by simp) (fun c4 H4 s4 hc4 => ?_)
            rw [rep_one] at hc4
            have s34 : Same H3 H4 := (same_new nt).trans s4
            refine iCatA (sqT_same s34 hc3) hc4 ?_ (fun c5 H5 s5 hc5 => ?_)
            · rw [List.length_take, List.length_map, List.length_replicate]
              exact Nat.le_trans (show _ ≤ 24 by omega) (by decide)
            · have s25 : Same H2 H5 := s3.trans (s34.trans s5)
              have hp5 := s25 _ _ hp2
              wtm_at "go"
              refine iIxL (SqL.of hp5) (at_of (j := y.toNat + i) (by omega) er) ?_
              wtm_at "go"
              refine iSlA (sqT_same s25 hrr) (fun c6 H6 s6 hc6 => ?_)
              rw [show x + wd = ((x.toNat + wd.toNat : Nat) : Int) by omega, cut_from] at hc6
              refine iCatA (sqT_same s6 hc5) hc6 ?_ (fun c7 H7 s7 hc7 => ?_)
              · simp only [List.length_append, List.length_take, List.length_map, List.length_replicate, List.length_drop]
                exact Nat.le_trans (show _ ≤ 48 by omega) (by decide)
              · have s27 : Same H2 H7 := s25.trans (s6.trans s7)
                have hp7 := s27 _ _ hp2
                wtm_at "go"
                refine gSetL ⟨_, hp7, y.toNat + i, ixN_nat (by omega) (by omega), ?_⟩
                refine ⟨_, _, rfl, (f2.trans (Fr.same s27)).trans (Fr.set hp7 rfl (by simp)), upd_same, ?_⟩
                have hcv : RowT K H7 (.ref c7) (paintR (k.marks.getD (y.toNat + i) []) x.toNat wd.toNat c) := by
                  refine ⟨c7, rfl, ?_⟩
                  rw [paintR, List.map_append, List.map_append, List.map_take, List.map_replicate, List.map_drop]
                  exact hc7
                rw [← paintM_step hyi]
                exact pMap (pSet hcv (y.toNat + i) (pMap hys fun _ _ z => z.fr (Fr.same (S := []) s27))) fun _ _ z => z.fr (Fr.set (S := [p]) hp7 rfl (by simp))
          · rintro σ H2 ⟨ys, z14, rfl, f2, hp2, hys⟩
            wtm_at "go"
            refine iTupL (SqL.of hp2) (fun t nt => ?_)
            wtm_at "go"
            intro u nu
            have hpn : p ≠ t := (by wtm_at "ne")
            have fF : Fr [p] H1 (upd (upd H2 t (.tup ys)) u (.tup [.int k.x, .int k.y, .int k.rank, .bl k.veiled, .ref t])) := (f2.trans (Fr.new nt)).trans (Fr.new nu)
            refine q _ _ (fun b o e => ?_) ⟨u, .ref t, rfl, SqT.of upd_same, t, ys, rfl, SqT.of (by wtm_at "hp"), pMap hys fun _ _ z => (z.fr (Fr.new (S := []) nt)).fr (Fr.new (S := []) nu)⟩
            refine fF.at_ _ _ (s1 _ _ e) fun z => ?_
            rw [List.mem_singleton.mp z] at e
            rw [s1 _ _ e] at np
            cases np
    | place n x y =>
      have hl : SqT K H la [.str "place", .int n, .int x, .int y] := hl
      wtm_at "go"
      intro t nt
      exact q _ _ (same_new nt) ⟨t, vm, rfl, SqT.of upd_same, hm.fr (Fr.new (S := []) nt)⟩
    | rank n r =>
      have hl : SqT K H la [.str "rank", .int n, .int r] := hl
      wtm_at "go"
      intro t nt
      exact q _ _ (same_new nt) ⟨t, vm, rfl, SqT.of upd_same, hm.fr (Fr.new (S := []) nt)⟩
    | veil n =>
      have hl : SqT K H la [.str "veil", .int n] := hl
      wtm_at "go"
      intro t nt
      exact q _ _ (same_new nt) ⟨t, vm, rfl, SqT.of upd_same, hm.fr (Fr.new (S := []) nt)⟩
    | unveil n =>
      have hl : SqT K H la [.str "unveil", .int n] := hl
      wtm_at "go"
      intro t nt
      exact q _ _ (same_new nt) ⟨t, vm, rfl, SqT.of upd_same, hm.fr (Fr.new (S := []) nt)⟩
    | _ => cases hc
end

/-! ### the law's surfaces in a dict -/
def SfAt (K : PySem.W.Frag) (H : Hp) (d : Addr) (s : Sf) : Prop := ∃ vp vr vs, H d = some (.dK [(.inr "pending", vp), (.inr "ready", vr), (.inr "shown", vs), (.inr "top", oI s.top)]) ∧ LkT K H vp s.pending ∧ OLk K H vr s.ready ∧ OLk K H vs s.shown
abbrev WL_ := List (Int × Addr × Sf)
def wd (L : WL_) : Wd := L.map fun e => (e.1, e.2.2)
def kvW (L : WL_) : List (Key × V) := L.map fun e => (.inl e.1, .ref e.2.1)
structure WAt (K : PySem.W.Frag) (H : Hp) (pw : Addr) (L : WL_) : Prop where
  at_ : H pw = some (.dK (kvW L))
  each : ∀ e ∈ L, SfAt K H e.2.1 e.2.2
  nd : (L.map fun e => e.2.1).Nodup
  nn : (L.map fun e => e.1).Nodup
  ne : ∀ e ∈ L, e.2.1 ≠ pw
  le : L.length ≤ 10
def fpW (pw : Addr) (L : WL_) : List Addr := pw :: L.map fun e => e.2.1
theorem get_find (L : WL_) (n : Int) : (wd L).get n = (L.find? fun e => decide (e.1 = n)).map fun e => e.2.2 := by
  induction L with
  | nil => rfl
  | cons e L ih =>
    show List.lookup n ((e.1, e.2.2) :: wd L) = _
    by_cases h : e.1 = n
    · rw [List.find?_cons_of_pos (by simpa using h), List.lookup_cons, ← h]
      simp
    · rw [List.find?_cons_of_neg (by simpa using h), List.lookup_cons, beq_eq_false_iff_ne.mpr (Ne.symm h)]
      exact ih
theorem val_find (L : WL_) (n : Int) : valV (kvW L) (.inl n) = (L.find? fun e => decide (e.1 = n)).map fun e => V.ref e.2.1 := by
  unfold valV kvW
  induction L with
  | nil => rfl
  | cons e L ih =>
    rw [List.map_cons]
    by_cases h : e.1 = n
    · rw [List.find?_cons_of_pos (by simpa using h), List.find?_cons_of_pos (by simpa using h)]
      rfl
    · rw [List.find?_cons_of_neg (by simpa using h), List.find?_cons_of_neg (by simpa using h)]
      exact ih
theorem wd_names (L : WL_) : (wd L).names = L.map fun e => e.1 := by simp [wd, Wd.names]
theorem kvW_keys (L : WL_) : (kvW L).map (·.1) = ((wd L).names).map Sum.inl := by simp [kvW, wd, Wd.names]
theorem iEqOI {o : Option Int} {n : Int} {H : Hp} {Q : VK} (q : Q (.bl (decide (o = some n))) H) : rEq (oI o) (.int n) H Q := by
  cases o with
  | none => exact iEqNI q
  | some i => exact iEqI (by rw [show decide (i = n) = decide (some i = some n) by simp]; exact q)
theorem iIsOI {o : Option Int} {H : Hp} {Q : VK} (q : Q (.bl o.isNone) H) : rIsNon (oI o) .non H Q := by
  cases o with
  | none => exact iIsNN q
  | some i => exact iIsNI q
theorem iNoOI {o : Option Int} {H : Hp} {Q : VK} (q : Q (.bl o.isSome) H) : rNotNon (oI o) .non H Q := by
  cases o with
  | none => exact iNoNN q
  | some i => exact iNoNI q
theorem iIsOL {K : PySem.W.Frag} {v : V} {o : Option Lk} {H H' : Hp} {Q : VK} (h : OLk K H' v o) (q : Q (.bl o.isNone) H) : rIsNon v .non H Q := by
  cases o with
  | none => cases (show v = .non from h); exact iIsNN q
  | some i => obtain ⟨a, _, rfl, _⟩ := (show LkT K H' v i from h); exact iIsNR q
theorem iNoOL {K : PySem.W.Frag} {v : V} {o : Option Lk} {H H' : Hp} {Q : VK} (h : OLk K H' v o) (q : Q (.bl o.isSome) H) : rNotNon v .non H Q := by
  cases o with
  | none => cases (show v = .non from h); exact iNoNN q
  | some i => obtain ⟨a, _, rfl, _⟩ := (show LkT K H' v i from h); exact iNoNR q
section
variable {K : PySem.W.Frag} {H H' : Hp} {pw : Addr} {L : WL_} {n : Int} {s : Sf}
theorem WAt.get (h : WAt K H pw L) (g : (wd L).get n = some s) : ∃ d, (n, d, s) ∈ L ∧ valV (kvW L) (.inl n) = some (.ref d) ∧ SfAt K H d s := by
  rw [get_find] at g
  cases e : L.find? fun e => decide (e.1 = n) with
  | none => rw [e] at g; cases g
  | some x =>
    rw [e] at g
    have h1 : x.2.2 = s := Option.some.inj g
    have h2 := List.find?_some e
    have h3 : x.1 = n := by simpa using h2
    obtain ⟨a, d, c⟩ := x
    dsimp only at h1 h3
    subst h1 h3
    exact ⟨d, List.mem_of_find?_eq_some e, by rw [val_find, e]; rfl, h.each _ (List.mem_of_find?_eq_some e)⟩
theorem WAt.none (g : (wd L).get n = none) : valV (kvW L) (.inl n) = none := by
  rw [get_find] at g
  rw [val_find]
  cases e : L.find? fun e => decide (e.1 = n) with
  | none => rfl
  | some x => rw [e] at g; cases g
theorem WAt.isSome : (valV (kvW L) (.inl n)).isSome = ((wd L).get n).isSome := by
  rw [get_find, val_find]
  cases L.find? fun e => decide (e.1 = n) <;> rfl
theorem SfAt.fr {S : List Addr} {d : Addr} (f : Fr S H H') (nd : d ∉ S) (h : SfAt K H d s) : SfAt K H' d s := by
  obtain ⟨vp, vr, vs, h1, h2, h3, h4⟩ := h
  exact ⟨vp, vr, vs, f.at_ _ _ h1 nd, h2.fr f, h3.fr f, h4.fr f⟩
theorem WAt.fr {S : List Addr} (f : Fr S H H') (nd : ∀ a ∈ fpW pw L, a ∉ S) (h : WAt K H pw L) : WAt K H' pw L :=
  ⟨f.at_ _ _ h.at_ (nd _ (List.mem_cons_self ..)), fun e he => (h.each e he).fr f (nd _ (List.mem_cons_of_mem _ (List.mem_map_of_mem he))), h.nd, h.nn, h.ne, h.le⟩
theorem WAt.same (f : Same H H') (h : WAt K H pw L) : WAt K H' pw L := h.fr (Fr.same (S := []) f) fun _ _ => List.not_mem_nil
end
def Ht : Nat → Wd → Int → Prop
  | 0, _, _ => False
  | f + 1, W, n => ∀ p ∈ W.parts (some n), Ht f W p
theorem under_ht : ∀ (f g : Nat) (W : Wd) (n : Int), Ht f W n → f ≤ g → under g W n = under f W n
  | 0, _, _, _, h, _ => h.elim
  | f + 1, 0, _, _, _, h => by omega
  | f + 1, g + 1, W, n, h, hg => by
    show n :: _ = n :: _
    congr 1
    rw [List.flatMap_def, List.flatMap_def]
    congr 1
    exact List.map_congr_left fun p hp => under_ht f g W p (h p hp) (by omega)
theorem parts_le (W : Wd) (n : Option Int) : (W.parts n).length ≤ W.length := by
  unfold Wd.parts
  refine Nat.le_trans (List.length_filter_le _ _) ?_
  rw [sortI, List.length_mergeSort, Wd.names, List.length_map]
  exact Nat.le_refl _
theorem flat_le {α β : Type} (f : α → List β) (b : Nat) : ∀ l : List α, (∀ x ∈ l, (f x).length ≤ b) → (l.flatMap f).length ≤ l.length * b
  | [], _ => Nat.zero_le _
  | x :: l, h => by
    rw [List.flatMap_cons, List.length_append, List.length_cons, Nat.succ_mul]
    have h1 := h x (List.mem_cons_self ..)
    have h2 := flat_le f b l fun y hy => h y (List.mem_cons_of_mem _ hy)
    omega
def bU : Nat → Nat
  | 0 => 1
  | f + 1 => 1 + 10 * bU f
theorem under_le : ∀ (f : Nat) (W : Wd) (n : Int), W.length ≤ 10 → (under f W n).length ≤ bU f
  | 0, _, _, _ => Nat.le_refl _
  | f + 1, W, n, h => by
    show (n :: (W.parts (some n)).flatMap (under f W)).length ≤ 1 + 10 * bU f
    rw [List.length_cons]
    have h1 := flat_le (under f W) (bU f) (W.parts (some n)) fun x _ => under_le f W x h
    have h2 := parts_le W (some n)
    have h3 : (W.parts (some n)).length * bU f ≤ 10 * bU f := Nat.mul_le_mul_right _ (by omega)
    omega
theorem bU_mono : ∀ {f g : Nat}, f ≤ g → bU f ≤ bU g
  | 0, 0, _ => Nat.le_refl _
  | 0, g + 1, _ => by show 1 ≤ 1 + _; omega
  | f + 1, 0, h => by omega
  | f + 1, g + 1, h => by
    have := bU_mono (f := f) (g := g) (by omega)
    show 1 + 10 * _ ≤ 1 + 10 * _
    omega
section
variable {P : Program} {w : World} {K : PySem.W.Frag} {mg : Str → Option Value} {base : Heap}
def spUnder (K : PySem.W.Frag) (f : Nat) : Sp := fun vs H Q _ => ∃ pw n L, vs = [.ref pw, .int n] ∧ WAt K H pw L ∧ Ht f (wd L) n ∧ ∀ H' p, Same H H' → H p = none → H' p = some (.lst ((under f (wd L) n).map V.int)) → Q (.ref p) H'
theorem ok_law_underF (T : Tx w K mg) : ∀ f, f ≤ 3 → Cal P w K mg base (f + 1) "_law_under" (spUnder K f) []
  | 0, _ => mk_law_under T (fun vs H Q E h => by obtain ⟨pw, n, L, rfl, _⟩ := h; rfl) (fun cdv A outer s H vs Q E hr h => by obtain ⟨_, _, _, _, _, z, _⟩ := h; exact z.elim)
  | f + 1, hf => by
    have ih := ok_law_underF T f (by omega)
    refine mk_law_under T (fun vs H Q E h => ?_) (fun cdv A outer s H vs Q E hr h => ?_)
    · obtain ⟨pw, n, L, rfl, _⟩ := h
      rfl
    · obtain ⟨pw, n, L, rfl, hW, hT, q⟩ := h
      refine ⟨_, (pss_cons (ps_set (i := 2) sc_law_under.nd rfl (.inl rfl) (pe_lst (pa_cons (pv 1) pa_nil)))
  (pss_cons (ps_for PassesOwn.never rfl (pi_list (pe_callB (c_sorDI rfl) (by rfl) (f_sorted T) (by decide +kernel) (pa_cons (pv 0) pa_nil))) (pg_name (i := 3) sc_law_under.nd rfl (.inl rfl)) (pss_one (ps_if (pt_cmpR op_eq (pe_dget (hu_of hr) (pe_dget (hu_of hr) (pv 0) (pv 3) (fun _ _ => rfl)) pe_str (fun _ _ => rfl)) (pv 1) (nomark _)) (pss_one (ps_set (i := 2) sc_law_under.nd rfl (.inl rfl) (pe_op op_cat (pv 2) (pe_c ih hr (by omega) rfl (pa_cons (pv 0) (pa_cons (pv 3) pa_nil)))))) pss_nil)))
  (pss_one (ps_ret (pv 2))))), ?_⟩
      rw [st_law_under]
      wtm_at "go"
      intro p np
      wtm_at "go"
      refine gSorDI (ks := (wd L).names) (by rw [upd_ne (ne_of_none hW.at_ np)]; exact hW.at_) (kvW_keys L) (by rw [wd_names, List.length_map]; have := hW.le; omega) (fun ps nps => ?_)
      wtm_at "go"
      refine eForL (xs := (sortI (wd L).names).map V.int) (fun i σ H' => ∃ l y, σ = [some (.ref pw), some (.int n), some (.ref l), y] ∧ Same H H' ∧ H l = none ∧ H' ps = some (.lst ((sortI (wd L).names).map V.int)) ∧ H' l = some (.lst ((n :: (((sortI (wd L).names).take i).filter fun p => decide (((wd L).get p).map (·.top) = some (some n))).flatMap (under f (wd L))).map V.int)))
        ⟨p, _, rfl, (same_new np).trans (same_new nps), np, upd_same, ?_⟩ ?_ ?_ ?_
      · rw [upd_ne (ne_of_none upd_same nps)]
        exact upd_same
      · rintro i σ H1 _ ⟨l, y, rfl, sm, nl, hps, hl⟩
        exact SqL.of hps
      · rintro i x σ H1 hx ⟨l, y, rfl, sm, nl, hps, hl⟩
        obtain ⟨m, em, rfl⟩ : ∃ m, (sortI (wd L).names)[i]? = some m ∧ x = V.int m := by
          rw [List.getElem?_map] at hx
          cases e : (sortI (wd L).names)[i]? with
          | none => rw [e] at hx; cases hx
          | some c => rw [e] at hx; exact ⟨c, rfl, (Option.some.inj hx).symm⟩
        have hmem : m ∈ (wd L).names := (List.mergeSort_perm _ _).mem_iff.mp (List.mem_of_getElem? em)
        have W1 := hW.same sm
        obtain ⟨sf, gs⟩ : ∃ sf, (wd L).get m = some sf := by
          cases e : (wd L).get m with
          | some sf => exact ⟨sf, rfl⟩
          | none => exact absurd hmem (by rw [Wd.get, List.lookup_eq_none_iff] at e; rw [Wd.names, List.mem_map]; rintro ⟨z, hz, rfl⟩; have := e z hz; simp at this)
        obtain ⟨d, _, ev, vp, vr, vs, hd, _, _, _⟩ := W1.get gs
        have htk : ((sortI (wd L).names).take (i + 1)) = ((sortI (wd L).names).take i) ++ [m] := take_succ em
        wtm_at "go"
        refine iDGI W1.at_ ev ?_
        wtm_at "go"
        refine iDGS (v := oI sf.top) hd rfl ?_
        wtm_at "go"
        refine iEqOI ?_
        wtm_at "go"
        first | refine iteD (fun e => ?_) (fun e => ?_) | refine iteN (fun e => ?_) (fun e => ?_) | refine ite2 (fun e => ?_) (fun e => ?_)
        · have hp : m ∈ (wd L).parts (some n) := List.mem_filter.mpr ⟨List.mem_of_getElem? em, by rw [gs]; simp [e]⟩
          wtm_at "go"
          refine ⟨pw, m, L, rfl, W1, hT m hp, fun H2 r s2 nr hr2 => ?_⟩
          have hl2 := s2 _ _ hl
          refine gCat ⟨_, hl2, _, hr2, ?_, fun c nc => ?_⟩
          · rw [List.length_map, List.length_map]
            have a1 := under_le f (wd L) m (by rw [wd, List.length_map]; exact hW.le)
            have a2 := flat_le (under f (wd L)) (bU f) (((sortI (wd L).names).take i).filter fun p => decide (((wd L).get p).map (·.top) = some (some n))) fun x _ => under_le f (wd L) x (by rw [wd, List.length_map]; exact hW.le)
            have a3 : (((sortI (wd L).names).take i).filter fun p => decide (((wd L).get p).map (·.top) = some (some n))).length ≤ 10 := by
              refine Nat.le_trans (List.length_filter_le _ _) (Nat.le_trans (by rw [List.length_take]; exact Nat.min_le_right _ _) ?_)
              rw [sortI, List.length_mergeSort, wd_names, List.length_map]
              exact hW.le
            have a4 := Nat.mul_le_mul_right (bU f) a3
            have a5 : bU f ≤ bU 3 := bU_mono (by omega)
            have a6 : bU 3 = 1111 := by decide
            rw [List.length_cons]
            exact Nat.le_trans (show _ ≤ 20000 by omega) (by decide)
          · wtm_at "go"
            have s3 := same_new (o := .lst (((n :: (((sortI (wd L).names).take i).filter fun p => decide (((wd L).get p).map (·.top) = some (some n))).flatMap (under f (wd L))).map V.int) ++ (under f (wd L) m).map V.int)) nc
            refine ⟨c, _, rfl, sm.trans (s2.trans s3), (sm.trans s2).free nc, s3 _ _ (s2 _ _ hps), ?_⟩
            rw [upd_same, htk, List.filter_append, List.flatMap_append, ← List.map_append]
            simp [gs, e]
        · wtm_at "go"
          refine ⟨l, _, rfl, sm, nl, hps, ?_⟩
          rw [hl, htk, List.filter_append]
          simp [gs, e]
      · rintro σ H1 ⟨l, y, rfl, sm, nl, hps, hl⟩
        wtm_at "go"
        refine q _ _ sm nl ?_
        rw [hl, List.length_map, List.take_of_length_le (Nat.le_refl _)]
        rfl
theorem ok_law_under (T : Tx w K mg) : Cal P w K mg base 4 "_law_under" (spUnder K 3) [] := ok_law_underF T 3 (by omega)
end

/-! ### surfaces that can be -/
structure LkOk (l : Lk) : Prop where
  r : Rect l.marks
  x : -20 ≤ l.x ∧ l.x ≤ 20
  y : -20 ≤ l.y ∧ l.y ≤ 20
  k : 0 ≤ l.rank ∧ l.rank ≤ 9
structure SfOk (s : Sf) : Prop where
  p : LkOk s.pending
  r : ∀ l, s.ready = some l → LkOk l
  s : ∀ l, s.shown = some l → LkOk l
structure WfW (W : Wd) : Prop where
  nm : ∀ e ∈ W, Nm e.1
  nd : W.names.Nodup
  top : ∀ n s t, W.get n = some s → s.top = some t → ∃ s', W.get t = some s' ∧ (s'.top = none ∨ ∃ u s'', s'.top = some u ∧ W.get u = some s'' ∧ s''.top = none)
  ok : ∀ n s, W.get n = some s → SfOk s
theorem get_mem {W : Wd} {n : Int} {s : Sf} (h : W.get n = some s) : (n, s) ∈ W := by
  unfold Wd.get at h
  induction W with
  | nil => cases h
  | cons e W ih =>
    rw [List.lookup_cons] at h
    cases q : (n == e.1) with
    | true =>
      rw [q] at h
      have h2 : e.2 = s := Option.some.inj h
      have h3 : n = e.1 := eq_of_beq q
      rw [h3, ← h2]
      exact List.mem_cons_self ..
    | false =>
      rw [q] at h
      exact List.mem_cons_of_mem _ (ih h)
theorem get_name {W : Wd} {n : Int} {s : Sf} (h : W.get n = some s) : n ∈ W.names := List.mem_map_of_mem (f := (·.1)) (get_mem h)
theorem name_get {W : Wd} {n : Int} (h : n ∈ W.names) : ∃ s, W.get n = some s := by
  cases e : W.get n with
  | some s => exact ⟨s, rfl⟩
  | none =>
    rw [Wd.get, List.lookup_eq_none_iff] at e
    rw [Wd.names, List.mem_map] at h
    obtain ⟨z, hz, rfl⟩ := h
    have := e z hz
    simp at this
theorem get_put {W : Wd} {n m : Int} {f : Sf → Sf} : (W.put n f).get m = if m = n then (W.get m).map f else W.get m := by
  induction W with
  | nil => simp [Wd.put, Wd.get]
  | cons e W ih =>
    have ih2 : List.lookup m (List.map (fun e => if e.1 = n then (e.1, f e.2) else e) W) = if m = n then (List.lookup m W).map f else List.lookup m W := ih
    show List.lookup m ((if e.1 = n then (e.1, f e.2) else e) :: List.map _ W) = if m = n then (List.lookup m (e :: W)).map f else List.lookup m (e :: W)
    by_cases h : e.1 = n
    · rw [if_pos h, List.lookup_cons, List.lookup_cons, ih2]
      by_cases h2 : m = n
      · rw [if_pos h2, if_pos h2]
        have : (m == e.1) = true := by rw [h, h2]; simp
        rw [this]
        rfl
      · rw [if_neg h2, if_neg h2]
        have : (m == e.1) = false := beq_eq_false_iff_ne.mpr (by rw [h]; exact h2)
        rw [this]
    · rw [if_neg h, List.lookup_cons, ih2]
      by_cases h2 : m = n
      · rw [if_pos h2, if_pos h2]
        have : (m == e.1) = false := beq_eq_false_iff_ne.mpr (by rw [h2]; exact Ne.symm h)
        rw [List.lookup_cons, this]
      · rw [if_neg h2, if_neg h2, List.lookup_cons]
theorem names_put (W : Wd) (n : Int) (f : Sf → Sf) : (W.put n f).names = W.names := by
  unfold Wd.put Wd.names
  rw [List.map_map]
  refine List.map_congr_left fun e _ => ?_
  show (if e.1 = n then (e.1, f e.2) else e).1 = e.1
  split <;> rfl
theorem get_del {W : Wd} {n m : Int} : (W.del n).get m = if m = n then none else W.get m := by
  induction W with
  | nil => simp [Wd.del, Wd.get]
  | cons e W ih =>
    have ih2 : List.lookup m (W.filter fun e => decide (e.1 ≠ n)) = if m = n then none else List.lookup m W := ih
    show List.lookup m (List.filter _ (e :: W)) = if m = n then none else List.lookup m (e :: W)
    by_cases h : e.1 = n
    · rw [List.filter_cons_of_neg (by simpa using h), ih2]
      by_cases h2 : m = n
      · rw [if_pos h2, if_pos h2]
      · rw [if_neg h2, if_neg h2, List.lookup_cons, beq_eq_false_iff_ne.mpr (by rw [h]; exact h2)]
    · rw [List.filter_cons_of_pos (by simpa using h), List.lookup_cons, List.lookup_cons, ih2]
      by_cases h2 : m = n
      · rw [if_pos h2, if_pos h2, beq_eq_false_iff_ne.mpr (by rw [h2]; exact Ne.symm h)]
      · rw [if_neg h2, if_neg h2]
theorem names_del (W : Wd) (n : Int) : (W.del n).names = W.names.filter fun m => decide (m ≠ n) := by
  unfold Wd.del Wd.names
  rw [List.filter_map]
  rfl
theorem le_of_nodup : ∀ (n : Nat) (l : List Int), l.Nodup → (∀ x ∈ l, 0 ≤ x ∧ x < (n : Int)) → l.length ≤ n
  | 0, l, _, h => by
    cases l with
    | nil => exact Nat.le_refl _
    | cons x l => have := h x (List.mem_cons_self ..); omega
  | n + 1, l, hd, h => by
    by_cases hm : (n : Int) ∈ l
    · have h1 := le_of_nodup n (l.erase (n : Int)) (hd.erase _) fun x hx => by
        have h2 := h x (List.mem_of_mem_erase hx)
        have h3 : x ≠ (n : Int) := fun e => by
          rw [e] at hx
          exact (List.Nodup.not_mem_erase hd) hx
        omega
      rw [List.length_erase_of_mem hm] at h1
      omega
    · have := le_of_nodup n l hd fun x hx => by
        have h2 := h x hx
        have h3 : x ≠ (n : Int) := fun e => hm (by rw [← e]; exact hx)
        omega
      omega
section
variable {W : Wd}
theorem WfW.le (h : WfW W) : W.length ≤ 10 := by
  have := le_of_nodup 10 W.names h.nd fun x hx => by
    obtain ⟨s, hs⟩ := name_get hx
    have := h.nm _ (get_mem hs)
    unfold Nm at this
    omega
  rw [Wd.names, List.length_map] at this
  exact this
theorem mem_parts {n : Option Int} {p : Int} : p ∈ W.parts n ↔ ∃ s, W.get p = some s ∧ s.top = n := by
  unfold Wd.parts
  rw [List.mem_filter, sortI, (List.mergeSort_perm _ _).mem_iff]
  constructor
  · rintro ⟨_, h⟩
    have h2 := of_decide_eq_true h
    cases e : W.get p with
    | none => rw [e] at h2; cases h2
    | some s => rw [e] at h2; exact ⟨s, rfl, Option.some.inj h2⟩
  · rintro ⟨s, h1, h2⟩
    exact ⟨get_name h1, by rw [h1, ← h2]; simp⟩
theorem WfW.ht (h : WfW W) (n : Int) : Ht 3 W n := by
  intro p hp q hq r hr
  obtain ⟨sp, gp, tp⟩ := mem_parts.mp hp
  obtain ⟨sq, gq, tq⟩ := mem_parts.mp hq
  obtain ⟨sr, gr, tr⟩ := mem_parts.mp hr
  obtain ⟨s', g', h'⟩ := h.top r sr q gr tr
  rw [gq] at g'
  cases g'
  rcases h' with e | ⟨u, s'', e1, e2, e3⟩
  · rw [tq] at e; cases e
  · rw [tq] at e1
    cases e1
    rw [gp] at e2
    cases e2
    rw [tp] at e3
    cases e3
/-- how deep a surface lies -/
def Wd.dep (W : Wd) (n : Int) : Nat := match (W.get n).bind (·.top) with
  | none => 0
  | some t => match (W.get t).bind (·.top) with
    | none => 1
    | some _ => 2
theorem WfW.dep (h : WfW W) {p t : Int} {s : Sf} (g : W.get p = some s) (e : s.top = some t) : W.dep p = W.dep t + 1 := by
  obtain ⟨s', g', h'⟩ := h.top p s t g e
  have a : W.dep p = match s'.top with | none => 1 | some _ => 2 := by
    unfold Wd.dep
    rw [g]
    show (match s.top with | none => 0 | some t => match (W.get t).bind (·.top) with | none => 1 | some _ => 2) = _
    rw [e]
    show (match (W.get t).bind (·.top) with | none => 1 | some _ => 2) = _
    rw [g']
    rfl
  rcases h' with e1 | ⟨u, s'', e1, e2, e3⟩
  · rw [a, e1]
    unfold Wd.dep
    rw [g']
    show _ = (match s'.top with | none => 0 | some t => match (W.get t).bind (·.top) with | none => 1 | some _ => 2) + 1
    rw [e1]
  · rw [a, e1]
    unfold Wd.dep
    rw [g']
    show _ = (match s'.top with | none => 0 | some t => match (W.get t).bind (·.top) with | none => 1 | some _ => 2) + 1
    rw [e1]
    show _ = (match (W.get u).bind (·.top) with | none => 1 | some _ => 2) + 1
    rw [e2]
    show _ = (match s''.top with | none => 1 | some _ => 2) + 1
    rw [e3]
theorem under_cons (f : Nat) (W : Wd) (n : Int) : ∃ r, under f W n = n :: r := by
  cases f with
  | zero => exact ⟨[], rfl⟩
  | succ f => exact ⟨_, rfl⟩
theorem under_self (f : Nat) (W : Wd) (n : Int) : n ∈ under f W n := by
  obtain ⟨r, e⟩ := under_cons f W n
  rw [e]
  exact List.mem_cons_self ..
/-- who is under n: n itself, or a surface whose top is -/
theorem under_up : ∀ (f : Nat) (n x : Int), x ∈ under f W n → x = n ∨ ∃ s t, W.get x = some s ∧ s.top = some t ∧ t ∈ under f W n
  | 0, n, x, h => .inl (List.mem_singleton.mp h)
  | f + 1, n, x, h => by
    rcases List.mem_cons.mp h with e | h
    · exact .inl e
    · obtain ⟨p, hp, hx⟩ := List.mem_flatMap.mp h
      rcases under_up f p x hx with e | ⟨s, t, e1, e2, e3⟩
      · subst e
        obtain ⟨s, g, t⟩ := mem_parts.mp hp
        exact .inr ⟨s, n, g, t, List.mem_cons_self ..⟩
      · exact .inr ⟨s, t, e1, e2, List.mem_cons_of_mem _ (List.mem_flatMap.mpr ⟨p, hp, e3⟩)⟩
theorem under_down : ∀ (f : Nat) (n x t : Int) (s : Sf), Ht f W n → t ∈ under f W n → W.get x = some s → s.top = some t → x ∈ under f W n
  | 0, _, _, _, _, h, _, _, _ => h.elim
  | f + 1, n, x, t, s, h, ht, g, e => by
    rcases List.mem_cons.mp ht with e1 | ht
    · subst e1
      exact List.mem_cons_of_mem _ (List.mem_flatMap.mpr ⟨x, mem_parts.mpr ⟨s, g, e⟩, under_self ..⟩)
    · obtain ⟨p, hp, hx⟩ := List.mem_flatMap.mp ht
      exact List.mem_cons_of_mem _ (List.mem_flatMap.mpr ⟨p, hp, under_down f p x t s (h p hp) hx g e⟩)
theorem WfW.dep_under (h : WfW W) : ∀ (f : Nat) (n x : Int), x ∈ under f W n → x = n ∨ W.dep n < W.dep x
  | 0, n, x, hx => .inl (List.mem_singleton.mp hx)
  | f + 1, n, x, hx => by
    rcases List.mem_cons.mp hx with e | hx
    · exact .inl e
    · obtain ⟨p, hp, hx⟩ := List.mem_flatMap.mp hx
      obtain ⟨s, g, t⟩ := mem_parts.mp hp
      have h1 := h.dep g t
      rcases h.dep_under f p x hx with e | e
      · subst e
        exact .inr (by omega)
      · exact .inr (by omega)
theorem WfW.apart (h : WfW W) {f : Nat} {n p q : Int} (hp : p ∈ W.parts (some n)) (hq : q ∈ W.parts (some n)) (ne : p ≠ q) : ∀ (k : Nat) (x : Int), W.dep x = k → x ∈ under f W p → x ∈ under f W q → False := by
  obtain ⟨sp, gp, tp⟩ := mem_parts.mp hp
  obtain ⟨sq, gq, tq⟩ := mem_parts.mp hq
  have dp := h.dep gp tp
  have dq := h.dep gq tq
  intro k
  induction k using Nat.strongRecOn with
  | _ k ih =>
    intro x hk h1 h2
    rcases under_up f p x h1 with e | ⟨s, t, e1, e2, e3⟩
    · subst e
      rcases under_up f q x h2 with e | ⟨s, t, e1, e2, e3⟩
      · exact ne e
      · rw [gp] at e1
        cases e1
        rw [tp] at e2
        cases e2
        rcases h.dep_under f q n e3 with z | z
        · have := congrArg W.dep z
          omega
        · omega
    · rcases under_up f q x h2 with e | ⟨s2, t2, f1, f2, f3⟩
      · subst e
        rw [gq] at e1
        cases e1
        rw [tq] at e2
        cases e2
        rcases h.dep_under f p n e3 with z | z
        · have := congrArg W.dep z
          omega
        · omega
      · rw [e1] at f1
        cases f1
        rw [e2] at f2
        cases f2
        have := h.dep e1 e2
        exact ih (W.dep t) (by omega) t rfl e3 f3
theorem WfW.parts_nodup (h : WfW W) (n : Option Int) : (W.parts n).Nodup := by
  unfold Wd.parts sortI
  exact List.Pairwise.filter _ ((List.mergeSort_perm _ _).nodup_iff.mpr h.nd)
theorem WfW.under_nodup (h : WfW W) : ∀ (f : Nat) (n : Int), (under f W n).Nodup
  | 0, n => by simp [under]
  | f + 1, n => by
    refine List.nodup_cons.mpr ⟨fun hm => ?_, ?_⟩
    · obtain ⟨p, hp, hx⟩ := List.mem_flatMap.mp hm
      obtain ⟨s, g, t⟩ := mem_parts.mp hp
      have h1 := h.dep g t
      rcases h.dep_under f p n hx with e | e
      · have := congrArg W.dep e
        omega
      · omega
    · refine List.pairwise_flatMap.mpr ⟨fun p _ => h.under_nodup f p, ?_⟩
      refine List.Pairwise.imp_of_mem ?_ (h.parts_nodup (some n))
      intro p q hp hq ne x hx y hy e
      subst e
      exact h.apart hp hq ne _ x rfl hx hy
theorem under_names (f : Nat) {n x : Int} (hn : n ∈ W.names) (h : x ∈ under f W n) : x ∈ W.names := by
  rcases under_up f n x h with e | ⟨s, t, e, _⟩
  · rw [e]; exact hn
  · exact get_name e
end
/-! dropped -/
theorem get_dels : ∀ (l : List Int) (W : Wd) (m : Int), (l.foldl (fun V p => V.del p) W).get m = if m ∈ l then none else W.get m
  | [], W, m => by simp
  | p :: l, W, m => by
    rw [List.foldl_cons, get_dels l (W.del p) m, get_del]
    by_cases h : m ∈ l
    · rw [if_pos h, if_pos (List.mem_cons_of_mem _ h)]
    · rw [if_neg h]
      by_cases h2 : m = p
      · rw [if_pos h2, if_pos (by rw [h2]; exact List.mem_cons_self ..)]
      · rw [if_neg h2, if_neg (by simp [h2, h])]
theorem names_dels : ∀ (l : List Int) (W : Wd), (l.foldl (fun V p => V.del p) W).names = W.names.filter fun m => decide (m ∉ l)
  | [], W => by
    show W.names = _
    rw [List.filter_eq_self.mpr]
    intro a _
    simp
  | p :: l, W => by
    rw [List.foldl_cons, names_dels l (W.del p), names_del, List.filter_filter]
    congr 1
    funext m
    simp [Bool.and_comm]
theorem nm_of_names {W : Wd} (h : ∀ n ∈ W.names, Nm n) : ∀ e ∈ W, Nm e.1 := fun e he => h e.1 (List.mem_map_of_mem (f := (·.1)) he)
theorem WfW.names_nm {W : Wd} (h : WfW W) : ∀ n ∈ W.names, Nm n := fun n hn => by
  obtain ⟨s, hs⟩ := name_get hn
  exact h.nm _ (get_mem hs)
theorem WfW.drop {W : Wd} (h : WfW W) (n : Int) : WfW (doDrop W n) := by
  have hg : ∀ m, (doDrop W n).get m = if m ∈ under 3 W n then none else W.get m := get_dels _ W
  have hn : (doDrop W n).names = _ := names_dels (under 3 W n) W
  have gg : ∀ m s, (doDrop W n).get m = some s → m ∉ under 3 W n ∧ W.get m = some s := fun m s e => by
    rw [hg] at e
    by_cases hm : m ∈ under 3 W n
    · rw [if_pos hm] at e; cases e
    · rw [if_neg hm] at e; exact ⟨hm, e⟩
  have up : ∀ m s t, m ∉ under 3 W n → W.get m = some s → s.top = some t → t ∉ under 3 W n := fun m s t hm g e ht => hm (under_down 3 n m t s (h.ht n) ht g e)
  refine ⟨nm_of_names fun m hm => h.names_nm m (by rw [hn] at hm; exact (List.mem_filter.mp hm).1), by rw [hn]; exact List.Pairwise.filter _ h.nd, fun m s t g e => ?_, fun m s g => h.ok m s (gg m s g).2⟩
  obtain ⟨hm, g⟩ := gg m s g
  obtain ⟨s', g', h'⟩ := h.top m s t g e
  have ht := up m s t hm g e
  refine ⟨s', by rw [hg, if_neg ht]; exact g', ?_⟩
  rcases h' with e1 | ⟨u, s'', e1, e2, e3⟩
  · exact .inl e1
  · exact .inr ⟨u, s'', e1, by rw [hg, if_neg (up t s' u ht g' e1)]; exact e2, e3⟩
/-- a change that leaves whose part a surface is -/
theorem WfW.put {W : Wd} (h : WfW W) {n : Int} {f : Sf → Sf} (ht : ∀ s, W.get n = some s → (f s).top = s.top) (hk : ∀ s, W.get n = some s → SfOk s → SfOk (f s)) : WfW (W.put n f) := by
  have gt : ∀ m s, (W.put n f).get m = some s → ∃ s0, W.get m = some s0 ∧ s.top = s0.top := fun m s g => by
    rw [get_put] at g
    by_cases e : m = n
    · rw [if_pos e] at g
      obtain ⟨s0, g0, e0⟩ := Option.map_eq_some_iff.mp g
      exact ⟨s0, g0, by rw [← e0]; exact ht s0 (by rw [← e]; exact g0)⟩
    · rw [if_neg e] at g
      exact ⟨s, g, rfl⟩
  have tg : ∀ m s0, W.get m = some s0 → ∃ s, (W.put n f).get m = some s ∧ s.top = s0.top := fun m s0 g => by
    rw [get_put]
    by_cases e : m = n
    · rw [if_pos e, g]
      exact ⟨f s0, rfl, ht s0 (by rw [← e]; exact g)⟩
    · rw [if_neg e]
      exact ⟨s0, g, rfl⟩
  refine ⟨nm_of_names (by rw [names_put]; exact h.names_nm), by rw [names_put]; exact h.nd, fun m s t g e => ?_, fun m s g => ?_⟩
  · obtain ⟨s0, g0, e0⟩ := gt m s g
    obtain ⟨s', g', h'⟩ := h.top m s0 t g0 (by rw [← e0]; exact e)
    obtain ⟨s1, g1, e1⟩ := tg t s' g'
    refine ⟨s1, g1, ?_⟩
    rcases h' with e2 | ⟨u, s'', e2, e3, e4⟩
    · exact .inl (by rw [e1]; exact e2)
    · obtain ⟨s2, g2, e5⟩ := tg u s'' e3
      exact .inr ⟨u, s2, by rw [e1]; exact e2, g2, by rw [e5]; exact e4⟩
  · rw [get_put] at g
    by_cases e : m = n
    · rw [if_pos e] at g
      obtain ⟨s0, g0, e0⟩ := Option.map_eq_some_iff.mp g
      rw [← e0]
      exact hk s0 (by rw [← e]; exact g0) (h.ok m s0 g0)
    · rw [if_neg e] at g
      exact h.ok m s g
theorem rect_sized (m : List (List Int)) {w h : Nat} (hw : 1 ≤ w ∧ w ≤ 12) (hh : 1 ≤ h ∧ h ≤ 8) : Rect (sized m w h) := by
  have hl : ∀ r ∈ sized m w h, r.length = w := fun r hr => by
    obtain ⟨y, _, rfl⟩ := List.mem_map.mp hr
    unfold sizedR
    rw [List.length_take, List.length_append, List.length_replicate]
    omega
  have h0 : (sized m w h).length = h := by simp [sized]
  have hd : ((sized m w h).headD []).length = w := by
    cases e : sized m w h with
    | nil => rw [e] at h0; simp at h0; omega
    | cons r rs => exact hl r (by rw [e]; exact List.mem_cons_self ..)
  exact ⟨by omega, by omega, by omega, by omega, fun r hr => by rw [hl r hr, hd]⟩
theorem rect_paint {m : List (List Int)} (r : Rect m) {x y w h : Nat} {c : Int} (hx : x + w ≤ (m.headD []).length) : Rect (paintM m x y w h c) := by
  have hl : ∀ q ∈ paintM m x y w h c, q.length = (m.headD []).length := fun q hq => by
    obtain ⟨k, hk, rfl⟩ := List.mem_map.mp hq
    have hk2 := List.mem_range.mp hk
    have hr := r.row hk2
    show (if y ≤ k ∧ k < y + h then paintR (m.getD k []) x w c else m.getD k []).length = _
    split
    · unfold paintR
      rw [List.length_append, List.length_append, List.length_take, List.length_replicate, List.length_drop, hr]
      omega
    · exact hr
  have h0 : (paintM m x y w h c).length = m.length := paintM_len ..
  have hd : ((paintM m x y w h c).headD []).length = (m.headD []).length := by
    cases e : paintM m x y w h c with
    | nil => rw [e] at h0; have := r.h1; simp at h0; omega
    | cons q qs => exact hl q (by rw [e]; exact List.mem_cons_self ..)
  exact ⟨by rw [h0]; exact r.h1, by rw [h0]; exact r.h8, by rw [hd]; exact r.w1, by rw [hd]; exact r.w12, fun q hq => by rw [hl q hq, hd]⟩
theorem pend_ok {l k : Lk} {t : Lt} (h : LkOk l) (ht : t.ok) (hc : t.chg = true) (e : pend l t = some k) : LkOk k := by
  cases t with
  | size n w hg =>
    obtain ⟨_, h1, h2⟩ := ht
    cases e
    exact ⟨rect_sized _ (by omega) (by omega), h.x, h.y, h.k⟩
  | paint n x y w hg c =>
    obtain ⟨_, hx, hy, h1, h2, _⟩ := ht
    have e : (if x + w > ((l.marks.headD []).length : Int) ∨ y + hg > (l.marks.length : Int) then none else some { l with marks := paintM l.marks x.toNat y.toNat w.toNat hg.toNat c }) = some k := e
    by_cases g : x + w > ((l.marks.headD []).length : Int) ∨ y + hg > (l.marks.length : Int)
    · rw [if_pos g] at e; cases e
    · rw [if_neg g] at e
      cases e
      exact ⟨rect_paint h.r (by omega), h.x, h.y, h.k⟩
  | place n x y =>
    obtain ⟨_, h1, h2⟩ := ht
    cases e
    exact ⟨h.r, h1, h2, h.k⟩
  | rank n r =>
    obtain ⟨_, h1⟩ := ht
    cases e
    exact ⟨h.r, h.x, h.y, h1⟩
  | veil n => cases e; exact ⟨h.r, h.x, h.y, h.k⟩
  | unveil n => cases e; exact ⟨h.r, h.x, h.y, h.k⟩
  | _ => cases hc
theorem new_ok : SfOk Sf.new := by
  refine ⟨⟨⟨?_, ?_, ?_, ?_, ?_⟩, ?_, ?_, ?_⟩, fun l e => ?_, fun l e => ?_⟩ <;> first | (cases e; done) | decide | (intro r hr; simp [Sf.new, Lk.new] at hr ⊢; rw [hr]; rfl)
theorem WfW.make {W : Wd} (h : WfW W) {n : Int} (hn : Nm n) (g : W.get n = none) : WfW (W ++ [(n, Sf.new)]) := by
  have nin : n ∉ W.names := fun q => by
    obtain ⟨s, e⟩ := name_get q
    rw [g] at e
    cases e
  have ga : ∀ m, (W ++ [(n, Sf.new)] : Wd).get m = if m = n then some Sf.new else W.get m := fun m => by
    unfold Wd.get
    rw [List.lookup_append]
    by_cases e : m = n
    · rw [if_pos e, e]
      have g2 : List.lookup n W = none := g
      rw [g2]
      simp
    · rw [if_neg e]
      cases q : List.lookup m W with
      | some s => rfl
      | none => simp [beq_eq_false_iff_ne.mpr e, List.lookup]
  have keep : ∀ m s, W.get m = some s → (W ++ [(n, Sf.new)] : Wd).get m = some s := fun m s q => by
    rw [ga, if_neg (fun e => by rw [e, g] at q; cases q)]
    exact q
  refine ⟨fun e he => ?_, ?_, fun m s t q e => ?_, fun m s q => ?_⟩
  · rcases List.mem_append.mp he with he | he
    · exact h.nm e he
    · rw [List.mem_singleton.mp he]; exact hn
  · unfold Wd.names
    rw [List.map_append, List.nodup_append]
    refine ⟨h.nd, by simp, fun a ha b hb e => ?_⟩
    rw [List.mem_singleton.mp (show b ∈ [n] from hb)] at e
    rw [e] at ha
    exact nin ha
  · rw [ga] at q
    by_cases em : m = n
    · rw [if_pos em] at q
      cases q
      cases e
    · rw [if_neg em] at q
      obtain ⟨s', g', h'⟩ := h.top m s t q e
      refine ⟨s', keep _ _ g', ?_⟩
      rcases h' with e1 | ⟨u, s'', e1, e2, e3⟩
      · exact .inl e1
      · exact .inr ⟨u, s'', e1, keep _ _ e2, e3⟩
  · rw [ga] at q
    by_cases em : m = n
    · rw [if_pos em] at q
      cases q
      exact new_ok
    · rw [if_neg em] at q
      exact h.ok m s q
theorem WfW.tie {W : Wd} (h : WfW W) {n o : Int} (t : mayTie W n o = true) : WfW (W.put n fun s => { s with top := some o }) := by
  unfold mayTie at t
  cases gn : W.get n with
  | none => rw [gn] at t; cases t
  | some sn =>
    cases go : W.get o with
    | none => rw [gn, go] at t; cases t
    | some so =>
      rw [gn, go] at t
      simp only [Bool.and_eq_true, Bool.not_eq_true', decide_eq_false_iff_not, Option.isNone_iff_eq_none, List.isEmpty_iff] at t
      obtain ⟨⟨⟨⟨⟨ne, _⟩, _⟩, t1⟩, t2⟩, t3⟩ := t
      have gp : ∀ m, (W.put n fun s => { s with top := some o }).get m = if m = n then some { sn with top := some o } else W.get m := fun m => by
        rw [get_put]
        by_cases e : m = n
        · rw [if_pos e, if_pos e, e, gn]; rfl
        · rw [if_neg e, if_neg e]
      have noT : ∀ m s, W.get m = some s → s.top ≠ some n := fun m s g e => by
        have : m ∈ W.parts (some n) := mem_parts.mpr ⟨s, g, e⟩
        rw [t2] at this
        cases this
      refine ⟨nm_of_names (by rw [names_put]; exact h.names_nm), by rw [names_put]; exact h.nd, fun m s t g e => ?_, fun m s g => ?_⟩
      · rw [gp] at g
        by_cases em : m = n
        · rw [if_pos em] at g
          cases g
          cases e
          refine ⟨so, by rw [gp, if_neg (Ne.symm ne)]; exact go, ?_⟩
          cases eo : so.top with
          | none => exact .inl rfl
          | some u =>
            rw [eo] at t3
            have t3 : (match W.get u with | some s' => s'.top.isNone | none => false) = true := t3
            cases gu : W.get u with
            | none =>
              rw [gu] at t3
              cases t3
            | some su =>
              rw [gu] at t3
              refine .inr ⟨u, su, rfl, ?_, Option.isNone_iff_eq_none.mp t3⟩
              rw [gp, if_neg (fun z => noT o so go (by rw [eo, z]))]
              exact gu
        · rw [if_neg em] at g
          obtain ⟨s', g', h'⟩ := h.top m s t g e
          have tn : t ≠ n := fun z => noT m s g (by rw [e, z])
          refine ⟨s', by rw [gp, if_neg tn]; exact g', ?_⟩
          rcases h' with e1 | ⟨u, s'', e1, e2, e3⟩
          · exact .inl e1
          · refine .inr ⟨u, s'', e1, ?_, e3⟩
            rw [gp, if_neg (fun z => noT t s' g' (by rw [e1, z]))]
            exact e2
      · rw [gp] at g
        by_cases em : m = n
        · rw [if_pos em] at g
          cases g
          have k := h.ok n sn gn
          exact ⟨k.p, k.r, k.s⟩
        · rw [if_neg em] at g
          exact h.ok m s g
theorem SfOk.shw {s : Sf} (h : SfOk s) : SfOk { s with ready := some s.pending } := ⟨h.p, fun l e => by cases e; exact h.p, h.s⟩
theorem WfW.shows {W : Wd} : ∀ (l : List Int) {W : Wd}, WfW W → WfW (l.foldl (fun V p => V.put p showOne) W)
  | [], _, h => h
  | p :: l, _, h => WfW.shows (W := W) l (h.put (fun s _ => rfl) fun s _ k => ⟨k.p, fun l e => (by cases e), k.r⟩)
theorem WfW.shw {W : Wd} (h : WfW W) (n : Int) : WfW (doShow W n).1 := by
  have h1 : WfW (W.put n fun s => { s with ready := some s.pending }) := h.put (fun s _ => rfl) fun s _ k => k.shw
  unfold doShow
  split
  · exact h1
  · exact WfW.shows (W := W) _ h1
/-- what a letter leaves can be -/
theorem WfW.does {W : Wd} (h : WfW W) {l : Lt} (hl : l.ok) {r : Wd × List Int × List Int} (e : does W l = some r) : WfW r.1 := by
  have chg : ∀ l : Lt, l.ok → l.chg = true → (match W.get l.name with | none => none | some s => (pend s.pending l).map fun k => ((W.put l.name fun s => { s with pending := k }), ([] : List Int), ([] : List Int))) = some r → WfW r.1 := fun l hl hc e => by
    cases g : W.get l.name with
    | none => rw [g] at e; cases e
    | some s =>
      rw [g] at e
      obtain ⟨k, e1, e2⟩ := Option.map_eq_some_iff.mp e
      rw [← e2]
      exact h.put (f := fun s => { s with pending := k }) (fun s _ => rfl) fun s2 g2 k2 => ⟨pend_ok (h.ok _ _ g).p hl hc e1, k2.r, k2.s⟩
  cases l with
  | make n =>
    have e : (if (W.get n).isSome = true then none else some (W ++ [(n, Sf.new)], [], [])) = some r := e
    by_cases g : (W.get n).isSome = true
    · rw [if_pos g] at e; cases e
    · rw [if_neg g] at e
      cases e
      exact h.make hl (by simpa using g)
  | drop n =>
    have e : (if (W.get n).isSome = true then some (doDrop W n, [], under 3 W n) else none) = some r := e
    by_cases g : (W.get n).isSome = true
    · rw [if_pos g] at e; cases e; exact h.drop n
    · rw [if_neg g] at e; cases e
  | tie n o =>
    have e : (if mayTie W n o = true then some (W.put n fun s => { s with top := some o }, [], []) else none) = some r := e
    by_cases g : mayTie W n o = true
    · rw [if_pos g] at e; cases e; exact h.tie g
    · rw [if_neg g] at e; cases e
  | shw n =>
    have e : (if (W.get n).isSome = true then some ((doShow W n).1, (doShow W n).2, []) else none) = some r := e
    by_cases g : (W.get n).isSome = true
    · rw [if_pos g] at e; cases e; exact h.shw n
    · rw [if_neg g] at e; cases e
  | hold n =>
    have e : (if (W.get n).isSome = true then some (W, [], []) else none) = some r := e
    by_cases g : (W.get n).isSome = true
    · rw [if_pos g] at e; cases e; exact h
    · rw [if_neg g] at e; cases e
  | lt => cases e; exact h
  | size n a b => exact chg (.size n a b) hl rfl e
  | paint n a b c d f => exact chg (.paint n a b c d f) hl rfl e
  | place n a b => exact chg (.place n a b) hl rfl e
  | rank n a => exact chg (.rank n a) hl rfl e
  | veil n => exact chg (.veil n) hl rfl e
  | unveil n => exact chg (.unveil n) hl rfl e
theorem wf_nil : WfW [] where
  nm := fun e h => by cases h
  nd := List.nodup_nil
  top := fun n s t h => by cases h
  ok := fun n s h => by cases h

/-! ### letters done upon the law's surfaces -/
def putL (L : WL_) (n : Int) (f : Sf → Sf) : WL_ := L.map fun e => if e.1 = n then (e.1, e.2.1, f e.2.2) else e
theorem wd_putL (L : WL_) (n : Int) (f : Sf → Sf) : wd (putL L n f) = (wd L).put n f := by
  unfold wd putL Wd.put
  rw [List.map_map, List.map_map]
  refine List.map_congr_left fun e _ => ?_
  show ((if e.1 = n then (e.1, e.2.1, f e.2.2) else e).1, (if e.1 = n then (e.1, e.2.1, f e.2.2) else e).2.2) = if e.1 = n then (e.1, f e.2.2) else (e.1, e.2.2)
  split <;> rfl
theorem ad_putL (L : WL_) (n : Int) (f : Sf → Sf) : (putL L n f).map (fun e => e.2.1) = L.map fun e => e.2.1 := by
  unfold putL
  rw [List.map_map]
  refine List.map_congr_left fun e _ => ?_
  show (if e.1 = n then (e.1, e.2.1, f e.2.2) else e).2.1 = e.2.1
  split <;> rfl
theorem nn_putL (L : WL_) (n : Int) (f : Sf → Sf) : (putL L n f).map (fun e => e.1) = L.map fun e => e.1 := by
  unfold putL
  rw [List.map_map]
  refine List.map_congr_left fun e _ => ?_
  show (if e.1 = n then (e.1, e.2.1, f e.2.2) else e).1 = e.1
  split <;> rfl
theorem kv_putL (L : WL_) (n : Int) (f : Sf → Sf) : kvW (putL L n f) = kvW L := by
  unfold kvW putL
  rw [List.map_map]
  refine List.map_congr_left fun e _ => ?_
  show ((.inl (if e.1 = n then (e.1, e.2.1, f e.2.2) else e).1 : Key), V.ref (if e.1 = n then (e.1, e.2.1, f e.2.2) else e).2.1) = (.inl e.1, V.ref e.2.1)
  split <;> rfl
theorem fp_putL (pw : Addr) (L : WL_) (n : Int) (f : Sf → Sf) : fpW pw (putL L n f) = fpW pw L := by unfold fpW; rw [ad_putL]
def addL (L : WL_) (n : Int) (d : Addr) (s : Sf) : WL_ := L ++ [(n, d, s)]
def delL (L : WL_) (n : Int) : WL_ := L.filter fun e => decide (e.1 ≠ n)
theorem wd_delL (L : WL_) (n : Int) : wd (delL L n) = (wd L).del n := by
  unfold wd delL Wd.del
  rw [List.filter_map]
  rfl
theorem kv_delL (L : WL_) (n : Int) : kvW (delL L n) = dropK (kvW L) (.inl n) := by
  unfold kvW delL dropK
  rw [List.filter_map]
  congr 1
  refine List.filter_congr fun e _ => ?_
  simp
section
variable {K : PySem.W.Frag} {H H' : Hp} {pw d : Addr} {L : WL_} {n : Int} {s : Sf}
theorem mem_nd (h : (L.map fun e => e.2.1).Nodup) {a b : Int × Addr × Sf} (ha : a ∈ L) (hb : b ∈ L) (e : a.2.1 = b.2.1) : a = b := by
  induction L with
  | nil => cases ha
  | cons x L ih =>
    rw [List.map_cons, List.nodup_cons] at h
    rcases List.mem_cons.mp ha with e1 | ha
    · rcases List.mem_cons.mp hb with e2 | hb
      · rw [e1, e2]
      · exact absurd (by rw [← e1, e]; exact List.mem_map_of_mem (f := fun e => e.2.1) hb) h.1
    · rcases List.mem_cons.mp hb with e2 | hb
      · exact absurd (by rw [← e2, ← e]; exact List.mem_map_of_mem (f := fun e => e.2.1) ha) h.1
      · exact ih h.2 ha hb
theorem mem_nn (h : (L.map fun e => e.1).Nodup) {a b : Int × Addr × Sf} (ha : a ∈ L) (hb : b ∈ L) (e : a.1 = b.1) : a = b := by
  induction L with
  | nil => cases ha
  | cons x L ih =>
    rw [List.map_cons, List.nodup_cons] at h
    rcases List.mem_cons.mp ha with e1 | ha
    · rcases List.mem_cons.mp hb with e2 | hb
      · rw [e1, e2]
      · exact absurd (by rw [← e1, e]; exact List.mem_map_of_mem (f := fun e => e.1) hb) h.1
    · rcases List.mem_cons.mp hb with e2 | hb
      · exact absurd (by rw [← e2, ← e]; exact List.mem_map_of_mem (f := fun e => e.1) ha) h.1
      · exact ih h.2 ha hb
/-- one surface changed in its place -/
theorem WAt.put {f : Sf → Sf} (h : WAt K H pw L) (m : (n, d, s) ∈ L) (fr : Fr [d] H H') (q : SfAt K H' d (f s)) : WAt K H' pw (putL L n f) := by
  refine ⟨?_, fun e he => ?_, by rw [ad_putL]; exact h.nd, by rw [nn_putL]; exact h.nn, fun e he => ?_, by unfold putL; rw [List.length_map]; exact h.le⟩
  · rw [kv_putL]
    exact fr.at_ _ _ h.at_ fun z => h.ne _ m (List.mem_singleton.mp z).symm
  · obtain ⟨e0, h0, rfl⟩ := List.mem_map.mp he
    by_cases en : e0.1 = n
    · rw [if_pos en]
      have := mem_nn h.nn h0 m en
      rw [this]
      exact q
    · rw [if_neg en]
      refine (h.each _ h0).fr fr fun z => en ?_
      have := mem_nd h.nd h0 m (List.mem_singleton.mp z)
      rw [this]
  · have : e.2.1 ∈ (putL L n f).map (fun e => e.2.1) := List.mem_map_of_mem (f := fun e => e.2.1) he
    rw [ad_putL] at this
    obtain ⟨e0, h0, e1⟩ := List.mem_map.mp this
    rw [← e1]
    exact h.ne _ h0
theorem putK_new {L : WL_} (hn : n ∉ L.map fun e => e.1) (v : V) : putK (kvW L) (.inl n) v = kvW L ++ [(.inl n, v)] := by
  unfold putK
  rw [if_neg]
  intro q
  obtain ⟨kv, h1, h2⟩ := List.any_eq_true.mp q
  obtain ⟨e, he, rfl⟩ := List.mem_map.mp h1
  have h3 : (Sum.inl e.1 : Key) = Sum.inl n := of_decide_eq_true h2
  injection h3 with h3
  exact hn (by rw [← h3]; exact List.mem_map_of_mem (f := fun e => e.1) he)
/-- one surface more -/
theorem WAt.add (h : WAt K H pw L) (hn : n ∉ L.map fun e => e.1) (hd : ∀ e ∈ L, e.2.1 ≠ d) (nd : d ≠ pw) (fr : Fr [pw] H H') (hp : H' pw = some (.dK (putK (kvW L) (.inl n) (.ref d)))) (q : SfAt K H' d s) (hl : L.length < 10) : WAt K H' pw (addL L n d s) := by
  refine ⟨?_, fun e he => ?_, ?_, ?_, fun e he => ?_, by unfold addL; rw [List.length_append]; exact hl⟩
  · rw [hp, putK_new hn]
    simp [kvW, addL]
  · rcases List.mem_append.mp he with he | he
    · exact (h.each _ he).fr fr fun z => h.ne _ he (List.mem_singleton.mp z)
    · rw [List.mem_singleton.mp he]
      exact q
  · unfold addL
    rw [List.map_append, List.nodup_append]
    refine ⟨h.nd, by simp, fun a ha b hb e => ?_⟩
    obtain ⟨x, hx, rfl⟩ := List.mem_map.mp ha
    rw [List.mem_singleton.mp (show b ∈ [d] from hb)] at e
    exact hd x hx e
  · unfold addL
    rw [List.map_append, List.nodup_append]
    refine ⟨h.nn, by simp, fun a ha b hb e => ?_⟩
    rw [List.mem_singleton.mp (show b ∈ [n] from hb)] at e
    rw [e] at ha
    exact hn ha
  · rcases List.mem_append.mp he with he | he
    · exact h.ne _ he
    · rw [List.mem_singleton.mp he]
      exact nd
/-- one surface less -/
theorem WAt.del (h : WAt K H pw L) : WAt K (upd H pw (.dK (dropK (kvW L) (.inl n)))) pw (delL L n) := by
  have fr : Fr [pw] H (upd H pw (.dK (dropK (kvW L) (.inl n)))) := Fr.set h.at_ rfl (List.mem_singleton.mpr rfl)
  refine ⟨by rw [upd_same, kv_delL], fun e he => ?_, List.Nodup.sublist (List.Sublist.map _ List.filter_sublist) h.nd, List.Nodup.sublist (List.Sublist.map _ List.filter_sublist) h.nn, fun e he => h.ne _ (List.mem_filter.mp he).1, Nat.le_trans (List.length_filter_le _ _) h.le⟩
  have hm := (List.mem_filter.mp he).1
  exact (h.each _ hm).fr fr fun z => h.ne _ hm (List.mem_singleton.mp z)
theorem fp_delL {a : Addr} (h : a ∈ fpW pw (delL L n)) : a ∈ fpW pw L := by
  rcases List.mem_cons.mp h with e | h
  · rw [e]; exact List.mem_cons_self ..
  · obtain ⟨x, hx, rfl⟩ := List.mem_map.mp h
    exact List.mem_cons_of_mem _ (List.mem_map_of_mem (f := fun e => e.2.1) (List.mem_filter.mp hx).1)
theorem fp_mem (m : (n, d, s) ∈ L) : d ∈ fpW pw L := List.mem_cons_of_mem _ (List.mem_map_of_mem (f := fun e => e.2.1) m)
end
section
variable {P : Program} {w : World} {K : PySem.W.Frag} {mg : Str → Option Value} {base : Heap}
def spTied (K : PySem.W.Frag) : Sp := fun vs H Q _ => ∃ pw n o L, vs = [.ref pw, .int n, .int o] ∧ WAt K H pw L ∧ WfW (wd L) ∧ ∀ H', Same H H' → Q (.bl (mayTie (wd L) n o)) H'
theorem under_long {W : Wd} {n : Int} : (under 3 W n).length ≤ 1 ↔ W.parts (some n) = [] := by
  constructor
  · intro h
    have h : (n :: (W.parts (some n)).flatMap (under 2 W)).length ≤ 1 := h
    rw [List.length_cons] at h
    cases e : W.parts (some n) with
    | nil => rfl
    | cons p ps =>
      rw [e, List.flatMap_cons, List.length_append] at h
      obtain ⟨r, q⟩ := under_cons 2 W p
      rw [q, List.length_cons] at h
      omega
  · intro h
    show (n :: (W.parts (some n)).flatMap (under 2 W)).length ≤ 1
    rw [h]
    exact Nat.le_refl _
theorem ok_law_is_tied (T : Tx w K mg) : Cal P w K mg base 5 "_law_is_tied" (spTied K) [] := by
  refine mk_law_is_tied T (fun vs H Q E h => ?_) (fun cdv A outer s H vs Q E hr h => ?_)
  · obtain ⟨pw, n, o, L, rfl, _⟩ := h
    rfl
  · obtain ⟨pw, n, o, L, rfl, hW, hF, q⟩ := h
    refine ⟨_, (pss_cons (ps_if (PW.pt (pw_or (pt_cmpR op_eq (pv 1) (pv 2) (nomark _)) (pw_or (pt_cmp (pc_dnotin (hu_of hr) (pv 1) (pv 0))) (pw_or (pt_cmp (pc_dnotin (hu_of hr) (pv 2) (pv 0))) (pw_or1 (pt_cmpR op_gt (pe_callB c_len (by rfl) (f_len T) (by decide +kernel) (pa_cons (pe_c (ok_law_under T) hr (by omega) rfl (pa_cons (pv 0) (pa_cons (pv 1) pa_nil))) pa_nil)) pe_int (nomark _))))))) (pss_one (ps_ret pe_bl)) pss_nil)
  (pss_cons (ps_if (PW.pt (pw_or (pt_cmpR o_notN (pe_dget (hu_of hr) (pe_dget (hu_of hr) (pv 0) (pv 1) (fun _ _ => rfl)) pe_str (fun _ _ => rfl)) pe_non (nomark _)) (pw_or (pt_cmpR o_notN (pe_dget (hu_of hr) (pe_dget (hu_of hr) (pv 0) (pv 1) (fun _ _ => rfl)) pe_str (fun _ _ => rfl)) pe_non (nomark _)) (pw_or1 (pt_cmpR o_notN (pe_dget (hu_of hr) (pe_dget (hu_of hr) (pv 0) (pv 1) (fun _ _ => rfl)) pe_str (fun _ _ => rfl)) pe_non (nomark _)))))) (pss_one (ps_ret pe_bl)) pss_nil)
  (pss_cons (ps_set (i := 3) sc_law_is_tied.nd rfl (.inl rfl) (pe_dget (hu_of hr) (pe_dget (hu_of hr) (pv 0) (pv 2) (fun _ _ => rfl)) pe_str (fun _ _ => rfl)))
  (pss_one (ps_ret (pe_or (pe_cmpR o_isN (pv 3) pe_non (nomark _)) (pe_one (pe_cmpR o_isN (pe_dget (hu_of hr) (pe_dget (hu_of hr) (pv 0) (pv 3) (fun _ _ => rfl)) pe_str (fun _ _ => rfl)) pe_non (nomark _))))))))), ?_⟩
    rw [st_law_is_tied]
    wtm_at "go"
    by_cases e0 : n = o
    · rw [decide_eq_true e0]
      wtm_at "go"
      have : mayTie (wd L) n o = false := by
        unfold mayTie
        rw [e0]
        cases (wd L).get o <;> simp
      rw [this] at q
      exact q _ (Same.refl _)
    · rw [decide_eq_false e0]
      wtm_at "go"
      refine iDNI hW.at_ ?_
      rw [WAt.isSome]
      wtm_at "go"
      cases gn : (wd L).get n with
      | none =>
        wtm_at "go"
        have : mayTie (wd L) n o = false := by unfold mayTie; rw [gn]
        rw [this] at q
        exact q _ (Same.refl _)
      | some sn =>
        wtm_at "go"
        refine iDNI hW.at_ ?_
        rw [WAt.isSome]
        wtm_at "go"
        cases go : (wd L).get o with
        | none =>
          wtm_at "go"
          have : mayTie (wd L) n o = false := by unfold mayTie; rw [gn, go]
          rw [this] at q
          exact q _ (Same.refl _)
        | some so =>
          have emt : mayTie (wd L) n o = (!decide (n = o) && sn.shown.isNone && sn.ready.isNone && sn.top.isNone && ((wd L).parts (some n)).isEmpty && (match so.top with | none => true | some u => (match (wd L).get u with | some s' => s'.top.isNone | none => false))) := by unfold mayTie; rw [gn, go] <;> rfl
          wtm_at "go"
          refine ⟨pw, n, L, rfl, hW, hF.ht n, fun H1 p s1 np hp => ?_⟩
          wtm_at "go"
          rw [List.length_map]
          have W1 := hW.same s1
          obtain ⟨d, md, ev, vp, vr, vs, hd, h1, h2, h3⟩ := W1.get gn
          first | refine iteD (fun e1 => ?_) (fun e1 => ?_) | refine iteN (fun e1 => ?_) (fun e1 => ?_) | refine ite2 (fun e1 => ?_) (fun e1 => ?_)
          · wtm_at "go"
            have : mayTie (wd L) n o = false := by
              rw [emt]
              have : ((wd L).parts (some n)).isEmpty = false := by
                cases q : (wd L).parts (some n) with
                | nil => have := under_long.mpr q; omega
                | cons _ _ => rfl
              rw [this]
              simp
            rw [this] at q
            exact q _ s1
          · have e2 : ((wd L).parts (some n)).isEmpty = true := by rw [List.isEmpty_iff]; exact under_long.mp (by omega)
            rw [e2] at emt
            wtm_at "go"
            refine iDGI W1.at_ ev ?_
            wtm_at "go"
            refine iDGS (v := vs) hd rfl ?_
            wtm_at "go"
            refine iNoOL h3 ?_
            wtm_at "go"
            cases es : sn.shown with
            | some _ => rw [es] at emt; wtm_at "go"; exact (by simpa [emt] using q _ s1)
            | none =>
              rw [es] at emt
              wtm_at "go"
              refine iDGI W1.at_ ev ?_
              wtm_at "go"
              refine iDGS (v := vr) hd rfl ?_
              wtm_at "go"
              refine iNoOL h2 ?_
              wtm_at "go"
              cases er : sn.ready with
              | some _ => rw [er] at emt; wtm_at "go"; exact (by simpa [emt] using q _ s1)
              | none =>
                rw [er] at emt
                wtm_at "go"
                refine iDGI W1.at_ ev ?_
                wtm_at "go"
                refine iDGS (v := oI sn.top) hd rfl ?_
                wtm_at "go"
                refine iNoOI ?_
                wtm_at "go"
                cases et : sn.top with
                | some _ => rw [et] at emt; wtm_at "go"; exact (by simpa [emt] using q _ s1)
                | none =>
                  rw [et] at emt
                  obtain ⟨d2, md2, ev2, vp2, vr2, vs2, hd2, _⟩ := W1.get go
                  wtm_at "go"
                  refine iDGI W1.at_ ev2 ?_
                  wtm_at "go"
                  refine iDGS (v := oI so.top) hd2 rfl ?_
                  wtm_at "go"
                  refine iIsOI ?_
                  wtm_at "go"
                  cases eo : so.top with
                  | none =>
                    rw [eo] at emt
                    wtm_at "go"
                    have : mayTie (wd L) n o = true := by rw [emt]; simp [e0]
                    rw [this] at q
                    exact q _ s1
                  | some u =>
                    rw [eo] at emt
                    wtm_at "go"
                    obtain ⟨su, gu, _⟩ := hF.top o so u go eo
                    obtain ⟨d3, md3, ev3, vp3, vr3, vs3, hd3, _⟩ := W1.get gu
                    refine iDGI W1.at_ ev3 ?_
                    wtm_at "go"
                    refine iDGS (v := oI su.top) hd3 rfl ?_
                    wtm_at "go"
                    refine iIsOI ?_
                    have : mayTie (wd L) n o = su.top.isNone := by
                      rw [emt]
                      show (!decide (n = o) && _ && _ && _ && _ && (match (wd L).get u with | some s' => s'.top.isNone | none => false)) = _
                      rw [gu]
                      simp [e0]
                    rw [this] at q
                    exact q _ s1
end

def aft (W : Wd) (l : Lt) : Wd := match does W l with | some r => r.1 | none => W
def shs (W : Wd) (l : Lt) : List Int := match does W l with | some r => r.2.1 | none => []
def drs (W : Wd) (l : Lt) : List Int := match does W l with | some r => r.2.2 | none => []
theorem WfW.aft {W : Wd} (h : WfW W) {l : Lt} (hl : l.ok) : WfW (aft W l) := by
  unfold U.aft
  cases e : U.does W l with
  | none => exact h
  | some r => exact h.does hl e
/-- what one letter leaves of the law's surfaces -/
structure DoneW (K : PySem.W.Frag) (H H' : Hp) (pw : Addr) (L L' : WL_) (l : Lt) : Prop where
  at_ : WAt K H' pw L'
  is : wd L' = aft (wd L) l
  fr : Fr (fpW pw L) H H'
  fp : ∀ a ∈ fpW pw L', a ∈ fpW pw L ∨ H a = none
theorem names_puts {f : Sf → Sf} : ∀ (l : List Int) (W : Wd), (l.foldl (fun V p => V.put p f) W).names = W.names
  | [], _ => rfl
  | p :: l, W => by rw [List.foldl_cons, names_puts l, names_put]
theorem chg_vs {l : Lt} (h : l.chg = true) : ∃ (wo : Str) (n : Int) (r : List V), l.vs = .str wo :: .int n :: r ∧ wo ≠ "let" ∧ wo ≠ "make" ∧ wo ≠ "tie" ∧ wo ≠ "hold" ∧ wo ≠ "drop" ∧ wo ≠ "show" ∧ l.name = n ∧ ∀ W, does W l = match W.get l.name with
    | none => none
    | some s => (pend s.pending l).map fun k => (W.put l.name fun s => { s with pending := k }, [], []) := by
  cases l <;> first | (cases h; done) | exact ⟨_, _, _, rfl, by simp only [Lt.word]; decide, by simp only [Lt.word]; decide, by simp only [Lt.word]; decide, by simp only [Lt.word]; decide, by simp only [Lt.word]; decide, by simp only [Lt.word]; decide, rfl, fun _ => rfl⟩
def spDoes (K : PySem.W.Frag) : Sp := fun vs H Q _ => ∃ pw la L l, vs = [.ref pw, .ref la] ∧ WAt K H pw L ∧ WfW (wd L) ∧ SqT K H la (Lt.vs l) ∧ l.ok ∧ ∀ H' L' t p1 p2, DoneW K H H' pw L L' l → H p1 = none → H p2 = none → p1 ∉ fpW pw L' → p2 ∉ fpW pw L' → SqT K H' t [.bl (does (wd L) l).isSome, .ref p1, .ref p2] → H' p1 = some (.lst ((shs (wd L) l).map V.int)) → H' p2 = some (.lst ((drs (wd L) l).map V.int)) → Q (.ref t) H'
section
variable {K : PySem.W.Frag} {H H1 : Hp} {pw : Addr} {L L1 : WL_}
theorem fp_some (h : WAt K H pw L) {a : Addr} (ha : a ∈ fpW pw L) : ∃ o, H a = some o ∧ isMut o = true := by
  rcases List.mem_cons.mp ha with e | ha
  · rw [e]; exact ⟨_, h.at_, rfl⟩
  · obtain ⟨x, hx, rfl⟩ := List.mem_map.mp ha
    obtain ⟨vp, vr, vs, e, _⟩ := h.each x hx
    exact ⟨_, e, rfl⟩
theorem fp_new (h : WAt K H pw L) {a : Addr} (ha : H a = none) : a ∉ fpW pw L := fun z => by
  obtain ⟨o, e, _⟩ := fp_some h z
  rw [ha] at e
  cases e
/-- the end of a letter that shows and drops nothing: two new lists, the tuple -/
theorem fin3 {l : Lt} {b : Bool} {Q : VK} (q : ∀ H' L' t p1 p2, DoneW K H H' pw L L' l → H p1 = none → H p2 = none → p1 ∉ fpW pw L' → p2 ∉ fpW pw L' → SqT K H' t [.bl (does (wd L) l).isSome, .ref p1, .ref p2] → H' p1 = some (.lst ((shs (wd L) l).map V.int)) → H' p2 = some (.lst ((drs (wd L) l).map V.int)) → Q (.ref t) H')
    (hW : WAt K H pw L) (W1 : WAt K H1 pw L1) (is : wd L1 = aft (wd L) l) (fr : Fr (fpW pw L) H H1) (fp : ∀ a ∈ fpW pw L1, a ∈ fpW pw L ∨ H a = none) (eb : (does (wd L) l).isSome = b) (es : shs (wd L) l = []) (ed : drs (wd L) l = [])
    (p1 : Addr) (n1 : H1 p1 = none) (p2 : Addr) (n2 : upd H1 p1 (.lst []) p2 = none) (t : Addr) (nt : upd (upd H1 p1 (.lst [])) p2 (.lst []) t = none) : Q (.ref t) (upd (upd (upd H1 p1 (.lst [])) p2 (.lst [])) t (.tup [.bl b, .ref p1, .ref p2])) := by
  have s1 : Same H1 (upd (upd (upd H1 p1 (.lst [])) p2 (.lst [])) t (.tup [.bl b, .ref p1, .ref p2])) := ((same_new n1).trans (same_new n2)).trans (same_new nt)
  have n2' : H1 p2 = none := (same_new n1).free n2
  have N1 : p1 ∉ fpW pw L1 := fp_new W1 n1
  have N2 : p2 ∉ fpW pw L1 := fp_new W1 n2'
  rw [← eb] at s1 ⊢
  refine q _ L1 t p1 p2 ⟨W1.same s1, is, fr.trans (Fr.same s1), fp⟩ (fr.free n1) (fr.free n2') N1 N2 (SqT.of upd_same) ?_ ?_
  · rw [es, upd_ne (ne_of_none ((same_new n2) _ _ upd_same) nt), upd_ne (ne_of_none upd_same n2)]
    exact upd_same
  · rw [ed, upd_ne (ne_of_none upd_same nt)]
    exact upd_same
end
section
variable {P : Program} {w : World} {K : PySem.W.Frag} {mg : Str → Option Value} {base : Heap}
theorem aft_none {W : Wd} {l : Lt} (e : does W l = none) : aft W l = W ∧ shs W l = [] ∧ drs W l = [] := by unfold aft shs drs; rw [e]; exact ⟨rfl, rfl, rfl⟩
theorem aft_some {W : Wd} {l : Lt} {r : Wd × List Int × List Int} (e : does W l = some r) : aft W l = r.1 ∧ shs W l = r.2.1 ∧ drs W l = r.2.2 := by unfold aft shs drs; rw [e]; exact ⟨rfl, rfl, rfl⟩
theorem ok_law_does (T : Tx w K mg) : Cal P w K mg base 6 "_law_does" (spDoes K) [] := by
  refine mk_law_does T (fun vs H Q E h => ?_) (fun cdv A outer s H vs Q E hr h => ?_)
  · obtain ⟨pw, la, L, l, rfl, _⟩ := h
    rfl
  · obtain ⟨pw, la, L, l, rfl, hW, hF, hl, hok, q⟩ := h
    refine ⟨_, (pss_cons (ps_set (i := 2) sc_law_does.nd rfl (.inl rfl) (pe_ix ix_tup (pv 1) pe_int (fun _ _ => rfl)))
  (pss_cons (ps_if (pt_cmpR op_eq (pv 2) pe_str (nomark _)) (pss_one (ps_ret (pe_tup (pa_cons pe_bl (pa_cons (pe_lst pa_nil) (pa_cons (pe_lst pa_nil) pa_nil)))))) pss_nil)
  (pss_cons (ps_set (i := 3) sc_law_does.nd rfl (.inl rfl) (pe_ix ix_tup (pv 1) pe_int (fun _ _ => rfl)))
  (pss_cons (ps_if (pt_cmpR op_eq (pv 2) pe_str (nomark _)) (pss_cons (ps_if (pt_cmp (pc_din (hu_of hr) (pv 3) (pv 0))) (pss_one (ps_ret (pe_tup (pa_cons pe_bl (pa_cons (pe_lst pa_nil) (pa_cons (pe_lst pa_nil) pa_nil)))))) pss_nil)
  (pss_cons (ps_dput (hu_of hr) (pv 0) (pv 3) (pe_disp (pps_cons pe_str (pe_tup (pa_cons pe_int (pa_cons pe_int (pa_cons pe_int (pa_cons pe_bl (pa_cons (pe_tup (pa_cons (pe_tup (pa_cons pe_int pa_nil)) pa_nil)) pa_nil)))))) (pps_cons pe_str pe_non (pps_cons pe_str pe_non (pps_cons pe_str pe_non pps_nil)))) (by rfl) (by rfl) (fun z => by cases z) (by decide)) rfl)
  (pss_one (ps_ret (pe_tup (pa_cons pe_bl (pa_cons (pe_lst pa_nil) (pa_cons (pe_lst pa_nil) pa_nil)))))))) pss_nil)
  (pss_cons (ps_if (pt_cmpR op_eq (pv 2) pe_str (nomark _)) (pss_cons (ps_if (pt_not (pt_val (pe_c (ok_law_is_tied T) hr (by omega) rfl (pa_cons (pv 0) (pa_cons (pv 3) (pa_cons (pe_ix ix_tup (pv 1) pe_int (fun _ _ => rfl)) pa_nil)))))) (pss_one (ps_ret (pe_tup (pa_cons pe_bl (pa_cons (pe_lst pa_nil) (pa_cons (pe_lst pa_nil) pa_nil)))))) pss_nil)
  (pss_cons (ps_dput (hu_of hr) (pe_dget (hu_of hr) (pv 0) (pv 3) (fun _ _ => rfl)) pe_str (pe_ix ix_tup (pv 1) pe_int (fun _ _ => rfl)) rfl)
  (pss_one (ps_ret (pe_tup (pa_cons pe_bl (pa_cons (pe_lst pa_nil) (pa_cons (pe_lst pa_nil) pa_nil)))))))) pss_nil)
  (pss_cons (ps_if (pt_cmp (pc_dnotin (hu_of hr) (pv 3) (pv 0))) (pss_one (ps_ret (pe_tup (pa_cons pe_bl (pa_cons (pe_lst pa_nil) (pa_cons (pe_lst pa_nil) pa_nil)))))) pss_nil)
  (pss_cons (ps_if (pt_cmpR op_eq (pv 2) pe_str (nomark _)) (pss_one (ps_ret (pe_tup (pa_cons pe_bl (pa_cons (pe_lst pa_nil) (pa_cons (pe_lst pa_nil) pa_nil)))))) pss_nil)
  (pss_cons (ps_if (pt_cmpR op_eq (pv 2) pe_str (nomark _)) (pss_cons (ps_set (i := 4) sc_law_does.nd rfl (.inl rfl) (pe_c (ok_law_under T) hr (by omega) rfl (pa_cons (pv 0) (pa_cons (pv 3) pa_nil))))
  (pss_cons (ps_for PassesOwn.never rfl (pi_list (pv 4)) (pg_name (i := 5) sc_law_does.nd rfl (.inl rfl)) (pss_one (ps_expr (pe_dpop1 (pv 0) (pv 5) ⟨rfl, rfl, rfl, rfl⟩))))
  (pss_one (ps_ret (pe_tup (pa_cons pe_bl (pa_cons (pe_lst pa_nil) (pa_cons (pv 4) pa_nil)))))))) pss_nil)
  (pss_cons (ps_if (pt_cmpR op_eq (pv 2) pe_str (nomark _)) (pss_cons (ps_dput (hu_of hr) (pe_dget (hu_of hr) (pv 0) (pv 3) (fun _ _ => rfl)) pe_str (pe_dget (hu_of hr) (pe_dget (hu_of hr) (pv 0) (pv 3) (fun _ _ => rfl)) pe_str (fun _ _ => rfl)) rfl)
  (pss_cons (ps_set (i := 6) sc_law_does.nd rfl (.inl rfl) (pe_ifExp (pt_cmpR o_isN (pe_dget (hu_of hr) (pe_dget (hu_of hr) (pv 0) (pv 3) (fun _ _ => rfl)) pe_str (fun _ _ => rfl)) pe_non (nomark _)) (pe_c (ok_law_under T) hr (by omega) rfl (pa_cons (pv 0) (pa_cons (pv 3) pa_nil))) (pe_lst pa_nil)))
  (pss_cons (ps_setLc (i := 6) (own := [("_law_one", 5)]) rfl sc_law_does.nd rfl rfl (sw_true rfl rfl rfl (by decide +kernel)) (pi_list (pv 6)) (blkOk_by (N := N_law_does) (sc := defScope s_law_does) (by decide +kernel)) (fun _ _ _ _ _ => (pg_name (i := 5) sc_law_does.nd rfl (.inl rfl))) (fun _ _ _ _ _ => pts_one (pt_cmpR o_notN (pe_dget (hu_of hr) (pe_dget (hu_of hr) (pv 0) (pv 5) (fun _ _ => rfl)) pe_str (fun _ _ => rfl)) pe_non (nomark _))) (fun _ _ _ _ _ => (pv 5)))
  (pss_cons (ps_for PassesOwn.never rfl (pi_list (pv 6)) (pg_name (i := 5) sc_law_does.nd rfl (.inl rfl)) (pss_one (ps_expr (pe_bm PySem.F.plainAttrs_dict PySem.F.slot_dict_update PySem.F.type_dict_update mt_update (pe_dget (hu_of hr) (pv 0) (pv 5) (fun _ _ => rfl)) (pa_cons (pe_disp (pps_cons pe_str (pe_dget (hu_of hr) (pe_dget (hu_of hr) (pv 0) (pv 5) (fun _ _ => rfl)) pe_str (fun _ _ => rfl)) (pps_cons pe_str pe_non pps_nil)) (by rfl) (by rfl) (fun z => by cases z) (by decide)) pa_nil)))))
  (pss_one (ps_ret (pe_tup (pa_cons pe_bl (pa_cons (pv 6) (pa_cons (pe_lst pa_nil) pa_nil)))))))))) pss_nil)
  (pss_cons (ps_set (i := 7) sc_law_does.nd rfl (.inl rfl) (pe_c (ok_law_pending T) hr (by omega) rfl (pa_cons (pe_dget (hu_of hr) (pe_dget (hu_of hr) (pv 0) (pv 3) (fun _ _ => rfl)) pe_str (fun _ _ => rfl)) (pa_cons (pv 1) pa_nil))))
  (pss_cons (ps_if (pt_cmpR o_notN (pv 7) pe_non (nomark _)) (pss_one (ps_dput (hu_of hr) (pe_dget (hu_of hr) (pv 0) (pv 3) (fun _ _ => rfl)) pe_str (pv 7) rfl)) pss_nil)
  (pss_one (ps_ret (pe_tup (pa_cons (pe_cmpR o_notN (pv 7) pe_non (nomark _)) (pa_cons (pe_lst pa_nil) (pa_cons (pe_lst pa_nil) pa_nil))))))))))))))))), ?_⟩
    rw [st_law_does]
    have fin0 := fun (e : does (wd L) l = none) => fin3 (b := false) q hW hW (aft_none e).1.symm Fr.refl (fun a h => .inl h) (by rw [e]; rfl) (aft_none e).2.1 (aft_none e).2.2
    by_cases hc : l.chg = true
    · obtain ⟨wo, n, r, hv, ne1, ne2, ne3, ne4, ne5, ne6, hn, hdo⟩ := chg_vs hc
      have hl2 := hl
      rw [hv] at hl2
      wtm_at "go"
      refine iIxT hl2 (at_of (j := 0) rfl rfl) ?_
      wtm_at "go"
      refine iteNo ne1 ?_
      wtm_at "go"
      refine iIxT hl2 (at_of (j := 1) rfl rfl) ?_
      wtm_at "go"
      refine iteNo ne2 ?_
      wtm_at "go"
      refine iteNo ne3 ?_
      wtm_at "go"
      refine iDNI hW.at_ ?_
      rw [WAt.isSome]
      wtm_at "go"
      cases gn : (wd L).get n with
      | none =>
        wtm_at "go"
        intro p1 n1
        wtm_at "go"
        intro p2 n2
        wtm_at "go"
        intro t nt
        exact fin0 (by rw [hdo, hn, gn]) p1 n1 p2 n2 t nt
      | some sn =>
        obtain ⟨d, md, ev, vp, vr, vs, hd, h1, h2, h3⟩ := hW.get gn
        have hok1 := (hF.ok n sn gn).p
        wtm_at "go"
        refine iteNo ne4 ?_
        wtm_at "go"
        refine iteNo ne5 ?_
        wtm_at "go"
        refine iteNo ne6 ?_
        wtm_at "go"
        refine iDGI hW.at_ ev ?_
        wtm_at "go"
        refine iDGS (v := vp) hd rfl ?_
        wtm_at "go"
        refine ⟨vp, la, sn.pending, l, rfl, h1, hok1.r, hl, hok, hc, fun H1 u s1 hu => ?_⟩
        have W1 := hW.same s1
        wtm_at "go"
        refine iNoOL hu ?_
        wtm_at "go"
        cases ep : pend sn.pending l with
        | none =>
          rw [ep] at hu
          cases (show u = .non from hu)
          wtm_at "go"
          intro p1 n1
          wtm_at "go"
          intro p2 n2
          wtm_at "go"
          intro t nt
          have ed : does (wd L) l = none := by rw [hdo, hn, gn]; show (pend sn.pending l).map _ = none; rw [ep]; rfl
          exact fin3 (b := false) q hW W1 (aft_none ed).1.symm (Fr.same s1) (fun a h => .inl h) (by rw [ed]; rfl) (aft_none ed).2.1 (aft_none ed).2.2 p1 n1 p2 n2 t nt
        | some k =>
          rw [ep] at hu
          obtain ⟨ua, uv, rfl, hu1⟩ := (show LkT K H1 u k from hu)
          have hu : LkT K H1 (.ref ua) k := ⟨ua, uv, rfl, hu1⟩
          have hd1 := s1 _ _ hd
          wtm_at "go"
          refine iDGI W1.at_ ev ?_
          wtm_at "go"
          refine iDPS hd1 (by simp [sizeLine_eq]) ?_
          rw [show putK [((.inr "pending" : Key), vp), (.inr "ready", vr), (.inr "shown", vs), (.inr "top", oI sn.top)] (.inr "pending") (.ref ua) = [((.inr "pending" : Key), .ref ua), (.inr "ready", vr), (.inr "shown", vs), (.inr "top", oI sn.top)] by kernel_rfl]
          have f2 : Fr [d] H1 (upd H1 d (.dK [((.inr "pending" : Key), .ref ua), (.inr "ready", vr), (.inr "shown", vs), (.inr "top", oI sn.top)])) := Fr.set hd1 rfl (by simp)
          have fs := Fr.same (S := [d]) s1
          have W2 := W1.put (f := fun s => { s with pending := k }) md f2 ⟨.ref ua, vr, vs, upd_same, hu.fr f2, (h2.fr fs).fr f2, (h3.fr fs).fr f2⟩
          wtm_at "go"
          intro p1 n1
          wtm_at "go"
          intro p2 n2
          wtm_at "go"
          intro t nt
          have ed : does (wd L) l = some ((wd L).put n fun s => { s with pending := k }, [], []) := by rw [hdo, hn, gn]; show (pend sn.pending l).map _ = _; rw [ep]; rfl
          exact fin3 (b := true) q hW W2 (by rw [wd_putL, (aft_some ed).1]) ((Fr.same s1).trans (f2.mono fun x hx => by rw [List.mem_singleton.mp hx]; exact fp_mem md)) (fun a h => .inl (by rw [fp_putL] at h; exact h)) (by rw [ed]; rfl) (aft_some ed).2.1 (aft_some ed).2.2 p1 n1 p2 n2 t nt
    cases l with
    | lt =>
      have hl : SqT K H la [.str "let"] := hl
      wtm_at "go"
      intro p1 n1
      wtm_at "go"
      intro p2 n2
      wtm_at "go"
      intro t nt
      exact fin3 (b := true) q hW hW rfl Fr.refl (fun a h => .inl h) rfl rfl rfl p1 n1 p2 n2 t nt
    | make n =>
      have hl : SqT K H la [.str "make", .int n] := hl
      wtm_at "go"
      refine iDII hW.at_ ?_
      rw [WAt.isSome]
      wtm_at "go"
      cases gn : (wd L).get n with
      | some s =>
        wtm_at "go"
        intro p1 n1
        wtm_at "go"
        intro p2 n2
        wtm_at "go"
        intro t nt
        exact fin0 (by show (if ((wd L).get n).isSome = true then none else _) = none; rw [gn]; rfl) p1 n1 p2 n2 t nt
      | none =>
        wtm_at "go"
        intro d nd
        wtm_at "go"
        intro r0 nr0
        wtm_at "go"
        intro m0 nm0
        wtm_at "go"
        intro k0 nk0
        wtm_at "go"
        generalize eH1 : upd (upd (upd (upd H d (.dK [])) r0 (.tup [.int 0])) m0 (.tup [.ref r0])) k0 (.tup [.int 0, .int 0, .int 0, .bl false, .ref m0]) = H1
        have s0 : Same H (upd H d (.dK [])) := same_new nd
        have s1 : Same (upd H d (.dK [])) H1 := by rw [← eH1]; exact ((same_new nr0).trans (same_new nm0)).trans (same_new nk0)
        have hd1 : H1 d = some (.dK []) := s1 _ _ upd_same
        have hk : LkT K H1 (.ref k0) Lk.new := by
          rw [← eH1]
          refine ⟨k0, .ref m0, rfl, SqT.of upd_same, m0, [.ref r0], rfl, SqT.of ?_, .cons ⟨r0, rfl, SqT.of ?_⟩ .nil⟩
          · exact same_new nk0 _ _ upd_same
          · exact same_new nk0 _ _ (same_new nm0 _ _ upd_same)
        refine ⟨hd1, [(.inr "pending", .ref k0), (.inr "ready", .non), (.inr "shown", .non), (.inr "top", .non)], rfl, by simp, ?_⟩
        rw [show mergeK [] [((.inr "pending" : Key), V.ref k0), (.inr "ready", .non), (.inr "shown", .non), (.inr "top", .non)] = [((.inr "pending" : Key), V.ref k0), (.inr "ready", .non), (.inr "shown", .non), (.inr "top", .non)] by kernel_rfl]
        generalize eH2 : upd H1 d (.dK [((.inr "pending" : Key), V.ref k0), (.inr "ready", .non), (.inr "shown", .non), (.inr "top", .non)]) = H2
        have f2 : Fr [d] H1 H2 := by rw [← eH2]; exact Fr.set hd1 rfl (by simp)
        have hs : SfAt K H2 d Sf.new := ⟨.ref k0, .non, .non, by rw [← eH2]; exact upd_same, hk.fr f2, rfl, rfl⟩
        have ndf : d ∉ fpW pw L := fp_new hW nd
        have W2 : WAt K H2 pw L := ((hW.same s0).same s1).fr f2 fun a ha z => ndf (by rw [← List.mem_singleton.mp z]; exact ha)
        have f02 : Fr [d] H H2 := ((Fr.same s0).trans (Fr.same s1)).trans f2
        have lL : L.length < 10 := by
          have := (hF.make hok gn).le
          rw [List.length_append, wd, List.length_map] at this
          exact this
        wtm_at "go"
        refine iDPI W2.at_ (by unfold kvW; rw [List.length_map]; exact Nat.lt_trans lL (by decide)) ?_
        have f3 : Fr [pw] H2 (upd H2 pw (.dK (putK (kvW L) (.inl n) (.ref d)))) := Fr.set W2.at_ rfl (by simp)
        have dne : d ≠ pw := fun e => ndf (by rw [e]; exact List.mem_cons_self ..)
        have nin : n ∉ L.map fun e => e.1 := fun z => by
          rw [← wd_names] at z
          obtain ⟨s, e⟩ := name_get z
          rw [gn] at e
          cases e
        have W3 := W2.add nin (fun e he z => ndf (by rw [← z]; exact fp_mem he)) dne f3 upd_same (hs.fr f3 (by simpa using dne)) lL
        have ed : does (wd L) (.make n) = some (wd L ++ [(n, Sf.new)], [], []) := by
          show (if ((wd L).get n).isSome = true then none else _) = _
          rw [gn]
          rfl
        wtm_at "go"
        intro p1 n1
        wtm_at "go"
        intro p2 n2
        wtm_at "go"
        intro t nt
        refine fin3 (b := true) q hW W3 ?_ ⟨fun a o e z => ?_, fun a xs e => f3.tu _ _ (f02.tu _ _ e), fun a o u e => f3.fz _ _ _ (f02.fz _ _ _ e), fun a e => f02.dm _ (f3.dm _ e)⟩ (fun a ha => ?_) (by rw [ed]; rfl) (aft_some ed).2.1 (aft_some ed).2.2 p1 n1 p2 n2 t nt
        · rw [(aft_some ed).1]
          simp [wd, addL]
        · exact f3.at_ _ _ (f02.at_ _ _ e fun z2 => by rw [List.mem_singleton.mp z2, nd] at e; cases e) fun z2 => z (by rw [List.mem_singleton.mp z2]; exact List.mem_cons_self ..)
        · rcases List.mem_cons.mp ha with e | ha
          · exact .inl (by rw [e]; exact List.mem_cons_self ..)
          · unfold addL at ha
            rw [List.map_append] at ha
            rcases List.mem_append.mp ha with ha | ha
            · exact .inl (List.mem_cons_of_mem _ ha)
            · rw [List.mem_singleton.mp (show a ∈ [d] from ha)]
              exact .inr nd
    | tie n o =>
      have hl : SqT K H la [.str "tie", .int n, .int o] := hl
      wtm_at "go"
      refine ⟨pw, n, o, L, rfl, hW, hF, fun H1 s1 => ?_⟩
      have W1 := hW.same s1
      have hl1 := sqT_same s1 hl
      cases et : mayTie (wd L) n o with
      | false =>
        wtm_at "go"
        intro p1 n1
        wtm_at "go"
        intro p2 n2
        wtm_at "go"
        intro t nt
        have ed : does (wd L) (.tie n o) = none := by
          show (if mayTie (wd L) n o = true then _ else none) = none
          rw [et]
          rfl
        exact fin3 (b := false) q hW W1 (aft_none ed).1.symm (Fr.same s1) (fun a h => .inl h) (by rw [ed]; rfl) (aft_none ed).2.1 (aft_none ed).2.2 p1 n1 p2 n2 t nt
      | true =>
        have ed : does (wd L) (.tie n o) = some ((wd L).put n fun s => { s with top := some o }, [], []) := by
          show (if mayTie (wd L) n o = true then _ else none) = _
          rw [et]
          rfl
        obtain ⟨sn, gn⟩ : ∃ s, (wd L).get n = some s := by
          unfold mayTie at et
          cases g : (wd L).get n with
          | none => rw [g] at et; cases et
          | some s => exact ⟨s, rfl⟩
        obtain ⟨d, md, ev, vp, vr, vs, hd, h1, h2, h3⟩ := W1.get gn
        wtm_at "go"
        refine iDGI W1.at_ ev ?_
        wtm_at "go"
        refine iDPS hd (by simp [sizeLine_eq]) ?_
        rw [show putK [((.inr "pending" : Key), vp), (.inr "ready", vr), (.inr "shown", vs), (.inr "top", oI sn.top)] (.inr "top") (V.int o) = [((.inr "pending" : Key), vp), (.inr "ready", vr), (.inr "shown", vs), (.inr "top", V.int o)] by kernel_rfl]
        have f2 : Fr [d] H1 (upd H1 d (.dK [((.inr "pending" : Key), vp), (.inr "ready", vr), (.inr "shown", vs), (.inr "top", V.int o)])) := Fr.set hd rfl (by simp)
        have W2 := W1.put (f := fun s => { s with top := some o }) md f2 ⟨vp, vr, vs, upd_same, h1.fr f2, h2.fr f2, h3.fr f2⟩
        wtm_at "go"
        intro p1 n1
        wtm_at "go"
        intro p2 n2
        wtm_at "go"
        intro t nt
        exact fin3 (b := true) q hW W2 (by rw [wd_putL, (aft_some ed).1]) ((Fr.same s1).trans (f2.mono fun x hx => by rw [List.mem_singleton.mp hx]; exact fp_mem md)) (fun a h => .inl (by rw [fp_putL] at h; exact h)) (by rw [ed]; rfl) (aft_some ed).2.1 (aft_some ed).2.2 p1 n1 p2 n2 t nt
    | hold n =>
      have hl : SqT K H la [.str "hold", .int n] := hl
      wtm_at "go"
      refine iDNI hW.at_ ?_
      rw [WAt.isSome]
      wtm_at "go"
      cases gn : (wd L).get n with
      | none =>
        wtm_at "go"
        intro p1 n1
        wtm_at "go"
        intro p2 n2
        wtm_at "go"
        intro t nt
        exact fin0 (by show (if ((wd L).get n).isSome = true then _ else none) = none; rw [gn]; rfl) p1 n1 p2 n2 t nt
      | some sn =>
        have ed : does (wd L) (.hold n) = some (wd L, [], []) := by
          show (if ((wd L).get n).isSome = true then _ else none) = _
          rw [gn]
          rfl
        wtm_at "go"
        intro p1 n1
        wtm_at "go"
        intro p2 n2
        wtm_at "go"
        intro t nt
        exact fin3 (b := true) q hW hW (aft_some ed).1.symm Fr.refl (fun a h => .inl h) (by rw [ed]; rfl) (aft_some ed).2.1 (aft_some ed).2.2 p1 n1 p2 n2 t nt
    | drop n =>
      have hl : SqT K H la [.str "drop", .int n] := hl
      wtm_at "go"
      refine iDNI hW.at_ ?_
      rw [WAt.isSome]
      wtm_at "go"
      cases gn : (wd L).get n with
      | none =>
        wtm_at "go"
        intro p1 n1
        wtm_at "go"
        intro p2 n2
        wtm_at "go"
        intro t nt
        exact fin0 (by show (if ((wd L).get n).isSome = true then _ else none) = none; rw [gn]; rfl) p1 n1 p2 n2 t nt
      | some sn =>
        have ed : does (wd L) (.drop n) = some (doDrop (wd L) n, [], under 3 (wd L) n) := by
          show (if ((wd L).get n).isSome = true then _ else none) = _
          rw [gn]
          rfl
        wtm_at "go"
        refine ⟨pw, n, L, rfl, hW, hF.ht n, fun H1 p s1 np hp => ?_⟩
        have W1 := hW.same s1
        have npf : p ∉ fpW pw L := fp_new hW np
        have nppw : p ≠ pw := fun e => npf (by rw [e]; exact List.mem_cons_self ..)
        wtm_at "go"
        refine eForL (xs := (under 3 (wd L) n).map V.int) (fun i σ H' => ∃ y L', σ = [some (.ref pw), some (.ref la), some (.str "drop"), some (.int n), some (.ref p), y, none, none] ∧ WAt K H' pw L' ∧ wd L' = ((under 3 (wd L) n).take i).foldl (fun V p => V.del p) (wd L) ∧ Fr (fpW pw L) H H' ∧ H' p = some (.lst ((under 3 (wd L) n).map V.int)) ∧ ∀ a ∈ fpW pw L', a ∈ fpW pw L)
          ⟨_, L, rfl, W1, rfl, Fr.same s1, hp, fun a h => h⟩ (fun i σ H2 _ ⟨_, _, _, _, _, _, h, _⟩ => SqL.of h) ?_ ?_
        · rintro i x σ H2 ex ⟨y, L2, rfl, W2, ew, f2, hp2, sub⟩
          rw [List.getElem?_map] at ex
          obtain ⟨m, em, rfl⟩ := Option.map_eq_some_iff.mp ex
          have hm : m ∈ (wd L2).names := by
            rw [ew, names_dels]
            refine List.mem_filter.mpr ⟨under_names 3 (get_name gn) (List.mem_of_getElem? em), decide_eq_true fun z => ?_⟩
            obtain ⟨j, hj, e⟩ := List.getElem_of_mem z
            rw [List.getElem_take] at e
            rw [List.length_take] at hj
            have hi : i < (under 3 (wd L) n).length := (List.getElem?_eq_some_iff.mp em).1
            have e2 : (under 3 (wd L) n)[i] = m := (List.getElem?_eq_some_iff.mp em).2
            have := (List.getElem_inj (hF.under_nodup 3 n)).mp (e.trans e2.symm)
            omega
          obtain ⟨sm, gm⟩ := name_get hm
          obtain ⟨d, md, ev, _⟩ := W2.get gm
          wtm_at "go"
          refine gPopA W2.at_ ?_
          wtm_at "go"
          refine ⟨_, .inl m, _, W2.at_, rfl, ev, ?_⟩
          wtm_at "go"
          refine ⟨_, delL L2 m, rfl, W2.del, ?_, f2.trans (Fr.set W2.at_ rfl (List.mem_cons_self ..)), (hUpd nppw hp2), fun a h => sub a (fp_delL h)⟩
          rw [wd_delL, ew, take_succ em, List.foldl_append]
          rfl
        · rintro σ H2 ⟨y, L2, rfl, W2, ew, f2, hp2, sub⟩
          rw [List.length_map, List.take_of_length_le (Nat.le_refl _)] at ew
          wtm_at "go"
          intro p1 n1
          wtm_at "go"
          intro t nt
          have s2 : Same H2 (upd (upd H2 p1 (.lst [])) t (.tup [.bl true, .ref p1, .ref p])) := (same_new n1).trans (same_new nt)
          have q := q _ L2 t p1 p ⟨W2.same s2, by rw [ew, (aft_some ed).1]; rfl, f2.trans (Fr.same s2), fun a h => .inl (sub a h)⟩ (f2.free n1) np (fp_new W2 n1) (fun z => npf (sub _ z))
          rw [ed, (aft_some ed).2.1, (aft_some ed).2.2] at q
          refine q (SqT.of upd_same) ?_ (s2 _ _ hp2)
          rw [upd_ne (ne_of_none upd_same nt)]
          exact upd_same
    | shw n =>
      have hl : SqT K H la [.str "show", .int n] := hl
      wtm_at "go"
      refine iDNI hW.at_ ?_
      rw [WAt.isSome]
      wtm_at "go"
      cases gn : (wd L).get n with
      | none =>
        wtm_at "go"
        intro p1 n1
        wtm_at "go"
        intro p2 n2
        wtm_at "go"
        intro t nt
        exact fin0 (by show (if ((wd L).get n).isSome = true then _ else none) = none; rw [gn]; rfl) p1 n1 p2 n2 t nt
      | some sn =>
        have ed : does (wd L) (.shw n) = some ((doShow (wd L) n).1, (doShow (wd L) n).2, []) := by
          show (if ((wd L).get n).isSome = true then _ else none) = _
          rw [gn]
          rfl
        obtain ⟨d, md, ev, vp, vr, vs, hd, h1, h2, h3⟩ := hW.get gn
        wtm_at "go"
        refine iDGI hW.at_ ev ?_
        wtm_at "go"
        refine iDGS (v := vp) hd rfl ?_
        wtm_at "go"
        refine iDGI hW.at_ ev ?_
        wtm_at "go"
        refine iDPS hd (by simp [sizeLine_eq]) ?_
        rw [show putK [((.inr "pending" : Key), vp), (.inr "ready", vr), (.inr "shown", vs), (.inr "top", oI sn.top)] (.inr "ready") vp = [((.inr "pending" : Key), vp), (.inr "ready", vp), (.inr "shown", vs), (.inr "top", oI sn.top)] by kernel_rfl]
        generalize eH1 : upd H d (.dK [((.inr "pending" : Key), vp), (.inr "ready", vp), (.inr "shown", vs), (.inr "top", oI sn.top)]) = H1
        have f2 : Fr [d] H H1 := by rw [← eH1]; exact Fr.set hd rfl (by simp)
        have W1 := hW.put (f := fun s => { s with ready := some s.pending }) md f2 ⟨vp, vp, vs, by rw [← eH1]; exact upd_same, h1.fr f2, h1.fr f2, h3.fr f2⟩
        have F1 : WfW (wd (putL L n fun s => { s with ready := some s.pending })) := by
          rw [wd_putL]
          exact hF.put (fun _ _ => rfl) fun _ _ h => h.shw
        have fp1 : fpW pw (putL L n fun s => { s with ready := some s.pending }) = fpW pw L := fp_putL ..
        have g1 : (wd (putL L n fun s => { s with ready := some s.pending })).get n = some { sn with ready := some sn.pending } := by
          rw [wd_putL, get_put, if_pos rfl, gn]
          rfl
        have eS : doShow (wd L) n = match sn.top with | some _ => (wd (putL L n fun s => { s with ready := some s.pending }), []) | none => ((showns (wd (putL L n fun s => { s with ready := some s.pending })) n).foldl (fun V p => V.put p showOne) (wd (putL L n fun s => { s with ready := some s.pending })), showns (wd (putL L n fun s => { s with ready := some s.pending })) n) := by
          unfold doShow
          rw [gn, wd_putL]
          rfl
        have fr1 : Fr (fpW pw L) H H1 := f2.mono fun x hx => by rw [List.mem_singleton.mp hx]; exact fp_mem md
        generalize putL L n (fun s => { s with ready := some s.pending }) = L1 at W1 F1 fp1 g1 eS
        obtain ⟨d1, md1, ev1, vp1, vr1, vs1, hd1, _⟩ := W1.get g1
        have hm1 : ∀ m ∈ (match sn.top with | some _ => [] | none => under 3 (wd L1) n), ∃ s, (wd L1).get m = some s := fun m hm => by
          cases et : sn.top with
          | some _ => rw [et] at hm; cases hm
          | none => rw [et] at hm; exact name_get (under_names 3 (get_name g1) hm)
        have hlen : (match sn.top with | some _ => [] | none => under 3 (wd L1) n).length ≤ 1111 := by
          cases et : sn.top with
          | some _ => exact Nat.zero_le _
          | none => exact under_le 3 (wd L1) n (by rw [wd, List.length_map]; exact W1.le)
        have eS2 : doShow (wd L) n = (((match sn.top with | some _ => [] | none => under 3 (wd L1) n).filter fun p => match (wd L1).get p with | some s => s.ready.isSome | none => false).foldl (fun V p => V.put p showOne) (wd L1), (match sn.top with | some _ => [] | none => under 3 (wd L1) n).filter fun p => match (wd L1).get p with | some s => s.ready.isSome | none => false) := by
          rw [eS]
          cases et : sn.top with
          | some _ => rfl
          | none => rfl
        wtm_at "go"
        refine iIfK (fun v H' => Same H1 H' ∧ ∃ p, v = .ref p ∧ H1 p = none ∧ H' p = some (.lst ((match sn.top with | some _ => [] | none => under 3 (wd L1) n).map V.int))) (fun Q' k' => ?_) (fun v H2 hv => ?_)
        · wtm_at "go"
          refine iDGI W1.at_ ev1 ?_
          wtm_at "go"
          refine iDGS (v := oI sn.top) hd1 rfl ?_
          wtm_at "go"
          refine iIsOI ?_
          cases et : sn.top with
          | none =>
            rw [et] at k'
            wtm_at "go"
            refine ⟨pw, n, L1, rfl, W1, F1.ht n, fun H2 p s2 np hp => ?_⟩
            exact k' _ _ ⟨s2, p, rfl, np, hp⟩
          | some u =>
            rw [et] at k'
            wtm_at "go"
            intro p np
            exact k' _ _ ⟨same_new np, p, rfl, np, upd_same⟩
        · obtain ⟨s2, p, rfl, np, hp⟩ := hv
          generalize (match sn.top with | some _ => [] | none => under 3 (wd L1) n) = U at hm1 hlen eS2 hp
          have W2 := W1.same s2
          wtm_at "go"
          intro D nD
          have hpD : p ≠ D := ne_of_none hp nD
          refine eLcL (xs := U.map V.int) (fun i H' => Fr [D] H2 H' ∧ H' D = some (.lst (((U.take i).filter fun p => match (wd L1).get p with | some s => s.ready.isSome | none => false).map V.int)))
            ⟨Fr.new nD, upd_same⟩ (fun i H' _ h => SqL.of (h.1.at_ _ _ hp (by simpa using hpD))) ?_ ?_
          · rintro i x H3 ex ⟨f3, hD⟩
            rw [List.getElem?_map] at ex
            obtain ⟨m, em, rfl⟩ := Option.map_eq_some_iff.mp ex
            obtain ⟨sm, gm⟩ := hm1 m (List.mem_of_getElem? em)
            have W3 := W2.fr f3 fun a ha z => by
              obtain ⟨o, e, _⟩ := fp_some W2 ha
              rw [List.mem_singleton.mp z, nD] at e
              cases e
            obtain ⟨d3, md3, ev3, vp3, vr3, vs3, hd3, _, r3, _⟩ := W3.get gm
            wtm_at "go"
            refine iDGI W3.at_ ev3 ?_
            wtm_at "go"
            refine iDGS (v := vr3) hd3 rfl ?_
            wtm_at "go"
            refine iNoOL r3 ?_
            wtm_at "go"
            cases er : sm.ready with
            | some _ =>
              wtm_at "go"
              refine ⟨_, hD, ?_, f3.trans (Fr.set hD rfl (by simp)), ?_⟩
              · rw [List.length_map]
                refine Nat.lt_of_le_of_lt (List.length_filter_le _ _) (Nat.lt_of_le_of_lt (List.length_take_le' ..) (Nat.lt_of_le_of_lt hlen (by decide)))
              · rw [upd_same, take_succ em, List.filter_append]
                simp [gm, er]
            | none =>
              wtm_at "go"
              refine ⟨f3, ?_⟩
              rw [hD, take_succ em, List.filter_append]
              simp [gm, er]
          · rintro H3 ⟨f3, hD⟩
            rw [List.length_map, List.take_of_length_le (Nat.le_refl _)] at hD
            have W3 := W2.fr f3 fun a ha z => by
              obtain ⟨o, e, _⟩ := fp_some W2 ha
              rw [List.mem_singleton.mp z, nD] at e
              cases e
            have hm2 : ∀ m ∈ U.filter (fun p => match (wd L1).get p with | some s => s.ready.isSome | none => false), ∃ s, (wd L1).get m = some s := fun m hm => hm1 m (List.mem_filter.mp hm).1
            generalize U.filter (fun p => match (wd L1).get p with | some s => s.ready.isSome | none => false) = G at hD eS2 hm2
            have fr3 : Fr (fpW pw L) H H3 := by
              refine (fr1.trans (Fr.same s2)).trans ⟨fun a o e z => ?_, f3.tu, f3.fz, f3.dm⟩
              exact f3.at_ _ _ e fun z2 => by rw [List.mem_singleton.mp z2, nD] at e; cases e
            have nDf : D ∉ fpW pw L1 := fp_new W2 nD
            have nDH : H D = none := fr1.free (s2.free nD)
            wtm_at "go"
            refine eForL (xs := G.map V.int) (fun i σ H' => ∃ y L', σ = [some (.ref pw), some (.ref la), some (.str "show"), some (.int n), none, y, some (.ref D), none] ∧ WAt K H' pw L' ∧ wd L' = (G.take i).foldl (fun V p => V.put p showOne) (wd L1) ∧ Fr (fpW pw L) H3 H' ∧ H' D = some (.lst (G.map V.int)) ∧ fpW pw L' = fpW pw L1)
              ⟨_, L1, rfl, W3, rfl, Fr.refl, hD, rfl⟩ (fun i σ H2 _ ⟨_, _, _, _, _, _, h, _⟩ => SqL.of h) ?_ ?_
            · rintro i x σ H4 ex ⟨y, L4, rfl, W4, ew, f4, hD4, efp⟩
              rw [List.getElem?_map] at ex
              obtain ⟨m, em, rfl⟩ := Option.map_eq_some_iff.mp ex
              obtain ⟨s0, g0⟩ := hm2 m (List.mem_of_getElem? em)
              have hm : m ∈ (wd L4).names := by
                rw [ew, names_puts]
                exact get_name g0
              obtain ⟨sm, gm⟩ := name_get hm
              obtain ⟨d4, md4, ev4, vp4, vr4, vs4, hd4, p4, r4, q4⟩ := W4.get gm
              wtm_at "go"
              refine iDGI W4.at_ ev4 ?_
              wtm_at "go"
              intro e ne
              wtm_at "go"
              refine iDGI (W4.same (same_new ne)).at_ ev4 ?_
              wtm_at "go"
              refine iDGS (v := vr4) (same_new ne _ _ hd4) rfl ?_
              wtm_at "go"
              refine ⟨upd_same, [(.inr "shown", vr4), (.inr "ready", .non)], rfl, by simp, ?_⟩
              rw [show mergeK [] [((.inr "shown" : Key), vr4), (.inr "ready", .non)] = [((.inr "shown" : Key), vr4), (.inr "ready", .non)] by kernel_rfl]
              have f5 : Fr [e] H4 (upd (upd H4 e (.dK [])) e (.dK [((.inr "shown" : Key), vr4), (.inr "ready", .non)])) := (Fr.new ne).trans (Fr.set upd_same rfl (by simp))
              have ned : d4 ≠ e := ne_of_none hd4 ne
              have W5 := W4.fr f5 fun a ha z => by
                obtain ⟨o, e1, _⟩ := fp_some W4 ha
                rw [List.mem_singleton.mp z, ne] at e1
                cases e1
              have hd5 := f5.at_ _ _ hd4 (by simpa using ned)
              have he5 : upd (upd H4 e (.dK [])) e (.dK [((.inr "shown" : Key), vr4), (.inr "ready", .non)]) e = _ := upd_same
              have hD5 := f5.at_ _ _ hD4 (by simpa using ne_of_none hD4 ne)
              have f05 : Fr (fpW pw L) H3 (upd (upd H4 e (.dK [])) e (.dK [((.inr "shown" : Key), vr4), (.inr "ready", .non)])) := f4.trans ⟨fun a o h z => f5.at_ _ _ h fun z2 => (by rw [List.mem_singleton.mp z2, ne] at h; cases h), f5.tu, f5.fz, f5.dm⟩
              have r5 := r4.fr f5
              have p5 := p4.fr f5
              generalize upd (upd H4 e (.dK [])) e (.dK [((.inr "shown" : Key), vr4), (.inr "ready", .non)]) = H5 at W5 hd5 he5 hD5 f05 r5 p5
              wtm_at "go"
              refine iUpdK ned hd5 he5 (by simp [sizeLine_eq]) ?_
              rw [show mergeK [((.inr "pending" : Key), vp4), (.inr "ready", vr4), (.inr "shown", vs4), (.inr "top", oI sm.top)] [((.inr "shown" : Key), vr4), (.inr "ready", .non)] = [((.inr "pending" : Key), vp4), (.inr "ready", .non), (.inr "shown", vr4), (.inr "top", oI sm.top)] by kernel_rfl]
              have f6 : Fr [d4] H5 (upd H5 d4 (.dK [((.inr "pending" : Key), vp4), (.inr "ready", .non), (.inr "shown", vr4), (.inr "top", oI sm.top)])) := Fr.set hd5 rfl (by simp)
              refine ⟨_, putL L4 m showOne, rfl, W5.put (f := showOne) md4 f6 ⟨vp4, .non, vr4, upd_same, p5.fr f6, rfl, r5.fr f6⟩, ?_, f05.trans (f6.mono fun x hx => by rw [List.mem_singleton.mp hx, ← fp1, ← efp]; exact fp_mem md4), f6.at_ _ _ hD5 fun z => ?_, by rw [fp_putL, efp]⟩
              · rw [wd_putL, ew, take_succ em, List.foldl_append]
                rfl
              · refine nDf ?_
                rw [List.mem_singleton.mp z, ← efp]
                exact fp_mem md4
            · rintro σ H4 ⟨y, L4, rfl, W4, ew, f4, hD4, efp⟩
              rw [List.length_map, List.take_of_length_le (Nat.le_refl _)] at ew
              wtm_at "go"
              intro p2 n2
              wtm_at "go"
              intro t nt
              have s2 : Same H4 (upd (upd H4 p2 (.lst [])) t (.tup [.bl true, .ref D, .ref p2])) := (same_new n2).trans (same_new nt)
              have q := q _ L4 t D p2 ⟨W4.same s2, by rw [ew, (aft_some ed).1, eS2], (fr3.trans f4).trans (Fr.same s2), fun a h => .inl (by rw [efp, fp1] at h; exact h)⟩ nDH (fr3.free (f4.free n2)) (by rw [efp]; exact nDf) (fp_new W4 n2)
              rw [ed, (aft_some ed).2.1, (aft_some ed).2.2, eS2] at q
              refine q (SqT.of upd_same) (s2 _ _ hD4) ?_
              rw [upd_ne (ne_of_none upd_same nt)]
              exact upd_same
    | size n a b => exact (hc rfl).elim
    | paint n a b c d e => exact (hc rfl).elim
    | place n a b => exact (hc rfl).elim
    | rank n a => exact (hc rfl).elim
    | veil n => exact (hc rfl).elim
    | unveil n => exact (hc rfl).elim
end

/-! ### a letter drawn -/
theorem len_le_sub : ∀ {l m : List Int}, l.Nodup → (∀ x ∈ l, x ∈ m) → l.length ≤ m.length
  | [], _, _, _ => Nat.zero_le _
  | x :: l, m, nd, h => by
    rw [List.nodup_cons] at nd
    have hx := h x (List.mem_cons_self ..)
    have ih := len_le_sub (l := l) (m := m.erase x) nd.2 fun y hy => (List.mem_erase_of_ne fun e => nd.1 (by rw [← e]; exact hy)).mpr (h y (List.mem_cons_of_mem _ hy))
    rw [List.length_erase_of_mem hx] at ih
    have : 0 < m.length := List.length_pos_of_mem hx
    rw [List.length_cons]
    omega
theorem Drw.same {H H' : Hp} {ph pl : Addr} (h : Drw H ph pl) (s : Same H H') : Drw H' ph pl := by
  obtain ⟨m, cs, k, a, b, c⟩ := h
  exact ⟨m, cs, k, s _ _ a, s _ _ b, c⟩
theorem Drw.ne {H : Hp} {ph pl p : Addr} (h : Drw H ph pl) (n : H p = none) : p ∉ [ph, pl] := by
  obtain ⟨m, cs, k, a, b, c⟩ := h
  intro z
  rcases List.mem_cons.mp z with e | z
  · rw [e, a] at n; cases n
  · rw [List.mem_singleton.mp z, b] at n; cases n
section
variable {K : PySem.W.Frag} {σ : L2.St} {H : Hp} {Q : VK} {ph pl : Addr}
theorem iNx {n : Int} {E : XK} (h : Drw H ph pl) (n0 : 0 < n) (n1 : n < 1073741824) (q : ∀ H' r, Drw H' ph pl → Fr [ph, pl] H H' → 0 ≤ r → r < n → Q (.int r) H') : spNext ([.ref ph, .int n] ++ []) H Q E := ⟨ph, pl, n, rfl, h, n0, n1, q⟩
theorem at_pick {cs : List Int} {r : Int} (r0 : 0 ≤ r) (r1 : r < (cs.length : Int)) : ∃ c, atI (cs.map V.int) r = some (.int c) ∧ c ∈ cs :=
  ⟨_, at_ints (j := r.toNat) (by omega) (by omega), List.getElem_mem _⟩
theorem at_pick' {xs : List Str} {r : Int} (r0 : 0 ≤ r) (r1 : r < (xs.length : Int)) : ∃ c, atI (xs.map V.str) r = some (.str c) ∧ c ∈ xs :=
  ⟨_, at_of (j := r.toNat) (by omega) (by rw [List.getElem?_map, List.getElem?_eq_getElem (by omega)]; rfl), List.getElem_mem _⟩
theorem at_any {xs : List V} {r : Int} (r0 : 0 ≤ r) (r1 : r < (xs.length : Int)) : ∃ c, atI xs r = some c ∧ c ∈ xs :=
  ⟨_, at_of (j := r.toNat) (by omega) (List.getElem?_eq_getElem (by omega)), List.getElem_mem _⟩
theorem iPick {E : XK} {i : Nat} {n : Int} (cs : List Int) (hσ : σ[i]? = some (some (.ref ph))) (hD : Drw H ph pl) (hn : n = (cs.length : Int)) (c0 : cs ≠ []) (c1 : cs.length ≤ 1000)
    (q : ∀ H' c, Drw H' ph pl → Fr [ph, pl] H H' → c ∈ cs → Q (.int c) H') : ∀ p, H p = none → tCall spNext [] E (tCons (tVar i) (tCons (tC (.int n)) tNil)) σ (upd H p (.lst (cs.map V.int))) fun y H2 => rIxL K (.ref p) y H2 Q := by
  intro p np
  refine ⟨_, hσ, ?_⟩
  have hl : 0 < cs.length := List.length_pos_iff.mpr c0
  have hD1 := hD.same (same_new (o := .lst (cs.map V.int)) np)
  show spNext ([.ref ph, .int n] ++ []) (upd H p (.lst (cs.map V.int))) (fun y H2 => rIxL K (.ref p) y H2 Q) E
  refine iNx (n := n) hD1 (by omega) (by omega) fun H' r d f r0 r1 => ?_
  obtain ⟨c, e, hc⟩ := at_pick (cs := cs) r0 (by omega)
  exact iIxL (SqL.of (f.at_ _ _ upd_same (hD.ne np))) e (q _ _ d ((Fr.new np).trans f) hc)
end
/-- what stands while a letter is drawn -/
structure LS (K : PySem.W.Frag) (H0 : Hp) (ph pl pw : Addr) (L : WL_) (p : Addr) (H : Hp) : Prop where
  dw : Drw H ph pl
  wa : WAt K H pw L
  fr : Fr [ph, pl] H0 H
  sm : H p = some (.lst ((sortI (wd L).names).map V.int))
  na : ∀ a ∈ fpW pw L, a ∉ [ph, pl]
  np : p ∉ [ph, pl]
section
variable {K : PySem.W.Frag} {H0 H H' : Hp} {ph pl pw p : Addr} {L : WL_}
theorem LS.step (h : LS K H0 ph pl pw L p H) (d : Drw H' ph pl) (f : Fr [ph, pl] H H') : LS K H0 ph pl pw L p H' := ⟨d, h.wa.fr f h.na, h.fr.trans f, f.at_ _ _ h.sm h.np, h.na, h.np⟩
theorem LS.same (h : LS K H0 ph pl pw L p H) (s : Same H H') : LS K H0 ph pl pw L p H' := ⟨h.dw.same s, h.wa.same s, h.fr.trans (Fr.same s), s _ _ h.sm, h.na, h.np⟩
end
theorem mem_sortI {l : List Int} {x : Int} : x ∈ sortI l ↔ x ∈ l := (List.mergeSort_perm l _).mem_iff
theorem len_sortI {l : List Int} : (sortI l).length = l.length := List.length_mergeSort l
def frs (W : Wd) (n : Nat) : List Int := ((List.range n).map Int.ofNat).filter fun m => (W.get m).isNone
theorem frs_nm {W : Wd} {x : Int} (h : x ∈ frs W 10) : Nm x ∧ W.get x = none := by
  obtain ⟨h1, h2⟩ := List.mem_filter.mp h
  obtain ⟨n, hn, rfl⟩ := List.mem_map.mp h1
  have := List.mem_range.mp hn
  exact ⟨⟨Int.natCast_nonneg n, by show (n : Int) ≤ 9; omega⟩, Option.isNone_iff_eq_none.mp h2⟩
theorem frs_ne {W : Wd} (h : W.length < 10) : frs W 10 ≠ [] := fun e => by
  have := len_le_sub (l := (List.range 10).map Int.ofNat) (m := W.names) (by decide) fun x hx => by
    cases g : W.get x with
    | some s => exact get_name g
    | none =>
      have : x ∈ frs W 10 := List.mem_filter.mpr ⟨hx, by rw [g]; rfl⟩
      rw [e] at this
      cases this
  rw [List.length_map, List.length_range, Wd.names, List.length_map] at this
  omega
theorem frs_succ {W : Wd} {n : Nat} : frs W (n + 1) = frs W n ++ if (W.get (n : Int)).isNone then [(n : Int)] else [] := by
  unfold frs
  rw [List.range_succ, List.map_append, List.filter_append]
  congr 1
  show List.filter _ [(n : Int)] = _
  cases e : W.get (n : Int) <;> simp [e]
theorem frs_le {W : Wd} {n : Nat} : (frs W n).length ≤ n := by
  refine Nat.le_trans (List.length_filter_le _ _) ?_
  rw [List.length_map, List.length_range]
  exact Nat.le_refl _
def spLetter (K : PySem.W.Frag) : Sp := fun vs H Q _ => ∃ ph pl pw L, vs = [.ref ph, .ref pw] ∧ Drw H ph pl ∧ WAt K H pw L ∧ WfW (wd L) ∧ (∀ a ∈ fpW pw L, a ∉ [ph, pl]) ∧ ∀ H' t l, SqT K H' t (Lt.vs l) → l.ok → Drw H' ph pl → Fr [ph, pl] H H' → Q (.ref t) H'
section
variable {P : Program} {w : World} {K : PySem.W.Frag} {mg : Str → Option Value} {base : Heap}
theorem ok_law_letter (T : Tx w K mg) : Cal P w K mg base 2 "_law_letter" (spLetter K) [] := by
  refine mk_law_letter T (fun vs H Q E h => ?_) (fun cdv A outer s H vs Q E hr h => ?_)
  · obtain ⟨ph, pl, pw, L, rfl, _⟩ := h
    rfl
  · obtain ⟨ph, pl, pw, L, rfl, hD, hW, hF, hna, q⟩ := h
    refine ⟨_, (pss_cons (ps_set (i := 2) sc_law_letter.nd rfl (.inl rfl) (pe_callB (c_sorDI rfl) (by rfl) (f_sorted T) (by decide +kernel) (pa_cons (pv 1) pa_nil)))
  (pss_cons (ps_set (i := 3) sc_law_letter.nd rfl (.inl rfl) (pe_ifExp (pt_cmpR (op_neD hr.units) (pv 2) (pe_lst pa_nil) (nomark _)) (pe_ix ix_list (pv 2) (pe_c (ok_law_next T) hr (by omega) rfl (pa_cons (pv 0) (pa_cons (pe_callB c_len (by rfl) (f_len T) (by decide +kernel) (pa_cons (pv 2) pa_nil)) pa_nil))) (fun _ _ => rfl)) (pe_c (ok_law_next T) hr (by omega) rfl (pa_cons (pv 0) (pa_cons pe_int pa_nil)))))
  (pss_cons (ps_set (i := 4) sc_law_letter.nd rfl (.inl rfl) (pe_ifExp (pt_cmpR (op_neD hr.units) (pv 2) (pe_lst pa_nil) (nomark _)) (pe_ix ix_list (pv 2) (pe_c (ok_law_next T) hr (by omega) rfl (pa_cons (pv 0) (pa_cons (pe_callB c_len (by rfl) (f_len T) (by decide +kernel) (pa_cons (pv 2) pa_nil)) pa_nil))) (fun _ _ => rfl)) (pe_c (ok_law_next T) hr (by omega) rfl (pa_cons (pv 0) (pa_cons pe_int pa_nil)))))
  (pss_cons (ps_set (i := 5) sc_law_letter.nd rfl (.inl rfl) (pe_c (ok_law_next T) hr (by omega) rfl (pa_cons (pv 0) (pa_cons pe_int pa_nil))))
  (pss_cons (ps_if (PW.pt (pw_or (pt_cmpR (op_eqD hr.units) (pv 2) (pe_lst pa_nil) (nomark _)) (pw_or1 (PW.pt (pw_and (pt_cmpR op_lt (pv 5) pe_int (nomark _)) (pw_and1 (pt_cmpR op_lt (pe_callB c_len (by rfl) (f_len T) (by decide +kernel) (pa_cons (pv 2) pa_nil)) pe_int (nomark _)))))))) (pss_cons (ps_setLc (i := 6) (own := [("_law_one", 7)]) rfl sc_law_letter.nd rfl rfl (sw_true rfl rfl rfl (by decide +kernel)) (pi_range1 rfl (f_range T) (pa_cons pe_int pa_nil)) (blkOk_by (N := N_law_letter) (sc := defScope s_law_letter) (by decide +kernel)) (fun _ _ _ _ _ => (pg_name (i := 7) sc_law_letter.nd rfl (.inl rfl))) (fun _ _ _ _ _ => pts_one (pt_cmp (pc_dnotin (hu_of hr) (pv 7) (pv 1)))) (fun _ _ _ _ _ => (pv 7)))
  (pss_one (ps_ret (pe_tup (pa_cons pe_str (pa_cons (pe_ix ix_list (pv 6) (pe_c (ok_law_next T) hr (by omega) rfl (pa_cons (pv 0) (pa_cons (pe_ifExp (pt_cmpR op_gt (pe_callB c_len (by rfl) (f_len T) (by decide +kernel) (pa_cons (pv 6) pa_nil)) pe_int (nomark _)) (pe_ix ix_list (pe_lst (pa_cons (pe_callB c_len (by rfl) (f_len T) (by decide +kernel) (pa_cons (pv 6) pa_nil)) (pa_cons pe_int (pa_cons pe_int pa_nil)))) (pe_c (ok_law_next T) hr (by omega) rfl (pa_cons (pv 0) (pa_cons pe_int pa_nil))) (fun _ _ => rfl)) pe_int) pa_nil))) (fun _ _ => rfl)) pa_nil)))))) pss_nil)
  (pss_cons (ps_if (pt_cmpR op_lt (pv 5) pe_int (nomark _)) (pss_one (ps_ret (pe_tup (pa_cons pe_str (pa_cons (pv 3) (pa_cons (pe_op op_add pe_int (pe_c (ok_law_next T) hr (by omega) rfl (pa_cons (pv 0) (pa_cons (pe_ix ix_list (pe_lst (pa_cons pe_int (pa_cons pe_int pa_nil))) (pe_c (ok_law_next T) hr (by omega) rfl (pa_cons (pv 0) (pa_cons pe_int pa_nil))) (fun _ _ => rfl)) pa_nil)))) (pa_cons (pe_op op_add pe_int (pe_c (ok_law_next T) hr (by omega) rfl (pa_cons (pv 0) (pa_cons (pe_ix ix_list (pe_lst (pa_cons pe_int (pa_cons pe_int pa_nil))) (pe_c (ok_law_next T) hr (by omega) rfl (pa_cons (pv 0) (pa_cons pe_int pa_nil))) (fun _ _ => rfl)) pa_nil)))) pa_nil))))))) pss_nil)
  (pss_cons (ps_if (pt_cmpR op_lt (pv 5) pe_int (nomark _)) (pss_cons (ps_set (i := 8) sc_law_letter.nd rfl (.inl rfl) (pe_ix ix_tup (pe_dget (hu_of hr) (pe_dget (hu_of hr) (pv 1) (pv 3) (fun _ _ => rfl)) pe_str (fun _ _ => rfl)) pe_int (fun _ _ => rfl)))
  (pss_cons (ps_par rfl sc_law_letter.nd (i := 9) (j := 10) rfl rfl (by decide) rfl rfl (pa_cons (pe_op op_add pe_int (pe_c (ok_law_next T) hr (by omega) rfl (pa_cons (pv 0) (pa_cons (pe_callB c_len (by rfl) (f_len T) (by decide +kernel) (pa_cons (pe_ix ix_tup (pv 8) pe_int (fun _ _ => rfl)) pa_nil)) pa_nil)))) (pa_cons (pe_op op_add pe_int (pe_c (ok_law_next T) hr (by omega) rfl (pa_cons (pv 0) (pa_cons (pe_callB c_len (by rfl) (f_len T) (by decide +kernel) (pa_cons (pv 8) pa_nil)) pa_nil)))) pa_nil)) rfl)
  (pss_cons (ps_par rfl sc_law_letter.nd (i := 11) (j := 12) rfl rfl (by decide) rfl rfl (pa_cons (pe_c (ok_law_next T) hr (by omega) rfl (pa_cons (pv 0) (pa_cons (pe_op op_add (pe_op op_sub (pe_callB c_len (by rfl) (f_len T) (by decide +kernel) (pa_cons (pe_ix ix_tup (pv 8) pe_int (fun _ _ => rfl)) pa_nil)) (pv 9)) pe_int) pa_nil))) (pa_cons (pe_c (ok_law_next T) hr (by omega) rfl (pa_cons (pv 0) (pa_cons (pe_op op_add (pe_op op_sub (pe_callB c_len (by rfl) (f_len T) (by decide +kernel) (pa_cons (pv 8) pa_nil)) (pv 10)) pe_int) pa_nil))) pa_nil)) rfl)
  (pss_one (ps_ret (pe_tup (pa_cons pe_str (pa_cons (pv 3) (pa_cons (pv 11) (pa_cons (pv 12) (pa_cons (pv 9) (pa_cons (pv 10) (pa_cons (pe_c (ok_law_next T) hr (by omega) rfl (pa_cons (pv 0) (pa_cons pe_int pa_nil))) pa_nil))))))))))))) pss_nil)
  (pss_cons (ps_if (pt_cmpR op_lt (pv 5) pe_int (nomark _)) (pss_cons (ps_set (i := 13) sc_law_letter.nd rfl (.inl rfl) (pe_ix ix_list (pe_lst (pa_cons pe_int (pa_cons pe_int (pa_cons pe_int pa_nil)))) (pe_c (ok_law_next T) hr (by omega) rfl (pa_cons (pv 0) (pa_cons pe_int pa_nil))) (fun _ _ => rfl)))
  (pss_one (ps_ret (pe_tup (pa_cons pe_str (pa_cons (pv 3) (pa_cons (pe_op op_sub (pe_c (ok_law_next T) hr (by omega) rfl (pa_cons (pv 0) (pa_cons (pe_op op_add (pe_op op_mul pe_int (pv 13)) pe_int) pa_nil))) (pv 13)) (pa_cons (pe_op op_sub (pe_c (ok_law_next T) hr (by omega) rfl (pa_cons (pv 0) (pa_cons (pe_op op_add (pe_op op_mul pe_int (pv 13)) pe_int) pa_nil))) (pv 13)) pa_nil)))))))) pss_nil)
  (pss_cons (ps_if (pt_cmpR op_lt (pv 5) pe_int (nomark _)) (pss_one (ps_ret (pe_tup (pa_cons pe_str (pa_cons (pv 3) (pa_cons (pe_c (ok_law_next T) hr (by omega) rfl (pa_cons (pv 0) (pa_cons (pe_ix ix_list (pe_lst (pa_cons pe_int (pa_cons pe_int pa_nil))) (pe_c (ok_law_next T) hr (by omega) rfl (pa_cons (pv 0) (pa_cons pe_int pa_nil))) (fun _ _ => rfl)) pa_nil))) pa_nil)))))) pss_nil)
  (pss_cons (ps_set (i := 14) sc_law_letter.nd rfl (.inl rfl) (pe_lst (pa_cons pe_str (pa_cons pe_str (pa_cons pe_str (pa_cons pe_str (pa_cons pe_str (pa_cons pe_str (pa_cons pe_str (pa_cons pe_str (pa_cons pe_str (pa_cons pe_str pa_nil))))))))))))
  (pss_cons (ps_set (i := 15) sc_law_letter.nd rfl (.inl rfl) (pe_ix ix_list (pv 14) (pe_ifExp (pt_cmpR op_gt (pe_c (ok_law_next T) hr (by omega) rfl (pa_cons (pv 0) (pa_cons pe_int pa_nil))) pe_int (nomark _)) (pe_callB (c_min2 rfl) (by rfl) (f_min T) (by decide +kernel) (pa_cons (pe_c (ok_law_next T) hr (by omega) rfl (pa_cons (pv 0) (pa_cons pe_int pa_nil))) (pa_cons pe_int pa_nil))) pe_int) (fun _ _ => rfl)))
  (pss_one (ps_ret (pe_ifExp (pt_cmpR op_eq (pv 15) pe_str (nomark _)) (pe_tup (pa_cons (pv 15) (pa_cons (pv 3) (pa_cons (pv 4) pa_nil)))) (pe_ifExp (pt_cmpR op_eq (pv 15) pe_str (nomark _)) (pe_tup (pa_cons pe_str pa_nil)) (pe_tup (pa_cons (pv 15) (pa_cons (pv 3) pa_nil)))))))))))))))))), ?_⟩
    rw [st_law_letter]
    have hle : (wd L).names.length ≤ 10 := by rw [wd_names, List.length_map]; exact hW.le
    wtm_at "go"
    refine gSorDI hW.at_ (kvW_keys L) (by omega) (fun p np => ?_)
    have I0 : LS K H ph pl pw L p (upd H p (.lst ((sortI (wd L).names).map V.int))) := ⟨hD.same (same_new np), hW.same (same_new np), Fr.new np, upd_same, hna, hD.ne np⟩
    show gName _ _ _ (upd H p (.lst ((sortI (wd L).names).map V.int))) _
    generalize upd H p (.lst ((sortI (wd L).names).map V.int)) = H1 at I0
    have hS : ∀ r : Int, 0 ≤ r → r < ((sortI (wd L).names).length : Int) → ∃ c, atI ((sortI (wd L).names).map V.int) r = some (.int c) ∧ c ∈ (wd L).names := fun r r0 r1 => by
      obtain ⟨c, e, hc⟩ := at_pick (cs := sortI (wd L).names) r0 r1
      exact ⟨c, e, mem_sortI.mp hc⟩
    have hlen : (sortI (wd L).names).length ≤ 10 := by rw [len_sortI]; exact hle
    wtm_at "go"
    refine iIfK (fun v H' => ∃ c, v = .int c ∧ Nm c ∧ (sortI (wd L).names ≠ [] → c ∈ (wd L).names) ∧ LS K H ph pl pw L p H') (fun Q' k' => ?_) (fun v H2 hv => ?_)
    · wtm_at "go"
      intro e ne
      have I1 := I0.same (same_new (o := .lst []) ne)
      refine iNeDI (ns := sortI (wd L).names) (ms := []) (SqL.of I1.sm) (SqL.of upd_same) ?_
      wtm_at "go"
      first | refine iteD (fun e => ?_) (fun e => ?_) | refine iteN (fun e => ?_) (fun e => ?_) | refine ite2 (fun e => ?_) (fun e => ?_)
      · have hl := List.length_pos_iff.mpr e
        have hsm := I1.sm
        wtm_at "go"
        rw [List.length_map]
        refine iNx I1.dw (by omega) (by omega) fun H2 r d2 f2 r0 r1 => ?_
        obtain ⟨c, ec, hc⟩ := hS r r0 r1
        have I2 := I1.step d2 f2
        exact iIxL (SqL.of I2.sm) ec (k' _ _ ⟨c, rfl, hF.names_nm c hc, fun _ => hc, I2⟩)
      · wtm_at "go"
        refine iNx I1.dw (by omega) (by omega) fun H2 r d2 f2 r0 r1 => ?_
        exact k' _ _ ⟨r, rfl, ⟨r0, by omega⟩, fun z => absurd e z, I1.step d2 f2⟩
    · obtain ⟨nm, rfl, hnm, hin, I2⟩ := hv
      wtm_at "go"
      refine iIfK (fun v H' => ∃ c, v = .int c ∧ Nm c ∧ LS K H ph pl pw L p H') (fun Q' k' => ?_) (fun v H3 hv => ?_)
      · wtm_at "go"
        intro e ne
        have I1 := I2.same (same_new (o := .lst []) ne)
        refine iNeDI (ns := sortI (wd L).names) (ms := []) (SqL.of I1.sm) (SqL.of upd_same) ?_
        wtm_at "go"
        first | refine iteD (fun e => ?_) (fun e => ?_) | refine iteN (fun e => ?_) (fun e => ?_) | refine ite2 (fun e => ?_) (fun e => ?_)
        · have hl := List.length_pos_iff.mpr e
          have hsm := I1.sm
          wtm_at "go"
          rw [List.length_map]
          refine iNx I1.dw (by omega) (by omega) fun H2 r d2 f2 r0 r1 => ?_
          obtain ⟨c, ec, hc⟩ := hS r r0 r1
          have I2 := I1.step d2 f2
          exact iIxL (SqL.of I2.sm) ec (k' _ _ ⟨c, rfl, hF.names_nm c hc, I2⟩)
        · wtm_at "go"
          refine iNx I1.dw (by omega) (by omega) fun H2 r d2 f2 r0 r1 => ?_
          exact k' _ _ ⟨r, rfl, ⟨r0, by omega⟩, I1.step d2 f2⟩
      · obtain ⟨ot, rfl, hot, I3⟩ := hv
        wtm_at "go"
        refine iNx I3.dw (by omega) (by omega) fun H4 tn d4 f4 t0 t1 => ?_
        have I4 := I3.step d4 f4
        refine nName (by wtm_at "st") ?_
        refine iSeq ?_
        refine iIfS ?_
        refine iTK (fun b H' => LS K H ph pl pw L p H' ∧ (b = true → (wd L).names.length < 10) ∧ (b = false → (wd L).names ≠ [])) (fun R' k' => ?_) ?_
        · wtm_at "go"
          intro e ne
          have I5 := I4.same (same_new (o := .lst []) ne)
          refine iEqDI (ns := sortI (wd L).names) (ms := []) (SqL.of I5.sm) (SqL.of upd_same) ?_
          wtm_at "go"
          first | refine iteD (fun e => ?_) (fun e => ?_) | refine iteN (fun e => ?_) (fun e => ?_) | refine ite2 (fun e => ?_) (fun e => ?_)
          · exact k' _ _ ⟨I5, fun _ => by rw [← len_sortI, e]; decide, fun z => nomatch z⟩
          · have hne : (wd L).names ≠ [] := fun z => e (List.length_eq_zero_iff.mp (by rw [len_sortI, z]; rfl))
            have hsm := I5.sm
            wtm_at "go"
            first | refine iteD (fun e2 => ?_) (fun e2 => ?_) | refine iteN (fun e2 => ?_) (fun e2 => ?_) | refine ite2 (fun e2 => ?_) (fun e2 => ?_)
            · wtm_at "go"
              rw [List.length_map]
              refine k' _ _ ⟨I5, fun z => ?_, fun _ => hne⟩
              have := of_decide_eq_true z
              rw [len_sortI] at this
              omega
            · exact k' _ _ ⟨I5, (fun z => nomatch z), fun _ => hne⟩
        · rintro b H5 ⟨I5, hb1, hb2⟩
          cases b with
          | true =>
            have hl10 := hb1 rfl
            wtm_at "go"
            intro D nD
            refine eLcR (lo := 0) (n := 10) (fun i H' => Fr [D] H5 H' ∧ H' D = some (.lst ((frs (wd L) i).map V.int))) ⟨Fr.new nD, upd_same⟩ ?_ ?_
            · rintro i H6 hi ⟨f6, hD6⟩
              have W6 := I5.wa.fr f6 fun a ha z => by
                obtain ⟨o, e, _⟩ := fp_some I5.wa ha
                rw [List.mem_singleton.mp z, nD] at e
                cases e
              wtm_at "go"
              refine iDNI W6.at_ ?_
              rw [WAt.isSome]
              rw [show (0 : Int) + (i : Int) = (i : Int) by omega]
              have hfr := frs_succ (W := wd L) (n := i)
              cases g : (wd L).get (i : Int) with
              | some s =>
                rw [g] at hfr
                wtm_at "go"
                refine ⟨f6, ?_⟩
                rw [hD6, hfr]
                simp
              | none =>
                rw [g] at hfr
                wtm_at "go"
                refine ⟨_, hD6, ?_, f6.trans (Fr.set hD6 rfl (by simp)), ?_⟩
                · rw [List.length_map]
                  exact Nat.lt_of_le_of_lt frs_le (Nat.lt_trans hi (by decide))
                · rw [upd_same, hfr]
                  simp
            · rintro H6 ⟨f6, hD6⟩
              have nDp := I5.dw.ne nD
              have f06 : Fr [ph, pl] H H6 := I5.fr.trans ⟨fun a o e z => f6.at_ _ _ e fun z2 => (by rw [List.mem_singleton.mp z2, nD] at e; cases e), f6.tu, f6.fz, f6.dm⟩
              have d6 : Drw H6 ph pl := by
                obtain ⟨m, cs, k, a, b, c⟩ := I5.dw
                exact ⟨m, cs, k, f6.at_ _ _ a (fun z2 => by rw [List.mem_singleton.mp z2, nD] at a; cases a), f6.at_ _ _ b (fun z2 => by rw [List.mem_singleton.mp z2, nD] at b; cases b), c⟩
              have hF0 : 0 < (frs (wd L) 10).length := List.length_pos_iff.mpr (frs_ne (by rw [Wd.names, List.length_map] at hl10; exact hl10))
              have hF1 : (frs (wd L) 10).length ≤ 10 := frs_le
              have hFm : ∀ r : Int, 0 ≤ r → r < ((frs (wd L) 10).length : Int) → ∃ c, atI ((frs (wd L) 10).map V.int) r = some (.int c) ∧ Nm c := fun r r0 r1 => by
                obtain ⟨c, e, hc⟩ := at_pick (cs := frs (wd L) 10) r0 r1
                exact ⟨c, e, (frs_nm hc).1⟩
              generalize frs (wd L) 10 = F at hD6 hF0 hF1 hFm
              wtm_at "go"
              refine iIfK (fun v H' => ∃ c, v = .int c ∧ 1 ≤ c ∧ c ≤ (F.length : Int) ∧ Drw H' ph pl ∧ Fr [ph, pl] H6 H') (fun Q' k' => ?_) (fun v H7 hv => ?_)
              · wtm_at "go"
                rw [List.length_map]
                first | refine iteD (fun e => ?_) (fun e => ?_) | refine iteN (fun e => ?_) (fun e => ?_) | refine ite2 (fun e => ?_) (fun e => ?_)
                · wtm_at "go"
                  rw [List.length_map]
                  wtm_at "go"
                  refine iPick [(F.length : Int), 2, 1] rfl d6 rfl (by simp) (by simp) fun H7 c d7 f7 hc => ?_
                  · refine k' _ _ ⟨c, rfl, ?_, ?_, d7, f7⟩
                    · simp at hc
                      omega
                    · simp at hc
                      omega
                · wtm_at "go"
                  exact k' _ _ ⟨1, rfl, by omega, by omega, d6, Fr.refl⟩
              · obtain ⟨c, rfl, c0, c1, d7, f7⟩ := hv
                wtm_at "go"
                refine iNx d7 (by omega) (by omega) fun H8 r d8 f8 r0 r1 => ?_
                obtain ⟨x, ex, hx⟩ := hFm r r0 (by omega)
                have hD8 := (f7.trans f8).at_ _ _ hD6 nDp
                refine iIxL (SqL.of hD8) ex ?_
                wtm_at "go"
                intro t nt
                exact q _ t (.make x) (SqT.of upd_same) hx (d8.same (same_new nt)) (((f06.trans f7).trans f8).trans (Fr.new nt))
          | false =>
            have hnn := hin (fun z => hb2 rfl (by
              have : (sortI (wd L).names).length = 0 := by rw [z]; rfl
              rw [len_sortI] at this
              exact List.length_eq_zero_iff.mp this))
            have hnn := hin fun z => hb2 rfl (by
              have : (sortI (wd L).names).length = 0 := by rw [z]; rfl
              rw [len_sortI] at this
              exact List.length_eq_zero_iff.mp this)
            wtm_at "go"
            first | refine iteD (fun e1 => ?_) (fun e1 => ?_) | refine iteN (fun e1 => ?_) (fun e1 => ?_) | refine ite2 (fun e1 => ?_) (fun e1 => ?_)
            · wtm_at "go"
              refine iPick [4, 12] rfl I5.dw rfl (by simp) (by simp) fun H6 c d6 f6 hc => ?_
              have c1 : 1 ≤ c ∧ c ≤ 12 := by simp at hc; omega
              have I6 := I5.step d6 f6
              wtm_at "go"
              refine iNx I6.dw (by omega) (by omega) fun H7 a d7 f7 a0 a1 => ?_
              have I7 := I6.step d7 f7
              wtm_at "go"
              refine iPick [3, 8] rfl I7.dw rfl (by simp) (by simp) fun H8 c2 d8 f8 hc2 => ?_
              have c3 : 1 ≤ c2 ∧ c2 ≤ 8 := by simp at hc2; omega
              have I8 := I7.step d8 f8
              wtm_at "go"
              refine iNx I8.dw (by omega) (by omega) fun H9 b d9 f9 b0 b1 => ?_
              have I9 := I8.step d9 f9
              wtm_at "go"
              intro t nt
              exact q _ t (.size nm (1 + a) (1 + b)) (SqT.of upd_same) ⟨hnm, ⟨by omega, by omega⟩, by omega, by omega⟩ (I9.same (same_new nt)).dw (I9.same (same_new nt)).fr
            · wtm_at "go"
              first | refine iteD (fun e2 => ?_) (fun e2 => ?_) | refine iteN (fun e2 => ?_) (fun e2 => ?_) | refine ite2 (fun e2 => ?_) (fun e2 => ?_)
              · obtain ⟨sn, gn⟩ := name_get hnn
                have hR := (hF.ok nm sn gn).p.r
                obtain ⟨d, md, ev, vp, vr, vs, hd, ⟨pa, vm, rfl, hp, ma, ms, rfl, hm, hrs⟩, _, _⟩ := I5.wa.get gn
                wtm_at "go"
                refine iDGI I5.wa.at_ ev ?_
                wtm_at "go"
                refine iDGS (v := .ref pa) hd rfl ?_
                wtm_at "go"
                have hml : ms.length = sn.pending.marks.length := pLen hrs
                have h1 := hR.h1
                have h8 := hR.h8
                have w1 := hR.w1
                have w12 := hR.w12
                obtain ⟨rv, e3, ra, rfl, hra⟩ := pGet hrs (i := 0) (List.getElem?_eq_getElem (by omega))
                have hrl : (sn.pending.marks[0]'(by omega)).length = (sn.pending.marks.headD []).length := hR.all _ (List.getElem_mem _)
                refine iIxT hm (at_of (j := 0) rfl e3) ?_
                wtm_at "go"
                rw [List.length_map, hrl]
                refine iNx I5.dw (by omega) (by omega) fun H6 wi d6 f6 wi0 wi1 => ?_
                have I6 := I5.step d6 f6
                have hm6 := f6.sqT hm
                have hra6 := f6.sqT hra
                wtm_at "go"
                rw [hml]
                refine iNx I6.dw (by omega) (by omega) fun H7 hi d7 f7 hi0 hi1 => ?_
                have I7 := I6.step d7 f7
                have hm7 := f7.sqT hm6
                have hra7 := f7.sqT hra6
                wtm_at "go"
                refine iIxT hm7 (at_of (j := 0) rfl e3) ?_
                wtm_at "go"
                rw [List.length_map, hrl]
                refine iNx I7.dw (by omega) (by omega) fun H8 x d8 f8 x0 x1 => ?_
                have I8 := I7.step d8 f8
                have hm8 := f8.sqT hm7
                have hra8 := f8.sqT hra7
                wtm_at "go"
                rw [hml]
                refine iNx I8.dw (by omega) (by omega) fun H9 y d9 f9 y0 y1 => ?_
                have I9 := I8.step d9 f9
                wtm_at "go"
                refine iNx I9.dw (by omega) (by omega) fun HA m dA fA m0 m1 => ?_
                have IA := I9.step dA fA
                wtm_at "go"
                intro t nt
                exact q _ t (.paint nm x y (1 + wi) (1 + hi) m) (SqT.of upd_same) ⟨hnm, ⟨by omega, by omega⟩, ⟨by omega, by omega⟩, ⟨by omega, by omega⟩, ⟨by omega, by omega⟩, by omega, by omega⟩ (IA.same (same_new nt)).dw (IA.same (same_new nt)).fr
              · wtm_at "go"
                first | refine iteD (fun e3 => ?_) (fun e3 => ?_) | refine iteN (fun e3 => ?_) (fun e3 => ?_) | refine ite2 (fun e3 => ?_) (fun e3 => ?_)
                · wtm_at "go"
                  refine iPick [6, 3, 20] rfl I5.dw rfl (by simp) (by simp) fun H6 c d6 f6 hc => ?_
                  have c1 : 3 ≤ c ∧ c ≤ 20 := by simp at hc; omega
                  have I6 := I5.step d6 f6
                  wtm_at "go"
                  refine iNx I6.dw (by omega) (by omega) fun H7 a d7 f7 a0 a1 => ?_
                  have I7 := I6.step d7 f7
                  wtm_at "go"
                  refine iNx I7.dw (by omega) (by omega) fun H8 b d8 f8 b0 b1 => ?_
                  have I8 := I7.step d8 f8
                  wtm_at "go"
                  intro t nt
                  exact q _ t (.place nm (a - c) (b - c)) (SqT.of upd_same) ⟨hnm, ⟨by omega, by omega⟩, by omega, by omega⟩ (I8.same (same_new nt)).dw (I8.same (same_new nt)).fr
                · wtm_at "go"
                  first | refine iteD (fun e4 => ?_) (fun e4 => ?_) | refine iteN (fun e4 => ?_) (fun e4 => ?_) | refine ite2 (fun e4 => ?_) (fun e4 => ?_)
                  · wtm_at "go"
                    refine iPick [3, 10] rfl I5.dw rfl (by simp) (by simp) fun H6 c d6 f6 hc => ?_
                    have c1 : 1 ≤ c ∧ c ≤ 10 := by simp at hc; omega
                    have I6 := I5.step d6 f6
                    wtm_at "go"
                    refine iNx I6.dw (by omega) (by omega) fun H7 a d7 f7 a0 a1 => ?_
                    have I7 := I6.step d7 f7
                    wtm_at "go"
                    intro t nt
                    exact q _ t (.rank nm a) (SqT.of upd_same) ⟨hnm, by omega, by omega⟩ (I7.same (same_new nt)).dw (I7.same (same_new nt)).fr
                  · wtm_at "go"
                    intro wp nwp
                    have I6 := I5.same (same_new (o := .lst [.str "veil", .str "unveil", .str "unveil", .str "tie", .str "drop", .str "hold", .str "show", .str "show", .str "show", .str "let"]) nwp)
                    have hwp : upd H5 wp (.lst [.str "veil", .str "unveil", .str "unveil", .str "tie", .str "drop", .str "hold", .str "show", .str "show", .str "show", .str "let"]) wp = some _ := upd_same
                    have nwp2 := I5.dw.ne nwp
                    generalize upd H5 wp (.lst [.str "veil", .str "unveil", .str "unveil", .str "tie", .str "drop", .str "hold", .str "show", .str "show", .str "show", .str "let"]) = H6 at I6 hwp
                    wtm_at "go"
                    refine iIfK (fun v H' => ∃ c : Int, v = .int c ∧ 0 ≤ c ∧ c < 10 ∧ LS K H ph pl pw L p H' ∧ Fr [ph, pl] H6 H') (fun Q' k' => ?_) (fun v H7 hv => ?_)
                    · wtm_at "go"
                      refine iNx I6.dw (by omega) (by omega) fun H7 a d7 f7 a0 a1 => ?_
                      have I7 := I6.step d7 f7
                      wtm_at "go"
                      first | refine iteD (fun e5 => ?_) (fun e5 => ?_) | refine iteN (fun e5 => ?_) (fun e5 => ?_) | refine ite2 (fun e5 => ?_) (fun e5 => ?_)
                      · wtm_at "go"
                        refine iNx I7.dw (by omega) (by omega) fun H8 b d8 f8 b0 b1 => ?_
                        have I8 := I7.step d8 f8
                        wtm_at "go"
                        refine k' _ _ ⟨_, rfl, ?_, ?_, I8, f7.trans f8⟩
                        · split <;> omega
                        · split <;> omega
                      · wtm_at "go"
                        exact k' _ _ ⟨9, rfl, by omega, by omega, I7, f7⟩
                    · obtain ⟨c, rfl, c0, c1, I7, f7⟩ := hv
                      obtain ⟨wo, ew, hwo⟩ := at_pick' (xs := ["veil", "unveil", "unveil", "tie", "drop", "hold", "show", "show", "show", "let"]) c0 c1
                      refine iIxL (SqL.of (f7.at_ _ _ hwp nwp2)) ew ?_
                      simp only [List.mem_cons, List.not_mem_nil, or_false] at hwo
                      have fin : ∀ (t : Addr) (xs : List V) (l : Lt), Lt.vs l = xs → l.ok → H7 t = none → Q (.ref t) (upd H7 t (.tup xs)) := fun t xs l e ho nt => q _ t l (by rw [e]; exact SqT.of upd_same) ho (I7.same (same_new nt)).dw (I7.same (same_new nt)).fr
                      rcases hwo with rfl | rfl | rfl | rfl | rfl | rfl | rfl | rfl | rfl | rfl
                      · refine iIf ?_
                        wtm_at "go"
                        refine iIf ?_
                        wtm_at "go"
                        intro t nt
                        exact fin t _ (.veil nm) rfl hnm nt
                      · refine iIf ?_
                        wtm_at "go"
                        refine iIf ?_
                        wtm_at "go"
                        intro t nt
                        exact fin t _ (.unveil nm) rfl hnm nt
                      · refine iIf ?_
                        wtm_at "go"
                        refine iIf ?_
                        wtm_at "go"
                        intro t nt
                        exact fin t _ (.unveil nm) rfl hnm nt
                      · refine iIf ?_
                        wtm_at "go"
                        intro t nt
                        exact fin t _ (.tie nm ot) rfl ⟨hnm, hot⟩ nt
                      · refine iIf ?_
                        wtm_at "go"
                        refine iIf ?_
                        wtm_at "go"
                        intro t nt
                        exact fin t _ (.drop nm) rfl hnm nt
                      · refine iIf ?_
                        wtm_at "go"
                        refine iIf ?_
                        wtm_at "go"
                        intro t nt
                        exact fin t _ (.hold nm) rfl hnm nt
                      · refine iIf ?_
                        wtm_at "go"
                        refine iIf ?_
                        wtm_at "go"
                        intro t nt
                        exact fin t _ (.shw nm) rfl hnm nt
                      · refine iIf ?_
                        wtm_at "go"
                        refine iIf ?_
                        wtm_at "go"
                        intro t nt
                        exact fin t _ (.shw nm) rfl hnm nt
                      · refine iIf ?_
                        wtm_at "go"
                        refine iIf ?_
                        wtm_at "go"
                        intro t nt
                        exact fin t _ (.shw nm) rfl hnm nt
                      · refine iIf ?_
                        wtm_at "go"
                        refine iIf ?_
                        wtm_at "go"
                        intro t nt
                        exact fin t _ .lt rfl trivial nt
end

/-! ### an odd letter, a book -/
def LtT (K : PySem.W.Frag) (H : Hp) (v : V) (l : Lt) : Prop := ∃ t, v = .ref t ∧ SqT K H t l.vs
theorem LtT.fr {K : PySem.W.Frag} {H H' : Hp} {S : List Addr} {v : V} {l : Lt} (f : Fr S H H') (h : LtT K H v l) : LtT K H' v l := let ⟨t, e, q⟩ := h; ⟨t, e, f.sqT q⟩
structure OD (K : PySem.W.Frag) (H0 : Hp) (ph pl : Addr) (xs : List V) (ls : List Lt) (H : Hp) : Prop where
  dw : Drw H ph pl
  fr : Fr [ph, pl] H0 H
  ps : Paired (LtT K H) xs ls
  ok : ∀ l ∈ ls, l.ok
section
variable {K : PySem.W.Frag} {H0 H H' : Hp} {ph pl p : Addr} {xs : List V} {ls : List Lt} {Q : VK} {σ : L2.St}
theorem OD.same (h : OD K H0 ph pl xs ls H) (s : Same H H') : OD K H0 ph pl xs ls H' := ⟨h.dw.same s, h.fr.trans (Fr.same s), pMap h.ps fun _ _ z => z.fr (Fr.same (S := []) s), h.ok⟩
theorem OD.step (h : OD K H0 ph pl xs ls H) (d : Drw H' ph pl) (f : Fr [ph, pl] H H') : OD K H0 ph pl xs ls H' := ⟨d, h.fr.trans f, pMap h.ps fun _ _ z => z.fr f, h.ok⟩
theorem OD.snoc (h : OD K H0 ph pl xs ls H) {t : Addr} (n : H t = none) {l : Lt} (ho : l.ok) : OD K H0 ph pl (xs ++ [.ref t]) (ls ++ [l]) (upd H t (.tup l.vs)) :=
  have h' := h.same (same_new (o := .tup l.vs) n)
  ⟨h'.dw, h'.fr, pSnoc h'.ps ⟨t, rfl, SqT.of upd_same⟩, fun x hx => by
    rcases List.mem_append.mp hx with hx | hx
    · exact h.ok x hx
    · rw [List.mem_singleton.mp hx]; exact ho⟩
theorem vs_le (l : Lt) : l.vs.length ≤ 7 := by cases l <;> simp [Lt.vs, Lt.nums]
theorem iTupO {t : TA} (h : OD K H0 ph pl xs ls H) (l : Lt) (ho : l.ok) (ht : ∀ R : List V → Hp → Prop, R l.vs H → t σ H R) (q : ∀ p H', Same H H' → OD K H0 ph pl (xs ++ [.ref p]) (ls ++ [l]) H' → Q (.ref p) H') : tTup t σ H Q :=
  ht _ ⟨Nat.le_trans (vs_le l) (by decide), fun p np => q p _ (same_new np) (h.snoc np ho)⟩
end
theorem Fr.trans2 {S : List Addr} {H0 H H' : Hp} {p : Addr} (f : Fr S H0 H) (g : Fr [p] H H') (n : H0 p = none) : Fr S H0 H' :=
  ⟨fun a o e z => g.at_ _ _ (f.at_ _ _ e z) fun z2 => (by rw [List.mem_singleton.mp z2, n] at e; cases e), fun a xs e => g.tu _ _ (f.tu _ _ e), fun a o u e => g.fz _ _ _ (f.fz _ _ _ e), fun a e => f.dm _ (g.dm _ e)⟩
def spOdd (K : PySem.W.Frag) : Sp := fun vs H Q _ => ∃ ph pl pw, vs = [.ref ph, pw] ∧ Drw H ph pl ∧ ∀ H' t l, SqT K H' t (Lt.vs l) → l.ok → Drw H' ph pl → Fr [ph, pl] H H' → Q (.ref t) H'
section
variable {P : Program} {w : World} {K : PySem.W.Frag} {mg : Str → Option Value} {base : Heap}
theorem ok_law_odd (T : Tx w K mg) : Cal P w K mg base 2 "_law_odd" (spOdd K) [] := by
  refine mk_law_odd T (fun vs H Q E h => ?_) (fun cdv A outer s H vs Q E hr h => ?_)
  · obtain ⟨ph, pl, pw, rfl, _⟩ := h
    rfl
  · obtain ⟨ph, pl, pw, rfl, hD, q⟩ := h
    refine ⟨_, (pss_cons (ps_set (i := 2) sc_law_odd.nd rfl (.inl rfl) (pe_c (ok_law_next T) hr (by omega) rfl (pa_cons (pv 0) (pa_cons pe_int pa_nil))))
  (pss_cons (ps_set (i := 3) sc_law_odd.nd rfl (.inl rfl) (pe_lst (pa_cons (pe_tup (pa_cons pe_str (pa_cons (pv 2) pa_nil))) (pa_cons (pe_tup (pa_cons pe_str (pa_cons (pv 2) pa_nil))) (pa_cons (pe_tup (pa_cons pe_str (pa_cons (pv 2) (pa_cons pe_int (pa_cons pe_int pa_nil))))) (pa_cons (pe_tup (pa_cons pe_str (pa_cons (pv 2) (pa_cons pe_int (pa_cons pe_int (pa_cons pe_int (pa_cons pe_int (pa_cons pe_int pa_nil)))))))) pa_nil))))))
  (pss_cons (ps_expr (pe_bm PySem.F.plainAttrs_list PySem.F.slot_list_append PySem.F.type_list_append mt_append (pv 3) (pa_cons (pe_tup (pa_cons pe_str (pa_cons (pv 2) (pa_cons pe_int (pa_cons pe_int pa_nil))))) pa_nil)))
  (pss_cons (ps_set (i := 3) sc_law_odd.nd rfl (.inl rfl) (pe_op op_cat (pv 3) (pe_lst (pa_cons (pe_tup (pa_cons pe_str (pa_cons (pv 2) (pa_cons pe_int pa_nil)))) (pa_cons (pe_tup (pa_cons pe_str (pa_cons (pv 2) pa_nil))) (pa_cons (pe_tup (pa_cons pe_str (pa_cons (pv 2) pa_nil))) (pa_cons (pe_tup (pa_cons pe_str (pa_cons (pv 2) (pa_cons (pe_c (ok_law_next T) hr (by omega) rfl (pa_cons (pv 0) (pa_cons pe_int pa_nil))) pa_nil)))) (pa_cons (pe_tup (pa_cons pe_str (pa_cons (pv 2) pa_nil))) pa_nil))))))))
  (pss_one (ps_ret (pe_ix ix_list (pe_op op_cat (pv 3) (pe_lst (pa_cons (pe_tup (pa_cons pe_str (pa_cons (pv 2) pa_nil))) (pa_cons (pe_tup (pa_cons pe_str (pa_cons (pv 2) (pa_cons pe_int (pa_cons pe_int (pa_cons pe_int (pa_cons pe_int (pa_cons pe_int pa_nil)))))))) pa_nil)))) (pe_c (ok_law_next T) hr (by omega) rfl (pa_cons (pv 0) (pa_cons pe_int pa_nil))) (fun _ _ => rfl)))))))), ?_⟩
    rw [st_law_odd]
    wtm_at "go"
    refine iNx hD (by omega) (by omega) fun H1 n d1 f1 n0 n1 => ?_
    have hn : Nm n := ⟨n0, by omega⟩
    have I0 : OD K H ph pl [] [] H1 := ⟨d1, f1, .nil, fun _ h => nomatch h⟩
    refine nName (by wtm_at "st") ?_
    refine iSeq ?_
    refine iAsg ?_
    refine iLst ?_
    refine iCons ?_
    refine iTupO I0 (.make n) hn (fun R h => (by wtm_at "go"; exact h)) fun t1 H2 _ I1 => ?_
    refine iCons ?_
    refine iTupO I1 (.drop n) hn (fun R h => (by wtm_at "go"; exact h)) fun t2 H3 _ I2 => ?_
    refine iCons ?_
    refine iTupO I2 (.size n 2 2) ⟨hn, by omega, by omega⟩ (fun R h => (by wtm_at "go"; exact h)) fun t3 H4 _ I3 => ?_
    refine iCons ?_
    refine iTupO I3 (.paint n 11 7 1 1 3) ⟨hn, by omega, by omega, by omega, by omega, by omega⟩ (fun R h => (by wtm_at "go"; exact h)) fun t4 H5 _ I4 => ?_
    wtm_at "go"
    intro p np
    have J4 := I4.same (same_new (o := .lst [.ref t1, .ref t2, .ref t3, .ref t4]) np)
    have hp : upd H5 p (.lst [.ref t1, .ref t2, .ref t3, .ref t4]) p = some (.lst [.ref t1, .ref t2, .ref t3, .ref t4]) := upd_same
    generalize upd H5 p (.lst [.ref t1, .ref t2, .ref t3, .ref t4]) = H6 at J4 hp
    refine nName (by wtm_at "st") ?_
    refine iSeq ?_
    refine iDrop ?_
    refine iBM ?_
    refine gVar ?_
    refine ⟨_, rfl, gTyL ⟨_, SqL.of hp⟩ ?_⟩
    refine iCons ?_
    refine iTupO J4 (.place n 0 0) ⟨hn, by omega, by omega⟩ (fun R h => (by wtm_at "go"; exact h)) fun t5 H7 s7 I5 => ?_
    refine iNil ?_
    refine gAppend ⟨_, s7 _ _ hp, by simp [sizeLine_eq], ?_⟩
    have f8 := Fr.set (S := [p]) (o := .lst ([.ref t1, .ref t2, .ref t3, .ref t4] ++ [.ref t5])) (s7 _ _ hp) rfl (by simp)
    have hp8 : upd H7 p (.lst ([.ref t1, .ref t2, .ref t3, .ref t4] ++ [.ref t5])) p = some (.lst [.ref t1, .ref t2, .ref t3, .ref t4, .ref t5]) := upd_same
    have npd := I4.dw.ne np
    have npH : H p = none := I4.fr.free np
    have I8 : OD K H ph pl [.ref t1, .ref t2, .ref t3, .ref t4, .ref t5] [.make n, .drop n, .size n 2 2, .paint n 11 7 1 1 3, .place n 0 0] (upd H7 p (.lst ([.ref t1, .ref t2, .ref t3, .ref t4] ++ [.ref t5]))) := by
      refine ⟨?_, I5.fr.trans2 f8 npH, pMap I5.ps fun _ _ z => z.fr f8, I5.ok⟩
      obtain ⟨m, cs, k, a, b, c⟩ := I5.dw
      exact ⟨m, cs, k, f8.at_ _ _ a (fun z => npd (by rw [List.mem_singleton.mp z] ; simp)), f8.at_ _ _ b (fun z => npd (by rw [List.mem_singleton.mp z] ; simp)), c⟩
    generalize upd H7 p (.lst ([.ref t1, .ref t2, .ref t3, .ref t4] ++ [.ref t5])) = H8 at hp8 I8
    refine iSeq ?_
    refine iAsg ?_
    refine iOp ?_
    refine gVar ⟨_, rfl, ?_⟩
    refine iLst ?_
    refine iCons ?_
    refine iTupO I8 (.rank n 1) ⟨hn, by omega, by omega⟩ (fun R h => (by wtm_at "go"; exact h)) fun t6 H9 s9 I9 => ?_
    refine iCons ?_
    refine iTupO I9 (.veil n) hn (fun R h => (by wtm_at "go"; exact h)) fun t7 HA sA IA => ?_
    refine iCons ?_
    refine iTupO IA (.unveil n) hn (fun R h => (by wtm_at "go"; exact h)) fun t8 HB sB IB => ?_
    wtm_at "go"
    refine iNx IB.dw (by omega) (by omega) fun HC o dC fC o0 o1 => ?_
    have IC := IB.step dC fC
    have hpC := fC.at_ _ _ (sB _ _ (sA _ _ (s9 _ _ hp8))) npd
    wtm_at "go"
    intro t9 n9
    have ID := IC.snoc n9 (l := .tie n o) ⟨hn, o0, by omega⟩
    have hpD := same_new (o := .tup [.str "tie", .int n, .int o]) n9 _ _ hpC
    have ID : OD K H ph pl _ _ (upd HC t9 (.tup [.str "tie", .int n, .int o])) := ID
    generalize upd HC t9 (.tup [.str "tie", .int n, .int o]) = HD at ID hpD
    refine iCons ?_
    refine iTupO ID (.shw n) hn (fun R h => (by wtm_at "go"; exact h)) fun ta HE sE IE => ?_
    wtm_at "go"
    intro p2 np2
    refine gCat ⟨_, same_new np2 _ _ (sE _ _ hpD), _, upd_same, by simp [sizeLine_eq], fun p3 np3 => ?_⟩
    have IF := (IE.same (same_new (o := .lst [.ref t6, .ref t7, .ref t8, .ref t9, .ref ta]) np2)).same (same_new (o := .lst ([.ref t1, .ref t2, .ref t3, .ref t4, .ref t5] ++ [.ref t6, .ref t7, .ref t8, .ref t9, .ref ta])) np3)
    have hpF : upd (upd HE p2 (.lst [.ref t6, .ref t7, .ref t8, .ref t9, .ref ta])) p3 (.lst ([.ref t1, .ref t2, .ref t3, .ref t4, .ref t5] ++ [.ref t6, .ref t7, .ref t8, .ref t9, .ref ta])) p3 = some (.lst [.ref t1, .ref t2, .ref t3, .ref t4, .ref t5, .ref t6, .ref t7, .ref t8, .ref t9, .ref ta]) := upd_same
    generalize upd (upd HE p2 (.lst [.ref t6, .ref t7, .ref t8, .ref t9, .ref ta])) p3 (.lst ([.ref t1, .ref t2, .ref t3, .ref t4, .ref t5] ++ [.ref t6, .ref t7, .ref t8, .ref t9, .ref ta])) = HF at IF hpF
    refine nName (by wtm_at "st") ?_
    refine iRet ?_
    refine iOp ?_
    refine iOp ?_
    refine gVar ⟨_, rfl, ?_⟩
    refine iLst ?_
    refine iCons ?_
    refine iTupO IF (.hold n) hn (fun R h => (by wtm_at "go"; exact h)) fun tb HG sG IG => ?_
    refine iCons ?_
    refine iTupO IG (.paint n 0 0 12 8 1) ⟨hn, by omega, by omega, by omega, by omega, by omega⟩ (fun R h => (by wtm_at "go"; exact h)) fun tc HI sI II => ?_
    wtm_at "go"
    intro p4 np4
    refine gCat ⟨_, same_new np4 _ _ (sI _ _ (sG _ _ hpF)), _, upd_same, by simp [sizeLine_eq], fun p5 np5 => ?_⟩
    have IJ := (II.same (same_new (o := .lst [.ref tb, .ref tc]) np4)).same (same_new (o := .lst ([.ref t1, .ref t2, .ref t3, .ref t4, .ref t5, .ref t6, .ref t7, .ref t8, .ref t9, .ref ta] ++ [.ref tb, .ref tc])) np5)
    have hpJ : upd (upd HI p4 (.lst [.ref tb, .ref tc])) p5 (.lst ([.ref t1, .ref t2, .ref t3, .ref t4, .ref t5, .ref t6, .ref t7, .ref t8, .ref t9, .ref ta] ++ [.ref tb, .ref tc])) p5 = some (.lst [.ref t1, .ref t2, .ref t3, .ref t4, .ref t5, .ref t6, .ref t7, .ref t8, .ref t9, .ref ta, .ref tb, .ref tc]) := upd_same
    have n5d := II.dw.ne ((same_new (o := .lst [.ref tb, .ref tc]) np4).free np5)
    generalize upd (upd HI p4 (.lst [.ref tb, .ref tc])) p5 (.lst ([.ref t1, .ref t2, .ref t3, .ref t4, .ref t5, .ref t6, .ref t7, .ref t8, .ref t9, .ref ta] ++ [.ref tb, .ref tc])) = HJ at IJ hpJ
    wtm_at "go"
    refine iNx IJ.dw (by omega) (by omega) fun HK r dK fK r0 r1 => ?_
    have IK := IJ.step dK fK
    obtain ⟨l, hl, t, et, ht⟩ := pGetL IK.ps (i := r.toNat) (List.getElem?_eq_getElem (by simp; omega))
    refine iIxL (SqL.of (fK.at_ _ _ hpJ n5d)) (at_of (j := r.toNat) (by omega) ?_) (q _ t l ht (IK.ok _ (List.mem_of_getElem? hl)) IK.dw IK.fr)
    rw [← et]
    exact List.getElem?_eq_getElem _
end

theorem Fr.trans3 {S S2 : List Addr} {H0 H H' : Hp} (f : Fr S H0 H) (g : Fr S2 H H') (n : ∀ a ∈ S2, H0 a = none) : Fr S H0 H' :=
  ⟨fun a o e z => g.at_ _ _ (f.at_ _ _ e z) fun z2 => (by rw [n a z2] at e; cases e), fun a xs e => g.tu _ _ (f.tu _ _ e), fun a o u e => g.fz _ _ _ (f.fz _ _ _ e), fun a e => f.dm _ (g.dm _ e)⟩
theorem Drw.fr {S : List Addr} {H H' : Hp} {ph pl : Addr} (h : Drw H ph pl) (f : Fr S H H') (n : ph ∉ S) (n2 : pl ∉ S) : Drw H' ph pl := by
  obtain ⟨m, cs, k, a, b, c⟩ := h
  exact ⟨m, cs, k, f.at_ _ _ a n, f.at_ _ _ b n2, c⟩
theorem wat_nil {K : PySem.W.Frag} {H : Hp} {p : Addr} (h : H p = some (.dK [])) : WAt K H p [] := ⟨h, (fun _ h => nomatch h), List.nodup_nil, List.nodup_nil, (fun _ h => nomatch h), Nat.zero_le _⟩
def BkT (K : PySem.W.Frag) (H : Hp) (v : V) (ls : List Lt) : Prop := ∃ b xs, v = .ref b ∧ H b = some (.lst xs) ∧ Paired (LtT K H) xs ls
/-- a book's loop -/
structure BI (K : PySem.W.Frag) (H0 H : Hp) (ph pl pw pb : Addr) (i : Nat) : Prop where
  dw : Drw H ph pl
  fr : Fr [ph, pl] H0 H
  wa : ∃ L, WAt K H pw L ∧ WfW (wd L) ∧ (∀ a ∈ fpW pw L, a ∉ [ph, pl]) ∧ pb ∉ fpW pw L ∧ ∀ a ∈ fpW pw L, H0 a = none
  bk : ∃ xs ls, H pb = some (.lst xs) ∧ Paired (LtT K H) xs ls ∧ (∀ l ∈ ls, Lt.ok l) ∧ ls.length = i
  nb : H0 pb = none
  np : pb ∉ [ph, pl]
theorem BI.draw {K : PySem.W.Frag} {H0 H H' : Hp} {ph pl pw pb : Addr} {i : Nat} (I : BI K H0 H ph pl pw pb i) (d : Drw H' ph pl) (f : Fr [ph, pl] H H') : BI K H0 H' ph pl pw pb i := by
  obtain ⟨L, hW, hF, hna, hpb, hnew⟩ := I.wa
  obtain ⟨xs, ls, hb, hps, hlo, hll⟩ := I.bk
  exact ⟨d, I.fr.trans f, ⟨L, hW.fr f hna, hF, hna, hpb, hnew⟩, ⟨xs, ls, f.at_ _ _ hb I.np, pMap hps fun _ _ z => z.fr f, hlo, hll⟩, I.nb, I.np⟩
def spBook (K : PySem.W.Frag) : Sp := fun vs H Q _ => ∃ ph pl many, vs = [.ref ph, .int many] ∧ Drw H ph pl ∧ 0 ≤ many ∧ many ≤ 250 ∧ ∀ H' b xs ls, H' b = some (.lst xs) → H b = none → Paired (LtT K H') xs ls → (∀ l ∈ ls, Lt.ok l) → (ls.length : Int) ≤ many → Drw H' ph pl → Fr [ph, pl] H H' → Q (.ref b) H'
section
variable {P : Program} {w : World} {K : PySem.W.Frag} {mg : Str → Option Value} {base : Heap}
theorem ok_law_book (T : Tx w K mg) : Cal P w K mg base 7 "_law_book" (spBook K) [] := by
  refine mk_law_book T (fun vs H Q E h => ?_) (fun cdv A outer s H vs Q E hr h => ?_)
  · obtain ⟨ph, pl, many, rfl, _⟩ := h
    rfl
  · obtain ⟨ph, pl, many, rfl, hD, m0, m1, q⟩ := h
    refine ⟨_, (pss_cons (ps_set (i := 2) sc_law_book.nd rfl (.inl rfl) pe_dnewK)
  (pss_cons (ps_set (i := 3) sc_law_book.nd rfl (.inl rfl) (pe_lst pa_nil))
  (pss_cons (ps_set (i := 4) sc_law_book.nd rfl (.inl rfl) (pe_ix ix_list (pe_lst (pa_cons pe_int (pa_cons pe_int (pa_cons pe_int pa_nil)))) (pe_c (ok_law_next T) hr (by omega) rfl (pa_cons (pv 0) (pa_cons pe_int pa_nil))) (fun _ _ => rfl)))
  (pss_cons (ps_for PassesOwn.never rfl (pi_range1 rfl (f_range T) (pa_cons (pe_c (ok_law_next T) hr (by omega) rfl (pa_cons (pv 0) (pa_cons (pe_op op_add (pv 1) pe_int) pa_nil))) pa_nil)) (pg_name (i := 5) sc_law_book.nd rfl (.inl rfl)) (pss_cons (ps_set (i := 6) sc_law_book.nd rfl (.inl rfl) (pe_ifExp (PW.pt (pw_and (pt_cmpR op_gt (pv 4) pe_int (nomark _)) (pw_and1 (pt_cmpR op_eq (pe_c (ok_law_next T) hr (by omega) rfl (pa_cons (pv 0) (pa_cons (pv 4) pa_nil))) pe_int (nomark _))))) (pe_c (ok_law_odd T) hr (by omega) rfl (pa_cons (pv 0) (pa_cons (pv 2) pa_nil))) (pe_c (ok_law_letter T) hr (by omega) rfl (pa_cons (pv 0) (pa_cons (pv 2) pa_nil)))))
  (pss_cons (ps_expr (pe_bm PySem.F.plainAttrs_list PySem.F.slot_list_append PySem.F.type_list_append mt_append (pv 3) (pa_cons (pv 6) pa_nil)))
  (pss_one (ps_if (pt_not (pt_val (pe_ix ix_tup (pe_c (ok_law_does T) hr (by omega) rfl (pa_cons (pv 2) (pa_cons (pv 6) pa_nil))) pe_int (fun _ _ => rfl)))) (pss_one (ps_set (i := 2) sc_law_book.nd rfl (.inl rfl) pe_dnewK)) pss_nil)))))
  (pss_one (ps_ret (pv 3))))))), ?_⟩
    rw [st_law_book]
    wtm_at "go"
    intro pw npw
    wtm_at "go"
    intro pb npb
    have hD1 := (hD.same (same_new (o := .dK []) npw)).same (same_new (o := .lst []) npb)
    have npwH := npw
    have npbH := (same_new npw).free npb
    have hbw : pb ≠ pw := Ne.symm (ne_of_none (upd_same (a := pw)) npb)
    have I0 : BI K H (upd (upd H pw (.dK [])) pb (.lst [])) ph pl pw pb 0 := by
      refine ⟨hD1, (Fr.new npw).trans (Fr.new npb), ⟨[], wat_nil (hUpd (Ne.symm hbw) upd_same), wf_nil, ?_, ?_, ?_⟩, ⟨[], [], upd_same, .nil, (fun _ h => nomatch h), rfl⟩, npbH, hD.ne npbH⟩
      · intro a ha
        rw [List.mem_singleton.mp (show a ∈ [pw] from ha)]
        exact hD.ne npw
      · intro z
        exact hbw (List.mem_singleton.mp (show pb ∈ [pw] from z))
      · intro a ha
        rw [List.mem_singleton.mp (show a ∈ [pw] from ha)]
        exact npw
    show gName _ _ _ (upd (upd H pw (.dK [])) pb (.lst [])) _
    generalize upd (upd H pw (.dK [])) pb (.lst []) = H1 at I0
    wtm_at "go"
    refine iPick [1, 40, 400] rfl I0.dw rfl (by simp) (by simp) fun H2 od d2 f2 ho => ?_
    have ho : 1 ≤ od ∧ od ≤ 400 := by simp at ho; omega
    have I2 := I0.draw d2 f2
    wtm_at "go"
    refine iNx d2 (by omega) (by omega) fun H3 n d3 f3 n0 n1 => ?_
    have I3 := I2.draw d3 f3
    wtm_at "go"
    refine eForR (lo := 0) (n := n.toNat) (fun i σ H' => ∃ y5 y6 pw, σ = [some (.ref ph), some (.int many), some (.ref pw), some (.ref pb), some (.int od), y5, y6] ∧ BI K H H' ph pl pw pb i) ⟨_, _, _, rfl, I3⟩ ?_ ?_
    · rintro i σ H4 hi ⟨y5, y6, pw, rfl, I4⟩
      obtain ⟨L, hW, hF, hna, hpb, hnew⟩ := I4.wa
      wtm_at "go"
      refine iIfK (fun v H' => ∃ t l, v = .ref t ∧ SqT K H' t (Lt.vs l) ∧ l.ok ∧ Drw H' ph pl ∧ Fr [ph, pl] H4 H') (fun Q' k' => ?_) (fun v H5 hv => ?_)
      · refine iTK (fun b H' => Drw H' ph pl ∧ Fr [ph, pl] H4 H') (fun R' k2 => ?_) ?_
        · wtm_at "go"
          first | refine iteD (fun e => ?_) (fun e => ?_) | refine iteN (fun e => ?_) (fun e => ?_) | refine ite2 (fun e => ?_) (fun e => ?_)
          · wtm_at "go"
            refine iNx I4.dw (by omega) (by omega) fun H5 r d5 f5 r0 r1 => ?_
            wtm_at "go"
            exact k2 _ _ ⟨d5, f5⟩
          · exact k2 _ _ ⟨I4.dw, Fr.refl⟩
        · rintro b H5 ⟨d5, f5⟩
          cases b with
          | true =>
            wtm_at "go"
            exact ⟨ph, pl, _, rfl, d5, fun H6 t l ht ho d6 f6 => k' _ _ ⟨t, l, rfl, ht, ho, d6, f5.trans f6⟩⟩
          | false =>
            wtm_at "go"
            exact ⟨ph, pl, pw, L, rfl, d5, hW.fr f5 hna, hF, hna, fun H6 t l ht ho d6 f6 => k' _ _ ⟨t, l, rfl, ht, ho, d6, f5.trans f6⟩⟩
      · obtain ⟨t, l, rfl, ht, hok, d5, f5⟩ := hv
        obtain ⟨xs, ls, hb, hps, hlo, hll⟩ := I4.bk
        have hb5 := f5.at_ _ _ hb I4.np
        have I5 := I4.draw d5 f5
        obtain ⟨xs, ls, hb5, hps5, hlo, hll⟩ := I5.bk
        have W5 := hW.fr f5 hna
        wtm_at "go"
        refine gAppend ⟨xs, hb5, ?_, ?_⟩
        · have := pLen hps5
          exact Nat.lt_of_le_of_lt (show xs.length ≤ 250 by omega) (by decide)
        have f6 : Fr [pb] H5 (upd H5 pb (.lst (xs ++ [.ref t]))) := Fr.set hb5 rfl (by simp)
        have hb6 : upd H5 pb (.lst (xs ++ [.ref t])) pb = _ := upd_same
        have hps6 := pSnoc (pMap hps5 fun _ _ z => z.fr f6) (a := .ref t) (b := l) ⟨t, rfl, f6.sqT ht⟩
        have hnph : ph ∉ [pb] := fun z => I4.np (by rw [List.mem_singleton.mp z]; simp)
        have hnpl : pl ∉ [pb] := fun z => I4.np (by rw [List.mem_singleton.mp z]; simp)
        have d6 := d5.fr f6 hnph hnpl
        have W6 := W5.fr f6 fun a ha z => hpb (by rw [← List.mem_singleton.mp z]; exact ha)
        have ht6 := f6.sqT ht
        have fr6 := I5.fr.trans3 f6 (by simpa using I4.nb)
        generalize upd H5 pb (.lst (xs ++ [.ref t])) = H6 at hb6 hps6 d6 W6 ht6 fr6
        wtm_at "go"
        refine ⟨pw, t, L, l, rfl, W6, hF, ht6, hok, fun H7 L7 t7 p1 p2 D n1 n2 m1 m2 hq e1 e2 => ?_⟩
        have hna7 : ∀ a ∈ fpW pw L7, a ∉ [ph, pl] := fun a ha => by
          rcases D.fp a ha with h | h
          · exact hna a h
          · exact d6.ne h
        have hpb7 : pb ∉ fpW pw L7 := fun z => by
          rcases D.fp _ z with h | h
          · exact hpb h
          · rw [hb6] at h; cases h
        have hnew7 : ∀ a ∈ fpW pw L7, H a = none := fun a ha => by
          rcases D.fp a ha with h | h
          · exact hnew a h
          · exact fr6.free h
        have hph : ph ∉ fpW pw L := fun z => hna _ z (by simp)
        have hpl : pl ∉ fpW pw L := fun z => hna _ z (by simp)
        have I7 : BI K H H7 ph pl pw pb (i + 1) := ⟨d6.fr D.fr hph hpl, fr6.trans3 D.fr hnew, ⟨L7, D.at_, by rw [D.is]; exact hF.aft hok, hna7, hpb7, hnew7⟩,
          ⟨xs ++ [.ref t], ls ++ [l], D.fr.at_ _ _ hb6 hpb, pMap hps6 fun _ _ z => z.fr D.fr, fun x hx => by
            rcases List.mem_append.mp hx with h | h
            · exact hlo x h
            · rw [List.mem_singleton.mp h]; exact hok, by rw [List.length_append, hll]; rfl⟩, I4.nb, I4.np⟩
        wtm_at "go"
        cases eb : (does (wd L) l).isSome with
        | true =>
          wtm_at "go"
          exact ⟨_, _, _, rfl, I7⟩
        | false =>
          wtm_at "go"
          intro pw2 npw2
          wtm_at "go"
          refine ⟨_, _, pw2, rfl, ?_⟩
          obtain ⟨xs7, ls7, hb7, hps7, hlo7, hll7⟩ := I7.bk
          have s8 := same_new (o := .dK []) npw2
          refine ⟨I7.dw.same s8, I7.fr.trans (Fr.same s8), ⟨[], wat_nil upd_same, wf_nil, ?_, ?_, ?_⟩, ⟨xs7, ls7, s8 _ _ hb7, pMap hps7 fun _ _ z => z.fr (Fr.same (S := []) s8), hlo7, hll7⟩, I4.nb, I4.np⟩
          · intro a ha
            rw [List.mem_singleton.mp (show a ∈ [pw2] from ha)]
            exact I7.dw.ne npw2
          · intro z
            rw [List.mem_singleton.mp (show pb ∈ [pw2] from z), npw2] at hb7
            cases hb7
          · intro a ha
            rw [List.mem_singleton.mp (show a ∈ [pw2] from ha)]
            exact I7.fr.free npw2
    · rintro σ H4 ⟨y5, y6, pw, rfl, I4⟩
      wtm_at "go"
      obtain ⟨xs, ls, hb, hps, hlo, hll⟩ := I4.bk
      exact q _ pb xs ls hb I4.nb hps hlo (by omega) I4.dw I4.fr
end

/-! ### numbers, letters: those that can be -/
def spIsNum : Sp := fun vs H Q _ => ∃ p lo hi : Int, vs = [.int p, .int lo, .int hi] ∧ Q (.bl (decide (lo ≤ p) && decide (p ≤ hi))) H
section
variable {P : Program} {w : World} {K : PySem.W.Frag} {mg : Str → Option Value} {base : Heap}
theorem ok_is_number (T : Tx w K mg) : Cal P w K mg base 1 "is_number" spIsNum [] := by
  refine mk_is_number T (fun vs H Q E h => ?_) (fun cdv A outer s H vs Q E hr h => ?_)
  · obtain ⟨p, lo, hi, rfl, _⟩ := h
    rfl
  · obtain ⟨p, lo, hi, rfl, q⟩ := h
    refine ⟨_, (pss_one (ps_ret (pe_and (pe_callB call_isi (by rfl) (f_isinstance T) (by decide +kernel) (pa_cons (pv 0) (pa_cons (pe_bltn (v := .ty "int") (u := .type "int") (by rfl) (f_int T) (by decide +kernel) rfl) pa_nil))) (pe_and (pe_not (pe_callB call_isi (by rfl) (f_isinstance T) (by decide +kernel) (pa_cons (pv 0) (pa_cons (pe_bltn (v := .ty "bool") (u := .type "bool") (by rfl) (f_bool T) (by decide +kernel) rfl) pa_nil)))) (pe_one (pe_chain op_le op_le (pv 1) (pv 0) (pv 2))))))), ?_⟩
    rw [st_is_number]
    wtm_at "go"
    wtm_at "ii"
    wtm_at "go"
    wtm_at "ii"
    wtm_at "go"
    first | refine iteD (fun e => ?_) (fun e => ?_) | refine iteN (fun e => ?_) (fun e => ?_) | refine ite2 (fun e => ?_) (fun e => ?_)
    · rw [decide_eq_true e] at q
      wtm_at "go"
      exact q
    · rw [decide_eq_false e] at q
      exact q
end
def Lt.form : Lt → Str
  | .make _ => "n" | .drop _ => "n" | .size _ _ _ => "nWH" | .paint _ _ _ _ _ _ => "nxyWHm" | .place _ _ _ => "npp" | .rank _ _ => "nm" | .veil _ => "n" | .unveil _ => "n" | .tie _ _ => "nn" | .shw _ => "n" | .hold _ => "n" | .lt => ""
section
variable {P : Program} {w : World} {K : PySem.W.Frag} {mg : Str → Option Value} {base : Heap}
theorem form_at (T : Tx w K mg) (l : Lt) : ∃ u, PySem.W.nsIn K (He.ga K "FORMS") l.word = some (some u) ∧ RelV (.str l.form) u := by
  cases l
  · exact He.valsB_ok (ex_0 T) (q := ("make", .str "n")) (by simp)
  · exact He.valsB_ok (ex_0 T) (q := ("drop", .str "n")) (by simp)
  · exact He.valsB_ok (ex_0 T) (q := ("size", .str "nWH")) (by simp)
  · exact He.valsB_ok (ex_0 T) (q := ("paint", .str "nxyWHm")) (by simp)
  · exact He.valsB_ok (ex_0 T) (q := ("place", .str "npp")) (by simp)
  · exact He.valsB_ok (ex_0 T) (q := ("rank", .str "nm")) (by simp)
  · exact He.valsB_ok (ex_0 T) (q := ("veil", .str "n")) (by simp)
  · exact He.valsB_ok (ex_0 T) (q := ("unveil", .str "n")) (by simp)
  · exact He.valsB_ok (ex_0 T) (q := ("tie", .str "nn")) (by simp)
  · exact He.valsB_ok (ex_0 T) (q := ("show", .str "n")) (by simp)
  · exact He.valsB_ok (ex_0 T) (q := ("hold", .str "n")) (by simp)
  · exact He.valsB_ok (ex_0 T) (q := ("let", .str "")) (by simp)
def Bnd (K : PySem.W.Frag) (c : Nat) (p : Int) : Prop := ∃ a lo hi, PySem.W.nsIn K (He.ga K "BOUNDS") ⟨#[c]⟩ = some (some (.ref a)) ∧ (∀ H : Hp, SqT K H a [.int lo, .int hi]) ∧ lo ≤ p ∧ p ≤ hi
theorem bnd_of {z : Str} {lo hi p : Int} (h : tupIn K (He.ga K "BOUNDS") z [.int lo, .int hi] = true) {c : Nat} (e : z = ⟨#[c]⟩) (h1 : lo ≤ p) (h2 : p ≤ hi) : Bnd K c p := by
  subst e
  obtain ⟨a, h3, h4⟩ := tupIn_ok h
  exact ⟨a, lo, hi, h3, h4, h1, h2⟩
def okAt (K : PySem.W.Frag) : List Nat → List Int → Prop
  | [], [] => True
  | c :: cs, p :: ps => Bnd K c p ∧ okAt K cs ps
  | _, _ => False
theorem okAt_get : ∀ {cs : List Nat} {ps : List Int} {i : Nat} {c : Nat} {p : Int}, okAt K cs ps → cs[i]? = some c → ps[i]? = some p → Bnd K c p
  | c :: cs, p :: ps, 0, _, _, h, e, e2 => by
    simp at e e2
    subst e e2
    exact h.1
  | c :: cs, p :: ps, i + 1, _, _, h, e, e2 => okAt_get h.2 (by simpa using e) (by simpa using e2)
theorem bn (T : Tx w K mg) {p : Int} (h1 : 0 ≤ p) (h2 : p ≤ 9) : Bnd K 110 p := bnd_of (ex_1 T) (by decide +kernel) h1 h2
theorem bm (T : Tx w K mg) {p : Int} (h1 : 0 ≤ p) (h2 : p ≤ 9) : Bnd K 109 p := bnd_of (ex_2 T) (by decide +kernel) h1 h2
theorem bW (T : Tx w K mg) {p : Int} (h1 : 1 ≤ p) (h2 : p ≤ 12) : Bnd K 87 p := bnd_of (ex_3 T) (by decide +kernel) h1 h2
theorem bH (T : Tx w K mg) {p : Int} (h1 : 1 ≤ p) (h2 : p ≤ 8) : Bnd K 72 p := bnd_of (ex_4 T) (by decide +kernel) h1 h2
theorem bx (T : Tx w K mg) {p : Int} (h1 : 0 ≤ p) (h2 : p ≤ 11) : Bnd K 120 p := bnd_of (ex_5 T) (by decide +kernel) h1 h2
theorem by_ (T : Tx w K mg) {p : Int} (h1 : 0 ≤ p) (h2 : p ≤ 7) : Bnd K 121 p := bnd_of (ex_6 T) (by decide +kernel) h1 h2
theorem bp (T : Tx w K mg) {p : Int} (h1 : -20 ≤ p) (h2 : p ≤ 20) : Bnd K 112 p := bnd_of (ex_7 T) (by decide +kernel) h1 h2
theorem okAt_of (T : Tx w K mg) {l : Lt} (h : l.ok) : okAt K l.form.cps.toList l.nums := by
  cases l with
  | size n a b => exact ⟨bn T h.1.1 h.1.2, bW T h.2.1.1 h.2.1.2, bH T h.2.2.1 h.2.2.2, trivial⟩
  | paint n a b c d e => exact ⟨bn T h.1.1 h.1.2, bx T h.2.1.1 h.2.1.2, by_ T h.2.2.1.1 h.2.2.1.2, bW T h.2.2.2.1.1 h.2.2.2.1.2, bH T h.2.2.2.2.1.1 h.2.2.2.2.1.2, bm T h.2.2.2.2.2.1 h.2.2.2.2.2.2, trivial⟩
  | place n a b => exact ⟨bn T h.1.1 h.1.2, bp T h.2.1.1 h.2.1.2, bp T h.2.2.1 h.2.2.2, trivial⟩
  | rank n a => exact ⟨bn T h.1.1 h.1.2, bm T h.2.1 h.2.2, trivial⟩
  | tie n a => exact ⟨bn T h.1.1 h.1.2, bn T h.2.1 h.2.2, trivial⟩
  | lt => exact trivial
  | _ => exact ⟨bn T h.1 h.2, trivial⟩
theorem form_len (l : Lt) : l.form.length = l.nums.length := by cases l <;> rfl
theorem form_size (l : Lt) : l.form.cps.size = l.nums.length := by cases l <;> rfl
theorem word_ok (l : Lt) : PyData.strOk l.word = true := by cases l <;> (simp only [Lt.word]; decide +kernel)
def spIsLetter (K : PySem.W.Frag) : Sp := fun vs H Q _ => ∃ t l, vs = [.ref t] ∧ SqT K H t (Lt.vs l) ∧ l.ok ∧ ∀ H', Same H H' → Q (.bl true) H'
def spNeed (K : PySem.W.Frag) : Sp := fun vs H Q _ => ∃ t l, vs = [.ref t] ∧ SqT K H t (Lt.vs l) ∧ l.ok ∧ ∀ H', Same H H' → Q .non H'
theorem iEqT1 {p q : Addr} {x : Str} {ns : List Int} {H : Hp} {Q : VK} (h : SqT K H p (.str x :: ns.map V.int)) (h2 : SqT K H q []) (sx : PyData.strOk x = true) (k : Q (.bl false) H) : rEqD K (.ref p) (.ref q) H Q := by
  refine ⟨.tuple (.str x :: ns.map .int), .tuple [], .tup h (.cons (.str x) (dp_ints ns)), .tup h2 .nil, ?_, by decide, ?_⟩
  · simp [SeqAt.shaped, PyData.canLay0, PyData.canLayAll0, canLay_ints, PyData.depth, PyData.depthAll, depth_ints, sx]
  · rw [show PyData.eqv (.tuple (.str x :: ns.map .int)) (.tuple []) = false by simp [PyData.eqv, PyData.eqvAll]]
    exact k
theorem ok_is_letter (T : Tx w K mg) : Cal P w K mg base 2 "is_letter" (spIsLetter K) [] := by
  refine mk_is_letter T (fun vs H Q E h => ?_) (fun cdv A outer s H vs Q E hr h => ?_)
  · obtain ⟨t, l, rfl, _⟩ := h
    rfl
  · obtain ⟨t, l, rfl, hl, hok, q⟩ := h
    refine ⟨_, (pss_cons (ps_if (PW.pt (pw_or (pt_not (pt_val (pe_callB call_isi (by rfl) (f_isinstance T) (by decide +kernel) (pa_cons (pv 0) (pa_cons (pe_bltn (v := .ty "tuple") (u := .type "tuple") (by rfl) (f_tuple T) (by decide +kernel) rfl) pa_nil))))) (pw_or (pt_cmpR (op_eqD hr.units) (pv 0) (pe_tup pa_nil) (nomark _)) (pw_or (pt_not (pt_val (pe_callB call_isi (by rfl) (f_isinstance T) (by decide +kernel) (pa_cons (pe_ix ix_tup (pv 0) pe_int (fun _ _ => rfl)) (pa_cons (pe_bltn (v := .ty "str") (u := .type "str") (by rfl) (f_str T) (by decide +kernel) rfl) pa_nil))))) (pw_or1 (pt_cmpR (op_notInKd (kd_FORMS T)) (pe_ix ix_tup (pv 0) pe_int (fun _ _ => rfl)) (pe_gc (v := .ref (He.ga K "FORMS")) rfl ⟨_, g_FORMS T, rfl⟩) (by rfl))))))) (pss_one (ps_ret pe_bl)) pss_nil)
  (pss_cons (ps_set (i := 1) sc_is_letter.nd rfl (.inl rfl) (pe_ix ix_kdict (pe_gc (v := .ref (He.ga K "FORMS")) rfl ⟨_, g_FORMS T, rfl⟩) (pe_ix ix_tup (pv 0) pe_int (fun _ _ => rfl)) (fun _ _ => rfl)))
  (pss_cons (ps_if (pt_cmpR op_ne (pe_callB c_len (by rfl) (f_len T) (by decide +kernel) (pa_cons (pv 0) pa_nil)) (pe_op op_add (pe_callB c_lenS (by rfl) (f_len T) (by decide +kernel) (pa_cons (pv 1) pa_nil)) pe_int) (nomark _)) (pss_one (ps_ret pe_bl)) pss_nil)
  (pss_one (ps_ret (pe_cmpR (op_eqD hr.units) (pe_lc (own := [("part", 2), ("sort", 3)]) rfl sc_is_letter.nd (pi_zipTS (by rfl) (f_zip T) (pa_cons (pe_slice sl_tupA (pv 0) (po_some pe_int) po_none) (pa_cons (pv 1) pa_nil))) (blkOk_by (N := N_is_letter) (sc := defScope s_is_letter) (by decide +kernel)) (fun _ _ _ _ _ => (pgTupK (K := K) (n := 2) rfl (pgs_cons (pg_name (i := 2) sc_is_letter.nd rfl (.inl rfl)) (pgs_cons (pg_name (i := 3) sc_is_letter.nd rfl (.inl rfl)) pgs_nil)))) (fun _ _ _ _ _ => pts_one (pt_not (pt_val (pe_c (ok_is_number T) hr (by omega) rfl (pa_cons (pv 2) (pa_cons (pe_ix (ixTK (K := K)) (pe_ix (ixDK (K := K) (w := w)) (pe_gc (v := .ref (He.ga K "BOUNDS")) rfl ⟨_, g_BOUNDS T, rfl⟩) (pv 3) (fun _ _ => rfl)) pe_int (fun _ _ => rfl)) (pa_cons (pe_ix (ixTK (K := K)) (pe_ix (ixDK (K := K) (w := w)) (pe_gc (v := .ref (He.ga K "BOUNDS")) rfl ⟨_, g_BOUNDS T, rfl⟩) (pv 3) (fun _ _ => rfl)) pe_int (fun _ _ => rfl)) pa_nil))))))) (fun _ _ _ _ _ => pe_int)) (pe_lst pa_nil) (nomark _))))))), ?_⟩
    rw [st_is_letter]
    obtain ⟨u, hu, ru⟩ := form_at T l
    have h0 : ∀ {H' : Hp}, Same H H' → ∀ {Q' : VK}, Q' (.str l.word) H' → rIxT K (.ref t) (.int 0) H' Q' := fun s _ q => iIxT (sqT_same s hl) (at_of (j := 0) rfl rfl) q
    wtm_at "go"
    refine iIsi (r := true) (tyT hl) (by decide +kernel) ?_
    wtm_at "go"
    intro p np
    have hl1 := sqT_same (same_new (o := .tup []) np) hl
    refine iEqT1 hl1 (SqT.of upd_same) (word_ok l) ?_
    wtm_at "go"
    refine h0 (same_new np) ?_
    wtm_at "go"
    wtm_at "ii"
    wtm_at "go"
    refine h0 (same_new np) ?_
    wtm_at "go"
    refine iNotInKd hu ?_
    wtm_at "go"
    refine h0 (same_new np) ?_
    wtm_at "go"
    refine iIxKd (kd_FORMS T) hu ru ?_
    wtm_at "go"
    have hlen : ((Lt.vs l).length : Int) = (l.form.length : Int) + 1 := by rw [form_len]; simp [Lt.vs]
    have hfl : l.form.length ≤ 6 := by rw [form_len]; cases l <;> simp [Lt.nums]
    refine iLenS (Nat.le_trans hfl (by decide)) ?_
    wtm_at "go"
    refine iteNNo hlen ?_
    wtm_at "go"
    refine iWZ ?_
    wtm_at "go"
    refine iSlA hl1 fun c H2 s2 hc => ?_
    rw [show cutV (Lt.vs l) (some 1) none = l.nums.map V.int from cut_from (n := 1)] at hc
    wtm_at "go"
    refine ⟨c, l.form, _, rfl, hc, fun D nD => ?_⟩
    have hD0 : Same H (upd H2 D (.lst [])) := ((same_new np).trans s2).trans (same_new nD)
    refine eLc (walk_zipTS (xs := l.nums.map V.int) (n := l.nums.length) (by rw [List.length_map, form_size]; omega)) (fun i H' => Same H H' ∧ SqT K H' c (l.nums.map V.int) ∧ H' D = some (.lst [])) ⟨hD0, sqT_same (same_new nD) hc, upd_same⟩ (fun i H' _ h => h.2.1) ?_ ?_
    · rintro i x H3 H4 hi ⟨s3, hc3, hD3⟩ ⟨T', x', ch, rfl, nT, rfl, ex, ec⟩
      rw [List.getElem?_map] at ex
      obtain ⟨m, em, rfl⟩ := Option.map_eq_some_iff.mp ex
      obtain ⟨ba, lo, hi2, b1, b2, b3, b4⟩ := okAt_get (okAt_of T hok) (show l.form.cps.toList[i]? = some ch by simpa using ec) em
      have hp : upd H3 T' (.tup [.int m, .str ⟨#[ch]⟩]) T' = some (.tup [.int m, .str ⟨#[ch]⟩]) := upd_same
      have s4 := same_new (o := .tup [.int m, .str ⟨#[ch]⟩]) nT
      wtm_at "go"
      refine iIxKd (v := .ref ba) (kd_BOUNDS T) b1 rfl ?_
      wtm_at "go"
      refine iIxT (b2 _) (at_of (j := 0) rfl rfl) ?_
      wtm_at "go"
      refine iIxKd (v := .ref ba) (kd_BOUNDS T) b1 rfl ?_
      wtm_at "go"
      refine iIxT (b2 _) (at_of (j := 1) rfl rfl) ?_
      wtm_at "go"
      refine ⟨m, lo, hi2, rfl, ?_⟩
      rw [decide_eq_true b3, decide_eq_true b4]
      wtm_at "go"
      exact ⟨s3.trans s4, sqT_same s4 hc3, s4 _ _ hD3⟩
    · rintro H3 ⟨s3, hc3, hD3⟩
      wtm_at "go"
      intro e ne
      refine iEqDI (ns := []) (ms := []) (SqL.of (same_new ne _ _ hD3)) (SqL.of upd_same) ?_
      exact q _ (s3.trans (same_new ne))
theorem ok_need_letter (T : Tx w K mg) : Cal P w K mg base 3 "need_letter" (spNeed K) [] := by
  refine mk_need_letter T (fun vs H Q E h => ?_) (fun cdv A outer s H vs Q E hr h => ?_)
  · obtain ⟨t, l, rfl, _⟩ := h
    rfl
  · obtain ⟨t, l, rfl, hl, hok, q⟩ := h
    refine ⟨_, (pss_one (ps_if (pt_not (pt_val (pe_c (ok_is_letter T) hr (by omega) rfl (pa_cons (pv 0) pa_nil)))) (pss_one ps_never) pss_nil)), ?_⟩
    rw [st_need_letter]
    wtm_at "go"
    refine ⟨t, l, rfl, hl, hok, fun H1 s1 => ?_⟩
    wtm_at "go"
    exact q _ s1
end

/-! ### alike: the same data -/
def rIxX (K : PySem.W.Frag) : R2 := fun x y H Q => rIxL K x y H Q ∨ rIxT K x y H Q
theorem ixX {X : Cx} {K : PySem.W.Frag} (e : X.K = K := by rfl) : IxR X (rIxX K) := e ▸ ix_list.or ix_tup
theorem kitA2 {K : PySem.W.Frag} {t a b : String} {r1 r2 : Bool} (h1 : kitB t a = some r1) (h2 : kitB t b = some r2) : PySem.W.kitAny K (.type t) [.type a, .type b] = some (r1 || r2) := by
  have e1 := kit_ty (K := K) h1
  have e2 := kit_ty (K := K) h2
  unfold PySem.W.kitAny
  rw [e1]
  cases r1 with
  | true => rfl
  | false =>
    dsimp only
    unfold PySem.W.kitAny
    rw [e2]
    cases r2 <;> rfl
theorem iIsiT {K : PySem.W.Frag} {H : Hp} {Q : VK} {x : V} {tp : Addr} {t a b : String} {r1 r2 : Bool} (hT : H tp = some (.tup [.ty a, .ty b])) (ty : TyX K H x (.type t)) (h1 : kitB t a = some r1) (h2 : kitB t b = some r2) (q : Q (.bl (r1 || r2)) H) : rIsiT K [x, .ref tp] H Q :=
  ⟨x, tp, [.ty a, .ty b], .type t, [.type a, .type b], r1 || r2, rfl, hT, .cons (.ty a) (.cons (.ty b) .nil), ty, kitA2 h1 h2, q⟩
theorem iIsiTN {K : PySem.W.Frag} {H : Hp} {Q : VK} {x : V} {tp : Addr} {t a b : String} (hT : H tp = some (.tup [.ty a, .ty b])) (ty : TyX K H x (.type t)) (h1 : kitB t a = some false) (h2 : kitB t b = some false) (q : Q (.bl false) H) : rIsiT K [x, .ref tp] H Q := iIsiT hT ty h1 h2 q
theorem iIsiTY {K : PySem.W.Frag} {H : Hp} {Q : VK} {x : V} {tp : Addr} {t a b : String} {r1 r2 : Bool} (hT : H tp = some (.tup [.ty a, .ty b])) (ty : TyX K H x (.type t)) (h1 : kitB t a = some r1) (h2 : kitB t b = some r2) (e : (r1 || r2) = true) (q : Q (.bl true) H) : rIsiT K [x, .ref tp] H Q := iIsiT hT ty h1 h2 (by rw [e]; exact q)
theorem iIxXL {K : PySem.W.Frag} {H : Hp} {Q : VK} {p : Addr} {xs : List V} {i : Int} {v : V} (h : SqL K H p xs) (e : atI xs i = some v) (q : Q v H) : rIxX K (.ref p) (.int i) H Q := .inl (iIxL h e q)
theorem iIxXT {K : PySem.W.Frag} {H : Hp} {Q : VK} {p : Addr} {xs : List V} {i : Int} {v : V} (h : SqT K H p xs) (e : atI xs i = some v) (q : Q v H) : rIxX K (.ref p) (.int i) H Q := .inr (iIxT h e q)
theorem iIsNB {i : Bool} {H : Hp} {Q : VK} (q : Q (.bl false) H) : rIsNon (.bl i) .non H Q := ⟨rfl, q⟩
inductive Alk : Nat → PyData → Prop
  | non (n : Nat) : Alk (n + 1) .none
  | int (n : Nat) (i : Int) : Alk (n + 1) (.int i)
  | str (n : Nat) (i : Str) : Alk (n + 1) (.str i)
  | bl (n : Nat) (i : Bool) : Alk (n + 1) (.bool i)
  | lst {n : Nat} {xs : List PyData} (l : xs.length ≤ 1000000) (h : ∀ x ∈ xs, Alk n x) : Alk (n + 1) (.list xs)
  | tup {n : Nat} {xs : List PyData} (l : xs.length ≤ 1000000) (h : ∀ x ∈ xs, Alk n x) : Alk (n + 1) (.tuple xs)
mutual
theorem dpSame {K : PySem.W.Frag} {H H' : Hp} (s : Same H H') : ∀ (d : PyData) (x : V), Dp K H x d → Dp K H' x d
  | .none, _, h => by cases h; exact .non
  | .bool b, _, h => by cases h; exact .bl b
  | .int b, _, h => by cases h; exact .int b
  | .str b, _, h => by cases h; exact .str b
  | .list ds, _, h => by
    cases h with
    | lst a b => exact .lst ((Fr.same (S := []) s).sqL a (by simp)) (dpSameAll s ds _ b)
  | .tuple ds, _, h => by
    cases h with
    | tup a b => exact .tup (sqT_same s a) (dpSameAll s ds _ b)
  | .dict ds, _, h => by cases h
theorem dpSameAll {K : PySem.W.Frag} {H H' : Hp} (s : Same H H') : ∀ (ds : List PyData) (xs : List V), DpAll K H xs ds → DpAll K H' xs ds
  | [], _, h => by cases h; exact .nil
  | d :: ds, _, h => by
    cases h with
    | cons a b => exact .cons (dpSame s d _ a) (dpSameAll s ds _ b)
end
theorem dpAll_len {K : PySem.W.Frag} {H : Hp} : ∀ {ds : List PyData} {xs : List V}, DpAll K H xs ds → xs.length = ds.length
  | [], _, h => by cases h; rfl
  | d :: ds, _, h => by
    cases h with
    | cons a b => rw [List.length_cons, List.length_cons, dpAll_len b]
theorem dpAll_get {K : PySem.W.Frag} {H : Hp} : ∀ {ds : List PyData} {xs : List V} {i : Nat} {d : PyData}, DpAll K H xs ds → ds[i]? = some d → ∃ x, xs[i]? = some x ∧ Dp K H x d
  | [], _, _, _, h, e => by simp at e
  | d :: ds, _, i, _, h, e => by
    cases h with
    | cons a b =>
      cases i with
      | zero => simp at e; subst e; exact ⟨_, rfl, a⟩
      | succ i =>
        obtain ⟨x, h1, h2⟩ := dpAll_get b (by simpa using e)
        exact ⟨x, by simpa using h1, h2⟩
def spAlike (K : PySem.W.Frag) (n : Nat) : Sp := fun vs H Q _ => ∃ x y d, vs = [x, y] ∧ Dp K H x d ∧ Dp K H y d ∧ Alk n d ∧ ∀ H', Same H H' → Q (.bl true) H'
section
variable {P : Program} {w : World} {K : PySem.W.Frag} {mg : Str → Option Value} {base : Heap}
theorem ok_law_alikeF (T : Tx w K mg) : ∀ n, Cal P w K mg base (n + 1) "_law_alike" (spAlike K n) []
  | 0 => mk_law_alike T (fun vs H Q E h => by obtain ⟨x, y, d, rfl, _⟩ := h; rfl) (fun cdv A outer s H vs Q E hr h => by obtain ⟨_, _, _, _, _, _, z, _⟩ := h; cases z)
  | f + 1 => by
    have ih := ok_law_alikeF T f
    refine mk_law_alike T (fun vs H Q E h => ?_) (fun cdv A outer s H vs Q E hr h => ?_)
    · obtain ⟨x, y, d, rfl, _⟩ := h
      rfl
    · obtain ⟨x, y, d, rfl, hx, hy, hd, q⟩ := h
      refine ⟨_, (pss_cons (ps_if (pt_val (pe_callB call_isiT (by rfl) (f_isinstance T) (by decide +kernel) (pa_cons (pv 1) (pa_cons (pe_tup (pa_cons (pe_bltn (v := .ty "tuple") (u := .type "tuple") (by rfl) (f_tuple T) (by decide +kernel) rfl) (pa_cons (pe_bltn (v := .ty "list") (u := .type "list") (by rfl) (f_list T) (by decide +kernel) rfl) pa_nil))) pa_nil)))) (pss_cons (ps_if (PW.pt (pw_or (pt_not (pt_val (pe_callB call_isiT (by rfl) (f_isinstance T) (by decide +kernel) (pa_cons (pv 0) (pa_cons (pe_tup (pa_cons (pe_bltn (v := .ty "tuple") (u := .type "tuple") (by rfl) (f_tuple T) (by decide +kernel) rfl) (pa_cons (pe_bltn (v := .ty "list") (u := .type "list") (by rfl) (f_list T) (by decide +kernel) rfl) pa_nil))) pa_nil))))) (pw_or1 (pt_cmpR op_ne (pe_callB call_isi (by rfl) (f_isinstance T) (by decide +kernel) (pa_cons (pv 0) (pa_cons (pe_bltn (v := .ty "list") (u := .type "list") (by rfl) (f_list T) (by decide +kernel) rfl) pa_nil))) (pe_callB call_isi (by rfl) (f_isinstance T) (by decide +kernel) (pa_cons (pv 1) (pa_cons (pe_bltn (v := .ty "list") (u := .type "list") (by rfl) (f_list T) (by decide +kernel) rfl) pa_nil))) (nomark _))))) (pss_one (ps_ret pe_bl)) pss_nil)
  (pss_cons (ps_if (pt_cmpR op_ne (pe_callB (lenK (K := K)) (by rfl) (f_len T) (by decide +kernel) (pa_cons (pv 0) pa_nil)) (pe_callB (lenK (K := K)) (by rfl) (f_len T) (by decide +kernel) (pa_cons (pv 1) pa_nil)) (nomark _)) (pss_one (ps_ret pe_bl)) pss_nil)
  (pss_one (ps_ret (pe_cmpR (op_eqD hr.units) (pe_lc (own := [("_law_k", 2)]) rfl sc_law_alike.nd (pi_range1 rfl (f_range T) (pa_cons (pe_callB (lenK (K := K)) (by rfl) (f_len T) (by decide +kernel) (pa_cons (pv 1) pa_nil)) pa_nil)) (blkOk_by (N := N_law_alike) (sc := defScope s_law_alike) (by decide +kernel)) (fun _ _ _ _ _ => (pg_name (i := 2) sc_law_alike.nd rfl (.inl rfl))) (fun _ _ _ _ _ => pts_one (pt_not (pt_val (pe_c ih hr (by omega) rfl (pa_cons (pe_ix (ixX (K := K)) (pv 0) (pv 2) (fun _ _ => rfl)) (pa_cons (pe_ix (ixX (K := K)) (pv 1) (pv 2) (fun _ _ => rfl)) pa_nil)))))) (fun _ _ _ _ _ => (pv 2))) (pe_lst pa_nil) (nomark _)))))) pss_nil)
  (pss_cons (ps_if (pt_cmpR o_isN (pv 1) pe_non (nomark _)) (pss_one (ps_ret (pe_cmpR o_isN (pv 0) pe_non (nomark _)))) pss_nil)
  (pss_cons (ps_if (pt_val (pe_callB call_isi (by rfl) (f_isinstance T) (by decide +kernel) (pa_cons (pv 1) (pa_cons (pe_bltn (v := .ty "str") (u := .type "str") (by rfl) (f_str T) (by decide +kernel) rfl) pa_nil)))) (pss_one (ps_ret (pe_and (pe_callB call_isi (by rfl) (f_isinstance T) (by decide +kernel) (pa_cons (pv 0) (pa_cons (pe_bltn (v := .ty "str") (u := .type "str") (by rfl) (f_str T) (by decide +kernel) rfl) pa_nil))) (pe_one (pe_cmpR op_eq (pv 0) (pv 1) (nomark _)))))) pss_nil)
  (pss_cons (ps_if (PW.pt (pw_or (pt_val (pe_callB call_isi (by rfl) (f_isinstance T) (by decide +kernel) (pa_cons (pv 1) (pa_cons (pe_bltn (v := .ty "bool") (u := .type "bool") (by rfl) (f_bool T) (by decide +kernel) rfl) pa_nil)))) (pw_or1 (pt_val (pe_callB call_isi (by rfl) (f_isinstance T) (by decide +kernel) (pa_cons (pv 0) (pa_cons (pe_bltn (v := .ty "bool") (u := .type "bool") (by rfl) (f_bool T) (by decide +kernel) rfl) pa_nil))))))) (pss_one (ps_ret (pe_and (pe_callB call_isi (by rfl) (f_isinstance T) (by decide +kernel) (pa_cons (pv 1) (pa_cons (pe_bltn (v := .ty "bool") (u := .type "bool") (by rfl) (f_bool T) (by decide +kernel) rfl) pa_nil))) (pe_and (pe_callB call_isi (by rfl) (f_isinstance T) (by decide +kernel) (pa_cons (pv 0) (pa_cons (pe_bltn (v := .ty "bool") (u := .type "bool") (by rfl) (f_bool T) (by decide +kernel) rfl) pa_nil))) (pe_one (pe_cmpR op_eq (pv 0) (pv 1) (nomark _))))))) pss_nil)
  (pss_one (ps_ret (pe_and (pe_callB call_isi (by rfl) (f_isinstance T) (by decide +kernel) (pa_cons (pv 0) (pa_cons (pe_bltn (v := .ty "int") (u := .type "int") (by rfl) (f_int T) (by decide +kernel) rfl) pa_nil))) (pe_one (pe_cmpR op_eq (pv 0) (pv 1) (nomark _)))))))))), ?_⟩
      rw [st_law_alike]
      wtm_at "go"
      intro tp ntp
      have htp : upd H tp (.tup [.ty "tuple", .ty "list"]) tp = some (.tup [.ty "tuple", .ty "list"]) := upd_same
      have s1 := same_new (o := .tup [.ty "tuple", .ty "list"]) ntp
      show tNil _ (upd H tp (.tup [.ty "tuple", .ty "list"])) _
      generalize upd H tp (.tup [.ty "tuple", .ty "list"]) = H1 at htp s1
      cases hd with
      | non =>
        cases hx
        cases hy
        wtm_at "go"
        refine iIsiTN htp (.base .non) (by decide +kernel) (by decide +kernel) ?_
        wtm_at "go"
        exact q _ s1
      | str _ i =>
        cases hx
        cases hy
        wtm_at "go"
        refine iIsiTN htp (.base (.str i)) (by decide +kernel) (by decide +kernel) ?_
        wtm_at "go"
        wtm_at "ii"
        wtm_at "go"
        wtm_at "ii"
        wtm_at "go"
        rw [decide_eq_true rfl]
        exact q _ s1
      | int _ i =>
        cases hx
        cases hy
        wtm_at "go"
        refine iIsiTN htp (.base (.int i)) (by decide +kernel) (by decide +kernel) ?_
        wtm_at "go"
        wtm_at "ii"
        wtm_at "go"
        wtm_at "ii"
        wtm_at "go"
        wtm_at "ii"
        wtm_at "go"
        wtm_at "ii"
        wtm_at "go"
        rw [decide_eq_true rfl]
        exact q _ s1
      | bl _ i =>
        cases hx
        cases hy
        wtm_at "go"
        refine iIsiTN htp (.base (.bl i)) (by decide +kernel) (by decide +kernel) ?_
        wtm_at "go"
        refine iIsNB ?_
        wtm_at "go"
        wtm_at "ii"
        wtm_at "go"
        wtm_at "ii"
        wtm_at "go"
        wtm_at "ii"
        wtm_at "go"
        wtm_at "ii"
        wtm_at "go"
        rw [decide_eq_true rfl]
        exact q _ s1
      | @lst _ ds l h =>
        cases hx with
        | @lst a xs _ ha has =>
        cases hy with
        | @lst b ys _ hb hbs =>
        have hla := dpAll_len has
        have hlb := dpAll_len hbs
        have ha1 : SqL K H1 a xs := (Fr.same (S := []) s1).sqL ha (by simp)
        have hb1 : SqL K H1 b ys := (Fr.same (S := []) s1).sqL hb (by simp)
        wtm_at "go"
        refine iIsiTY htp (tyL hb1) (r1 := false) (r2 := true) (by decide +kernel) (by decide +kernel) rfl ?_
        wtm_at "go"
        intro tq ntq
        have htq : upd H1 tq (.tup [.ty "tuple", .ty "list"]) tq = some (.tup [.ty "tuple", .ty "list"]) := upd_same
        have s2 := same_new (o := .tup [.ty "tuple", .ty "list"]) ntq
        show tNil _ (upd H1 tq (.tup [.ty "tuple", .ty "list"])) _
        generalize upd H1 tq (.tup [.ty "tuple", .ty "list"]) = H2 at htq s2
        have ha2 : SqL K H2 a xs := (Fr.same (S := []) s2).sqL ha1 (by simp)
        have hb2 : SqL K H2 b ys := (Fr.same (S := []) s2).sqL hb1 (by simp)
        wtm_at "go"
        refine iIsiTY htq (tyL ha2) (r1 := false) (r2 := true) (by decide +kernel) (by decide +kernel) rfl ?_
        wtm_at "go"
        refine iIsi (r := true) (tyL ha2) (by decide +kernel) ?_
        wtm_at "go"
        refine iIsi (r := true) (tyL hb2) (by decide +kernel) ?_
        wtm_at "go"
        refine iteNNo (by rw [hla, hlb]) ?_
        have hl3 : ys.length ≤ 1000000 := by omega
        wtm_at "go"
        intro D nD
        have sD : Same H (upd H2 D (.lst [])) := (s1.trans s2).trans (same_new nD)
        have haD : SqL K (upd H2 D (.lst [])) a xs := (Fr.same (S := []) (same_new nD)).sqL ha2 (by simp)
        have hbD : SqL K (upd H2 D (.lst [])) b ys := (Fr.same (S := []) (same_new nD)).sqL hb2 (by simp)
        refine eLcR (lo := 0) (n := (ys.length : Int).toNat) (fun i H' => Same H H' ∧ SqL K H' a xs ∧ SqL K H' b ys ∧ H' D = some (.lst [])) ⟨sD, haD, hbD, upd_same⟩ ?_ ?_
        · rintro i H3 hi ⟨s3, ha3, hb3, hD3⟩
          have hi : i < ds.length := by omega
          obtain ⟨d, ed⟩ : ∃ d, ds[i]? = some d := ⟨_, List.getElem?_eq_getElem hi⟩
          obtain ⟨x, ex, hx⟩ := dpAll_get has ed
          obtain ⟨y, ey, hy⟩ := dpAll_get hbs ed
          wtm_at "go"
          refine iIxXL ha3 (at_of (j := i) (by omega) ex) ?_
          wtm_at "go"
          refine iIxXL hb3 (at_of (j := i) (by omega) ey) ?_
          wtm_at "go"
          refine ⟨x, y, d, rfl, dpSame s3 _ _ hx, dpSame s3 _ _ hy, h d (List.mem_of_getElem? ed), fun H4 s4 => ?_⟩
          wtm_at "go"
          exact ⟨s3.trans s4, (Fr.same (S := []) s4).sqL ha3 (by simp), (Fr.same (S := []) s4).sqL hb3 (by simp), s4 _ _ hD3⟩
        · rintro H3 ⟨s3, ha3, hb3, hD3⟩
          wtm_at "go"
          intro e ne
          refine iEqDI (ns := []) (ms := []) (SqL.of (same_new ne _ _ hD3)) (SqL.of upd_same) ?_
          exact q _ (s3.trans (same_new ne))
      | @tup _ ds l h =>
        cases hx with
        | @tup a xs _ ha has =>
        cases hy with
        | @tup b ys _ hb hbs =>
        have hla := dpAll_len has
        have hlb := dpAll_len hbs
        have ha1 : SqT K H1 a xs := sqT_same s1 ha
        have hb1 : SqT K H1 b ys := sqT_same s1 hb
        wtm_at "go"
        refine iIsiTY htp (tyT hb1) (r1 := true) (r2 := false) (by decide +kernel) (by decide +kernel) rfl ?_
        wtm_at "go"
        intro tq ntq
        have htq : upd H1 tq (.tup [.ty "tuple", .ty "list"]) tq = some (.tup [.ty "tuple", .ty "list"]) := upd_same
        have s2 := same_new (o := .tup [.ty "tuple", .ty "list"]) ntq
        show tNil _ (upd H1 tq (.tup [.ty "tuple", .ty "list"])) _
        generalize upd H1 tq (.tup [.ty "tuple", .ty "list"]) = H2 at htq s2
        have ha2 : SqT K H2 a xs := sqT_same s2 ha1
        have hb2 : SqT K H2 b ys := sqT_same s2 hb1
        wtm_at "go"
        refine iIsiTY htq (tyT ha2) (r1 := true) (r2 := false) (by decide +kernel) (by decide +kernel) rfl ?_
        wtm_at "go"
        refine iIsi (r := false) (tyT ha2) (by decide +kernel) ?_
        wtm_at "go"
        refine iIsi (r := false) (tyT hb2) (by decide +kernel) ?_
        wtm_at "go"
        refine iteNNo (by rw [hla, hlb]) ?_
        have hl3 : ys.length ≤ 1000000 := by omega
        wtm_at "go"
        intro D nD
        have sD : Same H (upd H2 D (.lst [])) := (s1.trans s2).trans (same_new nD)
        have haD : SqT K (upd H2 D (.lst [])) a xs := sqT_same (same_new nD) ha2
        have hbD : SqT K (upd H2 D (.lst [])) b ys := sqT_same (same_new nD) hb2
        refine eLcR (lo := 0) (n := (ys.length : Int).toNat) (fun i H' => Same H H' ∧ SqT K H' a xs ∧ SqT K H' b ys ∧ H' D = some (.lst [])) ⟨sD, haD, hbD, upd_same⟩ ?_ ?_
        · rintro i H3 hi ⟨s3, ha3, hb3, hD3⟩
          have hi : i < ds.length := by omega
          obtain ⟨d, ed⟩ : ∃ d, ds[i]? = some d := ⟨_, List.getElem?_eq_getElem hi⟩
          obtain ⟨x, ex, hx⟩ := dpAll_get has ed
          obtain ⟨y, ey, hy⟩ := dpAll_get hbs ed
          wtm_at "go"
          refine iIxXT ha3 (at_of (j := i) (by omega) ex) ?_
          wtm_at "go"
          refine iIxXT hb3 (at_of (j := i) (by omega) ey) ?_
          wtm_at "go"
          refine ⟨x, y, d, rfl, dpSame s3 _ _ hx, dpSame s3 _ _ hy, h d (List.mem_of_getElem? ed), fun H4 s4 => ?_⟩
          wtm_at "go"
          exact ⟨s3.trans s4, sqT_same s4 ha3, sqT_same s4 hb3, s4 _ _ hD3⟩
        · rintro H3 ⟨s3, ha3, hb3, hD3⟩
          wtm_at "go"
          intro e ne
          refine iEqDI (ns := []) (ms := []) (SqL.of (same_new ne _ _ hD3)) (SqL.of upd_same) ?_
          exact q _ (s3.trans (same_new ne))
end

/-! ### the program's surfaces: how they lie -/
structure LA where
  a : Addr
  pm : Addr
  rs : List Addr
def LA.fp (A : LA) : List Addr := A.a :: A.pm :: A.rs
abbrev lookF (x y k : Int) (b : Bool) (pm : Addr) : List (Str × V) := [("x", .int x), ("y", .int y), ("rank", .int k), ("is_veiled", .bl b), ("marks", .ref pm)]
def RowP (H : Hp) (r : Addr) (m : List Int) : Prop := H r = some (.lst (m.map V.int))
structure LkP (K : PySem.W.Frag) (H : Hp) (A : LA) (l : Lk) : Prop where
  at_ : ∃ dx, H A.a = some (.ins (He.ga K "Look") dx (lookF l.x l.y l.rank l.veiled A.pm))
  pm : H A.pm = some (.lst (A.rs.map V.ref))
  rows : Paired (RowP H) A.rs l.marks
  nd : A.fp.Nodup
theorem lkP_mk {K : PySem.W.Frag} {H : Hp} {a dx pm : Addr} {rs : List Addr} {l : Lk} (e : H a = some (.ins (He.ga K "Look") dx (lookF l.x l.y l.rank l.veiled pm))) (p : H pm = some (.lst (rs.map V.ref))) (r : Paired (RowP H) rs l.marks) (d : (a :: pm :: rs).Nodup) : LkP K H ⟨a, pm, rs⟩ l := ⟨⟨dx, e⟩, p, r, d⟩
theorem rowP {H : Hp} {r : Addr} {m : List Int} (h : H r = some (.lst (m.map V.int))) : RowP H r m := h
theorem pMem {α β : Type} {R : α → β → Prop} : ∀ {as : List α} {bs : List β} {a : α}, Paired R as bs → a ∈ as → ∃ b, b ∈ bs ∧ R a b
  | _, _, _, .nil, h => nomatch h
  | _, _, _, .cons r t, h => by
    rcases List.mem_cons.mp h with e | h
    · subst e; exact ⟨_, List.mem_cons_self .., r⟩
    · obtain ⟨b, hb, hr⟩ := pMem t h
      exact ⟨b, List.mem_cons_of_mem _ hb, hr⟩
theorem pMapM {α β : Type} {F G : α → β → Prop} : ∀ {l₁ : List α} {l₂ : List β}, Paired F l₁ l₂ → (∀ a b, a ∈ l₁ → F a b → G a b) → Paired G l₁ l₂
  | _, _, .nil, _ => .nil
  | _, _, .cons r t, f => .cons (f _ _ (List.mem_cons_self ..) r) (pMapM t fun a b h => f a b (List.mem_cons_of_mem _ h))
/-- new objects, gathered in a new list D -/
structure NR {α : Type} (F : α → HO) (H0 H : Hp) (D : Addr) (rs : List Addr) (ms : List α) : Prop where
  at_ : H D = some (.lst (rs.map V.ref))
  rows : Paired (fun r m => H r = some (F m)) rs ms
  fr : Fr [D] H0 H
  nd : (D :: rs).Nodup
  new : ∀ r ∈ D :: rs, H0 r = none
section
variable {α : Type} {F : α → HO} {H0 H H1 : Hp} {D r : Addr} {rs : List Addr} {ms : List α} {m : α}
theorem NR.nil (nD : H0 D = none) : NR F H0 (upd H0 D (.lst [])) D [] [] := ⟨upd_same, .nil, Fr.new nD, by simp, fun r hr => by rw [List.mem_singleton.mp hr]; exact nD⟩
theorem NR.push (h : NR F H0 H D rs ms) (s : Same H H1) (n : H r = none) (e : H1 r = some (F m)) : NR F H0 (upd H1 D (.lst (rs.map V.ref ++ [V.ref r]))) D (rs ++ [r]) (ms ++ [m]) := by
  have hD1 := s _ _ h.at_
  have nr : r ≠ D := fun z => by rw [z, h.at_] at n; cases n
  have ndD : D ∉ rs := (List.nodup_cons.mp h.nd).1
  have nrr : r ∉ rs := fun z => by
    obtain ⟨m', _, q⟩ := pMem h.rows z
    rw [n] at q
    cases q
  refine ⟨by rw [upd_same, List.map_append]; rfl, pSnoc (pMapM h.rows fun a b ha z => ?_) ((upd_ne nr).trans e), (h.fr.trans (Fr.same s)).trans (Fr.set hD1 rfl (by simp)), ?_, fun x hx => ?_⟩
  · rw [upd_ne (fun z => ndD (by rw [← z]; exact ha))]
    exact s _ _ z
  · rw [List.nodup_cons, List.nodup_append]
    refine ⟨fun z => ?_, (List.nodup_cons.mp h.nd).2, by simp, fun a ha b hb z => ?_⟩
    · rcases List.mem_append.mp z with z | z
      · exact ndD z
      · exact nr (List.mem_singleton.mp z).symm
    · rw [List.mem_singleton.mp hb] at z
      exact nrr (by rw [← z]; exact ha)
  · rcases List.mem_cons.mp hx with z | z
    · rw [z]; exact h.new D (List.mem_cons_self ..)
    · rcases List.mem_append.mp z with z | z
      · exact h.new x (List.mem_cons_of_mem _ z)
      · rw [List.mem_singleton.mp z]; exact h.fr.free n
theorem NR.len (h : NR F H0 H D rs ms) : rs.length = ms.length := pLen h.rows
theorem NR.acc (h : NR F H0 H D rs ms) (s : Same H H1) (l : ms.length ≤ 1000) : H1 D = some (.lst (rs.map V.ref)) ∧ (rs.map V.ref).length < sizeLine := ⟨s _ _ h.at_, by rw [List.length_map, h.len]; exact Nat.lt_of_le_of_lt l (by decide)⟩
end
section
variable {K : PySem.W.Frag} {H H' : Hp} {S : List Addr} {A : LA} {l : Lk}
theorem LkP.fr (h : LkP K H A l) (f : Fr S H H') (n : ∀ x ∈ A.fp, x ∉ S) : LkP K H' A l := by
  obtain ⟨⟨dx, e⟩, p, r, d⟩ := h
  refine ⟨⟨dx, f.at_ _ _ e (n _ (by simp [LA.fp]))⟩, f.at_ _ _ p (n _ (by simp [LA.fp])), pMapM r fun a b ha z => ?_, d⟩
  exact f.at_ _ _ z (n _ (by simp [LA.fp, ha]))
theorem LkP.same (h : LkP K H A l) (s : Same H H') : LkP K H' A l := h.fr (Fr.same (S := []) s) fun _ _ => List.not_mem_nil
theorem LkP.live (h : LkP K H A l) : ∀ x ∈ A.fp, ∃ o, H x = some o ∧ isMut o = true := by
  obtain ⟨⟨dx, e⟩, p, r, _⟩ := h
  intro x hx
  unfold LA.fp at hx
  rcases List.mem_cons.mp hx with z | hx
  · subst z; exact ⟨_, e, rfl⟩
  rcases List.mem_cons.mp hx with z | hx
  · subst z; exact ⟨_, p, rfl⟩
  obtain ⟨b, _, hr⟩ := pMem r hx
  exact ⟨_, hr, rfl⟩
end
def oA : Option LA → V
  | none => .non
  | some A => .ref A.a
def ofp : Option LA → List Addr
  | none => []
  | some A => A.fp
structure SA where
  a : Addr
  p : LA
  r : Option LA
  s : Option LA
def SA.fp (A : SA) : List Addr := A.a :: (A.p.fp ++ (ofp A.r ++ ofp A.s))
abbrev surfF (p r s t : V) : List (Str × V) := [("pending", p), ("ready", r), ("shown", s), ("top", t)]
def OLkP (K : PySem.W.Frag) (H : Hp) : Option LA → Option Lk → Prop
  | none, none => True
  | some A, some l => LkP K H A l
  | _, _ => False
structure SfP (K : PySem.W.Frag) (H : Hp) (A : SA) (s : Sf) : Prop where
  at_ : ∃ dx, H A.a = some (.ins (He.ga K "Surface") dx (surfF (.ref A.p.a) (oA A.r) (oA A.s) (oI s.top)))
  p : LkP K H A.p s.pending
  r : OLkP K H A.r s.ready
  s : OLkP K H A.s s.shown
  nd : A.fp.Nodup
section
variable {K : PySem.W.Frag} {H H' : Hp} {S : List Addr}
theorem OLkP.fr : ∀ {A : Option LA} {l : Option Lk}, OLkP K H A l → Fr S H H' → (∀ x ∈ ofp A, x ∉ S) → OLkP K H' A l
  | none, none, h, _, _ => h
  | some _, some _, h, f, n => LkP.fr h f n
  | none, some _, h, _, _ => h.elim
  | some _, none, h, _, _ => h.elim
theorem OLkP.live : ∀ {A : Option LA} {l : Option Lk}, OLkP K H A l → ∀ x ∈ ofp A, ∃ o, H x = some o ∧ isMut o = true
  | none, none, _ => fun _ h => nomatch h
  | some _, some _, h => LkP.live h
  | none, some _, h => h.elim
  | some _, none, h => h.elim
theorem OLkP.isNon : ∀ {A : Option LA} {l : Option Lk}, OLkP K H A l → decide (oA A = .non) = l.isNone
  | none, none, _ => rfl
  | some _, some _, _ => rfl
  | none, some _, h => h.elim
  | some _, none, h => h.elim
theorem OLkP.get {A : Option LA} {l : Lk} (h : OLkP K H A (some l)) : ∃ B, A = some B ∧ LkP K H B l := by
  cases A with
  | none => exact h.elim
  | some B => exact ⟨B, rfl, h⟩
theorem OLkP.isN {A : Option LA} (h : OLkP K H A Option.none) : A = Option.none := by
  cases A with
  | none => rfl
  | some B => exact h.elim
variable {A : SA} {s : Sf}
theorem SfP.fr (h : SfP K H A s) (f : Fr S H H') (n : ∀ x ∈ A.fp, x ∉ S) : SfP K H' A s := by
  obtain ⟨⟨dx, e⟩, p, r, q, d⟩ := h
  refine ⟨⟨dx, f.at_ _ _ e (n _ (by simp [SA.fp]))⟩, p.fr f fun x hx => n _ ?_, r.fr f fun x hx => n _ ?_, q.fr f fun x hx => n _ ?_, d⟩
  all_goals simp [SA.fp, hx]
theorem SfP.live (h : SfP K H A s) : ∀ x ∈ A.fp, ∃ o, H x = some o ∧ isMut o = true := by
  intro x hx
  obtain ⟨⟨dx, e⟩, p, r, q, d⟩ := h
  unfold SA.fp at hx
  rcases List.mem_cons.mp hx with z | hx
  · subst z; exact ⟨_, e, rfl⟩
  rcases List.mem_append.mp hx with hx | hx
  · exact p.live x hx
  rcases List.mem_append.mp hx with hx | hx
  · exact r.live x hx
  · exact q.live x hx
end
abbrev PL := List (Int × SA × Sf)
def pwd (L : PL) : Wd := L.map fun e => (e.1, e.2.2)
def kvP (L : PL) : List (Key × V) := L.map fun e => (.inl e.1, .ref e.2.1.a)
def fpL (L : PL) : List Addr := L.flatMap fun e => e.2.1.fp
structure PAt (K : PySem.W.Frag) (H : Hp) (d : Addr) (L : PL) : Prop where
  at_ : H d = some (.dK (kvP L))
  each : ∀ e ∈ L, SfP K H e.2.1 e.2.2
  nd : (d :: fpL L).Nodup
  nn : (L.map fun e => e.1).Nodup
  le : L.length ≤ 10
theorem pget_find (L : PL) (n : Int) : (pwd L).get n = (L.find? fun e => decide (e.1 = n)).map fun e => e.2.2 := by
  induction L with
  | nil => rfl
  | cons e L ih =>
    show List.lookup n ((e.1, e.2.2) :: pwd L) = _
    rw [List.lookup_cons, List.find?_cons]
    by_cases h : e.1 = n
    · rw [show (n == e.1) = true by simp [h], decide_eq_true h]
      rfl
    · rw [beq_eq_false_iff_ne.mpr (Ne.symm h), decide_eq_false h]
      exact ih
theorem pval_find (L : PL) (n : Int) : valV (kvP L) (.inl n) = (L.find? fun e => decide (e.1 = n)).map fun e => V.ref e.2.1.a := by
  have h := val_find (L.map fun e => (e.1, e.2.1.a, e.2.2)) n
  have e1 : kvW (L.map fun e => (e.1, e.2.1.a, e.2.2)) = kvP L := by unfold kvW kvP; rw [List.map_map]; rfl
  rw [e1, List.find?_map] at h
  rw [h, Option.map_map]
  rfl
theorem pnames (L : PL) : (pwd L).names = L.map fun e => e.1 := by simp [pwd, Wd.names]
theorem kvP_keys (L : PL) : (kvP L).map (·.1) = ((pwd L).names).map Sum.inl := by simp [kvP, pwd, Wd.names]
section
variable {K : PySem.W.Frag} {H H' : Hp} {S : List Addr} {d : Addr} {L : PL} {n : Int} {s : Sf}
theorem PAt.get (h : PAt K H d L) (g : (pwd L).get n = some s) : ∃ A, (n, A, s) ∈ L ∧ valV (kvP L) (.inl n) = some (.ref A.a) ∧ SfP K H A s := by
  rw [pget_find] at g
  obtain ⟨e, h1, h2⟩ := Option.map_eq_some_iff.mp g
  have hm := List.mem_of_find?_eq_some h1
  have hn : e.1 = n := by have := List.find?_some h1; simpa using this
  refine ⟨e.2.1, ?_, by rw [pval_find, h1]; rfl, ?_⟩
  · rw [← h2, ← hn]; exact hm
  · rw [← h2]; exact h.each e hm
theorem PAt.gone (g : (pwd L).get n = Option.none) : valV (kvP L) (.inl n) = Option.none := by
  rw [pget_find] at g
  rw [pval_find]
  cases q : L.find? fun e => decide (e.1 = n) with
  | none => rfl
  | some e => rw [q] at g; cases g
theorem PAt.isSome : (valV (kvP L) (.inl n)).isSome = ((pwd L).get n).isSome := by
  rw [pget_find, pval_find, Option.isSome_map, Option.isSome_map]
theorem PAt.fr (h : PAt K H d L) (f : Fr S H H') (n : ∀ x ∈ d :: fpL L, x ∉ S) : PAt K H' d L :=
  ⟨f.at_ _ _ h.at_ (n _ (List.mem_cons_self ..)), fun e he => (h.each e he).fr f fun x hx => n _ (List.mem_cons_of_mem _ (List.mem_flatMap.mpr ⟨e, he, hx⟩)), h.nd, h.nn, h.le⟩
theorem PAt.same (h : PAt K H d L) (s : Same H H') : PAt K H' d L := h.fr (Fr.same (S := []) s) fun _ _ => List.not_mem_nil
theorem PAt.live (h : PAt K H d L) : ∀ x ∈ d :: fpL L, ∃ o, H x = some o ∧ isMut o = true := by
  intro x hx
  rcases List.mem_cons.mp hx with z | hx
  · subst z; exact ⟨_, h.at_, rfl⟩
  · obtain ⟨e, he, hx⟩ := List.mem_flatMap.mp hx
    exact (h.each e he).live x hx
theorem fpL_mem {A : SA} (m : (n, A, s) ∈ L) {x : Addr} (hx : x ∈ A.fp) : x ∈ d :: fpL L := List.mem_cons_of_mem _ (List.mem_flatMap.mpr ⟨_, m, hx⟩)
end

/-! ### looks: made, copied, sized, painted -/
def spLookI (K : PySem.W.Frag) : Sp := fun vs H Q _ => ∃ a dx, vs = [.ref a] ∧ H a = some (.ins (He.ga K "Look") dx []) ∧ ∀ H' pm r, LkP K H' ⟨a, pm, [r]⟩ Lk.new → Fr [a] H H' → H pm = none → H r = none → Q .non H'
section
variable {P : Program} {w : World} {K : PySem.W.Frag} {mg : Str → Option Value} {base : Heap}
theorem ok_Look (T : Tx w K mg) : Mak P w K mg base 1 "Look" (He.ga K "Look") (spLookI K) [] := by
  refine mk_LookDU_initDU T (fun vs H Q E h => ?_) (fun cdv A outer s H vs Q E hr h => ?_)
  · obtain ⟨a, dx, rfl, _⟩ := h
    rfl
  · obtain ⟨a, dx, rfl, ha, q⟩ := h
    refine ⟨_, (pss_cons (ps_fld (pv 0) pe_int rfl)
  (pss_cons (ps_fld (pv 0) pe_int rfl)
  (pss_cons (ps_fld (pv 0) pe_int rfl)
  (pss_cons (ps_fld (pv 0) pe_bl rfl)
  (pss_one (ps_fld (pv 0) (pe_lst (pa_cons (pe_lst (pa_cons pe_int pa_nil)) pa_nil)) rfl)))))), ?_⟩
    rw [st_LookDU_initDU]
    wtm_at "go"
    simp only [upd2]
    have f1 := Fr.set (S := [a]) (o := .ins (He.ga K "Look") dx [("x", .int 0), ("y", .int 0), ("rank", .int 0), ("is_veiled", .bl false)]) ha rfl (by simp)
    show ∀ r, upd H a (.ins (He.ga K "Look") dx [("x", .int 0), ("y", .int 0), ("rank", .int 0), ("is_veiled", .bl false)]) r = none → tNil _ (upd (upd H a (.ins (He.ga K "Look") dx [("x", .int 0), ("y", .int 0), ("rank", .int 0), ("is_veiled", .bl false)])) r _) _
    have h1 : upd H a (.ins (He.ga K "Look") dx [("x", .int 0), ("y", .int 0), ("rank", .int 0), ("is_veiled", .bl false)]) a = _ := upd_same
    generalize upd H a (.ins (He.ga K "Look") dx [("x", .int 0), ("y", .int 0), ("rank", .int 0), ("is_veiled", .bl false)]) = H1 at f1 h1
    intro r nr
    wtm_at "go"
    intro pm npm
    wtm_at "go"
    have n1 : r ≠ pm := (by wtm_at "ne")
    have n2 : a ≠ r := (by wtm_at "ne")
    have n3 : a ≠ pm := (by wtm_at "ne")
    refine q _ pm r ?_ ?_ (f1.free (noneU npm)) (f1.free nr)
    · exact lkP_mk upd_same (show _ = some (HO.lst [V.ref r]) from (by wtm_at "hp")) (.cons (rowP (m := [0]) (show _ = some (HO.lst [V.int 0]) from (by wtm_at "hp"))) .nil) (by simp [n1, n2, n3, Ne.symm n1])
    exact ((f1.trans (Fr.new nr)).trans (Fr.new npm)).trans (Fr.set (hUpd n3 (hUpd n2 h1)) rfl (by simp))
/-- a look made -/
theorem iMkLook {σ : L2.St} {H : Hp} {Q : VK} (q : ∀ A H', LkP K H' A Lk.new → Same H H' → (∀ x ∈ A.fp, H x = none) → Q (.ref A.a) H') : tMake (He.ga K "Look") (spLookI K) [] C8.E0 tNil σ H Q := by
  intro x dx nx ndx nd
  refine ⟨x, dx, rfl, upd_same, fun H' pm r hL f npm nr => ⟨rfl, q ⟨x, pm, [r]⟩ H' hL (fun b o e => ?_) fun z hz => ?_⟩⟩
  · have e1 : upd (upd H dx (.own x)) x (.ins (He.ga K "Look") dx []) b = some o := by rw [upd_ne (ne_of_none e nx), upd_ne (ne_of_none e ndx)]; exact e
    exact f.at_ _ _ e1 fun z => by rw [List.mem_singleton.mp z, nx] at e; cases e
  · have hz : z ∈ [x, pm, r] := hz
    simp only [List.mem_cons, List.not_mem_nil, or_false] at hz
    rcases hz with z | z | z
    · rw [z]; exact nx
    · rw [z]; exact noneU (noneU npm)
    · rw [z]; exact noneU (noneU nr)
def spCopied (K : PySem.W.Frag) : Sp := fun vs H Q _ => ∃ A l, vs = [.ref A.a] ∧ LkP K H A l ∧ Rect l.marks ∧ ∀ B H', LkP K H' B l → Same H H' → (∀ x ∈ B.fp, H x = none) → Q (.ref B.a) H'
theorem ok_Look_copied (T : Tx w K mg) : Met P w K mg base 3 (He.ga K "Look") "copied" (spCopied K) [] := by
  refine mk_Look_copied T (fun vs H Q E h => ?_) (fun cdv A outer s H vs Q E hr h => ?_)
  · obtain ⟨A, l, rfl, _⟩ := h
    rfl
  · obtain ⟨C, l, rfl, hL, hR, q⟩ := h
    refine ⟨_, (pss_cons (ps_set (i := 1) sc_Look_copied.nd rfl (.inl rfl) (pe_mk0 (ok_Look (K := K) T) hr (by omega) rfl))
  (pss_cons (ps_asg (pe_tup (pa_cons (pe_fld (pv 0) rfl) (pa_cons (pe_fld (pv 0) rfl) (pa_cons (pe_fld (pv 0) rfl) (pa_cons (pe_fld (pv 0) rfl) pa_nil))))) (pg_tup (n := 4) rfl (pgs_cons (pg_fldU (pv 1)) (pgs_cons (pg_fldU (pv 1)) (pgs_cons (pg_fldU (pv 1)) (pgs_cons (pg_fldU (pv 1)) pgs_nil))))))
  (pss_cons (ps_fld (pv 1) (pe_lc (own := [("row", 2)]) rfl sc_Look_copied.nd (pi_list (pe_fld (pv 0) rfl)) (blkOk_by (N := N_Look_copied) (sc := defScope s_Look_copied) (by decide +kernel)) (fun _ _ _ _ _ => (pg_name (i := 2) sc_Look_copied.nd rfl (.inl rfl))) (fun _ _ _ _ _ => pts_nil) (fun _ _ _ _ _ => (pe_callTy (listK (K := K)) (by rfl) (f_list T) (by decide +kernel) (pa_cons (pv 2) pa_nil)))) rfl)
  (pss_one (ps_ret (pv 1)))))), ?_⟩
    rw [st_Look_copied]
    wtm_at "go"
    refine iMkLook (K := K) fun B H1 hB s1 nB => ?_
    have hL1 := hL.same s1
    have apart : ∀ x ∈ C.fp, ∀ y ∈ B.fp, x ≠ y := fun x hx y hy z => by
      obtain ⟨o, e, _⟩ := hL.live x hx
      rw [z, nB y hy] at e
      cases e
    have nCB : C.a ≠ B.a := apart _ (by simp [LA.fp]) _ (by simp [LA.fp])
    have nCB2 : C.pm ≠ B.a := apart _ (by simp [LA.fp]) _ (by simp [LA.fp])
    obtain ⟨⟨dC, eC⟩, pC, rC, _⟩ := hL1
    obtain ⟨⟨dB, eB⟩, pB, rB, _⟩ := hB
    wtm_at "go"
    intro t nt
    have nBt : B.a ≠ t := (by wtm_at "ne")
    have f2 := Fr.new (S := []) (o := .tup [.int l.x, .int l.y, .int l.rank, .bl l.veiled]) nt
    wtm_at "go"
    simp only [upd2]
    show ∀ D, upd (upd H1 t (.tup [.int l.x, .int l.y, .int l.rank, .bl l.veiled])) B.a (.ins (He.ga K "Look") dB (lookF l.x l.y l.rank l.veiled B.pm)) D = none → CompS _ _ _ _ _ _ _ _ (upd (upd H1 t (.tup [.int l.x, .int l.y, .int l.rank, .bl l.veiled])) B.a (.ins (He.ga K "Look") dB (lookF l.x l.y l.rank l.veiled B.pm)))
    have f3 : Fr [B.a] H1 (upd (upd H1 t (.tup [.int l.x, .int l.y, .int l.rank, .bl l.veiled])) B.a (.ins (He.ga K "Look") dB (lookF l.x l.y l.rank l.veiled B.pm))) := (Fr.new nt).trans (Fr.set (hUpd nBt eB) rfl (by simp))
    have b2 : upd (upd H1 t (.tup [.int l.x, .int l.y, .int l.rank, .bl l.veiled])) B.a (.ins (He.ga K "Look") dB (lookF l.x l.y l.rank l.veiled B.pm)) B.a = some (.ins (He.ga K "Look") dB (lookF l.x l.y l.rank l.veiled B.pm)) := upd_same
    generalize upd (upd H1 t (.tup [.int l.x, .int l.y, .int l.rank, .bl l.veiled])) B.a (.ins (He.ga K "Look") dB (lookF l.x l.y l.rank l.veiled B.pm)) = H2 at f3 b2
    have rC2 : Paired (RowP H2) C.rs l.marks := pMapM rC fun a b ha z => f3.at_ _ _ z fun y => by
      rw [List.mem_singleton] at y
      exact apart a (by simp [LA.fp, ha]) B.a (by simp [LA.fp]) y
    have pC2 := f3.at_ _ _ pC (by simpa using nCB2)
    intro D nD
    have nBD : B.a ≠ D := (by wtm_at "ne")
    refine eLcL (xs := C.rs.map V.ref) (fun i H' => ∃ rs : List Addr, NR (fun m : List Int => HO.lst (m.map V.int)) H2 H' D rs (l.marks.take i)) ?_ ?_ ?_ ?_
    · exact ⟨[], NR.nil nD⟩
    · exact fun i H' _ ⟨rs, N⟩ => SqL.of (N.fr.at_ _ _ pC2 (by simpa using ne_of_none pC2 nD))
    · rintro i x H3 ex ⟨rs, N⟩
      obtain ⟨m, em, hx⟩ := pGetL (pMapL V.ref (S := RowP H2) (R := fun v m => ∃ r, v = V.ref r ∧ RowP H2 r m) (fun c b z => ⟨c, rfl, z⟩) rC2) ex
      obtain ⟨r, rfl, hr⟩ := hx
      have hr3 : H3 r = some (.lst (m.map V.int)) := N.fr.at_ _ _ hr (by simpa using ne_of_none hr nD)
      have hml : m.length ≤ 12 := hR.le m (List.mem_of_getElem? em)
      have hi : i < l.marks.length := (List.getElem?_eq_some_iff.mp em).1
      wtm_at "go"
      refine iListL (SqL.of hr3) fun p np => ?_
      obtain ⟨a1, a2⟩ := N.acc (same_new (o := .lst (m.map V.int)) np) (by rw [List.length_take]; have := hR.h8; omega)
      refine ⟨_, a1, a2, rs ++ [p], ?_⟩
      rw [take_succ em]
      exact N.push (same_new np) np upd_same
    · rintro H3 ⟨rs, N⟩
      rw [List.length_map, pLen rC2, List.take_of_length_le (Nat.le_refl _)] at N
      have b3 := N.fr.at_ _ _ b2 (by simpa using nBD)
      wtm_at "go"
      refine q ⟨B.a, D, rs⟩ _ ?_ ?_ ?_
      · refine lkP_mk upd_same ((upd_ne (Ne.symm nBD)).trans N.at_) (pMapM N.rows fun a b ha z => ?_) (List.nodup_cons.mpr ⟨?_, N.nd⟩)
        · exact (upd_ne fun z2 => by have := N.new a (List.mem_cons_of_mem _ ha); rw [z2, b2] at this; cases this).trans z
        · exact fun z => by have := N.new B.a z; rw [b2] at this; cases this
      · intro b o e
        have n1 : b ≠ B.a := fun z => by have := nB B.a (by simp [LA.fp]); rw [← z, e] at this; cases this
        rw [upd_ne n1]
        have e2 := f3.at_ _ _ (s1 _ _ e) (by simpa using n1)
        exact N.fr.at_ _ _ e2 (by simpa using ne_of_none e2 nD)
      · intro x hx
        rcases List.mem_cons.mp hx with z | hx
        · rw [z]; exact nB _ (by simp [LA.fp])
        · have := N.new x hx
          exact Same.free s1 (f3.free this)
end

theorem sized_eq (m : List (List Int)) (w h : Nat) : (m.take h).map (fun r => sizedR r w) ++ List.replicate (h - m.length) (List.replicate w 0) = sized m w h := by
  refine List.ext_getElem? fun i => ?_
  unfold sized
  rw [List.getElem?_append, List.length_map, List.length_take, List.getElem?_map, List.getElem?_map, List.getElem?_replicate, List.getElem?_take]
  by_cases h1 : i < h
  · rw [List.getElem?_range h1]
    by_cases h2 : i < m.length
    · rw [if_pos (by omega), if_pos h1, List.getElem?_eq_getElem h2]
      simp [List.getElem?_eq_getElem h2]
    · rw [if_neg (by omega), if_pos (by omega)]
      simp [List.getElem?_eq_none (show m.length ≤ i by omega), sizedR]
  · rw [if_neg (by omega), if_neg (by omega), List.getElem?_eq_none (by simp; omega)]
    rfl
theorem paired_app {α β : Type} {R : α → β → Prop} : ∀ {as : List α} {bs : List β} {cs : List α} {ds : List β}, Paired R as bs → Paired R cs ds → Paired R (as ++ cs) (bs ++ ds)
  | _, _, _, _, .nil, h => h
  | _, _, _, _, .cons r t, h => .cons r (paired_app t h)
theorem pUpd {H : Hp} {m : List Int} {r : Addr} : ∀ {rs : List Addr} {ms : List (List Int)} {j : Nat}, Paired (RowP H) rs ms → rs.Nodup → rs[j]? = some r → Paired (RowP (upd H r (.lst (m.map V.int)))) rs (ms.set j m)
  | _, _, _, .nil, _, h => by simp at h
  | a :: rs, b :: ms, 0, .cons z t, nd, h => by
    simp at h
    subst h
    refine .cons upd_same (pMapM t fun x y hx q => (upd_ne fun z2 => (List.nodup_cons.mp nd).1 (by rw [← z2]; exact hx)).trans q)
  | a :: rs, b :: ms, j + 1, .cons z t, nd, h => by
    have h : rs[j]? = some r := by simpa using h
    exact .cons ((upd_ne fun z2 => (List.nodup_cons.mp nd).1 (by rw [z2]; exact List.mem_of_getElem? h)).trans z) (pUpd t (List.nodup_cons.mp nd).2 h)
def spSize (K : PySem.W.Frag) : Sp := fun vs H Q _ => ∃ A l wd hg, vs = [.ref A.a, .int wd, .int hg] ∧ LkP K H A l ∧ Rect l.marks ∧ (1 ≤ wd ∧ wd ≤ 12) ∧ (1 ≤ hg ∧ hg ≤ 8) ∧
  ∀ pm rs H', LkP K H' ⟨A.a, pm, rs⟩ { l with marks := sized l.marks wd.toNat hg.toNat } → Fr [A.a] H H' → (∀ x ∈ pm :: rs, H x = none) → Q .non H'
section
variable {P : Program} {w : World} {K : PySem.W.Frag} {mg : Str → Option Value} {base : Heap}
theorem ok_Look_size (T : Tx w K mg) : Met P w K mg base 1 (He.ga K "Look") "size" (spSize K) [] := by
  refine mk_Look_size T (fun vs H Q E h => ?_) (fun cdv A outer s H vs Q E hr h => ?_)
  · obtain ⟨A, l, wd, hg, rfl, _⟩ := h
    rfl
  · obtain ⟨C, l, wd, hg, rfl, hL, hR, hw, hh, q⟩ := h
    have live := hL.live
    obtain ⟨⟨dC, eC⟩, pC, rC, nC⟩ := hL
    have eh : hg = ((hg.toNat : Nat) : Int) := by omega
    refine ⟨_, (pss_cons (ps_setLc (i := 3) (own := [("row", 4)]) rfl sc_Look_size.nd rfl rfl (sw_true rfl rfl rfl (by decide +kernel)) (pi_list (pe_slice sl_list (pe_fld (pv 0) rfl) po_none (po_some (pv 2)))) (blkOk_by (N := N_Look_size) (sc := defScope s_Look_size) (by decide +kernel)) (fun _ _ _ _ _ => (pg_name (i := 4) sc_Look_size.nd rfl (.inl rfl))) (fun _ _ _ _ _ => pts_nil) (fun _ _ _ _ _ => (pe_slice (slListK (K := K)) (pe_op op_cat (pv 4) (pe_op op_rep (pe_lst (pa_cons pe_int pa_nil)) (pv 1))) po_none (po_some (pv 1)))))
  (pss_one (ps_fld (pv 0) (pe_op op_cat (pv 3) (pe_lc (own := [("k", 5)]) rfl sc_Look_size.nd (pi_range1 rfl (f_range T) (pa_cons (pe_op op_sub (pv 2) (pe_callB c_len (by rfl) (f_len T) (by decide +kernel) (pa_cons (pv 3) pa_nil))) pa_nil)) (blkOk_by (N := N_Look_size) (sc := defScope s_Look_size) (by decide +kernel)) (fun _ _ _ _ _ => (pg_name (i := 5) sc_Look_size.nd rfl (.inl rfl))) (fun _ _ _ _ _ => pts_nil) (fun _ _ _ _ _ => (pe_op op_rep (pe_lst (pa_cons pe_int pa_nil)) (pv 1))))) rfl))), ?_⟩
    rw [st_Look_size]
    wtm_at "go"
    refine iSlL (SqL.of pC) fun p0 n0 => ?_
    rw [show cutV (C.rs.map V.ref) none (some hg) = (C.rs.map V.ref).take hg.toNat by rw [eh]; exact cut_to]
    have f0 := Fr.new (S := []) (o := .lst ((C.rs.map V.ref).take hg.toNat)) n0
    have h0 : upd H p0 (.lst ((C.rs.map V.ref).take hg.toNat)) p0 = some (.lst ((C.rs.map V.ref).take hg.toNat)) := upd_same
    have s0 := same_new (o := .lst ((C.rs.map V.ref).take hg.toNat)) n0
    generalize upd H p0 (.lst ((C.rs.map V.ref).take hg.toNat)) = H1 at f0 h0 s0
    wtm_at "go"
    intro D nD
    have nDp : p0 ≠ D := (by wtm_at "ne")
    refine eLcL (xs := (C.rs.map V.ref).take hg.toNat) (fun i H' => ∃ rs : List Addr, NR (fun m : List Int => HO.lst (m.map V.int)) H1 H' D rs (((l.marks.take hg.toNat).map fun r => sizedR r wd.toNat).take i)) ?_ ?_ ?_ ?_
    · exact ⟨[], NR.nil nD⟩
    · exact fun i H' _ ⟨rs, N⟩ => SqL.of (N.fr.at_ _ _ h0 (by simpa using nDp))
    · rintro i x H3 ex ⟨rs, N⟩
      have hi : i < hg.toNat := by have := (List.getElem?_eq_some_iff.mp ex).1; rw [List.length_take] at this; omega
      rw [List.getElem?_take, if_pos hi] at ex
      obtain ⟨m, em, r, rfl, hr⟩ := pGetL (pMapL V.ref (S := RowP H) (R := fun v m => ∃ r, v = V.ref r ∧ RowP H r m) (fun c b z => ⟨c, rfl, z⟩) rC) ex
      have hr1 := s0 _ _ hr
      have hr3 : H3 r = some (.lst (m.map V.int)) := N.fr.at_ _ _ hr1 (by simpa using ne_of_none hr1 nD)
      have hml : m.length ≤ 12 := hR.le m (List.mem_of_getElem? em)
      have ei : ((l.marks.take hg.toNat).map fun r => sizedR r wd.toNat)[i]? = some (sizedR m wd.toNat) := by rw [List.getElem?_map, List.getElem?_take, if_pos hi, em]; rfl
      wtm_at "go"
      intro z nz
      wtm_at "go"
      refine gRepL upd_same (by omega) (by omega) (by decide) fun y ny => ?_
      rw [rep_one]
      have hr4 : upd (upd H3 z (.lst [.int 0])) y (.lst (List.replicate wd.toNat (.int 0))) r = some (.lst (m.map V.int)) := same_new ny _ _ (same_new nz _ _ hr3)
      refine gCat ⟨_, hr4, _, upd_same, ?_, fun c nc => ?_⟩
      · rw [List.length_map, List.length_replicate]
        exact Nat.le_trans (show _ ≤ 24 by omega) (by decide)
      wtm_at "go"
      refine iSlL (SqL.of upd_same) fun u nu => ?_
      have eu : cutV (m.map V.int ++ List.replicate wd.toNat (V.int 0)) none (some wd) = (sizedR m wd.toNat).map V.int := by
        rw [show wd = ((wd.toNat : Nat) : Int) by omega, cut_to, sizedR, List.map_take, List.map_append, List.map_replicate]
        rfl
      rw [eu]
      have s3 : Same H3 (upd (upd (upd H3 z (.lst [.int 0])) y (.lst (List.replicate wd.toNat (.int 0)))) c (.lst (m.map V.int ++ List.replicate wd.toNat (.int 0)))) := ((same_new nz).trans (same_new ny)).trans (same_new nc)
      have s4 := s3.trans (same_new (o := .lst ((sizedR m wd.toNat).map V.int)) nu)
      obtain ⟨a1, a2⟩ := N.acc s4 (by rw [List.length_take, List.length_map, List.length_take]; omega)
      refine ⟨_, a1, a2, rs ++ [u], ?_⟩
      rw [take_succ ei]
      exact N.push s4 (Same.free s3 nu) upd_same
    · rintro H3 ⟨rs1, N⟩
      rw [List.take_of_length_le (by rw [List.length_map, List.length_take, List.length_take, List.length_map, pLen rC]; exact Nat.le_refl _)] at N
      have hl1 : rs1.length = min hg.toNat l.marks.length := by rw [N.len, List.length_map, List.length_take]
      have hD3 := N.at_
      have e3 := N.fr.at_ _ _ (s0 _ _ eC) (by simpa using ne_of_none (s0 _ _ eC) nD)
      wtm_at "go"
      rw [List.length_map]
      wtm_at "go"
      intro D2 nD2
      refine eLcR (lo := 0) (n := (hg - (rs1.length : Int)).toNat) (fun i H' => ∃ rs : List Addr, NR (fun m : List Int => HO.lst (m.map V.int)) H3 H' D2 rs (List.replicate i (List.replicate wd.toNat 0))) ?_ ?_ ?_
      · exact ⟨[], NR.nil nD2⟩
      · rintro i H4 hi ⟨rs, N2⟩
        wtm_at "go"
        intro z nz
        wtm_at "go"
        refine gRepL upd_same (by omega) (by omega) (by decide) fun y ny => ?_
        rw [rep_one]
        have s3 := (same_new (o := .lst [.int 0]) nz)
        have s4 := s3.trans (same_new (o := .lst (List.replicate wd.toNat (.int 0))) ny)
        obtain ⟨a1, a2⟩ := N2.acc s4 (by rw [List.length_replicate]; omega)
        refine ⟨_, a1, a2, rs ++ [y], ?_⟩
        rw [List.replicate_succ']
        exact N2.push s4 (Same.free s3 ny) (by rw [upd_same, List.map_replicate])
      · rintro H4 ⟨rs2, N2⟩
        have hl2 : rs2.length = hg.toNat - l.marks.length := by rw [N2.len, List.length_replicate, hl1]; omega
        have n12 : D ≠ D2 := ne_of_none hD3 nD2
        have hD4 := N2.fr.at_ _ _ hD3 (by simpa using n12)
        refine gCat ⟨_, hD4, _, N2.at_, ?_, fun pm npm => ?_⟩
        · rw [List.length_map, List.length_map]
          exact Nat.le_trans (show _ ≤ 16 by omega) (by decide)
        have e4 := N2.fr.at_ _ _ e3 (by simpa using ne_of_none e3 nD2)
        have neP : C.a ≠ pm := ne_of_none e4 npm
        wtm_at "go"
        have new1 : ∀ x ∈ D :: rs1, H x = none := fun x hx => Same.free s0 (N.new x hx)
        have new2 : ∀ x ∈ D2 :: rs2, H x = none := fun x hx => Same.free s0 (N.fr.free (N2.new x hx))
        have newp : H pm = none := Same.free s0 (N.fr.free (N2.fr.free npm))
        have liveC : ∀ x, H x = none → x ≠ C.a := fun x hx z => by rw [z, eC] at hx; cases hx
        have r1 : ∀ x ∈ rs1, ∃ m : List Int, H3 x = some (.lst (m.map V.int)) := fun x hx => let ⟨m, _, z⟩ := pMem N.rows hx; ⟨m, z⟩
        have r1n : ∀ x ∈ rs1, x ≠ D2 ∧ x ∉ rs2 := fun x hx => by
          obtain ⟨m, z⟩ := r1 x hx
          exact ⟨ne_of_none z nD2, fun y => by have := N2.new x (List.mem_cons_of_mem _ y); rw [this] at z; cases z⟩
        refine q pm (rs1 ++ rs2) _ ?_ ?_ ?_
        · refine lkP_mk upd_same ((upd_ne (Ne.symm neP)).trans (by rw [upd_same, List.map_append])) ?_ ?_
          · show Paired _ _ (sized l.marks wd.toNat hg.toNat)
            rw [← sized_eq]
            refine paired_app (pMapM N.rows fun a b ha z => ?_) ?_
            · have z4 := N2.fr.at_ _ _ z (by simpa using (r1n a ha).1)
              exact (upd_ne (liveC a (new1 a (List.mem_cons_of_mem _ ha)))).trans (same_new npm _ _ z4)
            · rw [show hg.toNat - l.marks.length = (hg - (rs1.length : Int)).toNat by omega]
              exact pMapM N2.rows fun a b ha z => (upd_ne (liveC a (new2 a (List.mem_cons_of_mem _ ha)))).trans (same_new npm _ _ z)
          · rw [List.nodup_cons, List.nodup_cons, List.nodup_append]
            refine ⟨fun z => ?_, fun z => ?_, (List.nodup_cons.mp N.nd).2, (List.nodup_cons.mp N2.nd).2, fun a ha b hb z => (r1n a ha).2 (by rw [z]; exact hb)⟩
            · rcases List.mem_cons.mp z with z | z
              · exact neP z
              · rcases List.mem_append.mp z with z | z
                · exact liveC _ (new1 _ (List.mem_cons_of_mem _ z)) rfl
                · exact liveC _ (new2 _ (List.mem_cons_of_mem _ z)) rfl
            · rcases List.mem_append.mp z with z | z
              · obtain ⟨m, z2⟩ := r1 _ z
                have := N2.fr.at_ _ _ z2 (by simpa using (r1n _ z).1)
                rw [npm] at this
                cases this
              · obtain ⟨m, _, z2⟩ := pMem N2.rows z
                rw [npm] at z2
                cases z2
        · have f1 := ((Fr.same (S := [C.a]) s0).trans3 N.fr (by simpa using new1 D (List.mem_cons_self ..))).trans3 N2.fr (by simpa using new2 D2 (List.mem_cons_self ..))
          exact (f1.trans (Fr.new npm)).trans (Fr.set (same_new npm _ _ e4) rfl (by simp))
        · intro x hx
          rcases List.mem_cons.mp hx with z | z
          · rw [z]; exact newp
          · rcases List.mem_append.mp z with z | z
            · exact new1 x (List.mem_cons_of_mem _ z)
            · exact new2 x (List.mem_cons_of_mem _ z)
end

/-! ### clients -/
abbrev cliF (d r e : Addr) (b : Bool) : List (Str × V) := [("surfaces", .ref d), ("row", .ref r), ("ears", .ref e), ("is_there", .bl b)]
structure CAd where
  c : Addr
  d : Addr
  r : Addr
  e : Addr
  b : Bool
def CIns (K : PySem.W.Frag) (H : Hp) (C : CAd) : Prop := ∃ dx, H C.c = some (.ins (He.ga K "Client") dx (cliF C.d C.r C.e C.b))
structure CP (K : PySem.W.Frag) (H : Hp) (C : CAd) (L : PL) : Prop where
  at_ : CIns K H C
  p : PAt K H C.d L
  nd : (C.c :: C.r :: C.e :: C.d :: fpL L).Nodup
  lr : (H C.r).isSome = true
  le : (H C.e).isSome = true
theorem iEqOO {a b : Option Int} {H : Hp} {Q : VK} (q : Q (.bl (decide (a = b))) H) : rEq (oI a) (oI b) H Q := by
  cases a with
  | none => cases b with
    | none => exact ⟨rfl, q⟩
    | some j => exact ⟨rfl, q⟩
  | some i => cases b with
    | none => exact ⟨rfl, q⟩
    | some j =>
      refine ⟨rfl, ?_⟩
      have : decide ((V.int i) = (V.int j)) = decide (some i = some j) := by simp
      exact this ▸ q
theorem CP.same {K : PySem.W.Frag} {H H' : Hp} {C : CAd} {L : PL} (h : CP K H C L) (s : Same H H') : CP K H' C L := let ⟨dx, e⟩ := h.at_; ⟨⟨dx, s _ _ e⟩, h.p.same s, h.nd, lvSame s h.lr, lvSame s h.le⟩
theorem CP.fr {K : PySem.W.Frag} {H H' : Hp} {C : CAd} {L : PL} {S : List Addr} (h : CP K H C L) (f : Fr S H H') (n : ∀ x ∈ C.c :: C.d :: fpL L, x ∉ S) : CP K H' C L :=
  let ⟨dx, e⟩ := h.at_; ⟨⟨dx, f.at_ _ _ e (n _ (List.mem_cons_self ..))⟩, h.p.fr f fun x hx => n x (List.mem_cons_of_mem _ hx), h.nd, lvFr f h.lr, lvFr f h.le⟩
theorem PAt.names_le {K : PySem.W.Frag} {H : Hp} {d : Addr} {L : PL} (h : PAt K H d L) : (sortI (pwd L).names).length ≤ 10 := by
  rw [sortI, List.length_mergeSort, pnames, List.length_map]
  exact h.le
theorem sorted_get {W : Wd} {i : Nat} {x : V} (hx : ((sortI W.names).map V.int)[i]? = some x) : ∃ m sf, (sortI W.names)[i]? = some m ∧ x = V.int m ∧ W.get m = some sf := by
  rw [List.getElem?_map] at hx
  obtain ⟨m, em, rfl⟩ := Option.map_eq_some_iff.mp hx
  obtain ⟨sf, gs⟩ := name_get ((List.mergeSort_perm _ _).mem_iff.mp (List.mem_of_getElem? em))
  exact ⟨m, sf, em, rfl, gs⟩
def spParts (K : PySem.W.Frag) : Sp := fun vs H Q _ => ∃ C o L, vs = [.ref C.c, oI o] ∧ CP K H C L ∧ ∀ H' p, Same H H' → H p = none → H' p = some (.lst (((pwd L).parts o).map V.int)) → Q (.ref p) H'
def spAllUnder (K : PySem.W.Frag) (f : Nat) : Sp := fun vs H Q _ => ∃ C n L, vs = [.ref C.c, .int n] ∧ CP K H C L ∧ Ht f (pwd L) n ∧ ∀ H' p, Same H H' → H p = none → H' p = some (.lst ((under f (pwd L) n).map V.int)) → Q (.ref p) H'
section
variable {P : Program} {w : World} {K : PySem.W.Frag} {mg : Str → Option Value} {base : Heap}
theorem ok_Client_parts (T : Tx w K mg) : Met P w K mg base 1 (He.ga K "Client") "parts" (spParts K) [] := by
  refine mk_Client_parts T (fun vs H Q E h => ?_) (fun cdv A outer s H vs Q E hr h => ?_)
  · obtain ⟨C, o, L, rfl, _⟩ := h
    rfl
  · obtain ⟨C, o, L, rfl, ⟨⟨dx, eC⟩, hP, hnd, hlr, hle⟩, q⟩ := h
    refine ⟨_, (pss_one (ps_ret (pe_lc (own := [("other", 2)]) rfl sc_Client_parts.nd (pi_list (pe_callB (c_sorDI rfl) (by rfl) (f_sorted T) (by decide +kernel) (pa_cons (pe_fld (pv 0) rfl) pa_nil))) (blkOk_by (N := N_Client_parts) (sc := defScope s_Client_parts) (by decide +kernel)) (fun _ _ _ _ _ => (pg_name (i := 2) sc_Client_parts.nd rfl (.inl rfl))) (fun _ _ _ _ _ => pts_one (pt_cmpR op_eq (pe_fldK (K := K) (pe_dget (hu_of hr) (pe_fldK (K := K) (pv 0) rfl) (pv 2) (fun _ _ => rfl)) rfl) (pv 1) (nomark _))) (fun _ _ _ _ _ => (pv 2))))), ?_⟩
    rw [st_Client_parts]
    wtm_at "go"
    refine gSorDI (ks := (pwd L).names) hP.at_ (kvP_keys L) (by rw [pnames, List.length_map]; have := hP.le; omega) (fun ps nps => ?_)
    show WL _ _ (.ref ps) (upd H ps (.lst ((sortI (pwd L).names).map V.int)))
    have hps : upd H ps (.lst ((sortI (pwd L).names).map V.int)) ps = some (.lst ((sortI (pwd L).names).map V.int)) := upd_same
    have s1 := same_new (o := .lst ((sortI (pwd L).names).map V.int)) nps
    generalize upd H ps (.lst ((sortI (pwd L).names).map V.int)) = H1 at hps s1
    wtm_at "go"
    intro D nD
    have npD : ps ≠ D := (by wtm_at "ne")
    refine eLcL (xs := (sortI (pwd L).names).map V.int) (fun i H' => Fr [D] H1 H' ∧ H' D = some (.lst ((((sortI (pwd L).names).take i).filter fun p => decide (((pwd L).get p).map (·.top) = some o)).map V.int))) ?_ ?_ ?_ ?_
    · exact ⟨Fr.new nD, upd_same⟩
    · exact fun i H' _ ⟨f, _⟩ => SqL.of (f.at_ _ _ hps (by simpa using npD))
    · rintro i x H3 ex ⟨f, hD⟩
      obtain ⟨m, sf, em, rfl, gs⟩ := sorted_get ex
      have e3 := f.at_ _ _ (s1 _ _ eC) (by simpa using ne_of_none (s1 _ _ eC) nD)
      have P3 := (hP.same s1).fr f (S := [D]) fun x hx => by
        obtain ⟨o, e, _⟩ := (hP.same s1).live x hx
        simpa using ne_of_none e nD
      obtain ⟨B, _, ev, ⟨db, eB⟩, _⟩ := P3.get gs
      wtm_at "go"
      refine iDGI P3.at_ ev ?_
      wtm_at "go"
      refine iEqOO ?_
      wtm_at "go"
      have htk : ((sortI (pwd L).names).take (i + 1)) = ((sortI (pwd L).names).take i) ++ [m] := take_succ em
      first | refine iteD (fun e => ?_) (fun e => ?_) | refine iteN (fun e => ?_) (fun e => ?_) | refine ite2 (fun e => ?_) (fun e => ?_)
      · wtm_at "go"
        refine ⟨_, hD, ?_, f.trans (Fr.set hD rfl (by simp)), ?_⟩
        · have := hP.names_le
          rw [List.length_map]
          exact Nat.lt_of_le_of_lt (Nat.le_trans (List.length_filter_le _ _) (show _ ≤ 10 by rw [List.length_take]; omega)) (by decide)
        · rw [upd_same, htk, List.filter_append, List.map_append]
          simp [gs, e]
      · wtm_at "go"
        refine ⟨f, ?_⟩
        rw [hD, htk, List.filter_append]
        simp [gs, e]
    · rintro H3 ⟨f, hD⟩
      rw [List.length_map, List.take_of_length_le (Nat.le_refl _)] at hD
      refine q H3 D (fun b o e => ?_) (Same.free s1 nD) hD
      have e1 := s1 _ _ e
      exact f.at_ _ _ e1 (by simpa using ne_of_none e1 nD)
theorem ok_Client_all_underF (T : Tx w K mg) : ∀ f, f ≤ 3 → Met P w K mg base (f + 2) (He.ga K "Client") "all_under" (spAllUnder K f) []
  | 0, _ => mk_Client_all_under T (fun vs H Q E h => by obtain ⟨pw, n, L, rfl, _⟩ := h; rfl) (fun cdv A outer s H vs Q E hr h => by obtain ⟨_, _, _, _, _, z, _⟩ := h; exact z.elim)
  | f + 1, hf => by
    have ih := ok_Client_all_underF T f (by omega)
    refine mk_Client_all_under T (fun vs H Q E h => ?_) (fun cdv A outer s H vs Q E hr h => ?_)
    · obtain ⟨C, n, L, rfl, _⟩ := h
      rfl
    · obtain ⟨C, n, L, rfl, hCP, hT, q⟩ := h
      obtain ⟨⟨dx, eC⟩, hP, hnd, hlr, hle⟩ := id hCP
      refine ⟨_, (pss_cons (ps_set (i := 2) sc_Client_all_under.nd rfl (.inl rfl) (pe_lst (pa_cons (pv 1) pa_nil)))
  (pss_cons (ps_for PassesOwn.never rfl (pi_list (pe_mt (ok_Client_parts (K := K) T) hr (by omega) (pv 0) (pa_cons (pv 1) pa_nil))) (pg_name (i := 3) sc_Client_all_under.nd rfl (.inl rfl)) (pss_one (ps_expr (pe_bm PySem.F.plainAttrs_list PySem.F.slot_list_extend PySem.F.type_list_extend mt_extend (pv 2) (pa_cons (pe_mt ih hr (by omega) (pv 0) (pa_cons (pv 3) pa_nil)) pa_nil)))))
  (pss_one (ps_ret (pv 2))))), ?_⟩
      rw [st_Client_all_under]
      wtm_at "go"
      intro p np
      have sp1 := same_new (o := .lst [.int n]) np
      have hp1 : upd H p (.lst [.int n]) p = some (.lst ([n].map V.int)) := upd_same
      show gName _ _ _ (upd H p (.lst [.int n])) _
      generalize upd H p (.lst [.int n]) = H1 at sp1 hp1
      have eC1 := sp1 _ _ eC
      have hP1 := hP.same sp1
      wtm_at "go"
      refine ⟨C, some n, L, rfl, hCP.same sp1, fun H2 ps s2 nps hps => ?_⟩
      have npp : p ≠ ps := ne_of_none hp1 nps
      wtm_at "go"
      refine eForL (xs := ((pwd L).parts (some n)).map V.int) (fun i σ H' => ∃ y, σ = [some (.ref C.c), some (.int n), some (.ref p), y] ∧ Fr [p] H2 H' ∧ H' p = some (.lst ((n :: (((pwd L).parts (some n)).take i).flatMap (under f (pwd L))).map V.int))) ?_ ?_ ?_ ?_
      · exact ⟨_, rfl, Fr.refl, s2 _ _ hp1⟩
      · rintro i σ H' _ ⟨y, rfl, f2, _⟩
        exact SqL.of (f2.at_ _ _ hps (by simpa using Ne.symm npp))
      · rintro i x σ H3 hx ⟨y, rfl, f3, hl⟩
        rw [List.getElem?_map] at hx
        obtain ⟨m, em, rfl⟩ := Option.map_eq_some_iff.mp hx
        have s03 : ∀ x ∈ C.c :: C.d :: fpL L, x ∉ [p] := fun x hx => by
          rw [List.mem_singleton]
          rcases List.mem_cons.mp hx with z | hx
          · rw [z]; exact ne_of_none eC np
          · obtain ⟨o, e, _⟩ := hP.live x hx
            exact ne_of_none e np
        have C3 : CP K H3 C L := ((hCP.same sp1).same s2).fr f3 s03
        obtain ⟨⟨dx3, eC3⟩, hP3, _⟩ := id C3
        wtm_at "go"
        refine ⟨C, m, L, rfl, C3, hT m (List.mem_of_getElem? em), fun H4 r s4 nr hr4 => ?_⟩
        have hl4 := s4 _ _ hl
        have npr : p ≠ r := ne_of_none hl nr
        wtm_at "go"
        refine iExtend hl4 hr4 ?_ ?_
        · rw [List.length_map, List.length_map]
          have a1 := under_le f (pwd L) m (by rw [pwd, List.length_map]; exact hP.le)
          have a2 := flat_le (under f (pwd L)) (bU f) (((pwd L).parts (some n)).take i) fun x _ => under_le f (pwd L) x (by rw [pwd, List.length_map]; exact hP.le)
          have a3 : (((pwd L).parts (some n)).take i).length ≤ 10 := by
            rw [List.length_take]
            have := parts_le (pwd L) (some n)
            rw [show (pwd L).length = L.length by simp [pwd]] at this
            have := hP.le
            omega
          have a4 := Nat.mul_le_mul_right (bU f) a3
          have a5 : bU f ≤ bU 3 := bU_mono (by omega)
          have a6 : bU 3 = 1111 := by decide
          rw [List.length_cons]
          exact Nat.le_trans (show _ ≤ 20000 by omega) (by decide)
        · wtm_at "go"
          refine ⟨_, rfl, (f3.trans (Fr.same s4)).trans (Fr.set hl4 rfl (by simp)), ?_⟩
          rw [upd_same, take_succ em, List.flatMap_append, ← List.map_append]
          simp
      · rintro σ H3 ⟨y, rfl, f3, hl⟩
        wtm_at "go"
        rw [List.length_map, List.take_of_length_le (Nat.le_refl _)] at hl
        refine q H3 p (fun b o e => ?_) np hl
        exact f3.at_ _ _ (s2 _ _ (sp1 _ _ e)) (by simpa using ne_of_none e np)
theorem ok_Client_all_under (T : Tx w K mg) : Met P w K mg base 5 (He.ga K "Client") "all_under" (spAllUnder K 3) [] := ok_Client_all_underF T 3 (by omega)
end

def fits (m : List (List Int)) (x y w h : Int) : Bool := !decide (x + w > ((m.headD []).length : Int) ∨ y + h > (m.length : Int))
def spPaint (K : PySem.W.Frag) : Sp := fun vs H Q _ => ∃ A l x y wd hg c, vs = [.ref A.a, .int x, .int y, .int wd, .int hg, .int c] ∧ LkP K H A l ∧ Rect l.marks ∧ (0 ≤ x ∧ x ≤ 11) ∧ (0 ≤ y ∧ y ≤ 7) ∧ (1 ≤ wd ∧ wd ≤ 12) ∧ (1 ≤ hg ∧ hg ≤ 8) ∧
  (fits l.marks x y wd hg = true → ∀ H', LkP K H' A { l with marks := paintM l.marks x.toNat y.toNat wd.toNat hg.toNat c } → Fr A.rs H H' → Q (.bl true) H') ∧ (fits l.marks x y wd hg = false → Q (.bl false) H)
section
variable {P : Program} {w : World} {K : PySem.W.Frag} {mg : Str → Option Value} {base : Heap}
theorem ok_Look_paint (T : Tx w K mg) : Met P w K mg base 1 (He.ga K "Look") "paint" (spPaint K) [] := by
  refine mk_Look_paint T (fun vs H Q E h => ?_) (fun cdv A outer s H vs Q E hr h => ?_)
  · obtain ⟨A, l, x, y, wd, hg, c, rfl, _⟩ := h
    rfl
  · obtain ⟨C, l, x, y, wd, hg, c, rfl, hL, hR, hx, hy, hw, hh, q1, q2⟩ := h
    obtain ⟨⟨dC, eC⟩, pC, rC, nC⟩ := id hL
    have hlen : C.rs.length = l.marks.length := pLen rC
    have h8 := hR.h8
    have h1 := hR.h1
    have hw12 := hR.w12
    have nrs : C.rs.Nodup := (List.nodup_cons.mp (List.nodup_cons.mp nC).2).2
    obtain ⟨m0, em0⟩ : ∃ m0, l.marks[0]? = some m0 := ⟨_, List.getElem?_eq_getElem (by omega)⟩
    have hm0 : l.marks.headD [] = m0 := by cases e : l.marks with
      | nil => rw [e] at em0; cases em0
      | cons a b => rw [e] at em0; exact Option.some.inj em0
    rw [hm0] at hw12
    obtain ⟨r0, er0, hr0⟩ := pGet rC em0
    refine ⟨_, (pss_cons (ps_if (PW.pt (pw_or (pt_cmpR op_gt (pe_op op_add (pv 2) (pv 4)) (pe_callB c_len (by rfl) (f_len T) (by decide +kernel) (pa_cons (pe_fld (pv 0) rfl) pa_nil)) (nomark _)) (pw_or1 (pt_cmpR op_gt (pe_op op_add (pv 1) (pv 3)) (pe_callB c_len (by rfl) (f_len T) (by decide +kernel) (pa_cons (pe_ix ix_list (pe_fld (pv 0) rfl) pe_int (fun _ _ => rfl)) pa_nil)) (nomark _))))) (pss_one (ps_ret pe_bl)) pss_nil)
  (pss_cons (ps_for PassesOwn.never rfl (pi_list (pe_slice sl_list (pe_fld (pv 0) rfl) (po_some (pv 2)) (po_some (pe_op op_add (pv 2) (pv 4))))) (pg_name (i := 6) sc_Look_paint.nd rfl (.inl rfl)) (pss_one (ps_asg (pe_op op_rep (pe_lst (pa_cons (pv 5) pa_nil)) (pv 3)) (pg_slice (pv 6) (pv 1) (pe_op op_add (pv 1) (pv 3))))))
  (pss_one (ps_ret pe_bl)))), ?_⟩
    rw [st_Look_paint]
    refine iSeq ?_
    refine iIfS ?_
    refine iTK (fun b H' => H' = H ∧ b = !fits l.marks x y wd hg) (fun R' k' => ?_) ?_
    · wtm_at "go"
      rw [List.length_map, hlen]
      first | refine iteD (fun e1 => ?_) (fun e1 => ?_) | refine iteN (fun e1 => ?_) (fun e1 => ?_) | refine ite2 (fun e1 => ?_) (fun e1 => ?_)
      · wtm_at "go"
        refine k' _ _ ⟨rfl, ?_⟩
        unfold fits
        rw [decide_eq_true (show x + wd > _ ∨ y + hg > _ from .inr e1)]
        rfl
      · wtm_at "go"
        refine iIxL (v := .ref r0) (SqL.of pC) (at_of (j := 0) rfl (by rw [List.getElem?_map, er0]; rfl)) ?_
        wtm_at "go"
        refine gLenL ⟨_, SqL.of hr0, ?_⟩
        wtm_at "go"
        refine k' _ _ ⟨rfl, ?_⟩
        unfold fits
        rw [hm0, List.length_map]
        by_cases e2 : x + wd > (m0.length : Int)
        · rw [decide_eq_true e2, decide_eq_true (show x + wd > _ ∨ y + hg > _ from .inl e2)]
          rfl
        · rw [decide_eq_false e2, decide_eq_false (show ¬ (x + wd > _ ∨ y + hg > _) from fun z => z.elim e2 e1)]
          rfl
    · rintro b H' ⟨rfl, rfl⟩
      cases ef : fits l.marks x y wd hg with
      | false =>
        wtm_at "go"
        exact q2 ef
      | true =>
        have hf : x + wd ≤ (m0.length : Int) ∧ y + hg ≤ (l.marks.length : Int) := by
          unfold fits at ef
          rw [hm0] at ef
          simp only [Bool.not_eq_true', decide_eq_false_iff_not] at ef
          omega
        wtm_at "go"
        refine iSlL (SqL.of pC) fun p0 n0 => ?_
        have ey : y = ((y.toNat : Nat) : Int) := by omega
        have ehg : y + hg = ((y.toNat + hg.toNat : Nat) : Int) := by omega
        have ecut : cutV (C.rs.map V.ref) (some y) (some (y + hg)) = ((C.rs.drop y.toNat).take hg.toNat).map V.ref := by
          unfold cutV
          rw [ey, HT.sIx_nat, show ((y.toNat : Nat) : Int) + hg = ((y.toNat + hg.toNat : Nat) : Int) by omega, HT.sIx_nat, List.length_map, Nat.min_eq_left (by omega), Nat.min_eq_left (by omega), Nat.add_sub_cancel_left, List.map_take, List.map_drop, Int.toNat_natCast]
        rw [ecut]
        have s0 := same_new (o := .lst (((C.rs.drop y.toNat).take hg.toNat).map V.ref)) n0
        have h0 : upd H' p0 (.lst (((C.rs.drop y.toNat).take hg.toNat).map V.ref)) p0 = some (.lst (((C.rs.drop y.toNat).take hg.toNat).map V.ref)) := upd_same
        generalize upd H' p0 (.lst (((C.rs.drop y.toNat).take hg.toNat).map V.ref)) = H1 at s0 h0
        wtm_at "go"
        have hp0 : p0 ∉ C.rs := fun z => by
          obtain ⟨m, _, q⟩ := pMem rC z
          have q : H' p0 = some (.lst (m.map V.int)) := q
          rw [n0] at q
          cases q
        refine eForL (xs := ((C.rs.drop y.toNat).take hg.toNat).map V.ref) (fun i σ H2 => ∃ y6, σ = [some (.ref C.a), some (.int x), some (.int y), some (.int wd), some (.int hg), some (.int c), y6] ∧ Fr C.rs H1 H2 ∧ Paired (RowP H2) C.rs (paintM l.marks x.toNat y.toNat wd.toNat i c)) ?_ ?_ ?_ ?_
        · exact ⟨_, rfl, Fr.refl, by rw [paintM_zero]; exact pMap rC fun _ _ z => s0 _ _ z⟩
        · rintro i σ H2 _ ⟨_, _, f, _⟩
          exact SqL.of (f.at_ _ _ h0 hp0)
        · rintro i v σ H2 ex ⟨y6, rfl, f2, r2⟩
          have hi : i < hg.toNat := by have := (List.getElem?_eq_some_iff.mp ex).1; rw [List.length_map, List.length_take] at this; omega
          rw [List.getElem?_map, List.getElem?_take, if_pos hi, List.getElem?_drop] at ex
          obtain ⟨r, er, rfl⟩ := Option.map_eq_some_iff.mp ex
          have hyi : y.toNat + i < l.marks.length := by omega
          obtain ⟨m, em, hrm⟩ := pGetL r2 er
          rw [paintM_get hyi, if_neg (by omega)] at em
          obtain rfl := Option.some.inj em
          have hrl := hR.row hyi
          rw [hm0] at hrl
          wtm_at "go"
          intro z nz
          wtm_at "go"
          refine gRepL upd_same (by omega) (by omega) (by simp) fun u nu => ?_
          rw [rep_one]
          wtm_at "go"
          have s3 := (same_new (o := .lst [.int c]) nz).trans (same_new (o := .lst (List.replicate wd.toNat (.int c))) nu)
          refine iWSl (v := .non) (l := .non) (u := .non) (s3 _ _ hrm) upd_same (ne_of_none (same_new nz _ _ hrm) nu) (by omega) (by omega) ?_ ?_ ?_
          · rw [List.length_map]; omega
          · rw [List.length_map, List.length_replicate]
            exact Nat.le_trans (show _ ≤ 24 by omega) (by decide)
          rw [show (List.map V.int (l.marks.getD (y.toNat + i) [])).take x.toNat ++ List.replicate wd.toNat (V.int c) ++ (List.map V.int (l.marks.getD (y.toNat + i) [])).drop (x + wd).toNat = (paintR (l.marks.getD (y.toNat + i) []) x.toNat wd.toNat c).map V.int by
            unfold paintR
            rw [show (x + wd).toNat = x.toNat + wd.toNat by omega]
            simp]
          refine ⟨_, rfl, (f2.trans (Fr.same s3)).trans (Fr.set (s3 _ _ hrm) rfl (List.mem_of_getElem? er)), ?_⟩
          rw [← paintM_step hyi]
          exact pUpd (pMap r2 fun _ _ z => s3 _ _ z) nrs er
        · rintro σ H2 ⟨y6, rfl, f2, r2⟩
          rw [List.length_map, List.length_take, List.length_drop, Nat.min_eq_left (by omega)] at r2
          wtm_at "go"
          have aC : ∀ z, z ∈ C.a :: C.pm :: [] → z ∉ C.rs := fun z hz => by
            simp only [List.mem_cons, List.not_mem_nil, or_false] at hz
            rcases hz with hz | hz
            · rw [hz]; exact fun q => (List.nodup_cons.mp nC).1 (List.mem_cons_of_mem _ q)
            · rw [hz]; exact (List.nodup_cons.mp (List.nodup_cons.mp nC).2).1
          refine q1 ef H2 ⟨⟨dC, f2.at_ _ _ (s0 _ _ eC) (aC _ (by simp))⟩, f2.at_ _ _ (s0 _ _ pC) (aC _ (by simp)), r2, nC⟩ ((Fr.same s0).trans f2)
end

/-! surfaces, clients made -/
def spSurfI (K : PySem.W.Frag) : Sp := fun vs H Q _ => ∃ a dx, vs = [.ref a] ∧ H a = some (.ins (He.ga K "Surface") dx []) ∧ ∀ A H', A.a = a → SfP K H' A Sf.new → Fr [a] H H' → (∀ x ∈ A.fp, x = a ∨ H x = none) → Q .non H'
def spCliI (K : PySem.W.Frag) : Sp := fun vs H Q _ => ∃ a dx, vs = [.ref a] ∧ H a = some (.ins (He.ga K "Client") dx []) ∧ ∀ C H', C.c = a → C.b = true → CIns K H' C → H' C.d = some (.dK []) → H' C.r = some (.lst []) → H' C.e = some (.lst []) → Fr [a] H H' → H C.d = none → H C.r = none → H C.e = none → [C.c, C.d, C.r, C.e].Nodup → Q .non H'
section
variable {P : Program} {w : World} {K : PySem.W.Frag} {mg : Str → Option Value} {base : Heap}
theorem ok_Surface (T : Tx w K mg) : Mak P w K mg base 3 "Surface" (He.ga K "Surface") (spSurfI K) [] := by
  refine mk_SurfaceDU_initDU T (fun vs H Q E h => ?_) (fun cdv A outer s H vs Q E hr h => ?_)
  · obtain ⟨a, dx, rfl, _⟩ := h
    rfl
  · obtain ⟨a, dx, rfl, ha, q⟩ := h
    refine ⟨_, (pss_cons (ps_fld (pv 0) (pe_mk0 (ok_Look (K := K) T) hr (by omega) rfl) rfl)
  (pss_cons (ps_fld (pv 0) pe_non rfl)
  (pss_cons (ps_fld (pv 0) pe_non rfl)
  (pss_one (ps_fld (pv 0) pe_non rfl))))), ?_⟩
    rw [st_SurfaceDU_initDU]
    wtm_at "go"
    refine iMkLook (K := K) fun B H1 hB s1 nB => ?_
    have ha1 := s1 _ _ ha
    have naB : a ∉ B.fp := fun z => by rw [nB a z] at ha; cases ha
    wtm_at "go"
    simp only [upd2]
    refine q ⟨a, B, none, none⟩ _ rfl ⟨⟨dx, upd_same⟩, hB.fr (Fr.set (S := [a]) ha1 rfl (by simp)) (fun x hx => by rw [List.mem_singleton]; exact fun z => naB (by rw [← z]; exact hx)), trivial, trivial, ?_⟩ ((Fr.same s1).trans (Fr.set ha1 rfl (by simp))) (fun x hx => ?_)
    · show (a :: (B.fp ++ ([] ++ []))).Nodup
      rw [List.append_nil, List.append_nil, List.nodup_cons]
      exact ⟨naB, hB.nd⟩
    · have hx : x ∈ a :: (B.fp ++ ([] ++ [])) := hx
      rw [List.append_nil, List.append_nil] at hx
      rcases List.mem_cons.mp hx with z | z
      · exact .inl z
      · exact .inr (nB x z)
theorem ok_Client (T : Tx w K mg) : Mak P w K mg base 1 "Client" (He.ga K "Client") (spCliI K) [] := by
  refine mk_ClientDU_initDU T (fun vs H Q E h => ?_) (fun cdv A outer s H vs Q E hr h => ?_)
  · obtain ⟨a, dx, rfl, _⟩ := h
    rfl
  · obtain ⟨a, dx, rfl, ha, q⟩ := h
    refine ⟨_, (pss_cons (ps_fld (pv 0) pe_dnewK rfl)
  (pss_cons (ps_fld (pv 0) (pe_lst pa_nil) rfl)
  (pss_cons (ps_fld (pv 0) (pe_lst pa_nil) rfl)
  (pss_one (ps_fld (pv 0) pe_bl rfl))))), ?_⟩
    rw [st_ClientDU_initDU]
    wtm_at "go"
    intro d nd
    have n1 : a ≠ d := (by wtm_at "ne")
    wtm_at "go"
    intro r nr
    have n2 : a ≠ r := (by wtm_at "ne")
    have n3 : d ≠ r := (by wtm_at "ne")
    wtm_at "go"
    intro e ne
    have n4 : a ≠ e := (by wtm_at "ne")
    have n5 : d ≠ e := (by wtm_at "ne")
    have n6 : r ≠ e := (by wtm_at "ne")
    wtm_at "go"
    simp only [upd2]
    have e1 : H d = none := nd
    have e2 : H r = none := noneU (noneU nr)
    have e3 : H e = none := noneU (noneU (noneU (noneU ne)))
    refine q ⟨a, d, r, e, true⟩ _ rfl rfl ⟨dx, upd_same⟩ ?_ ?_ ?_ ?_ e1 e2 e3 (by simp [n1, n2, n3, n4, n5, n6])
    · exact (upd_ne (Ne.symm n1)).trans ((upd_ne n5).trans ((upd_ne (Ne.symm n1)).trans ((upd_ne n3).trans ((upd_ne (Ne.symm n1)).trans upd_same))))
    · exact (upd_ne (Ne.symm n2)).trans ((upd_ne n6).trans ((upd_ne (Ne.symm n2)).trans upd_same))
    · exact (upd_ne (Ne.symm n4)).trans upd_same
    · refine ((((((Fr.new (S := [a]) nd).trans (Fr.set (hUpd n1 ha) rfl (by simp))).trans (Fr.new nr)).trans (Fr.set (hUpd n2 upd_same) rfl (by simp))).trans (Fr.new ne)).trans (Fr.set (hUpd n4 upd_same) rfl (by simp)))
/-- a surface made -/
theorem iMkSurf {σ : L2.St} {H : Hp} {Q : VK} (q : ∀ A H', SfP K H' A Sf.new → Same H H' → (∀ x ∈ A.fp, H x = none) → Q (.ref A.a) H') : tMake (He.ga K "Surface") (spSurfI K) [] C8.E0 tNil σ H Q := by
  intro x dx nx ndx nd
  refine ⟨x, dx, rfl, upd_same, fun A H' ea hA f hn => ⟨rfl, ?_⟩⟩
  subst ea
  refine q A H' hA (fun b o e => ?_) fun z hz => ?_
  · have e1 : upd (upd H dx (.own A.a)) A.a (.ins (He.ga K "Surface") dx []) b = some o := by rw [upd_ne (ne_of_none e nx), upd_ne (ne_of_none e ndx)]; exact e
    exact f.at_ _ _ e1 fun z => by rw [List.mem_singleton.mp z, nx] at e; cases e
  · rcases hn z hz with h | h
    · rw [h]; exact nx
    · exact noneU (noneU h)
theorem pat_nil {H : Hp} {d : Addr} (h : H d = some (.dK [])) : PAt K H d [] := ⟨h, (fun _ h => nomatch h), by simp [fpL], by simp, Nat.zero_le _⟩
/-- a client made -/
theorem iMkCli {σ : L2.St} {H : Hp} {Q : VK} (q : ∀ C H', CP K H' C [] → C.b = true → H' C.r = some (.lst []) → H' C.e = some (.lst []) → Same H H' → (∀ x ∈ [C.c, C.d, C.r, C.e], H x = none) → [C.c, C.d, C.r, C.e].Nodup → Q (.ref C.c) H') : tMake (He.ga K "Client") (spCliI K) [] C8.E0 tNil σ H Q := by
  intro x dx nx ndx nd
  refine ⟨x, dx, rfl, upd_same, fun C H' ea eb hI hd hr he f n1 n2 n3 hnd => ⟨rfl, ?_⟩⟩
  subst ea
  refine q C H' ⟨hI, pat_nil hd, (by
    simp only [List.nodup_cons, List.mem_cons, List.not_mem_nil, or_false, fpL, List.flatMap_nil] at hnd ⊢
    obtain ⟨h1, h2, h3, _⟩ := hnd
    simp only [not_or] at h1 h2 h3
    simp [h1, h2, h3, Ne.symm h1.1, Ne.symm h2.1, Ne.symm h2.2]), lvS hr, lvS he⟩ eb hr he (fun b o e => ?_) (fun z hz => ?_) hnd
  · have e1 : upd (upd H dx (.own C.c)) C.c (.ins (He.ga K "Client") dx []) b = some o := by rw [upd_ne (ne_of_none e nx), upd_ne (ne_of_none e ndx)]; exact e
    exact f.at_ _ _ e1 fun z => by rw [List.mem_singleton.mp z, nx] at e; cases e
  · simp only [List.mem_cons, List.not_mem_nil, or_false] at hz
    rcases hz with z | z | z | z
    · rw [z]; exact nx
    · rw [z]; exact noneU (noneU n1)
    · rw [z]; exact noneU (noneU n2)
    · rw [z]; exact noneU (noneU n3)
end

/-! ### one surface changed, one more, one less -/
def putP (L : PL) (n : Int) (A : SA) (s : Sf) : PL := L.map fun e => if e.1 = n then (n, A, s) else e
def fpE (e : Int × SA × Sf) : List Addr := e.2.1.fp
def Apart (e f : Int × SA × Sf) : Prop := ∀ x ∈ fpE e, ∀ y ∈ fpE f, x ≠ y
section
variable {K : PySem.W.Frag} {H H' : Hp} {S : List Addr} {d : Addr} {L : PL} {n : Int} {A : SA} {s : Sf}
theorem pmem_nn (h : (L.map fun e => e.1).Nodup) {a b : Int × SA × Sf} (ha : a ∈ L) (hb : b ∈ L) (e : a.1 = b.1) : a = b := by
  obtain ⟨i, hi, ea⟩ := List.mem_iff_getElem.mp ha
  obtain ⟨j, hj, eb⟩ := List.mem_iff_getElem.mp hb
  have : i = j := (List.getElem_inj (xs := L.map fun e => e.1) (h₀ := by simpa using hi) (h₁ := by simpa using hj) h).mp (by simp [ea, eb, e])
  subst this
  rw [← ea, ← eb]
theorem fpL_nd : (d :: fpL L).Nodup ↔ d ∉ fpL L ∧ (∀ e ∈ L, (fpE e).Nodup) ∧ L.Pairwise Apart := by
  rw [List.nodup_cons]
  unfold fpL
  show _ ∧ List.Pairwise _ _ ↔ _
  rw [List.pairwise_flatMap]
  exact Iff.rfl
theorem apart_mem : ∀ {L : PL}, L.Pairwise Apart → ∀ {e f}, e ∈ L → f ∈ L → e ≠ f → Apart e f
  | [], _, _, _, h, _, _ => nomatch h
  | a :: L, h, e, f, he, hf, ne => by
    obtain ⟨h1, h2⟩ := List.pairwise_cons.mp h
    rcases List.mem_cons.mp he with z | he
    · rcases List.mem_cons.mp hf with y | hf
      · exact absurd (z.trans y.symm) ne
      · rw [z]; exact h1 f hf
    · rcases List.mem_cons.mp hf with y | hf
      · rw [y]; exact fun x hx y hy q => h1 e he y hy x hx q.symm
      · exact apart_mem h2 he hf ne
theorem kv_putP (ea : ∀ e ∈ L, e.1 = n → e.2.1.a = A.a) : kvP (putP L n A s) = kvP L := by
  unfold kvP putP
  rw [List.map_map]
  refine List.map_congr_left fun e he => ?_
  show (Sum.inl (if e.1 = n then (n, A, s) else e).1, V.ref (if e.1 = n then (n, A, s) else e).2.1.a) = _
  by_cases q : e.1 = n
  · rw [if_pos q, ea e he q, q]
  · rw [if_neg q]
theorem pn_putP : (putP L n A s).map (fun e => e.1) = L.map fun e => e.1 := by
  unfold putP
  rw [List.map_map]
  refine List.map_congr_left fun e _ => ?_
  show (if e.1 = n then (n, A, s) else e).1 = e.1
  by_cases q : e.1 = n
  · rw [if_pos q, q]
  · rw [if_neg q]
theorem pwd_putP {A' : SA} {f : Sf → Sf} (hnn : (L.map fun e => e.1).Nodup) (m : (n, A, s) ∈ L) : pwd (putP L n A' (f s)) = (pwd L).put n f := by
  unfold pwd putP Wd.put
  rw [List.map_map, List.map_map]
  refine List.map_congr_left fun e he => ?_
  show ((if e.1 = n then (n, A', f s) else e).1, (if e.1 = n then (n, A', f s) else e).2.2) = if e.1 = n then (e.1, f e.2.2) else (e.1, e.2.2)
  by_cases q : e.1 = n
  · rw [if_pos q, if_pos q, pmem_nn hnn he m q]
  · rw [if_neg q, if_neg q]
theorem PAt.put {A' : SA} {s' : Sf} (h : PAt K H d L) (m : (n, A, s) ∈ L) (ea : A'.a = A.a) (fr : Fr S H H') (hS : ∀ x ∈ S, x ∈ A.fp) (q : SfP K H' A' s') (new : ∀ x ∈ A'.fp, x ∈ A.fp ∨ H x = none) : PAt K H' d (putP L n A' s') := by
  obtain ⟨n1, n2, n3⟩ := fpL_nd.mp h.nd
  have hAl : ∀ x ∈ A.fp, x ∈ fpL L := fun x hx => List.mem_flatMap.mpr ⟨_, m, hx⟩
  have hd : d ∉ S := fun z => n1 (hAl d (hS d z))
  have oth : ∀ e ∈ L, e.1 ≠ n → ∀ x ∈ fpE e, x ∉ A.fp := fun e he ne x hx z => apart_mem n3 he m (fun z2 => ne (by rw [z2])) x hx x z rfl
  have oth2 : ∀ e ∈ L, e.1 ≠ n → ∀ x ∈ fpE e, x ∉ A'.fp := fun e he ne x hx z => by
    rcases new x z with y | y
    · exact oth e he ne x hx y
    · obtain ⟨o, eo, _⟩ := (h.each e he).live x hx
      rw [y] at eo
      cases eo
  refine ⟨?_, fun e he => ?_, fpL_nd.mpr ⟨?_, fun e he => ?_, ?_⟩, by rw [pn_putP]; exact h.nn, by unfold putP; rw [List.length_map]; exact h.le⟩
  · rw [kv_putP fun e he en => by rw [pmem_nn h.nn he m en]; exact ea.symm]
    exact fr.at_ _ _ h.at_ hd
  · obtain ⟨e0, h0, rfl⟩ := List.mem_map.mp he
    by_cases en : e0.1 = n
    · rw [if_pos en]; exact q
    · rw [if_neg en]
      exact (h.each e0 h0).fr fr fun x hx z => oth e0 h0 en x hx (hS x z)
  · intro z
    obtain ⟨e, he, hx⟩ := List.mem_flatMap.mp z
    obtain ⟨e0, h0, rfl⟩ := List.mem_map.mp he
    by_cases en : e0.1 = n
    · rw [if_pos en] at hx
      rcases new d hx with y | y
      · exact n1 (hAl d y)
      · rw [h.at_] at y; cases y
    · rw [if_neg en] at hx
      exact n1 (List.mem_flatMap.mpr ⟨e0, h0, hx⟩)
  · obtain ⟨e0, h0, rfl⟩ := List.mem_map.mp he
    by_cases en : e0.1 = n
    · rw [if_pos en]; exact q.nd
    · rw [if_neg en]; exact n2 e0 h0
  · unfold putP
    rw [List.pairwise_map]
    have hp := List.pairwise_map.mp h.nn
    refine List.Pairwise.imp_of_mem ?_ (List.pairwise_and_iff.mpr ⟨n3, hp⟩)
    rintro e f he hf ⟨ap, nn⟩
    by_cases en : e.1 = n
    · have fn : f.1 ≠ n := fun z => nn (by rw [en, z])
      rw [if_pos en, if_neg fn]
      exact fun x hx y hy z => oth2 f hf fn y hy (by rw [← z]; exact hx)
    · rw [if_neg en]
      by_cases fn : f.1 = n
      · rw [if_pos fn]
        exact fun x hx y hy z => oth2 e he en x hx (by rw [z]; exact hy)
      · rw [if_neg fn]; exact ap
theorem fpL_put {A' : SA} {s' : Sf} (m : (n, A, s) ∈ L) (new : ∀ x ∈ A'.fp, x ∈ A.fp ∨ H x = none) : ∀ x ∈ fpL (putP L n A' s'), x ∈ fpL L ∨ H x = none := fun x hx => by
  obtain ⟨e, he, hx⟩ := List.mem_flatMap.mp hx
  obtain ⟨e0, h0, rfl⟩ := List.mem_map.mp he
  by_cases en : e0.1 = n
  · rw [if_pos en] at hx
    rcases new x hx with y | y
    · exact .inl (List.mem_flatMap.mpr ⟨_, m, y⟩)
    · exact .inr y
  · rw [if_neg en] at hx
    exact .inl (List.mem_flatMap.mpr ⟨_, h0, hx⟩)
theorem pwd_notin (g : (pwd L).get n = none) : n ∉ L.map fun e => e.1 := fun z => by
  obtain ⟨s, e⟩ := name_get (W := pwd L) (n := n) (by rw [pnames]; exact z)
  rw [g] at e
  cases e
theorem putKP_new {v : V} (hn : n ∉ L.map fun e => e.1) : putK (kvP L) (.inl n) v = kvP L ++ [(.inl n, v)] := by
  have h := putK_new (L := L.map fun e => (e.1, e.2.1.a, e.2.2)) (n := n) (by rw [List.map_map]; exact hn) v
  have e1 : kvW (L.map fun e => (e.1, e.2.1.a, e.2.2)) = kvP L := by unfold kvW kvP; rw [List.map_map]; rfl
  rw [e1] at h
  exact h
theorem PAt.add (h : PAt K H d L) (hn : n ∉ L.map fun e => e.1) (fr : Fr [d] H H') (hp : H' d = some (.dK (putK (kvP L) (.inl n) (.ref A.a)))) (q : SfP K H' A s) (new : ∀ x ∈ A.fp, H x = none) (hl : L.length < 10) : PAt K H' d (L ++ [(n, A, s)]) := by
  obtain ⟨n1, n2, n3⟩ := fpL_nd.mp h.nd
  have nA : ∀ e ∈ L, ∀ x ∈ fpE e, x ∉ A.fp := fun e he x hx z => by
    obtain ⟨o, eo, _⟩ := (h.each e he).live x hx
    rw [new x z] at eo
    cases eo
  refine ⟨?_, fun e he => ?_, fpL_nd.mpr ⟨?_, fun e he => ?_, ?_⟩, ?_, by rw [List.length_append]; exact hl⟩
  · rw [hp, putKP_new hn]
    simp [kvP]
  · rcases List.mem_append.mp he with he | he
    · exact (h.each e he).fr fr fun x hx z => n1 (by rw [← List.mem_singleton.mp z]; exact List.mem_flatMap.mpr ⟨e, he, hx⟩)
    · rw [List.mem_singleton.mp he]; exact q
  · intro z
    obtain ⟨e, he, hx⟩ := List.mem_flatMap.mp z
    rcases List.mem_append.mp he with he | he
    · exact n1 (List.mem_flatMap.mpr ⟨e, he, hx⟩)
    · rw [List.mem_singleton.mp he] at hx
      have := new d hx
      rw [h.at_] at this
      cases this
  · rcases List.mem_append.mp he with he | he
    · exact n2 e he
    · rw [List.mem_singleton.mp he]; exact q.nd
  · rw [List.pairwise_append]
    refine ⟨n3, List.pairwise_singleton _ _, fun e he f hf => ?_⟩
    rw [List.mem_singleton.mp hf]
    exact fun x hx y hy z => nA e he x hx (by rw [z]; exact hy)
  · rw [List.map_append, List.nodup_append]
    refine ⟨h.nn, by simp, fun a ha b hb e => ?_⟩
    rw [List.mem_singleton.mp (show b ∈ [n] from hb)] at e
    exact hn (by rw [← e]; exact ha)
def delP (L : PL) (n : Int) : PL := L.filter fun e => decide (e.1 ≠ n)
theorem kv_delP (L : PL) (n : Int) : kvP (delP L n) = dropK (kvP L) (.inl n) := by
  have h := kv_delL (L.map fun e => (e.1, e.2.1.a, e.2.2)) n
  have e1 : ∀ L : PL, kvW (L.map fun e => (e.1, e.2.1.a, e.2.2)) = kvP L := fun L => by unfold kvW kvP; rw [List.map_map]; rfl
  rw [e1] at h
  rw [← h, ← e1]
  congr 1
  unfold delP delL
  rw [List.filter_map]
  rfl
theorem pwd_delP (L : PL) (n : Int) : pwd (delP L n) = (pwd L).del n := by
  unfold pwd delP Wd.del
  rw [List.filter_map]
  rfl
theorem fpL_del {x : Addr} (h : x ∈ fpL (delP L n)) : x ∈ fpL L := by
  obtain ⟨e, he, hx⟩ := List.mem_flatMap.mp h
  exact List.mem_flatMap.mpr ⟨e, (List.mem_filter.mp he).1, hx⟩
theorem PAt.del (h : PAt K H d L) : PAt K (upd H d (.dK (dropK (kvP L) (.inl n)))) d (delP L n) := by
  obtain ⟨n1, n2, n3⟩ := fpL_nd.mp h.nd
  have fr : Fr [d] H (upd H d (.dK (dropK (kvP L) (.inl n)))) := Fr.set h.at_ rfl (List.mem_singleton.mpr rfl)
  refine ⟨by rw [upd_same, kv_delP], fun e he => ?_, fpL_nd.mpr ⟨fun z => n1 (fpL_del z), fun e he => n2 e (List.mem_filter.mp he).1, List.Pairwise.filter _ n3⟩, List.Nodup.sublist (List.Sublist.map _ List.filter_sublist) h.nn, Nat.le_trans (List.length_filter_le _ _) h.le⟩
  have hm := (List.mem_filter.mp he).1
  exact (h.each _ hm).fr fr fun x hx z => n1 (by rw [← List.mem_singleton.mp z]; exact List.mem_flatMap.mpr ⟨e, hm, hx⟩)
end

/-! ### a client's surfaces changed -/
structure Step (K : PySem.W.Frag) (H H' : Hp) (C : CAd) (L L' : PL) : Prop where
  cp : CP K H' C L'
  fr : Fr (C.d :: fpL L) H H'
  new : ∀ x ∈ fpL L', x ∈ fpL L ∨ H x = none
section
variable {K : PySem.W.Frag} {H H1 H2 : Hp} {C : CAd} {L L1 L2 : PL}
theorem Step.same (h : CP K H C L) (s : Same H H1) : Step K H H1 C L L := ⟨h.same s, Fr.same s, fun _ hx => .inl hx⟩
theorem Step.trans (a : Step K H H1 C L L1) (b : Step K H1 H2 C L1 L2) : Step K H H2 C L L2 := by
  refine ⟨b.cp, ⟨fun x o e n => ?_, fun x xs e => b.fr.tu _ _ (a.fr.tu _ _ e), fun x o u e => b.fr.fz _ _ _ (a.fr.fz _ _ _ e), fun x e => a.fr.dm _ (b.fr.dm _ e)⟩, fun x hx => ?_⟩
  · refine b.fr.at_ _ _ (a.fr.at_ _ _ e n) fun z => ?_
    rcases List.mem_cons.mp z with z | z
    · exact n (by rw [z]; exact List.mem_cons_self ..)
    · rcases a.new x z with y | y
      · exact n (List.mem_cons_of_mem _ y)
      · rw [e] at y; cases y
  · rcases b.new x hx with y | y
    · exact a.new x y
    · exact .inr (a.fr.dm _ y)
/-- the dict and the footprints changed -/
theorem Step.mk' (h : CP K H C L) (p : PAt K H1 C.d L1) (f : Fr (C.d :: fpL L) H H1) (new : ∀ x ∈ fpL L1, x ∈ fpL L ∨ H x = none) : Step K H H1 C L L1 := by
  obtain ⟨⟨dx, e⟩, hp, nd, lr, le⟩ := h
  have n1 := List.nodup_cons.mp nd
  have n2 := List.nodup_cons.mp n1.2
  have n3 := List.nodup_cons.mp n2.2
  have out : ∀ y, (H y).isSome = true → y ∉ C.d :: fpL L → y ∉ C.d :: fpL L1 := fun y hy hn z => by
    rcases List.mem_cons.mp z with z | z
    · exact hn (by rw [z]; exact List.mem_cons_self ..)
    · rcases new y z with q | q
      · exact hn (List.mem_cons_of_mem _ q)
      · rw [q] at hy; cases hy
  have hc : C.c ∉ C.d :: fpL L := fun z => n1.1 (List.mem_cons_of_mem _ (List.mem_cons_of_mem _ z))
  refine ⟨⟨⟨dx, f.at_ _ _ e hc⟩, p, List.nodup_cons.mpr ⟨fun z => ?_, List.nodup_cons.mpr ⟨fun z => ?_, List.nodup_cons.mpr ⟨out _ le n3.1, p.nd⟩⟩⟩, lvFr f lr, lvFr f le⟩, f, new⟩
  · rcases List.mem_cons.mp z with z | z
    · exact n1.1 (by rw [z]; exact List.mem_cons_self ..)
    · rcases List.mem_cons.mp z with z | z
      · exact n1.1 (by rw [z]; exact List.mem_cons_of_mem _ (List.mem_cons_self ..))
      · exact out _ (lvS e) hc z
  · rcases List.mem_cons.mp z with z | z
    · exact n2.1 (by rw [z]; exact List.mem_cons_self ..)
    · exact out _ lr (fun y => n2.1 (List.mem_cons_of_mem _ y)) z
theorem iNoLP {K' : PySem.W.Frag} {A : Option LA} {l : Option Lk} {H H' : Hp} {Q : VK} (h : OLkP K' H' A l) (q : Q (.bl l.isSome) H) : rNotNon (oA A) .non H Q := by
  refine ⟨rfl, ?_⟩
  rw [h.isNon]
  cases l <;> exact q
theorem iIsLP {K' : PySem.W.Frag} {A : Option LA} {l : Option Lk} {H H' : Hp} {Q : VK} (h : OLkP K' H' A l) (q : Q (.bl l.isNone) H) : rIsNon (oA A) .non H Q := by
  refine ⟨rfl, ?_⟩
  rw [h.isNon]
  exact q
end
section
variable {K : PySem.W.Frag} {H H' : Hp} {S : List Addr} {A : SA} {s : Sf}
/-- what is pending told otherwise -/
theorem SfP.pend (h : SfP K H A s) {B : LA} {k : Lk} (hB : LkP K H' B k) (ea : B.a = A.p.a) (fr : Fr S H H') (hS : ∀ x ∈ S, x ∈ A.p.fp) (new : ∀ x ∈ B.fp, x ∈ A.p.fp ∨ H x = none) :
    SfP K H' { A with p := B } { s with pending := k } ∧ ∀ x ∈ SA.fp { A with p := B }, x ∈ A.fp ∨ H x = none := by
  obtain ⟨⟨dx, e⟩, hp, hr, hs, nd⟩ := h
  have nd : (A.a :: (A.p.fp ++ (ofp A.r ++ ofp A.s))).Nodup := nd
  obtain ⟨na, nb⟩ := List.nodup_cons.mp nd
  obtain ⟨np, nrs, dis⟩ := List.nodup_append.mp nb
  have rest : ∀ x ∈ ofp A.r ++ ofp A.s, (∃ o, H x = some o) ∧ x ∉ A.p.fp := fun x hx => by
    refine ⟨?_, fun z => dis x z x hx rfl⟩
    rcases List.mem_append.mp hx with y | y
    · obtain ⟨o, q, _⟩ := hr.live x y; exact ⟨o, q⟩
    · obtain ⟨o, q, _⟩ := hs.live x y; exact ⟨o, q⟩
  have hrn : ∀ x ∈ ofp A.r ++ ofp A.s, x ∉ S := fun x hx z => (rest x hx).2 (hS x z)
  refine ⟨⟨⟨dx, ?_⟩, hB, hr.fr fr fun x hx => hrn x (List.mem_append_left _ hx), hs.fr fr fun x hx => hrn x (List.mem_append_right _ hx), ?_⟩, fun x hx => ?_⟩
  · show H' A.a = some (.ins _ dx (surfF (.ref B.a) (oA A.r) (oA A.s) (oI s.top)))
    rw [ea]
    exact fr.at_ _ _ e fun z => na (List.mem_append_left _ (hS _ z))
  · show (A.a :: (B.fp ++ (ofp A.r ++ ofp A.s))).Nodup
    refine List.nodup_cons.mpr ⟨fun z => ?_, List.nodup_append.mpr ⟨hB.nd, nrs, fun x hx y hy z => ?_⟩⟩
    · rcases List.mem_append.mp z with z | z
      · rcases new _ z with y | y
        · exact na (List.mem_append_left _ y)
        · rw [e] at y; cases y
      · exact na (List.mem_append_right _ z)
    · subst z
      rcases new x hx with z | z
      · exact (rest x hy).2 z
      · obtain ⟨o, q⟩ := (rest x hy).1
        rw [z] at q; cases q
  · have hx : x ∈ A.a :: (B.fp ++ (ofp A.r ++ ofp A.s)) := hx
    show x ∈ A.a :: (A.p.fp ++ (ofp A.r ++ ofp A.s)) ∨ _
    rcases List.mem_cons.mp hx with z | z
    · exact .inl (by rw [z]; exact List.mem_cons_self ..)
    · rcases List.mem_append.mp z with z | z
      · rcases new x z with y | y
        · exact .inl (List.mem_cons_of_mem _ (List.mem_append_left _ y))
        · exact .inr y
      · exact .inl (List.mem_cons_of_mem _ (List.mem_append_right _ z))
end
/-- one surface changed, in a client -/
theorem Step.put {K : PySem.W.Frag} {H H' : Hp} {C : CAd} {L : PL} {S : List Addr} {n : Int} {A A' : SA} {s s' : Sf} (h : CP K H C L) (m : (n, A, s) ∈ L) (ea : A'.a = A.a) (fr : Fr S H H') (hS : ∀ x ∈ S, x ∈ A.fp) (q : SfP K H' A' s') (new : ∀ x ∈ A'.fp, x ∈ A.fp ∨ H x = none) : Step K H H' C L (putP L n A' s') :=
  Step.mk' h (h.p.put m ea fr hS q new) (fr.mono fun x hx => fpL_mem m (hS x hx)) (fpL_put m new)
section
variable {P : Program} {w : World} {K : PySem.W.Frag} {mg : Str → Option Value} {base : Heap}
def spMayTie (K : PySem.W.Frag) : Sp := fun vs H Q _ => ∃ C n o L, vs = [.ref C.c, .int n, .int o] ∧ CP K H C L ∧ WfW (pwd L) ∧ ∀ H', Same H H' → Q (.bl (mayTie (pwd L) n o)) H'
theorem ok_Client_may_tie (T : Tx w K mg) : Met P w K mg base 2 (He.ga K "Client") "may_tie" (spMayTie K) [] := by
  refine mk_Client_may_tie T (fun vs H Q E h => ?_) (fun cdv A outer s H vs Q E hr h => ?_)
  · obtain ⟨C, n, o, L, rfl, _⟩ := h
    rfl
  · obtain ⟨C, n, o, L, rfl, hC, hF, q⟩ := h
    obtain ⟨⟨dx, eC⟩, hP, _⟩ := id hC
    refine ⟨_, (pss_cons (ps_if (PW.pt (pw_or (pt_cmp (pc_dnotin (hu_of hr) (pv 1) (pe_fld (pv 0) rfl))) (pw_or (pt_cmp (pc_dnotin (hu_of hr) (pv 2) (pe_fld (pv 0) rfl))) (pw_or1 (pt_cmpR op_eq (pv 1) (pv 2) (nomark _)))))) (pss_one (ps_ret pe_bl)) pss_nil)
  (pss_cons (ps_set (i := 3) sc_Client_may_tie.nd rfl (.inl rfl) (pe_dget (hu_of hr) (pe_fld (pv 0) rfl) (pv 1) (fun _ _ => rfl)))
  (pss_cons (ps_if (PW.pt (pw_or (pt_cmpR o_notN (pe_fld (pv 3) rfl) pe_non (nomark _)) (pw_or (pt_cmpR o_notN (pe_fld (pv 3) rfl) pe_non (nomark _)) (pw_or (pt_cmpR o_notN (pe_fld (pv 3) rfl) pe_non (nomark _)) (pw_or1 (pt_cmpR (op_neD hr.units) (pe_mt (ok_Client_parts (K := K) T) hr (by omega) (pv 0) (pa_cons (pv 1) pa_nil)) (pe_lst pa_nil) (nomark _))))))) (pss_one (ps_ret pe_bl)) pss_nil)
  (pss_cons (ps_set (i := 4) sc_Client_may_tie.nd rfl (.inl rfl) (pe_fld (pe_dget (hu_of hr) (pe_fld (pv 0) rfl) (pv 2) (fun _ _ => rfl)) rfl))
  (pss_one (ps_ret (pe_or (pe_cmpR o_isN (pv 4) pe_non (nomark _)) (pe_one (pe_cmpR o_isN (pe_fld (pe_dget (hu_of hr) (pe_fld (pv 0) rfl) (pv 4) (fun _ _ => rfl)) rfl) pe_non (nomark _)))))))))), ?_⟩
    rw [st_Client_may_tie]
    wtm_at "go"
    refine iDNI hP.at_ ?_
    rw [PAt.isSome]
    wtm_at "go"
    cases gn : (pwd L).get n with
    | none =>
      wtm_at "go"
      have : mayTie (pwd L) n o = false := by unfold mayTie; rw [gn]
      rw [this] at q
      exact q _ (Same.refl _)
    | some sn =>
      wtm_at "go"
      refine iDNI hP.at_ ?_
      rw [PAt.isSome]
      wtm_at "go"
      cases go : (pwd L).get o with
      | none =>
        wtm_at "go"
        have : mayTie (pwd L) n o = false := by unfold mayTie; rw [gn, go]
        rw [this] at q
        exact q _ (Same.refl _)
      | some so =>
        have emt : mayTie (pwd L) n o = (!decide (n = o) && sn.shown.isNone && sn.ready.isNone && sn.top.isNone && ((pwd L).parts (some n)).isEmpty && (match so.top with | none => true | some u => (match (pwd L).get u with | some s' => s'.top.isNone | none => false))) := by unfold mayTie; rw [gn, go] <;> rfl
        wtm_at "go"
        by_cases e0 : n = o
        · rw [decide_eq_true e0]
          wtm_at "go"
          rw [show mayTie (pwd L) n o = false by rw [emt, decide_eq_true e0]; simp] at q
          exact q _ (Same.refl _)
        · rw [decide_eq_false e0]
          rw [decide_eq_false e0] at emt
          obtain ⟨B, mB, ev, ⟨db, eB⟩, pB, rB, sB, nB⟩ := hP.get gn
          wtm_at "go"
          refine iDGI hP.at_ ev ?_
          wtm_at "go"
          refine iNoLP sB ?_
          wtm_at "go"
          cases es : sn.shown with
          | some _ => rw [es] at emt; wtm_at "go"; exact (by simpa [emt] using q _ (Same.refl _))
          | none =>
            rw [es] at emt
            wtm_at "go"
            refine iNoLP rB ?_
            wtm_at "go"
            cases er : sn.ready with
            | some _ => rw [er] at emt; wtm_at "go"; exact (by simpa [emt] using q _ (Same.refl _))
            | none =>
              rw [er] at emt
              wtm_at "go"
              refine iNoOI ?_
              wtm_at "go"
              cases et : sn.top with
              | some _ => rw [et] at emt; wtm_at "go"; exact (by simpa [emt] using q _ (Same.refl _))
              | none =>
                rw [et] at emt
                wtm_at "go"
                refine ⟨C, some n, L, rfl, hC, fun H1 p s1 np hp => ?_⟩
                wtm_at "go"
                intro z nz
                refine iNeDI (ns := (pwd L).parts (some n)) (ms := []) (SqL.of (same_new nz _ _ hp)) (SqL.of upd_same) ?_
                have s2 := s1.trans (same_new (o := .lst []) nz)
                have h2P := hP.same s2
                have eC2 := s2 _ _ eC
                wtm_at "go"
                cases ep : (pwd L).parts (some n) with
                | cons a b =>
                  rw [ep] at emt
                  rw [decide_eq_false (show ¬ (a :: b = ([] : List Int)) from nofun)]
                  wtm_at "go"
                  exact (by simpa [emt] using q _ s2)
                | nil =>
                  rw [ep] at emt
                  rw [decide_eq_true (show ([] : List Int) = [] from rfl)]
                  obtain ⟨B2, mB2, ev2, ⟨db2, eB2⟩, _⟩ := h2P.get go
                  wtm_at "go"
                  refine iDGI h2P.at_ ev2 ?_
                  wtm_at "go"
                  refine iIsOI ?_
                  wtm_at "go"
                  cases eo : so.top with
                  | none =>
                    rw [eo] at emt
                    wtm_at "go"
                    rw [emt] at q
                    exact q _ s2
                  | some u =>
                    rw [eo] at emt
                    obtain ⟨su, gu, _⟩ := hF.top o so u go eo
                    obtain ⟨B3, mB3, ev3, ⟨db3, eB3⟩, _⟩ := h2P.get gu
                    wtm_at "go"
                    refine iDGI h2P.at_ ev3 ?_
                    wtm_at "go"
                    refine iIsOI ?_
                    have : mayTie (pwd L) n o = su.top.isNone := by
                      rw [emt]
                      show (_ && (match (pwd L).get u with | some s' => s'.top.isNone | none => false)) = _
                      rw [gu]
                      rfl
                    rw [this] at q
                    exact q _ s2
end

def spChange (K : PySem.W.Frag) : Sp := fun vs H Q _ => ∃ C la L l, vs = [.ref C.c, .ref la] ∧ CP K H C L ∧ WfW (pwd L) ∧ SqT K H la (Lt.vs l) ∧ l.ok ∧ l.chg = true ∧
  ∀ H' L', Step K H H' C L L' → pwd L' = aft (pwd L) l → Q (.bl (does (pwd L) l).isSome) H'
theorem does_chg {W : Wd} {l : Lt} (h : l.chg = true) : does W l = match W.get l.name with | none => none | some s => (pend s.pending l).map fun k => ((W.put l.name fun s => { s with pending := k }), ([] : List Int), ([] : List Int)) := by
  cases l <;> first | rfl | cases h
section
variable {P : Program} {w : World} {K : PySem.W.Frag} {mg : Str → Option Value} {base : Heap}
/-- what is pending is told so -/
theorem chg_end {H H1 H' : Hp} {C : CAd} {L : PL} {l : Lt} {S : List Addr} {A : SA} {s : Sf} {B : LA} {k : Lk} {Q : VK} (hc : l.chg = true) (hC : CP K H C L) (s1 : Same H H1) (m : (l.name, A, s) ∈ L) (g : (pwd L).get l.name = some s) (ek : pend s.pending l = some k) (hB : LkP K H' B k) (ea : B.a = A.p.a)
    (fr : Fr S H1 H') (hS : ∀ x ∈ S, x ∈ A.p.fp) (new : ∀ x ∈ B.fp, x ∈ A.p.fp ∨ H1 x = none) (q : ∀ H' L', Step K H H' C L L' → pwd L' = aft (pwd L) l → Q (.bl (does (pwd L) l).isSome) H') : Q (.bl true) H' := by
  have hC1 := hC.same s1
  have hA : SfP K H1 A s := hC1.p.each _ m
  obtain ⟨z1, z2⟩ := hA.pend hB ea fr hS new
  have st := (Step.same hC s1).trans (Step.put (A' := { A with p := B }) (s' := { s with pending := k }) hC1 m rfl fr (fun x hx => by show x ∈ A.a :: (A.p.fp ++ (ofp A.r ++ ofp A.s)); exact List.mem_cons_of_mem _ (List.mem_append_left _ (hS x hx))) z1 z2)
  have ed : does (pwd L) l = some ((pwd L).put l.name (fun s => { s with pending := k }), [], []) := by rw [does_chg hc, g]; show Option.map _ (pend s.pending l) = _; rw [ek]; rfl
  have := q H' _ st (by rw [(aft_some ed).1]; exact pwd_putP (f := fun s => { s with pending := k }) hC.p.nn m)
  rw [ed] at this
  exact this
theorem ok_Client_change (T : Tx w K mg) : Met P w K mg base 2 (He.ga K "Client") "change" (spChange K) [] := by
  refine mk_Client_change T (fun vs H Q E h => ?_) (fun cdv A outer s H vs Q E hr h => ?_)
  · obtain ⟨C, la, L, l, rfl, _⟩ := h
    rfl
  · obtain ⟨C, la, L, l, rfl, hC, hF, hl, hok, hc, q⟩ := h
    obtain ⟨⟨dx, eC⟩, hP, _⟩ := id hC
    obtain ⟨wo, n, r, ev, _, _, _, _, _, _, en, _⟩ := chg_vs hc
    refine ⟨_, (pss_cons (ps_par rfl sc_Client_change.nd (i := 2) (j := 3) rfl rfl (by decide) rfl rfl (pa_cons (pe_ix ix_tup (pv 1) pe_int (fun _ _ => rfl)) (pa_cons (pe_ix ix_tup (pv 1) pe_int (fun _ _ => rfl)) pa_nil)) rfl)
  (pss_cons (ps_if (pt_cmp (pc_dnotin (hu_of hr) (pv 3) (pe_fld (pv 0) rfl))) (pss_one (ps_ret pe_bl)) pss_nil)
  (pss_cons (ps_set (i := 4) sc_Client_change.nd rfl (.inl rfl) (pe_fld (pe_dget (hu_of hr) (pe_fld (pv 0) rfl) (pv 3) (fun _ _ => rfl)) rfl))
  (pss_cons (ps_if (pt_cmpR op_eq (pv 2) pe_str (nomark _)) (pss_one (ps_expr (pe_mt (ok_Look_size (K := K) T) hr (by omega) (pv 4) (pa_cons (pe_ix ix_tup (pv 1) pe_int (fun _ _ => rfl)) (pa_cons (pe_ix ix_tup (pv 1) pe_int (fun _ _ => rfl)) pa_nil))))) (pss_one (ps_if (pt_cmpR op_eq (pv 2) pe_str (nomark _)) (pss_one (ps_ret (pe_mt (ok_Look_paint (K := K) T) hr (by omega) (pv 4) (pa_cons (pe_ix ix_tup (pv 1) pe_int (fun _ _ => rfl)) (pa_cons (pe_ix ix_tup (pv 1) pe_int (fun _ _ => rfl)) (pa_cons (pe_ix ix_tup (pv 1) pe_int (fun _ _ => rfl)) (pa_cons (pe_ix ix_tup (pv 1) pe_int (fun _ _ => rfl)) (pa_cons (pe_ix ix_tup (pv 1) pe_int (fun _ _ => rfl)) pa_nil)))))))) (pss_one (ps_if (pt_cmpR op_eq (pv 2) pe_str (nomark _)) (pss_one (ps_asg (pe_slice sl_tupA (pv 1) (po_some pe_int) po_none) (pg_tup (n := 2) rfl (pgs_cons (pg_fldU (pv 4)) (pgs_cons (pg_fldU (pv 4)) pgs_nil))))) (pss_one (ps_if (pt_cmpR op_eq (pv 2) pe_str (nomark _)) (pss_one (ps_fld (pv 4) (pe_ix ix_tup (pv 1) pe_int (fun _ _ => rfl)) rfl)) (pss_one (ps_fld (pv 4) (pe_cmpR op_eq (pv 2) pe_str (nomark _)) rfl)))))))))
  (pss_one (ps_ret pe_bl)))))), ?_⟩
    rw [st_Client_change]
    have hl2 := hl
    rw [ev] at hl2
    refine iSeq ?_
    refine nPar ?_
    refine iCons ?_
    refine iOp ?_
    refine gVar ⟨_, rfl, ?_⟩
    refine iC ?_
    refine iIxT hl2 (at_of (j := 0) rfl rfl) ?_
    refine iCons ?_
    refine iOp ?_
    refine gVar ⟨_, rfl, ?_⟩
    refine iC ?_
    refine iIxT hl2 (at_of (j := 1) rfl rfl) ?_
    wtm_at "go"
    refine iDNI hP.at_ ?_
    rw [PAt.isSome]
    wtm_at "go"
    cases gn : (pwd L).get n with
    | none =>
      wtm_at "go"
      have ed : does (pwd L) l = none := by rw [does_chg hc, en, gn]
      have := q H L (Step.same hC (Same.refl _)) (aft_none ed).1.symm
      rw [ed] at this
      exact this
    | some sn =>
      obtain ⟨B, mB, evB, ⟨db, eB⟩, pB, rB, sB, nB⟩ := hP.get gn
      have hLk := hF.ok n sn gn
      obtain ⟨⟨dk, ek⟩, pk, rk, nk⟩ := id pB
      wtm_at "go"
      refine iDGI hP.at_ evB ?_
      wtm_at "go"
      have mB' : (l.name, B, sn) ∈ L := by rw [en]; exact mB
      have gn' : (pwd L).get l.name = some sn := by rw [en]; exact gn
      cases l with
      | size n' wd hg =>
        cases en
        obtain ⟨e1, e2⟩ := List.cons.inj (show V.str "size" :: V.int n' :: [V.int wd, V.int hg] = _ from ev)
        cases e1
        obtain ⟨_, e3⟩ := List.cons.inj e2
        subst e3
        obtain ⟨_, hw, hh⟩ := hok
        wtm_at "go"
        refine ⟨B.p, sn.pending, wd, hg, rfl, pB, hLk.p.r, hw, hh, fun pm rs H' hB' f new => ?_⟩
        wtm_at "go"
        exact chg_end (l := .size n' wd hg) rfl hC (Same.refl _) mB' gn' rfl hB' rfl f (fun x hx => by rw [List.mem_singleton.mp hx]; exact List.mem_cons_self ..) (fun x hx => by
          rcases List.mem_cons.mp hx with z | z
          · exact .inl (by rw [z]; exact List.mem_cons_self ..)
          · exact .inr (new x z)) q
      | paint n' x y wd hg c =>
        cases en
        obtain ⟨e1, e2⟩ := List.cons.inj (show V.str "paint" :: V.int n' :: [V.int x, V.int y, V.int wd, V.int hg, V.int c] = _ from ev)
        cases e1
        obtain ⟨_, e3⟩ := List.cons.inj e2
        subst e3
        obtain ⟨_, hx, hy, hw, hh, _⟩ := hok
        have epd : pend sn.pending (.paint n' x y wd hg c) = if fits sn.pending.marks x y wd hg = true then some { sn.pending with marks := paintM sn.pending.marks x.toNat y.toNat wd.toNat hg.toNat c } else none := by
          unfold fits
          show (if _ then none else some _) = _
          by_cases z : x + wd > ((sn.pending.marks.headD []).length : Int) ∨ y + hg > (sn.pending.marks.length : Int)
          · rw [if_pos z, decide_eq_true z]; rfl
          · rw [if_neg z, decide_eq_false z]; rfl
        wtm_at "go"
        refine ⟨B.p, sn.pending, x, y, wd, hg, c, rfl, pB, hLk.p.r, hx, hy, hw, hh, fun ef H' hB' f => ?_, fun ef => ?_⟩
        · exact chg_end (l := .paint n' x y wd hg c) rfl hC (Same.refl _) mB' gn' (by rw [epd, ef]; rfl) hB' rfl f (fun x hx => List.mem_cons_of_mem _ (List.mem_cons_of_mem _ hx)) (fun x hx => .inl hx) q
        · have ed : does (pwd L) (.paint n' x y wd hg c) = none := by
            rw [does_chg rfl, gn']
            show Option.map _ (pend sn.pending (.paint n' x y wd hg c)) = _
            rw [epd, ef]
            rfl
          have := q H L (Step.same hC (Same.refl _)) (aft_none ed).1.symm
          rw [ed] at this
          exact this
      | place n' x y =>
        cases en
        obtain ⟨e1, e2⟩ := List.cons.inj (show V.str "place" :: V.int n' :: [V.int x, V.int y] = _ from ev)
        cases e1
        obtain ⟨_, e3⟩ := List.cons.inj e2
        subst e3
        wtm_at "go"
        refine iSlA hl (fun cc H1 s1 hc1 => ?_)
        rw [show (2 : Int) = ((2 : Nat) : Int) from rfl, cut_from] at hc1
        have hc1 : SqT K H1 cc [.int x, .int y] := hc1
        have ek1 := s1 _ _ ek
        wtm_at "go"
        simp only [upd2]
        have f1 := Fr.set (S := [B.p.a]) (o := .ins (He.ga K "Look") dk (lookF x y sn.pending.rank sn.pending.veiled B.p.pm)) ek1 rfl (by simp)
        refine chg_end (l := .place n' x y) (k := { sn.pending with x := x, y := y }) (B := B.p) (H' := upd H1 B.p.a (.ins (He.ga K "Look") dk (lookF x y sn.pending.rank sn.pending.veiled B.p.pm))) rfl hC s1 mB' gn' rfl ⟨⟨dk, upd_same⟩, ?_, ?_, nk⟩ rfl f1 (fun x hx => by rw [List.mem_singleton.mp hx]; exact List.mem_cons_self ..) (fun x hx => .inl hx) q
        · exact f1.at_ _ _ (s1 _ _ pk) (by simpa using fun z => (List.nodup_cons.mp nk).1 (by rw [← z]; exact List.mem_cons_self ..))
        · exact pMapM rk fun a b ha z => f1.at_ _ _ (s1 _ _ z) (by simpa using fun z => (List.nodup_cons.mp nk).1 (by rw [← z]; exact List.mem_cons_of_mem _ ha))
      | rank n' x =>
        cases en
        obtain ⟨e1, e2⟩ := List.cons.inj (show V.str "rank" :: V.int n' :: [V.int x] = _ from ev)
        cases e1
        obtain ⟨_, e3⟩ := List.cons.inj e2
        subst e3
        wtm_at "go"
        have f1 := Fr.set (S := [B.p.a]) (o := .ins (He.ga K "Look") dk (lookF sn.pending.x sn.pending.y x sn.pending.veiled B.p.pm)) ek rfl (by simp)
        refine chg_end (l := .rank n' x) (k := { sn.pending with rank := x }) (B := B.p) (H' := upd H B.p.a (.ins (He.ga K "Look") dk (lookF sn.pending.x sn.pending.y x sn.pending.veiled B.p.pm))) rfl hC (Same.refl _) mB' gn' rfl ⟨⟨dk, upd_same⟩, ?_, ?_, nk⟩ rfl f1 (fun x hx => by rw [List.mem_singleton.mp hx]; exact List.mem_cons_self ..) (fun x hx => .inl hx) q
        · exact f1.at_ _ _ pk (by simpa using fun z => (List.nodup_cons.mp nk).1 (by rw [← z]; exact List.mem_cons_self ..))
        · exact pMapM rk fun a b ha z => f1.at_ _ _ z (by simpa using fun z => (List.nodup_cons.mp nk).1 (by rw [← z]; exact List.mem_cons_of_mem _ ha))
      | veil n' =>
        cases en
        obtain ⟨e1, e2⟩ := List.cons.inj (show V.str "veil" :: V.int n' :: [] = _ from ev)
        cases e1
        wtm_at "go"
        have f1 := Fr.set (S := [B.p.a]) (o := .ins (He.ga K "Look") dk (lookF sn.pending.x sn.pending.y sn.pending.rank true B.p.pm)) ek rfl (by simp)
        refine chg_end (l := .veil n') (k := { sn.pending with veiled := true }) (B := B.p) (H' := upd H B.p.a (.ins (He.ga K "Look") dk (lookF sn.pending.x sn.pending.y sn.pending.rank true B.p.pm))) rfl hC (Same.refl _) mB' gn' rfl ⟨⟨dk, upd_same⟩, ?_, ?_, nk⟩ rfl f1 (fun x hx => by rw [List.mem_singleton.mp hx]; exact List.mem_cons_self ..) (fun x hx => .inl hx) q
        · exact f1.at_ _ _ pk (by simpa using fun z => (List.nodup_cons.mp nk).1 (by rw [← z]; exact List.mem_cons_self ..))
        · exact pMapM rk fun a b ha z => f1.at_ _ _ z (by simpa using fun z => (List.nodup_cons.mp nk).1 (by rw [← z]; exact List.mem_cons_of_mem _ ha))
      | unveil n' =>
        cases en
        obtain ⟨e1, e2⟩ := List.cons.inj (show V.str "unveil" :: V.int n' :: [] = _ from ev)
        cases e1
        wtm_at "go"
        have f1 := Fr.set (S := [B.p.a]) (o := .ins (He.ga K "Look") dk (lookF sn.pending.x sn.pending.y sn.pending.rank false B.p.pm)) ek rfl (by simp)
        refine chg_end (l := .unveil n') (k := { sn.pending with veiled := false }) (B := B.p) (H' := upd H B.p.a (.ins (He.ga K "Look") dk (lookF sn.pending.x sn.pending.y sn.pending.rank false B.p.pm))) rfl hC (Same.refl _) mB' gn' rfl ⟨⟨dk, upd_same⟩, ?_, ?_, nk⟩ rfl f1 (fun x hx => by rw [List.mem_singleton.mp hx]; exact List.mem_cons_self ..) (fun x hx => .inl hx) q
        · exact f1.at_ _ _ pk (by simpa using fun z => (List.nodup_cons.mp nk).1 (by rw [← z]; exact List.mem_cons_self ..))
        · exact pMapM rk fun a b ha z => f1.at_ _ _ z (by simpa using fun z => (List.nodup_cons.mp nk).1 (by rw [← z]; exact List.mem_cons_of_mem _ ha))
      | _ => cases hc
end

section
variable {K : PySem.W.Frag} {H H1 : Hp} {A : SA} {s : Sf} {dx : Addr}
/-- ready: a copy of what is pending -/
theorem SfP.rdy {N : LA} (h : SfP K H A s) (e1 : H1 A.a = some (.ins (He.ga K "Surface") dx (surfF (.ref A.p.a) (oA A.r) (oA A.s) (oI s.top)))) (hN : LkP K H1 N s.pending) (s1 : Same H H1) (nN : ∀ x ∈ N.fp, H x = none) :
    SfP K (upd H1 A.a (.ins (He.ga K "Surface") dx (surfF (.ref A.p.a) (.ref N.a) (oA A.s) (oI s.top)))) { A with r := some N } { s with ready := some s.pending } ∧ (∀ x ∈ SA.fp { A with r := some N }, x ∈ A.fp ∨ H x = none) ∧
    Fr [A.a] H1 (upd H1 A.a (.ins (He.ga K "Surface") dx (surfF (.ref A.p.a) (.ref N.a) (oA A.s) (oI s.top)))) := by
  have f : Fr [A.a] H1 (upd H1 A.a (.ins (He.ga K "Surface") dx (surfF (.ref A.p.a) (.ref N.a) (oA A.s) (oI s.top)))) := Fr.set e1 rfl (by simp)
  have live := h.live
  obtain ⟨_, hp, hr, hs, nd⟩ := h
  have nd : (A.a :: (A.p.fp ++ (ofp A.r ++ ofp A.s))).Nodup := nd
  obtain ⟨na, nb⟩ := List.nodup_cons.mp nd
  obtain ⟨np, nrs, dis⟩ := List.nodup_append.mp nb
  obtain ⟨_, ns, _⟩ := List.nodup_append.mp nrs
  have lv : ∀ x ∈ A.a :: (A.p.fp ++ (ofp A.r ++ ofp A.s)), x ∉ N.fp := fun x hx z => by
    obtain ⟨o, e, _⟩ := live x hx
    rw [nN x z] at e; cases e
  refine ⟨⟨⟨dx, upd_same⟩, (hp.same s1).fr f fun x hx z => ?_, hN.fr f fun x hx z => ?_, ((hs.fr (Fr.same (S := []) s1) fun _ _ => List.not_mem_nil)).fr f fun x hx z => ?_, ?_⟩, fun x hx => ?_, f⟩
  · exact na (by rw [← List.mem_singleton.mp z]; exact List.mem_append_left _ hx)
  · exact lv A.a (List.mem_cons_self ..) (by rw [← List.mem_singleton.mp z]; exact hx)
  · exact na (by rw [← List.mem_singleton.mp z]; exact List.mem_append_right _ (List.mem_append_right _ hx))
  · show (A.a :: (A.p.fp ++ (N.fp ++ ofp A.s))).Nodup
    refine List.nodup_cons.mpr ⟨fun z => ?_, List.nodup_append.mpr ⟨np, List.nodup_append.mpr ⟨hN.nd, ns, fun x hx y hy z => ?_⟩, fun x hx y hy z => ?_⟩⟩
    · rcases List.mem_append.mp z with z | z
      · exact na (List.mem_append_left _ z)
      · rcases List.mem_append.mp z with z | z
        · exact lv A.a (List.mem_cons_self ..) z
        · exact na (List.mem_append_right _ (List.mem_append_right _ z))
    · exact lv y (List.mem_cons_of_mem _ (List.mem_append_right _ (List.mem_append_right _ hy))) (by rw [← z]; exact hx)
    · rcases List.mem_append.mp hy with y2 | y2
      · exact lv x (List.mem_cons_of_mem _ (List.mem_append_left _ hx)) (by rw [z]; exact y2)
      · exact dis x hx y (List.mem_append_right _ y2) z
  · have hx : x ∈ A.a :: (A.p.fp ++ (N.fp ++ ofp A.s)) := hx
    show x ∈ A.a :: (A.p.fp ++ (ofp A.r ++ ofp A.s)) ∨ _
    rcases List.mem_cons.mp hx with z | z
    · exact .inl (by rw [z]; exact List.mem_cons_self ..)
    · rcases List.mem_append.mp z with z | z
      · exact .inl (List.mem_cons_of_mem _ (List.mem_append_left _ z))
      · rcases List.mem_append.mp z with z | z
        · exact .inr (nN x z)
        · exact .inl (List.mem_cons_of_mem _ (List.mem_append_right _ (List.mem_append_right _ z)))
/-- what is ready is shown -/
theorem SfP.sho (h : SfP K H A s) (e : H A.a = some (.ins (He.ga K "Surface") dx (surfF (.ref A.p.a) (oA A.r) (oA A.s) (oI s.top)))) :
    SfP K (upd H A.a (.ins (He.ga K "Surface") dx (surfF (.ref A.p.a) .non (oA A.r) (oI s.top)))) { A with r := none, s := A.r } (showOne s) ∧ (∀ x ∈ SA.fp { A with r := none, s := A.r }, x ∈ A.fp) ∧
    Fr [A.a] H (upd H A.a (.ins (He.ga K "Surface") dx (surfF (.ref A.p.a) .non (oA A.r) (oI s.top)))) := by
  have f : Fr [A.a] H (upd H A.a (.ins (He.ga K "Surface") dx (surfF (.ref A.p.a) .non (oA A.r) (oI s.top)))) := Fr.set e rfl (by simp)
  obtain ⟨_, hp, hr, hs, nd⟩ := h
  have nd : (A.a :: (A.p.fp ++ (ofp A.r ++ ofp A.s))).Nodup := nd
  obtain ⟨na, nb⟩ := List.nodup_cons.mp nd
  obtain ⟨np, nrs, dis⟩ := List.nodup_append.mp nb
  obtain ⟨nr, _, _⟩ := List.nodup_append.mp nrs
  refine ⟨⟨⟨dx, upd_same⟩, hp.fr f fun x hx z => ?_, trivial, hr.fr f fun x hx z => ?_, ?_⟩, fun x hx => ?_, f⟩
  · exact na (by rw [← List.mem_singleton.mp z]; exact List.mem_append_left _ hx)
  · exact na (by rw [← List.mem_singleton.mp z]; exact List.mem_append_right _ (List.mem_append_left _ hx))
  · show (A.a :: (A.p.fp ++ ([] ++ ofp A.r))).Nodup
    rw [List.nil_append]
    refine List.nodup_cons.mpr ⟨fun z => na ?_, List.nodup_append.mpr ⟨np, nr, fun x hx y hy => dis x hx y (List.mem_append_left _ hy)⟩⟩
    rcases List.mem_append.mp z with z | z
    · exact List.mem_append_left _ z
    · exact List.mem_append_right _ (List.mem_append_left _ z)
  · have hx : x ∈ A.a :: (A.p.fp ++ ([] ++ ofp A.r)) := hx
    show x ∈ A.a :: (A.p.fp ++ (ofp A.r ++ ofp A.s))
    rcases List.mem_cons.mp hx with z | z
    · rw [z]; exact List.mem_cons_self ..
    · rcases List.mem_append.mp z with z | z
      · exact List.mem_cons_of_mem _ (List.mem_append_left _ z)
      · exact List.mem_cons_of_mem _ (List.mem_append_right _ (List.mem_append_left _ z))
end
theorem get_puts {f : Sf → Sf} : ∀ (l : List Int) (W : Wd) (m : Int), m ∉ l → (l.foldl (fun V p => V.put p f) W).get m = W.get m
  | [], _, _, _ => rfl
  | p :: l, W, m, h => by
    rw [List.foldl_cons, get_puts l _ m fun z => h (List.mem_cons_of_mem _ z), get_put, if_neg fun z => h (by rw [z]; exact List.mem_cons_self ..)]
def spShow (K : PySem.W.Frag) : Sp := fun vs H Q _ => ∃ C n L s, vs = [.ref C.c, .int n] ∧ CP K H C L ∧ WfW (pwd L) ∧ (pwd L).get n = some s ∧
  ∀ H' L' p, Step K H H' C L L' → pwd L' = (doShow (pwd L) n).1 → H p = none → H' p = some (.lst ((doShow (pwd L) n).2.map V.int)) → Q (.ref p) H'
section
variable {P : Program} {w : World} {K : PySem.W.Frag} {mg : Str → Option Value} {base : Heap}
theorem ok_Client_show (T : Tx w K mg) : Met P w K mg base 6 (He.ga K "Client") "show" (spShow K) [] := by
  refine mk_Client_show T (fun vs H Q E h => ?_) (fun cdv A outer s H vs Q E hr h => ?_)
  · obtain ⟨C, n, L, s, rfl, _⟩ := h
    rfl
  · obtain ⟨C, n, L, sn, rfl, hC, hF, gn, q⟩ := h
    obtain ⟨⟨dx, eC⟩, hP, _⟩ := id hC
    obtain ⟨B, mB, ev, ⟨db, eB⟩, pB, rB, sB, nB⟩ := hP.get gn
    have hSf : SfP K H B sn := hP.each _ mB
    have hLk := hF.ok n sn gn
    have eds : doShow (pwd L) n = match sn.top with
      | some _ => ((pwd L).put n fun s => { s with ready := some s.pending }, [])
      | none => ((showns ((pwd L).put n fun s => { s with ready := some s.pending }) n).foldl (fun V p => V.put p showOne) ((pwd L).put n fun s => { s with ready := some s.pending }), showns ((pwd L).put n fun s => { s with ready := some s.pending }) n) := by
      unfold doShow
      rw [gn]
      rfl
    refine ⟨_, (pss_cons (ps_set (i := 2) sc_Client_show.nd rfl (.inl rfl) (pe_dget (hu_of hr) (pe_fld (pv 0) rfl) (pv 1) (fun _ _ => rfl)))
  (pss_cons (ps_if (pt_cmpR o_notN (pe_fld (pv 2) rfl) pe_non (nomark _)) (pss_cons (ps_fld (pv 2) (pe_mt0 (ok_Look_copied (K := K) T) hr (by omega) (pe_fld (pv 2) rfl)) rfl)
  (pss_one (ps_ret (pe_lst pa_nil)))) pss_nil)
  (pss_cons (ps_fld (pv 2) (pe_mt0 (ok_Look_copied (K := K) T) hr (by omega) (pe_fld (pv 2) rfl)) rfl)
  (pss_cons (ps_set (i := 3) sc_Client_show.nd rfl (.inl rfl) (pe_lst pa_nil))
  (pss_cons (ps_for PassesOwn.never rfl (pi_list (pe_mt (ok_Client_all_under (K := K) T) hr (by omega) (pv 0) (pa_cons (pv 1) pa_nil))) (pg_name (i := 4) sc_Client_show.nd rfl (.inl rfl)) (pss_one (ps_if (pt_cmpR o_notN (pe_fld (pe_dget (hu_of hr) (pe_fld (pv 0) rfl) (pv 4) (fun _ _ => rfl)) rfl) pe_non (nomark _)) (pss_cons (ps_fld (pe_dget (hu_of hr) (pe_fld (pv 0) rfl) (pv 4) (fun _ _ => rfl)) (pe_fld (pe_dget (hu_of hr) (pe_fld (pv 0) rfl) (pv 4) (fun _ _ => rfl)) rfl) rfl)
  (pss_cons (ps_fld (pe_dget (hu_of hr) (pe_fld (pv 0) rfl) (pv 4) (fun _ _ => rfl)) pe_non rfl)
  (pss_one (ps_expr (pe_bm PySem.F.plainAttrs_list PySem.F.slot_list_append PySem.F.type_list_append mt_append (pv 3) (pa_cons (pv 4) pa_nil)))))) pss_nil)))
  (pss_one (ps_ret (pv 3)))))))), ?_⟩
    rw [st_Client_show]
    wtm_at "go"
    refine iDGI hP.at_ ev ?_
    wtm_at "go"
    refine iNoOI ?_
    wtm_at "go"
    obtain ⟨⟨dk, ek⟩, _⟩ := id pB
    cases et : sn.top with
    | some t =>
      rw [et] at eds
      have eds : doShow (pwd L) n = ((pwd L).put n fun s => { s with ready := some s.pending }, []) := eds
      wtm_at "go"
      refine ⟨B.p, sn.pending, rfl, pB, hLk.p.r, fun N H1 hN s1 nN => ?_⟩
      have eB1 := s1 _ _ eB
      have hC1 := hC.same s1
      obtain ⟨⟨_, eC1⟩, hP1, _⟩ := id hC1
      obtain ⟨z1, z2, f⟩ := hSf.rdy eB1 hN s1 nN
      wtm_at "go"
      intro p np
      have st := Step.put (A' := { B with r := some N }) (s' := { sn with ready := some sn.pending }) hC mB rfl ((Fr.same s1).trans f) (fun x hx => by rw [List.mem_singleton.mp hx]; exact List.mem_cons_self ..) z1 z2
      have s2 := same_new (o := .lst []) np
      refine q _ _ p (st.trans (Step.same st.cp s2)) ?_ (Same.free s1 (f.free np)) (by rw [eds]; exact upd_same)
      rw [eds]
      exact pwd_putP (f := fun s => { s with ready := some s.pending }) hP.nn mB
    | none =>
      rw [et] at eds
      have eds : doShow (pwd L) n = ((showns ((pwd L).put n fun s => { s with ready := some s.pending }) n).foldl (fun V p => V.put p showOne) ((pwd L).put n fun s => { s with ready := some s.pending }), showns ((pwd L).put n fun s => { s with ready := some s.pending }) n) := eds
      wtm_at "go"
      refine ⟨B.p, sn.pending, rfl, pB, hLk.p.r, fun N H1 hN s1 nN => ?_⟩
      have eB1 := s1 _ _ eB
      have hC1 := hC.same s1
      obtain ⟨⟨_, eC1⟩, hP1, _⟩ := id hC1
      obtain ⟨z1, z2, f⟩ := hSf.rdy eB1 hN s1 nN
      have st := Step.put (A' := { B with r := some N }) (s' := { sn with ready := some sn.pending }) hC mB rfl ((Fr.same s1).trans f) (fun x hx => by rw [List.mem_singleton.mp hx]; exact List.mem_cons_self ..) z1 z2
      have epw : pwd (putP L n { B with r := some N } { sn with ready := some sn.pending }) = (pwd L).put n fun s => { s with ready := some s.pending } := pwd_putP (f := fun s => { s with ready := some s.pending }) hP.nn mB
      have hF1 : WfW ((pwd L).put n fun s => { s with ready := some s.pending }) := hF.put (fun s _ => rfl) fun s _ k => k.shw
      have hnone : ∀ x, upd H1 B.a (.ins (He.ga K "Surface") db (surfF (.ref B.p.a) (.ref N.a) (oA B.s) (oI sn.top))) x = none → H x = none := fun x hx => Same.free s1 (f.free hx)
      wtm_at "go"
      show ∀ p, upd H1 B.a (.ins (He.ga K "Surface") db (surfF (.ref B.p.a) (.ref N.a) (oA B.s) (oI sn.top))) p = none → gName _ _ _ (upd (upd H1 B.a (.ins (He.ga K "Surface") db (surfF (.ref B.p.a) (.ref N.a) (oA B.s) (oI sn.top)))) p _) _
      generalize upd H1 B.a (.ins (He.ga K "Surface") db (surfF (.ref B.p.a) (.ref N.a) (oA B.s) (oI sn.top))) = H2 at st hnone
      generalize putP L n { B with r := some N } { sn with ready := some sn.pending } = L1 at st epw
      rw [← epw] at eds hF1
      intro p np
      have hp3 : upd H2 p (.lst []) p = some (.lst (([] : List Int).map V.int)) := upd_same
      have s3 := same_new (o := .lst []) np
      show gName _ _ _ (upd H2 p (.lst [])) _
      generalize upd H2 p (.lst []) = H3 at s3 hp3
      have hC3 := st.cp.same s3
      obtain ⟨⟨_, eC3⟩, hP3, _⟩ := id hC3
      wtm_at "go"
      refine ⟨C, n, L1, rfl, hC3, hF1.ht n, fun H4 u s4 nu hu => ?_⟩
      have npu : p ≠ u := ne_of_none hp3 nu
      have hC4 := hC3.same s4
      wtm_at "go"
      have ul : (under 3 (pwd L1) n).length ≤ 1111 := Nat.le_trans (under_le 3 _ n (by rw [pwd, List.length_map]; exact hP3.le)) (by decide)
      have und := hF1.under_nodup 3 n
      refine eForL (xs := (under 3 (pwd L1) n).map V.int) (fun i σ H' => ∃ y4 Li, σ = [some (.ref C.c), some (.int n), some (.ref B.a), some (.ref p), y4] ∧ CP K H' C Li ∧ Fr (p :: fpL L1) H4 H' ∧ (∀ x ∈ fpL Li, x ∈ fpL L1) ∧
        pwd Li = (((under 3 (pwd L1) n).take i).filter fun p => match (pwd L1).get p with | some s => s.ready.isSome | none => false).foldl (fun V p => V.put p showOne) (pwd L1) ∧
        H' p = some (.lst ((((under 3 (pwd L1) n).take i).filter fun p => match (pwd L1).get p with | some s => s.ready.isSome | none => false).map V.int))) ?_ ?_ ?_ ?_
      · exact ⟨_, L1, rfl, hC4, Fr.refl, fun _ h => h, rfl, s4 _ _ hp3⟩
      · rintro i σ H' _ ⟨_, Li, _, _, f5, _⟩
        refine SqL.of (f5.at_ _ _ hu fun z => ?_)
        rcases List.mem_cons.mp z with z | z
        · exact npu z.symm
        · obtain ⟨o, e, _⟩ := hP3.live u (List.mem_cons_of_mem _ z)
          rw [nu] at e; cases e
      · rintro i x σ H5 ex ⟨y4, Li, rfl, hC5, f5, sub, epi, hp5⟩
        rw [List.getElem?_map] at ex
        obtain ⟨m, em, rfl⟩ := Option.map_eq_some_iff.mp ex
        have hi := (List.getElem?_eq_some_iff.mp em).1
        have hmU : m ∈ under 3 (pwd L1) n := List.mem_of_getElem? em
        have hmnot : m ∉ (((under 3 (pwd L1) n).take i).filter fun p => match (pwd L1).get p with | some s => s.ready.isSome | none => false) := fun z => by
          have z1 := (List.mem_filter.mp z).1
          obtain ⟨j, hj, ej⟩ := List.mem_take_iff_getElem.mp z1
          have : j = i := (List.getElem_inj und).mp (by rw [ej]; exact ((List.getElem?_eq_some_iff.mp em).2).symm)
          omega
        obtain ⟨sm, gm⟩ : ∃ sm, (pwd L1).get m = some sm := name_get (under_names 3 (by
          have : (pwd L1).names = (pwd L).names := by rw [epw, names_put]
          rw [this]; exact get_name gn) hmU)
        have gm5 : (pwd Li).get m = some sm := by rw [epi, get_puts _ _ _ hmnot]; exact gm
        obtain ⟨⟨dx5, eC5⟩, hP5, _⟩ := id hC5
        obtain ⟨M, mM, evM, ⟨dM, eM⟩, pM, rM, sM, nM⟩ := hP5.get gm5
        have hSM : SfP K H5 M sm := hP5.each _ mM
        have pnot : p ∉ C.d :: fpL Li := fun z => by
          rcases List.mem_cons.mp z with z | z
          · have := st.cp.p.at_
            rw [← z, np] at this; cases this
          · obtain ⟨o, e, _⟩ := st.cp.p.live p (List.mem_cons_of_mem _ (sub p z))
            rw [np] at e; cases e
        have htk := take_succ em
        wtm_at "go"
        refine iDGI hP5.at_ evM ?_
        wtm_at "go"
        refine iNoLP rM ?_
        wtm_at "go"
        cases er : sm.ready with
        | none =>
          wtm_at "go"
          refine ⟨_, Li, rfl, hC5, f5, sub, ?_, ?_⟩
          · rw [epi, htk, List.filter_append]; simp [gm, er]
          · rw [hp5, htk, List.filter_append]; simp [gm, er]
        | some lr =>
          obtain ⟨w1, w2, f6⟩ := hSM.sho eM
          have st6 := Step.put (A' := { M with r := none, s := M.r }) (s' := showOne sm) hC5 mM rfl f6 (fun x hx => by rw [List.mem_singleton.mp hx]; exact List.mem_cons_self ..) w1 (fun x hx => .inl (w2 x hx))
          have nCM : C.c ≠ M.a := fun z => (List.nodup_cons.mp hC5.nd).1 (by
            rw [z]
            exact List.mem_cons_of_mem _ (List.mem_cons_of_mem _ (List.mem_cons_of_mem _ (List.mem_flatMap.mpr ⟨_, mM, List.mem_cons_self ..⟩))))
          have hMd : C.d ≠ M.a := fun z => by rw [← z, hP5.at_] at eM; cases eM
          wtm_at "go"
          refine iDGI hP5.at_ evM ?_
          wtm_at "go"
          refine iDGI hP5.at_ evM ?_
          wtm_at "go"
          wtm_at "go"
          refine iDGI ((upd_ne hMd).trans hP5.at_) evM ?_
          wtm_at "go"
          simp only [upd2]
          have hp6 := f6.at_ _ _ hp5 (by simpa using fun z => pnot (by rw [z]; exact List.mem_cons_of_mem _ (List.mem_flatMap.mpr ⟨_, mM, List.mem_cons_self ..⟩)))
          refine gAppend ⟨_, hp6, ?_, ?_⟩
          · rw [List.length_map]
            exact Nat.lt_of_le_of_lt (Nat.le_trans (List.length_filter_le _ _) (show _ ≤ 1111 by rw [List.length_take]; omega)) (by decide)
          have sub6 : ∀ x ∈ fpL (putP Li m { M with r := none, s := M.r } (showOne sm)), x ∈ fpL Li := fun x hx => by
            obtain ⟨e, he, hx⟩ := List.mem_flatMap.mp hx
            obtain ⟨e0, h0, rfl⟩ := List.mem_map.mp he
            by_cases en : e0.1 = m
            · rw [if_pos en] at hx
              exact List.mem_flatMap.mpr ⟨_, mM, w2 x hx⟩
            · rw [if_neg en] at hx
              exact List.mem_flatMap.mpr ⟨_, h0, hx⟩
          refine ⟨_, putP Li m { M with r := none, s := M.r } (showOne sm), rfl, st6.cp.fr (Fr.set (S := [p]) hp6 rfl (by simp)) (fun x hx z => ?_), ?_, fun x hx => sub x (sub6 x hx), ?_, ?_⟩
          · rw [List.mem_singleton.mp z] at hx
            rcases List.mem_cons.mp hx with y | y
            · rw [y] at np
              obtain ⟨dq, eq⟩ := st.cp.at_
              rw [np] at eq; cases eq
            · rcases List.mem_cons.mp y with y | y
              · exact pnot (by rw [y]; exact List.mem_cons_self ..)
              · exact pnot (List.mem_cons_of_mem _ (sub6 p y))
          · refine f5.trans ((f6.mono fun x hx => ?_).trans (Fr.set hp6 rfl (List.mem_cons_self ..)))
            rw [List.mem_singleton.mp hx]
            exact List.mem_cons_of_mem _ (sub _ (List.mem_flatMap.mpr ⟨_, mM, List.mem_cons_self ..⟩))
          · rw [pwd_putP hP5.nn mM, epi, htk, List.filter_append]
            simp [gm, er]
          · rw [upd_same, htk, List.filter_append]
            simp [gm, er]
      · rintro σ H5 ⟨y4, Li, rfl, hC5, f5, sub, epi, hp5⟩
        rw [List.length_map, List.take_of_length_le (Nat.le_refl _)] at epi hp5
        wtm_at "go"
        refine q H5 Li p ⟨hC5, ⟨fun x o e nx => ?_, fun x xs e => ?_, fun x o v e => ?_, fun x e => ?_⟩, fun x hx => st.new x (sub x hx)⟩ (by rw [eds]; exact epi) (hnone p np) (by rw [eds]; exact hp5)
        · have e2 := s4 _ _ (s3 _ _ (st.fr.at_ _ _ e nx))
          refine f5.at_ _ _ e2 fun z => ?_
          rcases List.mem_cons.mp z with z | z
          · rw [z] at e; rw [hnone p np] at e; cases e
          · rcases st.new x z with y | y
            · exact nx (List.mem_cons_of_mem _ y)
            · rw [e] at y; cases y
        · exact f5.tu _ _ (s4 _ _ (s3 _ _ (st.fr.tu _ _ e)))
        · exact f5.fz _ _ _ (s4 _ _ (s3 _ _ (st.fr.fz _ _ _ e)))
        · exact st.fr.dm _ (Same.free s3 (Same.free s4 (f5.dm _ e)))
end

/-! ### a client's letters done -/
theorem SfP.tied {K : PySem.W.Frag} {H : Hp} {A : SA} {s : Sf} {dx : Addr} {o : Int} (h : SfP K H A s) (e : H A.a = some (.ins (He.ga K "Surface") dx (surfF (.ref A.p.a) (oA A.r) (oA A.s) (oI s.top)))) :
    SfP K (upd H A.a (.ins (He.ga K "Surface") dx (surfF (.ref A.p.a) (oA A.r) (oA A.s) (.int o)))) A { s with top := some o } ∧ Fr [A.a] H (upd H A.a (.ins (He.ga K "Surface") dx (surfF (.ref A.p.a) (oA A.r) (oA A.s) (.int o)))) := by
  have f : Fr [A.a] H (upd H A.a (.ins (He.ga K "Surface") dx (surfF (.ref A.p.a) (oA A.r) (oA A.s) (.int o)))) := Fr.set e rfl (by simp)
  obtain ⟨_, hp, hr, hs, nd⟩ := h
  have nd' : (A.a :: (A.p.fp ++ (ofp A.r ++ ofp A.s))).Nodup := nd
  obtain ⟨na, nb⟩ := List.nodup_cons.mp nd'
  refine ⟨⟨⟨dx, upd_same⟩, hp.fr f fun x hx z => ?_, hr.fr f fun x hx z => ?_, hs.fr f fun x hx z => ?_, nd⟩, f⟩
  · exact na (by rw [← List.mem_singleton.mp z]; exact List.mem_append_left _ hx)
  · exact na (by rw [← List.mem_singleton.mp z]; exact List.mem_append_right _ (List.mem_append_left _ hx))
  · exact na (by rw [← List.mem_singleton.mp z]; exact List.mem_append_right _ (List.mem_append_right _ hx))
def spDone (K : PySem.W.Frag) : Sp := fun vs H Q _ => ∃ C la L l, vs = [.ref C.c, .ref la] ∧ CP K H C L ∧ WfW (pwd L) ∧ SqT K H la (Lt.vs l) ∧ l.ok ∧
  ∀ H' L', Step K H H' C L L' → pwd L' = aft (pwd L) l → Q (.bl (does (pwd L) l).isSome) H'
theorem done_end {K : PySem.W.Frag} {H H' : Hp} {C : CAd} {L L' : PL} {l : Lt} {Q : VK} {r : Wd × List Int × List Int} (q : ∀ H' L', Step K H H' C L L' → pwd L' = aft (pwd L) l → Q (.bl (does (pwd L) l).isSome) H') (e : does (pwd L) l = some r) (st : Step K H H' C L L') (ew : pwd L' = r.1) : Q (.bl true) H' := by
  have := q H' L' st (by rw [(aft_some e).1]; exact ew)
  rw [e] at this
  exact this
theorem done_no {K : PySem.W.Frag} {H H' : Hp} {C : CAd} {L : PL} {l : Lt} {Q : VK} (q : ∀ H' L', Step K H H' C L L' → pwd L' = aft (pwd L) l → Q (.bl (does (pwd L) l).isSome) H') (e : does (pwd L) l = none) (hC : CP K H C L) (s : Same H H') : Q (.bl false) H' := by
  have := q H' L (Step.same hC s) (aft_none e).1.symm
  rw [e] at this
  exact this
section
variable {P : Program} {w : World} {K : PySem.W.Frag} {mg : Str → Option Value} {base : Heap}
theorem ok_done (T : Tx w K mg) : Cal P w K mg base 7 "done" (spDone K) [] := by
  refine mk_done T (fun vs H Q E h => ?_) (fun cdv A outer s H vs Q E hr h => ?_)
  · obtain ⟨C, la, L, l, rfl, _⟩ := h
    rfl
  · obtain ⟨C, la, L, l, rfl, hC, hF, hl, hok, q⟩ := h
    obtain ⟨⟨dx, eC⟩, hP, hnd, _⟩ := id hC
    refine ⟨_, (pss_cons (ps_set (i := 2) sc_done.nd rfl (.inl rfl) (pe_ix ix_tup (pv 1) pe_int (fun _ _ => rfl)))
  (pss_cons (ps_if (pt_cmpR op_eq (pv 2) pe_str (nomark _)) (pss_one (ps_ret pe_bl)) pss_nil)
  (pss_cons (ps_set (i := 3) sc_done.nd rfl (.inl rfl) (pe_ix ix_tup (pv 1) pe_int (fun _ _ => rfl)))
  (pss_cons (ps_if (pt_cmpR op_eq (pv 2) pe_str (nomark _)) (pss_cons (ps_if (pt_cmp (pc_din (hu_of hr) (pv 3) (pe_fld (pv 0) rfl))) (pss_one (ps_ret pe_bl)) pss_nil)
  (pss_cons (ps_dput (hu_of hr) (pe_fld (pv 0) rfl) (pv 3) (pe_mk0 (ok_Surface (K := K) T) hr (by omega) rfl) rfl)
  (pss_one (ps_ret pe_bl)))) pss_nil)
  (pss_cons (ps_if (pt_cmpR op_eq (pv 2) pe_str (nomark _)) (pss_cons (ps_if (pt_val (pe_mt (ok_Client_may_tie (K := K) T) hr (by omega) (pv 0) (pa_cons (pv 3) (pa_cons (pe_ix ix_tup (pv 1) pe_int (fun _ _ => rfl)) pa_nil)))) (pss_cons (ps_fld (pe_dget (hu_of hr) (pe_fld (pv 0) rfl) (pv 3) (fun _ _ => rfl)) (pe_ix ix_tup (pv 1) pe_int (fun _ _ => rfl)) rfl)
  (pss_one (ps_ret pe_bl))) pss_nil)
  (pss_one (ps_ret pe_bl))) pss_nil)
  (pss_cons (ps_if (pt_cmp (pc_dnotin (hu_of hr) (pv 3) (pe_fld (pv 0) rfl))) (pss_one (ps_ret pe_bl)) pss_nil)
  (pss_cons (ps_if (pt_cmpR op_eq (pv 2) pe_str (nomark _)) (pss_one (ps_for PassesOwn.never rfl (pi_list (pe_mt (ok_Client_all_under (K := K) T) hr (by omega) (pv 0) (pa_cons (pv 3) pa_nil))) (pg_name (i := 4) sc_done.nd rfl (.inl rfl)) (pss_one (ps_expr (pe_dpop1 (pe_fld (pv 0) rfl) (pv 4) ⟨rfl, rfl, rfl, rfl⟩))))) (pss_one (ps_if (pt_cmpR op_eq (pv 2) pe_str (nomark _)) (pss_one (ps_expr (pe_mt (ok_Client_show (K := K) T) hr (by omega) (pv 0) (pa_cons (pv 3) pa_nil)))) (pss_one (ps_if (pt_cmpR op_ne (pv 2) pe_str (nomark _)) (pss_one (ps_ret (pe_mt (ok_Client_change (K := K) T) hr (by omega) (pv 0) (pa_cons (pv 1) pa_nil)))) pss_nil)))))
  (pss_one (ps_ret pe_bl))))))))), ?_⟩
    rw [st_done]
    cases l with
    | lt =>
      have hl : SqT K H la [.str "let"] := hl
      wtm_at "go"
      exact done_end q rfl (Step.same hC (Same.refl _)) rfl
    | make n =>
      have hl : SqT K H la [.str "make", .int n] := hl
      wtm_at "go"
      refine iDII hP.at_ ?_
      rw [PAt.isSome]
      wtm_at "go"
      cases gn : (pwd L).get n with
      | some sn =>
        wtm_at "go"
        exact done_no q (by show (if ((pwd L).get n).isSome = true then none else _) = none; rw [gn]; rfl) hC (Same.refl _)
      | none =>
        have ed : does (pwd L) (.make n) = some (pwd L ++ [(n, Sf.new)], [], []) := by
          show (if ((pwd L).get n).isSome = true then none else _) = _
          rw [gn]
          rfl
        have hn := pwd_notin gn
        wtm_at "go"
        refine iMkSurf (K := K) fun A H1 hA s1 nA => ?_
        have hC1 := hC.same s1
        obtain ⟨⟨_, eC1⟩, hP1, _⟩ := id hC1
        have hl10 : L.length < 10 := by
          have := le_of_nodup 10 (n :: L.map fun e => e.1) (List.nodup_cons.mpr ⟨hn, hP.nn⟩) fun x hx => by
            rcases List.mem_cons.mp hx with z | z
            · rw [z]; have : Nm n := hok; unfold Nm at this; omega
            · obtain ⟨e, he, rfl⟩ := List.mem_map.mp z
              have := hF.nm (e.1, e.2.2) (List.mem_map_of_mem (f := fun e => (e.1, e.2.2)) he)
              unfold Nm at this
              have h1 : Nm e.1 := this
              unfold Nm at h1
              omega
          rw [List.length_cons, List.length_map] at this
          omega
        wtm_at "go"
        refine iDPI hP1.at_ (Nat.lt_of_le_of_lt (by unfold kvP; rw [List.length_map]; exact hP.le) (by decide)) ?_
        have f1 : Fr [C.d] H1 (upd H1 C.d (.dK (putK (kvP L) (.inl n) (.ref A.a)))) := Fr.set hP1.at_ rfl (by simp)
        have fA : ∀ x ∈ A.fp, x ∉ [C.d] := fun x hx z => by
          have := nA x hx
          rw [List.mem_singleton.mp z, hP.at_] at this
          cases this
        have hAd := hA.fr f1 fA
        have p2 := hP.add (H' := upd H1 C.d (.dK (putK (kvP L) (.inl n) (.ref A.a)))) hn ((Fr.same (S := [C.d]) s1).trans f1) upd_same hAd nA hl10
        have st : Step K H (upd H1 C.d (.dK (putK (kvP L) (.inl n) (.ref A.a)))) C L (L ++ [(n, A, Sf.new)]) := Step.mk' hC p2 (((Fr.same (S := [C.d]) s1).trans f1).mono fun x hx => by rw [List.mem_singleton.mp hx]; exact List.mem_cons_self ..) fun x hx => by
          unfold fpL at hx
          rw [List.flatMap_append] at hx
          rcases List.mem_append.mp hx with z | z
          · exact .inl z
          · exact .inr (nA x (by simpa using z))
        wtm_at "go"
        exact done_end q ed st (by simp [pwd])
    | tie n o =>
      have hl : SqT K H la [.str "tie", .int n, .int o] := hl
      wtm_at "go"
      refine ⟨C, n, o, L, rfl, hC, hF, fun H1 s1 => ?_⟩
      have hC1 := hC.same s1
      obtain ⟨⟨_, eC1⟩, hP1, _⟩ := id hC1
      have hl1 := sqT_same s1 hl
      cases em : mayTie (pwd L) n o with
      | false =>
        wtm_at "go"
        exact done_no q (by show (if mayTie (pwd L) n o = true then _ else none) = none; rw [em]; rfl) hC s1
      | true =>
        have ed : does (pwd L) (.tie n o) = some ((pwd L).put n (fun s => { s with top := some o }), [], []) := by
          show (if mayTie (pwd L) n o = true then _ else none) = _
          rw [em]
          rfl
        obtain ⟨sn, gn⟩ : ∃ sn, (pwd L).get n = some sn := by
          cases gn : (pwd L).get n with
          | some sn => exact ⟨sn, rfl⟩
          | none => unfold mayTie at em; rw [gn] at em; cases em
        obtain ⟨B, mB, ev, ⟨db, eB⟩, _⟩ := hP1.get gn
        have hSB : SfP K H1 B sn := hP1.each _ mB
        wtm_at "go"
        refine iDGI hP1.at_ ev ?_
        wtm_at "go"
        obtain ⟨z1, f⟩ := hSB.tied (o := o) eB
        exact done_end q ed ((Step.same hC s1).trans (Step.put hC1 mB rfl f (fun x hx => by rw [List.mem_singleton.mp hx]; exact List.mem_cons_self ..) z1 (fun x hx => .inl hx))) (pwd_putP (f := fun s => { s with top := some o }) hP.nn mB)
    | hold n =>
      have hl : SqT K H la [.str "hold", .int n] := hl
      wtm_at "go"
      refine iDNI hP.at_ ?_
      rw [PAt.isSome]
      wtm_at "go"
      cases gn : (pwd L).get n with
      | none =>
        wtm_at "go"
        exact done_no q (by show (if ((pwd L).get n).isSome = true then _ else none) = none; rw [gn]; rfl) hC (Same.refl _)
      | some sn =>
        wtm_at "go"
        exact done_end q (by show (if ((pwd L).get n).isSome = true then some (pwd L, [], []) else none) = _; rw [gn]; rfl) (Step.same hC (Same.refl _)) rfl
    | shw n =>
      have hl : SqT K H la [.str "show", .int n] := hl
      wtm_at "go"
      refine iDNI hP.at_ ?_
      rw [PAt.isSome]
      wtm_at "go"
      cases gn : (pwd L).get n with
      | none =>
        wtm_at "go"
        exact done_no q (by show (if ((pwd L).get n).isSome = true then _ else none) = none; rw [gn]; rfl) hC (Same.refl _)
      | some sn =>
        wtm_at "go"
        refine ⟨C, n, L, sn, rfl, hC, hF, gn, fun H' L' p st ew _ _ => ?_⟩
        wtm_at "go"
        exact done_end q (by show (if ((pwd L).get n).isSome = true then some ((doShow (pwd L) n).1, (doShow (pwd L) n).2, []) else none) = _; rw [gn]; rfl) st ew
    | drop n =>
      have hl : SqT K H la [.str "drop", .int n] := hl
      wtm_at "go"
      refine iDNI hP.at_ ?_
      rw [PAt.isSome]
      wtm_at "go"
      cases gn : (pwd L).get n with
      | none =>
        wtm_at "go"
        exact done_no q (by show (if ((pwd L).get n).isSome = true then _ else none) = none; rw [gn]; rfl) hC (Same.refl _)
      | some sn =>
        have ed : does (pwd L) (.drop n) = some (doDrop (pwd L) n, [], under 3 (pwd L) n) := by
          show (if ((pwd L).get n).isSome = true then _ else none) = _
          rw [gn]
          rfl
        wtm_at "go"
        refine ⟨C, n, L, rfl, hC, hF.ht n, fun H1 u s1 nu hu => ?_⟩
        have ne : C.d ≠ u := ne_of_none hP.at_ nu
        wtm_at "go"
        refine eForL (xs := (under 3 (pwd L) n).map V.int) (fun i σ H' => ∃ y L', σ = [some (.ref C.c), some (.ref la), some (.str "drop"), some (.int n), y] ∧ Step K H H' C L L' ∧ H' u = some (.lst ((under 3 (pwd L) n).map V.int)) ∧ pwd L' = ((under 3 (pwd L) n).take i).foldl (fun V p => V.del p) (pwd L) ∧ ∀ x ∈ fpL L', x ∈ fpL L) ?_ ?_ ?_ ?_
        · exact ⟨_, L, rfl, Step.same hC s1, hu, rfl, fun _ h => h⟩
        · rintro i σ H' _ ⟨_, L', _, _, h, _⟩
          exact SqL.of h
        · rintro i x σ H2 ex ⟨y, L2, rfl, st2, hu2, ew, sub⟩
          rw [List.getElem?_map] at ex
          obtain ⟨m, em, rfl⟩ := Option.map_eq_some_iff.mp ex
          have hm : m ∈ (pwd L2).names := by
            rw [ew, names_dels]
            refine List.mem_filter.mpr ⟨under_names 3 (get_name gn) (List.mem_of_getElem? em), decide_eq_true fun z => ?_⟩
            obtain ⟨j, hj, e⟩ := List.mem_take_iff_getElem.mp z
            have := (List.getElem_inj (hF.under_nodup 3 n)).mp (e.trans (List.getElem?_eq_some_iff.mp em).2.symm)
            omega
          obtain ⟨sm, gm⟩ := name_get hm
          have P2 := st2.cp.p
          obtain ⟨⟨_, eC2⟩, _⟩ := st2.cp
          obtain ⟨M, mM, evM, _⟩ := P2.get gm
          wtm_at "go"
          refine gPopA P2.at_ ?_
          wtm_at "go"
          refine ⟨_, .inl m, _, P2.at_, rfl, evM, ?_⟩
          have f3 : Fr [C.d] H2 (upd H2 C.d (.dK (dropK (kvP L2) (.inl m)))) := Fr.set P2.at_ rfl (by simp)
          refine ⟨_, delP L2 m, rfl, st2.trans (Step.mk' st2.cp P2.del (f3.mono fun x hx => by rw [List.mem_singleton.mp hx]; exact List.mem_cons_self ..) fun x hx => .inl (fpL_del hx)), f3.at_ _ _ hu2 (by simpa using Ne.symm ne), ?_, fun x hx => sub x (fpL_del hx)⟩
          rw [pwd_delP, ew, take_succ em, List.foldl_append]
          rfl
        · rintro σ H2 ⟨y, L2, rfl, st2, hu2, ew, sub⟩
          rw [List.length_map, List.take_of_length_le (Nat.le_refl _)] at ew
          wtm_at "go"
          exact done_end q ed st2 ew
    | size n a b =>
      have hl2 : SqT K H la [.str "size", .int n, .int a, .int b] := hl
      wtm_at "go"
      refine iDNI hP.at_ ?_
      rw [PAt.isSome]
      wtm_at "go"
      cases gn : (pwd L).get n with
      | none =>
        wtm_at "go"
        exact done_no q (by rw [does_chg rfl]; show (match (pwd L).get n with | none => none | some s => _) = none; rw [gn]) hC (Same.refl _)
      | some sn =>
        wtm_at "go"
        exact ⟨C, la, L, _, rfl, hC, hF, hl, hok, rfl, fun H' L' st ew => q H' L' st ew⟩
    | paint n a b c d e =>
      have hl2 : SqT K H la [.str "paint", .int n, .int a, .int b, .int c, .int d, .int e] := hl
      wtm_at "go"
      refine iDNI hP.at_ ?_
      rw [PAt.isSome]
      wtm_at "go"
      cases gn : (pwd L).get n with
      | none =>
        wtm_at "go"
        exact done_no q (by rw [does_chg rfl]; show (match (pwd L).get n with | none => none | some s => _) = none; rw [gn]) hC (Same.refl _)
      | some sn =>
        wtm_at "go"
        exact ⟨C, la, L, _, rfl, hC, hF, hl, hok, rfl, fun H' L' st ew => q H' L' st ew⟩
    | place n a b =>
      have hl2 : SqT K H la [.str "place", .int n, .int a, .int b] := hl
      wtm_at "go"
      refine iDNI hP.at_ ?_
      rw [PAt.isSome]
      wtm_at "go"
      cases gn : (pwd L).get n with
      | none =>
        wtm_at "go"
        exact done_no q (by rw [does_chg rfl]; show (match (pwd L).get n with | none => none | some s => _) = none; rw [gn]) hC (Same.refl _)
      | some sn =>
        wtm_at "go"
        exact ⟨C, la, L, _, rfl, hC, hF, hl, hok, rfl, fun H' L' st ew => q H' L' st ew⟩
    | rank n a =>
      have hl2 : SqT K H la [.str "rank", .int n, .int a] := hl
      wtm_at "go"
      refine iDNI hP.at_ ?_
      rw [PAt.isSome]
      wtm_at "go"
      cases gn : (pwd L).get n with
      | none =>
        wtm_at "go"
        exact done_no q (by rw [does_chg rfl]; show (match (pwd L).get n with | none => none | some s => _) = none; rw [gn]) hC (Same.refl _)
      | some sn =>
        wtm_at "go"
        exact ⟨C, la, L, _, rfl, hC, hF, hl, hok, rfl, fun H' L' st ew => q H' L' st ew⟩
    | veil n =>
      have hl2 : SqT K H la [.str "veil", .int n] := hl
      wtm_at "go"
      refine iDNI hP.at_ ?_
      rw [PAt.isSome]
      wtm_at "go"
      cases gn : (pwd L).get n with
      | none =>
        wtm_at "go"
        exact done_no q (by rw [does_chg rfl]; show (match (pwd L).get n with | none => none | some s => _) = none; rw [gn]) hC (Same.refl _)
      | some sn =>
        wtm_at "go"
        exact ⟨C, la, L, _, rfl, hC, hF, hl, hok, rfl, fun H' L' st ew => q H' L' st ew⟩
    | unveil n =>
      have hl2 : SqT K H la [.str "unveil", .int n] := hl
      wtm_at "go"
      refine iDNI hP.at_ ?_
      rw [PAt.isSome]
      wtm_at "go"
      cases gn : (pwd L).get n with
      | none =>
        wtm_at "go"
        exact done_no q (by rw [does_chg rfl]; show (match (pwd L).get n with | none => none | some s => _) = none; rw [gn]) hC (Same.refl _)
      | some sn =>
        wtm_at "go"
        exact ⟨C, la, L, _, rfl, hC, hF, hl, hok, rfl, fun H' L' st ew => q H' L' st ew⟩
end

/-! ### a client by its letters alone -/
def aloneG : Wd → List Lt → Wd
  | W, [] => W
  | W, l :: ls => match does W l with
    | some r => aloneG r.1 ls
    | none => []
def alone (ls : List Lt) : Wd := aloneG [] ls
theorem Same.step {S : List Addr} {H H1 H2 : Hp} (s : Same H H1) (f : Fr S H1 H2) (n : ∀ x ∈ S, H x = none) : Same H H2 := fun b o e => f.at_ _ _ (s _ _ e) fun z => by rw [n b z] at e; cases e
def fpC (C : CAd) (L : PL) : List Addr := C.c :: C.r :: C.e :: C.d :: fpL L
def spClientOf (K : PySem.W.Frag) : Sp := fun vs H Q _ => ∃ b xs ls, vs = [.ref b] ∧ H b = some (.lst xs) ∧ Paired (LtT K H) xs ls ∧ (∀ l ∈ ls, Lt.ok l) ∧ ∀ H' C L, CP K H' C L → pwd L = alone ls → WfW (pwd L) → Same H H' → (∀ x ∈ fpC C L, H x = none) → Q (.ref C.c) H'
section
variable {P : Program} {w : World} {K : PySem.W.Frag} {mg : Str → Option Value} {base : Heap}
theorem ok_client_of (T : Tx w K mg) : Cal P w K mg base 8 "client_of" (spClientOf K) [] := by
  refine mk_client_of T (fun vs H Q E h => ?_) (fun cdv A outer s H vs Q E hr h => ?_)
  · obtain ⟨b, xs, ls, rfl, _⟩ := h
    rfl
  · obtain ⟨b, xs, ls, rfl, hb, hls, hok, q⟩ := h
    refine ⟨_, (pss_cons (ps_set (i := 1) sc_client_of.nd rfl (.inl rfl) (pe_mk0 (ok_Client (K := K) T) hr (by omega) rfl))
  (pss_cons (ps_for PassesOwn.never rfl (pi_list (pv 0)) (pg_name (i := 2) sc_client_of.nd rfl (.inl rfl)) (pss_one (ps_if (pt_not (pt_val (pe_c (ok_done T) hr (by omega) rfl (pa_cons (pv 1) (pa_cons (pv 2) pa_nil))))) (pss_one (ps_ret (pe_mk0 (ok_Client (K := K) T) hr (by omega) rfl))) pss_nil)))
  (pss_one (ps_ret (pv 1))))), ?_⟩
    rw [st_client_of]
    wtm_at "go"
    refine iMkCli (K := K) fun C H1 hC _ _ _ s1 nC _ => ?_
    wtm_at "go"
    refine eForL (xs := xs) (fun i σ H' => ∃ y2 L, σ = [some (.ref b), some (.ref C.c), y2] ∧ CP K H' C L ∧ Same H H' ∧ (∀ x ∈ fpC C L, H x = none) ∧ WfW (pwd L) ∧ alone ls = aloneG (pwd L) (ls.drop i)) ?_ ?_ ?_ ?_
    · refine ⟨_, [], rfl, hC, s1, fun x hx => nC x ?_, wf_nil, rfl⟩
      simp only [fpC, fpL, List.flatMap_nil, List.mem_cons, List.not_mem_nil, or_false] at hx ⊢
      rcases hx with z | z | z | z <;> simp [z]
    · rintro i σ H' _ ⟨_, L, _, _, s, _⟩
      exact SqL.of (s _ _ hb)
    · rintro i x σ H2 ex ⟨y2, L, rfl, C2, s2, n2, wf, ea⟩
      obtain ⟨l, el, t, rfl, ht⟩ := pGetL hls ex
      have hl := hok l (List.mem_of_getElem? el)
      have edr : ls.drop i = l :: ls.drop (i + 1) := by
        have hi := (List.getElem?_eq_some_iff.mp el).1
        rw [List.drop_eq_getElem_cons hi, (List.getElem?_eq_some_iff.mp el).2]
      rw [edr] at ea
      wtm_at "go"
      refine ⟨C, t, L, l, rfl, C2, wf, sqT_same s2 ht, hl, fun H3 L3 st ew => ?_⟩
      have s3 : Same H H3 := U.Same.step s2 st.fr fun x hx => n2 x (List.mem_cons_of_mem _ (List.mem_cons_of_mem _ (List.mem_cons_of_mem _ hx)))
      have n3 : ∀ x ∈ fpC C L3, H x = none := fun x hx => by
        unfold fpC at hx
        simp only [List.mem_cons] at hx
        have old : ∀ y, y = C.c ∨ y = C.r ∨ y = C.e ∨ y = C.d → H y = none := fun y hy => n2 y (by
          unfold fpC
          rcases hy with z | z | z | z <;> simp [z])
        rcases hx with z | z | z | z | z
        · exact old x (.inl z)
        · exact old x (.inr (.inl z))
        · exact old x (.inr (.inr (.inl z)))
        · exact old x (.inr (.inr (.inr z)))
        · rcases st.new x z with y | y
          · exact n2 x (List.mem_cons_of_mem _ (List.mem_cons_of_mem _ (List.mem_cons_of_mem _ (List.mem_cons_of_mem _ y))))
          · exact Same.free s2 y
      cases ed : does (pwd L) l with
      | some r =>
        wtm_at "go"
        refine ⟨_, L3, rfl, st.cp, s3, n3, by rw [ew]; exact wf.aft hl, ?_⟩
        rw [ea, ew, (aft_some ed).1]
        show (match does (pwd L) l with | some r => aloneG r.1 (ls.drop (i + 1)) | none => []) = _
        rw [ed]
      | none =>
        wtm_at "go"
        refine iMkCli (K := K) fun C4 H4 hC4 _ _ _ s4 nC4 _ => ?_
        refine q H4 C4 [] hC4 ?_ wf_nil (s3.trans s4) fun x hx => Same.free s3 (nC4 x ?_)
        · rw [ea]
          show [] = (match does (pwd L) l with | some r => aloneG r.1 (ls.drop (i + 1)) | none => [])
          rw [ed]
        · simp only [fpC, fpL, List.flatMap_nil, List.mem_cons, List.not_mem_nil, or_false] at hx ⊢
          rcases hx with z | z | z | z <;> simp [z]
    · rintro σ H2 ⟨y2, L, rfl, C2, s2, n2, wf, ea⟩
      rw [pLen hls, List.drop_of_length_le (Nat.le_refl _)] at ea
      wtm_at "go"
      exact q H2 C L C2 ea.symm wf s2 n2
end

/-! ### what is seen: plain -/
def shw (W : Wd) (n : Int) : Option Lk := (W.get n).bind (·.shown)
def rkOf (W : Wd) (n : Int) : Int := match shw W n with
  | some k => k.rank
  | none => 0
def lxP (p q : Int × Int) : Bool := !SrtO.lexB q p
theorem lxP_iff {p q : Int × Int} : lxP p q = true ↔ SrtO.lexB q p = false := by unfold lxP; cases SrtO.lexB q p <;> simp
theorem lxP_trans (a b c : Int × Int) (h1 : lxP a b = true) (h2 : lxP b c = true) : lxP a c = true := by
  rw [lxP_iff, SrtO.lexB_no] at *
  omega
theorem lxP_total (a b : Int × Int) : (lxP a b || lxP b a) = true := by
  cases h : lxP a b with
  | true => rfl
  | false =>
    have h1 : ¬ lxP a b = true := by rw [h]; decide
    rw [lxP_iff, SrtO.lexB_no] at h1
    show lxP b a = true
    rw [lxP_iff, SrtO.lexB_no]
    omega
theorem lxP_anti {a b : Int × Int} (h1 : lxP a b = true) (h2 : lxP b a = true) : a = b := by
  rw [lxP_iff, SrtO.lexB_no] at *
  exact Prod.ext (by omega) (by omega)
/-- in their order -/
def ord (W : Wd) (ns : List Int) : List Int := (ns.filter fun n => (shw W n).isSome).mergeSort fun a b => lxP (rkOf W a, a) (rkOf W b, b)
theorem ord_uniq {W : Wd} {ns l : List Int} (hp : l.Perm (ns.filter fun n => (shw W n).isSome)) (hs : l.Pairwise fun a b => SrtO.lexB (rkOf W b, b) (rkOf W a, a) = false) : l = ord W ns := by
  refine List.Perm.eq_of_pairwise (le := fun a b => lxP (rkOf W a, a) (rkOf W b, b) = true) (fun a b _ _ h1 h2 => congrArg Prod.snd (lxP_anti h1 h2)) (hs.imp fun h => lxP_iff.mpr h) ?_ (hp.trans (List.mergeSort_perm _ _).symm)
  exact List.pairwise_mergeSort (le := fun a b => lxP (rkOf W a, a) (rkOf W b, b)) (fun a b c => lxP_trans _ _ _) (fun a b => lxP_total _ _) _
theorem ord_mem {W : Wd} {ns : List Int} {n : Int} : n ∈ ord W ns ↔ n ∈ ns ∧ (shw W n).isSome = true := by
  unfold ord
  rw [(List.mergeSort_perm _ _).mem_iff, List.mem_filter]
theorem ord_le (W : Wd) (ns : List Int) : (ord W ns).length ≤ ns.length := by
  unfold ord
  rw [List.length_mergeSort]
  exact List.length_filter_le _ _
theorem ord_perm {W : Wd} {ns ms : List Int} (h : ns.Perm ms) : ord W ns = ord W ms := by
  refine ord_uniq ((List.mergeSort_perm _ _).trans (h.filter _)) ?_
  exact (List.pairwise_mergeSort (le := fun a b => lxP (rkOf W a, a) (rkOf W b, b)) (fun a b c => lxP_trans _ _ _) (fun a b => lxP_total _ _) _).imp fun h => lxP_iff.mp h
/-- one surface and its parts, the lowest first -/
def seen1 : Nat → Wd → Int → Int → Int → List (Int × Int × Int)
  | 0, _, _, _, _ => []
  | f + 1, W, n, x, y => match shw W n with
    | none => []
    | some k => if k.veiled = true then [] else (n, x + k.x, y + k.y) :: (ord W (W.parts (some n))).flatMap fun p => seen1 f W p (x + k.x) (y + k.y)
def seenS (f : Nat) (W : Wd) (ns : List Int) (x y : Int) : List (Int × Int × Int) := (ord W ns).flatMap fun n => seen1 f W n x y
theorem seen1_le : ∀ (f : Nat) (W : Wd) (n x y : Int), W.length ≤ 10 → (seen1 f W n x y).length ≤ bU f
  | 0, _, _, _, _, _ => Nat.zero_le _
  | f + 1, W, n, x, y, h => by
    unfold seen1
    cases shw W n with
    | none => exact Nat.zero_le _
    | some k =>
      show (if k.veiled = true then [] else _).length ≤ _
      split
      · exact Nat.zero_le _
      · rw [List.length_cons]
        have a1 := flat_le (fun p => seen1 f W p (x + k.x) (y + k.y)) (bU f) (ord W (W.parts (some n))) fun p _ => seen1_le f W p _ _ h
        have a2 := Nat.mul_le_mul_right (bU f) (Nat.le_trans (ord_le W (W.parts (some n))) (Nat.le_trans (parts_le W (some n)) h))
        show _ ≤ bU (f + 1)
        unfold bU
        omega
theorem seenS_le {f : Nat} {W : Wd} {ns : List Int} {x y : Int} (h : W.length ≤ 10) (h2 : ns.length ≤ 10) : (seenS f W ns x y).length ≤ 10 * bU f := by
  have a1 := flat_le (fun p => seen1 f W p x y) (bU f) (ord W ns) fun p _ => seen1_le f W p _ _ h
  exact Nat.le_trans a1 (Nat.mul_le_mul_right _ (Nat.le_trans (ord_le W ns) h2))
/-! tables of code objects -/
def isDat : HO → Bool
  | .lst _ => true
  | .dK _ => true
  | .dT _ => true
  | .ins _ _ _ => true
  | _ => false
abbrev PT (K : PySem.W.Frag) : Addr := He.tabOf K (He.codeOf K ("seen_under", none))
theorem tabs_fr {T : List (Addr × Str)} {H H' : Hp} {S : List Addr} (t : LamX.Tabs T H) (f : Fr S H H') (n : ∀ a ∈ S, ∀ o, H a = some o → isDat o = true) : LamX.Tabs T H' := fun p hp => by
  obtain ⟨ps, h1, h2, h3⟩ := t p hp
  refine ⟨ps, f.at_ _ _ h1 (fun z => by have := n _ z _ h1; cases this), h2, fun pos cv hc => ?_⟩
  obtain ⟨c, e1, e2⟩ := h3 pos cv hc
  exact ⟨c, e1, f.at_ _ _ e2 (fun z => by have := n _ z _ e2; cases this)⟩
theorem tabs_same {T : List (Addr × Str)} {H H' : Hp} (t : LamX.Tabs T H) (s : Same H H') : LamX.Tabs T H' := tabs_fr t (Fr.same (S := []) s) fun _ h => nomatch h
theorem pt_at {K : PySem.W.Frag} {H : Hp} (t : LamX.Tabs (Ts K) H) : ∃ ps, H (PT K) = some (.tbl ps) := let ⟨ps, h, _⟩ := t _ (ts_mem K); ⟨ps, h⟩
theorem pt_ne {K : PySem.W.Frag} {H : Hp} {a : Addr} {o : HO} (t : LamX.Tabs (Ts K) H) (h : H a = some o) (m : isMut o = true) : a ≠ PT K := fun z => by
  obtain ⟨ps, e⟩ := pt_at t
  rw [z, e] at h
  obtain rfl := Option.some.inj h
  cases m
theorem CP.off {K : PySem.W.Frag} {H : Hp} {C : CAd} {L : PL} (h : CP K H C L) (t : LamX.Tabs (Ts K) H) : ∀ x ∈ C.c :: C.d :: fpL L, x ≠ PT K := fun x hx => by
  rcases List.mem_cons.mp hx with z | z
  · obtain ⟨dx, e⟩ := h.at_
    rw [z]; exact pt_ne t e rfl
  · obtain ⟨o, e, m⟩ := h.p.live x z
    exact pt_ne t e m
def T3 (K : PySem.W.Frag) (H : Hp) (v : V) (t : Int × Int × Int) : Prop := ∃ a, v = .ref a ∧ SqT K H a [.int t.1, .int t.2.1, .int t.2.2]
theorem T3.fr {K : PySem.W.Frag} {H H' : Hp} {S : List Addr} {v : V} {t : Int × Int × Int} (h : T3 K H v t) (f : Fr S H H') : T3 K H' v t := let ⟨a, e, q⟩ := h; ⟨a, e, f.sqT q⟩

def spSeen (K : PySem.W.Frag) (j : Nat) : Sp := fun vs H Q _ => ∃ f C L a ns x y, j = f + 1 ∧ vs = [.ref C.c, .ref a, .int x, .int y] ∧ CP K H C L ∧ H a = some (.lst (ns.map V.int)) ∧ ns.length ≤ 10 ∧ (∀ n ∈ ns, n ∈ (pwd L).names) ∧ (∀ n ∈ ns, Ht f (pwd L) n) ∧ LamX.Tabs (Ts K) H ∧
  ∀ H' p rs, Fr [PT K] H H' → LamX.Tabs (Ts K) H' → H p = none → H' p = some (.lst rs) → Paired (T3 K H') rs (seenS f (pwd L) ns x y) → Q (.ref p) H'
theorem shw_get {W : Wd} {n : Int} {s : Sf} (g : W.get n = some s) : shw W n = s.shown := by unfold shw; rw [g]; rfl
section
variable {P : Program} {w : World} {K : PySem.W.Frag} {mg : Str → Option Value} {base : Heap}
theorem ok_seen_underF (T : Tx w K mg) (B : Tb base K mg) : ∀ j, j ≤ 4 → Cal P w K mg base (j + 5) "seen_under" (spSeen K j) []
  | 0, _ => mk_seen_under T (fun vs H Q E h => by obtain ⟨f, _, _, _, _, _, _, z, _⟩ := h; cases z) (fun cdv _ A outer s H vs Q E hr h => by obtain ⟨f, _, _, _, _, _, _, z, _⟩ := h; cases z)
  | j + 1, hj => by
    have ih := ok_seen_underF T B j (by omega)
    refine mk_seen_under T (fun vs H Q E h => ?_) (fun cdv hcd A outer s H vs Q E hr h => ?_)
    · obtain ⟨f, C, L, a, ns, x, y, _, rfl, _⟩ := h
      rfl
    · obtain ⟨f, C, L, a, ns, x, y, ej, rfl, hC, ha, hns, hnn, hht, hT, q⟩ := h
      obtain rfl : j = f := by omega
      obtain ⟨⟨dx, eC⟩, hP, _⟩ := id hC
      refine ⟨_, (pss_cons (ps_set (i := 4) sc_seen_under.nd rfl (.inl rfl) (pe_lst pa_nil))
  (pss_cons (ps_setLc (i := 5) (own := [("name", 6)]) rfl sc_seen_under.nd rfl rfl (sw_true rfl rfl rfl (by decide +kernel)) (pi_list (pv 1)) (blkOk_by (N := N_seen_under) (sc := defScope s_seen_under) (by decide +kernel)) (fun _ _ _ _ _ => (pg_name (i := 6) sc_seen_under.nd rfl (.inl rfl))) (fun _ _ _ _ _ => pts_one (pt_cmpR o_notN (pe_fldK (K := K) (pe_dget (hu_of hr) (pe_fldK (K := K) (pv 0) rfl) (pv 6) (fun _ _ => rfl)) rfl) pe_non (nomark _))) (fun _ _ _ _ _ => (pv 6)))
  (pss_cons (ps_for PassesOwn.never rfl (pi_list (pe_sortLam (T := Ts K) (c := He.codeOf K ("seen_under", none)) (P := He.tabOf K (He.codeOf K ("seen_under", none))) (k := 1) (N := ["one", "client"]) (fr := ["client"]) (js := [0]) (by rfl) (f_sorted T) (B.tb _ (by decide)) (by rw [hcd] <;> rfl) (ts_mem K) (ts_one K) (hr.mono (by omega)) (NdefX.nscope_by (by decide +kernel)) (by show NdefX.ndefB (defScope s_seen_under) _ _ = true; decide +kernel) rfl rfl (fun _ _ _ _ _ _ => rfl) (pv 5) (fun A2 outer2 s2 H2 f2 c2 cl2 hr2 => (pe_tup (pa_cons (pe_fldK (K := K) (pe_fldK (K := K) (pe_dget (hu_of hr2) (pe_fldK (K := K) (pv 1) rfl) (pv 0) (fun _ _ => rfl)) rfl) rfl) (pa_cons (pv 0) pa_nil)))))) (pg_name (i := 6) sc_seen_under.nd rfl (.inl rfl)) (pss_cons (ps_set (i := 7) sc_seen_under.nd rfl (.inl rfl) (pe_fld (pe_dget (hu_of hr) (pe_fld (pv 0) rfl) (pv 6) (fun _ _ => rfl)) rfl))
  (pss_one (ps_if (pt_not (pt_val (pe_fld (pv 7) rfl))) (pss_cons (ps_par rfl sc_seen_under.nd (i := 8) (j := 9) rfl rfl (by decide) rfl rfl (pa_cons (pe_op op_add (pv 2) (pe_fld (pv 7) rfl)) (pa_cons (pe_op op_add (pv 3) (pe_fld (pv 7) rfl)) pa_nil)) rfl)
  (pss_cons (ps_expr (pe_bm PySem.F.plainAttrs_list PySem.F.slot_list_append PySem.F.type_list_append mt_append (pv 4) (pa_cons (pe_tup (pa_cons (pv 6) (pa_cons (pv 8) (pa_cons (pv 9) pa_nil)))) pa_nil)))
  (pss_one (ps_expr (pe_bm PySem.F.plainAttrs_list PySem.F.slot_list_extend PySem.F.type_list_extend mt_extend (pv 4) (pa_cons (pe_c ih hr (by omega) rfl (pa_cons (pv 0) (pa_cons (pe_mt (ok_Client_parts (K := K) T) hr (by omega) (pv 0) (pa_cons (pv 6) pa_nil)) (pa_cons (pv 8) (pa_cons (pv 9) pa_nil))))) pa_nil)))))) pss_nil))))
  (pss_one (ps_ret (pv 4)))))), ?_⟩
      rw [st_seen_under]
      wtm_at "go"
      intro p np
      have s1 := same_new (o := .lst []) np
      have hp1 : upd H p (.lst []) p = some (.lst []) := upd_same
      show gName _ _ _ (upd H p (.lst [])) _
      generalize upd H p (.lst []) = H1 at s1 hp1
      have ha1 := s1 _ _ ha
      wtm_at "go"
      intro D nD
      have nDa : a ≠ D := ne_of_none ha1 nD
      have nDp : p ≠ D := ne_of_none hp1 nD
      refine eLcL (xs := ns.map V.int) (fun i H' => Fr [D] H1 H' ∧ H' D = some (.lst (((ns.take i).filter fun n => (shw (pwd L) n).isSome).map V.int))) ?_ ?_ ?_ ?_
      · exact ⟨Fr.new nD, upd_same⟩
      · exact fun i H' _ ⟨f, _⟩ => SqL.of (f.at_ _ _ ha1 (by simpa using nDa))
      · rintro i v H3 ex ⟨f3, hD⟩
        rw [List.getElem?_map] at ex
        obtain ⟨m, em, rfl⟩ := Option.map_eq_some_iff.mp ex
        obtain ⟨sm, gm⟩ := name_get (hnn m (List.mem_of_getElem? em))
        have C3 := (hC.same s1).fr f3 (S := [D]) fun x hx z => by
          rw [List.mem_singleton.mp z] at hx
          rcases List.mem_cons.mp hx with y | y
          · have := s1 _ _ eC; rw [← y, nD] at this; cases this
          · obtain ⟨o, e, _⟩ := (hP.same s1).live D y
            rw [nD] at e; cases e
        obtain ⟨⟨_, eC3⟩, hP3, _⟩ := C3
        obtain ⟨M, mM, evM, ⟨dM, eM⟩, pM, rM, sM, nM⟩ := hP3.get gm
        have htk := take_succ em
        have hi := (List.getElem?_eq_some_iff.mp em).1
        wtm_at "go"
        refine iDGI hP3.at_ evM ?_
        wtm_at "go"
        refine iNoLP sM ?_
        wtm_at "go"
        cases es : sm.shown with
        | some k =>
          wtm_at "go"
          refine ⟨_, hD, ?_, f3.trans (Fr.set hD rfl (by simp)), ?_⟩
          · rw [List.length_map]
            exact Nat.lt_of_le_of_lt (Nat.le_trans (List.length_filter_le _ _) (show _ ≤ 10 by rw [List.length_take]; omega)) (by decide)
          · rw [upd_same, htk, List.filter_append]
            simp [shw_get gm, es]
        | none =>
          wtm_at "go"
          refine ⟨f3, ?_⟩
          rw [hD, htk, List.filter_append]
          simp [shw_get gm, es]
      · rintro H3 ⟨f3, hD⟩
        rw [List.length_map, List.take_of_length_le (Nat.le_refl _)] at hD
        have s3 : Same H H3 := U.Same.step s1 f3 fun x hx => by rw [List.mem_singleton.mp hx]; exact Same.free s1 nD
        have hC3 := hC.same s3
        have hT3 := tabs_same hT s3
        have hp3 := f3.at_ _ _ hp1 (by simpa using nDp)
        wtm_at "go"
        refine ⟨_, rfl, hT3, D, _, fun m => (rkOf (pwd L) m, m), rfl, SqL.of hD, ?_, fun H4 f4 hT4 => ⟨fun m hm H5 s5 => ?_, fun ns' u H5 s5 nu hpm hsr hu => ?_⟩⟩
        · exact Nat.le_trans (List.length_filter_le _ _) (by omega)
        · have hC4 := hC3.fr f4 fun x hx z => hC3.off hT3 x hx (List.mem_singleton.mp z)
          obtain ⟨⟨_, eC5⟩, hP5, _⟩ := hC4.same s5
          obtain ⟨hm1, hm2⟩ := List.mem_filter.mp hm
          obtain ⟨sm, gm⟩ := name_get (hnn m hm1)
          rw [shw_get gm] at hm2
          obtain ⟨k, ek⟩ := Option.isSome_iff_exists.mp hm2
          obtain ⟨M, mM, evM, ⟨dM, eM⟩, pM, rM, sM, nM⟩ := hP5.get gm
          rw [ek] at sM
          obtain ⟨N, eN, ⟨⟨dN, eNN⟩, _⟩⟩ := sM.get
          rw [eN] at eM
          have eM : H5 M.a = some (.ins (He.ga K "Surface") dM (surfF (.ref M.p.a) (oA M.r) (.ref N.a) (oI sm.top))) := eM
          have erk : rkOf (pwd L) m = k.rank := by unfold rkOf; rw [shw_get gm, ek]
          show tTup _ [some (.int m), some (.ref C.c)] H5 _
          wtm_at "go"
          refine iDGI hP5.at_ evM ?_
          wtm_at "go"
          intro t nt
          refine ⟨same_new nt, t, rfl, ?_⟩
          show _ = some (HO.tup [V.int (rkOf (pwd L) m), V.int m])
          rw [erk]
          exact upd_same
        · have eo : ns' = ord (pwd L) ns := ord_uniq hpm hsr
          have f45 : Fr [PT K] H3 H5 := f4.trans (Fr.same s5)
          have hT5 := tabs_same hT4 s5
          have hC5 := hC3.fr f45 fun x hx z => hC3.off hT3 x hx (List.mem_singleton.mp z)
          have npT : p ≠ PT K := pt_ne hT3 hp3 rfl
          have hp5 := f45.at_ _ _ hp3 (by simpa using npT)
          have npu : p ≠ u := fun z => by rw [z] at hp3; have := f4.at_ _ _ hp3 (by simpa using fun y => npT (by rw [z]; exact y)); rw [nu] at this; cases this
          have hol := ord_le (pwd L) ns
          wtm_at "go"
          refine eForL (xs := ns'.map V.int) (fun i σ H' => ∃ y6 y7 y8 y9 rs, σ = [some (.ref C.c), some (.ref a), some (.int x), some (.int y), some (.ref p), some (.ref D), y6, y7, y8, y9] ∧ Fr [PT K, p] H5 H' ∧ LamX.Tabs (Ts K) H' ∧ H' p = some (.lst rs) ∧ Paired (T3 K H') rs ((ns'.take i).flatMap fun n => seen1 j (pwd L) n x y)) ?_ ?_ ?_ ?_
          · exact ⟨_, _, _, _, [], rfl, Fr.refl, hT5, hp5, .nil⟩
          · rintro i σ H' _ ⟨_, _, _, _, _, _, f6, hT6, _⟩
            refine SqL.of (f6.at_ _ _ hu ?_)
            simp only [List.mem_cons, List.not_mem_nil, or_false, not_or]
            exact ⟨pt_ne hT5 hu rfl, Ne.symm npu⟩
          · rintro i v σ H6 ex ⟨y6, y7, y8, y9, rs, rfl, f6, hT6, hp6, hrs⟩
            rw [List.getElem?_map] at ex
            obtain ⟨m, em, rfl⟩ := Option.map_eq_some_iff.mp ex
            have hmo : m ∈ ord (pwd L) ns := by rw [← eo]; exact List.mem_of_getElem? em
            obtain ⟨hm1, hm2⟩ := ord_mem.mp hmo
            obtain ⟨sm, gm⟩ := name_get (hnn m hm1)
            rw [shw_get gm] at hm2
            obtain ⟨k, ek⟩ := Option.isSome_iff_exists.mp hm2
            have C6 := hC5.fr f6 fun z hz q => by
              simp only [List.mem_cons, List.not_mem_nil, or_false] at q
              rcases q with q | q
              · exact hC5.off hT5 z hz q
              · rw [q] at hz
                rcases List.mem_cons.mp hz with y | y
                · rw [← y, np] at eC; cases eC
                · obtain ⟨o, e, _⟩ := hP.live p y
                  rw [np] at e; cases e
            obtain ⟨⟨_, eC6⟩, hP6, _⟩ := id C6
            obtain ⟨M, mM, evM, ⟨dM, eM⟩, pM, rM, sM, nM⟩ := hP6.get gm
            rw [ek] at sM
            obtain ⟨N, eN, ⟨⟨dN, eNN⟩, _⟩⟩ := sM.get
            rw [eN] at eM
            have eM : H6 M.a = some (.ins (He.ga K "Surface") dM (surfF (.ref M.p.a) (oA M.r) (.ref N.a) (oI sm.top))) := eM
            have htk := take_succ em
            have hi : i < ns'.length := (List.getElem?_eq_some_iff.mp em).1
            have hnl : ns'.length ≤ 10 := by rw [eo]; omega
            have hrl : rs.length ≤ 10 * bU j := by
              rw [pLen hrs]
              have a1 := flat_le (fun p => seen1 j (pwd L) p x y) (bU j) (ns'.take i) fun p _ => seen1_le j _ p _ _ (by rw [pwd, List.length_map]; exact hP.le)
              exact Nat.le_trans a1 (Nat.mul_le_mul_right _ (by rw [List.length_take]; omega))
            have hb3 : bU j ≤ bU 3 := bU_mono (by omega)
            have hb4 : bU 3 = 1111 := by decide
            have hx1 : ∃ g, j = g + 1 := by
              cases j with
              | zero => exact (hht m hm1).elim
              | succ g => exact ⟨g, rfl⟩
            obtain ⟨g, rfl⟩ := hx1
            have es1 : seen1 (g + 1) (pwd L) m x y = if k.veiled = true then [] else (m, x + k.x, y + k.y) :: seenS g (pwd L) ((pwd L).parts (some m)) (x + k.x) (y + k.y) := by
              show (match shw (pwd L) m with | none => [] | some k => _) = _
              rw [shw_get gm, ek]
              rfl
            wtm_at "go"
            refine iDGI hP6.at_ evM ?_
            wtm_at "go"
            cases ev : k.veiled with
            | true =>
              wtm_at "go"
              refine ⟨_, _, _, _, rs, rfl, f6, hT6, hp6, ?_⟩
              rw [htk, List.flatMap_append]
              simp [es1, ev]
              exact hrs
            | false =>
              rw [ev] at eNN
              wtm_at "go"
              intro t nt
              have s7 := same_new (o := .tup [.int m, .int (x + k.x), .int (y + k.y)]) nt
              wtm_at "go"
              have hp7 := s7 _ _ hp6
              refine gAppend ⟨_, hp7, Nat.lt_of_le_of_lt (show _ ≤ 11110 by omega) (by decide), ?_⟩
              have f8 : Fr [p] (upd H6 t (.tup [.int m, .int (x + k.x), .int (y + k.y)])) (upd (upd H6 t (.tup [.int m, .int (x + k.x), .int (y + k.y)])) p (.lst (rs ++ [.ref t]))) := Fr.set hp7 rfl (by simp)
              have ht8 : SqT K (upd (upd H6 t (.tup [.int m, .int (x + k.x), .int (y + k.y)])) p (.lst (rs ++ [.ref t]))) t [.int m, .int (x + k.x), .int (y + k.y)] := f8.sqT (SqT.of upd_same)
              have hp8 : upd (upd H6 t (.tup [.int m, .int (x + k.x), .int (y + k.y)])) p (.lst (rs ++ [.ref t])) p = some (.lst (rs ++ [.ref t])) := upd_same
              have f68 : Fr [p] H6 (upd (upd H6 t (.tup [.int m, .int (x + k.x), .int (y + k.y)])) p (.lst (rs ++ [.ref t]))) := (Fr.same s7).trans f8
              have hT8 := tabs_fr hT6 f68 fun z hz o e => by rw [List.mem_singleton.mp hz, hp6] at e; obtain rfl := Option.some.inj e; rfl
              have C8_ := C6.fr f68 fun z hz q => by
                rw [List.mem_singleton.mp q] at hz
                rcases List.mem_cons.mp hz with y | y
                · rw [← y, np] at eC; cases eC
                · obtain ⟨o, e, _⟩ := hP.live p y
                  rw [np] at e; cases e
              have hrs8 : Paired (T3 K (upd (upd H6 t (.tup [.int m, .int (x + k.x), .int (y + k.y)])) p (.lst (rs ++ [.ref t])))) (rs ++ [.ref t]) (((ns'.take i).flatMap fun n => seen1 (g + 1) (pwd L) n x y) ++ [(m, x + k.x, y + k.y)]) := pSnoc (pMap hrs fun _ _ z => z.fr f68) ⟨t, rfl, ht8⟩
              generalize upd (upd H6 t (.tup [.int m, .int (x + k.x), .int (y + k.y)])) p (.lst (rs ++ [.ref t])) = H8 at hp8 f68 hT8 C8_ hrs8
              obtain ⟨⟨_, eC8⟩, hP8, _⟩ := id C8_
              wtm_at "go"
              refine ⟨C, some m, L, rfl, C8_, fun H9 z s9 nz hz => ?_⟩
              have hT9 := tabs_same hT8 s9
              have hpl : ((pwd L).parts (some m)).length ≤ 10 := Nat.le_trans (parts_le _ _) (by rw [pwd, List.length_map]; exact hP.le)
              wtm_at "go"
              refine ⟨g, C, L, z, (pwd L).parts (some m), x + k.x, y + k.y, rfl, rfl, C8_.same s9, hz, hpl, fun n hn => ?_, hht m hm1, hT9, fun HA r ss fA hTA nr hr hss => ?_⟩
              · obtain ⟨s, e, _⟩ := mem_parts.mp hn
                exact get_name e
              have hpA := fA.at_ _ _ (s9 _ _ hp8) (by simpa using pt_ne hT8 hp8 rfl)
              wtm_at "go"
              refine iExtend hpA hr ?_ ?_
              · rw [pLen hss, List.length_append]
                have := seenS_le (f := g) (W := pwd L) (ns := (pwd L).parts (some m)) (x := x + k.x) (y := y + k.y) (by rw [pwd, List.length_map]; exact hP.le) hpl
                have hb5 : bU g ≤ bU 3 := bU_mono (by omega)
                exact Nat.le_trans (show _ ≤ 30000 by simp; omega) (by decide)
              have fB : Fr [p] HA (upd HA p (.lst (rs ++ [.ref t] ++ ss))) := Fr.set hpA rfl (by simp)
              have f6B : Fr [PT K, p] H6 (upd HA p (.lst (rs ++ [.ref t] ++ ss))) := (((f68.mono (by simp)).trans (Fr.same s9)).trans (fA.mono (by simp))).trans (fB.mono (by simp))
              wtm_at "go"
              refine ⟨_, _, _, _, rs ++ [.ref t] ++ ss, rfl, f6.trans f6B, tabs_fr hTA fB (fun z hz o e => by rw [List.mem_singleton.mp hz, hpA] at e; obtain rfl := Option.some.inj e; rfl), upd_same, ?_⟩
              have e9 : ((ns'.take (i + 1)).flatMap fun n => seen1 (g + 1) (pwd L) n x y) = (((ns'.take i).flatMap fun n => seen1 (g + 1) (pwd L) n x y) ++ [(m, x + k.x, y + k.y)]) ++ seenS g (pwd L) ((pwd L).parts (some m)) (x + k.x) (y + k.y) := by
                rw [htk, List.flatMap_append, List.flatMap_singleton, es1, ev]
                simp
              rw [e9]
              exact paired_app (pMap (pMap hrs8 fun _ _ z => z.fr (Fr.same (S := []) s9)) fun _ _ z => (z.fr fA).fr fB) (pMap hss fun _ _ z => z.fr fB)
          · rintro σ H6 ⟨y6, y7, y8, y9, rs, rfl, f6, hT6, hp6, hrs⟩
            rw [List.length_map, List.take_of_length_le (Nat.le_refl _), eo] at hrs
            wtm_at "go"
            refine q H6 p rs ⟨fun b o e n => ?_, fun b xs e => ?_, fun b o v e => ?_, fun b e => ?_⟩ hT6 np hp6 hrs
            · refine f6.at_ _ _ (f45.at_ _ _ (s3 _ _ e) n) ?_
              simp only [List.mem_cons, List.not_mem_nil, or_false, not_or]
              exact ⟨by simpa using n, ne_of_none e np⟩
            · exact f6.tu _ _ (f45.tu _ _ (s3 _ _ e))
            · exact f6.fz _ _ _ (f45.fz _ _ _ (s3 _ _ e))
            · exact Same.free s3 (f45.dm _ (f6.dm _ e))
theorem ok_seen_under (T : Tx w K mg) (B : Tb base K mg) : Cal P w K mg base 9 "seen_under" (spSeen K 4) [] := ok_seen_underF T B 4 (by omega)
end

theorem catAK {X : Cx} {K : PySem.W.Frag} (e : X.K = K := by rfl) : OpR X (binaryOp .Add) (rCatA K) := e ▸ op_catA
/-! ### clients laid: plain -/
def c3 (t : Int × Int × Int) : Int := t.1 * 256 + t.2.1 * 16 + t.2.2
def sort3 (ts : List (Int × Int × Int)) : List (Int × Int × Int) := ts.mergeSort fun a b => decide (c3 a ≤ c3 b)
def In16 (t : Int × Int × Int) : Prop := (0 ≤ t.1 ∧ t.1 < 16) ∧ (0 ≤ t.2.1 ∧ t.2.1 < 16) ∧ 0 ≤ t.2.2 ∧ t.2.2 < 16
theorem c3_inj {a b : Int × Int × Int} (ha : In16 a) (hb : In16 b) (h : c3 a = c3 b) : a = b := by
  obtain ⟨a1, a2, a3⟩ := a
  obtain ⟨b1, b2, b3⟩ := b
  unfold In16 at ha hb
  unfold c3 at h
  simp only at ha hb h
  have : a1 = b1 := by omega
  have : a2 = b2 := by omega
  have : a3 = b3 := by omega
  simp_all
theorem code3 (a b c : Int) : TS.code 16 [a, b, c] = c3 (a, b, c) := by
  show a * 16 ^ 2 + (b * 16 ^ 1 + (c * 16 ^ 0 + 0)) = a * 256 + b * 16 + c
  have e2 : (16 : Int) ^ 2 = 256 := by decide
  have e1 : (16 : Int) ^ 1 = 16 := by decide
  have e0 : (16 : Int) ^ 0 = 1 := by decide
  rw [e2, e1, e0]
  omega
theorem sort3_perm (ts : List (Int × Int × Int)) : (sort3 ts).Perm ts := List.mergeSort_perm _ _
theorem sort3_uniq {ts us : List (Int × Int × Int)} (b : ∀ t ∈ ts, In16 t) (hp : us.Perm ts) (hs : us.Pairwise fun a b => c3 a ≤ c3 b) : us = sort3 ts := by
  refine List.Perm.eq_of_pairwise (le := fun a b => c3 a ≤ c3 b) (fun x y hx hy h1 h2 => c3_inj (b x (hp.mem_iff.mp hx)) (b y ((sort3_perm ts).mem_iff.mp hy)) (Int.le_antisymm h1 h2)) hs ?_ (hp.trans (sort3_perm ts).symm)
  exact (List.pairwise_mergeSort (le := fun a b => decide (c3 a ≤ c3 b)) (fun a b c h1 h2 => decide_eq_true (Int.le_trans (of_decide_eq_true h1) (of_decide_eq_true h2))) (fun a b => by
    rcases Int.le_total (c3 a) (c3 b) with h | h
    · simp [h]
    · simp [h]) _).imp fun h => of_decide_eq_true h
theorem sort3_perm_eq {ts us : List (Int × Int × Int)} (b : ∀ t ∈ ts, In16 t) (hp : us.Perm ts) : sort3 us = sort3 ts := by
  refine sort3_uniq b ((sort3_perm us).trans hp) ?_
  exact (List.pairwise_mergeSort (le := fun a b => decide (c3 a ≤ c3 b)) (fun a b c h1 h2 => decide_eq_true (Int.le_trans (of_decide_eq_true h1) (of_decide_eq_true h2))) (fun a b => by
    rcases Int.le_total (c3 a) (c3 b) with h | h
    · simp [h]
    · simp [h]) _).imp fun h => of_decide_eq_true h
theorem pPerm {α β : Type} {R : α → β → Prop} {ys xs : List α} (h : ys.Perm xs) : ∀ {ts : List β}, Paired R xs ts → ∃ us : List β, us.Perm ts ∧ Paired R ys us := by
  induction h with
  | nil => intro ts p; cases p; exact ⟨[], .refl _, .nil⟩
  | cons x _ ih =>
    intro ts p
    cases p with
    | cons r t =>
      obtain ⟨us, h1, h2⟩ := ih t
      exact ⟨_ :: us, h1.cons _, .cons r h2⟩
  | swap x y l =>
    intro ts p
    cases p with
    | cons r t =>
      cases t with
      | cons r2 t2 => exact ⟨_, .swap _ _ _, .cons r2 (.cons r t2)⟩
  | trans _ _ ih1 ih2 =>
    intro ts p
    obtain ⟨us, h1, h2⟩ := ih2 p
    obtain ⟨vs, h3, h4⟩ := ih1 h2
    exact ⟨vs, h3.trans h1, h4⟩
theorem iSort3 {K : PySem.W.Frag} {H : Hp} {Q : VK} {a : Addr} {xs : List V} {ts : List (Int × Int × Int)} (h : H a = some (.lst xs)) (p : Paired (fun v t => ∃ b, v = V.ref b ∧ H b = some (.tup [.int t.1, .int t.2.1, .int t.2.2])) xs ts) (l : ts.length < 64) (b : ∀ t ∈ ts, In16 t)
    (q : ∀ ys u, Paired (fun v t => ∃ b, v = V.ref b ∧ H b = some (.tup [.int t.1, .int t.2.1, .int t.2.2])) ys (sort3 ts) → H u = none → Q (.ref u) (upd H u (.lst ys))) : rSortU K 3 16 [.ref a] H Q := by
  refine ⟨a, xs, rfl, SqL.of h, by rw [pLen p]; exact l, fun x hx => ?_, fun ys u hp hs nu => ?_⟩
  · obtain ⟨i, hi⟩ := List.mem_iff_getElem?.mp hx
    obtain ⟨t, ht, c, rfl, hc⟩ := pGetL p hi
    obtain ⟨b1, b2, b3⟩ := b t (List.mem_of_getElem? ht)
    refine ⟨[t.1, t.2.1, t.2.2], ⟨c, rfl, SqT.of hc⟩, rfl, fun m hm => ?_⟩
    simp only [List.mem_cons, List.not_mem_nil, or_false] at hm
    rcases hm with z | z | z <;> rw [z] <;> assumption
  · obtain ⟨us, h1, h2⟩ := pPerm hp p
    have e : us = sort3 ts := by
      refine sort3_uniq b h1 ?_
      rw [List.pairwise_iff_getElem]
      intro i j hi hj hij
      obtain ⟨v1, e1, c1, rfl, k1⟩ := pGet h2 (List.getElem?_eq_getElem hi)
      obtain ⟨v2, e2, c2, rfl, k2⟩ := pGet h2 (List.getElem?_eq_getElem hj)
      have := List.pairwise_iff_getElem.mp hs i j (List.getElem?_eq_some_iff.mp e1).1 (List.getElem?_eq_some_iff.mp e2).1 hij [us[i].1, us[i].2.1, us[i].2.2] [us[j].1, us[j].2.1, us[j].2.2]
        (by rw [(List.getElem?_eq_some_iff.mp e1).2]; exact ⟨c1, rfl, SqT.of k1⟩) (by rw [(List.getElem?_eq_some_iff.mp e2).2]; exact ⟨c2, rfl, SqT.of k2⟩)
      rw [code3, code3] at this
      exact this
    rw [e] at h2
    exact q ys u h2 nu
def topsAt (W : Wd) (i : Nat) (ns : List Int) : List (Int × Int × Int) := (ns.filter fun n => (shw W n).isSome).map fun n => (rkOf W n, (i : Int), n)
def topsTo (Ws : List Wd) (i : Nat) : List (Int × Int × Int) := (List.range i).flatMap fun i => topsAt (Ws.getD i []) i ((Ws.getD i []).parts none)
theorem topsTo_succ (Ws : List Wd) (i : Nat) : topsTo Ws (i + 1) = topsTo Ws i ++ topsAt (Ws.getD i []) i ((Ws.getD i []).parts none) := by
  unfold topsTo
  rw [List.range_succ, List.flatMap_append, List.flatMap_singleton]
def seenK (Ws : List Wd) (t : Int × Int × Int) : List (Int × Int × Int × Int) := (seen1 3 (Ws.getD t.2.1.toNat []) t.2.2 0 0).map fun s => (t.2.1, s)
def laidOf (Ws : List Wd) : List (Int × Int × Int × Int) := (sort3 (topsTo Ws Ws.length)).flatMap (seenK Ws)
structure TopOk (Ws : List Wd) (t : Int × Int × Int) : Prop where
  k0 : 0 ≤ t.2.1
  k1 : t.2.1.toNat < Ws.length
  nm : ∃ s, (Ws.getD t.2.1.toNat []).get t.2.2 = some s ∧ s.top = none
  b : In16 t
theorem rkOf_bd {W : Wd} (h : WfW W) {n : Int} (hn : (shw W n).isSome = true) : 0 ≤ rkOf W n ∧ rkOf W n ≤ 9 := by
  unfold rkOf
  cases e : shw W n with
  | none => rw [e] at hn; cases hn
  | some k =>
    unfold shw at e
    cases g : W.get n with
    | none => rw [g] at e; cases e
    | some s =>
      rw [g] at e
      exact ((h.ok n s g).s k e).k
theorem tops_ok {Ws : List Wd} (h : ∀ W ∈ Ws, WfW W) (hl : Ws.length ≤ 5) : ∀ i, i ≤ Ws.length → ∀ t ∈ topsTo Ws i, TopOk Ws t
  | 0, _, t, ht => by cases ht
  | i + 1, hi, t, ht => by
    rw [topsTo_succ] at ht
    rcases List.mem_append.mp ht with z | z
    · exact tops_ok h hl i (by omega) t z
    · obtain ⟨n, hn, rfl⟩ := List.mem_map.mp z
      obtain ⟨h1, h2⟩ := List.mem_filter.mp hn
      have eW : Ws.getD i [] = Ws[i] := by rw [List.getD_eq_getElem?_getD, List.getElem?_eq_getElem (by omega)]; rfl
      have hW := h _ (List.getElem_mem (l := Ws) (n := i) (by omega))
      rw [← eW] at hW
      obtain ⟨s, g, e⟩ := mem_parts.mp h1
      have hb := rkOf_bd hW h2
      have hnm : Nm n := hW.names_nm n (get_name g)
      unfold Nm at hnm
      refine ⟨by show (0 : Int) ≤ (i : Int); omega, by show (i : Int).toNat < _; omega, ⟨s, ?_, e⟩, ⟨⟨hb.1, by show rkOf _ n < 16; omega⟩, ⟨by show (0 : Int) ≤ (i : Int); omega, by show (i : Int) < 16; omega⟩, hnm.1, by show n < 16; omega⟩⟩
      show (Ws.getD (i : Int).toNat []).get n = some s
      rw [Int.toNat_natCast]
      exact g
theorem tops_le {Ws : List Wd} (h : ∀ W ∈ Ws, WfW W) : ∀ i, i ≤ Ws.length → (topsTo Ws i).length ≤ 10 * i
  | 0, _ => Nat.zero_le _
  | i + 1, hi => by
    rw [topsTo_succ, List.length_append]
    have ih := tops_le h i (by omega)
    have eW : Ws.getD i [] = Ws[i] := by rw [List.getD_eq_getElem?_getD, List.getElem?_eq_getElem (by omega)]; rfl
    have hW := h _ (List.getElem_mem (l := Ws) (n := i) (by omega))
    rw [← eW] at hW
    have : (topsAt (Ws.getD i []) i ((Ws.getD i []).parts none)).length ≤ 10 := by
      unfold topsAt
      rw [List.length_map]
      exact Nat.le_trans (List.length_filter_le _ _) (Nat.le_trans (parts_le _ _) hW.le)
    omega
/-! clients in a list -/
structure CsAt (K : PySem.W.Frag) (H : Hp) (a : Addr) (CS : List (CAd × PL)) : Prop where
  at_ : H a = some (.lst (CS.map fun e => V.ref e.1.c))
  each : ∀ e ∈ CS, CP K H e.1 e.2
  wf : ∀ e ∈ CS, WfW (pwd e.2)
  le : CS.length ≤ 5
def wds (CS : List (CAd × PL)) : List Wd := CS.map fun e => pwd e.2
def fpCs (a : Addr) (CS : List (CAd × PL)) : List Addr := a :: CS.flatMap fun e => e.1.c :: e.1.d :: fpL e.2
theorem CsAt.fr {K : PySem.W.Frag} {H H' : Hp} {a : Addr} {CS : List (CAd × PL)} {S : List Addr} (h : CsAt K H a CS) (f : Fr S H H') (n : ∀ x ∈ fpCs a CS, x ∉ S) : CsAt K H' a CS :=
  ⟨f.at_ _ _ h.at_ (n _ (List.mem_cons_self ..)), fun e he => (h.each e he).fr f fun x hx => n x (List.mem_cons_of_mem _ (List.mem_flatMap.mpr ⟨e, he, hx⟩)), h.wf, h.le⟩
theorem CsAt.same {K : PySem.W.Frag} {H H' : Hp} {a : Addr} {CS : List (CAd × PL)} (h : CsAt K H a CS) (s : Same H H') : CsAt K H' a CS := h.fr (Fr.same (S := []) s) fun _ _ => List.not_mem_nil
theorem CsAt.live {K : PySem.W.Frag} {H : Hp} {a : Addr} {CS : List (CAd × PL)} (h : CsAt K H a CS) : ∀ x ∈ fpCs a CS, ∃ o, H x = some o ∧ isMut o = true := fun x hx => by
  rcases List.mem_cons.mp hx with z | z
  · rw [z]; exact ⟨_, h.at_, rfl⟩
  · obtain ⟨e, he, hx⟩ := List.mem_flatMap.mp z
    rcases List.mem_cons.mp hx with z | z
    · obtain ⟨dx, q⟩ := (h.each e he).at_
      rw [z]; exact ⟨_, q, rfl⟩
    · exact (h.each e he).p.live x z
/-- untouched by what is new and by the table -/
theorem CsAt.off {K : PySem.W.Frag} {H H1 H2 : Hp} {a : Addr} {CS : List (CAd × PL)} {S : List Addr} (h : CsAt K H a CS) (t : LamX.Tabs (Ts K) H) (h1 : CsAt K H1 a CS) (f : Fr S H1 H2) (n : ∀ x ∈ S, x = PT K ∨ H x = none) : CsAt K H2 a CS :=
  h1.fr f fun x hx z => by
    obtain ⟨o, e, m⟩ := h.live x hx
    rcases n x z with q | q
    · exact pt_ne t e m q
    · rw [q] at e; cases e
def T4 (K : PySem.W.Frag) (H : Hp) (v : V) (t : Int × Int × Int × Int) : Prop := ∃ a, v = .ref a ∧ SqT K H a [.int t.1, .int t.2.1, .int t.2.2.1, .int t.2.2.2]
theorem T4.fr {K : PySem.W.Frag} {H H' : Hp} {S : List Addr} {v : V} {t : Int × Int × Int × Int} (h : T4 K H v t) (f : Fr S H H') : T4 K H' v t := let ⟨a, e, q⟩ := h; ⟨a, e, f.sqT q⟩

def TT3 (H : Hp) (v : V) (t : Int × Int × Int) : Prop := ∃ b, v = V.ref b ∧ H b = some (.tup [.int t.1, .int t.2.1, .int t.2.2])
theorem TT3.fr {H H' : Hp} {S : List Addr} {v : V} {t : Int × Int × Int} (h : TT3 H v t) (f : Fr S H H') : TT3 H' v t := let ⟨b, e, q⟩ := h; ⟨b, e, f.tu _ _ q⟩
def spLaid (K : PySem.W.Frag) : Sp := fun vs H Q _ => ∃ a CS, vs = [.ref a] ∧ CsAt K H a CS ∧ LamX.Tabs (Ts K) H ∧ ∀ H' p rs, Fr [PT K] H H' → LamX.Tabs (Ts K) H' → H p = none → H' p = some (.lst rs) → Paired (T4 K H') rs (laidOf (wds CS)) → Q (.ref p) H'
theorem wds_get {CS : List (CAd × PL)} {i : Nat} {e : CAd × PL} (h : CS[i]? = some e) : (wds CS).getD i [] = pwd e.2 := by
  unfold wds
  rw [List.getD_eq_getElem?_getD, List.getElem?_map, h]
  rfl
theorem ord_one (W : Wd) (n : Int) : ord W [n] = if (shw W n).isSome = true then [n] else [] := by
  unfold ord
  cases z : (shw W n).isSome
  · simp [z]
  · simp [z]
theorem seenS_one (f : Nat) (W : Wd) (n x y : Int) : seenS (f + 1) W [n] x y = seen1 (f + 1) W n x y := by
  unfold seenS
  rw [ord_one]
  cases q : shw W n with
  | none =>
    unfold seen1
    rw [q]
    rfl
  | some k => simp
section
variable {P : Program} {w : World} {K : PySem.W.Frag} {mg : Str → Option Value} {base : Heap}
theorem ok_laid (T : Tx w K mg) (B : Tb base K mg) : Cal P w K mg base 10 "laid" (spLaid K) [] := by
  refine mk_laid T (fun vs H Q E h => ?_) (fun cdv A outer s H vs Q E hr h => ?_)
  · obtain ⟨a, CS, rfl, _⟩ := h
    rfl
  · obtain ⟨a, CS, rfl, hCS, hT, q⟩ := h
    have hwf : ∀ W ∈ wds CS, WfW W := fun W hW => by obtain ⟨e, he, rfl⟩ := List.mem_map.mp hW; exact hCS.wf e he
    have hwl : (wds CS).length = CS.length := by simp [wds]
    have hC5 := hCS.le
    refine ⟨_, (pss_cons (ps_set (i := 1) sc_laid.nd rfl (.inl rfl) (pe_lst pa_nil))
  (pss_cons (ps_for PassesOwn.never rfl (pi_enum (by rfl) (f_enumerate T) (pa_cons (pv 0) pa_nil)) (pg_tup (n := 2) rfl (pgs_cons (pg_name (i := 2) sc_laid.nd rfl (.inr rfl)) (pgs_cons (pg_name (i := 3) sc_laid.nd rfl (.inl rfl)) pgs_nil))) (pss_one (ps_for PassesOwn.never rfl (pi_list (pe_mt (ok_Client_parts (K := K) T) hr (by omega) (pv 3) (pa_cons pe_non pa_nil))) (pg_name (i := 4) sc_laid.nd rfl (.inl rfl)) (pss_one (ps_if (pt_cmpR o_notN (pe_fld (pe_dget (hu_of hr) (pe_fld (pv 3) rfl) (pv 4) (fun _ _ => rfl)) rfl) pe_non (nomark _)) (pss_one (ps_expr (pe_bm PySem.F.plainAttrs_list PySem.F.slot_list_append PySem.F.type_list_append mt_append (pv 1) (pa_cons (pe_tup (pa_cons (pe_fld (pe_fld (pe_dget (hu_of hr) (pe_fld (pv 3) rfl) (pv 4) (fun _ _ => rfl)) rfl) rfl) (pa_cons (pv 2) (pa_cons (pv 4) pa_nil)))) pa_nil)))) pss_nil)))))
  (pss_cons (ps_set (i := 5) sc_laid.nd rfl (.inl rfl) (pe_lst pa_nil))
  (pss_cons (ps_for PassesOwn.never rfl (pi_list (pe_callB (cr_sortT (d := 3) (B := 16) (by decide)) (by rfl) (f_sorted T) (by decide +kernel) (pa_cons (pv 1) pa_nil))) (pg_tup (n := 3) rfl (pgs_cons (pg_name (i := 6) sc_laid.nd rfl (.inl rfl)) (pgs_cons (pg_name (i := 2) sc_laid.nd rfl (.inr rfl)) (pgs_cons (pg_name (i := 4) sc_laid.nd rfl (.inl rfl)) pgs_nil)))) (pss_one (ps_expr (pe_bm PySem.F.plainAttrs_list PySem.F.slot_list_extend PySem.F.type_list_extend mt_extend (pv 5) (pa_cons (pe_lc (own := [("one", 7)]) rfl sc_laid.nd (pi_list (pe_c (ok_seen_under (K := K) T B) hr (by omega) rfl (pa_cons (pe_ix ix_list (pv 0) (pv 2) (fun _ _ => rfl)) (pa_cons (pe_lst (pa_cons (pv 4) pa_nil)) (pa_cons pe_int (pa_cons pe_int pa_nil)))))) (blkOk_by (N := N_laid) (sc := defScope s_laid) (by decide +kernel)) (fun _ _ _ _ _ => (pg_name (i := 7) sc_laid.nd rfl (.inl rfl))) (fun _ _ _ _ _ => pts_nil) (fun _ _ _ _ _ => (pe_op (catAK (K := K)) (pe_tup (pa_cons (pv 2) pa_nil)) (pv 7)))) pa_nil)))))
  (pss_one (ps_ret (pv 5))))))), ?_⟩
    rw [st_laid]
    wtm_at "go"
    intro p np
    have s1 := same_new (o := .lst []) np
    have hp1 : upd H p (.lst []) p = some (.lst []) := upd_same
    show gName _ _ _ (upd H p (.lst [])) _
    generalize upd H p (.lst []) = H1 at s1 hp1
    have C1 := hCS.same s1
    have ha1 := C1.at_
    wtm_at "go"
    refine eForE (xs := CS.map fun e => V.ref e.1.c) (fun i σ H' => ∃ y2 y3 y4 y5 y6 y7 xs, σ = [some (.ref a), some (.ref p), y2, y3, y4, y5, y6, y7] ∧ Fr [p] H1 H' ∧ H' p = some (.lst xs) ∧ Paired (TT3 H') xs (topsTo (wds CS) i)) ?_ ?_ ?_ ?_
    · exact ⟨_, _, _, _, _, _, [], rfl, Fr.refl, hp1, .nil⟩
    · rintro i σ H' _ ⟨_, _, _, _, _, _, _, _, f, _⟩
      exact SqL.of (f.at_ _ _ ha1 (by simpa using ne_of_none hCS.at_ np))
    · rintro i v σ H2 TT ex ⟨y2, y3, y4, y5, y6, y7, xs, rfl, f2, hp2, hxs⟩ nTT
      rw [List.getElem?_map] at ex
      obtain ⟨e, ee, rfl⟩ := Option.map_eq_some_iff.mp ex
      have hi : i < CS.length := (List.getElem?_eq_some_iff.mp ee).1
      have hm := List.mem_of_getElem? ee
      have eW := wds_get ee
      have s3 := same_new (o := .tup [.int (i : Nat), .ref e.1.c]) nTT
      have f3 : Fr [p] H1 (upd H2 TT (.tup [.int (i : Nat), .ref e.1.c])) := f2.trans (Fr.same s3)
      have hp3 := s3 _ _ hp2
      have hTT : upd H2 TT (.tup [.int (i : Nat), .ref e.1.c]) TT = some (.tup [.int (i : Nat), .ref e.1.c]) := upd_same
      have hxs3 := pMap hxs fun _ _ z => TT3.fr z (Fr.same (S := []) s3)
      generalize upd H2 TT (.tup [.int (i : Nat), .ref e.1.c]) = H3 at f3 hp3 hTT hxs3
      have C3 := hCS.off hT C1 f3 fun x hx => by rw [List.mem_singleton.mp hx]; exact .inr np
      have hE := C3.each e hm
      obtain ⟨⟨_, eC3⟩, hP3, _⟩ := id hE
      wtm_at "go"
      refine ⟨e.1, none, e.2, rfl, hE, fun H4 u s4 nu hu => ?_⟩
      have pu : p ≠ u := ne_of_none hp3 nu
      have hpl : ((pwd e.2).parts none).length ≤ 10 := Nat.le_trans (parts_le _ _) (hCS.wf e hm).le
      have htl := tops_le hwf i (by rw [hwl]; omega)
      wtm_at "go"
      refine eForL (xs := ((pwd e.2).parts none).map V.int) (fun j σ H' => ∃ y4 xs, σ = [some (.ref a), some (.ref p), some (.int (i : Nat)), some (.ref e.1.c), y4, y5, y6, y7] ∧ Fr [p] H4 H' ∧ H' p = some (.lst xs) ∧ Paired (TT3 H') xs (topsTo (wds CS) i ++ topsAt (pwd e.2) i (((pwd e.2).parts none).take j))) ?_ ?_ ?_ ?_
      · exact ⟨_, xs, rfl, Fr.refl, s4 _ _ hp3, by rw [List.take_zero]; show Paired _ _ (_ ++ []); rw [List.append_nil]; exact pMap hxs3 fun _ _ z => TT3.fr z (Fr.same (S := []) s4)⟩
      · rintro j σ H' _ ⟨_, _, _, f, _⟩
        exact SqL.of (f.at_ _ _ hu (by simpa using Ne.symm pu))
      · rintro j v σ H5 ex2 ⟨y4, xs5, rfl, f5, hp5, hxs5⟩
        rw [List.getElem?_map] at ex2
        obtain ⟨n, en, rfl⟩ := Option.map_eq_some_iff.mp ex2
        obtain ⟨sn, gn, _⟩ := mem_parts.mp (List.mem_of_getElem? en)
        have C5 := hCS.off hT (C3.same s4) f5 fun x hx => by rw [List.mem_singleton.mp hx]; exact .inr np
        have hE5 := C5.each e hm
        obtain ⟨⟨_, eC5⟩, hP5, _⟩ := id hE5
        obtain ⟨M, mM, evM, ⟨dM, eM⟩, pM, rM, sM, nM⟩ := hP5.get gn
        have hj : j < ((pwd e.2).parts none).length := (List.getElem?_eq_some_iff.mp en).1
        have htk := take_succ en
        wtm_at "go"
        refine iDGI hP5.at_ evM ?_
        wtm_at "go"
        refine iNoLP sM ?_
        wtm_at "go"
        cases es : sn.shown with
        | none =>
          wtm_at "go"
          refine ⟨_, xs5, rfl, f5, hp5, ?_⟩
          rw [htk]
          unfold topsAt
          rw [List.filter_append, List.map_append]
          simp only [topsAt] at hxs5
          simp [shw_get gn, es]
          exact hxs5
        | some k =>
          rw [es] at sM
          obtain ⟨N, eN, ⟨⟨dN, eNN⟩, _⟩⟩ := sM.get
          rw [eN] at eM
          have eM : H5 M.a = some (.ins (He.ga K "Surface") dM (surfF (.ref M.p.a) (oA M.r) (.ref N.a) (oI sn.top))) := eM
          have erk : rkOf (pwd e.2) n = k.rank := by unfold rkOf; rw [shw_get gn, es]
          wtm_at "go"
          refine iDGI hP5.at_ evM ?_
          wtm_at "go"
          intro t nt
          have hp6 := same_new (o := .tup [.int k.rank, .int (i : Nat), .int n]) nt _ _ hp5
          wtm_at "go"
          refine gAppend ⟨_, hp6, ?_, ?_⟩
          · rw [pLen hxs5, List.length_append]
            have : (topsAt (pwd e.2) i (((pwd e.2).parts none).take j)).length ≤ 10 := by
              unfold topsAt
              rw [List.length_map]
              exact Nat.le_trans (List.length_filter_le _ _) (by rw [List.length_take]; omega)
            exact Nat.lt_of_le_of_lt (show _ ≤ 60 by omega) (by decide)
          have f7 : Fr [p] (upd H5 t (.tup [.int k.rank, .int (i : Nat), .int n])) (upd (upd H5 t (.tup [.int k.rank, .int (i : Nat), .int n])) p (.lst (xs5 ++ [.ref t]))) := Fr.set hp6 rfl (by simp)
          refine ⟨_, xs5 ++ [.ref t], rfl, (f5.trans (Fr.new nt)).trans f7, upd_same, ?_⟩
          rw [htk]
          have : topsAt (pwd e.2) i (((pwd e.2).parts none).take j ++ [n]) = topsAt (pwd e.2) i (((pwd e.2).parts none).take j) ++ [(k.rank, (i : Int), n)] := by
            unfold topsAt
            rw [List.filter_append, List.map_append]
            simp [shw_get gn, es, erk]
          rw [this, ← List.append_assoc]
          exact pSnoc (pMap hxs5 fun _ _ z => (TT3.fr z (Fr.new (S := []) nt)).fr f7) ⟨t, rfl, f7.tu _ _ upd_same⟩
      · rintro σ H5 ⟨y4, xs5, rfl, f5, hp5, hxs5⟩
        rw [List.length_map, List.take_of_length_le (Nat.le_refl _), ← eW, ← topsTo_succ] at hxs5
        wtm_at "go"
        exact ⟨_, _, _, _, _, _, xs5, rfl, (f3.trans (Fr.same s4)).trans f5, hp5, hxs5⟩
    · rintro σ H2 ⟨y2, y3, y4, y5, y6, y7, xs, rfl, f2, hp2, hxs⟩
      rw [List.length_map, ← hwl] at hxs
      have s2 : Same H H2 := U.Same.step s1 f2 fun x hx => by rw [List.mem_singleton.mp hx]; exact np
      have C2 := hCS.same s2
      have hT2 := tabs_same hT s2
      wtm_at "go"
      intro z nz
      have s3 := s2.trans (same_new (o := .lst []) nz)
      have nzH : H z = none := Same.free s2 nz
      have hz3 : upd H2 z (.lst []) z = some (.lst []) := upd_same
      have hp3 := same_new (o := .lst []) nz _ _ hp2
      have hxs3 := pMap hxs fun _ _ y => TT3.fr y (Fr.new (S := []) (o := .lst []) nz)
      show gName _ _ _ (upd H2 z (.lst [])) _
      generalize upd H2 z (.lst []) = H3 at s3 hz3 hp3 hxs3
      wtm_at "go"
      refine iSort3 hp3 hxs3 ?_ (fun t ht => (tops_ok hwf (by rw [hwl]; exact hC5) _ (Nat.le_refl _) t ht).b) fun ys u hys nu => ?_
      · have := tops_le hwf _ (Nat.le_refl _)
        omega
      have zu : z ≠ u := ne_of_none hz3 nu
      have s4 := s3.trans (same_new (o := .lst ys) nu)
      have nuH : H u = none := Same.free s3 nu
      have hz4 := same_new (o := .lst ys) nu _ _ hz3
      have hu4 : upd H3 u (.lst ys) u = some (.lst ys) := upd_same
      have hys4 := pMap hys fun _ _ y => TT3.fr y (Fr.new (S := []) (o := .lst ys) nu)
      show WL _ _ (.ref u) (upd H3 u (.lst ys))
      generalize upd H3 u (.lst ys) = H4 at s4 hz4 hu4 hys4
      have hT4 := tabs_same hT s4
      have C4 := hCS.same s4
      have hso : ∀ t ∈ sort3 (topsTo (wds CS) (wds CS).length), TopOk (wds CS) t := fun t ht => tops_ok hwf (by rw [hwl]; exact hC5) _ (Nat.le_refl _) t ((sort3_perm _).mem_iff.mp ht)
      have hsl : (sort3 (topsTo (wds CS) (wds CS).length)).length ≤ 50 := by
        rw [(sort3_perm _).length_eq]
        have := tops_le hwf _ (Nat.le_refl _)
        omega
      wtm_at "go"
      refine eForL (xs := ys) (fun j σ H' => ∃ y2 y3 y4 y6 y7 rs, σ = [some (.ref a), some (.ref p), y2, y3, y4, some (.ref z), y6, y7] ∧ Fr [PT K, z] H4 H' ∧ LamX.Tabs (Ts K) H' ∧ H' z = some (.lst rs) ∧ Paired (T4 K H') rs (((sort3 (topsTo (wds CS) (wds CS).length)).take j).flatMap (seenK (wds CS)))) ?_ ?_ ?_ ?_
      · exact ⟨_, _, _, _, _, [], rfl, Fr.refl, hT4, hz4, .nil⟩
      · rintro j σ H' _ ⟨_, _, _, _, _, _, _, f, _⟩
        refine SqL.of (f.at_ _ _ hu4 ?_)
        simp only [List.mem_cons, List.not_mem_nil, or_false, not_or]
        exact ⟨pt_ne hT4 hu4 rfl, Ne.symm zu⟩
      · rintro j v σ H5 ex ⟨y2, y3, y4, y6, y7, rs, rfl, f5, hT5, hz5, hrs⟩
        obtain ⟨t, et, b, rfl, hb⟩ := pGetL hys4 ex
        have hb5 := f5.tu _ _ hb
        obtain ⟨k0, k1, ⟨sn, gn, etop⟩, hbd⟩ := hso t (List.mem_of_getElem? et)
        rw [hwl] at k1
        have ee := List.getElem?_eq_getElem k1
        generalize CS[t.2.1.toNat] = e at ee
        have hm := List.mem_of_getElem? ee
        have eW := wds_get ee
        rw [eW] at gn
        have C5 := hCS.off hT C4 f5 fun x hx => by
          simp only [List.mem_cons, List.not_mem_nil, or_false] at hx
          rcases hx with y | y
          · exact .inl y
          · rw [y]; exact .inr nzH
        have hE := C5.each e hm
        have hj : j < (sort3 (topsTo (wds CS) (wds CS).length)).length := (List.getElem?_eq_some_iff.mp et).1
        have hWf := hCS.wf e hm
        have hrl : rs.length ≤ 50 * 1111 := by
          rw [pLen hrs]
          have a1 := flat_le (seenK (wds CS)) 1111 ((sort3 (topsTo (wds CS) (wds CS).length)).take j) fun t ht => by
            unfold seenK
            rw [List.length_map]
            obtain ⟨k0, k1, _⟩ := hso t (List.mem_of_mem_take ht)
            have eW := List.getElem_mem k1
            refine Nat.le_trans (seen1_le 3 _ _ _ _ ?_) (by decide)
            rw [List.getD_eq_getElem?_getD, List.getElem?_eq_getElem k1]
            exact (hwf _ eW).le
          exact Nat.le_trans a1 (Nat.mul_le_mul_right _ (by rw [List.length_take]; omega))
        have htk := take_succ et
        wtm_at "go"
        refine iIxL (SqL.of C5.at_) (at_of (j := t.2.1.toNat) (by omega) (by rw [List.getElem?_map, ee]; rfl)) ?_
        wtm_at "go"
        intro o no
        have s6 := same_new (o := .lst [.int t.2.2]) no
        wtm_at "go"
        refine ⟨3, e.1, e.2, o, [t.2.2], 0, 0, rfl, rfl, hE.same s6, upd_same, by simp, fun n hn => by rw [List.mem_singleton.mp hn]; exact get_name gn, fun n hn => by rw [List.mem_singleton.mp hn]; exact hWf.ht _, tabs_same hT5 s6, fun H7 r ss f7 hT7 nr hr7 hss => ?_⟩
        have f57 : Fr [PT K, z] H4 H7 := (f5.trans (Fr.same s6)).trans (f7.mono (by simp))
        have hz7 := f7.at_ _ _ (s6 _ _ hz5) (by simpa using pt_ne hT5 hz5 rfl)
        have hb7 := f7.tu _ _ (s6 _ _ hb5)
        have hrs7 := pMap hrs fun _ _ y => (T4.fr y (Fr.same (S := []) s6)).fr f7
        have ess : seenS 3 (pwd e.2) [t.2.2] 0 0 = seen1 3 (pwd e.2) t.2.2 0 0 := by
          exact seenS_one ..
        rw [ess] at hss
        have hsl1 : ss.length ≤ 1111 := by rw [pLen hss]; exact Nat.le_trans (seen1_le 3 _ _ _ _ hWf.le) (by decide)
        wtm_at "go"
        intro D nD
        have zD : z ≠ D := ne_of_none hz7 nD
        have rD : r ≠ D := ne_of_none hr7 nD
        refine eLcL (xs := ss) (fun i H' => ∃ us, Fr [D] H7 H' ∧ H' D = some (.lst us) ∧ Paired (T4 K H') us (((seen1 3 (pwd e.2) t.2.2 0 0).take i).map fun s => (t.2.1, s))) ?_ ?_ ?_ ?_
        · exact ⟨[], Fr.new nD, upd_same, .nil⟩
        · exact fun i H' _ ⟨us, f, _⟩ => SqL.of (f.at_ _ _ hr7 (by simpa using rD))
        · rintro i v H8 ex2 ⟨us, f8, hD8, hus⟩
          obtain ⟨g, eg, c, rfl, hc⟩ := pGetL hss ex2
          have hc8 := f8.sqT hc
          have hi : i < ss.length := (List.getElem?_eq_some_iff.mp ex2).1
          wtm_at "go"
          intro m nm
          have s9 := same_new (o := .tup [.int t.2.1]) nm
          wtm_at "go"
          refine iCatA (SqT.of upd_same) (sqT_same s9 hc8) (by simp [sizeLine_eq]) fun c2 HA sA hcA => ?_
          have s8A := s9.trans sA
          refine ⟨_, s8A _ _ hD8, ?_, us ++ [.ref c2], ?_, upd_same, ?_⟩
          · rw [pLen hus, List.length_map, List.length_take]
            exact Nat.lt_of_le_of_lt (show _ ≤ 1111 by omega) (by decide)
          · exact (f8.trans (Fr.same s8A)).trans (Fr.set (s8A _ _ hD8) rfl (by simp))
          · rw [take_succ eg, List.map_append]
            have fz : Fr [D] HA (upd HA D (.lst (us ++ [.ref c2]))) := Fr.set (s8A _ _ hD8) rfl (by simp)
            exact pSnoc (pMap hus fun _ _ y => (T4.fr y (Fr.same (S := []) s8A)).fr fz) ⟨c2, rfl, fz.sqT hcA⟩
        · rintro H8 ⟨us, f8, hD8, hus⟩
          rw [pLen hss, List.take_of_length_le (Nat.le_refl _)] at hus
          have hz8 := f8.at_ _ _ hz7 (by simpa using zD)
          wtm_at "go"
          refine iExtend hz8 hD8 ?_ ?_
          · rw [pLen hus, List.length_map]
            have := pLen hss
            exact Nat.le_trans (show _ ≤ 60000 by omega) (by decide)
          have f9 : Fr [z] H8 (upd H8 z (.lst (rs ++ us))) := Fr.set hz8 rfl (by simp)
          have hT8 := tabs_fr hT7 f8 fun x hx o e => by rw [List.mem_singleton.mp hx, nD] at e; cases e
          wtm_at "go"
          refine ⟨_, _, _, _, _, rs ++ us, rfl, ⟨fun b o e n => ?_, fun b xs e => ?_, fun b o v e => ?_, fun b e => ?_⟩, tabs_fr hT8 f9 (fun x hx o e => by rw [List.mem_singleton.mp hx, hz8] at e; obtain rfl := Option.some.inj e; rfl), upd_same, ?_⟩
          · simp only [List.mem_cons, List.not_mem_nil, or_false, not_or] at n
            have e7 := f57.at_ _ _ e (by simpa using n)
            exact f9.at_ _ _ (f8.at_ _ _ e7 (by simpa using ne_of_none e7 nD)) (by simpa using n.2)
          · exact f9.tu _ _ (f8.tu _ _ (f57.tu _ _ e))
          · exact f9.fz _ _ _ (f8.fz _ _ _ (f57.fz _ _ _ e))
          · exact f57.dm _ (f8.dm _ (f9.dm _ e))
          · rw [htk, List.flatMap_append, List.flatMap_singleton]
            have : seenK (wds CS) t = (seen1 3 (pwd e.2) t.2.2 0 0).map fun s => (t.2.1, s) := by unfold seenK; rw [eW]
            rw [this]
            exact paired_app (pMap hrs7 fun _ _ y => (T4.fr y f8).fr f9) (pMap hus fun _ _ y => T4.fr y f9)
      · rintro σ H5 ⟨y2, y3, y4, y6, y7, rs, rfl, f5, hT5, hz5, hrs⟩
        rw [pLen hys4, List.take_of_length_le (Nat.le_refl _)] at hrs
        wtm_at "go"
        refine q H5 z rs ⟨fun b o e n => ?_, fun b xs e => ?_, fun b o v e => ?_, fun b e => ?_⟩ hT5 nzH hz5 hrs
        · refine f5.at_ _ _ (s4 _ _ e) ?_
          simp only [List.mem_cons, List.not_mem_nil, or_false, not_or]
          exact ⟨by simpa using n, ne_of_none e nzH⟩
        · exact f5.tu _ _ (s4 _ _ e)
        · exact f5.fz _ _ _ (s4 _ _ e)
        · exact Same.free s4 (f5.dm _ e)
end

/-! ### a screen: plain -/
abbrev Cell := Option (Int × Int × Int)
abbrev LRow := Int × Int × Int × Int
def mkc : Cell → Int
  | none => 0
  | some t => t.1
def ownc : Cell → Option (Int × Int)
  | none => none
  | some t => some (t.2.1, t.2.2)
def marksOf (Ws : List Wd) (k n : Int) : List (List Int) := match shw (Ws.getD k.toNat []) n with
  | some l => l.marks
  | none => []
def markAt (M : List (List Int)) (l t x y : Int) : Int := if 0 ≤ y - t ∧ 0 ≤ x - l then (M.getD (y - t).toNat []).getD (x - l).toNat 0 else 0
def stepM (M : List (List Int)) (r : LRow) (x y : Int) (acc : Cell) : Cell := if markAt M r.2.2.1 r.2.2.2 x y ≠ 0 then some (markAt M r.2.2.1 r.2.2.2 x y, r.1, r.2.1) else acc
def stepC (Ws : List Wd) (x y : Int) (acc : Cell) (r : LRow) : Cell := stepM (marksOf Ws r.1 r.2.1) r x y acc
def cellOf (Ws : List Wd) (rows : List LRow) (x y : Int) : Cell := rows.foldl (stepC Ws x y) none
/-- a row half painted -/
def gg (M : List (List Int)) (rw_ : LRow) (g : Int → Int → Cell) (d r : Int) (x y : Int) : Cell := if y - rw_.2.2.2 < d ∨ (y - rw_.2.2.2 = d ∧ x - rw_.2.2.1 < r) then stepM M rw_ x y (g x y) else g x y
theorem markAt_out {M : List (List Int)} {l t x y : Int} (h : ¬ (0 ≤ y - t ∧ 0 ≤ x - l) ∨ (M.length : Int) ≤ y - t ∨ (0 ≤ y - t ∧ ((M.getD (y - t).toNat []).length : Int) ≤ x - l)) : markAt M l t x y = 0 := by
  unfold markAt
  by_cases z : 0 ≤ y - t ∧ 0 ≤ x - l
  · rw [if_pos z]
    rcases h with h | h | h
    · exact absurd z h
    · have : M.getD (y - t).toNat [] = [] := by rw [List.getD_eq_getElem?_getD, List.getElem?_eq_none (by omega)]; rfl
      rw [this]
      rfl
    · rw [List.getD_eq_getElem?_getD, List.getElem?_eq_none (by omega)]; rfl
  · rw [if_neg z]
theorem stepM_out {M : List (List Int)} {r : LRow} {x y : Int} {acc : Cell} (h : markAt M r.2.2.1 r.2.2.2 x y = 0) : stepM M r x y acc = acc := by unfold stepM; rw [h]; simp
theorem gg_zero {M : List (List Int)} {r : LRow} {g : Int → Int → Cell} {x y : Int} : gg M r g 0 0 x y = g x y := by
  unfold gg
  split
  · exact stepM_out (markAt_out (.inl (by omega)))
  · rfl
theorem gg_end {M : List (List Int)} {r : LRow} {g : Int → Int → Cell} {x y : Int} : gg M r g (M.length : Int) 0 x y = stepM M r x y (g x y) := by
  unfold gg
  split
  · rfl
  · exact (stepM_out (markAt_out (.inr (.inl (by omega))))).symm
theorem gg_row {M : List (List Int)} {r : LRow} {g : Int → Int → Cell} {d : Nat} {x y : Int} : gg M r g (d : Int) ((M.getD d []).length : Int) x y = gg M r g ((d : Int) + 1) 0 x y := by
  unfold gg
  by_cases h1 : y - r.2.2.2 < (d : Int)
  · rw [if_pos (.inl h1), if_pos (.inl (by omega))]
  · by_cases h2 : y - r.2.2.2 = (d : Int)
    · rw [if_pos (show y - r.2.2.2 < (d : Int) + 1 ∨ _ from .inl (by omega))]
      by_cases h3 : x - r.2.2.1 < ((M.getD d []).length : Int)
      · rw [if_pos (.inr ⟨h2, h3⟩)]
      · rw [if_neg (by omega)]
        refine (stepM_out (markAt_out (.inr (.inr ⟨by omega, ?_⟩)))).symm
        rw [show (y - r.2.2.2).toNat = d by omega]
        omega
    · rw [if_neg (by omega)]
      split
      · exact (stepM_out (markAt_out (.inl (by omega)))).symm
      · rfl
theorem gg_step {M : List (List Int)} {r : LRow} {g : Int → Int → Cell} {d e : Nat} {x y : Int} : gg M r g (d : Int) ((e : Int) + 1) x y = if x = r.2.2.1 + e ∧ y = r.2.2.2 + d then stepM M r x y (g x y) else gg M r g (d : Int) (e : Int) x y := by
  unfold gg
  by_cases h : x = r.2.2.1 + e ∧ y = r.2.2.2 + d
  · rw [if_pos h, if_pos (.inr ⟨by omega, by omega⟩)]
  · rw [if_neg h]
    by_cases h2 : y - r.2.2.2 < (d : Int) ∨ (y - r.2.2.2 = (d : Int) ∧ x - r.2.2.1 < (e : Int))
    · rw [if_pos h2, if_pos (by omega)]
    · rw [if_neg h2, if_neg (by omega)]
theorem gg_at {M : List (List Int)} {r : LRow} {g : Int → Int → Cell} {d e : Nat} : gg M r g (d : Int) (e : Int) (r.2.2.1 + e) (r.2.2.2 + d) = g (r.2.2.1 + e) (r.2.2.2 + d) := by
  unfold gg
  rw [if_neg (by omega)]
theorem stepM_at {M : List (List Int)} {r : LRow} {acc : Cell} {d e : Nat} : stepM M r (r.2.2.1 + e) (r.2.2.2 + d) acc = if (M.getD d []).getD e 0 ≠ 0 then some ((M.getD d []).getD e 0, r.1, r.2.1) else acc := by
  unfold stepM
  have : markAt M r.2.2.1 r.2.2.2 (r.2.2.1 + e) (r.2.2.2 + d) = (M.getD d []).getD e 0 := by
    unfold markAt
    rw [if_pos (by omega), show (r.2.2.2 + (d : Int) - r.2.2.2).toNat = d by omega, show (r.2.2.1 + (e : Int) - r.2.2.1).toNat = e by omega]
  rw [this]
/-! grids in the heap -/
structure GM (H : Hp) (a : Addr) (rs : List Addr) (w h : Nat) (g : Int → Int → Cell) : Prop where
  at_ : H a = some (.lst (rs.map V.ref))
  len : rs.length = h
  row : ∀ (y : Nat) r, rs[y]? = some r → H r = some (.lst ((List.range w).map fun (x : Nat) => V.int (mkc (g x y))))
  nd : (a :: rs).Nodup
def OwV (K : PySem.W.Frag) (H : Hp) (v : V) : Option (Int × Int) → Prop
  | none => v = .non
  | some p => ∃ t, v = .ref t ∧ SqT K H t [.int p.1, .int p.2]
theorem OwV.fr {K : PySem.W.Frag} {H H' : Hp} {S : List Addr} {v : V} : ∀ {o : Option (Int × Int)}, OwV K H v o → Fr S H H' → OwV K H' v o
  | none, h, _ => h
  | some _, h, f => let ⟨t, e, q⟩ := h; ⟨t, e, f.sqT q⟩
structure GO (K : PySem.W.Frag) (H : Hp) (a : Addr) (rs : List Addr) (w h : Nat) (g : Int → Int → Cell) : Prop where
  at_ : H a = some (.lst (rs.map V.ref))
  len : rs.length = h
  row : ∀ (y : Nat) r, rs[y]? = some r → ∃ vs, H r = some (.lst vs) ∧ vs.length = w ∧ ∀ (x : Nat) v, vs[x]? = some v → OwV K H v (ownc (g x y))
  nd : (a :: rs).Nodup
section
variable {K : PySem.W.Frag} {H H' : Hp} {a : Addr} {rs : List Addr} {w h : Nat} {g g' : Int → Int → Cell} {S : List Addr}
theorem GM.congr (x : GM H a rs w h g) (e : ∀ x y : Nat, x < w → y < h → g x y = g' x y) : GM H a rs w h g' := by
  refine ⟨x.at_, x.len, fun y r hr => ?_, x.nd⟩
  rw [x.row y r hr]
  congr 2
  refine List.map_congr_left fun z hz => ?_
  rw [e z y (List.mem_range.mp hz) (by rw [← x.len]; exact (List.getElem?_eq_some_iff.mp hr).1)]
theorem GO.congr (x : GO K H a rs w h g) (e : ∀ x y : Nat, x < w → y < h → g x y = g' x y) : GO K H a rs w h g' := by
  refine ⟨x.at_, x.len, fun y r hr => ?_, x.nd⟩
  obtain ⟨vs, h1, h2, h3⟩ := x.row y r hr
  refine ⟨vs, h1, h2, fun z v hv => ?_⟩
  rw [← e z y (by rw [← h2]; exact (List.getElem?_eq_some_iff.mp hv).1) (by rw [← x.len]; exact (List.getElem?_eq_some_iff.mp hr).1)]
  exact h3 z v hv
theorem GM.fr (x : GM H a rs w h g) (f : Fr S H H') (n : ∀ z ∈ a :: rs, z ∉ S) : GM H' a rs w h g :=
  ⟨f.at_ _ _ x.at_ (n a (List.mem_cons_self ..)), x.len, fun y r hr => f.at_ _ _ (x.row y r hr) (n r (List.mem_cons_of_mem _ (List.mem_of_getElem? hr))), x.nd⟩
theorem GO.fr (x : GO K H a rs w h g) (f : Fr S H H') (n : ∀ z ∈ a :: rs, z ∉ S) : GO K H' a rs w h g :=
  ⟨f.at_ _ _ x.at_ (n a (List.mem_cons_self ..)), x.len, fun y r hr => let ⟨vs, h1, h2, h3⟩ := x.row y r hr; ⟨vs, f.at_ _ _ h1 (n r (List.mem_cons_of_mem _ (List.mem_of_getElem? hr))), h2, fun z v hv => (h3 z v hv).fr f⟩, x.nd⟩
theorem GM.live (x : GM H a rs w h g) : ∀ z ∈ a :: rs, ∃ o, H z = some o ∧ isDat o = true := fun z hz => by
  rcases List.mem_cons.mp hz with q | q
  · rw [q]; exact ⟨_, x.at_, rfl⟩
  · obtain ⟨i, hi⟩ := List.mem_iff_getElem?.mp q
    exact ⟨_, x.row i z hi, rfl⟩
theorem GO.live (x : GO K H a rs w h g) : ∀ z ∈ a :: rs, ∃ o, H z = some o ∧ isDat o = true := fun z hz => by
  rcases List.mem_cons.mp hz with q | q
  · rw [q]; exact ⟨_, x.at_, rfl⟩
  · obtain ⟨i, hi⟩ := List.mem_iff_getElem?.mp q
    obtain ⟨vs, h1, _⟩ := x.row i z hi
    exact ⟨_, h1, rfl⟩
/-- one cell set -/
theorem GM.set (x : GM H a rs w h g) {x0 y0 : Nat} {r : Addr} {c : Cell} (hr : rs[y0]? = some r) (hx : x0 < w) : GM (upd H r (.lst (((List.range w).map fun (x : Nat) => V.int (mkc (g x y0))).set x0 (.int (mkc c))))) a rs w h (fun x y => if x = x0 ∧ y = y0 then c else g x y) := by
  obtain ⟨n1, n2⟩ := List.nodup_cons.mp x.nd
  have hm := List.mem_of_getElem? hr
  refine ⟨(upd_ne fun z => n1 (by rw [z]; exact hm)).trans x.at_, x.len, fun y q hq => ?_, x.nd⟩
  by_cases e : y = y0
  · subst e
    rw [hr] at hq
    obtain rfl := Option.some.inj hq
    rw [upd_same]
    congr 2
    refine List.ext_getElem? fun i => ?_
    rw [List.getElem?_set, List.getElem?_map, List.getElem?_map]
    by_cases hi : i < w
    · rw [List.getElem?_range hi]
      by_cases z : x0 = i
      · subst z
        simp [hx]
      · have : ¬ ((i : Int) = (x0 : Int)) := by omega
        simp [z, this]
    · rw [List.getElem?_eq_none (by simp; omega), if_neg (by omega)]
      rfl
  · rw [upd_ne fun z => e (by
      have h1 := (List.getElem?_eq_some_iff.mp hq)
      have h2 := (List.getElem?_eq_some_iff.mp hr)
      exact (List.getElem_inj n2 (h₀ := h1.1) (h₁ := h2.1)).mp (by rw [h1.2, h2.2, z])), x.row y q hq]
    congr 2
    refine List.map_congr_left fun i _ => ?_
    have : ¬ ((i : Int) = (x0 : Int) ∧ (y : Int) = (y0 : Int)) := by omega
    rw [if_neg this]
theorem GO.set (x : GO K H a rs w h g) {x0 y0 : Nat} {r : Addr} {c : Cell} {vs : List V} {v : V} (hr : rs[y0]? = some r) (hv : H r = some (.lst vs)) (ho : OwV K H v (ownc c)) : GO K (upd H r (.lst (vs.set x0 v))) a rs w h (fun x y => if x = x0 ∧ y = y0 then c else g x y) := by
  obtain ⟨n1, n2⟩ := List.nodup_cons.mp x.nd
  have hm := List.mem_of_getElem? hr
  have f : Fr [r] H (upd H r (.lst (vs.set x0 v))) := Fr.set hv rfl (by simp)
  refine ⟨(upd_ne fun z => n1 (by rw [z]; exact hm)).trans x.at_, x.len, fun y q hq => ?_, x.nd⟩
  obtain ⟨us, h1, h2, h3⟩ := x.row y q hq
  by_cases e : y = y0
  · subst e
    rw [hr] at hq
    obtain rfl := Option.some.inj hq
    rw [hv] at h1
    obtain rfl := HO.lst.inj (Option.some.inj h1)
    refine ⟨_, upd_same, by rw [List.length_set]; exact h2, fun i u hu => ?_⟩
    rw [List.getElem?_set] at hu
    by_cases z : x0 = i
    · subst z
      rw [if_pos rfl] at hu
      split at hu
      · obtain rfl := Option.some.inj hu
        rw [if_pos ⟨rfl, rfl⟩]
        exact ho.fr f
      · cases hu
    · rw [if_neg z] at hu
      have : ¬ ((i : Int) = (x0 : Int) ∧ (y : Int) = (y : Int)) := by omega
      rw [if_neg this]
      exact (h3 i u hu).fr f
  · have hqr : q ≠ r := fun z => e (by
      have h1 := (List.getElem?_eq_some_iff.mp hq)
      have h2 := (List.getElem?_eq_some_iff.mp hr)
      exact (List.getElem_inj n2 (h₀ := h1.1) (h₁ := h2.1)).mp (by rw [h1.2, h2.2, z]))
    refine ⟨us, (upd_ne hqr).trans h1, h2, fun i u hu => ?_⟩
    have : ¬ ((i : Int) = (x0 : Int) ∧ (y : Int) = (y0 : Int)) := by omega
    rw [if_neg this]
    exact (h3 i u hu).fr f
end
structure RowOk (Ws : List Wd) (t : LRow) : Prop where
  k0 : 0 ≤ t.1
  k1 : t.1.toNat < Ws.length
  s : (shw (Ws.getD t.1.toNat []) t.2.1).isSome = true
theorem seen1_shw : ∀ (f : Nat) (W : Wd) (n x y : Int), ∀ t ∈ seen1 f W n x y, (shw W t.1).isSome = true
  | 0, _, _, _, _, _, h => by cases h
  | f + 1, W, n, x, y, t, h => by
    unfold seen1 at h
    cases q : shw W n with
    | none => rw [q] at h; cases h
    | some k =>
      rw [q] at h
      have h : t ∈ (if k.veiled = true then [] else (n, x + k.x, y + k.y) :: (ord W (W.parts (some n))).flatMap fun p => seen1 f W p (x + k.x) (y + k.y)) := h
      split at h
      · cases h
      · rcases List.mem_cons.mp h with z | z
        · rw [z]; show (shw W n).isSome = true; rw [q]; rfl
        · obtain ⟨p, _, hp⟩ := List.mem_flatMap.mp z
          exact seen1_shw f W p _ _ t hp
theorem laid_ok {Ws : List Wd} (h : ∀ W ∈ Ws, WfW W) (hl : Ws.length ≤ 5) : ∀ t ∈ laidOf Ws, RowOk Ws t := fun t ht => by
  obtain ⟨u, hu, hsk⟩ := List.mem_flatMap.mp ht
  obtain ⟨k0, k1, _, _⟩ := tops_ok h hl _ (Nat.le_refl _) u ((sort3_perm _).mem_iff.mp hu)
  obtain ⟨s, hs, rfl⟩ := List.mem_map.mp hsk
  exact ⟨k0, k1, seen1_shw _ _ _ _ _ s hs⟩
theorem laid_le {Ws : List Wd} (h : ∀ W ∈ Ws, WfW W) (hl : Ws.length ≤ 5) : (laidOf Ws).length ≤ 50 * 1111 := by
  have a1 := flat_le (seenK Ws) 1111 (sort3 (topsTo Ws Ws.length)) fun t ht => by
    unfold seenK
    rw [List.length_map]
    obtain ⟨k0, k1, _⟩ := tops_ok h hl _ (Nat.le_refl _) t ((sort3_perm _).mem_iff.mp ht)
    refine Nat.le_trans (seen1_le 3 _ _ _ _ ?_) (by decide)
    rw [List.getD_eq_getElem?_getD, List.getElem?_eq_getElem k1]
    exact (h _ (List.getElem_mem k1)).le
  refine Nat.le_trans a1 (Nat.mul_le_mul_right _ ?_)
  rw [(sort3_perm _).length_eq]
  have := tops_le h _ (Nat.le_refl _)
  omega

/-! ### painted -/
structure Gr (K : PySem.W.Frag) (H0 H : Hp) (pm po : Addr) (ms os : List Addr) (w h : Nat) (g : Int → Int → Cell) : Prop where
  m : GM H pm ms w h g
  o : GO K H po os w h g
  f : Fr (pm :: ms ++ po :: os) H0 H
section
variable {K : PySem.W.Frag} {H0 H H' : Hp} {pm po : Addr} {ms os : List Addr} {w h : Nat} {g g' : Int → Int → Cell}
theorem Gr.congr (x : Gr K H0 H pm po ms os w h g) (e : ∀ x y : Nat, x < w → y < h → g x y = g' x y) : Gr K H0 H pm po ms os w h g' := ⟨x.m.congr e, x.o.congr e, x.f⟩
theorem Gr.same (x : Gr K H0 H pm po ms os w h g) (s : Same H H') : Gr K H0 H' pm po ms os w h g := ⟨x.m.fr (Fr.same (S := []) s) fun _ _ => List.not_mem_nil, x.o.fr (Fr.same (S := []) s) fun _ _ => List.not_mem_nil, x.f.trans (Fr.same s)⟩
theorem nr_gm {D : Addr} {rs : List Addr} (N : NR (fun _ : Unit => HO.lst (List.replicate w (V.int 0))) H0 H D rs (List.replicate h ())) : GM H D rs w h fun _ _ => none := by
  refine ⟨N.at_, by rw [N.len, List.length_replicate], fun y r hr => ?_, N.nd⟩
  obtain ⟨b, _, e⟩ := pGetL N.rows hr
  rw [e]
  congr 2
  rw [List.map_const', List.length_range]
  rfl
theorem nr_go {D : Addr} {rs : List Addr} (N : NR (fun _ : Unit => HO.lst (List.replicate w V.non)) H0 H D rs (List.replicate h ())) : GO K H D rs w h fun _ _ => none := by
  refine ⟨N.at_, by rw [N.len, List.length_replicate], fun y r hr => ?_, N.nd⟩
  obtain ⟨b, _, e⟩ := pGetL N.rows hr
  refine ⟨_, e, List.length_replicate, fun x v hv => ?_⟩
  obtain ⟨_, z⟩ := List.getElem?_eq_some_iff.mp hv
  rw [List.getElem_replicate] at z
  exact z.symm
end
def spPainted (K : PySem.W.Frag) : Sp := fun vs H Q _ => ∃ (w h : Nat) (a b : Addr) (CS : List (CAd × PL)) (rs : List V) (rows : List LRow), vs = [.int w, .int h, .ref a, .ref b] ∧ (1 ≤ w ∧ w ≤ 12 ∧ h ≤ 8) ∧ CsAt K H a CS ∧ H b = some (.lst rs) ∧ Paired (T4 K H) rs rows ∧ (∀ t ∈ rows, RowOk (wds CS) t) ∧
  ∀ H' t pm po ms os, Same H H' → SqT K H' t [.ref pm, .ref po] → Gr K H H' pm po ms os w h (cellOf (wds CS) rows) → (∀ x ∈ pm :: ms ++ po :: os, H x = none) → (∀ x ∈ pm :: ms, x ∉ po :: os) → Q (.ref t) H'
section
variable {P : Program} {w : World} {K : PySem.W.Frag} {mg : Str → Option Value} {base : Heap}
theorem ok_painted (T : Tx w K mg) : Cal P w K mg base 1 "painted" (spPainted K) [] := by
  refine mk_painted T (fun vs H Q E h => ?_) (fun cdv A outer s H vs Q E hr h => ?_)
  · obtain ⟨w, h, a, b, CS, rs, rows, rfl, _⟩ := h
    rfl
  · obtain ⟨wd, hg, a, b, CS, rs, rows, rfl, ⟨w1, w2, h2⟩, hCS, hb, hrs, hok, q⟩ := h
    refine ⟨_, (pss_cons (ps_setLc (i := 4) (own := [("y", 5)]) rfl sc_painted.nd rfl rfl (sw_true rfl rfl rfl (by decide +kernel)) (pi_range1 rfl (f_range T) (pa_cons (pv 1) pa_nil)) (blkOk_by (N := N_painted) (sc := defScope s_painted) (by decide +kernel)) (fun _ _ _ _ _ => (pg_name (i := 5) sc_painted.nd rfl (.inl rfl))) (fun _ _ _ _ _ => pts_nil) (fun _ _ _ _ _ => (pe_op op_rep (pe_lst (pa_cons pe_int pa_nil)) (pv 0))))
  (pss_cons (ps_setLc (i := 6) (own := [("y", 5)]) rfl sc_painted.nd rfl rfl (sw_true rfl rfl rfl (by decide +kernel)) (pi_range1 rfl (f_range T) (pa_cons (pv 1) pa_nil)) (blkOk_by (N := N_painted) (sc := defScope s_painted) (by decide +kernel)) (fun _ _ _ _ _ => (pg_name (i := 5) sc_painted.nd rfl (.inl rfl))) (fun _ _ _ _ _ => pts_nil) (fun _ _ _ _ _ => (pe_op op_rep (pe_lst (pa_cons pe_non pa_nil)) (pv 0))))
  (pss_cons (ps_for PassesOwn.never rfl (pi_list (pv 3)) (pg_tup (n := 4) rfl (pgs_cons (pg_name (i := 7) sc_painted.nd rfl (.inl rfl)) (pgs_cons (pg_name (i := 8) sc_painted.nd rfl (.inl rfl)) (pgs_cons (pg_name (i := 9) sc_painted.nd rfl (.inl rfl)) (pgs_cons (pg_name (i := 10) sc_painted.nd rfl (.inl rfl)) pgs_nil))))) (pss_cons (ps_set (i := 11) sc_painted.nd rfl (.inl rfl) (pe_fld (pe_dget (hu_of hr) (pe_fld (pe_ix ix_list (pv 2) (pv 7) (fun _ _ => rfl)) rfl) (pv 8) (fun _ _ => rfl)) rfl))
  (pss_one (ps_for PassesOwn.never rfl (pi_enum (by rfl) (f_enumerate T) (pa_cons (pe_fld (pv 11) rfl) pa_nil)) (pg_tup (n := 2) rfl (pgs_cons (pg_name (i := 12) sc_painted.nd rfl (.inl rfl)) (pgs_cons (pg_name (i := 13) sc_painted.nd rfl (.inl rfl)) pgs_nil))) (pss_one (ps_for PassesOwn.never rfl (pi_enum (by rfl) (f_enumerate T) (pa_cons (pv 13) pa_nil)) (pg_tup (n := 2) rfl (pgs_cons (pg_name (i := 14) sc_painted.nd rfl (.inl rfl)) (pgs_cons (pg_name (i := 15) sc_painted.nd rfl (.inl rfl)) pgs_nil))) (pss_cons (ps_par rfl sc_painted.nd (i := 16) (j := 5) rfl rfl (by decide) rfl rfl (pa_cons (pe_op op_add (pv 9) (pv 14)) (pa_cons (pe_op op_add (pv 10) (pv 12)) pa_nil)) rfl)
  (pss_one (ps_if (PW.pt (pw_and (pt_cmpR op_ne (pv 15) pe_int (nomark _)) (pw_and (pt_chain op_le op_lt pe_int (pv 16) (pv 0)) (pw_and1 (pt_chain op_le op_lt pe_int (pv 5) (pv 1)))))) (pss_cons (ps_asg (pv 15) (pg_sub (pe_ix ix_list (pv 4) (pv 5) (fun _ _ => rfl)) (pv 16) set_list))
  (pss_one (ps_asg (pe_tup (pa_cons (pv 7) (pa_cons (pv 8) pa_nil))) (pg_sub (pe_ix ix_list (pv 6) (pv 5) (fun _ _ => rfl)) (pv 16) set_list)))) pss_nil)))))))))
  (pss_one (ps_ret (pe_tup (pa_cons (pv 4) (pa_cons (pv 6) pa_nil)))))))), ?_⟩
    rw [st_painted]
    wtm_at "go"
    intro D nD
    refine eLcR (lo := 0) (n := hg) (fun i H' => ∃ ms : List Addr, NR (fun _ : Unit => HO.lst (List.replicate wd (V.int 0))) H H' D ms (List.replicate i ())) ?_ ?_ ?_
    · exact ⟨[], NR.nil nD⟩
    · rintro i H4 hi ⟨ms, N2⟩
      wtm_at "go"
      intro z nz
      wtm_at "go"
      refine gRepL upd_same (by omega) (by omega) (by decide) fun y ny => ?_
      rw [rep_one, Int.toNat_natCast]
      have s4 := (same_new (o := .lst [.int 0]) nz).trans (same_new (o := .lst (List.replicate wd (.int 0))) ny)
      obtain ⟨a1, a2⟩ := N2.acc s4 (by rw [List.length_replicate]; omega)
      refine ⟨_, a1, a2, ms ++ [y], ?_⟩
      rw [List.replicate_succ']
      exact N2.push s4 (Same.free (same_new nz) ny) upd_same
    · rintro H1 ⟨ms, N1⟩
      have G1 := nr_gm N1
      wtm_at "go"
      intro D2 nD2
      refine eLcR (lo := 0) (n := hg) (fun i H' => ∃ ms : List Addr, NR (fun _ : Unit => HO.lst (List.replicate wd V.non)) H1 H' D2 ms (List.replicate i ())) ?_ ?_ ?_
      · exact ⟨[], NR.nil nD2⟩
      · rintro i H4 hi ⟨ms, N2⟩
        wtm_at "go"
        intro z nz
        wtm_at "go"
        refine gRepL upd_same (by omega) (by omega) (by decide) fun y ny => ?_
        rw [rep_one, Int.toNat_natCast]
        have s4 := (same_new (o := .lst [.non]) nz).trans (same_new (o := .lst (List.replicate wd .non)) ny)
        obtain ⟨a1, a2⟩ := N2.acc s4 (by rw [List.length_replicate]; omega)
        refine ⟨_, a1, a2, ms ++ [y], ?_⟩
        rw [List.replicate_succ']
        exact N2.push s4 (Same.free (same_new nz) ny) upd_same
      · rintro H2 ⟨os, N2⟩
        have s01 : Same H H1 := U.Same.step (Same.refl H) N1.fr fun x hx => by rw [List.mem_singleton.mp hx]; exact nD
        have s12 : Same H1 H2 := U.Same.step (Same.refl H1) N2.fr fun x hx => by rw [List.mem_singleton.mp hx]; exact nD2
        have s2 := s01.trans s12
        have new1 : ∀ x ∈ D :: ms, H x = none := N1.new
        have new2 : ∀ x ∈ D2 :: os, H1 x = none := N2.new
        have newA : ∀ x ∈ D :: ms ++ D2 :: os, H x = none := fun x hx => by
          rcases List.mem_append.mp hx with z | z
          · exact new1 x z
          · exact Same.free s01 (new2 x z)
        have dj : ∀ x ∈ D :: ms, x ∉ D2 :: os := fun x hx z => by
          obtain ⟨o, e, _⟩ := G1.live x hx
          rw [new2 x z] at e
          cases e
        have gr0 : Gr K H2 H2 D D2 ms os wd hg fun _ _ => none := ⟨G1.fr (Fr.same (S := []) s12) fun _ _ => List.not_mem_nil, nr_go N2, Fr.refl⟩
        have C2 := hCS.same s2
        have hb2 := s2 _ _ hb
        have hrs2 := pMap hrs fun _ _ y => T4.fr y (Fr.same (S := []) s2)
        have offC : ∀ x ∈ fpCs a CS, x ∉ D :: ms ++ D2 :: os := fun x hx z => by
          obtain ⟨o, e, _⟩ := hCS.live x hx
          rw [newA x z] at e
          cases e
        have offb : b ∉ D :: ms ++ D2 :: os := fun z => by
          rw [newA b z] at hb
          cases hb
        wtm_at "go"
        refine eForL (xs := rs) (fun i σ H' => ∃ y7 y8 y9 y10 y11 y12 y13 y14 y15 y16 y5, σ = [some (.int wd), some (.int hg), some (.ref a), some (.ref b), some (.ref D), y5, some (.ref D2), y7, y8, y9, y10, y11, y12, y13, y14, y15, y16] ∧ Gr K H2 H' D D2 ms os wd hg (cellOf (wds CS) (rows.take i))) ?_ ?_ ?_ ?_
        · exact ⟨_, _, _, _, _, _, _, _, _, _, _, rfl, gr0.congr fun x y _ _ => rfl⟩
        · rintro i σ H' _ ⟨_, _, _, _, _, _, _, _, _, _, _, _, gr⟩
          exact SqL.of (gr.f.at_ _ _ hb2 offb)
        · rintro i v σ H3 ex ⟨y7, y8, y9, y10, y11, y12, y13, y14, y15, y16, y5, rfl, gr⟩
          obtain ⟨t, et, c, rfl, hc⟩ := pGetL hrs2 ex
          have hc3 := gr.f.sqT hc
          obtain ⟨k0, k1, hsh⟩ := hok t (List.mem_of_getElem? et)
          have k1' : t.1.toNat < CS.length := by simpa [wds] using k1
          have ee := List.getElem?_eq_getElem k1'
          generalize CS[t.1.toNat] = e at ee
          have hm := List.mem_of_getElem? ee
          have eW := wds_get ee
          rw [eW] at hsh
          obtain ⟨k, hk⟩ := Option.isSome_iff_exists.mp hsh
          have eM : marksOf (wds CS) t.1 t.2.1 = k.marks := by unfold marksOf; rw [eW, hk]
          obtain ⟨sn, gn, esh⟩ := Option.bind_eq_some_iff.mp hk
          have hsq := (hCS.wf e hm).ok _ _ gn
          have htk := take_succ et
          have hcell : ∀ x y, cellOf (wds CS) (rows.take (i + 1)) x y = stepM k.marks t x y (cellOf (wds CS) (rows.take i) x y) := fun x y => by
            rw [htk]
            unfold cellOf
            rw [List.foldl_append]
            show stepM (marksOf (wds CS) t.1 t.2.1) t x y _ = _
            rw [eM]
          generalize hgg : cellOf (wds CS) (rows.take i) = g at gr hcell
          have C3 := C2.fr gr.f offC
          have hE := C3.each e hm
          obtain ⟨⟨_, eC3⟩, hP3, _⟩ := id hE
          obtain ⟨M, mM, evM, ⟨dM, eMh⟩, pM, rM, sM, nM⟩ := hP3.get gn
          rw [esh] at sM
          obtain ⟨N, eN, ⟨dN, eNN⟩, hpm, hrows, hnd⟩ := sM.get
          rw [eN] at eMh
          have eMh : H3 M.a = some (.ins (He.ga K "Surface") dM (surfF (.ref M.p.a) (oA M.r) (.ref N.a) (oI sn.top))) := eMh
          have hfpN : ∀ x ∈ N.fp, x ∈ fpCs a CS := fun x hx => List.mem_cons_of_mem _ (List.mem_flatMap.mpr ⟨e, hm, by
            refine List.mem_cons_of_mem _ (fpL_mem mM ?_)
            unfold SA.fp
            rw [eN]
            exact List.mem_cons_of_mem _ (List.mem_append_right _ (List.mem_append_right _ hx))⟩)
          have offN : ∀ x ∈ N.fp, x ∉ D :: ms ++ D2 :: os := fun x hx => offC x (hfpN x hx)
          wtm_at "go"
          refine iIxL (SqL.of C3.at_) (at_of (j := t.1.toNat) (by omega) (by rw [List.getElem?_map, ee]; rfl)) ?_
          wtm_at "go"
          refine iDGI hP3.at_ evM ?_
          wtm_at "go"
          refine eForE (xs := N.rs.map V.ref) (fun d σ H' => ∃ y5 y12 y13 y14 y15 y16, σ = [some (.int wd), some (.int hg), some (.ref a), some (.ref b), some (.ref D), y5, some (.ref D2), some (.int t.1), some (.int t.2.1), some (.int t.2.2.1), some (.int t.2.2.2), some (.ref N.a), y12, y13, y14, y15, y16] ∧ Fr (D :: ms ++ D2 :: os) H3 H' ∧ Gr K H2 H' D D2 ms os wd hg (gg k.marks t g d 0)) ?_ ?_ ?_ ?_
          · exact ⟨_, _, _, _, _, _, rfl, Fr.refl, gr.congr fun x y _ _ => gg_zero.symm⟩
          · rintro d σ H' _ ⟨_, _, _, _, _, _, _, f, _⟩
            exact SqL.of (f.at_ _ _ hpm (offN _ (by simp [LA.fp])))
          · rintro d v σ H4 T4_ ex4 ⟨y5, y12, y13, y14, y15, y16, rfl, f4, gr4⟩ nT4
            rw [List.getElem?_map] at ex4
            obtain ⟨r, er, rfl⟩ := Option.map_eq_some_iff.mp ex4
            obtain ⟨mr, emr, hr3⟩ := pGetL hrows er
            have emg : k.marks.getD d [] = mr := by rw [List.getD_eq_getElem?_getD, emr]; rfl
            have offr : r ∉ D :: ms ++ D2 :: os := offN r (by unfold LA.fp; exact List.mem_cons_of_mem _ (List.mem_cons_of_mem _ (List.mem_of_getElem? er)))
            have s5 := same_new (o := .tup [.int (d : Nat), .ref r]) nT4
            have hT5 : upd H4 T4_ (.tup [.int (d : Nat), .ref r]) T4_ = some (.tup [.int (d : Nat), .ref r]) := upd_same
            have f5 := f4.trans (Fr.same (S := D :: ms ++ D2 :: os) s5)
            have gr5 := gr4.same s5
            have hr5 := f5.at_ _ _ hr3 offr
            generalize upd H4 T4_ (.tup [.int (d : Nat), .ref r]) = H5 at hT5 f5 gr5 hr5
            wtm_at "go"
            refine eForE (xs := mr.map V.int) (fun e σ H' => ∃ y5 y14 y15 y16, σ = [some (.int wd), some (.int hg), some (.ref a), some (.ref b), some (.ref D), y5, some (.ref D2), some (.int t.1), some (.int t.2.1), some (.int t.2.2.1), some (.int t.2.2.2), some (.ref N.a), some (.int (d : Nat)), some (.ref r), y14, y15, y16] ∧ Fr (D :: ms ++ D2 :: os) H5 H' ∧ Gr K H2 H' D D2 ms os wd hg (gg k.marks t g d e)) ?_ ?_ ?_ ?_
            · exact ⟨_, _, _, _, rfl, Fr.refl, gr5⟩
            · rintro e σ H' _ ⟨_, _, _, _, _, f, _⟩
              exact SqL.of (f.at_ _ _ hr5 offr)
            · rintro e v σ H6 T6_ ex6 ⟨y5, y14, y15, y16, rfl, f6, gr6⟩ nT6
              rw [List.getElem?_map] at ex6
              obtain ⟨mk, emk, rfl⟩ := Option.map_eq_some_iff.mp ex6
              have emkg : (k.marks.getD d []).getD e 0 = mk := by rw [emg, List.getD_eq_getElem?_getD, emk]; rfl
              have s7 := same_new (o := .tup [.int (e : Nat), .int mk]) nT6
              have hT7 : upd H6 T6_ (.tup [.int (e : Nat), .int mk]) T6_ = some (.tup [.int (e : Nat), .int mk]) := upd_same
              have f7 := f6.trans (Fr.same (S := D :: ms ++ D2 :: os) s7)
              have gr7 := gr6.same s7
              generalize upd H6 T6_ (.tup [.int (e : Nat), .int mk]) = H7 at hT7 f7 gr7
              have hstep : ∀ x y, gg k.marks t g d ((e : Int) + 1) x y = if x = t.2.2.1 + e ∧ y = t.2.2.2 + d then (if mk ≠ 0 then some (mk, t.1, t.2.1) else gg k.marks t g d e x y) else gg k.marks t g d e x y := fun x y => by
                rw [gg_step]
                by_cases z : x = t.2.2.1 + e ∧ y = t.2.2.2 + d
                · rw [if_pos z, if_pos z, z.1, z.2, stepM_at, emkg, gg_at]
                · rw [if_neg z, if_neg z]
              have hno : (mk = 0 ∨ ¬ (0 ≤ t.2.2.1 + (e : Int)) ∨ ¬ (t.2.2.1 + (e : Int) < wd) ∨ ¬ (0 ≤ t.2.2.2 + (d : Int)) ∨ ¬ (t.2.2.2 + (d : Int) < hg)) → Gr K H2 H7 D D2 ms os wd hg (gg k.marks t g d ((e : Int) + 1)) := fun hz => gr7.congr fun x y hx hy => by
                rw [hstep]
                by_cases z : (x : Int) = t.2.2.1 + e ∧ (y : Int) = t.2.2.2 + d
                · rw [if_pos z, if_neg (by omega)]
                · rw [if_neg z]
              have nxt : (mk = 0 ∨ ¬ (0 ≤ t.2.2.1 + (e : Int)) ∨ ¬ (t.2.2.1 + (e : Int) < wd) ∨ ¬ (0 ≤ t.2.2.2 + (d : Int)) ∨ ¬ (t.2.2.2 + (d : Int) < hg)) → Gr K H2 H7 D D2 ms os wd hg (gg k.marks t g d ((e + 1 : Nat) : Int)) := fun z => by
                have := hno z
                rw [show ((e + 1 : Nat) : Int) = (e : Int) + 1 by omega]
                exact this
              wtm_at "go"
              refine iteN (fun q0 => ?_) (fun q0 => ?_)
              · wtm_at "go"
                refine iteD (fun q1 => ?_) (fun q1 => ?_)
                · wtm_at "go"
                  refine iteD (fun q2 => ?_) (fun q2 => ?_)
                  · wtm_at "go"
                    refine iteD (fun q3 => ?_) (fun q3 => ?_)
                    · wtm_at "go"
                      refine iteD (fun q4 => ?_) (fun q4 => ?_)
                      · obtain ⟨r1, em⟩ : ∃ r1, ms[(t.2.2.2 + (d : Int)).toNat]? = some r1 := ⟨_, List.getElem?_eq_getElem (by have := gr7.m.len; omega)⟩
                        obtain ⟨o1, eo⟩ : ∃ o1, os[(t.2.2.2 + (d : Int)).toNat]? = some o1 := ⟨_, List.getElem?_eq_getElem (by have := gr7.o.len; omega)⟩
                        have hx0 : (t.2.2.1 + (e : Int)).toNat < wd := by omega
                        have m1 : r1 ∈ D :: ms := List.mem_cons_of_mem _ (List.mem_of_getElem? em)
                        have m2 : o1 ∈ D2 :: os := List.mem_cons_of_mem _ (List.mem_of_getElem? eo)
                        wtm_at "go"
                        refine iIxL (SqL.of gr7.m.at_) (at_of (j := (t.2.2.2 + (d : Int)).toNat) (by omega) (by rw [List.getElem?_map, em]; rfl)) ?_
                        wtm_at "go"
                        refine iSetL (gr7.m.row _ _ em) (ixN_nat (j := (t.2.2.1 + (e : Int)).toNat) (by omega) (by rw [List.length_map, List.length_range]; omega)) ?_
                        have gm8 := gr7.m.set (c := some (mk, t.1, t.2.1)) em hx0
                        have f8 : Fr [r1] H7 (upd H7 r1 (.lst (((List.range wd).map fun (x : Nat) => V.int (mkc (gg k.marks t g d e x (t.2.2.2 + (d : Int)).toNat))).set (t.2.2.1 + (e : Int)).toNat (.int mk)))) := Fr.set (gr7.m.row _ _ em) rfl (by simp)
                        have go8 := gr7.o.fr f8 fun z hz y => dj r1 m1 (by rw [← List.mem_singleton.mp y]; exact hz)
                        have gm8 : GM (upd H7 r1 (.lst (((List.range wd).map fun (x : Nat) => V.int (mkc (gg k.marks t g d e x (t.2.2.2 + (d : Int)).toNat))).set (t.2.2.1 + (e : Int)).toNat (.int mk)))) D ms wd hg _ := gm8
                        generalize upd H7 r1 (.lst (((List.range wd).map fun (x : Nat) => V.int (mkc (gg k.marks t g d e x (t.2.2.2 + (d : Int)).toNat))).set (t.2.2.1 + (e : Int)).toNat (.int mk))) = H8 at f8 go8 gm8
                        wtm_at "go"
                        intro u nu
                        have s9 := same_new (o := .tup [.int t.1, .int t.2.1]) nu
                        have hu : SqT K (upd H8 u (.tup [.int t.1, .int t.2.1])) u [.int t.1, .int t.2.1] := SqT.of upd_same
                        have gm9 := gm8.fr (Fr.same (S := []) s9) fun _ _ => List.not_mem_nil
                        have go9 := go8.fr (Fr.same (S := []) s9) fun _ _ => List.not_mem_nil
                        generalize upd H8 u (.tup [.int t.1, .int t.2.1]) = H9 at s9 hu gm9 go9
                        obtain ⟨vs, ev, hvl, _⟩ := go9.row _ _ eo
                        wtm_at "go"
                        refine iIxL (SqL.of go9.at_) (at_of (j := (t.2.2.2 + (d : Int)).toNat) (by omega) (by rw [List.getElem?_map, eo]; rfl)) ?_
                        wtm_at "go"
                        refine iSetL ev (ixN_nat (j := (t.2.2.1 + (e : Int)).toNat) (by omega) (by rw [hvl]; exact hx0)) ?_
                        have goA := go9.set (c := some (mk, t.1, t.2.1)) (x0 := (t.2.2.1 + (e : Int)).toNat) eo ev ⟨u, rfl, hu⟩
                        have fA : Fr [o1] H9 (upd H9 o1 (.lst (vs.set (t.2.2.1 + (e : Int)).toNat (.ref u)))) := Fr.set ev rfl (by simp)
                        have gmA := gm9.fr fA fun z hz y => dj z hz (by rw [List.mem_singleton.mp y]; exact m2)
                        have fS : Fr (D :: ms ++ D2 :: os) H7 (upd H9 o1 (.lst (vs.set (t.2.2.1 + (e : Int)).toNat (.ref u)))) := ((f8.mono fun z hz => by rw [List.mem_singleton.mp hz]; exact List.mem_append_left _ m1).trans (Fr.same s9)).trans (fA.mono fun z hz => by rw [List.mem_singleton.mp hz]; exact List.mem_append_right _ m2)
                        have gA : Gr K H2 (upd H9 o1 (.lst (vs.set (t.2.2.1 + (e : Int)).toNat (.ref u)))) D D2 ms os wd hg _ := ⟨gmA, goA, gr7.f.trans fS⟩
                        wtm_at "go"
                        refine ⟨_, _, _, _, rfl, f7.trans fS, gA.congr fun x y _ _ => ?_⟩
                        rw [show ((e + 1 : Nat) : Int) = (e : Int) + 1 by omega, hstep]
                        by_cases z : (x : Int) = ((t.2.2.1 + (e : Int)).toNat : Int) ∧ (y : Int) = ((t.2.2.2 + (d : Int)).toNat : Int)
                        · rw [if_pos z, if_pos (by omega), if_pos q0]
                        · rw [if_neg z, if_neg (by omega)]
                      · wtm_at "go"
                        exact ⟨_, _, _, _, rfl, f7, nxt (by omega)⟩
                    · wtm_at "go"
                      exact ⟨_, _, _, _, rfl, f7, nxt (by omega)⟩
                  · wtm_at "go"
                    exact ⟨_, _, _, _, rfl, f7, nxt (by omega)⟩
                · wtm_at "go"
                  exact ⟨_, _, _, _, rfl, f7, nxt (by omega)⟩
              · wtm_at "go"
                exact ⟨_, _, _, _, rfl, f7, nxt (by omega)⟩
            · rintro σ H6 ⟨y5, y14, y15, y16, rfl, f6, gr6⟩
              rw [List.length_map, ← emg] at gr6
              exact ⟨_, _, _, _, _, _, rfl, f5.trans f6, gr6.congr fun x y _ _ => gg_row⟩
          · rintro σ H4 ⟨y5, y12, y13, y14, y15, y16, rfl, f4, gr4⟩
            rw [List.length_map, pLen hrows] at gr4
            exact ⟨_, _, _, _, _, _, _, _, _, _, _, rfl, gr4.congr fun x y _ _ => by rw [gg_end, hcell]⟩
        · rintro σ H3 ⟨y7, y8, y9, y10, y11, y12, y13, y14, y15, y16, y5, rfl, gr⟩
          rw [pLen hrs, List.take_of_length_le (Nat.le_refl _)] at gr
          wtm_at "go"
          intro u nu
          have s4 := same_new (o := .tup [.ref D, .ref D2]) nu
          refine q _ u D D2 ms os ?_ (SqT.of upd_same) ?_ newA dj
          · exact U.Same.step s2 (gr.f.trans (Fr.same s4)) newA
          · have g4 := gr.same s4
            refine ⟨g4.m, g4.o, ?_⟩
            exact (Fr.same s2).trans g4.f
end

/-! ### at rest -/
def spNeedSize : Sp := fun vs H Q _ => ∃ w h : Int, vs = [.int w, .int h] ∧ (1 ≤ w ∧ w ≤ 12) ∧ (1 ≤ h ∧ h ≤ 8) ∧ Q .non H
def restOf (bks : List (List Lt)) : Int → Int → Cell := cellOf (bks.map alone) (laidOf (bks.map alone))
def spAtRest (K : PySem.W.Frag) : Sp := fun vs H Q _ => ∃ (w h : Nat) (B : Addr) (xs : List V) (bks : List (List Lt)), vs = [.int w, .int h, .ref B] ∧ ((1 ≤ w ∧ w ≤ 12) ∧ 1 ≤ h ∧ h ≤ 8) ∧ H B = some (.lst xs) ∧ Paired (BkT K H) xs bks ∧ (∀ ls ∈ bks, ∀ l ∈ ls, Lt.ok l) ∧ bks.length ≤ 5 ∧ LamX.Tabs (Ts K) H ∧
  ∀ H' pm ms, Fr [PT K] H H' → LamX.Tabs (Ts K) H' → GM H' pm ms w h (restOf bks) → (∀ x ∈ pm :: ms, H x = none) → Q (.ref pm) H'
theorem BkT.same {K : PySem.W.Frag} {H H' : Hp} {v : V} {ls : List Lt} (h : BkT K H v ls) (s : Same H H') : BkT K H' v ls := let ⟨b, xs, e, q, p⟩ := h; ⟨b, xs, e, s _ _ q, pMap p fun _ _ ⟨t, e, q⟩ => ⟨t, e, sqT_same s q⟩⟩
section
variable {P : Program} {w : World} {K : PySem.W.Frag} {mg : Str → Option Value} {base : Heap}
theorem ok_need_size (T : Tx w K mg) : Cal P w K mg base 2 "need_size" spNeedSize [] := by
  refine mk_need_size T (fun vs H Q E h => ?_) (fun cdv A outer s H vs Q E hr h => ?_)
  · obtain ⟨w, h, rfl, _⟩ := h
    rfl
  · obtain ⟨wd, hg, rfl, ⟨w1, w2⟩, ⟨h1, h2⟩, q⟩ := h
    refine ⟨_, (pss_one (ps_if (PW.pt (pw_or (pt_not (pt_val (pe_c (ok_is_number T) hr (by omega) rfl (pa_cons (pv 0) (pa_cons pe_int (pa_cons (pe_gc rfl (int_MOST_WIDE T)) pa_nil)))))) (pw_or1 (pt_not (pt_val (pe_c (ok_is_number T) hr (by omega) rfl (pa_cons (pv 1) (pa_cons pe_int (pa_cons (pe_gc rfl (int_MOST_HIGH T)) pa_nil))))))))) (pss_one ps_never) pss_nil)), ?_⟩
    rw [st_need_size]
    wtm_at "go"
    refine ⟨wd, 1, 12, rfl, ?_⟩
    rw [decide_eq_true w1, decide_eq_true w2, Bool.and_self]
    wtm_at "go"
    refine ⟨hg, 1, 8, rfl, ?_⟩
    rw [decide_eq_true h1, decide_eq_true h2, Bool.and_self]
    wtm_at "go"
    exact q
theorem ok_at_rest (T : Tx w K mg) (B : Tb base K mg) : Cal P w K mg base 11 "at_rest" (spAtRest K) [] := by
  refine mk_at_rest T (fun vs H Q E h => ?_) (fun cdv A outer s H vs Q E hr h => ?_)
  · obtain ⟨w, h, b, xs, bks, rfl, _⟩ := h
    rfl
  · obtain ⟨wd, hg, b, xs, bks, rfl, ⟨⟨w1, w2⟩, h1, h2⟩, hb, hxs, hok, hle, hT, q⟩ := h
    refine ⟨_, (pss_cons (ps_expr (pe_c (ok_need_size T) hr (by omega) rfl (pa_cons (pv 0) (pa_cons (pv 1) pa_nil))))
  (pss_cons (ps_if (pt_cmpR op_gt (pe_callB c_len (by rfl) (f_len T) (by decide +kernel) (pa_cons (pv 2) pa_nil)) (pe_gc rfl (int_MOST_CLIENTS T)) (nomark _)) (pss_one ps_never) pss_nil)
  (pss_cons (ps_for PassesOwn.never rfl (pi_list (pv 2)) (pg_name (i := 3) sc_at_rest.nd rfl (.inl rfl)) (pss_one (ps_for PassesOwn.never rfl (pi_list (pv 3)) (pg_name (i := 4) sc_at_rest.nd rfl (.inl rfl)) (pss_one (ps_expr (pe_c (ok_need_letter T) hr (by omega) rfl (pa_cons (pv 4) pa_nil)))))))
  (pss_cons (ps_setLc (i := 5) (own := [("book", 3)]) rfl sc_at_rest.nd rfl rfl (sw_true rfl rfl rfl (by decide +kernel)) (pi_list (pv 2)) (blkOk_by (N := N_at_rest) (sc := defScope s_at_rest) (by decide +kernel)) (fun _ _ _ _ _ => (pg_name (i := 3) sc_at_rest.nd rfl (.inl rfl))) (fun _ _ _ _ _ => pts_nil) (fun _ _ _ _ _ => (pe_c (ok_client_of T) hr (by omega) rfl (pa_cons (pv 3) pa_nil))))
  (pss_one (ps_ret (pe_ix ix_tup (pe_c (ok_painted T) hr (by omega) rfl (pa_cons (pv 0) (pa_cons (pv 1) (pa_cons (pv 5) (pa_cons (pe_c (ok_laid (K := K) T B) hr (by omega) rfl (pa_cons (pv 5) pa_nil)) pa_nil))))) pe_int (fun _ _ => rfl)))))))), ?_⟩
    rw [st_at_rest]
    wtm_at "go"
    refine ⟨wd, hg, rfl, ⟨by omega, by omega⟩, ⟨by omega, by omega⟩, ?_⟩
    wtm_at "go"
    have hxl := pLen hxs
    refine iteNo (by omega) ?_
    wtm_at "go"
    refine eForL (xs := xs) (fun i σ H' => ∃ y3 y4 y5, σ = [some (.int wd), some (.int hg), some (.ref b), y3, y4, y5] ∧ Same H H') ?_ ?_ ?_ ?_
    · exact ⟨_, _, _, rfl, Same.refl H⟩
    · rintro i σ H' _ ⟨_, _, _, _, s⟩
      exact SqL.of (s _ _ hb)
    · rintro i v σ H1 ex ⟨y3, y4, y5, rfl, s1⟩
      obtain ⟨ls, el, c, ys, rfl, hc, hls⟩ := pGetL hxs ex
      have hc1 := s1 _ _ hc
      wtm_at "go"
      refine eForL (xs := ys) (fun i σ H' => ∃ y4 y5, σ = [some (.int wd), some (.int hg), some (.ref b), some (.ref c), y4, y5] ∧ Same H H') ?_ ?_ ?_ ?_
      · exact ⟨_, _, rfl, s1⟩
      · rintro j σ H' _ ⟨_, _, _, s⟩
        exact SqL.of (s _ _ hc)
      · rintro j v σ H2 ex2 ⟨y4, y5, rfl, s2⟩
        obtain ⟨l, ell, t, rfl, ht⟩ := pGetL hls ex2
        wtm_at "go"
        refine ⟨t, l, rfl, sqT_same s2 ht, hok _ (List.mem_of_getElem? el) _ (List.mem_of_getElem? ell), fun H3 s3 => ?_⟩
        wtm_at "go"
        exact ⟨_, _, rfl, s2.trans s3⟩
      · rintro σ H2 ⟨y4, y5, rfl, s2⟩
        exact ⟨_, _, _, rfl, s2⟩
    · rintro σ H1 ⟨y3, y4, y5, rfl, s1⟩
      wtm_at "go"
      intro D nD
      have s2 := s1.trans (same_new (o := .lst []) nD)
      refine eLcL (xs := xs) (fun i H' => ∃ CS : List (CAd × PL), Fr [D] (upd H1 D (.lst [])) H' ∧ H' D = some (.lst (CS.map fun e => V.ref e.1.c)) ∧ (∀ e ∈ CS, CP K H' e.1 e.2 ∧ WfW (pwd e.2)) ∧ wds CS = (bks.take i).map alone ∧ (∀ e ∈ CS, ∀ x ∈ fpC e.1 e.2, H x = none) ∧ ∀ e ∈ CS, ∀ x ∈ e.1.c :: e.1.d :: fpL e.2, x ≠ D) ?_ ?_ ?_ ?_
      · refine ⟨[], Fr.refl, upd_same, ?_, ?_, ?_, ?_⟩
        · exact fun e he => absurd he List.not_mem_nil
        · rfl
        · exact fun e he => absurd he List.not_mem_nil
        · exact fun e he => absurd he List.not_mem_nil
      · rintro i H' _ ⟨CS, f, _⟩
        exact SqL.of (f.at_ _ _ (s2 _ _ hb) (by simpa using ne_of_none hb (Same.free s1 nD)))
      · rintro i v H2 ex ⟨CS, f2, hD2, hCS, ew, nw, nwD⟩
        obtain ⟨ls, el, c, ys, rfl, hc, hls⟩ := pGetL hxs ex
        have cD : c ≠ D := ne_of_none hc (Same.free s1 nD)
        have hc2 := f2.at_ _ _ (s2 _ _ hc) (by simpa using cD)
        have hls2 := pMap hls fun _ _ ⟨t, e, q⟩ => (⟨t, e, f2.sqT (sqT_same s2 q)⟩ : LtT K H2 _ _)
        have hi : i < bks.length := (List.getElem?_eq_some_iff.mp el).1
        have hCl : CS.length = i := by
          have := congrArg List.length ew
          simp only [wds, List.length_map, List.length_take] at this
          omega
        wtm_at "go"
        refine ⟨c, ys, ls, rfl, hc2, hls2, fun l hl => hok _ (List.mem_of_getElem? el) l hl, fun H3 C L hC ep hw s3 nC => ?_⟩
        have hD3 := s3 _ _ hD2
        refine ⟨_, hD3, by rw [List.length_map, hCl]; exact Nat.lt_of_lt_of_le (show _ < 6 by omega) (by decide), CS ++ [(C, L)], ?_, ?_, ?_, ?_, ?_, ?_⟩
        · exact (f2.trans (Fr.same s3)).trans (Fr.set hD3 rfl (by simp))
        · rw [upd_same, List.map_append]
          rfl
        · have fz : Fr [D] H3 (upd H3 D (.lst (CS.map (fun e => V.ref e.1.c) ++ [.ref C.c]))) := Fr.set hD3 rfl (by simp)
          have newD : ∀ x ∈ C.c :: C.d :: fpL L, x ≠ D := fun x hx y => by
            have := nC x (by
              unfold fpC
              rcases List.mem_cons.mp hx with z | z
              · simp [z]
              · exact List.mem_cons_of_mem _ (List.mem_cons_of_mem _ (List.mem_cons_of_mem _ z)))
            rw [y, hD2] at this
            cases this
          intro e he
          rcases List.mem_append.mp he with z | z
          · exact ⟨((hCS e z).1.same s3).fr fz fun x hx y => nwD e z x hx (List.mem_singleton.mp y), (hCS e z).2⟩
          · rw [List.mem_singleton.mp z]
            exact ⟨hC.fr fz fun x hx y => newD x hx (List.mem_singleton.mp y), hw⟩
        · unfold wds at ew ⊢
          rw [List.map_append, ew, take_succ el, List.map_append]
          show _ ++ [pwd L] = _ ++ [alone ls]
          rw [ep]
        · intro e he x hx
          rcases List.mem_append.mp he with z | z
          · exact nw e z x hx
          · rw [List.mem_singleton.mp z] at hx
            exact Same.free s2 (f2.free (nC x hx))
        · intro e he x hx y
          rcases List.mem_append.mp he with z | z
          · exact nwD e z x hx y
          · rw [List.mem_singleton.mp z] at hx
            have := nC x (by
              unfold fpC
              rcases List.mem_cons.mp hx with z | z
              · simp [z]
              · exact List.mem_cons_of_mem _ (List.mem_cons_of_mem _ (List.mem_cons_of_mem _ z)))
            rw [y, hD2] at this
            cases this
      · rintro H2 ⟨CS, f2, hD2, hCS, ew, nw, nwD⟩
        rw [hxl, List.take_of_length_le (Nat.le_refl _)] at ew
        have s02 : Same H H2 := U.Same.step s2 f2 fun x hx => by rw [List.mem_singleton.mp hx]; exact Same.free s1 nD
        have hwl : (wds CS).length = bks.length := by rw [ew, List.length_map]
        have hCl : CS.length = bks.length := by simpa [wds] using hwl
        have hC2 : CsAt K H2 D CS := ⟨hD2, fun e he => (hCS e he).1, fun e he => (hCS e he).2, by omega⟩
        have hT2 := tabs_same hT s02
        have ewl : ∀ W ∈ wds CS, WfW W := fun W hW => by obtain ⟨e, he, rfl⟩ := List.mem_map.mp hW; exact (hCS e he).2
        wtm_at "go"
        refine ⟨D, CS, rfl, hC2, hT2, fun H3 p rs f3 hT3 np hp3 hrs3 => ?_⟩
        have C3 := hC2.fr f3 fun x hx y => by
          obtain ⟨o, e, m⟩ := hC2.live x hx
          exact pt_ne hT2 e m (List.mem_singleton.mp y)
        wtm_at "go"
        refine ⟨wd, hg, D, p, CS, rs, _, rfl, ⟨w1, w2, h2⟩, C3, hp3, hrs3, laid_ok ewl (by omega), fun H4 t pm po ms os s4 ht gr n4 dj => ?_⟩
        wtm_at "go"
        have gm := gr.m
        rw [ew] at gm
        exact q H4 pm ms ((Fr.same s02).trans (f3.trans (Fr.same s4))) (tabs_same hT3 s4) gm fun x hx => Same.free s02 (f3.free (n4 x (List.mem_append_left _ hx)))
end

/-! ### the law's client alone -/
def spLAlone (K : PySem.W.Frag) : Sp := fun vs H Q _ => ∃ (b : Addr) (xs : List V) (ls : List Lt), vs = [.ref b] ∧ H b = some (.lst xs) ∧ Paired (LtT K H) xs ls ∧ (∀ l ∈ ls, Lt.ok l) ∧ ∀ H' pw L, WAt K H' pw L → wd L = alone ls → WfW (wd L) → Same H H' → (∀ x ∈ fpW pw L, H x = none) → Q (.ref pw) H'
section
variable {P : Program} {w : World} {K : PySem.W.Frag} {mg : Str → Option Value} {base : Heap}
theorem ok_law_alone (T : Tx w K mg) : Cal P w K mg base 7 "_law_alone" (spLAlone K) [] := by
  refine mk_law_alone T (fun vs H Q E h => ?_) (fun cdv A outer s H vs Q E hr h => ?_)
  · obtain ⟨b, xs, ls, rfl, _⟩ := h
    rfl
  · obtain ⟨b, xs, ls, rfl, hb, hls, hok, q⟩ := h
    refine ⟨_, (pss_cons (ps_set (i := 1) sc_law_alone.nd rfl (.inl rfl) pe_dnewK)
  (pss_cons (ps_for PassesOwn.never rfl (pi_list (pv 0)) (pg_name (i := 2) sc_law_alone.nd rfl (.inl rfl)) (pss_one (ps_if (pt_not (pt_val (pe_ix ix_tup (pe_c (ok_law_does T) hr (by omega) rfl (pa_cons (pv 1) (pa_cons (pv 2) pa_nil))) pe_int (fun _ _ => rfl)))) (pss_one (ps_ret pe_dnewK)) pss_nil)))
  (pss_one (ps_ret (pv 1))))), ?_⟩
    rw [st_law_alone]
    wtm_at "go"
    intro pw npw
    have s1 := same_new (o := .dK []) npw
    have hpw : upd H pw (.dK []) pw = some (.dK []) := upd_same
    show gName _ _ _ (upd H pw (.dK [])) _
    generalize upd H pw (.dK []) = H1 at s1 hpw
    wtm_at "go"
    refine eForL (xs := xs) (fun i σ H' => ∃ y2 L, σ = [some (.ref b), some (.ref pw), y2] ∧ WAt K H' pw L ∧ Same H H' ∧ (∀ x ∈ fpW pw L, H x = none) ∧ WfW (wd L) ∧ alone ls = aloneG (wd L) (ls.drop i)) ?_ ?_ ?_ ?_
    · refine ⟨_, [], rfl, wat_nil hpw, s1, fun x hx => ?_, wf_nil, rfl⟩
      rw [List.mem_singleton.mp (show x ∈ [pw] from hx)]
      exact npw
    · rintro i σ H' _ ⟨_, L, _, _, s, _⟩
      exact SqL.of (s _ _ hb)
    · rintro i x σ H2 ex ⟨y2, L, rfl, W2, s2, n2, wf, ea⟩
      obtain ⟨l, el, t, rfl, ht⟩ := pGetL hls ex
      have hl := hok l (List.mem_of_getElem? el)
      have edr : ls.drop i = l :: ls.drop (i + 1) := by
        have hi := (List.getElem?_eq_some_iff.mp el).1
        rw [List.drop_eq_getElem_cons hi, (List.getElem?_eq_some_iff.mp el).2]
      rw [edr] at ea
      wtm_at "go"
      refine ⟨pw, t, L, l, rfl, W2, wf, sqT_same s2 ht, hl, fun H3 L3 t3 p1 p2 D n1 n2_ m1 m2 hq e1 e2 => ?_⟩
      have s3 : Same H H3 := U.Same.step s2 D.fr n2
      have n3 : ∀ x ∈ fpW pw L3, H x = none := fun x hx => by
        rcases D.fp x hx with z | z
        · exact n2 x z
        · exact Same.free s2 z
      wtm_at "go"
      cases ed : does (wd L) l with
      | some r =>
        wtm_at "go"
        refine ⟨_, L3, rfl, D.at_, s3, n3, by rw [D.is]; exact wf.aft hl, ?_⟩
        rw [ea, D.is, (aft_some ed).1]
        show (match does (wd L) l with | some r => aloneG r.1 (ls.drop (i + 1)) | none => []) = _
        rw [ed]
      | none =>
        wtm_at "go"
        intro pz npz
        refine q _ pz [] (wat_nil upd_same) ?_ wf_nil (s3.trans (same_new npz)) fun x hx => ?_
        · rw [ea]
          show [] = (match does (wd L) l with | some r => aloneG r.1 (ls.drop (i + 1)) | none => [])
          rw [ed]
        · rw [List.mem_singleton.mp (show x ∈ [pz] from hx)]
          exact Same.free s3 npz
    · rintro σ H2 ⟨y2, L, rfl, W2, s2, n2, wf, ea⟩
      rw [pLen hls, List.drop_of_length_le (Nat.le_refl _)] at ea
      wtm_at "go"
      exact q H2 pw L W2 ea.symm wf s2 n2
end

/-! ### walks over a dict, locked; sorted pairs -/
theorem same_unlock {H H' : Hp} {d : Addr} {u v : HO} (hd : H d = some u) (s : Same (upd H d v) H') : Same H (upd H' d u) := fun b x e => by
  by_cases z : b = d
  · rw [z, upd_same, ← hd, ← z]; exact e
  · rw [upd_ne z]; exact s _ _ ((upd_ne z).trans e)
theorem rdF {H : Hp} {a : Addr} {o : Obj} {u : HO} (h : H a = some (.frz o u)) : Rd H a u := .inr ⟨o, h⟩
theorem rdM {H : Hp} {a : Addr} {u : HO} (h : H a = some u) : Rd H a u := .inl h
theorem iDGIz {H : Hp} {Q : VK} {a : Addr} {kvs : List (Key × V)} {k : Int} {v : V} (h : Rd H a (.dK kvs)) (e : valV kvs (.inl k) = some v) (q : Q v H) : rDGet (.ref a) (.int k) H Q := ⟨a, v, rfl, by rw [← e]; exact .inl ⟨kvs, .inl k, h, rfl, rfl⟩, q⟩
def WKy (R : It → Hp → Prop) (x : V) (H1 : Hp) : Prop := ∃ d o, x = .ref d ∧ ((∃ kvs, H1 d = some (.frz o (.dK kvs)) ∧ R (Itk d o kvs) H1) ∨ ∃ kvs, H1 d = some (.frz o (.dT kvs)) ∧ R (Itkt d o kvs) H1)
section
variable {K : PySem.W.Frag} {σ : L2.St} {H : Hp} {Q : VK} {R : It → Hp → Prop}
theorem iWKy {td : TE} (h : td σ H (WKy R)) : iKeys td σ H R := h
theorem gWKy {d : Addr} {o : Obj} {kvs : List (Key × V)} (e : H d = some (.frz o (.dK kvs))) (q : R (Itk d o kvs) H) : WKy R (.ref d) H := ⟨d, o, rfl, .inl ⟨kvs, e, q⟩⟩
theorem iLockE {t : TE} {d : Addr} {kvs : List (Key × V)} (h : H d = some (.dK kvs)) (q : ∀ od, t σ (upd H d (.frz od (.dK kvs))) fun v H' => H' d = some (.frz od (.dK kvs)) ∧ Q v (upd H' d (.dK kvs))) : tLockE t σ H Q := ⟨d, _, h, trivial, q⟩
theorem iLock {t : TS} {d : Addr} {kvs : List (Key × V)} {nx bk ct : L2.St → Hp → Prop} {rt : VK} (h : H d = some (.dK kvs)) (q : ∀ od, t ⟨fun σ' H' => H' d = some (.frz od (.dK kvs)) ∧ nx σ' (upd H' d (.dK kvs)), fun v H' => H' d = some (.frz od (.dK kvs)) ∧ rt v (upd H' d (.dK kvs)), fun σ' H' => H' d = some (.frz od (.dK kvs)) ∧ bk σ' (upd H' d (.dK kvs)), fun σ' H' => H' d = some (.frz od (.dK kvs)) ∧ ct σ' (upd H' d (.dK kvs))⟩ σ (upd H d (.frz od (.dK kvs)))) : tLock t ⟨nx, rt, bk, ct⟩ σ H := ⟨d, _, h, trivial, q⟩
theorem kvW_get {L : WL_} {i : Nat} {k : Key} {v : V} (h : (kvW L)[i]? = some (k, v)) : ∃ e, L[i]? = some e ∧ k = .inl e.1 := by
  unfold kvW at h
  rw [List.getElem?_map] at h
  obtain ⟨e, h1, h2⟩ := Option.map_eq_some_iff.mp h
  exact ⟨e, h1, by cases h2; rfl⟩
theorem eForW {g : TG} {tb : TS} {nx : L2.St → Hp → Prop} {rt : VK} {d : Addr} {o : Obj} {L : WL_} (I : Nat → L2.St → Hp → Prop) (h0 : I 0 σ H) (hG : ∀ i σ H, i ≤ L.length → I i σ H → H d = some (.frz o (.dK (kvW L))))
    (hs : ∀ i e σ H, L[i]? = some e → I i σ H → g (.int e.1) σ H fun σ2 H2 => tb ⟨I (i + 1), rt, nx, I (i + 1)⟩ σ2 H2) (hd : ∀ σ H, I L.length σ H → nx σ H) : LoopS (Itk d o (kvW L)) g tb nx rt σ H := by
  have el : (kvW L).length = L.length := by simp [kvW]
  refine eFor walk_keys I h0 (fun i σ H hi => hG i σ H (by omega)) (fun i x σ H H' hi h y => ?_) (fun σ H h => hd σ H (by rw [← el]; exact h))
  obtain ⟨rfl, k, v, ek, rfl⟩ := y
  obtain ⟨e, he, rfl⟩ := kvW_get ek
  exact hs i e σ _ he h
theorem eLcW {g : TG} {tt : TT} {te : TE} {vs : List Nat} {D : Addr} {Qd : Hp → Prop} {d : Addr} {o : Obj} {L : WL_} (I : Nat → Hp → Prop) (h0 : I 0 (upd H D (.lst []))) (hG : ∀ i H, i ≤ L.length → I i H → H d = some (.frz o (.dK (kvW L))))
    (hs : ∀ i e H, L[i]? = some e → I i H → g (.int e.1) (wipe σ vs) H fun σ2 H2 => wipe σ2 vs = wipe σ vs ∧ tt σ2 H2 fun b H3 =>
      if b = true then te σ2 H3 fun y H4 => ∃ acc, H4 D = some (.lst acc) ∧ acc.length < sizeLine ∧ I (i + 1) (upd H4 D (.lst (acc ++ [y]))) else I (i + 1) H3) (hd : ∀ H, I L.length H → Qd H) : CompS (Itk d o (kvW L)) g tt te vs σ D Qd H := by
  have el : (kvW L).length = L.length := by simp [kvW]
  refine eLc walk_keys I h0 (fun i H hi => hG i H (by omega)) (fun i x H H' hi h y => ?_) (fun H h => hd H (by rw [← el]; exact h))
  obtain ⟨rfl, k, v, ek, rfl⟩ := y
  obtain ⟨e, he, rfl⟩ := kvW_get ek
  exact hs i e _ he h
/-! pairs -/
def P2 (H : Hp) (v : V) (p : Int × Int) : Prop := ∃ t, v = .ref t ∧ H t = some (.tup [.int p.1, .int p.2])
theorem P2.fr {H H' : Hp} {S : List Addr} {v : V} {p : Int × Int} (h : P2 H v p) (f : Fr S H H') : P2 H' v p := let ⟨t, e, q⟩ := h; ⟨t, e, f.tu _ _ q⟩
def kpV (H : Hp) : V → Int × Int
  | .ref t => match H t with
    | some (.tup [.int a, .int b]) => (a, b)
    | _ => (0, 0)
  | _ => (0, 0)
theorem kpV_of {v : V} {p : Int × Int} (h : P2 H v p) : kpV H v = p := by
  obtain ⟨t, rfl, e⟩ := h
  show (match H t with | some (.tup [.int a, .int b]) => (a, b) | _ => (0, 0)) = p
  rw [e]
theorem iSortPO {a : Addr} {xs : List V} {ps : List (Int × Int)} (h : SqL K H a xs) (p : Paired (P2 H) xs ps)
    (q : ∀ ys us u, us.Perm ps → us.Pairwise (fun a b => SrtO.lexB b a = false) → Paired (P2 H) ys us → H u = none → Q (.ref u) (upd H u (.lst ys))) : rSortedPO K [.ref a] H Q := by
  refine ⟨a, xs, kpV H, rfl, h, fun x hx => ?_, fun ys u hs hb nu => ?_⟩
  · obtain ⟨b, _, hp⟩ := pMem p hx
    rw [kpV_of hp]
    exact hp
  · obtain ⟨us, h1, h2⟩ := pPerm hb.perm p
    refine q ys us u h1 ?_ h2 nu
    rw [List.pairwise_iff_getElem]
    intro i j hi hj hij
    obtain ⟨v1, e1, k1⟩ := pGet h2 (List.getElem?_eq_getElem hi)
    obtain ⟨v2, e2, k2⟩ := pGet h2 (List.getElem?_eq_getElem hj)
    obtain ⟨l1, z1⟩ := List.getElem?_eq_some_iff.mp e1
    obtain ⟨l2, z2⟩ := List.getElem?_eq_some_iff.mp e2
    have := List.pairwise_iff_getElem.mp hs i j l1 l2 hij
    rw [z1, z2] at this
    have t : SrtO.lexB (kpV H v2) (kpV H v1) = false := this
    rw [kpV_of k1, kpV_of k2] at t
    exact t
end
/-! the order of the parts -/
theorem parts_perm (W : Wd) (o : Option Int) : (W.parts o).Perm (W.names.filter fun p => decide ((W.get p).map (·.top) = some o)) := (List.mergeSort_perm _ _).filter _
theorem ord_pairs {W : Wd} {ns : List Int} {us : List (Int × Int)} (h : us.Perm ((ns.filter fun n => (shw W n).isSome).map fun n => (rkOf W n, n))) (hs : us.Pairwise fun a b => SrtO.lexB b a = false) : us = (ord W ns).map fun n => (rkOf W n, n) := by
  have hm : ∀ u ∈ us, u.1 = rkOf W u.2 := fun u hu => by
    obtain ⟨n, _, rfl⟩ := List.mem_map.mp (h.mem_iff.mp hu)
    rfl
  have e : us = (us.map (·.2)).map fun n => (rkOf W n, n) := by
    rw [List.map_map]
    conv => lhs; rw [← List.map_id us]
    refine List.map_congr_left fun u hu => ?_
    show u = (rkOf W u.2, u.2)
    rw [← hm u hu]
  have p2 : (us.map (·.2)).Perm (ns.filter fun n => (shw W n).isSome) := by
    have := h.map (·.2)
    rw [List.map_map] at this
    have e2 : List.map ((fun u : Int × Int => u.2) ∘ fun n => (rkOf W n, n)) (ns.filter fun n => (shw W n).isSome) = ns.filter fun n => (shw W n).isSome := by
      conv => rhs; rw [← List.map_id (ns.filter fun n => (shw W n).isSome)]
      rfl
    rw [e2] at this
    exact this
  rw [e]
  congr 1
  refine ord_uniq p2 ?_
  rw [List.pairwise_map]
  refine hs.imp_of_mem fun {a b} ha hb z => ?_
  rw [← hm a ha, ← hm b hb]
  exact z

/-! ### the law's: what is seen -/
def spLSeen (K : PySem.W.Frag) (f : Nat) : Sp := fun vs H Q _ => ∃ (pw : Addr) (n x y : Int) (L : WL_) (s : Sf), vs = [.ref pw, .int n, .int x, .int y] ∧ WAt K H pw L ∧ (wd L).get n = some s ∧ Ht f (wd L) n ∧ ∀ H' p rs, Same H H' → H p = none → H' p = some (.lst rs) → Paired (T3 K H') rs (seen1 f (wd L) n x y) → Q (.ref p) H'
theorem WAt.ent {K : PySem.W.Frag} {H : Hp} {pw : Addr} {L : WL_} (h : WAt K H pw L) {e : Int × Addr × Sf} (he : e ∈ L) : (wd L).get e.1 = some e.2.2 ∧ valV (kvW L) (.inl e.1) = some (.ref e.2.1) := by
  have hf : L.find? (fun x => decide (x.1 = e.1)) = some e := by
    have nn := h.nn
    clear h
    induction L with
    | nil => cases he
    | cons x L ih =>
      rw [List.find?_cons]
      rw [List.map_cons, List.nodup_cons] at nn
      rcases List.mem_cons.mp he with z | z
      · rw [← z]; simp
      · have : ¬ x.1 = e.1 := fun y => nn.1 (by rw [y]; exact List.mem_map_of_mem z)
        rw [decide_eq_false this]
        exact ih z nn.2
  exact ⟨by rw [get_find, hf]; rfl, by rw [val_find, hf]; rfl⟩
section
variable {P : Program} {w : World} {K : PySem.W.Frag} {mg : Str → Option Value} {base : Heap}
theorem ok_law_seenF (T : Tx w K mg) : ∀ f, f ≤ 3 → Cal P w K mg base (f + 1) "_law_seen" (spLSeen K f) []
  | 0, _ => mk_law_seen T (fun vs H Q E h => by obtain ⟨pw, n, x, y, L, s, rfl, _⟩ := h; rfl) (fun cdv A outer s H vs Q E hr h => by obtain ⟨_, _, _, _, _, _, _, _, _, z, _⟩ := h; exact z.elim)
  | f + 1, hf => by
    have ih := ok_law_seenF T f (by omega)
    refine mk_law_seen T (fun vs H Q E h => ?_) (fun cdv A outer s H vs Q E hr h => ?_)
    · obtain ⟨pw, n, x, y, L, s, rfl, _⟩ := h
      rfl
    · obtain ⟨pw, n, x, y, L, s, rfl, hW, gn, hT, q⟩ := h
      refine ⟨_, (pss_cons (ps_set (i := 4) sc_law_seen.nd rfl (.inl rfl) (pe_dget (hu_of hr) (pe_dget (hu_of hr) (pv 0) (pv 1) (fun _ _ => rfl)) pe_str (fun _ _ => rfl)))
  (pss_cons (ps_if (PW.pt (pw_or (pt_cmpR o_isN (pv 4) pe_non (nomark _)) (pw_or1 (pt_val (pe_ix ix_tup (pv 4) pe_int (fun _ _ => rfl)))))) (pss_one (ps_ret (pe_lst pa_nil))) pss_nil)
  (pss_cons (ps_set (i := 5) sc_law_seen.nd rfl (.inl rfl) (pe_lst (pa_cons (pe_tup (pa_cons (pv 1) (pa_cons (pe_op op_add (pv 2) (pe_ix ix_tup (pv 4) pe_int (fun _ _ => rfl))) (pa_cons (pe_op op_add (pv 3) (pe_ix ix_tup (pv 4) pe_int (fun _ _ => rfl))) pa_nil)))) pa_nil)))
  (pss_cons (ps_lock (ps_setLc (i := 6) (own := [("_law_one", 7)]) rfl sc_law_seen.nd rfl rfl (sw_true rfl rfl rfl (by decide +kernel)) (pi_keys (pv 0)) (blkOk_by (N := N_law_seen) (sc := defScope s_law_seen) (by decide +kernel)) (fun _ _ _ _ _ => (pg_name (i := 7) sc_law_seen.nd rfl (.inl rfl))) (fun _ _ _ _ _ => pts_one (PW.pt (pw_and (pt_cmpR op_eq (pe_dget (hu_of hr) (pe_dget (hu_of hr) (pv 0) (pv 7) (fun _ _ => rfl)) pe_str (fun _ _ => rfl)) (pv 1) (nomark _)) (pw_and1 (pt_cmpR o_notN (pe_dget (hu_of hr) (pe_dget (hu_of hr) (pv 0) (pv 7) (fun _ _ => rfl)) pe_str (fun _ _ => rfl)) pe_non (nomark _)))))) (fun _ _ _ _ _ => (pv 7))))
  (pss_cons (ps_for PassesOwn.never rfl (pi_list (pe_callB cr_sortedPO (by rfl) (f_sorted T) (by decide +kernel) (pa_cons (pe_lc (own := [("_law_one", 7)]) rfl sc_law_seen.nd (pi_list (pv 6)) (blkOk_by (N := N_law_seen) (sc := defScope s_law_seen) (by decide +kernel)) (fun _ _ _ _ _ => (pg_name (i := 7) sc_law_seen.nd rfl (.inl rfl))) (fun _ _ _ _ _ => pts_nil) (fun _ _ _ _ _ => (pe_tup (pa_cons (pe_ix (ixTK (K := K)) (pe_dget (hu_of hr) (pe_dget (hu_of hr) (pv 0) (pv 7) (fun _ _ => rfl)) pe_str (fun _ _ => rfl)) pe_int (fun _ _ => rfl)) (pa_cons (pv 7) pa_nil))))) pa_nil))) (pg_tup (n := 2) rfl (pgs_cons (pg_name (i := 8) sc_law_seen.nd rfl (.inl rfl)) (pgs_cons (pg_name (i := 9) sc_law_seen.nd rfl (.inl rfl)) pgs_nil))) (pss_one (ps_set (i := 5) sc_law_seen.nd rfl (.inl rfl) (pe_op op_cat (pv 5) (pe_c ih hr (by omega) rfl (pa_cons (pv 0) (pa_cons (pv 9) (pa_cons (pe_op op_add (pv 2) (pe_ix ix_tup (pv 4) pe_int (fun _ _ => rfl))) (pa_cons (pe_op op_add (pv 3) (pe_ix ix_tup (pv 4) pe_int (fun _ _ => rfl))) pa_nil)))))))))
  (pss_one (ps_ret (pv 5)))))))), ?_⟩
      rw [st_law_seen]
      obtain ⟨d, md, ev, vp, vr, vs, hd, hp1, hp2, hsh⟩ := hW.get gn
      wtm_at "go"
      refine iDGIz (rdM hW.at_) ev ?_
      wtm_at "go"
      refine iDGS (v := vs) hd rfl ?_
      wtm_at "go"
      have es1 : seen1 (f + 1) (wd L) n x y = match s.shown with | none => [] | some k => if k.veiled = true then [] else (n, x + k.x, y + k.y) :: (ord (wd L) ((wd L).parts (some n))).flatMap fun p => seen1 f (wd L) p (x + k.x) (y + k.y) := by
        show (match shw (wd L) n with | none => [] | some k => _) = _
        unfold shw
        rw [gn]
        rfl
      have nil : seen1 (f + 1) (wd L) n x y = [] → ∀ p, H p = none → Q (.ref p) (upd H p (.lst [])) := fun e p np => q _ p [] (same_new np) np upd_same (by rw [e]; exact .nil)
      cases esh : s.shown with
      | none =>
        rw [esh] at hsh es1
        cases (show vs = .non from hsh)
        wtm_at "go"
        exact nil es1
      | some k =>
        rw [esh] at hsh es1
        have es1 : seen1 (f + 1) (wd L) n x y = if k.veiled = true then [] else (n, x + k.x, y + k.y) :: (ord (wd L) ((wd L).parts (some n))).flatMap fun p => seen1 f (wd L) p (x + k.x) (y + k.y) := es1
        obtain ⟨lk, vm, rfl, hlk, hmk⟩ := (show LkT K H vs k from hsh)
        wtm_at "go"
        cases evl : k.veiled with
        | true =>
          rw [evl] at hlk es1
          wtm_at "go"
          exact nil es1
        | false =>
          rw [evl] at hlk
          have es2 : seen1 (f + 1) (wd L) n x y = (n, x + k.x, y + k.y) :: (ord (wd L) ((wd L).parts (some n))).flatMap fun p => seen1 f (wd L) p (x + k.x) (y + k.y) := by rw [es1, evl]; rfl
          wtm_at "go"
          intro t nt
          wtm_at "go"
          intro fa nfa
          have s1 := (same_new (o := .tup [.int n, .int (x + k.x), .int (y + k.y)]) nt).trans (same_new (o := .lst [.ref t]) nfa)
          have nfaH : H fa = none := (same_new nt).free nfa
          have hfa : upd (upd H t (.tup [.int n, .int (x + k.x), .int (y + k.y)])) fa (.lst [.ref t]) fa = some (.lst [.ref t]) := upd_same
          have ht1 : T3 K (upd (upd H t (.tup [.int n, .int (x + k.x), .int (y + k.y)])) fa (.lst [.ref t])) (.ref t) (n, x + k.x, y + k.y) := ⟨t, rfl, sqT_same (same_new nfa) (SqT.of upd_same)⟩
          show gName _ _ _ (upd (upd H t (.tup [.int n, .int (x + k.x), .int (y + k.y)])) fa (.lst [.ref t])) _
          generalize upd (upd H t (.tup [.int n, .int (x + k.x), .int (y + k.y)])) fa (.lst [.ref t]) = H1 at s1 hfa ht1
          have W1 := hW.same s1
          wtm_at "go"
          refine iLock W1.at_ fun od => ?_
          have fF : Fr [pw] H1 (upd H1 pw (.frz od (.dK (kvW L)))) := Fr.set W1.at_ rfl (by simp)
          have hpF : upd H1 pw (.frz od (.dK (kvW L))) pw = some (.frz od (.dK (kvW L))) := upd_same
          have un : ∀ H', Same (upd H1 pw (.frz od (.dK (kvW L)))) H' → Same H1 (upd H' pw (.dK (kvW L))) := fun H' s => same_unlock W1.at_ s
          generalize upd H1 pw (.frz od (.dK (kvW L))) = HF at fF hpF un
          wtm_at "go"
          refine iWKy ?_
          wtm_at "go"
          refine gWKy hpF ?_
          intro D nD
          have Dpw : pw ≠ D := ne_of_none hpF nD
          have hnl : (wd L).names.length ≤ 10 := by rw [wd_names, List.length_map]; exact hW.le
          refine eLcW (L := L) (fun i H' => Fr [D] HF H' ∧ H' D = some (.lst ((((wd L).names.take i).filter fun p => decide (((wd L).get p).map (·.top) = some (some n)) && (shw (wd L) p).isSome).map V.int))) ?_ ?_ ?_ ?_
          · exact ⟨Fr.new nD, upd_same⟩
          · rintro i H' _ ⟨f, _⟩
            exact f.at_ _ _ hpF (by simpa using Dpw)
          · rintro i e H2 ee ⟨f2, hD2⟩
            have he := List.mem_of_getElem? ee
            obtain ⟨ge, ve⟩ := hW.ent he
            have en : (wd L).names[i]? = some e.1 := by rw [wd_names, List.getElem?_map, ee]; rfl
            obtain ⟨vp2, vr2, vs2, hd2, _, _, hs2⟩ := W1.each e he
            have ned : e.2.1 ≠ pw := hW.ne e he
            have hdF := fF.at_ _ _ hd2 (by simpa using ned)
            have hd3 := f2.at_ _ _ hdF (by simpa using ne_of_none hdF nD)
            have hs3 := (hs2.fr fF).fr f2
            have hp2 := f2.at_ _ _ hpF (by simpa using Dpw)
            have htk := take_succ en
            wtm_at "go"
            refine iDGIz (rdF hp2) ve ?_
            wtm_at "go"
            refine iDGS (v := oI e.2.2.top) hd3 rfl ?_
            wtm_at "go"
            refine iEqOI ?_
            wtm_at "go"
            first | refine iteD (fun et => ?_) (fun et => ?_) | refine iteN (fun et => ?_) (fun et => ?_) | refine ite2 (fun et => ?_) (fun et => ?_)
            · wtm_at "go"
              refine iDGIz (rdF hp2) ve ?_
              wtm_at "go"
              refine iDGS (v := vs2) hd3 rfl ?_
              wtm_at "go"
              refine iNoOL hs3 ?_
              wtm_at "go"
              cases eo : e.2.2.shown with
              | none =>
                wtm_at "go"
                refine ⟨f2, ?_⟩
                rw [hD2, htk, List.filter_append]
                have : (shw (wd L) e.1).isSome = false := by rw [shw, ge]; show (e.2.2.shown).isSome = false; rw [eo]; rfl
                simp [this]
              | some k2 =>
                wtm_at "go"
                refine ⟨_, hD2, ?_, f2.trans (Fr.set hD2 rfl (by simp)), ?_⟩
                · rw [List.length_map]
                  exact Nat.lt_of_le_of_lt (Nat.le_trans (List.length_filter_le _ _) (Nat.le_trans (by rw [List.length_take]; exact Nat.min_le_right _ _) hnl)) (by decide)
                · have : (shw (wd L) e.1).isSome = true := by rw [shw, ge]; show (e.2.2.shown).isSome = true; rw [eo]; rfl
                  rw [upd_same, htk, List.filter_append, List.map_append]
                  simp [this, ge, et]
            · wtm_at "go"
              refine ⟨f2, ?_⟩
              rw [hD2, htk, List.filter_append]
              simp [ge, et]
          · rintro H2 ⟨f2, hD2⟩
            have el : L.length = (wd L).names.length := by rw [wd_names, List.length_map]
            rw [el, List.take_of_length_le (Nat.le_refl _)] at hD2
            have sF2 : Same HF H2 := U.Same.step (Same.refl HF) f2 fun x hx => by rw [List.mem_singleton.mp hx]; exact nD
            have s13 := un H2 sF2
            wtm_at "go"
            refine ⟨f2.at_ _ _ hpF (by simpa using Dpw), ?_⟩
            have hD3 : upd H2 pw (.dK (kvW L)) D = _ := (upd_ne (Ne.symm Dpw)).trans hD2
            generalize upd H2 pw (.dK (kvW L)) = H3 at s13 hD3
            generalize hps : ((wd L).names.filter fun p => decide (((wd L).get p).map (·.top) = some (some n)) && (shw (wd L) p).isSome) = ps at hD3
            have hpm : ∀ m ∈ ps, m ∈ (wd L).names ∧ ((wd L).get m).map (·.top) = some (some n) ∧ (shw (wd L) m).isSome = true := fun m hm => by
              rw [← hps, List.mem_filter, Bool.and_eq_true, decide_eq_true_eq] at hm
              exact hm
            have hpl : ps.length ≤ 10 := by rw [← hps]; exact Nat.le_trans (List.length_filter_le _ _) hnl
            have W3 := W1.same s13
            wtm_at "go"
            intro D2 nD2
            have DD2 : D ≠ D2 := ne_of_none hD3 nD2
            refine eLcL (xs := ps.map V.int) (fun i H' => ∃ us, Fr [D2] H3 H' ∧ H' D2 = some (.lst us) ∧ Paired (P2 H') us ((ps.take i).map fun m => (rkOf (wd L) m, m))) ?_ ?_ ?_ ?_
            · exact ⟨[], Fr.new nD2, upd_same, .nil⟩
            · rintro i H' _ ⟨us, f, _⟩
              exact SqL.of (f.at_ _ _ hD3 (by simpa using DD2))
            · rintro i v H4 ex ⟨us, f4, hD4, hus⟩
              rw [List.getElem?_map] at ex
              obtain ⟨m, em, rfl⟩ := Option.map_eq_some_iff.mp ex
              obtain ⟨m1, m2, m3⟩ := hpm m (List.mem_of_getElem? em)
              have W4 := W3.fr f4 fun x hx y => by
                obtain ⟨o, e, _⟩ := fp_some W3 hx
                rw [List.mem_singleton.mp y, nD2] at e
                cases e
              obtain ⟨k3, ek3⟩ := Option.isSome_iff_exists.mp m3
              obtain ⟨sm, gm, esm⟩ := Option.bind_eq_some_iff.mp ek3
              obtain ⟨d2, _, ev2, vp2, vr2, vs2, hd2, _, _, hs2⟩ := W4.get gm
              rw [esm] at hs2
              obtain ⟨lk2, vm2, rfl, hlk2, _⟩ := (show LkT K H4 vs2 k3 from hs2)
              have erk : rkOf (wd L) m = k3.rank := by unfold rkOf; rw [ek3]
              have htk := take_succ em
              have hi : i < ps.length := (List.getElem?_eq_some_iff.mp em).1
              wtm_at "go"
              refine iDGIz (rdM W4.at_) ev2 ?_
              wtm_at "go"
              refine iDGS (v := .ref lk2) hd2 rfl ?_
              wtm_at "go"
              intro t2 nt2
              have hD5 := same_new (o := .tup [.int k3.rank, .int m]) nt2 _ _ hD4
              refine ⟨_, hD5, ?_, us ++ [.ref t2], (f4.trans (Fr.new nt2)).trans (Fr.set hD5 rfl (by simp)), upd_same, ?_⟩
              · rw [pLen hus, List.length_map, List.length_take]
                exact Nat.lt_of_le_of_lt (show _ ≤ 10 by omega) (by decide)
              · have fz : Fr [D2] (upd H4 t2 (.tup [.int k3.rank, .int m])) (upd (upd H4 t2 (.tup [.int k3.rank, .int m])) D2 (.lst (us ++ [.ref t2]))) := Fr.set hD5 rfl (by simp)
                rw [htk, List.map_append]
                exact pSnoc (pMap hus fun _ _ z => (P2.fr z (Fr.new (S := []) nt2)).fr fz) ⟨t2, rfl, fz.tu _ _ (by rw [upd_same]; show _ = some (HO.tup [V.int (rkOf (wd L) m), V.int m]); rw [erk])⟩
            · rintro H4 ⟨us, f4, hD4, hus⟩
              rw [List.length_map, List.take_of_length_le (Nat.le_refl _)] at hus
              have s34 : Same H3 H4 := U.Same.step (Same.refl H3) f4 fun x hx => by rw [List.mem_singleton.mp hx]; exact nD2
              wtm_at "go"
              refine iSortPO (SqL.of hD4) hus fun ys us2 u hp2 hs2 hys nu => ?_
              have eus : us2 = (ord (wd L) ((wd L).parts (some n))).map fun m => (rkOf (wd L) m, m) := by
                rw [ord_perm (parts_perm (wd L) (some n))]
                refine ord_pairs ?_ hs2
                rw [List.filter_filter]
                have : ps = (wd L).names.filter fun a => (shw (wd L) a).isSome && decide (((wd L).get a).map (·.top) = some (some n)) := by
                  rw [← hps]
                  congr 1
                  funext a
                  rw [Bool.and_comm]
                rw [← this]
                exact hp2
              rw [eus] at hys
              generalize ho : ord (wd L) ((wd L).parts (some n)) = os at hys es2
              have hom : ∀ m ∈ os, m ∈ (wd L).parts (some n) ∧ (shw (wd L) m).isSome = true := fun m hm => ord_mem.mp (by rw [ho]; exact hm)
              have hol : os.length ≤ 10 := by
                rw [← ho]
                exact Nat.le_trans (ord_le _ _) (Nat.le_trans (parts_le _ _) (by rw [wd, List.length_map]; exact hW.le))
              have s5 := s34.trans (same_new (o := .lst ys) nu)
              have hu5 : upd H4 u (.lst ys) u = some (.lst ys) := upd_same
              have hys5 := pMap hys fun _ _ z => P2.fr z (Fr.new (S := []) (o := .lst ys) nu)
              have s15 := s13.trans s5
              show WL _ _ (.ref u) (upd H4 u (.lst ys))
              generalize upd H4 u (.lst ys) = H5 at hu5 hys5 s15
              have hyl : ys.length = os.length := by rw [pLen hys, List.length_map]
              have hwl : (wd L).length ≤ 10 := by rw [wd, List.length_map]; exact hW.le
              wtm_at "go"
              refine eForL (xs := ys) (fun i σ H' => ∃ fa rs y7 y8 y9, σ = [some (.ref pw), some (.int n), some (.int x), some (.int y), some (.ref lk), some (.ref fa), some (.ref D), y7, y8, y9] ∧ Same H5 H' ∧ H fa = none ∧ H' fa = some (.lst rs) ∧ Paired (T3 K H') rs ((n, x + k.x, y + k.y) :: (os.take i).flatMap fun p => seen1 f (wd L) p (x + k.x) (y + k.y))) ?_ ?_ ?_ ?_
              · exact ⟨fa, [.ref t], _, _, _, rfl, Same.refl H5, nfaH, s15 _ _ hfa, .cons (ht1.fr (Fr.same (S := []) s15)) .nil⟩
              · rintro i σ H' _ ⟨_, _, _, _, _, _, s, _⟩
                exact SqL.of (s _ _ hu5)
              · rintro i v σ H6 ex ⟨fa, rs, y7, y8, y9, rfl, s6, nfa6, hfa6, hrs⟩
                obtain ⟨pr, epr, c, rfl, hc⟩ := pGetL hys5 ex
                rw [List.getElem?_map] at epr
                obtain ⟨m, em, rfl⟩ := Option.map_eq_some_iff.mp epr
                obtain ⟨m1, m2⟩ := hom m (List.mem_of_getElem? em)
                obtain ⟨sm, gm, _⟩ := mem_parts.mp m1
                have hc6 := s6 _ _ hc
                have htk := take_succ em
                have hi : i < os.length := (List.getElem?_eq_some_iff.mp em).1
                have W6 := W1.same (s15.trans s6)
                have hlk6 := sqT_same (s1.trans (s15.trans s6)) hlk
                wtm_at "go"
                refine ⟨pw, m, x + k.x, y + k.y, L, sm, rfl, W6, gm, hT m m1, fun H7 r ss s7 nr hr hss => ?_⟩
                have hfa7 := s7 _ _ hfa6
                refine gCat ⟨_, hfa7, _, hr, ?_, fun c2 nc2 => ?_⟩
                · have b1 := seen1_le f (wd L) m (x + k.x) (y + k.y) hwl
                  have b2 := flat_le (fun p => seen1 f (wd L) p (x + k.x) (y + k.y)) (bU f) (os.take i) fun p _ => seen1_le f _ p _ _ hwl
                  have b3 : (os.take i).length * bU f ≤ 10 * bU f := Nat.mul_le_mul_right _ (by rw [List.length_take]; omega)
                  have b4 : bU f ≤ bU 3 := bU_mono (by omega)
                  have b5 : bU 3 = 1111 := by decide
                  rw [pLen hrs, pLen hss, List.length_cons]
                  exact Nat.le_trans (show _ ≤ 20000 by omega) (by decide)
                · have s8 := same_new (o := .lst (rs ++ ss)) nc2
                  wtm_at "go"
                  refine ⟨c2, rs ++ ss, _, _, _, rfl, (s6.trans s7).trans s8, ?_, upd_same, ?_⟩
                  · exact Same.free ((s1.trans s15).trans (s6.trans s7)) nc2
                  · rw [htk, List.flatMap_append, List.flatMap_singleton, ← List.cons_append]
                    exact paired_app (pMap hrs fun _ _ z => T3.fr z (Fr.same (S := []) (s7.trans s8))) (pMap hss fun _ _ z => T3.fr z (Fr.same (S := []) s8))
              · rintro σ H6 ⟨fa, rs, y7, y8, y9, rfl, s6, nfa6, hfa6, hrs⟩
                rw [hyl, List.take_of_length_le (Nat.le_refl _), ← es2] at hrs
                wtm_at "go"
                exact q H6 fa rs ((s1.trans s15).trans s6) nfa6 hfa6 hrs
theorem ok_law_seen (T : Tx w K mg) : Cal P w K mg base 4 "_law_seen" (spLSeen K 3) [] := ok_law_seenF T 3 (by omega)
end

/-! ### the law's: clients laid -/
theorem fr_unlock {H H' : Hp} {S : List Addr} {d : Addr} {u v : HO} (hd : H d = some u) (m : isMut u = true) (n : d ∉ S) (f : Fr S (upd H d v) H') : Fr S H (upd H' d u) := by
  have nd : ∀ a (o : HO), H a = some o → isMut o = false → a ≠ d := fun a o e z y => by rw [y, hd] at e; rw [Option.some.inj e, z] at m; cases m
  refine ⟨fun a o e z => ?_, fun a xs e => ?_, fun a o w e => ?_, fun a e => ?_⟩
  · by_cases y : a = d
    · rw [y, upd_same, ← hd, ← y]; exact e
    · rw [upd_ne y]; exact f.at_ _ _ ((upd_ne y).trans e) z
  · have y := nd a _ e rfl
    rw [upd_ne y]; exact f.tu _ _ ((upd_ne y).trans e)
  · have y := nd a _ e rfl
    rw [upd_ne y]; exact f.fz _ _ _ ((upd_ne y).trans e)
  · have y : a ≠ d := fun y => by rw [y, upd_same] at e; cases e
    rw [upd_ne y] at e
    exact (upd_ne y).symm.trans (f.dm _ e)
structure LsAt (K : PySem.W.Frag) (H : Hp) (a : Addr) (LS : List (Addr × WL_)) : Prop where
  at_ : H a = some (.lst (LS.map fun e => V.ref e.1))
  each : ∀ e ∈ LS, WAt K H e.1 e.2
  wf : ∀ e ∈ LS, WfW (wd e.2)
  le : LS.length ≤ 5
def lws (LS : List (Addr × WL_)) : List Wd := LS.map fun e => wd e.2
def fpLs (a : Addr) (LS : List (Addr × WL_)) : List Addr := a :: LS.flatMap fun e => fpW e.1 e.2
section
variable {K : PySem.W.Frag} {H H' : Hp} {a : Addr} {LS : List (Addr × WL_)} {S : List Addr}
theorem LsAt.fr (h : LsAt K H a LS) (f : Fr S H H') (n : ∀ x ∈ fpLs a LS, x ∉ S) : LsAt K H' a LS :=
  ⟨f.at_ _ _ h.at_ (n _ (List.mem_cons_self ..)), fun e he => (h.each e he).fr f fun x hx => n x (List.mem_cons_of_mem _ (List.mem_flatMap.mpr ⟨e, he, hx⟩)), h.wf, h.le⟩
theorem LsAt.same (h : LsAt K H a LS) (s : Same H H') : LsAt K H' a LS := h.fr (Fr.same (S := []) s) fun _ _ => List.not_mem_nil
theorem LsAt.live (h : LsAt K H a LS) : ∀ x ∈ fpLs a LS, ∃ o, H x = some o ∧ isMut o = true := fun x hx => by
  rcases List.mem_cons.mp hx with z | z
  · rw [z]; exact ⟨_, h.at_, rfl⟩
  · obtain ⟨e, he, hx⟩ := List.mem_flatMap.mp z
    exact fp_some (h.each e he) hx
theorem LsAt.off (h : LsAt K H a LS) (h1 : LsAt K H' a LS) {H2 : Hp} (f : Fr S H' H2) (n : ∀ x ∈ S, H x = none) : LsAt K H2 a LS :=
  h1.fr f fun x hx z => by
    obtain ⟨o, e, m⟩ := h.live x hx
    rw [n x z] at e
    cases e
end
theorem lws_get {LS : List (Addr × WL_)} {i : Nat} {e : Addr × WL_} (h : LS[i]? = some e) : (lws LS).getD i [] = wd e.2 := by
  unfold lws
  rw [List.getD_eq_getElem?_getD, List.getElem?_map, h]
  rfl
def ltopB (W : Wd) (p : Int) : Bool := decide ((W.get p).map (·.top) = some none) && (shw W p).isSome
def ltops (W : Wd) (i j : Nat) : List (Int × Int × Int) := ((W.names.take j).filter (ltopB W)).map fun n => (rkOf W n, (i : Int), n)
theorem ltops_perm (W : Wd) (i : Nat) : (ltops W i W.names.length).Perm (topsAt W i (W.parts none)) := by
  unfold ltops topsAt
  rw [List.take_of_length_le (Nat.le_refl _)]
  refine List.Perm.map _ ?_
  have := (parts_perm W none).symm.filter fun n => (shw W n).isSome
  rw [List.filter_filter] at this
  have e : W.names.filter (ltopB W) = W.names.filter fun a => (shw W a).isSome && decide ((W.get a).map (·.top) = some none) := by
    congr 1
    funext a
    unfold ltopB
    rw [Bool.and_comm]
  rw [e]
  exact this
def spLLaid (K : PySem.W.Frag) : Sp := fun vs H Q _ => ∃ (a : Addr) (LS : List (Addr × WL_)), vs = [.ref a] ∧ LsAt K H a LS ∧ ∀ H' p rs, Same H H' → H p = none → H' p = some (.lst rs) → Paired (T4 K H') rs (laidOf (lws LS)) → Q (.ref p) H'
section
variable {P : Program} {w : World} {K : PySem.W.Frag} {mg : Str → Option Value} {base : Heap}
theorem ok_law_laid (T : Tx w K mg) : Cal P w K mg base 5 "_law_laid" (spLLaid K) [] := by
  refine mk_law_laid T (fun vs H Q E h => ?_) (fun cdv A outer s H vs Q E hr h => ?_)
  · obtain ⟨a, LS, rfl, _⟩ := h
    rfl
  · obtain ⟨a, LS, rfl, hLS, q⟩ := h
    have hwf : ∀ W ∈ lws LS, WfW W := fun W hW => by obtain ⟨e, he, rfl⟩ := List.mem_map.mp hW; exact hLS.wf e he
    have hwl : (lws LS).length = LS.length := by simp [lws]
    have hC5 := hLS.le
    refine ⟨_, (pss_cons (ps_set (i := 1) sc_law_laid.nd rfl (.inl rfl) (pe_lst pa_nil))
  (pss_cons (ps_for PassesOwn.never rfl (pi_range1 rfl (f_range T) (pa_cons (pe_callB c_len (by rfl) (f_len T) (by decide +kernel) (pa_cons (pv 0) pa_nil)) pa_nil)) (pg_name (i := 2) sc_law_laid.nd rfl (.inr rfl)) (pss_one (ps_lock (ps_for PassesOwn.never rfl (pi_keys (pe_ix ix_list (pv 0) (pv 2) (fun _ _ => rfl))) (pg_name (i := 3) sc_law_laid.nd rfl (.inl rfl)) (pss_one (ps_if (PW.pt (pw_and (pt_cmpR o_isN (pe_dget (hu_of hr) (pe_dget (hu_of hr) (pe_ix ix_list (pv 0) (pv 2) (fun _ _ => rfl)) (pv 3) (fun _ _ => rfl)) pe_str (fun _ _ => rfl)) pe_non (nomark _)) (pw_and1 (pt_cmpR o_notN (pe_dget (hu_of hr) (pe_dget (hu_of hr) (pe_ix ix_list (pv 0) (pv 2) (fun _ _ => rfl)) (pv 3) (fun _ _ => rfl)) pe_str (fun _ _ => rfl)) pe_non (nomark _))))) (pss_one (ps_expr (pe_bm PySem.F.plainAttrs_list PySem.F.slot_list_append PySem.F.type_list_append mt_append (pv 1) (pa_cons (pe_tup (pa_cons (pe_ix ix_tup (pe_dget (hu_of hr) (pe_dget (hu_of hr) (pe_ix ix_list (pv 0) (pv 2) (fun _ _ => rfl)) (pv 3) (fun _ _ => rfl)) pe_str (fun _ _ => rfl)) pe_int (fun _ _ => rfl)) (pa_cons (pv 2) (pa_cons (pv 3) pa_nil)))) pa_nil)))) pss_nil))))))
  (pss_cons (ps_set (i := 4) sc_law_laid.nd rfl (.inl rfl) (pe_lst pa_nil))
  (pss_cons (ps_for PassesOwn.never rfl (pi_list (pe_callB (cr_sortT (d := 3) (B := 16) (by decide)) (by rfl) (f_sorted T) (by decide +kernel) (pa_cons (pv 1) pa_nil))) (pg_tup (n := 3) rfl (pgs_cons (pg_name (i := 5) sc_law_laid.nd rfl (.inl rfl)) (pgs_cons (pg_name (i := 2) sc_law_laid.nd rfl (.inr rfl)) (pgs_cons (pg_name (i := 3) sc_law_laid.nd rfl (.inl rfl)) pgs_nil)))) (pss_one (ps_expr (pe_bm PySem.F.plainAttrs_list PySem.F.slot_list_extend PySem.F.type_list_extend mt_extend (pv 4) (pa_cons (pe_lc (own := [("_law_one", 6)]) rfl sc_law_laid.nd (pi_list (pe_c (ok_law_seen T) hr (by omega) rfl (pa_cons (pe_ix ix_list (pv 0) (pv 2) (fun _ _ => rfl)) (pa_cons (pv 3) (pa_cons pe_int (pa_cons pe_int pa_nil)))))) (blkOk_by (N := N_law_laid) (sc := defScope s_law_laid) (by decide +kernel)) (fun _ _ _ _ _ => (pg_name (i := 6) sc_law_laid.nd rfl (.inl rfl))) (fun _ _ _ _ _ => pts_nil) (fun _ _ _ _ _ => (pe_op (catAK (K := K)) (pe_tup (pa_cons (pv 2) pa_nil)) (pv 6)))) pa_nil)))))
  (pss_one (ps_ret (pv 4))))))), ?_⟩
    rw [st_law_laid]
    wtm_at "go"
    intro p np
    have s1 := same_new (o := .lst []) np
    have hp1 : upd H p (.lst []) p = some (.lst []) := upd_same
    show gName _ _ _ (upd H p (.lst [])) _
    generalize upd H p (.lst []) = H1 at s1 hp1
    have C1 := hLS.same s1
    have ha1 := C1.at_
    wtm_at "go"
    rw [List.length_map]
    wtm_at "go"
    refine eForR (lo := 0) (n := LS.length) (fun i σ H' => ∃ y2 y3 y4 y5 y6 xs ts, σ = [some (.ref a), some (.ref p), y2, y3, y4, y5, y6] ∧ Fr [p] H1 H' ∧ H' p = some (.lst xs) ∧ Paired (TT3 H') xs ts ∧ ts.Perm (topsTo (lws LS) i)) ?_ ?_ ?_
    · exact ⟨_, _, _, _, _, [], [], rfl, Fr.refl, hp1, .nil, .refl _⟩
    · rintro i σ H2 hi ⟨y2, y3, y4, y5, y6, xs, ts, rfl, f2, hp2, hxs, hperm⟩
      have ee := List.getElem?_eq_getElem hi
      generalize LS[i] = e at ee
      have hm := List.mem_of_getElem? ee
      have eW := lws_get ee
      have C2 := hLS.off C1 f2 fun x hx => by rw [List.mem_singleton.mp hx]; exact np
      have W2 := C2.each e hm
      wtm_at "go"
      rw [show (0 : Int) + (i : Int) = (i : Int) by omega]
      have hpw := W2.at_
      have ppw : p ≠ e.1 := fun y => by
        obtain ⟨o, eo, _⟩ := fp_some (hLS.each e hm) (List.mem_cons_self ..)
        rw [← y, np] at eo
        cases eo
      refine iLock hpw fun od => ?_
      have fF : Fr [e.1] H2 (upd H2 e.1 (.frz od (.dK (kvW e.2)))) := Fr.set hpw rfl (by simp)
      have hpF : upd H2 e.1 (.frz od (.dK (kvW e.2))) e.1 = some (.frz od (.dK (kvW e.2))) := upd_same
      have un : ∀ H', Fr [p] (upd H2 e.1 (.frz od (.dK (kvW e.2)))) H' → Fr [p] H2 (upd H' e.1 (.dK (kvW e.2))) := fun H' f => fr_unlock hpw rfl (by simpa using Ne.symm ppw) f
      have hpp : upd H2 e.1 (.frz od (.dK (kvW e.2))) p = some (.lst xs) := (upd_ne ppw).trans hp2
      have haF : upd H2 e.1 (.frz od (.dK (kvW e.2))) a = some (.lst (LS.map fun e => V.ref e.1)) := (upd_ne (ne_of C2.at_ hpw (by nofun))).trans C2.at_
      have hxsF := pMap hxs fun _ _ y => TT3.fr y fF
      generalize upd H2 e.1 (.frz od (.dK (kvW e.2))) = HF at fF hpF un hpp haF hxsF
      have pa : a ≠ p := fun y => by rw [← y, hLS.at_] at np; cases np
      have hWl : e.2.length ≤ 10 := (hLS.each e hm).le
      have enl : (wd e.2).names.length = e.2.length := by rw [wd_names, List.length_map]
      have htl := tops_le hwf i (by rw [hwl]; omega)
      have hltl : ∀ j, (ltops (wd e.2) i j).length ≤ 10 := fun j => by
        unfold ltops
        rw [List.length_map]
        exact Nat.le_trans (List.length_filter_le _ _) (by rw [List.length_take]; omega)
      wtm_at "go"
      refine iWKy ?_
      wtm_at "go"
      refine iIxL (SqL.of haF) (at_of (j := i) rfl (by rw [List.getElem?_map, ee]; rfl)) ?_
      refine gWKy hpF ?_
      refine eForW (L := e.2) (fun j σ H' => ∃ y3 xs, σ = [some (.ref a), some (.ref p), some (.int (i : Nat)), y3, y4, y5, y6] ∧ Fr [p] HF H' ∧ H' p = some (.lst xs) ∧ Paired (TT3 H') xs (ts ++ ltops (wd e.2) i j)) ?_ ?_ ?_ ?_
      · exact ⟨_, xs, rfl, Fr.refl, hpp, by show Paired _ _ (ts ++ []); rw [List.append_nil]; exact hxsF⟩
      · rintro j σ H' _ ⟨_, _, _, f, _⟩
        exact f.at_ _ _ hpF (by simpa using Ne.symm ppw)
      · rintro j g σ H3 eg ⟨y3, xs3, rfl, f3, hp3, hxs3⟩
        have hg := List.mem_of_getElem? eg
        obtain ⟨gg_, vg⟩ := (hLS.each e hm).ent hg
        have en : (wd e.2).names[j]? = some g.1 := by rw [wd_names, List.getElem?_map, eg]; rfl
        obtain ⟨vp2, vr2, vs2, hd2, _, _, hs2⟩ := W2.each g hg
        have ned : g.2.1 ≠ e.1 := (hLS.each e hm).ne g hg
        have nep : g.2.1 ≠ p := fun y => by
          obtain ⟨o, eo, _⟩ := fp_some (hLS.each e hm) (List.mem_cons_of_mem _ (List.mem_map_of_mem hg))
          rw [y, np] at eo
          cases eo
        have hd3 := f3.at_ _ _ (fF.at_ _ _ hd2 (by simpa using ned)) (by simpa using nep)
        have hs3 := (hs2.fr fF).fr f3
        have hpw3 := f3.at_ _ _ hpF (by simpa using Ne.symm ppw)
        have ha3 := f3.at_ _ _ haF (by simpa using pa)
        have htk := take_succ en
        have hix : ∀ {Q' : VK}, Q' (.ref e.1) H3 → rIxL K (.ref a) (.int (i : Nat)) H3 Q' := fun q' => iIxL (SqL.of ha3) (at_of (j := i) rfl (by rw [List.getElem?_map, ee]; rfl)) q'
        have stay : ltopB (wd e.2) g.1 = false → ltops (wd e.2) i (j + 1) = ltops (wd e.2) i j := fun z => by
          unfold ltops
          rw [htk, List.filter_append, List.filter_cons_of_neg (by rw [z]; decide)]
          simp
        wtm_at "go"
        refine hix ?_
        wtm_at "go"
        refine iDGIz (rdF hpw3) vg ?_
        wtm_at "go"
        refine iDGS (v := oI g.2.2.top) hd3 rfl ?_
        wtm_at "go"
        refine iIsOI ?_
        wtm_at "go"
        cases et : g.2.2.top with
        | some m =>
          wtm_at "go"
          refine ⟨_, xs3, rfl, f3, hp3, ?_⟩
          rw [stay (by unfold ltopB; rw [gg_]; simp [et])]
          exact hxs3
        | none =>
          wtm_at "go"
          refine hix ?_
          wtm_at "go"
          refine iDGIz (rdF hpw3) vg ?_
          wtm_at "go"
          refine iDGS (v := vs2) hd3 rfl ?_
          wtm_at "go"
          refine iNoOL hs3 ?_
          wtm_at "go"
          cases eo : g.2.2.shown with
          | none =>
            wtm_at "go"
            refine ⟨_, xs3, rfl, f3, hp3, ?_⟩
            have : (shw (wd e.2) g.1).isSome = false := by rw [shw, gg_]; show (g.2.2.shown).isSome = false; rw [eo]; rfl
            rw [stay (by unfold ltopB; rw [this, Bool.and_false])]
            exact hxs3
          | some k2 =>
            rw [eo] at hs3
            obtain ⟨lk2, vm2, rfl, hlk2, _⟩ := (show LkT K H3 vs2 k2 from hs3)
            have esh : shw (wd e.2) g.1 = some k2 := by rw [shw, gg_]; show g.2.2.shown = _; exact eo
            have erk : rkOf (wd e.2) g.1 = k2.rank := by unfold rkOf; rw [esh]
            wtm_at "go"
            refine hix ?_
            wtm_at "go"
            refine iDGIz (rdF hpw3) vg ?_
            wtm_at "go"
            refine iDGS (v := .ref lk2) hd3 rfl ?_
            wtm_at "go"
            intro t nt
            have hp4 := same_new (o := .tup [.int k2.rank, .int (i : Nat), .int g.1]) nt _ _ hp3
            wtm_at "go"
            refine gAppend ⟨_, hp4, ?_, ?_⟩
            · rw [pLen hxs3, List.length_append, hperm.length_eq]
              have := hltl j
              exact Nat.lt_of_le_of_lt (show _ ≤ 60 by omega) (by decide)
            have f5 : Fr [p] (upd H3 t (.tup [.int k2.rank, .int (i : Nat), .int g.1])) (upd (upd H3 t (.tup [.int k2.rank, .int (i : Nat), .int g.1])) p (.lst (xs3 ++ [.ref t]))) := Fr.set hp4 rfl (by simp)
            refine ⟨_, xs3 ++ [.ref t], rfl, (f3.trans (Fr.new nt)).trans f5, upd_same, ?_⟩
            have : ltops (wd e.2) i (j + 1) = ltops (wd e.2) i j ++ [(k2.rank, (i : Int), g.1)] := by
              unfold ltops
              rw [htk, List.filter_append, List.map_append, List.filter_cons_of_pos (by unfold ltopB; rw [gg_, esh]; simp [et])]
              simp [erk]
            rw [this, ← List.append_assoc]
            exact pSnoc (pMap hxs3 fun _ _ y => (TT3.fr y (Fr.new (S := []) nt)).fr f5) ⟨t, rfl, f5.tu _ _ upd_same⟩
      · rintro σ H3 ⟨y3, xs3, rfl, f3, hp3, hxs3⟩
        have f4 := un H3 f3
        refine ⟨f3.at_ _ _ hpF (by simpa using Ne.symm ppw), ?_⟩
        refine ⟨_, _, _, _, _, xs3, ts ++ ltops (wd e.2) i (wd e.2).names.length, rfl, f2.trans f4, (upd_ne ppw).trans hp3, ?_, ?_⟩
        · rw [enl]
          refine pMap hxs3 fun v t ⟨b, e1, e2⟩ => ⟨b, e1, (upd_ne fun y => ?_).trans e2⟩
          have := f3.at_ _ _ hpF (by simpa using Ne.symm ppw)
          rw [← y, e2] at this
          cases this
        · rw [topsTo_succ, eW]
          exact hperm.append (ltops_perm (wd e.2) i)
    · rintro σ H2 ⟨y2, y3, y4, y5, y6, xs, ts, rfl, f2, hp2, hxs, hperm⟩
      rw [← hwl] at hperm
      have s2 : Same H H2 := U.Same.step s1 f2 fun x hx => by rw [List.mem_singleton.mp hx]; exact np
      have C2 := hLS.same s2
      wtm_at "go"
      intro z nz
      have s3 := s2.trans (same_new (o := .lst []) nz)
      have nzH : H z = none := Same.free s2 nz
      have hz3 : upd H2 z (.lst []) z = some (.lst []) := upd_same
      have hp3 := same_new (o := .lst []) nz _ _ hp2
      have hxs3 := pMap hxs fun _ _ y => TT3.fr y (Fr.new (S := []) (o := .lst []) nz)
      show gName _ _ _ (upd H2 z (.lst [])) _
      generalize upd H2 z (.lst []) = H3 at s3 hz3 hp3 hxs3
      have hb16 : ∀ t ∈ topsTo (lws LS) (lws LS).length, In16 t := fun t ht => (tops_ok hwf (by rw [hwl]; exact hC5) _ (Nat.le_refl _) t ht).b
      wtm_at "go"
      refine iSort3 hp3 hxs3 ?_ (fun t ht => hb16 t (hperm.mem_iff.mp ht)) fun ys u hys nu => ?_
      · rw [hperm.length_eq]
        have := tops_le hwf _ (Nat.le_refl _)
        omega
      rw [sort3_perm_eq hb16 hperm] at hys
      have zu : z ≠ u := ne_of_none hz3 nu
      have s4 := s3.trans (same_new (o := .lst ys) nu)
      have nuH : H u = none := Same.free s3 nu
      have hz4 := same_new (o := .lst ys) nu _ _ hz3
      have hu4 : upd H3 u (.lst ys) u = some (.lst ys) := upd_same
      have hys4 := pMap hys fun _ _ y => TT3.fr y (Fr.new (S := []) (o := .lst ys) nu)
      show WL _ _ (.ref u) (upd H3 u (.lst ys))
      generalize upd H3 u (.lst ys) = H4 at s4 hz4 hu4 hys4
      have C4 := hLS.same s4
      have hso : ∀ t ∈ sort3 (topsTo (lws LS) (lws LS).length), TopOk (lws LS) t := fun t ht => tops_ok hwf (by rw [hwl]; exact hC5) _ (Nat.le_refl _) t ((sort3_perm _).mem_iff.mp ht)
      have hsl : (sort3 (topsTo (lws LS) (lws LS).length)).length ≤ 50 := by
        rw [(sort3_perm _).length_eq]
        have := tops_le hwf _ (Nat.le_refl _)
        omega
      wtm_at "go"
      refine eForL (xs := ys) (fun j σ H' => ∃ y2 y3 y5 y6 rs, σ = [some (.ref a), some (.ref p), y2, y3, some (.ref z), y5, y6] ∧ Fr [z] H4 H' ∧ H' z = some (.lst rs) ∧ Paired (T4 K H') rs (((sort3 (topsTo (lws LS) (lws LS).length)).take j).flatMap (seenK (lws LS)))) ?_ ?_ ?_ ?_
      · exact ⟨_, _, _, _, [], rfl, Fr.refl, hz4, .nil⟩
      · rintro j σ H' _ ⟨_, _, _, _, _, _, f, _⟩
        exact SqL.of (f.at_ _ _ hu4 (by simpa using Ne.symm zu))
      · rintro j v σ H5 ex ⟨y2, y3, y5, y6, rs, rfl, f5, hz5, hrs⟩
        obtain ⟨t, et, b, rfl, hb⟩ := pGetL hys4 ex
        have hb5 := f5.tu _ _ hb
        obtain ⟨k0, k1, ⟨sn, gn, etop⟩, hbd⟩ := hso t (List.mem_of_getElem? et)
        rw [hwl] at k1
        have ee := List.getElem?_eq_getElem k1
        generalize LS[t.2.1.toNat] = e at ee
        have hm := List.mem_of_getElem? ee
        have eW := lws_get ee
        rw [eW] at gn
        have C5 := hLS.off C4 f5 fun x hx => by rw [List.mem_singleton.mp hx]; exact nzH
        have hE := C5.each e hm
        have hWf := hLS.wf e hm
        have hrl : rs.length ≤ 50 * 1111 := by
          rw [pLen hrs]
          have a1 := flat_le (seenK (lws LS)) 1111 ((sort3 (topsTo (lws LS) (lws LS).length)).take j) fun t ht => by
            unfold seenK
            rw [List.length_map]
            obtain ⟨k0, k1, _⟩ := hso t (List.mem_of_mem_take ht)
            have eW := List.getElem_mem k1
            refine Nat.le_trans (seen1_le 3 _ _ _ _ ?_) (by decide)
            rw [List.getD_eq_getElem?_getD, List.getElem?_eq_getElem k1]
            exact (hwf _ eW).le
          exact Nat.le_trans a1 (Nat.mul_le_mul_right _ (by rw [List.length_take]; omega))
        have htk := take_succ et
        wtm_at "go"
        refine iIxL (SqL.of C5.at_) (at_of (j := t.2.1.toNat) (by omega) (by rw [List.getElem?_map, ee]; rfl)) ?_
        wtm_at "go"
        refine ⟨e.1, t.2.2, 0, 0, e.2, sn, rfl, hE, gn, hWf.ht _, fun H7 r ss s7 nr hr7 hss => ?_⟩
        have f57 : Fr [z] H4 H7 := f5.trans (Fr.same s7)
        have hz7 := s7 _ _ hz5
        have hb7 := s7 _ _ hb5
        have hrs7 := pMap hrs fun _ _ y => T4.fr y (Fr.same (S := []) s7)
        have hsl1 : ss.length ≤ 1111 := by rw [pLen hss]; exact Nat.le_trans (seen1_le 3 _ _ _ _ hWf.le) (by decide)
        wtm_at "go"
        intro D nD
        have zD : z ≠ D := ne_of_none hz7 nD
        have rD : r ≠ D := ne_of_none hr7 nD
        refine eLcL (xs := ss) (fun i H' => ∃ us, Fr [D] H7 H' ∧ H' D = some (.lst us) ∧ Paired (T4 K H') us (((seen1 3 (wd e.2) t.2.2 0 0).take i).map fun s => (t.2.1, s))) ?_ ?_ ?_ ?_
        · exact ⟨[], Fr.new nD, upd_same, .nil⟩
        · exact fun i H' _ ⟨us, f, _⟩ => SqL.of (f.at_ _ _ hr7 (by simpa using rD))
        · rintro i v H8 ex2 ⟨us, f8, hD8, hus⟩
          obtain ⟨g, eg, c, rfl, hc⟩ := pGetL hss ex2
          have hc8 := f8.sqT hc
          have hi : i < ss.length := (List.getElem?_eq_some_iff.mp ex2).1
          wtm_at "go"
          intro m nm
          have s9 := same_new (o := .tup [.int t.2.1]) nm
          wtm_at "go"
          refine iCatA (SqT.of upd_same) (sqT_same s9 hc8) (by simp [sizeLine_eq]) fun c2 HA sA hcA => ?_
          have s8A := s9.trans sA
          refine ⟨_, s8A _ _ hD8, ?_, us ++ [.ref c2], ?_, upd_same, ?_⟩
          · rw [pLen hus, List.length_map, List.length_take]
            exact Nat.lt_of_le_of_lt (show _ ≤ 1111 by omega) (by decide)
          · exact (f8.trans (Fr.same s8A)).trans (Fr.set (s8A _ _ hD8) rfl (by simp))
          · rw [take_succ eg, List.map_append]
            have fz : Fr [D] HA (upd HA D (.lst (us ++ [.ref c2]))) := Fr.set (s8A _ _ hD8) rfl (by simp)
            exact pSnoc (pMap hus fun _ _ y => (T4.fr y (Fr.same (S := []) s8A)).fr fz) ⟨c2, rfl, fz.sqT hcA⟩
        · rintro H8 ⟨us, f8, hD8, hus⟩
          rw [pLen hss, List.take_of_length_le (Nat.le_refl _)] at hus
          have hz8 := f8.at_ _ _ hz7 (by simpa using zD)
          wtm_at "go"
          refine iExtend hz8 hD8 ?_ ?_
          · rw [pLen hus, List.length_map]
            have := pLen hss
            exact Nat.le_trans (show _ ≤ 60000 by omega) (by decide)
          have f9 : Fr [z] H8 (upd H8 z (.lst (rs ++ us))) := Fr.set hz8 rfl (by simp)
          have s78 : Same H7 H8 := U.Same.step (Same.refl H7) f8 fun x hx => by rw [List.mem_singleton.mp hx]; exact nD
          wtm_at "go"
          refine ⟨_, _, _, _, rs ++ us, rfl, (f57.trans (Fr.same s78)).trans f9, upd_same, ?_⟩
          rw [htk, List.flatMap_append, List.flatMap_singleton]
          have : seenK (lws LS) t = (seen1 3 (wd e.2) t.2.2 0 0).map fun s => (t.2.1, s) := by unfold seenK; rw [eW]
          rw [this]
          exact paired_app (pMap hrs7 fun _ _ y => (T4.fr y f8).fr f9) (pMap hus fun _ _ y => T4.fr y f9)
      · rintro σ H5 ⟨y2, y3, y5, y6, rs, rfl, f5, hz5, hrs⟩
        rw [pLen hys4, List.take_of_length_le (Nat.le_refl _)] at hrs
        wtm_at "go"
        exact q H5 z rs (U.Same.step s4 f5 fun x hx => by rw [List.mem_singleton.mp hx]; exact nzH) nzH hz5 hrs
end

/-! ### marks are 0 to 9 -/
def LkN (l : Lk) : Prop := ∀ r ∈ l.marks, ∀ m ∈ r, 0 ≤ m ∧ m ≤ 9
structure SfN (s : Sf) : Prop where
  p : LkN s.pending
  r : ∀ l, s.ready = some l → LkN l
  s : ∀ l, s.shown = some l → LkN l
def NN (W : Wd) : Prop := ∀ e ∈ W, SfN e.2
theorem NN.put {W : Wd} (h : NN W) {n : Int} {f : Sf → Sf} (hf : ∀ s, SfN s → SfN (f s)) : NN (W.put n f) := fun e he => by
  obtain ⟨d, hd, rfl⟩ := List.mem_map.mp he
  split
  · exact hf _ (h d hd)
  · exact h d hd
theorem NN.puts {f : Sf → Sf} (hf : ∀ s, SfN s → SfN (f s)) : ∀ (l : List Int) (W : Wd), NN W → NN (l.foldl (fun V p => V.put p f) W)
  | [], _, h => h
  | p :: l, W, h => NN.puts hf l _ (h.put hf)
theorem NN.dels : ∀ (l : List Int) (W : Wd), NN W → NN (l.foldl (fun V p => V.del p) W)
  | [], _, h => h
  | p :: l, W, h => NN.dels l _ fun e he => h e (List.mem_filter.mp he).1
theorem sizedR_nn {r : List Int} {w : Nat} (h : ∀ m ∈ r, 0 ≤ m ∧ m ≤ 9) : ∀ m ∈ sizedR r w, 0 ≤ m ∧ m ≤ 9 := fun m hm => by
  rcases List.mem_append.mp (List.mem_of_mem_take hm) with z | z
  · exact h m z
  · rw [(List.mem_replicate.mp z).2]; omega
theorem getD_nn {M : List (List Int)} (h : ∀ r ∈ M, ∀ m ∈ r, 0 ≤ m ∧ m ≤ 9) (k : Nat) : ∀ m ∈ M.getD k [], 0 ≤ m ∧ m ≤ 9 := fun m hm => by
  rw [List.getD_eq_getElem?_getD] at hm
  cases e : M[k]? with
  | none => rw [e] at hm; cases hm
  | some r => rw [e] at hm; exact h r (List.mem_of_getElem? e) m hm
theorem pend_nn {l : Lk} (h : LkN l) {t : Lt} (ok : t.ok) {k : Lk} (e : pend l t = some k) : LkN k := by
  unfold pend at e
  split at e
  · cases e
    intro r hr
    obtain ⟨y, _, rfl⟩ := List.mem_map.mp hr
    exact sizedR_nn (getD_nn h y)
  · split at e
    · cases e
    · cases e
      rename_i n x y w hh c _
      have hc : 0 ≤ c ∧ c ≤ 9 := ok.2.2.2.2.2
      intro r hr m hm
      obtain ⟨k, _, rfl⟩ := List.mem_map.mp hr
      split at hm
      · rcases List.mem_append.mp hm with z | z
        · rcases List.mem_append.mp z with z | z
          · exact getD_nn h k m (List.mem_of_mem_take z)
          · rw [(List.mem_replicate.mp z).2]; exact hc
        · exact getD_nn h k m (List.mem_of_mem_drop z)
      · exact getD_nn h k m hm
  all_goals (cases e; exact h)
theorem NN.does {W : Wd} (h : NN W) {l : Lt} (hl : l.ok) {r : Wd × List Int × List Int} (e : does W l = some r) : NN r.1 := by
  have chg : ∀ l : Lt, l.ok → (match W.get l.name with | none => none | some s => (pend s.pending l).map fun k => ((W.put l.name fun s => { s with pending := k }), ([] : List Int), ([] : List Int))) = some r → NN r.1 := fun l hl e => by
    cases g : W.get l.name with
    | none => rw [g] at e; cases e
    | some s =>
      rw [g] at e
      obtain ⟨k, e1, e2⟩ := Option.map_eq_some_iff.mp e
      rw [← e2]
      have hk := pend_nn (h _ (get_mem g)).p hl e1
      exact h.put (f := fun s => { s with pending := k }) fun s hs => ⟨hk, hs.r, hs.s⟩
  cases l with
  | make n =>
    have e : (if (W.get n).isSome = true then none else some (W ++ [(n, Sf.new)], [], [])) = some r := e
    by_cases g : (W.get n).isSome = true
    · rw [if_pos g] at e; cases e
    · rw [if_neg g] at e
      cases e
      intro x hx
      rcases List.mem_append.mp hx with z | z
      · exact h x z
      · rw [List.mem_singleton.mp z]
        refine ⟨fun r hr m hm => ?_, (fun l e => by cases e), (fun l e => by cases e)⟩
        rw [List.mem_singleton.mp (show r ∈ [[0]] from hr)] at hm
        rw [List.mem_singleton.mp hm]
        omega
  | drop n =>
    have e : (if (W.get n).isSome = true then some (doDrop W n, [], under 3 W n) else none) = some r := e
    by_cases g : (W.get n).isSome = true
    · rw [if_pos g] at e; cases e; exact NN.dels _ _ h
    · rw [if_neg g] at e; cases e
  | tie n o =>
    have e : (if mayTie W n o = true then some (W.put n fun s => { s with top := some o }, [], []) else none) = some r := e
    by_cases g : mayTie W n o = true
    · rw [if_pos g] at e; cases e; exact h.put (f := fun s => { s with top := some o }) fun s hs => ⟨hs.p, hs.r, hs.s⟩
    · rw [if_neg g] at e; cases e
  | shw n =>
    have e : (if (W.get n).isSome = true then some ((doShow W n).1, (doShow W n).2, []) else none) = some r := e
    by_cases g : (W.get n).isSome = true
    · rw [if_pos g] at e
      cases e
      have h1 : NN (W.put n fun s => { s with ready := some s.pending }) := h.put fun s hs => ⟨hs.p, fun l e => by cases e; exact hs.p, hs.s⟩
      show NN (doShow W n).1
      unfold doShow
      cases (W.get n).bind (·.top) with
      | some _ => exact h1
      | none => exact NN.puts (f := showOne) (fun s hs => ⟨hs.p, (fun l e => by cases e), hs.r⟩) _ _ h1
    · rw [if_neg g] at e; cases e
  | hold n =>
    have e : (if (W.get n).isSome = true then some (W, [], []) else none) = some r := e
    by_cases g : (W.get n).isSome = true
    · rw [if_pos g] at e; cases e; exact h
    · rw [if_neg g] at e; cases e
  | lt => cases e; exact h
  | size n a b => exact chg (.size n a b) hl e
  | paint n a b c d f => exact chg (.paint n a b c d f) hl e
  | place n a b => exact chg (.place n a b) hl e
  | rank n a => exact chg (.rank n a) hl e
  | veil n => exact chg (.veil n) hl e
  | unveil n => exact chg (.unveil n) hl e
theorem aloneG_nn : ∀ (ls : List Lt) (W : Wd), NN W → (∀ l ∈ ls, Lt.ok l) → NN (aloneG W ls)
  | [], _, h, _ => h
  | l :: ls, W, h, hl => by
    show NN (match does W l with | some r => aloneG r.1 ls | none => [])
    cases e : does W l with
    | none => intro x hx; cases hx
    | some r => exact aloneG_nn ls _ (h.does (hl l (List.mem_cons_self ..)) e) fun z hz => hl z (List.mem_cons_of_mem _ hz)
theorem alone_nn {ls : List Lt} (h : ∀ l ∈ ls, Lt.ok l) : NN (alone ls) := aloneG_nn ls [] (fun x hx => by cases hx) h
/-! a cell by the law's test -/
theorem markAt_in {M : List (List Int)} {l t x y : Int} (h1 : 0 ≤ y - t) (h2 : 0 ≤ x - l) : markAt M l t x y = (M.getD (y - t).toNat []).getD (x - l).toNat 0 := by
  unfold markAt
  rw [if_pos ⟨h1, h2⟩]
/-! grids that grow -/
section
variable {K : PySem.W.Frag} {H H1 H' : Hp} {a r : Addr} {rs : List Addr} {w h : Nat} {g : Int → Int → Cell}
theorem GM.nil (e : H a = some (.lst [])) : GM H a [] w 0 g := ⟨e, rfl, fun y r hr => by simp at hr, by simp⟩
theorem GO.nil (e : H a = some (.lst [])) : GO K H a [] w 0 g := ⟨e, rfl, fun y r hr => by simp at hr, by simp⟩
theorem snoc_get {rs : List Addr} {r q : Addr} {y : Nat} (h : (rs ++ [r])[y]? = some q) : (y < rs.length ∧ rs[y]? = some q) ∨ (y = rs.length ∧ q = r) := by
  rw [List.getElem?_append] at h
  split at h
  · rename_i z; exact .inl ⟨z, h⟩
  · rename_i z
    rw [List.getElem?_singleton] at h
    split at h
    · rename_i z2; exact .inr ⟨by omega, (Option.some.inj h).symm⟩
    · cases h
theorem GM.push (x : GM H a rs w h g) (s : Same H H1) (n : H r = none) (e : H1 r = some (.lst (List.replicate w (.int 0)))) : GM (upd H1 a (.lst (rs.map V.ref ++ [V.ref r]))) a (rs ++ [r]) w (h + 1) (fun x y => if y = (h : Int) then none else g x y) := by
  have nr : r ≠ a := fun z => by rw [z, x.at_] at n; cases n
  have nrr : r ∉ rs := fun z => by
    obtain ⟨o, e, _⟩ := x.live r (List.mem_cons_of_mem _ z)
    rw [n] at e
    cases e
  obtain ⟨n1, n2⟩ := List.nodup_cons.mp x.nd
  refine ⟨by rw [upd_same, List.map_append]; rfl, by rw [List.length_append, x.len]; rfl, fun y q hq => ?_, ?_⟩
  · rcases snoc_get hq with ⟨hy, hq⟩ | ⟨hy, hq⟩
    · rw [upd_ne fun z => n1 (by rw [← z]; exact List.mem_of_getElem? hq), s _ _ (x.row y q hq)]
      congr 2
      refine List.map_congr_left fun i _ => ?_
      rw [if_neg (by have := x.len; omega)]
    · subst hq
      rw [upd_ne nr, e]
      congr 2
      have hy : (y : Int) = (h : Int) := by have := x.len; omega
      simp only [hy, if_true]
      rw [List.map_const', List.length_range]
      rfl
  · rw [List.nodup_cons, List.nodup_append]
    refine ⟨fun z => ?_, n2, by simp, fun b hb c hc z => ?_⟩
    · rcases List.mem_append.mp z with z | z
      · exact n1 z
      · exact nr (List.mem_singleton.mp z).symm
    · rw [List.mem_singleton.mp hc] at z
      exact nrr (by rw [← z]; exact hb)
theorem GO.push (x : GO K H a rs w h g) (s : Same H H1) (n : H r = none) (e : H1 r = some (.lst (List.replicate w .non))) : GO K (upd H1 a (.lst (rs.map V.ref ++ [V.ref r]))) a (rs ++ [r]) w (h + 1) (fun x y => if y = (h : Int) then none else g x y) := by
  have nr : r ≠ a := fun z => by rw [z, x.at_] at n; cases n
  have nrr : r ∉ rs := fun z => by
    obtain ⟨o, e, _⟩ := x.live r (List.mem_cons_of_mem _ z)
    rw [n] at e
    cases e
  have fz : Fr [a] H1 (upd H1 a (.lst (rs.map V.ref ++ [V.ref r]))) := Fr.set (s _ _ x.at_) rfl (by simp)
  obtain ⟨n1, n2⟩ := List.nodup_cons.mp x.nd
  refine ⟨by rw [upd_same, List.map_append]; rfl, by rw [List.length_append, x.len]; rfl, fun y q hq => ?_, ?_⟩
  · rcases snoc_get hq with ⟨hy, hq⟩ | ⟨hy, hq⟩
    · obtain ⟨vs, e1, e2, e3⟩ := x.row y q hq
      refine ⟨vs, (upd_ne fun z => n1 (by rw [← z]; exact List.mem_of_getElem? hq)).trans (s _ _ e1), e2, fun i v hv => ?_⟩
      rw [if_neg (by have := x.len; omega)]
      exact ((e3 i v hv).fr (Fr.same (S := []) s)).fr fz
    · subst hq
      refine ⟨_, (upd_ne nr).trans e, List.length_replicate, fun i v hv => ?_⟩
      have hy : (y : Int) = (h : Int) := by have := x.len; omega
      rw [if_pos hy]
      obtain ⟨_, z⟩ := List.getElem?_eq_some_iff.mp hv
      rw [List.getElem_replicate] at z
      exact z.symm
  · rw [List.nodup_cons, List.nodup_append]
    refine ⟨fun z => ?_, n2, by simp, fun b hb c hc z => ?_⟩
    · rcases List.mem_append.mp z with z | z
      · exact n1 z
      · exact nr (List.mem_singleton.mp z).symm
    · rw [List.mem_singleton.mp hc] at z
      exact nrr (by rw [← z]; exact hb)
end

/-! ### the law's screen -/
structure GrL (K : PySem.W.Frag) (H H' : Hp) (pm po : Addr) (ms os : List Addr) (w h : Nat) (g : Int → Int → Cell) : Prop where
  m : GM H' pm ms w h g
  o : GO K H' po os w h g
  s : Same H H'
  n : ∀ x ∈ pm :: ms ++ po :: os, H x = none
  dj : ∀ x ∈ pm :: ms, x ∉ po :: os
section
variable {K : PySem.W.Frag} {H H' H2 : Hp} {pm po : Addr} {ms os : List Addr} {w h : Nat} {g g' : Int → Int → Cell}
theorem GrL.congr (x : GrL K H H' pm po ms os w h g) (e : ∀ x y : Nat, x < w → y < h → g x y = g' x y) : GrL K H H' pm po ms os w h g' := ⟨x.m.congr e, x.o.congr e, x.s, x.n, x.dj⟩
theorem GrL.same (x : GrL K H H' pm po ms os w h g) (s : Same H' H2) : GrL K H H2 pm po ms os w h g := ⟨x.m.fr (Fr.same (S := []) s) fun _ _ => List.not_mem_nil, x.o.fr (Fr.same (S := []) s) fun _ _ => List.not_mem_nil, x.s.trans s, x.n, x.dj⟩
/-- one row more, in both -/
theorem GrL.push (x : GrL K H H' pm po ms os w h g) {Ha Hb : Hp} {r r2 : Addr} (s1 : Same H' Ha) (n1 : H' r = none) (e1 : Ha r = some (.lst (List.replicate w (.int 0)))) (s2 : Same (upd Ha pm (.lst (ms.map V.ref ++ [V.ref r]))) Hb) (n2 : upd Ha pm (.lst (ms.map V.ref ++ [V.ref r])) r2 = none) (e2 : Hb r2 = some (.lst (List.replicate w .non))) :
    GrL K H (upd Hb po (.lst (os.map V.ref ++ [V.ref r2]))) pm po (ms ++ [r]) (os ++ [r2]) w (h + 1) (fun x y => if y = (h : Int) then none else g x y) := by
  have fa : Fr [pm] Ha (upd Ha pm (.lst (ms.map V.ref ++ [V.ref r]))) := Fr.set (s1 _ _ x.m.at_) rfl (by simp)
  have gm1 := x.m.push s1 n1 e1
  have pmo : ∀ z ∈ po :: os, z ∉ [pm] := fun z hz y => x.dj pm (List.mem_cons_self ..) (by rw [← List.mem_singleton.mp y]; exact hz)
  have go1 := (x.o.fr (Fr.same (S := []) s1) fun _ _ => List.not_mem_nil).fr fa pmo
  have fb : Fr [po] Hb (upd Hb po (.lst (os.map V.ref ++ [V.ref r2]))) := Fr.set (s2 _ _ go1.at_) rfl (by simp)
  have go2 := go1.push s2 n2 e2
  have liveA : ∀ z, H' z = none → z ∉ pm :: ms ∧ z ∉ po :: os := fun z hz => ⟨(fun y => by obtain ⟨o, e, _⟩ := x.m.live z y; rw [hz] at e; cases e), (fun y => by obtain ⟨o, e, _⟩ := x.o.live z y; rw [hz] at e; cases e)⟩
  have n2' : H' r2 = none := s1.free (fa.free n2)
  have nr2 : r2 ≠ r := fun z => by
    have : Ha r = none := by rw [← z]; exact fa.free n2
    rw [e1] at this
    cases this
  have dj2 : ∀ z ∈ pm :: (ms ++ [r]), z ∉ po :: os := fun z hz y => by
    rcases List.mem_cons.mp hz with q | q
    · exact x.dj z (by rw [q]; exact List.mem_cons_self ..) y
    · rcases List.mem_append.mp q with q | q
      · exact x.dj z (List.mem_cons_of_mem _ q) y
      · rw [List.mem_singleton.mp q] at y
        exact (liveA r n1).2 y
  have s3 : Same H (upd Hb po (.lst (os.map V.ref ++ [V.ref r2]))) := by
    refine U.Same.step ((U.Same.step (x.s.trans s1) fa ?_).trans s2) fb ?_
    · exact fun z hz => x.n z (by rw [List.mem_singleton.mp hz]; exact List.mem_append_left _ (List.mem_cons_self ..))
    · exact fun z hz => x.n z (by rw [List.mem_singleton.mp hz]; exact List.mem_append_right _ (List.mem_cons_self ..))
  refine ⟨(gm1.fr (Fr.same (S := []) s2) fun _ _ => List.not_mem_nil).fr fb fun z hz y => dj2 z hz (by rw [List.mem_singleton.mp y]; exact List.mem_cons_self ..), go2, s3, fun z hz => ?_, fun z hz y => ?_⟩
  · rcases List.mem_append.mp hz with q | q
    · rcases List.mem_cons.mp q with q | q
      · exact x.n z (List.mem_append_left _ (by rw [q]; exact List.mem_cons_self ..))
      · rcases List.mem_append.mp q with q | q
        · exact x.n z (List.mem_append_left _ (List.mem_cons_of_mem _ q))
        · rw [List.mem_singleton.mp q]; exact Same.free x.s n1
    · rcases List.mem_cons.mp q with q | q
      · exact x.n z (List.mem_append_right _ (by rw [q]; exact List.mem_cons_self ..))
      · rcases List.mem_append.mp q with q | q
        · exact x.n z (List.mem_append_right _ (List.mem_cons_of_mem _ q))
        · rw [List.mem_singleton.mp q]; exact Same.free x.s n2'
  · rcases List.mem_cons.mp y with q | q
    · exact dj2 z hz (by rw [q]; exact List.mem_cons_self ..)
    · rcases List.mem_append.mp q with q | q
      · exact dj2 z hz (List.mem_cons_of_mem _ q)
      · rw [List.mem_singleton.mp q] at hz
        rcases List.mem_cons.mp hz with u | u
        · exact (liveA r2 n2').1 (by rw [u]; exact List.mem_cons_self ..)
        · rcases List.mem_append.mp u with u | u
          · exact (liveA r2 n2').1 (List.mem_cons_of_mem _ u)
          · exact nr2 (List.mem_singleton.mp u)
end
/-- a screen half painted, cell by cell -/
def half (g : Int → Int → Cell) (c : Cell) (i j : Int) (x y : Int) : Cell := if y < i then g x y else if x < j then g x y else if x = j then c else none
theorem half_row {g : Int → Int → Cell} {w i : Nat} {c : Cell} {x y : Nat} (hx : x < w) (hy : y < i + 1) : half g c i w x y = g x y := by
  unfold half
  by_cases h : (y : Int) < (i : Int)
  · rw [if_pos h]
  · rw [if_neg h, if_pos (by omega)]
theorem half_new {g : Int → Int → Cell} {i : Nat} {x y : Nat} (hy : y < i + 1) : (if (y : Int) = (i : Int) then none else g x y) = half g none i 0 x y := by
  unfold half
  by_cases h : (y : Int) = (i : Int)
  · rw [if_pos h, if_neg (by omega), if_neg (by omega)]
    split <;> rfl
  · rw [if_neg h, if_pos (by omega)]
theorem half_none {g : Int → Int → Cell} {i j : Int} {x y : Int} : half g none i j x y = if y < i then g x y else if x < j then g x y else none := by
  unfold half
  split
  · rfl
  · split
    · rfl
    · split <;> rfl
theorem half_next {g : Int → Int → Cell} {i j x y : Nat} (hy : y < i + 1) : half g (g j i) i j x y = half g none i ((j + 1 : Nat) : Int) x y := by
  rw [half_none]
  unfold half
  by_cases h : (y : Int) < (i : Int)
  · rw [if_pos h, if_pos h]
  · rw [if_neg h, if_neg h]
    have : (y : Int) = (i : Int) := by omega
    by_cases h2 : (x : Int) < (j : Int)
    · rw [if_pos h2, if_pos (by omega)]
    · by_cases h3 : (x : Int) = (j : Int)
      · rw [if_neg h2, if_pos h3, if_pos (by omega), h3, this]
      · rw [if_neg h2, if_neg h3, if_neg (by omega)]
theorem half_set {g : Int → Int → Cell} {c c2 : Cell} {i j x y : Nat} (hy : y < i + 1) : (if (x : Int) = (j : Int) ∧ (y : Int) = (i : Int) then c2 else half g c i j x y) = half g c2 i j x y := by
  unfold half
  by_cases h : (y : Int) < (i : Int)
  · rw [if_pos h, if_pos h, if_neg (by omega)]
  · rw [if_neg h, if_neg h]
    by_cases h2 : (x : Int) < (j : Int)
    · rw [if_pos h2, if_pos h2, if_neg (by omega)]
    · rw [if_neg h2, if_neg h2]
      by_cases h3 : (x : Int) = (j : Int)
      · rw [if_pos h3, if_pos h3, if_pos (by omega)]
      · rw [if_neg h3, if_neg h3, if_neg (by omega)]
def spLPainted (K : PySem.W.Frag) : Sp := fun vs H Q _ => ∃ (w h : Nat) (a : Addr) (LS : List (Addr × WL_)), vs = [.int w, .int h, .ref a] ∧ (1 ≤ w ∧ w ≤ 12 ∧ h ≤ 8) ∧ LsAt K H a LS ∧ (∀ W ∈ lws LS, NN W) ∧
  ∀ H' t pm po ms os, GrL K H H' pm po ms os w h (cellOf (lws LS) (laidOf (lws LS))) → SqT K H' t [.ref pm, .ref po] → Q (.ref t) H'
section
variable {P : Program} {w : World} {K : PySem.W.Frag} {mg : Str → Option Value} {base : Heap}
theorem ok_law_painted (T : Tx w K mg) : Cal P w K mg base 6 "_law_painted" (spLPainted K) [] := by
  refine mk_law_painted T (fun vs H Q E h => ?_) (fun cdv A outer s H vs Q E hr h => ?_)
  · obtain ⟨w, h, a, LS, rfl, _⟩ := h
    rfl
  · obtain ⟨wd_, hg, a, LS, rfl, ⟨w1, w2, h2⟩, hLS, hnn, q⟩ := h
    have hwf : ∀ W ∈ lws LS, WfW W := fun W hW => by obtain ⟨e, he, rfl⟩ := List.mem_map.mp hW; exact hLS.wf e he
    have hwl : (lws LS).length = LS.length := by simp [lws]
    have hC5 := hLS.le
    have hok := laid_ok hwf (by rw [hwl]; exact hC5)
    refine ⟨_, (pss_cons (ps_set (i := 3) sc_law_painted.nd rfl (.inl rfl) (pe_c (ok_law_laid T) hr (by omega) rfl (pa_cons (pv 2) pa_nil)))
  (pss_cons (ps_par rfl sc_law_painted.nd (i := 4) (j := 5) rfl rfl (by decide) rfl rfl (pa_cons (pe_lst pa_nil) (pa_cons (pe_lst pa_nil) pa_nil)) rfl)
  (pss_cons (ps_for PassesOwn.never rfl (pi_range1 rfl (f_range T) (pa_cons (pv 1) pa_nil)) (pg_name (i := 6) sc_law_painted.nd rfl (.inl rfl)) (pss_cons (ps_expr (pe_bm PySem.F.plainAttrs_list PySem.F.slot_list_append PySem.F.type_list_append mt_append (pv 4) (pa_cons (pe_op op_rep (pe_lst (pa_cons pe_int pa_nil)) (pv 0)) pa_nil)))
  (pss_cons (ps_expr (pe_bm PySem.F.plainAttrs_list PySem.F.slot_list_append PySem.F.type_list_append mt_append (pv 5) (pa_cons (pe_op op_rep (pe_lst (pa_cons pe_non pa_nil)) (pv 0)) pa_nil)))
  (pss_one (ps_for PassesOwn.never rfl (pi_range1 rfl (f_range T) (pa_cons (pv 0) pa_nil)) (pg_name (i := 7) sc_law_painted.nd rfl (.inl rfl)) (pss_one (ps_for PassesOwn.never rfl (pi_list (pv 3)) (pg_tup (n := 4) rfl (pgs_cons (pg_name (i := 8) sc_law_painted.nd rfl (.inl rfl)) (pgs_cons (pg_name (i := 9) sc_law_painted.nd rfl (.inl rfl)) (pgs_cons (pg_name (i := 10) sc_law_painted.nd rfl (.inl rfl)) (pgs_cons (pg_name (i := 11) sc_law_painted.nd rfl (.inl rfl)) pgs_nil))))) (pss_cons (ps_set (i := 12) sc_law_painted.nd rfl (.inl rfl) (pe_ix ix_tup (pe_dget (hu_of hr) (pe_dget (hu_of hr) (pe_ix ix_list (pv 2) (pv 8) (fun _ _ => rfl)) (pv 9) (fun _ _ => rfl)) pe_str (fun _ _ => rfl)) pe_int (fun _ _ => rfl)))
  (pss_one (ps_if (PW.pt (pw_and (pt_chain op_le op_lt pe_int (pe_op op_sub (pv 6) (pv 11)) (pe_callB c_len (by rfl) (f_len T) (by decide +kernel) (pa_cons (pv 12) pa_nil))) (pw_and (pt_chain op_le op_lt pe_int (pe_op op_sub (pv 7) (pv 10)) (pe_callB c_len (by rfl) (f_len T) (by decide +kernel) (pa_cons (pe_ix ix_tup (pv 12) pe_int (fun _ _ => rfl)) pa_nil))) (pw_and1 (pt_cmpR op_gt (pe_ix ix_tup (pe_ix ix_tup (pv 12) (pe_op op_sub (pv 6) (pv 11)) (fun _ _ => rfl)) (pe_op op_sub (pv 7) (pv 10)) (fun _ _ => rfl)) pe_int (nomark _)))))) (pss_cons (ps_asg (pe_ix ix_tup (pe_ix ix_tup (pv 12) (pe_op op_sub (pv 6) (pv 11)) (fun _ _ => rfl)) (pe_op op_sub (pv 7) (pv 10)) (fun _ _ => rfl)) (pg_sub (pe_ix ix_list (pv 4) (pv 6) (fun _ _ => rfl)) (pv 7) set_list))
  (pss_one (ps_asg (pe_tup (pa_cons (pv 8) (pa_cons (pv 9) pa_nil))) (pg_sub (pe_ix ix_list (pv 5) (pv 6) (fun _ _ => rfl)) (pv 7) set_list)))) pss_nil))))))))))
  (pss_one (ps_ret (pe_tup (pa_cons (pv 4) (pa_cons (pv 5) pa_nil)))))))), ?_⟩
    rw [st_law_painted]
    wtm_at "go"
    refine ⟨a, LS, rfl, hLS, fun H1 b rs s1 nb hb hrs => ?_⟩
    generalize laidOf (lws LS) = rows at hrs hok q
    have hrl : rs.length = rows.length := pLen hrs
    wtm_at "go"
    intro pm npm
    wtm_at "go"
    intro po npo
    have pmo : pm ≠ po := ne_of_none (upd_same (a := pm)) npo
    have npoH1 : H1 po = none := (same_new npm).free npo
    have s2 : Same H1 (upd (upd H1 pm (.lst [])) po (.lst [])) := (same_new npm).trans (same_new npo)
    have gr0 : GrL K H1 (upd (upd H1 pm (.lst [])) po (.lst [])) pm po [] [] wd_ 0 fun _ _ => none := by
      refine ⟨GM.nil ((upd_ne pmo).trans upd_same), GO.nil upd_same, s2, fun x hx => ?_, fun x hx y => ?_⟩
      · simp only [List.cons_append, List.nil_append, List.mem_cons, List.not_mem_nil, or_false] at hx
        rcases hx with z | z
        · rw [z]; exact npm
        · rw [z]; exact npoH1
      · rw [List.mem_singleton.mp hx] at y
        exact pmo (List.mem_singleton.mp y)
    show tNil _ (upd (upd H1 pm (.lst [])) po (.lst [])) _
    generalize upd (upd H1 pm (.lst [])) po (.lst []) = H2 at s2 gr0
    have C1 := hLS.same s1
    generalize hg_ : cellOf (lws LS) rows = g at q
    wtm_at "go"
    refine eForR (lo := 0) (n := hg) (fun i σ H' => ∃ y6 y7 y8 y9 y10 y11 y12 ms os, σ = [some (.int wd_), some (.int hg), some (.ref a), some (.ref b), some (.ref pm), some (.ref po), y6, y7, y8, y9, y10, y11, y12] ∧ GrL K H1 H' pm po ms os wd_ i g) ?_ ?_ ?_
    · exact ⟨_, _, _, _, _, _, _, [], [], rfl, gr0.congr fun x y _ hy => absurd hy (Nat.not_lt_zero _)⟩
    · rintro i σ H3 hi ⟨y6, y7, y8, y9, y10, y11, y12, ms, os, rfl, gr3⟩
      have hpm3 := gr3.m.at_
      have hml : ms.length = i := gr3.m.len
      have hol : os.length = i := gr3.o.len
      wtm_at "go"
      rw [show (0 : Int) + (i : Int) = (i : Int) by omega]
      intro z nz
      wtm_at "go"
      refine gRepL upd_same (by omega) (by omega) (by decide) fun r nr => ?_
      rw [rep_one, Int.toNat_natCast]
      have s4 := (same_new (o := .lst [.int 0]) nz).trans (same_new (o := .lst (List.replicate wd_ (.int 0))) nr)
      have nr3 : H3 r = none := (same_new nz).free nr
      have hr4 : upd (upd H3 z (.lst [.int 0])) r (.lst (List.replicate wd_ (.int 0))) r = some (.lst (List.replicate wd_ (.int 0))) := upd_same
      show tNil _ (upd (upd H3 z (.lst [.int 0])) r (.lst (List.replicate wd_ (.int 0)))) _
      generalize upd (upd H3 z (.lst [.int 0])) r (.lst (List.replicate wd_ (.int 0))) = H4 at s4 hr4
      have hpm4 := s4 _ _ hpm3
      wtm_at "go"
      refine gAppend ⟨_, hpm4, by rw [List.length_map]; exact Nat.lt_of_lt_of_le (show _ < 9 by omega) (by decide), ?_⟩
      have f5 : Fr [pm] H4 (upd H4 pm (.lst (ms.map V.ref ++ [V.ref r]))) := Fr.set hpm4 rfl (by simp)
      have hpo5 := f5.at_ _ _ (s4 _ _ gr3.o.at_) (by simpa using fun y => gr3.dj pm (List.mem_cons_self ..) (by rw [← y]; exact List.mem_cons_self ..))
      wtm_at "go"
      intro z2 nz2
      wtm_at "go"
      refine gRepL upd_same (by omega) (by omega) (by decide) fun r2 nr2 => ?_
      rw [rep_one, Int.toNat_natCast]
      have s6 := (same_new (o := .lst [.non]) nz2).trans (same_new (o := .lst (List.replicate wd_ .non)) nr2)
      have nr5 : upd H4 pm (.lst (ms.map V.ref ++ [V.ref r])) r2 = none := (same_new nz2).free nr2
      have hr6 : upd (upd (upd H4 pm (.lst (ms.map V.ref ++ [V.ref r]))) z2 (.lst [.non])) r2 (.lst (List.replicate wd_ .non)) r2 = some (.lst (List.replicate wd_ .non)) := upd_same
      show tNil _ (upd (upd (upd H4 pm (.lst (ms.map V.ref ++ [V.ref r]))) z2 (.lst [.non])) r2 (.lst (List.replicate wd_ .non))) _
      generalize upd (upd (upd H4 pm (.lst (ms.map V.ref ++ [V.ref r]))) z2 (.lst [.non])) r2 (.lst (List.replicate wd_ .non)) = H6 at s6 hr6
      have hpo6 := s6 _ _ hpo5
      wtm_at "go"
      refine gAppend ⟨_, hpo6, by rw [List.length_map]; exact Nat.lt_of_lt_of_le (show _ < 9 by omega) (by decide), ?_⟩
      have gr7 := (gr3.push s4 nr3 hr4 s6 nr5 hr6).congr fun x y _ hy => half_new hy
      generalize upd H6 po (.lst (os.map V.ref ++ [V.ref r2])) = H7 at gr7
      generalize ms ++ [r] = ms at gr7
      generalize os ++ [r2] = os at gr7
      wtm_at "go"
      refine eForR (lo := 0) (n := wd_) (fun j σ H' => ∃ y7 y8 y9 y10 y11 y12, σ = [some (.int wd_), some (.int hg), some (.ref a), some (.ref b), some (.ref pm), some (.ref po), some (.int i), y7, y8, y9, y10, y11, y12] ∧ GrL K H1 H' pm po ms os wd_ (i + 1) (half g none i j)) ?_ ?_ ?_
      · exact ⟨_, _, _, _, _, _, rfl, gr7⟩
      · rintro j σ H8 hj ⟨y7, y8, y9, y10, y11, y12, rfl, gr8⟩
        wtm_at "go"
        rw [show (0 : Int) + (j : Int) = (j : Int) by omega]
        wtm_at "go"
        have hb8 := gr8.s _ _ hb
        wtm_at "go"
        refine eForL (xs := rs) (fun l σ H' => ∃ y8 y9 y10 y11 y12, σ = [some (.int wd_), some (.int hg), some (.ref a), some (.ref b), some (.ref pm), some (.ref po), some (.int i), some (.int j), y8, y9, y10, y11, y12] ∧ GrL K H1 H' pm po ms os wd_ (i + 1) (half g (cellOf (lws LS) (rows.take l) j i) i j)) ?_ ?_ ?_ ?_
        · exact ⟨_, _, _, _, _, rfl, gr8⟩
        · rintro l σ H' _ ⟨_, _, _, _, _, _, gr⟩
          exact SqL.of (gr.s _ _ hb)
        · rintro l v σ H9 ex ⟨y8, y9, y10, y11, y12, rfl, gr9⟩
          obtain ⟨t, et, c, rfl, hc⟩ := pGetL hrs ex
          have hc9 := sqT_same gr9.s hc
          obtain ⟨k0, k1, hsh⟩ := hok t (List.mem_of_getElem? et)
          have k1' : t.1.toNat < LS.length := by simpa [lws] using k1
          have ee := List.getElem?_eq_getElem k1'
          generalize LS[t.1.toNat] = e at ee
          have hm := List.mem_of_getElem? ee
          have eW := lws_get ee
          rw [eW] at hsh
          obtain ⟨k, hk⟩ := Option.isSome_iff_exists.mp hsh
          have eM : marksOf (lws LS) t.1 t.2.1 = k.marks := by unfold marksOf; rw [eW, hk]
          obtain ⟨sn, gn, esh⟩ := Option.bind_eq_some_iff.mp hk
          have hlk := ((hLS.wf e hm).ok _ _ gn).s k esh
          have hkn := (hnn (wd e.2) (List.mem_map_of_mem (f := fun e : Addr × WL_ => wd e.2) hm) _ (get_mem gn)).s k esh
          have hR := hlk.r
          have htk := take_succ et
          have hcell : cellOf (lws LS) (rows.take (l + 1)) j i = stepM k.marks t j i (cellOf (lws LS) (rows.take l) j i) := by
            rw [htk]
            unfold cellOf
            rw [List.foldl_append]
            show stepM (marksOf (lws LS) t.1 t.2.1) t j i _ = _
            rw [eM]
          rw [hcell]
          generalize cellOf (lws LS) (rows.take l) j i = acc at gr9
          have C9 := C1.same gr9.s
          obtain ⟨d, _, ev, vp, vr, vs, hd, _, _, hs⟩ := (C9.each e hm).get gn
          rw [esh] at hs
          obtain ⟨lk, vm, rfl, hlk9, am, vsm, rfl, hq, hpr⟩ := (show LkT K H9 vs k from hs)
          have hvl : vsm.length = k.marks.length := pLen hpr
          have hR1 := hR.h1
          obtain ⟨v0, e0, r0, rfl, hr0⟩ := pGet hpr (List.getElem?_eq_getElem (i := 0) hR.h1)
          have hl0 : (k.marks[0].map V.int).length = (k.marks.headD []).length := by rw [List.length_map]; exact hR.all _ (List.getElem_mem _)
          have hno : markAt k.marks t.2.2.1 t.2.2.2 j i = 0 → GrL K H1 H9 pm po ms os wd_ (i + 1) (half g (stepM k.marks t j i acc) i j) := fun z => by rw [stepM_out z]; exact gr9
          have hpm9 := gr9.m.at_
          have hpo9 := gr9.o.at_
          wtm_at "go"
          refine iIxL (SqL.of C9.at_) (at_of (j := t.1.toNat) (by omega) (by rw [List.getElem?_map, ee]; rfl)) ?_
          wtm_at "go"
          refine iDGIz (rdM (C9.each e hm).at_) ev ?_
          wtm_at "go"
          refine iDGS (v := .ref lk) hd rfl ?_
          wtm_at "go"
          refine iteD (fun q1 => ?_) (fun q1 => ?_)
          · wtm_at "go"
            refine iteD (fun q2 => ?_) (fun q2 => ?_)
            · wtm_at "go"
              refine iteD (fun q3 => ?_) (fun q3 => ?_)
              · wtm_at "go"
                refine iIxT hq (at_of (j := 0) rfl e0) ?_
                wtm_at "go"
                refine iteD (fun q4 => ?_) (fun q4 => ?_)
                · rw [hl0] at q4
                  have hyl : ((i : Int) - t.2.2.2).toNat < k.marks.length := by omega
                  obtain ⟨v1, e1, r1, rfl, hr1⟩ := pGet hpr (List.getElem?_eq_getElem hyl)
                  have hrl1 : (k.marks[((i : Int) - t.2.2.2).toNat]).length = (k.marks.headD []).length := hR.all _ (List.getElem_mem _)
                  have hxl : ((j : Int) - t.2.2.1).toNat < (k.marks[((i : Int) - t.2.2.2).toNat]).length := by rw [hrl1]; omega
                  have hb0 := hkn _ (List.getElem_mem hyl) _ (List.getElem_mem hxl)
                  have hmk : markAt k.marks t.2.2.1 t.2.2.2 j i = (k.marks[((i : Int) - t.2.2.2).toNat])[((j : Int) - t.2.2.1).toNat] := by
                    rw [markAt_in q1 q3, List.getD_eq_getElem?_getD, List.getD_eq_getElem?_getD, List.getElem?_eq_getElem hyl]
                    show ((k.marks[((i : Int) - t.2.2.2).toNat])[((j : Int) - t.2.2.1).toNat]?).getD 0 = _
                    rw [List.getElem?_eq_getElem hxl]
                    rfl
                  have ex1 : ((k.marks[((i : Int) - t.2.2.2).toNat]).map V.int)[((j : Int) - t.2.2.1).toNat]? = some (V.int (markAt k.marks t.2.2.1 t.2.2.2 j i)) := by
                    rw [List.getElem?_map, List.getElem?_eq_getElem hxl, hmk]
                    rfl
                  generalize hmk2 : markAt k.marks t.2.2.1 t.2.2.2 j i = mk at hno ex1 hmk
                  have hb1 : 0 ≤ mk := by rw [hmk]; exact hb0.1
                  have rd1 : ∀ {Q' : VK}, Q' (.ref r1) H9 → rIxT K (.ref am) (.int ((i : Int) - t.2.2.2)) H9 Q' := fun q' => iIxT hq (at_of (j := ((i : Int) - t.2.2.2).toNat) (by omega) e1) q'
                  have rd2 : ∀ {Q' : VK}, Q' (.int mk) H9 → rIxT K (.ref r1) (.int ((j : Int) - t.2.2.1)) H9 Q' := fun q' => iIxT hr1 (at_of (j := ((j : Int) - t.2.2.1).toNat) (by omega) ex1) q'
                  wtm_at "go"
                  refine rd1 ?_
                  wtm_at "go"
                  refine rd2 ?_
                  wtm_at "go"
                  refine iteD (fun q5 => ?_) (fun q5 => ?_)
                  · have hst : stepM k.marks t j i acc = some (mk, t.1, t.2.1) := by
                      unfold stepM
                      rw [hmk2, if_pos (by omega)]
                    obtain ⟨rr, er⟩ : ∃ rr, ms[i]? = some rr := ⟨_, List.getElem?_eq_getElem (by have := gr9.m.len; omega)⟩
                    obtain ⟨oo, eo⟩ : ∃ oo, os[i]? = some oo := ⟨_, List.getElem?_eq_getElem (by have := gr9.o.len; omega)⟩
                    have m1 : rr ∈ pm :: ms := List.mem_cons_of_mem _ (List.mem_of_getElem? er)
                    have m2 : oo ∈ po :: os := List.mem_cons_of_mem _ (List.mem_of_getElem? eo)
                    wtm_at "go"
                    refine rd1 ?_
                    wtm_at "go"
                    refine rd2 ?_
                    wtm_at "go"
                    refine iIxL (SqL.of hpm9) (at_of (j := i) rfl (by rw [List.getElem?_map, er]; rfl)) ?_
                    wtm_at "go"
                    refine iSetL (gr9.m.row _ _ er) (ixN_nat (j := j) rfl (by rw [List.length_map, List.length_range]; omega)) ?_
                    have gmA := gr9.m.set (c := some (mk, t.1, t.2.1)) er hj
                    have fA : Fr [rr] H9 (upd H9 rr (.lst (((List.range wd_).map fun (x : Nat) => V.int (mkc (half g acc i j x i))).set j (.int mk)))) := Fr.set (gr9.m.row _ _ er) rfl (by simp)
                    have goA := gr9.o.fr fA fun z hz y => gr9.dj rr m1 (by rw [← List.mem_singleton.mp y]; exact hz)
                    have gmA : GM (upd H9 rr (.lst (((List.range wd_).map fun (x : Nat) => V.int (mkc (half g acc i j x i))).set j (.int mk)))) pm ms wd_ (i + 1) _ := gmA
                    generalize upd H9 rr (.lst (((List.range wd_).map fun (x : Nat) => V.int (mkc (half g acc i j x i))).set j (.int mk))) = HA at fA goA gmA
                    wtm_at "go"
                    intro u nu
                    have sB := same_new (o := .tup [.int t.1, .int t.2.1]) nu
                    have hu : SqT K (upd HA u (.tup [.int t.1, .int t.2.1])) u [.int t.1, .int t.2.1] := SqT.of upd_same
                    have gmB := gmA.fr (Fr.same (S := []) sB) fun _ _ => List.not_mem_nil
                    have goB := goA.fr (Fr.same (S := []) sB) fun _ _ => List.not_mem_nil
                    generalize upd HA u (.tup [.int t.1, .int t.2.1]) = HB at sB hu gmB goB
                    obtain ⟨us, ev2, hul, _⟩ := goB.row _ _ eo
                    wtm_at "go"
                    refine iIxL (SqL.of goB.at_) (at_of (j := i) rfl (by rw [List.getElem?_map, eo]; rfl)) ?_
                    wtm_at "go"
                    refine iSetL ev2 (ixN_nat (j := j) rfl (by rw [hul]; exact hj)) ?_
                    have goC := goB.set (c := some (mk, t.1, t.2.1)) (x0 := j) eo ev2 ⟨u, rfl, hu⟩
                    have fC : Fr [oo] HB (upd HB oo (.lst (us.set j (.ref u)))) := Fr.set ev2 rfl (by simp)
                    have gmC := gmB.fr fC fun z hz y => gr9.dj z hz (by rw [List.mem_singleton.mp y]; exact m2)
                    have sC : Same H1 (upd HB oo (.lst (us.set j (.ref u)))) := by
                      refine U.Same.step ((U.Same.step gr9.s fA ?_).trans sB) fC ?_
                      · exact fun z hz => by rw [List.mem_singleton.mp hz]; exact gr9.n _ (List.mem_append_left _ m1)
                      · exact fun z hz => by rw [List.mem_singleton.mp hz]; exact gr9.n _ (List.mem_append_right _ m2)
                    have gC : GrL K H1 (upd HB oo (.lst (us.set j (.ref u)))) pm po ms os wd_ (i + 1) _ := ⟨gmC, goC, sC, gr9.n, gr9.dj⟩
                    refine ⟨_, _, _, _, _, rfl, gC.congr fun x y _ hy => ?_⟩
                    rw [hst]
                    exact half_set hy
                  · wtm_at "go"
                    exact ⟨_, _, _, _, _, rfl, hno (by omega)⟩
                · rw [hl0] at q4
                  wtm_at "go"
                  refine ⟨_, _, _, _, _, rfl, hno (markAt_out (.inr (.inr ⟨q1, ?_⟩)))⟩
                  rw [hR.row (by omega)]
                  omega
              · wtm_at "go"
                exact ⟨_, _, _, _, _, rfl, hno (markAt_out (.inl (by omega)))⟩
            · wtm_at "go"
              exact ⟨_, _, _, _, _, rfl, hno (markAt_out (.inr (.inl (by omega))))⟩
          · wtm_at "go"
            exact ⟨_, _, _, _, _, rfl, hno (markAt_out (.inl (by omega)))⟩
        · rintro σ H9 ⟨y8, y9, y10, y11, y12, rfl, gr9⟩
          rw [hrl, List.take_of_length_le (Nat.le_refl _), hg_] at gr9
          exact ⟨_, _, _, _, _, _, rfl, gr9.congr fun x y _ hy => half_next hy⟩
      · rintro σ H8 ⟨y7, y8, y9, y10, y11, y12, rfl, gr8⟩
        exact ⟨_, _, _, _, _, _, _, ms, os, rfl, gr8.congr fun x y hx hy => half_row hx hy⟩
    · rintro σ H3 ⟨y6, y7, y8, y9, y10, y11, y12, ms, os, rfl, gr3⟩
      wtm_at "go"
      intro t nt
      have g4 := gr3.same (same_new (o := .tup [.ref pm, .ref po]) nt)
      exact q _ t pm po ms os ⟨g4.m, g4.o, s1.trans g4.s, fun x hx => Same.free s1 (g4.n x hx), g4.dj⟩ (SqT.of upd_same)
end

theorem nums_len (l : Lt) : l.nums.length ≤ 6 := by cases l <;> simp [Lt.nums]

/-! ### letters, books as data -/
def ltD (l : Lt) : PyData := .tuple (.str l.word :: l.nums.map .int)
def bkD (b : List Lt) : PyData := .list (b.map ltD)
def bksD (bs : List (List Lt)) : PyData := .list (bs.map bkD)
theorem lay_lt (l : Lt) : PyData.canLay0 (ltD l) = true := by simp [ltD, PyData.canLay0, PyData.canLayAll0, canLay_ints, word_ok]
theorem lay_all {α : Type} (f : α → PyData) (h : ∀ x, PyData.canLay0 (f x) = true) : ∀ xs : List α, PyData.canLayAll0 (xs.map f) = true
  | [] => by simp [PyData.canLayAll0]
  | x :: xs => by simp [PyData.canLayAll0, h, lay_all f h xs]
theorem dep_all {α : Type} (f : α → PyData) {n : Nat} (h : ∀ x, PyData.depth (f x) ≤ n) : ∀ xs : List α, PyData.depthAll (xs.map f) ≤ n
  | [] => by simp [PyData.depthAll]
  | x :: xs => by
    have a := h x
    have b := dep_all f h xs
    simp only [List.map_cons, PyData.depthAll]
    omega
theorem dep_lt (l : Lt) : PyData.depth (ltD l) ≤ 1 := by simp [ltD, PyData.depth, PyData.depthAll, depth_ints]
theorem dep_bk (b : List Lt) : PyData.depth (bkD b) ≤ 2 := by
  have := dep_all ltD dep_lt b
  simp only [bkD, PyData.depth]
  omega
theorem lay_bk (b : List Lt) : PyData.canLay0 (bkD b) = true := by simp [bkD, PyData.canLay0, lay_all ltD lay_lt]
theorem shaped_bk (b : List Lt) : SeqAt.shaped (bkD b) = true := by
  unfold SeqAt.shaped
  rw [lay_bk, decide_eq_true (Nat.le_trans (dep_bk b) (by decide))]
  rfl
theorem shaped_bks (bs : List (List Lt)) : SeqAt.shaped (bksD bs) = true := by
  unfold SeqAt.shaped
  have := dep_all bkD dep_bk bs
  rw [show PyData.canLay0 (bksD bs) = true by simp [bksD, PyData.canLay0, lay_all bkD lay_bk], decide_eq_true (show PyData.depth (bksD bs) ≤ 64 by simp only [bksD, PyData.depth]; omega)]
  rfl
theorem eqv_bk_nil (b : List Lt) : PyData.eqv (bkD b) (.list []) = decide (b = []) := by
  cases b with
  | nil => simp [bkD, PyData.eqv, PyData.eqvAll]
  | cons l b => simp [bkD, PyData.eqv, PyData.eqvAll]
section
variable {K : PySem.W.Frag} {H : Hp}
theorem dp_lt {v : V} {l : Lt} (h : LtT K H v l) : Dp K H v (ltD l) := by
  obtain ⟨t, rfl, h⟩ := h
  exact .tup h (.cons (.str _) (dp_ints _))
theorem dp_all {α : Type} {R : V → α → Prop} (f : α → PyData) (h : ∀ v x, R v x → Dp K H v (f x)) : ∀ {vs : List V} {xs : List α}, Paired R vs xs → DpAll K H vs (xs.map f)
  | _, _, .nil => .nil
  | _, _, .cons r t => .cons (h _ _ r) (dp_all f h t)
theorem dp_bk {v : V} {b : List Lt} (h : BkT K H v b) : Dp K H v (bkD b) := by
  obtain ⟨a, xs, rfl, h1, h2⟩ := h
  exact .lst (SqL.of h1) (dp_all ltD (fun _ _ z => dp_lt z) h2)
theorem dp_bks {a : Addr} {xs : List V} {bs : List (List Lt)} (h : H a = some (.lst xs)) (p : Paired (BkT K H) xs bs) : Dp K H (.ref a) (bksD bs) := .lst (SqL.of h) (dp_all bkD (fun _ _ z => dp_bk z) p)
theorem alk_lt (n : Nat) (l : Lt) : Alk (n + 2) (ltD l) := by
  refine .tup ?_ fun x hx => ?_
  · have := nums_len l
    rw [List.length_cons, List.length_map]
    omega
  · rcases List.mem_cons.mp hx with e | hx
    · rw [e]; exact .str _ _
    · obtain ⟨i, _, rfl⟩ := List.mem_map.mp hx
      exact .int _ _
theorem alk_bks {bs : List (List Lt)} (h : bs.length ≤ 1000) (h2 : ∀ b ∈ bs, b.length ≤ 1000) : Alk 4 (bksD bs) := by
  refine .lst (by rw [List.length_map]; omega) fun x hx => ?_
  obtain ⟨b, hb, rfl⟩ := List.mem_map.mp hx
  refine .lst (by rw [List.length_map]; have := h2 b hb; omega) fun y hy => ?_
  obtain ⟨l, _, rfl⟩ := List.mem_map.mp hy
  exact alk_lt 0 l
theorem iNeBk {p q : Addr} {xs : List V} {b : List Lt} {Q : VK} (h : H p = some (.lst xs)) (h2 : Paired (LtT K H) xs b) (h3 : H q = some (.lst [])) (k : Q (.bl (!decide (b = []))) H) : rNeD K (.ref p) (.ref q) H Q :=
  ⟨bkD b, .list [], dp_bk ⟨p, xs, rfl, h, h2⟩, .lst (SqL.of h3) .nil, shaped_bk b, by decide, by rw [eqv_bk_nil]; exact k⟩
end

/-! ### screens as data; books kept -/
theorem paired_ix {α β : Type} {R : α → β → Prop} : ∀ {as : List α} {bs : List β}, as.length = bs.length → (∀ (i : Nat) a b, as[i]? = some a → bs[i]? = some b → R a b) → Paired R as bs
  | [], [], _, _ => .nil
  | a :: as, b :: bs, h, f => .cons (f 0 a b rfl rfl) (paired_ix (by simpa using h) fun i x y e1 e2 => f (i + 1) x y (by simpa using e1) (by simpa using e2))
  | [], _ :: _, h, _ => by simp at h
  | _ :: _, [], h, _ => by simp at h
def rowD (w : Nat) (g : Int → Int → Cell) (y : Nat) : PyData := .list (((List.range w).map fun (x : Nat) => mkc (g x y)).map .int)
def gridD (w h : Nat) (g : Int → Int → Cell) : PyData := .list ((List.range h).map (rowD w g))
theorem gm_dp {K : PySem.W.Frag} {H : Hp} {a : Addr} {rs : List Addr} {w h : Nat} {g : Int → Int → Cell} (x : GM H a rs w h g) : Dp K H (.ref a) (gridD w h g) := by
  refine .lst (SqL.of x.at_) (dp_all (R := fun v (y : Nat) => ∃ r, v = V.ref r ∧ H r = some (.lst (((List.range w).map fun (x : Nat) => mkc (g x y)).map V.int))) _ (fun v y ⟨r, e, q⟩ => ?_) (paired_ix (by rw [List.length_map, List.length_range, x.len]) fun i v y e1 e2 => ?_))
  · subst e
    exact .lst (SqL.of q) (dp_ints _)
  · rw [List.getElem?_map] at e1
    obtain ⟨r, er, rfl⟩ := Option.map_eq_some_iff.mp e1
    refine ⟨r, rfl, ?_⟩
    have : y = i := by
      obtain ⟨h1, h2⟩ := List.getElem?_eq_some_iff.mp e2
      rw [List.getElem_range] at h2
      exact h2.symm
    rw [this, x.row i r er, List.map_map]
    rfl
theorem grid_alk {w h : Nat} {g : Int → Int → Cell} (hw : w ≤ 12) (hh : h ≤ 8) : Alk 4 (gridD w h g) := by
  refine .lst (by rw [List.length_map, List.length_range]; omega) fun x hx => ?_
  obtain ⟨y, _, rfl⟩ := List.mem_map.mp hx
  refine .lst (by rw [List.length_map, List.length_map, List.length_range]; omega) fun z hz => ?_
  obtain ⟨m, _, rfl⟩ := List.mem_map.mp hz
  exact .int _ _
theorem eqv_bks_nil (b : List (List Lt)) : PyData.eqv (bksD b) (.list []) = decide (b = []) := by
  cases b with
  | nil => simp [bksD, PyData.eqv, PyData.eqvAll]
  | cons l b => simp [bksD, PyData.eqv, PyData.eqvAll]
def BkS (K : PySem.W.Frag) (S : List Addr) (H : Hp) (v : V) (ls : List Lt) : Prop := ∃ b xs, v = .ref b ∧ H b = some (.lst xs) ∧ Paired (LtT K H) xs ls ∧ b ∉ S
section
variable {K : PySem.W.Frag} {H H' : Hp}
theorem iNeBks {p q : Addr} {xs : List V} {b : List (List Lt)} {Q : VK} (h : H p = some (.lst xs)) (h2 : Paired (BkT K H) xs b) (h3 : H q = some (.lst [])) (k : Q (.bl (!decide (b = []))) H) : rNeD K (.ref p) (.ref q) H Q :=
  ⟨bksD b, .list [], dp_bks h h2, .lst (SqL.of h3) .nil, shaped_bks b, by decide, by rw [eqv_bks_nil]; exact k⟩
theorem BkS.fr {S : List Addr} {v : V} {ls : List Lt} (h : BkS K S H v ls) (f : Fr S H H') : BkS K S H' v ls := let ⟨b, xs, e, h1, h2, h3⟩ := h; ⟨b, xs, e, f.at_ _ _ h1 h3, pMap h2 fun _ _ z => z.fr f, h3⟩
theorem BkS.t {S : List Addr} {v : V} {ls : List Lt} (h : BkS K S H v ls) : BkT K H v ls := let ⟨b, xs, e, h1, h2, _⟩ := h; ⟨b, xs, e, h1, h2⟩
theorem BkT.frT {v : V} {ls : List Lt} (h : BkT K H v ls) (t : LamX.Tabs (Ts K) H) (f : Fr [PT K] H H') : BkT K H' v ls := let ⟨b, xs, e, h1, h2⟩ := h; ⟨b, xs, e, f.at_ _ _ h1 (by simpa using pt_ne t h1 rfl), pMap h2 fun _ _ z => z.fr f⟩
theorem tabs_draw {ph pl : Addr} (t : LamX.Tabs (Ts K) H) (d : Drw H ph pl) (f : Fr [ph, pl] H H') : LamX.Tabs (Ts K) H' := tabs_fr t f fun a ha o e => by
  obtain ⟨m, cs, k, a1, b1, _⟩ := d
  simp only [List.mem_cons, List.not_mem_nil, or_false] at ha
  rcases ha with z | z
  · rw [z, a1] at e; obtain rfl := Option.some.inj e; rfl
  · rw [z, b1] at e; obtain rfl := Option.some.inj e; rfl
theorem tabs_lst {p : Addr} {xs : List V} {o : HO} (t : LamX.Tabs (Ts K) H) (e : H p = some (.lst xs)) : LamX.Tabs (Ts K) (upd H p o) := tabs_fr t (Fr.set (S := [p]) e rfl (by simp)) fun a ha u eu => by
  rw [List.mem_singleton.mp ha, e] at eu
  obtain rfl := Option.some.inj eu
  rfl
theorem Drw.frT {ph pl : Addr} (d : Drw H ph pl) (t : LamX.Tabs (Ts K) H) (f : Fr [PT K] H H') : Drw H' ph pl := by
  obtain ⟨m, cs, k, a1, b1, _⟩ := id d
  exact d.fr f (by simpa using pt_ne t a1 rfl) (by simpa using pt_ne t b1 rfl)
theorem GM.frT {a : Addr} {rs : List Addr} {w h : Nat} {g : Int → Int → Cell} (x : GM H a rs w h g) (t : LamX.Tabs (Ts K) H) (f : Fr [PT K] H H') : GM H' a rs w h g := x.fr f fun z hz y => by
  obtain ⟨ps, e⟩ := pt_at t
  obtain ⟨o, e2, m⟩ := x.live z hz
  rw [List.mem_singleton.mp y, e] at e2
  obtain rfl := Option.some.inj e2
  cases m
end
theorem at_last {xs : List V} {v : V} (h : xs[xs.length - 1]? = some v) : atI xs (-1) = some v := by
  have hl : 0 < xs.length := by
    cases xs with
    | nil => simp at h
    | cons a as => simp
  have e : ixN xs.length (-1) = some (xs.length - 1) := by
    unfold ixN
    rw [if_neg (by decide), if_pos (by omega)]
    congr 1
    omega
  unfold atI
  rw [e]
  exact h
theorem ix_last {n : Nat} (h : 0 < n) : ixN n (-1) = some (n - 1) := by
  unfold ixN
  rw [if_neg (by decide), if_pos (by omega)]
  congr 1
  omega
theorem pRep {α β : Type} {R : α → β → Prop} {a : α} {b : β} (h : R a b) : ∀ n, Paired R (List.replicate n a) (List.replicate n b)
  | 0 => .nil
  | n + 1 => .cons h (pRep h n)
theorem pTakeN {α β : Type} {F : α → β → Prop} : ∀ {l₁ : List α} {l₂ : List β}, Paired F l₁ l₂ → ∀ n, Paired F (l₁.take n) (l₂.take n)
  | _, _, _, 0 => by simpa using Paired.nil
  | _, _, .nil, n + 1 => .nil
  | _, _, .cons r t, n + 1 => .cons r (pTakeN t n)

/-! ### the law -/
def spLawT (K : PySem.W.Frag) : Sp := fun vs H Q _ => ∃ (a : Addr) (ns : List Int), vs = [.ref a] ∧ SqL K H a (ns.map V.int) ∧ ns.length ≤ 63 ∧ LamX.Tabs (Ts K) H ∧ ∀ H', Q (.bl true) H'
section
variable {P : Program} {w : World} {K : PySem.W.Frag} {mg : Str → Option Value} {base : Heap}
theorem ok_law_alike (T : Tx w K mg) : Cal P w K mg base 5 "_law_alike" (spAlike K 4) [] := ok_law_alikeF T 4
theorem ok_law (T : Tx w K mg) (B : Tb base K mg) {fd : FuncData} (F : FunLaw K fd) : FnOk P w K mg base CX0 20 (He.fAd K ("law", none)) fd ["_law_script"] (spLawT K) := by
  refine mk_law F (fun vs H Q E h => ?_) (fun cdv A outer s H vs Q E hr h => ?_)
  · obtain ⟨a, ns, rfl, _⟩ := h
    rfl
  · obtain ⟨a, ns, rfl, hS, hl, hT, q⟩ := h
    refine ⟨_, (pss_cons (ps_set (i := 1) sc_law.nd rfl (.inr rfl) (pe_c (ok_law_mix T) hr (by omega) rfl (pa_cons (pv 0) (pa_cons pe_int pa_nil))))
  (pss_cons (ps_for PassesOwn.never rfl (pi_range1 rfl (f_range T) (pa_cons pe_int pa_nil)) (pg_name (i := 2) sc_law.nd rfl (.inl rfl)) (pss_cons (ps_par rfl sc_law.nd (i := 3) (j := 4) rfl rfl (by decide) rfl rfl (pa_cons (pe_op op_add pe_int (pe_c (ok_law_next T) hr (by omega) rfl (pa_cons (pv 1) (pa_cons pe_int pa_nil)))) (pa_cons (pe_op op_add pe_int (pe_c (ok_law_next T) hr (by omega) rfl (pa_cons (pv 1) (pa_cons pe_int pa_nil)))) pa_nil)) rfl)
  (pss_cons (ps_setLc (i := 5) (own := [("_law_k", 6)]) rfl sc_law.nd rfl rfl (sw_true rfl rfl rfl (by decide +kernel)) (pi_range1 rfl (f_range T) (pa_cons (pe_c (ok_law_next T) hr (by omega) rfl (pa_cons (pv 1) (pa_cons pe_int pa_nil))) pa_nil)) (blkOk_by (N := N_law) (sc := defScope s_law) (by decide +kernel)) (fun _ _ _ _ _ => (pg_name (i := 6) sc_law.nd rfl (.inl rfl))) (fun _ _ _ _ _ => pts_nil) (fun _ _ _ _ _ => (pe_c (ok_law_book T) hr (by omega) rfl (pa_cons (pv 1) (pa_cons (pe_ix (ixLK (K := K)) (pe_lst (pa_cons pe_int (pa_cons pe_int (pa_cons pe_int pa_nil)))) (pe_c (ok_law_next T) hr (by omega) rfl (pa_cons (pv 1) (pa_cons pe_int pa_nil))) (fun _ _ => rfl)) pa_nil)))))
  (pss_cons (ps_if (PW.pt (pw_and (pt_cmpR (op_neD hr.units) (pv 5) (pe_lst pa_nil) (nomark _)) (pw_and1 (pt_cmpR op_eq (pe_c (ok_law_next T) hr (by omega) rfl (pa_cons (pv 1) (pa_cons pe_int pa_nil))) pe_int (nomark _))))) (pss_one (ps_asg (pe_op op_cat (pe_slice sl_list (pe_op op_cat (pe_ix ix_list (pv 5) (pe_un un_neg pe_int) (fun _ _ => rfl)) (pe_op op_rep (pe_lst (pa_cons (pe_tup (pa_cons pe_str pa_nil)) pa_nil)) pe_int)) po_none (po_some pe_int)) (pe_lst (pa_cons (pe_tup (pa_cons pe_str pa_nil)) pa_nil))) (pg_sub (pv 5) (pe_un un_neg pe_int) set_list))) pss_nil)
  (pss_cons (ps_set (i := 7) sc_law.nd rfl (.inl rfl) (pe_ix ix_tup (pe_c (ok_law_painted T) hr (by omega) rfl (pa_cons (pv 3) (pa_cons (pv 4) (pa_cons (pe_lc (own := [("_law_book_here", 8)]) rfl sc_law.nd (pi_list (pv 5)) (blkOk_by (N := N_law) (sc := defScope s_law) (by decide +kernel)) (fun _ _ _ _ _ => (pg_name (i := 8) sc_law.nd rfl (.inl rfl))) (fun _ _ _ _ _ => pts_nil) (fun _ _ _ _ _ => (pe_c (ok_law_alone T) hr (by omega) rfl (pa_cons (pv 8) pa_nil)))) pa_nil)))) pe_int (fun _ _ => rfl)))
  (pss_cons (ps_setLc (i := 9) (own := [("_law_book_here", 8)]) rfl sc_law.nd rfl rfl (sw_true rfl rfl rfl (by decide +kernel)) (pi_list (pv 5)) (blkOk_by (N := N_law) (sc := defScope s_law) (by decide +kernel)) (fun _ _ _ _ _ => (pg_name (i := 8) sc_law.nd rfl (.inl rfl))) (fun _ _ _ _ _ => pts_nil) (fun _ _ _ _ _ => (pe_callTy (listK (K := K)) (by rfl) (f_list T) (by decide +kernel) (pa_cons (pv 8) pa_nil))))
  (pss_one (ps_for PassesOwn.never rfl (pi_range1 rfl (f_range T) (pa_cons pe_int pa_nil)) (pg_name (i := 10) sc_law.nd rfl (.inl rfl)) (pss_cons (ps_set (i := 11) sc_law.nd rfl (.inl rfl) (pe_c (ok_at_rest (K := K) T B) hr (by omega) rfl (pa_cons (pv 3) (pa_cons (pv 4) (pa_cons (pv 9) pa_nil)))))
  (pss_cons (ps_if (PW.pt (pw_or (pt_not (pt_val (pe_c (ok_law_alike T) hr (by omega) rfl (pa_cons (pv 11) (pa_cons (pv 7) pa_nil))))) (pw_or1 (pt_cmpR (op_neD hr.units) (pv 9) (pv 5) (nomark _))))) (pss_one (ps_ret pe_bl)) pss_nil)
  (pss_one (ps_for PassesOwn.never rfl (pi_list (pv 11)) (pg_name (i := 12) sc_law.nd rfl (.inl rfl)) (pss_one (ps_expr (pe_bm0 PySem.F.plainAttrs_list PySem.F.slot_list_clear PySem.F.type_list_clear mt_clear (pv 12))))))))))))))))
  (pss_one (ps_ret pe_bl)))), ?_⟩
    rw [st_law]
    wtm_at "go"
    refine ⟨a, ns, 17, rfl, hS, hl, by omega, by omega, fun H1 ph pl d1 s1 n1 n2 => ?_⟩
    have hT1 := tabs_same hT s1
    wtm_at "go"
    refine eForR (lo := 0) (n := 5) (fun i σ H' => ∃ y2 y3 y4 y5 y6 y7 y8 y9 ya yb yc, σ = [some (.ref a), some (.ref ph), y2, y3, y4, y5, y6, y7, y8, y9, ya, yb, yc] ∧ Drw H' ph pl ∧ LamX.Tabs (Ts K) H') ?_ ?_ ?_
    · exact ⟨_, _, _, _, _, _, _, _, _, _, _, rfl, d1, hT1⟩
    · rintro i σ H2 hi ⟨y2, y3, y4, y5, y6, y7, y8, y9, ya, yb, yc, rfl, d2, hT2⟩
      wtm_at "go"
      refine iNx d2 (by omega) (by omega) fun H3 w0 d3 f3 w00 w01 => ?_
      have hT3 := tabs_draw hT2 d2 f3
      wtm_at "go"
      refine iNx d3 (by omega) (by omega) fun H4 h0 d4 f4 h00 h01 => ?_
      have hT4 := tabs_draw hT3 d3 f4
      obtain ⟨wn, ewn⟩ : ∃ wn : Nat, 1 + w0 = (wn : Int) := ⟨(1 + w0).toNat, by omega⟩
      obtain ⟨hn, ehn⟩ : ∃ hn : Nat, 1 + h0 = (hn : Int) := ⟨(1 + h0).toNat, by omega⟩
      have hwb : (1 ≤ wn ∧ wn ≤ 12) ∧ 1 ≤ hn ∧ hn ≤ 8 := ⟨⟨by omega, by omega⟩, by omega, by omega⟩
      refine iI0 ?_
      rw [ewn, ehn]
      wtm_at "go"
      refine iNx d4 (by omega) (by omega) fun H5 nb d5 f5 nb0 nb1 => ?_
      have hT5 := tabs_draw hT4 d4 f5
      wtm_at "go"
      intro D nD
      have hDS := d5.ne nD
      have hDp : ph ≠ D := fun z => hDS (by rw [z]; simp)
      have hDl : pl ≠ D := fun z => hDS (by rw [z]; simp)
      refine eLcR (lo := 0) (n := nb.toNat) (fun i H' => ∃ xs bs, H' D = some (.lst xs) ∧ Paired (BkS K [ph, pl, D] H') xs bs ∧ bs.length = i ∧ (∀ b ∈ bs, b.length ≤ 250) ∧ (∀ b ∈ bs, ∀ l ∈ b, Lt.ok l) ∧ Drw H' ph pl ∧ LamX.Tabs (Ts K) H') ?_ ?_ ?_
      · exact ⟨[], [], upd_same, .nil, rfl, (fun _ h => nomatch h), (fun _ h => nomatch h), d5.same (same_new nD), tabs_same hT5 (same_new nD)⟩
      · rintro i H6 hi ⟨xs, bs, hD, hps, hbl, hb40, hbok, d6, hT6⟩
        wtm_at "go"
        refine iPick [60, 60, 250] rfl d6 rfl (by simp) (by simp) fun H7 c d7 f7 hc => ?_
        have hT7 := tabs_draw hT6 d6 f7
        have hc : 0 ≤ c ∧ c ≤ 250 := by simp at hc; omega
        wtm_at "go"
        refine ⟨ph, pl, c, rfl, d7, hc.1, by omega, fun H8 b ys ls hb nb8 hps8 hok8 hle8 d8 f8 => ?_⟩
        have hT8 := tabs_draw hT7 d7 f8
        have f68 := f7.trans f8
        have hD8 := f68.at_ _ _ hD hDS
        have f9 : Fr [D] H8 (upd H8 D (.lst (xs ++ [.ref b]))) := Fr.set hD8 rfl (by simp)
        have hbD : b ≠ D := fun z => by
          have := f7.at_ _ _ hD hDS
          rw [← z, nb8] at this
          cases this
        have hbp := d7.ne nb8
        refine ⟨xs, hD8, ?_, xs ++ [.ref b], bs ++ [ls], upd_same, pSnoc (pMap hps fun _ _ z => (z.fr (f68.mono (by simp))).fr (f9.mono (by simp))) ⟨b, ys, rfl, f9.at_ _ _ hb (by simpa using hbD), pMap hps8 fun _ _ z => z.fr f9, ?_⟩, by rw [List.length_append, hbl]; rfl, fun x hx => ?_, fun x hx => ?_, d8.fr f9 (by simpa using hDp) (by simpa using hDl), tabs_lst hT8 hD8⟩
        · rw [pLen hps, hbl]
          exact Nat.lt_of_lt_of_le hi (Nat.le_trans (show _ ≤ 10 by omega) (by decide))
        · simp only [List.mem_cons, List.not_mem_nil, or_false] at hbp ⊢
          rintro (z | z | z)
          · exact hbp (.inl z)
          · exact hbp (.inr z)
          · exact hbD z
        · rcases List.mem_append.mp hx with h | h
          · exact hb40 x h
          · rw [List.mem_singleton.mp h]; omega
        · rcases List.mem_append.mp hx with h | h
          · exact hbok x h
          · rw [List.mem_singleton.mp h]; exact hok8
      · rintro H6 ⟨xs, bs, hD, hps, hbl, hb40, hbok, d6, hT6⟩
        refine nName (by wtm_at "st") ?_
        refine iSeqK (fun σ' H' => ∃ xs bs, σ' = [some (.ref a), some (.ref ph), some (.int (0 + (i : Int))), some (.int wn), some (.int hn), some (.ref D), y6, y7, y8, y9, ya, yb, yc] ∧ H' D = some (.lst xs) ∧ Paired (BkT K H') xs bs ∧ bs.length ≤ 5 ∧ (∀ b ∈ bs, b.length ≤ 250) ∧ (∀ b ∈ bs, ∀ l ∈ b, Lt.ok l) ∧ Drw H' ph pl ∧ LamX.Tabs (Ts K) H') (fun nx' kk => ?_) ?_
        · have hb5 : bs.length ≤ 5 := by omega
          have hxl := pLen hps
          wtm_at "go"
          intro e ne
          have s7 := same_new (o := .lst []) ne
          refine iNeBks (s7 _ _ hD) (pMap hps fun _ _ z => BkT.same (BkS.t z) s7) upd_same ?_
          have hD7 := s7 _ _ hD
          have hps7 := pMap hps fun _ _ z => BkS.fr z (Fr.same s7)
          have d7 := d6.same s7
          have hT7 := tabs_same hT6 s7
          generalize upd H6 e (.lst []) = H7 at hD7 hps7 d7 hT7
          wtm_at "go"
          refine iteN (fun q0 => ?_) (fun q0 => ?_)
          · wtm_at "go"
            refine iNx d7 (by omega) (by omega) fun H8 r8 d8 f8 r80 r81 => ?_
            have hT8 := tabs_draw hT7 d7 f8
            have hD8 := f8.at_ _ _ hD7 hDS
            have hps8 := pMap hps7 fun _ _ z => BkS.fr z (f8.mono (by simp))
            wtm_at "go"
            refine iteD (fun q1 => ?_) (fun q1 => ?_)
            · obtain ⟨ls, el⟩ : ∃ ls, bs[bs.length - 1]? = some ls := ⟨_, List.getElem?_eq_getElem (by have := List.length_pos_iff.mpr q0; omega)⟩
              obtain ⟨v, ev, bb, ys, rfl, hbb, hys, hbn⟩ := pGet hps8 el
              have ev : xs[xs.length - 1]? = some (.ref bb) := by rw [hxl]; exact ev
              wtm_at "go"
              refine iIxL (SqL.of hD8) (at_last ev) ?_
              wtm_at "go"
              intro u nu
              wtm_at "go"
              intro z nz
              have s9 : Same H8 (upd (upd H8 u (.tup [.str "let"])) z (.lst [V.ref u])) := (same_new nu).trans (same_new nz)
              have hz9 : upd (upd H8 u (.tup [.str "let"])) z (.lst [V.ref u]) z = some (.lst [V.ref u]) := upd_same
              have hu9 : SqT K (upd (upd H8 u (.tup [.str "let"])) z (.lst [V.ref u])) u (Lt.vs .lt) := sqT_same (same_new nz) (SqT.of upd_same)
              show tC _ _ (upd (upd H8 u (.tup [.str "let"])) z (.lst [V.ref u])) _
              generalize upd (upd H8 u (.tup [.str "let"])) z (.lst [V.ref u]) = H9 at s9 hz9 hu9
              wtm_at "go"
              refine gRepL hz9 (by omega) (by omega) (show 1 ≤ 1000 by decide) fun r nr => ?_
              rw [rep_one, show (250 : Int).toNat = 250 from rfl]
              have sA := s9.trans (same_new (o := .lst (List.replicate 250 (V.ref u))) nr)
              have hr : upd H9 r (.lst (List.replicate 250 (V.ref u))) r = some (.lst (List.replicate 250 (V.ref u))) := upd_same
              have huA := sqT_same (same_new (o := .lst (List.replicate 250 (V.ref u))) nr) hu9
              generalize upd H9 r (.lst (List.replicate 250 (V.ref u))) = HA at sA hr huA
              have hyl := pLen hys
              have hls := hb40 ls (List.mem_of_getElem? el)
              refine gCat ⟨_, sA _ _ hbb, _, hr, by rw [List.length_replicate]; exact Nat.le_trans (show _ ≤ 500 by omega) (by decide), fun c nc => ?_⟩
              have sB := sA.trans (same_new (o := .lst (ys ++ List.replicate 250 (V.ref u))) nc)
              have hc : upd HA c (.lst (ys ++ List.replicate 250 (V.ref u))) c = some (.lst (ys ++ List.replicate 250 (V.ref u))) := upd_same
              have huB := sqT_same (same_new (o := .lst (ys ++ List.replicate 250 (V.ref u))) nc) huA
              generalize upd HA c (.lst (ys ++ List.replicate 250 (V.ref u))) = HB at sB hc huB
              wtm_at "go"
              refine iSlL (SqL.of hc) fun p np => ?_
              rw [show cutV (ys ++ List.replicate 250 (V.ref u)) none (some 249) = (ys ++ List.replicate 250 (V.ref u)).take 249 from cut_to (n := 249)]
              have sC := sB.trans (same_new (o := .lst ((ys ++ List.replicate 250 (V.ref u)).take 249)) np)
              have hp : upd HB p (.lst ((ys ++ List.replicate 250 (V.ref u)).take 249)) p = some (.lst ((ys ++ List.replicate 250 (V.ref u)).take 249)) := upd_same
              have huC := sqT_same (same_new (o := .lst ((ys ++ List.replicate 250 (V.ref u)).take 249)) np) huB
              generalize upd HB p (.lst ((ys ++ List.replicate 250 (V.ref u)).take 249)) = HC at sC hp huC
              wtm_at "go"
              intro u2 nu2
              wtm_at "go"
              intro z2 nz2
              have sDD : Same HC (upd (upd HC u2 (.tup [.str "let"])) z2 (.lst [V.ref u2])) := (same_new nu2).trans (same_new nz2)
              have hz2 : upd (upd HC u2 (.tup [.str "let"])) z2 (.lst [V.ref u2]) z2 = some (.lst [V.ref u2]) := upd_same
              have hu2 : SqT K (upd (upd HC u2 (.tup [.str "let"])) z2 (.lst [V.ref u2])) u2 (Lt.vs .lt) := sqT_same (same_new nz2) (SqT.of upd_same)
              show rCat _ _ (upd (upd HC u2 (.tup [.str "let"])) z2 (.lst [V.ref u2])) _
              generalize upd (upd HC u2 (.tup [.str "let"])) z2 (.lst [V.ref u2]) = HD at sDD hz2 hu2
              have hu3 := sqT_same sDD huC
              have hp2 := sDD _ _ hp
              refine gCat ⟨_, hp2, _, hz2, ?_, fun c2 nc2 => ?_⟩
              · rw [List.length_take]
                exact Nat.le_trans (show _ ≤ 250 by first | (simp; done) | (simp; omega)) (by decide)
              have sE := (sC.trans sDD).trans (same_new (o := .lst ((ys ++ List.replicate 250 (V.ref u)).take 249 ++ [V.ref u2])) nc2)
              have hc2 : upd HD c2 (.lst ((ys ++ List.replicate 250 (V.ref u)).take 249 ++ [V.ref u2])) c2 = some (.lst ((ys ++ List.replicate 250 (V.ref u)).take 249 ++ [V.ref u2])) := upd_same
              have hu5 := sqT_same (same_new (o := .lst ((ys ++ List.replicate 250 (V.ref u)).take 249 ++ [V.ref u2])) nc2) hu3
              have hu6 := sqT_same (same_new (o := .lst ((ys ++ List.replicate 250 (V.ref u)).take 249 ++ [V.ref u2])) nc2) hu2
              have hDc : c2 ≠ D := fun y => by rw [y] at nc2; rw [(sC.trans sDD) _ _ hD8] at nc2; cases nc2
              generalize upd HD c2 (.lst ((ys ++ List.replicate 250 (V.ref u)).take 249 ++ [V.ref u2])) = HE at sE hc2 hu5 hu6
              have hDE := sE _ _ hD8
              wtm_at "go"
              refine iSetL hDE (ix_last (by rw [hxl]; exact List.length_pos_iff.mpr q0)) ?_
              have fF : Fr [D] HE (upd HE D (.lst (xs.set (xs.length - 1) (V.ref c2)))) := Fr.set hDE rfl (by simp)
              refine kk _ _ ⟨_, bs.set (xs.length - 1) ((ls ++ List.replicate 250 Lt.lt).take 249 ++ [Lt.lt]), rfl, upd_same, pSet ?_ _ (pMap hps8 fun _ _ z => BkS.t ((BkS.fr z (Fr.same sE)).fr (fF.mono (by simp)))), by rw [List.length_set]; exact hb5, fun b hb => ?_, fun b hb => ?_, (d8.same sE).fr fF (by simpa using hDp) (by simpa using hDl), tabs_lst (tabs_same hT8 sE) hDE⟩
              · refine ⟨c2, _, rfl, fF.at_ _ _ hc2 (by simpa using hDc), pSnoc (pTakeN (paired_app (pMap hys fun _ _ z => (z.fr (Fr.same (S := []) sE)).fr fF) (pRep ⟨u, rfl, fF.sqT hu5⟩ 250)) 249) ⟨u2, rfl, fF.sqT hu6⟩⟩
              · rcases List.mem_or_eq_of_mem_set hb with h | h
                · exact hb40 b h
                · rw [h, List.length_append, List.length_take]
                  first | (simp; done) | (simp; omega)
              · rcases List.mem_or_eq_of_mem_set hb with h | h
                · exact hbok b h
                · rw [h]
                  intro l hl2
                  rcases List.mem_append.mp hl2 with y | y
                  · rcases List.mem_append.mp (List.mem_of_mem_take y) with y | y
                    · exact hbok ls (List.mem_of_getElem? el) l y
                    · rw [(List.mem_replicate.mp y).2]; exact trivial
                  · rw [List.mem_singleton.mp y]; exact trivial
            · wtm_at "go"
              exact kk _ _ ⟨xs, bs, rfl, hD8, pMap hps8 fun _ _ z => BkS.t z, hb5, hb40, hbok, d8, hT8⟩
          · wtm_at "go"
            exact kk _ _ ⟨xs, bs, rfl, hD7, pMap hps7 fun _ _ z => BkS.t z, hb5, hb40, hbok, d7, hT7⟩
        · rintro σ' H7 ⟨xs, bs, rfl, hD7, hps7, hb5, hb40, hbok, d7, hT7⟩
          have hxl := pLen hps7
          wtm_at "go"
          intro E nE
          have s8 := same_new (o := .lst []) nE
          have hDE : D ≠ E := ne_of_none hD7 nE
          refine eLcL (xs := xs) (fun k H' => ∃ LS : List (Addr × WL_), Fr [E] (upd H7 E (.lst [])) H' ∧ H' E = some (.lst (LS.map fun e => V.ref e.1)) ∧ (∀ e ∈ LS, WAt K H' e.1 e.2 ∧ WfW (wd e.2)) ∧ lws LS = (bs.take k).map alone ∧ ∀ e ∈ LS, ∀ x ∈ fpW e.1 e.2, x ≠ E) ?_ ?_ ?_ ?_
          · refine ⟨[], Fr.refl, upd_same, ?_, ?_, ?_⟩
            · exact fun e he => absurd he List.not_mem_nil
            · rfl
            · exact fun e he => absurd he List.not_mem_nil
          · rintro k H' _ ⟨LS, f, _⟩
            exact SqL.of (f.at_ _ _ (s8 _ _ hD7) (by simpa using hDE))
          · rintro k v H9 ex ⟨LS, f9, hE9, hLS, ew, nwE⟩
            obtain ⟨ls, el, c, ys, rfl, hc, hls⟩ := pGetL hps7 ex
            have cE : c ≠ E := ne_of_none hc nE
            have hc9 := f9.at_ _ _ (s8 _ _ hc) (by simpa using cE)
            have hls9 := pMap hls fun _ _ z => (LtT.fr (Fr.same (S := [E]) s8) z).fr f9
            have hk : k < bs.length := (List.getElem?_eq_some_iff.mp el).1
            have hCl : LS.length = k := by
              have := congrArg List.length ew
              simp only [lws, List.length_map, List.length_take] at this
              omega
            wtm_at "go"
            refine ⟨c, ys, ls, rfl, hc9, hls9, fun l hl => hbok _ (List.mem_of_getElem? el) l hl, fun HA pw L hW ep hw sA nW => ?_⟩
            have hEA := sA _ _ hE9
            have newE : ∀ x ∈ fpW pw L, x ≠ E := fun x hx y => by
              have := nW x hx
              rw [y, hE9] at this
              cases this
            have fz : Fr [E] HA (upd HA E (.lst (LS.map (fun e => V.ref e.1) ++ [.ref pw]))) := Fr.set hEA rfl (by simp)
            refine ⟨_, hEA, by rw [List.length_map, hCl]; exact Nat.lt_of_lt_of_le (show _ < 6 by omega) (by decide), LS ++ [(pw, L)], (f9.trans (Fr.same sA)).trans fz, by rw [upd_same, List.map_append]; rfl, fun e he => ?_, ?_, fun e he x hx y => ?_⟩
            · rcases List.mem_append.mp he with z | z
              · exact ⟨((hLS e z).1.same sA).fr fz fun x hx y => nwE e z x hx (List.mem_singleton.mp y), (hLS e z).2⟩
              · rw [List.mem_singleton.mp z]
                exact ⟨hW.fr fz fun x hx y => newE x hx (List.mem_singleton.mp y), hw⟩
            · unfold lws at ew ⊢
              rw [List.map_append, ew, take_succ el, List.map_append]
              show _ ++ [wd L] = _ ++ [alone ls]
              rw [ep]
            · rcases List.mem_append.mp he with z | z
              · exact nwE e z x hx y
              · rw [List.mem_singleton.mp z] at hx
                exact newE x hx y
          · rintro H9 ⟨LS, f9, hE9, hLS, ew, nwE⟩
            rw [hxl, List.take_of_length_le (Nat.le_refl _)] at ew
            have s79 : Same H7 H9 := U.Same.step s8 f9 fun x hx => by rw [List.mem_singleton.mp hx]; exact nE
            have hLl : LS.length = bs.length := by
              have := congrArg List.length ew
              simpa [lws] using this
            have hLs : LsAt K H9 E LS := ⟨hE9, fun e he => (hLS e he).1, fun e he => (hLS e he).2, by omega⟩
            have hnn : ∀ W ∈ lws LS, NN W := fun W hW => by
              rw [ew] at hW
              obtain ⟨ls, hl, rfl⟩ := List.mem_map.mp hW
              exact alone_nn (hbok ls hl)
            wtm_at "go"
            refine ⟨wn, hn, E, LS, rfl, ⟨hwb.1.1, hwb.1.2, hwb.2.2⟩, hLs, hnn, fun HA t pm po ms os gr ht => ?_⟩
            have gmA := gr.m
            rw [ew] at gmA
            have gmA : GM HA pm ms wn hn (restOf bs) := gmA
            have s7A := s79.trans gr.s
            have hDA := s7A _ _ hD7
            have hpsA := pMap hps7 fun _ _ z => BkT.same z s7A
            have dA := d7.same s7A
            have hTA := tabs_same hT7 s7A
            wtm_at "go"
            intro Z nZ
            have hDZ : D ≠ Z := ne_of_none hDA nZ
            refine eLcL (xs := xs) (fun k H' => ∃ zs, Fr [Z] HA H' ∧ H' Z = some (.lst zs) ∧ Paired (BkT K H') zs (bs.take k) ∧ ∀ z ∈ zs, z ≠ .ref Z) ?_ ?_ ?_ ?_
            · exact ⟨[], Fr.new nZ, upd_same, .nil, fun _ h => nomatch h⟩
            · exact fun k H' _ ⟨zs, f, _⟩ => SqL.of (f.at_ _ _ hDA (by simpa using hDZ))
            · rintro k x HB ex ⟨zs, fB, hZ, hzs, hzn⟩
              obtain ⟨b, eb, bb, ys, rfl, hbb, hys⟩ := pGetL hpsA ex
              have hbZ : bb ≠ Z := ne_of_none hbb nZ
              wtm_at "go"
              refine iListL (SqL.of (fB.at_ _ _ hbb (by simpa using hbZ))) fun r nr => ?_
              have hZ9 := same_new (o := .lst ys) nr _ _ hZ
              have hrZ : r ≠ Z := Ne.symm (ne_of_none hZ nr)
              have fC : Fr [Z] (upd HB r (.lst ys)) (upd (upd HB r (.lst ys)) Z (.lst (zs ++ [.ref r]))) := Fr.set hZ9 rfl (by simp)
              refine ⟨zs, hZ9, ?_, zs ++ [.ref r], (fB.trans (Fr.new nr)).trans fC, upd_same, ?_, fun z hz => ?_⟩
              · rw [pLen hzs]
                exact Nat.lt_of_le_of_lt (Nat.le_trans (List.length_take_le' ..) hb5) (by decide)
              · rw [take_succ eb]
                refine pSnoc ?_ ⟨r, ys, rfl, fC.at_ _ _ upd_same (by simpa using hrZ), pMap hys fun _ _ z => (((z.fr fB).fr (Fr.new (S := []) nr)).fr fC)⟩
                refine pMapM hzs fun v q hv h => ?_
                obtain ⟨u, us, rfl, hu, hus⟩ := h
                exact ⟨u, us, rfl, fC.at_ _ _ (same_new nr _ _ hu) (fun z => hzn _ hv (by rw [List.mem_singleton.mp z])), pMap hus fun _ _ z => (z.fr (Fr.new (S := []) nr)).fr fC⟩
              · rcases List.mem_append.mp hz with hz | hz
                · exact hzn z hz
                · rw [List.mem_singleton.mp hz]
                  intro z; injection z with z; exact hrZ z
            · rintro HB ⟨zs, fB, hZB, hzs, hzn⟩
              rw [hxl, List.take_of_length_le (Nat.le_refl _)] at hzs
              have sAB : Same HA HB := U.Same.step (Same.refl HA) fB fun x hx => by rw [List.mem_singleton.mp hx]; exact nZ
              have hDB := sAB _ _ hDA
              have hpsB := pMap hpsA fun _ _ z => BkT.same z sAB
              have dB := dA.same sAB
              have hTB := tabs_same hTA sAB
              have gmB := gmA.fr (Fr.same (S := []) sAB) fun _ _ => List.not_mem_nil
              wtm_at "go"
              refine eForR (lo := 0) (n := 2) (fun k σ H' => ∃ y10 y11 y12, σ = [some (.ref a), some (.ref ph), some (.int (0 + (i : Int))), some (.int wn), some (.int hn), some (.ref D), y6, some (.ref pm), y8, some (.ref Z), y10, y11, y12] ∧ Fr [PT K] HB H' ∧ LamX.Tabs (Ts K) H') ?_ ?_ ?_
              · exact ⟨_, _, _, rfl, Fr.refl, hTB⟩
              · rintro k σ HC hk ⟨y10, y11, y12, rfl, fC, hTC⟩
                have hZC := fC.at_ _ _ hZB (by simpa using pt_ne hTB hZB rfl)
                have hzsC := pMap hzs fun _ _ z => BkT.frT z hTB fC
                have hDC := fC.at_ _ _ hDB (by simpa using pt_ne hTB hDB rfl)
                have hpsC := pMap hpsB fun _ _ z => BkT.frT z hTB fC
                have gmC := gmB.frT hTB fC
                wtm_at "go"
                refine ⟨wn, hn, Z, zs, bs, rfl, hwb, hZC, hzsC, hbok, hb5, hTC, fun HD fm fs fD hTD gmF nF => ?_⟩
                wtm_at "go"
                refine ⟨.ref fm, .ref pm, gridD wn hn (restOf bs), rfl, gm_dp gmF, gm_dp (gmC.frT hTC fD), grid_alk hwb.1.2 hwb.2.2, fun HE sE => ?_⟩
                have hZE := sE _ _ (fD.at_ _ _ hZC (by simpa using pt_ne hTC hZC rfl))
                have hzsE := pMap hzsC fun _ _ z => BkT.same (BkT.frT z hTC fD) sE
                have hDE2 := sE _ _ (fD.at_ _ _ hDC (by simpa using pt_ne hTC hDC rfl))
                have hpsE := pMap hpsC fun _ _ z => BkT.same (BkT.frT z hTC fD) sE
                have gmE := gmF.fr (Fr.same (S := []) sE) fun _ _ => List.not_mem_nil
                have hTE := tabs_same hTD sE
                obtain ⟨nd1, nd2⟩ := List.nodup_cons.mp gmE.nd
                wtm_at "go"
                refine ⟨bksD bs, bksD bs, dp_bks hZE hzsE, dp_bks hDE2 hpsE, shaped_bks bs, shaped_bks bs, ?_⟩
                rw [eqv_yes (shaped_bks bs)]
                have hfm := gmE.at_
                wtm_at "go"
                refine eForL (xs := fs.map V.ref) (fun j σ H' => ∃ y12, σ = [some (.ref a), some (.ref ph), some (.int (0 + (i : Int))), some (.int wn), some (.int hn), some (.ref D), y6, some (.ref pm), y8, some (.ref Z), some (.int (0 + (k : Int))), some (.ref fm), y12] ∧ Fr fs HE H' ∧ ∀ r ∈ fs, ∃ vs, H' r = some (.lst vs)) ?_ ?_ ?_ ?_
                · refine ⟨_, rfl, Fr.refl, fun r hr => ?_⟩
                  obtain ⟨j, hj⟩ := List.mem_iff_getElem?.mp hr
                  exact ⟨_, gmE.row j r hj⟩
                · rintro j σ H' _ ⟨_, _, f, _⟩
                  exact SqL.of (f.at_ _ _ hfm nd1)
                · rintro j v σ HF ex ⟨y12, rfl, fF, hl⟩
                  rw [List.getElem?_map] at ex
                  obtain ⟨r, er, rfl⟩ := Option.map_eq_some_iff.mp ex
                  obtain ⟨vs, hvs⟩ := hl r (List.mem_of_getElem? er)
                  wtm_at "go"
                  refine ⟨r, vs, rfl, rfl, hvs, ?_⟩
                  refine ⟨_, rfl, fF.trans (Fr.set hvs rfl (List.mem_of_getElem? er)), fun z hz => ?_⟩
                  by_cases y : z = r
                  · rw [y]; exact ⟨[], upd_same⟩
                  · obtain ⟨us, hus⟩ := hl z hz
                    exact ⟨us, (upd_ne y).trans hus⟩
                · rintro σ HF ⟨y12, rfl, fF, _⟩
                  refine ⟨_, _, _, rfl, ((fC.trans fD).trans (Fr.same sE)).trans3 fF fun z hz => fC.free (nF z (List.mem_cons_of_mem _ hz)), tabs_fr hTE fF fun z hz o e => ?_⟩
                  obtain ⟨o2, e2, m⟩ := gmE.live z (List.mem_cons_of_mem _ hz)
                  rw [e] at e2
                  rw [Option.some.inj e2]
                  exact m
              · rintro σ HC ⟨y10, y11, y12, rfl, fC, hTC⟩
                exact ⟨_, _, _, _, _, _, _, _, _, _, _, rfl, dB.frT hTB fC, hTC⟩
    · rintro σ H2 ⟨y2, y3, y4, y5, y6, y7, y8, y9, ya, yb, yc, rfl, d2, hT2⟩
      wtm_at "go"
      exact q _
end

end U

open PySem PySem.W PySem.Calls PyProof.Rows
set_option maxHeartbeats 0 in
theorem PySem.Challenge.cw_surfacehall_k06_at_rest_by_own_laying_holds : PySem.Challenge.rw_surfacehall_k06_at_rest_by_own_laying.Holds := by
  w_on; o_law
  refine HandSHeadRun.head_any (r := OpenLaw.row PySem.Challenge.rw_surfacehall_k06_at_rest_by_own_laying) (q := view (OpenLaw.row PySem.Challenge.rw_surfacehall_k06_at_rest_by_own_laying).prog [45]) (H := U.hk) (ob := U.ob) (M := 5000) (loose := U.names) (d := HandSHeadRun.topDef (OpenLaw.row PySem.Challenge.rw_surfacehall_k06_at_rest_by_own_laying).prog 45) (kwd := []) U.ob_eq
    (by kernel_rfl) (fun s => by kernel_rfl) U.run (by kernel_rfl) (by kernel_rfl) (by kernel_rfl) (by rfl) (by first | assumption | decide +kernel) (by decide +kernel) ⟨rfl, rfl, rfl, rfl, rfl, by decide +kernel⟩ ?hw ?hc
  case hw => w_witness2
  case hc =>
    refine LamX.walk_ofTsE (l := PySem.Challenge.rw_surfacehall_k06_at_rest_by_own_laying) (n := 63) (k := 20) (x := "_law_script") (CX := fun _ => L2.CX0) rfl (by decide) (by kernel_rfl) ⟨rfl, by decide, by decide⟩ ?F (fun _ _ _ _ _ z => z)
    intro w mg fa h Y G hmg0
    obtain ⟨K, KX, c⟩ := Y
    have hmg : mg ("law" : PySem.Str) = some (.ref fa) := by
      have e : (HandSHeadRun.topDef (OpenLaw.row PySem.Challenge.rw_surfacehall_k06_at_rest_by_own_laying).prog 45).name = ("law" : PySem.Str) := by kernel_rfl
      rw [← e]
      exact hmg0
    have T : U.Tx w K mg := ⟨h, KX, G, c⟩
    obtain ⟨fd, F⟩ := U.fun_law T
    have e : fa = He.fAd K ("law", none) := by
      have e1 := hmg.symm.trans (U.g_law T)
      cases e1
      rfl
    subst e
    refine ⟨K, KX, fd, U.tf.map (He.cT K), U.spLawT K, fun p hp => ?_, fun p hp => ?_, fun p hp => ?_, fun s u => U.bind_law F s u, fun H a ns hl _ hH hS => ⟨a, ns, rfl, hS, hl, U.tabs_nil hH, fun _ => rfl⟩, fun base _ _ hB => U.ok_law T ⟨fun p hp => hB _ (List.mem_map_of_mem (f := He.cT K) hp)⟩ F⟩
    · obtain ⟨z, hz, rfl⟩ := List.mem_map.mp hp
      exact c.empty z hz
    · obtain ⟨z, hz, rfl⟩ := List.mem_map.mp hp
      exact c.out z hz
    · obtain ⟨z, hz, rfl⟩ := List.mem_map.mp hp
      exact codeHd_of_K KX (c.hd z hz)
