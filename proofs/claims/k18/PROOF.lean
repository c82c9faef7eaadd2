import PyProof.Rows.All
import Wide.All
import OpenK.AllK
import Wide.FinOn
import KE.KStateDown
import HandS.ForMost
import HandS.More
import HandS.Exc
import HandS.Defaults
import HandS.Codes
import HandS.IsInst
import HandS.Flow
import HandS.Style
import HandS.Conv
import HandS.Walk
import KE.OsSort
import HandS.Zip
import HandS.TupAny
import HandS.TupMul
import PyProof.ListMulRoad
import PyProof.FactsAll.tuple_2
import HandS.TupSets
import HandS.Deep
import HandS.SortInts
import HandS.Head0
import HandS.Head1
import HandS.Head2
import HandS.HeadEnd
import HandS.HeadHook1
import HandS.HeadHook2
import HandS.HeadHook3
import HandS.HeadHook4
import KE.GoesMore
import KE.GoesNew
import HandS.Nested
import HandS.Sort
import HandS.SortOrd
import KE.KSortKey
import HandS.HeadWalk
import HandS.ExcValue
import KE.KDictPairs
import KE.KDictCopyH
import KE.KDictSum
import HandS.DictTup
import HandS.ExcInit
import HandS.ExcOwn
import HandS.ExcIs
import HandS.Lambda
import HandS.SetFor
import HandS.ClsMeth
import KE.KExcIs
import PySem.Challenge.RW_surfacehall_k18_texts_refused
set_option Elab.async false
set_option linter.all false
set_option maxRecDepth 100000
set_option maxHeartbeats 4000000
/-! readings answered by lemmas, one a word -/
namespace U
open PySem PySem.Spec PyProof.Rows L2

section
variable {K : PySem.W.Frag} {σ : L2.St} {H : Hp} {Q : VK} {ta tb te : TE} {v x y : V}
section
variable {nx bk ct : L2.St → Hp → Prop} {rt : VK}
theorem iSeq {t u : TS} (h : t ⟨u ⟨nx, rt, bk, ct⟩, rt, bk, ct⟩ σ H) : tSeq t u ⟨nx, rt, bk, ct⟩ σ H := h
theorem iNext (h : nx σ H) : tNext ⟨nx, rt, bk, ct⟩ σ H := h
theorem iAsg {te : TE} {g : TG} (h : te σ H fun x H1 => g x σ H1 nx) : tAsg te g ⟨nx, rt, bk, ct⟩ σ H := h
theorem iName {i : Nat} {R : L2.St → Hp → Prop} (h : R (σ.set i (some v)) H) : gName i v σ H R := h
theorem iRet (h : te σ H rt) : tRet te ⟨nx, rt, bk, ct⟩ σ H := h
theorem iRetN (h : rt .non H) : tRetN ⟨nx, rt, bk, ct⟩ σ H := h
theorem iDrop (h : te σ H fun _ H1 => nx σ H1) : tDrop te ⟨nx, rt, bk, ct⟩ σ H := h
theorem iIfS {c : TT} {t u : TS} {D : Ends} (h : c σ H fun b H1 => if b = true then t D σ H1 else u D σ H1) : tIfS c t u D σ H := h
theorem iPar {i j : Nat} {ta : TA} (h : ta σ H fun vs H1 => ∃ v w, vs = [v, w] ∧ nx ((σ.set i (some v)).set j (some w)) H1) : tPar i j ta ⟨nx, rt, bk, ct⟩ σ H := h
theorem iPar3 {i j l : Nat} {ta : TA} (h : ta σ H fun vs H1 => ∃ u v w, vs = [u, v, w] ∧ nx (((σ.set i (some u)).set j (some v)).set l (some w)) H1) : tPar3 i j l ta ⟨nx, rt, bk, ct⟩ σ H := h
end
theorem iVar {i : Nat} (h : σ[i]? = some (some v)) (q : Q v H) : tVar i σ H Q := ⟨v, h, q⟩
theorem iC (q : Q v H) : tC v σ H Q := q
theorem iOp {r : R2} (h : ta σ H fun x H1 => tb σ H1 fun y H2 => r x y H2 Q) : tOp r ta tb σ H Q := h
theorem iUn {r : V → Hp → VK → Prop} (h : ta σ H fun x H1 => r x H1 Q) : tUn r ta σ H Q := h
theorem iI0 {g : Int → Int → V} {i j : Int} (q : Q (g i j) H) : rI0 g (.int i) (.int j) H Q := ⟨i, j, rfl, rfl, q⟩
theorem iI {C : Int → Int → Prop} {g : Int → Int → V} {i j : Int} (c : C i j) (q : Q (g i j) H) : rI C g (.int i) (.int j) H Q := ⟨i, j, rfl, rfl, c, q⟩
theorem iU {g : Int → V} {i : Int} (q : Q (g i) H) : rU g (.int i) H Q := ⟨i, rfl, q⟩
theorem iTest {t : TE} {R : Bool → Hp → Prop} (h : t σ H fun x H' => ∃ k, x = .bl k ∧ R k H') : tTest t σ H R := h
theorem iB {t : TE} {R : Bool → Hp → Prop} (h : t σ H fun x H1 => ∃ c, x = .bl c ∧ R c H1) : tB t σ H R := h
theorem iAnd {t u : TT} {R : Bool → Hp → Prop} (h : t σ H fun c H1 => if c = true then u σ H1 R else R false H1) : tAnd t u σ H R := h
theorem iOr {t u : TT} {R : Bool → Hp → Prop} (h : t σ H fun c H1 => if c = true then R true H1 else u σ H1 R) : tOr t u σ H R := h
theorem iNot {t : TT} {R : Bool → Hp → Prop} (h : t σ H fun c H1 => R (!c) H1) : tNot t σ H R := h
theorem iAndV (h : ta σ H fun x H1 => ∃ c, x = .bl c ∧ if c = true then tb σ H1 Q else Q (.bl false) H1) : tAndV ta tb σ H Q := h
theorem iOrV (h : ta σ H fun x H1 => ∃ c, x = .bl c ∧ if c = true then Q (.bl true) H1 else tb σ H1 Q) : tOrV ta tb σ H Q := h
theorem iNotV (h : ta σ H fun x H1 => ∃ c, x = .bl c ∧ Q (.bl (!c)) H1) : tNotV ta σ H Q := h
theorem iIf {t : TT} (h : t σ H fun c H1 => if c = true then ta σ H1 Q else tb σ H1 Q) : tIf t ta tb σ H Q := h
theorem iChain {r r' : R2} {tc : TE} (h : ta σ H fun x H1 => tb σ H1 fun y H2 => r x y H2 fun z H3 => ∃ k, z = .bl k ∧ (if k = true then tc σ H3 fun w' H4 => r' y w' H4 Q else Q (.bl false) H3)) : tChain r r' ta tb tc σ H Q := h
theorem iNil {R : List V → Hp → Prop} (q : R [] H) : tNil σ H R := q
theorem iCons {tr : TA} {R : List V → Hp → Prop} (h : ta σ H fun x H1 => tr σ H1 fun xs H2 => R (x :: xs) H2) : tCons ta tr σ H R := h
theorem iTupX {t : TA} (h : t σ H fun xs H1 => xs.length ≤ sizeLine ∧ ∀ p, H1 p = none → Q (.ref p) (upd H1 p (.tup xs))) : tTup t σ H Q := h
theorem iLst {t : TA} (h : t σ H fun xs H1 => xs.length ≤ sizeLine ∧ ∀ p, H1 p = none → Q (.ref p) (upd H1 p (.lst xs))) : tLst t σ H Q := h
theorem iCB {r : List V → Hp → VK → Prop} {t : TA} (h : t σ H fun vs H1 => r vs H1 Q) : tCB r t σ H Q := h
theorem iCall {sp : Sp} {dvs : List V} {E : XK} {t : TA} (h : t σ H fun vs H1 => sp (vs ++ dvs) H1 Q E) : tCall sp dvs E t σ H Q := h
theorem iSl {r : V → Option Int → Option Int → Hp → VK → Prop} {tl th : TO} (h : te σ H fun x H1 => tl σ H1 fun l H2 => th σ H2 fun u H3 => r x l u H3 Q) : tSl r te tl th σ H Q := h
theorem iNoPart {R : Option Int → Hp → Prop} (q : R none H) : tNoPart σ H R := q
theorem iPart {R : Option Int → Hp → Prop} (h : te σ H fun x H1 => ∃ i, x = .int i ∧ R (some i) H1) : tPart te σ H R := h
theorem iBM {T : String} {r : V → List V → Hp → VK → Prop} {to : TE} {t : TA} (h : to σ H fun x H1 => tyV K T x H1 ∧ t σ H1 fun xs H2 => r x xs H2 Q) : tBM K T r to t σ H Q := h
theorem iBM0 {T : String} {r : V → List V → Hp → VK → Prop} {to : TE} (h : to σ H fun x H1 => tyV K T x H1 ∧ r x [] H1 Q) : tBM0 K T r to σ H Q := h
theorem iSub {to ti : TE} {t : TSet} {v : V} {R : L2.St → Hp → Prop} (h : to σ H fun o H1 => ti σ H1 fun i H2 => t o i v H2 fun H3 => R σ H3) : gSub to ti t v σ H R := h

/-! equal, by kinds -/
theorem iEqI {i j : Int} (q : Q (.bl (decide (i = j))) H) : rEq (.int i) (.int j) H Q := ⟨rfl, by rw [show decide (V.int i = V.int j) = decide (i = j) by simp]; exact q⟩
theorem iNeI {i j : Int} (q : Q (.bl (!decide (i = j))) H) : rNe (.int i) (.int j) H Q := ⟨rfl, by rw [show decide (V.int i = V.int j) = decide (i = j) by simp]; exact q⟩
theorem iEqS {i j : Str} (q : Q (.bl (decide (i = j))) H) : rEq (.str i) (.str j) H Q := ⟨rfl, by rw [show decide (V.str i = V.str j) = decide (i = j) by simp]; exact q⟩
theorem iNeS {i j : Str} (q : Q (.bl (!decide (i = j))) H) : rNe (.str i) (.str j) H Q := ⟨rfl, by rw [show decide (V.str i = V.str j) = decide (i = j) by simp]; exact q⟩
theorem iEqB {i j : Bool} (q : Q (.bl (decide (i = j))) H) : rEq (.bl i) (.bl j) H Q := ⟨rfl, by rw [show decide (V.bl i = V.bl j) = decide (i = j) by simp]; exact q⟩
theorem iNeB {i j : Bool} (q : Q (.bl (!decide (i = j))) H) : rNe (.bl i) (.bl j) H Q := ⟨rfl, by rw [show decide (V.bl i = V.bl j) = decide (i = j) by simp]; exact q⟩
theorem iEqIN {i : Int} (q : Q (.bl false) H) : rEq (.int i) .non H Q := ⟨rfl, q⟩
theorem iEqNI {i : Int} (q : Q (.bl false) H) : rEq .non (.int i) H Q := ⟨rfl, q⟩
theorem iEqNN (q : Q (.bl true) H) : rEq .non .non H Q := ⟨rfl, q⟩

/-! is None -/
abbrev rIsN : R2 := fun x y H Q => y = .non ∧ Q (.bl (decide (x = .non))) H
abbrev rNoN : R2 := fun x y H Q => y = .non ∧ Q (.bl (!decide (x = .non))) H

/-! items -/
theorem iIxL {p : Addr} {xs : List V} {i : Int} {v : V} (h : SqL K H p xs) (e : atI xs i = some v) (q : Q v H) : rIxL K (.ref p) (.int i) H Q := ⟨p, xs, i, v, rfl, rfl, h, e, q⟩
theorem iIxT {p : Addr} {xs : List V} {i : Int} {v : V} (h : SqT K H p xs) (e : atI xs i = some v) (q : Q v H) : rIxT K (.ref p) (.int i) H Q := ⟨p, xs, i, v, rfl, rfl, h, e, q⟩
theorem iSetL {p : Addr} {xs : List V} {k : Int} {j : Nat} {v : V} {R : Hp → Prop} (h : H p = some (.lst xs)) (e : ixN xs.length k = some j) (q : R (upd H p (.lst (xs.set j v)))) : rSetL (.ref p) (.int k) v H R := ⟨p, xs, k, j, rfl, rfl, h, e, q⟩
theorem iAppend {p : Addr} {xs : List V} {y : V} (h : H p = some (.lst xs)) (z : xs.length < sizeLine) (q : Q .non (upd H p (.lst (xs ++ [y])))) : rAppend (.ref p) [y] H Q := ⟨p, xs, y, rfl, rfl, h, z, q⟩
end

/-! ### what is kept -/
/-- all that stood but what stands at S; tuples and locked things -/
structure Fr (S : List Addr) (H H' : Hp) : Prop where
  at_ : ∀ a o, H a = some o → a ∉ S → H' a = some o
  tu : ∀ a xs, H a = some (.tup xs) → H' a = some (.tup xs)
  fz : ∀ a o u, H a = some (.frz o u) → H' a = some (.frz o u)
  dm : ∀ a, H' a = none → H a = none
def isMut : HO → Bool
  | .tup _ => false
  | .frz _ _ => false
  | .tbl _ => false
  | _ => true
theorem Fr.same {S : List Addr} {H H' : Hp} (h : Same H H') : Fr S H H' := ⟨fun a o e _ => h a o e, fun a _ e => h a _ e, fun a _ _ e => h a _ e, fun a e => Same.free h e⟩
theorem Fr.refl {S : List Addr} {H : Hp} : Fr S H H := Fr.same (Same.refl H)
theorem Fr.trans {S : List Addr} {H H1 H2 : Hp} (a : Fr S H H1) (b : Fr S H1 H2) : Fr S H H2 := ⟨fun x o h n => b.at_ x o (a.at_ x o h n) n, fun x o h => b.tu x o (a.tu x o h), fun x o u h => b.fz x o u (a.fz x o u h), fun x h => a.dm x (b.dm x h)⟩
theorem Fr.mono {S T : List Addr} {H H' : Hp} (a : Fr S H H') (h : ∀ x ∈ S, x ∈ T) : Fr T H H' := ⟨fun x o e n => a.at_ x o e fun z => n (h x z), a.tu, a.fz, a.dm⟩
theorem Fr.new {S : List Addr} {H : Hp} {p : Addr} {o : HO} (h : H p = none) : Fr S H (upd H p o) := Fr.same fun a u e => by
  rw [upd_ne (ne_of_none e h)]
  exact e
theorem Fr.set {S : List Addr} {H : Hp} {p : Addr} {o u : HO} (e : H p = some u) (m : isMut u = true) (h : p ∈ S) : Fr S H (upd H p o) :=
  ⟨fun a v ea n => by
    rw [upd_ne fun z => n (by rw [z]; exact h)]
    exact ea, fun a xs ea => by
    rw [upd_ne fun z => by rw [z, e] at ea; rw [Option.some.inj ea] at m; cases m]
    exact ea, fun a w v ea => by
    rw [upd_ne fun z => by rw [z, e] at ea; rw [Option.some.inj ea] at m; cases m]
    exact ea, fun a ea => by
    by_cases z : a = p
    · rw [z, upd_same] at ea; cases ea
    · rw [upd_ne z] at ea; exact ea⟩
theorem Fr.free {S : List Addr} {H H' : Hp} {a : Addr} (f : Fr S H H') (h : H' a = none) : H a = none := f.dm a h
theorem Fr.sqT {S : List Addr} {H H' : Hp} {K : PySem.W.Frag} {a : Addr} {xs : List V} (f : Fr S H H') (h : SqT K H a xs) : SqT K H' a xs := by
  rcases h with (h | ⟨o, h⟩) | h
  · exact .inl (.inl (f.tu _ _ h))
  · exact .inl (.inr ⟨o, f.fz _ _ _ h⟩)
  · exact .inr h
theorem Fr.sqL {S : List Addr} {H H' : Hp} {K : PySem.W.Frag} {a : Addr} {xs : List V} (f : Fr S H H') (h : SqL K H a xs) (n : a ∉ S) : SqL K H' a xs := by
  rcases h with (h | ⟨o, h⟩) | h
  · exact .inl (.inl (f.at_ _ _ h n))
  · exact .inl (.inr ⟨o, f.fz _ _ _ h⟩)
  · exact .inr h
theorem same_new {H : Hp} {p : Addr} {o : HO} (h : H p = none) : Same H (upd H p o) := fun b x e => by
  rw [upd_ne (ne_of_none e h)]
  exact e
end U
namespace U
open PySem PySem.Spec PyProof.Rows L2
open C8 (Cal Met Mak pe_c pe_mk pe_mt pe_mt0)
section
variable {P : Program} {w : World} {K : PySem.W.Frag} {mg : Str → Option Value} {base : Heap}
/-! ### defs by their data -/
theorem cal_mk {x : Str} {params : Arguments} {body : List Stmt} {scope : Scope} {N ps : List Str} {k : Nat} {sp : Sp} (hF : ∃ fd, FunD K x x params body scope [] [] (He.fAd K (x, none)) fd) (hm : mg x = some (.ref (He.ga K x)))
    (S : FnScope N ps scope) (hb : ∀ (kV doc pm : Value) (an : Option Addr) (cdv ct : Value) (us : List Value), us.length = ps.length → bindArgs (PySem.W.fnOf x x params body scope .none kV doc pm an cdv ct) ⟨us, []⟩ = pure (ps.zip us))
    (len : ∀ vs H Q E, sp vs H Q E → vs.length = ps.length)
    (hbody : ∀ (cdv : Value) (A : Around) (outer : List Env) (s : Shared) (H : Hp) (vs : List V) (Q : VK) (E : XK), Room k (A.deeper (envOfC x scope s.heap.objs.size (He.fAd K (x, none)) cdv)) → sp vs H Q E →
      ∃ t, PSs (cxOf CX0 P w K mg base N x scope (He.fAd K (x, none)) cdv A outer s H E).nox body t ∧ t { nx := fun _ H' => Q .non H', rt := Q } (start N vs) H) : Cal P w K mg base (k + 1) x sp [] := by
  obtain ⟨fd, F⟩ := hF
  refine ⟨He.ga K x, fd, ps, [], FunD.ok F S len fun cdv A outer s H vs Q E hr h => ?_, hm, F.kp, F.bindsN hb, .nil⟩
  obtain ⟨t, p, q⟩ := hbody cdv A outer s H vs Q E hr h
  exact ⟨t, p.nox, q⟩
theorem met_mk {C m : Str} {qual : Str} {params : Arguments} {body : List Stmt} {scope : Scope} {N ps : List Str} {k : Nat} {sp : Sp} (hF : ∃ fd, FunD K m qual params body scope [] [] (He.fAd K (C, some m)) fd) (c : Cls K (He.ga K C)) (me : Meth K (He.ga K C) m (He.ma K (He.ga K C) m))
    (S : FnScope N ps scope) (hb : ∀ (kV doc pm : Value) (an : Option Addr) (cdv ct : Value) (us : List Value), us.length = ps.length → bindArgs (PySem.W.fnOf m qual params body scope .none kV doc pm an cdv ct) ⟨us, []⟩ = pure (ps.zip us))
    (len : ∀ vs H Q E, sp vs H Q E → vs.length = ps.length)
    (hbody : ∀ (cdv : Value) (A : Around) (outer : List Env) (s : Shared) (H : Hp) (vs : List V) (Q : VK) (E : XK), Room k (A.deeper (envOfC qual scope s.heap.objs.size (He.fAd K (C, some m)) cdv)) → sp vs H Q E →
      ∃ t, PSs (cxOf CX0 P w K mg base N qual scope (He.fAd K (C, some m)) cdv A outer s H E).nox body t ∧ t { nx := fun _ H' => Q .non H', rt := Q } (start N vs) H) : Met P w K mg base (k + 1) (He.ga K C) m sp [] := by
  obtain ⟨fd, F⟩ := hF
  refine ⟨He.ma K (He.ga K C) m, fd, ps, [], c, me, FunD.ok F S len fun cdv A outer s H vs Q E hr h => ?_, F.bindsN hb, .nil⟩
  obtain ⟨t, p, q⟩ := hbody cdv A outer s H vs Q E hr h
  exact ⟨t, p.nox, q⟩
theorem mak_mk {C : Str} {qual : Str} {params : Arguments} {body : List Stmt} {scope : Scope} {N ps : List Str} {k : Nat} {sp : Sp} (hF : ∃ fd, FunD K "__init__" qual params body scope [] [] (He.fAd K (C, some "__init__")) fd) (M : Mk K (He.ga K C) (He.ma K (He.ga K C) "__init__")) (hm : mg C = some (.ref (He.ga K C)))
    (S : FnScope N ps scope) (hb : ∀ (kV doc pm : Value) (an : Option Addr) (cdv ct : Value) (us : List Value), us.length = ps.length → bindArgs (PySem.W.fnOf "__init__" qual params body scope .none kV doc pm an cdv ct) ⟨us, []⟩ = pure (ps.zip us))
    (len : ∀ vs H Q E, sp vs H Q E → vs.length = ps.length)
    (hbody : ∀ (cdv : Value) (A : Around) (outer : List Env) (s : Shared) (H : Hp) (vs : List V) (Q : VK) (E : XK), Room k (A.deeper (envOfC qual scope s.heap.objs.size (He.fAd K (C, some "__init__")) cdv)) → sp vs H Q E →
      ∃ t, PSs (cxOf CX0 P w K mg base N qual scope (He.fAd K (C, some "__init__")) cdv A outer s H E).nox body t ∧ t { nx := fun _ H' => Q .non H', rt := Q } (start N vs) H) : Mak P w K mg base (k + 1) C (He.ga K C) sp [] := by
  obtain ⟨fd, F⟩ := hF
  refine ⟨He.ma K (He.ga K C) "__init__", fd, ps, [], M, FunD.ok F S len fun cdv A outer s H vs Q E hr h => ?_, hm, F.bindsN hb, .nil⟩
  obtain ⟨t, p, q⟩ := hbody cdv A outer s H vs Q E hr h
  exact ⟨t, p.nox, q⟩
/-- a table's value is a tuple of these -/
def tupIn (K : PySem.W.Frag) (d : Addr) (k : Str) (vs : List He.Dv) : Bool := match PySem.W.nsIn K d k with
  | some (some (.ref a)) => (match K.lookup a with
    | some ⟨.type c, _, .seq its _, _⟩ => decide (c = "tuple") && (decide (its.size ≤ sizeLine) && He.relAll (vs.map (He.Dv.v K)) its.toList)
    | _ => false)
  | _ => false
theorem tupIn_ok {d : Addr} {k : Str} {vs : List He.Dv} (h : tupIn K d k vs = true) : ∃ a, PySem.W.nsIn K d k = some (some (.ref a)) ∧ ∀ H : Hp, SqT K H a (vs.map (He.Dv.v K)) := by
  unfold tupIn at h
  cases e : PySem.W.nsIn K d k with
  | none =>
    rw [e] at h
    cases h
  | some r =>
    rw [e] at h
    cases r with
    | none => cases h
    | some u =>
      cases u with
      | ref a =>
        refine ⟨a, rfl, fun H => ?_⟩
        have h2 : (match K.lookup a with
          | some ⟨.type c, _, .seq its _, _⟩ => decide (c = "tuple") && (decide (its.size ≤ sizeLine) && He.relAll (vs.map (He.Dv.v K)) its.toList)
          | _ => false) = true := h
        cases q : K.lookup a with
        | none =>
          rw [q] at h2
          cases h2
        | some o =>
          obtain ⟨oc, od, dt, osl⟩ := o
          rw [q] at h2
          cases oc with
          | type c =>
            cases dt with
            | seq its n =>
              obtain ⟨h3, h4⟩ := He.ba (show (decide (c = "tuple") && (decide (its.size ≤ sizeLine) && He.relAll (vs.map (He.Dv.v K)) its.toList)) = true from h2)
              obtain ⟨h5, h6⟩ := He.ba h4
              exact .inr ⟨_, its, n, q, congrArg Value.type (of_decide_eq_true h3), rfl, of_decide_eq_true h5, He.relAll_ok h6⟩
            | _ => cases h2
          | _ => cases dt <;> cases h2
      | _ => cases h
/-- the law's end -/
def spLaw (K : PySem.W.Frag) : Sp := fun vs H Q _ => ∃ (a : Addr) (ns : List Int), vs = [.ref a] ∧ SqL K H a (ns.map V.int) ∧ ns.length ≤ 63 ∧ ∀ H', Q (.bl true) H'
end
end U
namespace U
open PySem PySem.Spec PyProof.Rows L2
open C8 (Cal Met Mak pe_c pe_mk pe_mt pe_mt0)
section
variable {X : Cx} {k j : Nat} {C : Addr} {x m : Str} {sp : Sp} {dvs : List V} {p pos apos : Pos} {o : Expr} {ta : TE} {t : TA}
theorem pe_c0 (c : Cal X.prog X.w X.K X.mg X.base k x sp dvs) (hr : Room j X.A) (hk : k ≤ j) (hg : Gl X x) (hdb : (x == ("__debug__" : Str)) = false := by decide) : PE X (.Call (.Name x p) [] [] pos) (tCall sp dvs E0 tNil) := by
  obtain ⟨f, fd, ps, ds, F, hm, kp, b, d⟩ := c.ex
  exact pe_call0 F (hr.mono hk) hg hm kp b d pass0 hdb
theorem pe_mk0 (c : Mak X.prog X.w X.K X.mg X.base k x C sp dvs) (hr : Room j X.A) (hk : k + 1 ≤ j) (hg : Gl X x) (hdb : (x == ("__debug__" : Str)) = false := by decide) : PE X (.Call (.Name x p) [] [] pos) (tMake C sp dvs E0 tNil) := by
  obtain ⟨f, fd, ps, ds, M, F, hm, b, d⟩ := c.ex
  exact pe_make0 M F (hr.mono hk) hg hm b d pass0 hdb
end
end U
/-! ### named readings -/
namespace U
open PySem PySem.Spec PyProof.Rows L2
section
variable {X : Cx} {K : PySem.W.Frag} {σ : L2.St} {H : Hp} {Q : VK}
def rLenU (K : PySem.W.Frag) : List V → Hp → VK → Prop := fun xs H Q => ∃ p ys, xs = [.ref p] ∧ (SqL K H p ys ∨ SqT K H p ys) ∧ Q (.int ys.length) H
def rLenS : List V → Hp → VK → Prop := fun xs H Q => ∃ z, xs = [.str z] ∧ z.length ≤ sizeLine ∧ Q (.int z.length) H
def rMax2 : List V → Hp → VK → Prop := fun xs H Q => ∃ i j, xs = [.int i, .int j] ∧ Q (.int (if j > i then j else i)) H
def rMin2 : List V → Hp → VK → Prop := fun xs H Q => ∃ i j, xs = [.int i, .int j] ∧ Q (.int (if j < i then j else i)) H
def rStrI : List V → Hp → VK → Prop := fun xs H Q => ∃ i, xs = [.int i] ∧ i.natAbs.log2 < 1920 ∧ Q (.str (toString i)) H
def rIntS : List V → Hp → VK → Prop := fun xs H Q => ∃ a n, xs = [.str a] ∧ PySem.intText? a = some n ∧ a.length ≤ 640 ∧ Q (.int n) H
def rListOf (K : PySem.W.Frag) : List V → Hp → VK → Prop := fun xs H Q => ∃ p ys, xs = [.ref p] ∧ (SqL K H p ys ∨ SqT K H p ys) ∧ ∀ l, H l = none → Q (.ref l) (upd H l (.lst ys))
def rTupOf (K : PySem.W.Frag) : List V → Hp → VK → Prop := fun xs H Q => ∃ p ys, xs = [.ref p] ∧ ((SqL K H p ys ∧ ∀ l, H l = none → Q (.ref l) (upd H l (.tup ys))) ∨ (SqT K H p ys ∧ Q (.ref p) H))
def rSorDI : List V → Hp → VK → Prop := fun xs H Q => ∃ (a : Addr) (kvs : List (Key × V)) (ks : List Int), xs = [.ref a] ∧ Rd H a (.dK kvs) ∧ kvs.map (·.1) = ks.map Sum.inl ∧ ks.length < 64 ∧ ∀ (ys : List Int) (p : Addr), ys.Perm ks → ys.Pairwise (· ≤ ·) → H p = none → Q (.ref p) (upd H p (.lst (ys.map V.int)))
def rIsNon : R2 := fun x y H Q => y = .non ∧ Q (.bl (decide (x = .non))) H
def rNotNon : R2 := fun x y H Q => y = .non ∧ Q (.bl (!decide (x = .non))) H
def rAddS : R2 := fun x y H Q => ∃ i j, x = .str i ∧ y = .str j ∧ i.length + j.length ≤ sizeLine ∧ Q (.str (i ++ j)) H
def rInS : R2 := fun x y H Q => ∃ i j, x = .str i ∧ y = .str j ∧ Q (.bl (!(Builtin.Str.occurrences j i 0 j.length 1).isEmpty)) H
def rNotInS : R2 := fun x y H Q => ∃ i j, x = .str i ∧ y = .str j ∧ Q (.bl (!(!(Builtin.Str.occurrences j i 0 j.length 1).isEmpty))) H
theorem c_len : CallR X (.builtin "len") (rLenU X.K) := call_len_seq
theorem c_lenS : CallR X (.builtin "len") rLenS := call_len_str
theorem c_max2 (hc : X.calm = true) : CallR X (.builtin "max") rMax2 := call_max2 hc
theorem c_min2 (hc : X.calm = true) : CallR X (.builtin "min") rMin2 := call_min2 hc
theorem c_str : CallR X (.type "str") rStrI := call_str_int
theorem c_int : CallR X (.type "int") rIntS := call_int_str
theorem c_list : CallR X (.type "list") (rListOf X.K) := call_list_of
theorem c_tuple : CallR X (.type "tuple") (rTupOf X.K) := call_tuple_of
theorem c_sorDI (hc : X.calm = true) : CallR X (.builtin "sorted") rSorDI := call_sortedDI hc
theorem o_isN : OpR X (compareOp .Is) rIsNon := op_isN
theorem o_notN : OpR X (compareOp .IsNot) rNotNon := op_notN
theorem o_addS : OpR X (binaryOp .Add) rAddS := op_add_str
theorem o_inS : OpR X (compareOp .In) rInS := op_in_str
theorem o_notInS : OpR X (compareOp .NotIn) rNotInS := op_notin_str
theorem iLenL {p : Addr} {ys : List V} (h : SqL K H p ys) (q : Q (.int ys.length) H) : rLenU K [.ref p] H Q := ⟨p, ys, rfl, .inl h, q⟩
theorem iLenT {p : Addr} {ys : List V} (h : SqT K H p ys) (q : Q (.int ys.length) H) : rLenU K [.ref p] H Q := ⟨p, ys, rfl, .inr h, q⟩
theorem iLenS {z : Str} (h : z.length ≤ sizeLine) (q : Q (.int z.length) H) : rLenS [.str z] H Q := ⟨z, rfl, h, q⟩
theorem iMax2 {i j : Int} (q : Q (.int (if j > i then j else i)) H) : rMax2 [.int i, .int j] H Q := ⟨i, j, rfl, q⟩
theorem iMin2 {i j : Int} (q : Q (.int (if j < i then j else i)) H) : rMin2 [.int i, .int j] H Q := ⟨i, j, rfl, q⟩
theorem iStrI {i : Int} (h : i.natAbs.log2 < 1920) (q : Q (.str (toString i)) H) : rStrI [.int i] H Q := ⟨i, rfl, h, q⟩
theorem iIntS {a : Str} {n : Int} (h : PySem.intText? a = some n) (z : a.length ≤ 640) (q : Q (.int n) H) : rIntS [.str a] H Q := ⟨a, n, rfl, h, z, q⟩
theorem iListL {p : Addr} {ys : List V} (h : SqL K H p ys) (q : ∀ l, H l = none → Q (.ref l) (upd H l (.lst ys))) : rListOf K [.ref p] H Q := ⟨p, ys, rfl, .inl h, q⟩
theorem iListT {p : Addr} {ys : List V} (h : SqT K H p ys) (q : ∀ l, H l = none → Q (.ref l) (upd H l (.lst ys))) : rListOf K [.ref p] H Q := ⟨p, ys, rfl, .inr h, q⟩
theorem iTupL {p : Addr} {ys : List V} (h : SqL K H p ys) (q : ∀ l, H l = none → Q (.ref l) (upd H l (.tup ys))) : rTupOf K [.ref p] H Q := ⟨p, ys, rfl, .inl ⟨h, q⟩⟩
theorem iTupT {p : Addr} {ys : List V} (h : SqT K H p ys) (q : Q (.ref p) H) : rTupOf K [.ref p] H Q := ⟨p, ys, rfl, .inr ⟨h, q⟩⟩
theorem iIsNN (q : Q (.bl true) H) : rIsNon .non .non H Q := ⟨rfl, q⟩
theorem iIsNI {i : Int} (q : Q (.bl false) H) : rIsNon (.int i) .non H Q := ⟨rfl, q⟩
theorem iIsNR {i : Addr} (q : Q (.bl false) H) : rIsNon (.ref i) .non H Q := ⟨rfl, q⟩
theorem iIsNS {i : Str} (q : Q (.bl false) H) : rIsNon (.str i) .non H Q := ⟨rfl, q⟩
theorem iNoNN (q : Q (.bl false) H) : rNotNon .non .non H Q := ⟨rfl, q⟩
theorem iNoNI {i : Int} (q : Q (.bl true) H) : rNotNon (.int i) .non H Q := ⟨rfl, q⟩
theorem iNoNR {i : Addr} (q : Q (.bl true) H) : rNotNon (.ref i) .non H Q := ⟨rfl, q⟩
theorem iNoNS {i : Str} (q : Q (.bl true) H) : rNotNon (.str i) .non H Q := ⟨rfl, q⟩
theorem iIsV {x : V} (q : Q (.bl (decide (x = .non))) H) : rIsNon x .non H Q := ⟨rfl, q⟩
theorem iNoV {x : V} (q : Q (.bl (!decide (x = .non))) H) : rNotNon x .non H Q := ⟨rfl, q⟩
theorem iAddS {i j : Str} (h : i.length + j.length ≤ sizeLine) (q : Q (.str (i ++ j)) H) : rAddS (.str i) (.str j) H Q := ⟨i, j, rfl, rfl, h, q⟩
end

/-! ### data -/
mutual
/-- data without truth values and dicts -/
def nb : PyData → Bool
  | .none => true
  | .int _ => true
  | .str _ => true
  | .list xs => nbAll xs
  | .tuple xs => nbAll xs
  | _ => false
def nbAll : List PyData → Bool
  | [] => true
  | x :: xs => nb x && nbAll xs
end
mutual
theorem eqv_of : ∀ {d e : PyData}, nb d = true → nb e = true → PyData.eqv d e = true → d = e
  | .none, e, _, he, h => by cases e <;> first | rfl | (simp [PyData.eqv] at h)
  | .int i, e, _, he, h => by
    cases e with
    | int j => simp [PyData.eqv] at h; rw [h]
    | bool b => simp [nb] at he
    | _ => simp [PyData.eqv] at h
  | .str i, e, _, he, h => by
    cases e with
    | str j => simp [PyData.eqv] at h; rw [h]
    | _ => simp [PyData.eqv] at h
  | .list xs, e, hd, he, h => by
    cases e with
    | list ys =>
      simp only [PyData.eqv] at h
      simp only [nb] at hd he
      rw [eqvAll_of hd he h]
    | _ => simp [PyData.eqv] at h
  | .tuple xs, e, hd, he, h => by
    cases e with
    | tuple ys =>
      simp only [PyData.eqv] at h
      simp only [nb] at hd he
      rw [eqvAll_of hd he h]
    | _ => simp [PyData.eqv] at h
  | .bool b, _, hd, _, _ => by simp [nb] at hd
  | .dict b, _, hd, _, _ => by simp [nb] at hd
theorem eqvAll_of : ∀ {d e : List PyData}, nbAll d = true → nbAll e = true → PyData.eqvAll d e = true → d = e
  | [], [], _, _, _ => rfl
  | [], _ :: _, _, _, h => by simp [PyData.eqvAll] at h
  | _ :: _, [], _, _, h => by simp [PyData.eqvAll] at h
  | x :: xs, y :: ys, hd, he, h => by
    simp only [nbAll, Bool.and_eq_true] at hd he
    simp only [PyData.eqvAll, Bool.and_eq_true] at h
    rw [eqv_of hd.1 he.1 h.1, eqvAll_of hd.2 he.2 h.2]
end
theorem eqv_yes {d : PyData} (hs : SeqAt.shaped d = true) : PyData.eqv d d = true := SeqAt.eqv_refl _ (SeqAt.canLay_of_shaped hs)
theorem eqv_no {d e : PyData} (hd : nb d = true) (he : nb e = true) (h : d ≠ e) : PyData.eqv d e = false := by
  cases q : PyData.eqv d e with
  | false => rfl
  | true => exact absurd (eqv_of hd he q) h
def dI (ns : List Int) : PyData := .list (ns.map .int)
theorem nbAll_ints : ∀ ns : List Int, nbAll (ns.map PyData.int) = true
  | [] => rfl
  | n :: ns => by simp only [List.map_cons, nbAll, nb, nbAll_ints ns]; rfl
theorem canLay_ints : ∀ ns : List Int, PyData.canLayAll0 (ns.map PyData.int) = true
  | [] => by simp [PyData.canLayAll0]
  | n :: ns => by simp [PyData.canLayAll0, PyData.canLay0, canLay_ints ns]
theorem depth_ints : ∀ ns : List Int, PyData.depthAll (ns.map PyData.int) = 0
  | [] => by simp [PyData.depthAll]
  | n :: ns => by simp [PyData.depthAll, PyData.depth, depth_ints ns]
theorem shaped_dI (ns : List Int) : SeqAt.shaped (dI ns) = true := by
  simp [SeqAt.shaped, dI, PyData.canLay0, canLay_ints, PyData.depth, depth_ints]
theorem dI_inj {a b : List Int} : dI a = dI b ↔ a = b := by
  constructor
  · intro h
    have h2 : a.map PyData.int = b.map PyData.int := by
      unfold dI at h
      injection h
    exact List.map_inj_right (fun x y e => by injection e) |>.mp h2
  · intro h
    rw [h]
theorem nb_dI (ns : List Int) : nb (dI ns) = true := by simp [nb, dI, nbAll_ints]
theorem eqv_dI (a b : List Int) : PyData.eqv (dI a) (dI b) = decide (a = b) := by
  by_cases h : a = b
  · subst h
    rw [eqv_yes (shaped_dI a), decide_eq_true rfl]
  · rw [eqv_no (nb_dI a) (nb_dI b) (fun z => h (dI_inj.mp z)), decide_eq_false h]
section
variable {K : PySem.W.Frag} {H : Hp} {Q : VK}
theorem dp_ints : ∀ ns : List Int, DpAll K H (ns.map V.int) (ns.map PyData.int)
  | [] => .nil
  | n :: ns => .cons (.int n) (dp_ints ns)
theorem iEqDI {p q : Addr} {ns ms : List Int} (h : SqL K H p (ns.map V.int)) (h2 : SqL K H q (ms.map V.int)) (k : Q (.bl (decide (ns = ms))) H) : rEqD K (.ref p) (.ref q) H Q :=
  ⟨dI ns, dI ms, .lst h (dp_ints ns), .lst h2 (dp_ints ms), shaped_dI _, shaped_dI _, by rw [eqv_dI]; exact k⟩
theorem iNeDI {p q : Addr} {ns ms : List Int} (h : SqL K H p (ns.map V.int)) (h2 : SqL K H q (ms.map V.int)) (k : Q (.bl (!decide (ns = ms))) H) : rNeD K (.ref p) (.ref q) H Q :=
  ⟨dI ns, dI ms, .lst h (dp_ints ns), .lst h2 (dp_ints ms), shaped_dI _, shaped_dI _, by rw [eqv_dI]; exact k⟩
end
/-! tests -/
theorem iteD {p A B : Prop} [Decidable p] (h1 : p → A) (h2 : ¬p → B) : if decide p = true then A else B := by
  by_cases h : p
  · rw [if_pos (decide_eq_true h)]
    exact h1 h
  · rw [if_neg (by rw [decide_eq_false h]; exact Bool.false_ne_true)]
    exact h2 h
theorem iteN {p A B : Prop} [Decidable p] (h1 : ¬p → A) (h2 : p → B) : if (!decide p) = true then A else B := by
  by_cases h : p
  · rw [decide_eq_true h]
    exact iteF (h2 h)
  · rw [decide_eq_false h]
    exact iteT (h1 h)
theorem iteYes {p A B : Prop} [Decidable p] (h : p) (h1 : A) : if decide p = true then A else B := by
  rw [if_pos (decide_eq_true h)]
  exact h1
theorem iteNo {p A B : Prop} [Decidable p] (h : ¬p) (h1 : B) : if decide p = true then A else B := by
  rw [if_neg (by rw [decide_eq_false h]; exact Bool.false_ne_true)]
  exact h1
theorem iteNYes {p A B : Prop} [Decidable p] (h : ¬p) (h1 : A) : if (!decide p) = true then A else B := by
  rw [decide_eq_false h]
  exact iteT h1
theorem iteNNo {p A B : Prop} [Decidable p] (h : p) (h1 : B) : if (!decide p) = true then A else B := by
  rw [decide_eq_true h]
  exact iteF h1
end U
/-! ### ways that join, sizes, places -/
namespace U
open PySem PySem.Spec PyProof.Rows L2
section
variable {K : PySem.W.Frag} {σ : L2.St} {H : Hp} {Q : VK} {ta tb te : TE} {nx bk ct : L2.St → Hp → Prop} {rt : VK}
theorem iIfK {t : TT} (M : VK) (h : ∀ Q' : VK, (∀ v H', M v H' → Q' v H') → t σ H fun c H1 => if c = true then ta σ H1 Q' else tb σ H1 Q') (k : ∀ v H', M v H' → Q v H') : tIf t ta tb σ H Q := h Q k
theorem iSeqK {t u : TS} (M : L2.St → Hp → Prop) (h : ∀ nx' : L2.St → Hp → Prop, (∀ σ' H', M σ' H' → nx' σ' H') → t ⟨nx', rt, bk, ct⟩ σ H) (k : ∀ σ' H', M σ' H' → u ⟨nx, rt, bk, ct⟩ σ' H') : tSeq t u ⟨nx, rt, bk, ct⟩ σ H := h _ k
theorem iTK {t : TT} {R : Bool → Hp → Prop} (M : Bool → Hp → Prop) (h : ∀ R' : Bool → Hp → Prop, (∀ b H', M b H' → R' b H') → t σ H R') (k : ∀ b H', M b H' → R b H') : t σ H R := h R k
theorem iK (M : VK) {te : TE} (h : ∀ Q' : VK, (∀ v H', M v H' → Q' v H') → te σ H Q') (k : ∀ v H', M v H' → Q v H') : te σ H Q := h Q k
theorem iSz {xs : List V} {R : Prop} (h : Nat.ble xs.length 1000 = true) (q : R) : xs.length ≤ sizeLine ∧ R := ⟨Nat.le_trans (Nat.le_of_ble_eq_true h) (by decide), q⟩
theorem ixN_nat {n j : Nat} {i : Int} (e : i = (j : Int)) (h : j < n) : ixN n i = some j := by
  subst e
  unfold ixN
  rw [if_pos (by omega), if_pos (by omega)]
  simp
theorem at_ints {cs : List Int} {j : Nat} {i : Int} (e : i = (j : Int)) (h : j < cs.length) : atI (cs.map V.int) i = some (.int cs[j]) := at_of e (by rw [List.getElem?_map, List.getElem?_eq_getElem h]; rfl)
theorem set_ints {cs : List Int} {j : Nat} {x : Int} : (cs.map V.int).set j (.int x) = (cs.set j x).map V.int := List.map_set.symm
end
end U
namespace U
open PySem PySem.Spec PyProof.Rows L2
section
variable {K : PySem.W.Frag} {σ : L2.St} {H : Hp} {Q : VK}
theorem gVar {i : Nat} (h : ∃ v, σ[i]? = some (some v) ∧ Q v H) : tVar i σ H Q := h
theorem gIxL {p : Addr} {i : Int} (h : ∃ xs, SqL K H p xs ∧ ∃ v, atI xs i = some v ∧ Q v H) : rIxL K (.ref p) (.int i) H Q := let ⟨xs, a, v, b, c⟩ := h; ⟨p, xs, i, v, rfl, rfl, a, b, c⟩
theorem gIxT {p : Addr} {i : Int} (h : ∃ xs, SqT K H p xs ∧ ∃ v, atI xs i = some v ∧ Q v H) : rIxT K (.ref p) (.int i) H Q := let ⟨xs, a, v, b, c⟩ := h; ⟨p, xs, i, v, rfl, rfl, a, b, c⟩
theorem gLenL {p : Addr} (h : ∃ ys, SqL K H p ys ∧ Q (.int ys.length) H) : rLenU K [.ref p] H Q := let ⟨ys, a, b⟩ := h; ⟨p, ys, rfl, .inl a, b⟩
theorem gLenT {p : Addr} (h : ∃ ys, SqT K H p ys ∧ Q (.int ys.length) H) : rLenU K [.ref p] H Q := let ⟨ys, a, b⟩ := h; ⟨p, ys, rfl, .inr a, b⟩
theorem gSetL {p : Addr} {k : Int} {v : V} {R : Hp → Prop} (h : ∃ xs, H p = some (.lst xs) ∧ ∃ j, ixN xs.length k = some j ∧ R (upd H p (.lst (xs.set j v)))) : rSetL (.ref p) (.int k) v H R := let ⟨xs, a, j, b, c⟩ := h; ⟨p, xs, k, j, rfl, rfl, a, b, c⟩
theorem gAppend {p : Addr} {y : V} (h : ∃ xs, H p = some (.lst xs) ∧ xs.length < sizeLine ∧ Q .non (upd H p (.lst (xs ++ [y])))) : rAppend (.ref p) [y] H Q := let ⟨xs, a, b, c⟩ := h; ⟨p, xs, y, rfl, rfl, a, b, c⟩
end
end U
/-! ### loops and comprehensions -/
namespace U
open PySem PySem.Spec PyProof.Rows L2
def LoopS (J : It) (g : TG) (tb : TS) (nx : L2.St → Hp → Prop) (rt : VK) (σ : L2.St) (H1 : Hp) : Prop := ∃ W : Nat → Nat → L2.St → Hp → Prop, (∃ m, W 0 m σ H1) ∧ ∀ i m σ H, W i m σ H →
  (J.stop i H ∧ nx σ H) ∨ (J.go i H ∧ ∃ N : L2.St → Hp → Prop, (∀ σ' H', N σ' H' → ∃ m', m' < m ∧ W (i + 1) m' σ' H') ∧ ∀ x H', J.yld i H x H' → g x σ H' fun σ2 H2 => tb ⟨N, rt, nx, N⟩ σ2 H2)
def CompS (J : It) (g : TG) (tt : TT) (te : TE) (vs : List Nat) (σ : L2.St) (D : Addr) (Qd : Hp → Prop) (H1 : Hp) : Prop := ∃ W : Nat → Nat → Hp → Prop, (∃ m, W 0 m (upd H1 D (.lst []))) ∧ ∀ i m H, W i m H →
  (J.stop i H ∧ Qd H) ∨ (J.go i H ∧ ∃ Nx : Hp → Prop, (∀ H', Nx H' → ∃ m', m' < m ∧ W (i + 1) m' H') ∧ ∀ x H', J.yld i H x H' → g x (wipe σ vs) H' fun σ2 H2 => wipe σ2 vs = wipe σ vs ∧ tt σ2 H2 fun b H3 =>
    if b = true then te σ2 H3 fun y H4 => ∃ acc, H4 D = some (.lst acc) ∧ acc.length < sizeLine ∧ Nx (upd H4 D (.lst (acc ++ [y]))) else Nx H3)
def WL (K : PySem.W.Frag) (R : It → Hp → Prop) (x : V) (H1 : Hp) : Prop := ∃ a, x = .ref a ∧ (∃ xs, SqL K H1 a xs) ∧ R (Itl K a) H1
def WT (K : PySem.W.Frag) (R : It → Hp → Prop) (x : V) (H1 : Hp) : Prop := ∃ a, x = .ref a ∧ (∃ xs, SqT K H1 a xs) ∧ R (Itt K a) H1
def WE (K : PySem.W.Frag) (R : It → Hp → Prop) (vs : List V) (H1 : Hp) : Prop := ∃ a xs, vs = [.ref a] ∧ SqL K H1 a xs ∧ R (Ite K a) H1
def WR1 (R : It → Hp → Prop) (vs : List V) (H1 : Hp) : Prop := ∃ j : Int, vs = [.int j] ∧ -(2 ^ 62) ≤ j ∧ j < 2 ^ 62 ∧ R (Itr 0 j.toNat) H1
def WR2 (R : It → Hp → Prop) (vs : List V) (H1 : Hp) : Prop := ∃ i j : Int, vs = [.int i, .int j] ∧ (-(2 ^ 62) ≤ i ∧ i < 2 ^ 62 ∧ -(2 ^ 62) ≤ j ∧ j < 2 ^ 62) ∧ R (Itr i (j - i).toNat) H1
def WS (R : It → Hp → Prop) (v : V) (H1 : Hp) : Prop := ∃ x, v = .str x ∧ R (Its x) H1
section
variable {K : PySem.W.Frag} {σ : L2.St} {H : Hp} {Q : VK} {nx bk ct : L2.St → Hp → Prop} {rt : VK} {R : It → Hp → Prop} {tl : TE} {ta : TA} {J : It} {g : TG} {tb : TS}
theorem iFor {wi : TI} (h : wi σ H fun J H1 => LoopS J g tb nx rt σ H1) : tFor wi g tb ⟨nx, rt, bk, ct⟩ σ H := h
theorem iLc {wi : TI} {tt : TT} {te : TE} {vs : List Nat} (h : wi σ H fun J H1 => ∀ D, H1 D = none → CompS J g tt te vs σ D (fun H' => Q (.ref D) H') H1) : tLc wi g tt te vs σ H Q := h
theorem iWL (h : tl σ H (WL K R)) : iList K tl σ H R := h
theorem iWT (h : tl σ H (WT K R)) : L2.iTup K tl σ H R := h
theorem iWE (h : ta σ H (WE K R)) : iEnum K ta σ H R := h
theorem iWR1 (h : ta σ H (WR1 R)) : iRng1 ta σ H R := h
theorem iWR2 (h : ta σ H (WR2 R)) : iRng2 ta σ H R := h
theorem iWS (h : tl σ H (WS R)) : iStr tl σ H R := h
theorem gWL {a : Addr} (h : ∃ xs, SqL K H a xs ∧ R (Itl K a) H) : WL K R (.ref a) H := let ⟨xs, p, q⟩ := h; ⟨a, rfl, ⟨xs, p⟩, q⟩
theorem gWT {a : Addr} (h : ∃ xs, SqT K H a xs ∧ R (Itt K a) H) : WT K R (.ref a) H := let ⟨xs, p, q⟩ := h; ⟨a, rfl, ⟨xs, p⟩, q⟩
theorem gWE {a : Addr} (h : ∃ xs, SqL K H a xs ∧ R (Ite K a) H) : WE K R [.ref a] H := let ⟨xs, p, q⟩ := h; ⟨a, xs, rfl, p, q⟩
theorem gWR1 {j : Int} (h : -(2 ^ 62) ≤ j ∧ j < 2 ^ 62) (q : R (Itr 0 j.toNat) H) : WR1 R [.int j] H := ⟨j, rfl, h.1, h.2, q⟩
theorem gWR2 {i j : Int} (h : -(2 ^ 62) ≤ i ∧ i < 2 ^ 62 ∧ -(2 ^ 62) ≤ j ∧ j < 2 ^ 62) (q : R (Itr i (j - i).toNat) H) : WR2 R [.int i, .int j] H := ⟨i, j, rfl, h, q⟩
theorem gWS {x : Str} (q : R (Its x) H) : WS R (.str x) H := ⟨x, rfl, q⟩
/-- a loop over anything walked -/
theorem eFor {n : Nat} {G : Hp → Prop} {Y : Nat → Hp → V → Hp → Prop} (w : Walk J n G Y) (I : Nat → L2.St → Hp → Prop) (h0 : I 0 σ H) (hG : ∀ i σ H, i ≤ n → I i σ H → G H)
    (hs : ∀ i x σ H H', i < n → I i σ H → Y i H x H' → g x σ H' fun σ2 H2 => tb ⟨I (i + 1), rt, nx, I (i + 1)⟩ σ2 H2) (hd : ∀ σ H, I n σ H → nx σ H) : LoopS J g tb nx rt σ H :=
  for_it w (D := ⟨nx, rt, nx, nx⟩) I h0 hG hs hd
theorem eForL {a : Addr} {xs : List V} (I : Nat → L2.St → Hp → Prop) (h0 : I 0 σ H) (hG : ∀ i σ H, i ≤ xs.length → I i σ H → SqL K H a xs)
    (hs : ∀ i x σ H, xs[i]? = some x → I i σ H → g x σ H fun σ2 H2 => tb ⟨I (i + 1), rt, nx, I (i + 1)⟩ σ2 H2) (hd : ∀ σ H, I xs.length σ H → nx σ H) : LoopS (Itl K a) g tb nx rt σ H :=
  eFor walk_list I h0 hG (fun i x σ H H' _ h ⟨e, y⟩ => by subst e; exact hs i x σ _ y h) hd
theorem eForT {a : Addr} {xs : List V} (I : Nat → L2.St → Hp → Prop) (h0 : I 0 σ H) (hG : ∀ i σ H, i ≤ xs.length → I i σ H → SqT K H a xs)
    (hs : ∀ i x σ H, xs[i]? = some x → I i σ H → g x σ H fun σ2 H2 => tb ⟨I (i + 1), rt, nx, I (i + 1)⟩ σ2 H2) (hd : ∀ σ H, I xs.length σ H → nx σ H) : LoopS (Itt K a) g tb nx rt σ H :=
  eFor walk_tup I h0 hG (fun i x σ H H' _ h ⟨e, y⟩ => by subst e; exact hs i x σ _ y h) hd
theorem eForR {lo : Int} {n : Nat} (I : Nat → L2.St → Hp → Prop) (h0 : I 0 σ H)
    (hs : ∀ i σ H, i < n → I i σ H → g (.int (lo + i)) σ H fun σ2 H2 => tb ⟨I (i + 1), rt, nx, I (i + 1)⟩ σ2 H2) (hd : ∀ σ H, I n σ H → nx σ H) : LoopS (Itr lo n) g tb nx rt σ H :=
  eFor walk_range I h0 (fun _ _ _ _ _ => trivial) (fun i x σ H H' hi h ⟨e, y⟩ => by subst e y; exact hs i σ _ hi h) hd
theorem eForE {a : Addr} {xs : List V} (I : Nat → L2.St → Hp → Prop) (h0 : I 0 σ H) (hG : ∀ i σ H, i ≤ xs.length → I i σ H → SqL K H a xs)
    (hs : ∀ i x σ H T, xs[i]? = some x → I i σ H → H T = none → g (.ref T) σ (upd H T (.tup [.int (i : Nat), x])) fun σ2 H2 => tb ⟨I (i + 1), rt, nx, I (i + 1)⟩ σ2 H2) (hd : ∀ σ H, I xs.length σ H → nx σ H) : LoopS (Ite K a) g tb nx rt σ H :=
  eFor walk_enum I h0 hG (fun i x σ H H' _ h ⟨T, a, b, e1, e2, e3, e4, e5⟩ => by
    subst e1 e3
    cases (Option.some.inj e4)
    exact hs i b σ _ T e5 h e2) hd
/-- a comprehension over anything walked -/
theorem eLc {n : Nat} {G : Hp → Prop} {Y : Nat → Hp → V → Hp → Prop} {tt : TT} {te : TE} {vs : List Nat} {D : Addr} {Qd : Hp → Prop} (w : Walk J n G Y) (I : Nat → Hp → Prop) (h0 : I 0 (upd H D (.lst []))) (hG : ∀ i H, i ≤ n → I i H → G H)
    (hs : ∀ i x H H', i < n → I i H → Y i H x H' → g x (wipe σ vs) H' fun σ2 H2 => wipe σ2 vs = wipe σ vs ∧ tt σ2 H2 fun b H3 =>
      if b = true then te σ2 H3 fun y H4 => ∃ acc, H4 D = some (.lst acc) ∧ acc.length < sizeLine ∧ I (i + 1) (upd H4 D (.lst (acc ++ [y]))) else I (i + 1) H3) (hd : ∀ H, I n H → Qd H) : CompS J g tt te vs σ D Qd H := lc_it w I h0 hG hs hd
theorem eLcL {a : Addr} {xs : List V} {tt : TT} {te : TE} {vs : List Nat} {D : Addr} {Qd : Hp → Prop} (I : Nat → Hp → Prop) (h0 : I 0 (upd H D (.lst []))) (hG : ∀ i H, i ≤ xs.length → I i H → SqL K H a xs)
    (hs : ∀ i x H, xs[i]? = some x → I i H → g x (wipe σ vs) H fun σ2 H2 => wipe σ2 vs = wipe σ vs ∧ tt σ2 H2 fun b H3 =>
      if b = true then te σ2 H3 fun y H4 => ∃ acc, H4 D = some (.lst acc) ∧ acc.length < sizeLine ∧ I (i + 1) (upd H4 D (.lst (acc ++ [y]))) else I (i + 1) H3) (hd : ∀ H, I xs.length H → Qd H) : CompS (Itl K a) g tt te vs σ D Qd H :=
  eLc walk_list I h0 hG (fun i x H H' _ h ⟨e, y⟩ => by subst e; exact hs i x _ y h) hd
theorem eLcT {a : Addr} {xs : List V} {tt : TT} {te : TE} {vs : List Nat} {D : Addr} {Qd : Hp → Prop} (I : Nat → Hp → Prop) (h0 : I 0 (upd H D (.lst []))) (hG : ∀ i H, i ≤ xs.length → I i H → SqT K H a xs)
    (hs : ∀ i x H, xs[i]? = some x → I i H → g x (wipe σ vs) H fun σ2 H2 => wipe σ2 vs = wipe σ vs ∧ tt σ2 H2 fun b H3 =>
      if b = true then te σ2 H3 fun y H4 => ∃ acc, H4 D = some (.lst acc) ∧ acc.length < sizeLine ∧ I (i + 1) (upd H4 D (.lst (acc ++ [y]))) else I (i + 1) H3) (hd : ∀ H, I xs.length H → Qd H) : CompS (Itt K a) g tt te vs σ D Qd H :=
  eLc walk_tup I h0 hG (fun i x H H' _ h ⟨e, y⟩ => by subst e; exact hs i x _ y h) hd
theorem eLcR {lo : Int} {n : Nat} {tt : TT} {te : TE} {vs : List Nat} {D : Addr} {Qd : Hp → Prop} (I : Nat → Hp → Prop) (h0 : I 0 (upd H D (.lst [])))
    (hs : ∀ i H, i < n → I i H → g (.int (lo + i)) (wipe σ vs) H fun σ2 H2 => wipe σ2 vs = wipe σ vs ∧ tt σ2 H2 fun b H3 =>
      if b = true then te σ2 H3 fun y H4 => ∃ acc, H4 D = some (.lst acc) ∧ acc.length < sizeLine ∧ I (i + 1) (upd H4 D (.lst (acc ++ [y]))) else I (i + 1) H3) (hd : ∀ H, I n H → Qd H) : CompS (Itr lo n) g tt te vs σ D Qd H :=
  eLc walk_range I h0 (fun _ _ _ _ => trivial) (fun i x H H' hi h ⟨e, y⟩ => by subst e y; exact hs i _ hi h) hd
theorem iYes {R : Bool → Hp → Prop} (q : R true H) : tYes σ H R := q
theorem gTupE {n : Nat} {t : TGs} {a : Addr} {S : L2.St → Hp → Prop} (h : ∃ xs, SqT K H a xs ∧ xs.length = n ∧ t xs σ H S) : gTup K n t (.ref a) σ H S := let ⟨xs, p, q, r⟩ := h; ⟨a, xs, rfl, p, q, r⟩
theorem gConsE {t : TG} {u : TGs} {v : V} {r : List V} {S : L2.St → Hp → Prop} (h : t v σ H fun σ' H' => u r σ' H' S) : gCons t u (v :: r) σ H S := ⟨v, r, rfl, h⟩
theorem gNilE {S : L2.St → Hp → Prop} (h : S σ H) : gNil [] σ H S := ⟨rfl, h⟩
end
end U
namespace U
open PySem PySem.Spec PyProof.Rows L2
theorem gBl {b : Bool} {R : Bool → Prop} (h : R b) : ∃ k, V.bl b = V.bl k ∧ R k := ⟨b, rfl, h⟩
theorem gInt {b : Int} {R : Int → Prop} (h : R b) : ∃ k, V.int b = V.int k ∧ R k := ⟨b, rfl, h⟩
theorem gPar {v w : V} {R : V → V → Prop} (h : R v w) : ∃ v' w', [v, w] = [v', w'] ∧ R v' w' := ⟨v, w, rfl, h⟩
theorem gPar3 {u v w : V} {R : V → V → V → Prop} (h : R u v w) : ∃ u' v' w', [u, v, w] = [u', v', w'] ∧ R u' v' w' := ⟨u, v, w, rfl, h⟩
theorem gWipe2 {a b : L2.St} {R : Prop} (e : a = b) (h : R) : a = b ∧ R := ⟨e, h⟩
theorem gWipe {σ : L2.St} {R : Prop} (h : R) : σ = σ ∧ R := ⟨rfl, h⟩
end U
/-! ### tuples -/
namespace U
open PySem PySem.Spec PyProof.Rows L2
theorem tuple_mul1 (l : Addr) (items : Array Value) (n : Nat) (dd : Option Addr) (sl : Array (Option Value)) (u : Tok) :
    Meets (Builtin.«tuple.__mul__» ⟨[.ref l, .int 1 u], []⟩) (fun _ R s => s.heap.get? l = some { cls := .type "tuple", dict := dd, data := .seq items n, slots := sl } ∧ R (.ok (.ret (.ref l))) s) :=
  .of_wp fun prog w A R s h => by
    obtain ⟨hp, g, d, tk, os⟩ := s
    obtain ⟨hl, h⟩ := h
    have f1 := AutoSeq1.idx_int
    have c0 : (decide ((1 : Int) < -(2 ^ 63)) || decide ((1 : Int) ≥ 2 ^ 63)) = false := by decide
    have c1 : (items.isEmpty || (1 : Int) == 1) = true := by simp
    wp_walk using wpAny_loadPart' hl
    repeat (first
      | (refine wpAny_ite_false (decide_eq_false (by rw [c0]; exact Bool.false_ne_true)) ?_; wp_walk using wpAny_loadPart' hl)
      | (refine wpAny_ite_true (decide_eq_true c1) ?_; wp_walk using wpAny_loadPart' hl))
    exact ⟨_, rfl, h⟩
section
variable {X : Cx} {K : PySem.W.Frag} {H : Hp} {Q : VK}
def rRep1 (K : PySem.W.Frag) : R2 := fun x y H Q => ∃ l xs, x = .ref l ∧ y = .int 1 ∧ SqT K H l xs ∧ Q (.ref l) H
theorem op_rep1 : OpR X (binaryOp .Mult) (rRep1 X.K) := by
  intro pins s σ H x y v u Q I rx ry h
  obtain ⟨l, xs, rfl, rfl, hT, q⟩ := h
  cases rx
  obtain ⟨t, rfl⟩ := ry
  obtain ⟨its, r, ⟨⟨cls, dd, data, sl⟩, ho, hc, n, hd⟩, hs⟩ := I.tuple hT
  simp only at hc hd
  subst hc hd
  refine wpAny_binaryOp_repeat_ref (T := "tuple") (U := "int") (by decide) ⟨_, ho, rfl⟩ (fun s' => typeIs_int s' 1 t) noFill_tuple_mul F.fills_int_mul F.slot_int_rmul repeat_tuple F.slot_int_index.lookup
    (call_meets F.slot_int_rmul (typeIs_int s 1 t) F.entry_int_rmul (F.args_int_rmul_2 _ _) (int_rmul_tuple 1 t l its.toArray n dd sl)
      ⟨ho, rfl, ⟨_, ho, rfl⟩, call_meets F.slot_tuple_mul ⟨_, ho, rfl⟩ F.entry_tuple_mul (F.args_tuple_mul_2 _ _) (tuple_mul1 l its.toArray n dd sl t) ⟨ho, ?_⟩⟩)
  exact ⟨.ref l, H, I, rfl, q⟩
def rRepA (K : PySem.W.Frag) : R2 := fun x y H Q => rRepT K x y H Q ∨ rRep1 K x y H Q
theorem op_repTA : OpR X (binaryOp .Mult) (rRepA X.K) := OpR.or op_repT op_rep1
/-- a tuple k times, 1 or more -/
theorem iRepA {l : Addr} {k : Int} {xs : List V} (h : SqT K H l xs) (hne : xs ≠ []) (k1 : 1 ≤ k) (k2 : k ≤ 1000) (hl : xs.length ≤ 1000) (q : ∀ c H', Same H H' → SqT K H' c (List.replicate k.toNat xs).flatten → Q (.ref c) H') : rRepA K (.ref l) (.int k) H Q := by
  by_cases h1 : k = 1
  · subst h1
    refine .inr ⟨l, xs, rfl, rfl, h, q l H (Same.refl H) ?_⟩
    simpa using h
  · exact .inl ⟨l, k, xs, rfl, rfl, h, hne, by omega, k2, hl, fun p np => q p _ (same_new np) (SqT.of upd_same)⟩
theorem iCatA {a b : Addr} {xs ys : List V} (h : SqT K H a xs) (h2 : SqT K H b ys) (z : xs.length + ys.length ≤ sizeLine) (q : ∀ c H', Same H H' → SqT K H' c (xs ++ ys) → Q (.ref c) H') : rCatA K (.ref a) (.ref b) H Q :=
  ⟨a, b, xs, ys, rfl, rfl, h, h2, z, fun e => q b H (Same.refl H) (by rw [e]; exact h2), fun _ e => q a H (Same.refl H) (by rw [e, List.append_nil]; exact h), fun _ _ p np => q p _ (same_new np) (SqT.of upd_same)⟩
theorem cutV_all {xs : List V} {lo hi : Option Int} (e : HT.sIx xs.length 0 lo = 0 ∧ HT.sIx xs.length xs.length hi = xs.length) : cutV xs lo hi = xs := by
  unfold cutV
  rw [e.1, e.2]
  simp
theorem iSlA {a : Addr} {xs : List V} {lo hi : Option Int} (h : SqT K H a xs) (q : ∀ c H', Same H H' → SqT K H' c (cutV xs lo hi) → Q (.ref c) H') : rSlA K (.ref a) lo hi H Q :=
  ⟨a, xs, rfl, h, fun e => q a H (Same.refl H) (by rw [cutV_all e]; exact h), fun _ p np => q p _ (same_new np) (SqT.of upd_same)⟩
theorem iSlL {a : Addr} {xs : List V} {lo hi : Option Int} (h : SqL K H a xs) (q : ∀ p, H p = none → Q (.ref p) (upd H p (.lst (cutV xs lo hi)))) : rSlL K (.ref a) lo hi H Q := ⟨a, xs, rfl, h, q⟩
theorem Same.sqT {H' : Hp} {a : Addr} {xs : List V} (s : Same H H') (h : SqT K H a xs) : SqT K H' a xs := (Fr.same (S := []) s).sqT h
end
end U
/-! ### dicts -/
namespace U
open PySem PySem.Spec PyProof.Rows L2
section
variable {X : Cx} {K : PySem.W.Frag} {σ : L2.St} {H : Hp} {Q : VK}
theorem mergeK_le : ∀ (ks kvs : List (Key × V)), (mergeK kvs ks).length ≤ kvs.length + ks.length
  | [], kvs => Nat.le_refl _
  | k :: ks, kvs => by
    have h := mergeK_le ks (putK kvs k.1 k.2)
    have h2 : (putK kvs k.1 k.2).length ≤ kvs.length + 1 := by
      unfold putK
      split
      · rw [List.length_map]; omega
      · rw [List.length_append]; simp
    show (mergeK (putK kvs k.1 k.2) ks).length ≤ _
    rw [List.length_cons]
    omega
def rUpdK : V → List V → Hp → VK → Prop := fun x vs H Q => ∃ a b kvs ks, x = .ref a ∧ vs = [.ref b] ∧ a ≠ b ∧ H a = some (.dK kvs) ∧ H b = some (.dK ks) ∧ kvs.length + ks.length ≤ sizeLine ∧ Q .non (upd H a (.dK (mergeK kvs ks)))
theorem mt_update : MtR X "dict.update" rUpdK := by
  intro pins s σ H x xs v us Q I rx rxs h
  obtain ⟨a, b, kvs, ks, rfl, rfl, ne, ea, eb, hz, q⟩ := h
  cases rx
  obtain ⟨u1, rfl, r1⟩ := vals1 rxs
  cases r1
  obtain ⟨z, hd, vs, rel, dd⟩ := dk_of I.hok ea
  obtain ⟨z2, hd2, vs2, rel2, dd2⟩ := dk_of I.hok eb
  refine call_meetsIn PySem.F.slot_dict_update dd.typeIs PySem.F.entry_dict_update (PySem.F.args_dict_update_2 _ _) (meets_dict_update (mixKind X.prog X.w) a b ne hd2) ⟨vs, vs2, dd, dd2, by rw [← rel.length, ← rel2.length]; exact hz, fun h' dd' _ hs => ?_⟩
  have he : ∃ q, h'.get? a = some q := let ⟨q, _, _, hq, _⟩ := dd'; ⟨q, hq⟩
  exact ⟨.non, _, d_write (t' := s.toks) I (by rw [ea]; exact True.intro) hs he (dk_new (Nat.le_trans (mergeK_le ks kvs) hz) hd (KV.merge rel2 rel) dd'), rfl, q⟩
def rDGet : V → V → Hp → VK → Prop := fun x y H Q => ∃ a v, x = .ref a ∧ DGet H a y (some v) ∧ Q v H
def rDIn : V → V → Hp → VK → Prop := fun y x H Q => ∃ a o, x = .ref a ∧ DGet H a y o ∧ Q (.bl o.isSome) H
def rDNotIn : V → V → Hp → VK → Prop := fun y x H Q => ∃ a o, x = .ref a ∧ DGet H a y o ∧ Q (.bl (!o.isSome)) H
theorem iDGetE {td ty : TE} (h : td σ H fun x H1 => ty σ H1 fun y H2 => rDGet x y H2 Q) : tDGet td ty σ H Q := h
theorem iDInE {td ty : TE} (h : ty σ H fun y H1 => td σ H1 fun x H2 => rDIn y x H2 Q) : tDIn ty td σ H Q := h
theorem iDNotInE {td ty : TE} (h : ty σ H fun y H1 => td σ H1 fun x H2 => rDNotIn y x H2 Q) : tDNotIn ty td σ H Q := h
theorem iDGI {a : Addr} {kvs : List (Key × V)} {k : Int} {v : V} (h : H a = some (.dK kvs)) (e : valV kvs (.inl k) = some v) (q : Q v H) : rDGet (.ref a) (.int k) H Q := ⟨a, v, rfl, by rw [← e]; exact DGet.k (k := .inl k) h, q⟩
theorem iDGS {a : Addr} {kvs : List (Key × V)} {k : Str} {v : V} (h : H a = some (.dK kvs)) (e : valV kvs (.inr k) = some v) (q : Q v H) : rDGet (.ref a) (.str k) H Q := ⟨a, v, rfl, by rw [← e]; exact DGet.k (k := .inr k) h, q⟩
theorem iDII {a : Addr} {kvs : List (Key × V)} {k : Int} (h : H a = some (.dK kvs)) (q : Q (.bl (valV kvs (.inl k)).isSome) H) : rDIn (.int k) (.ref a) H Q := ⟨a, _, rfl, DGet.k (k := .inl k) h, q⟩
theorem iDNI {a : Addr} {kvs : List (Key × V)} {k : Int} (h : H a = some (.dK kvs)) (q : Q (.bl (!(valV kvs (.inl k)).isSome)) H) : rDNotIn (.int k) (.ref a) H Q := ⟨a, _, rfl, DGet.k (k := .inl k) h, q⟩
theorem iDIS {a : Addr} {kvs : List (Key × V)} {k : Str} (h : H a = some (.dK kvs)) (q : Q (.bl (valV kvs (.inr k)).isSome) H) : rDIn (.str k) (.ref a) H Q := ⟨a, _, rfl, DGet.k (k := .inr k) h, q⟩
end
section
variable {σ : L2.St} {H : Hp} {nx bk ct : L2.St → Hp → Prop} {rt : VK} {td ty tv : TE}
def rDPut (x y v : V) (H : Hp) (R : Hp → Prop) : Prop := ∃ a H4, x = .ref a ∧ DPut H a y v H4 ∧ R H4
theorem iDPutE (h : tv σ H fun v H1 => td σ H1 fun x H2 => ty σ H2 fun y H3 => rDPut x y v H3 fun H4 => nx σ H4) : sDPut td ty tv ⟨nx, rt, bk, ct⟩ σ H := h
theorem iDPI {a : Addr} {kvs : List (Key × V)} {k : Int} {v : V} {R : Hp → Prop} (h : H a = some (.dK kvs)) (hl : kvs.length < sizeLine) (q : R (upd H a (.dK (putK kvs (.inl k) v)))) : rDPut (.ref a) (.int k) v H R := ⟨a, _, rfl, DPut.k (k := .inl k) h hl, q⟩
theorem iDPS {a : Addr} {kvs : List (Key × V)} {k : Str} {v : V} {R : Hp → Prop} (h : H a = some (.dK kvs)) (hl : kvs.length < sizeLine) (q : R (upd H a (.dK (putK kvs (.inr k) v)))) : rDPut (.ref a) (.str k) v H R := ⟨a, _, rfl, DPut.k (k := .inr k) h hl, q⟩
end
end U
namespace U
open PySem PySem.Spec PyProof.Rows L2
theorem gTyL {K : PySem.W.Frag} {H : Hp} {p : Addr} {R : Prop} (h : ∃ xs, SqL K H p xs) (q : R) : tyV K "list" (.ref p) H ∧ R := ⟨.inl ⟨rfl, h⟩, q⟩
theorem gTyD {K : PySem.W.Frag} {H : Hp} {p : Addr} {R : Prop} (h : ∃ xs, H p = some (.dK xs)) (q : R) : tyV K "dict" (.ref p) H ∧ R := ⟨.inr (.inr (.inl ⟨rfl, .inl h⟩)), q⟩
theorem sqT_same {K : PySem.W.Frag} {H H' : Hp} {a : Addr} {xs : List V} (s : Same H H') (h : SqT K H a xs) : SqT K H' a xs := (Fr.same (S := []) s).sqT h
theorem pGet {α β : Type} {R : α → β → Prop} : ∀ {as : List α} {bs : List β} {i : Nat} {b : β}, Paired R as bs → bs[i]? = some b → ∃ a, as[i]? = some a ∧ R a b
  | _, _, _, _, .nil, e => by simp at e
  | _, _, 0, _, .cons r _, e => by simp at e; subst e; exact ⟨_, rfl, r⟩
  | _, _, i + 1, b, .cons _ t, e => by
    obtain ⟨a, h1, h2⟩ := pGet (i := i) (b := b) t (by simpa using e)
    exact ⟨a, by simpa using h1, h2⟩
theorem pGetL {α β : Type} {R : α → β → Prop} : ∀ {as : List α} {bs : List β} {i : Nat} {a : α}, Paired R as bs → as[i]? = some a → ∃ b, bs[i]? = some b ∧ R a b
  | _, _, _, _, .nil, e => by simp at e
  | _, _, 0, _, .cons r _, e => by simp at e; subst e; exact ⟨_, rfl, r⟩
  | _, _, i + 1, b, .cons _ t, e => by
    obtain ⟨a, h1, h2⟩ := pGetL (i := i) (a := b) t (by simpa using e)
    exact ⟨a, by simpa using h1, h2⟩
theorem pSnoc {α β : Type} {R : α → β → Prop} : ∀ {as : List α} {bs : List β} {a : α} {b : β}, Paired R as bs → R a b → Paired R (as ++ [a]) (bs ++ [b])
  | _, _, _, _, .nil, r => .cons r .nil
  | _, _, _, _, .cons q t, r => .cons q (pSnoc t r)
theorem pSet {α β : Type} {R : α → β → Prop} {a : α} {b : β} (r : R a b) : ∀ {as : List α} {bs : List β} (i : Nat), Paired R as bs → Paired R (as.set i a) (bs.set i b)
  | _, _, _, .nil => .nil
  | _, _, 0, .cons _ t => .cons r t
  | _, _, i + 1, .cons q t => .cons q (pSet r i t)
theorem pLen {α β : Type} {R : α → β → Prop} {as : List α} {bs : List β} (h : Paired R as bs) : as.length = bs.length := Paired.length h
theorem pMap {α β : Type} {F G : α → β → Prop} {l₁ : List α} {l₂ : List β} (h : Paired F l₁ l₂) (f : ∀ a b, F a b → G a b) : Paired G l₁ l₂ := Paired.mapP h f
theorem pMapL {α β γ : Type} {R : α → β → Prop} (f : γ → α) {S : γ → β → Prop} (h : ∀ c b, S c b → R (f c) b) : ∀ {cs : List γ} {bs : List β}, Paired S cs bs → Paired R (cs.map f) bs
  | _, _, .nil => .nil
  | _, _, .cons r t => .cons (h _ _ r) (pMapL f h t)
theorem take_succ {α : Type} {l : List α} {i : Nat} {x : α} (h : l[i]? = some x) : l.take (i + 1) = l.take i ++ [x] := by rw [List.take_add_one, h]; rfl
theorem rep_one {α : Type} (x : α) (n : Nat) : (List.replicate n [x]).flatten = List.replicate n x := by
  induction n with
  | zero => rfl
  | succ n ih => rw [List.replicate_succ, List.replicate_succ, List.flatten_cons, ih]; rfl
theorem cut_to {xs : List V} {n : Nat} : cutV xs none (some (n : Int)) = xs.take n := by
  unfold cutV
  rw [show HT.sIx xs.length 0 none = 0 from HT.sIx_none .., HT.sIx_nat]
  rw [List.drop_zero, Nat.sub_zero]
  by_cases h : n ≤ xs.length
  · rw [Nat.min_eq_left h]
  · rw [Nat.min_eq_right (by omega), List.take_of_length_le (Nat.le_refl _), List.take_of_length_le (by omega)]
theorem cut_from {xs : List V} {n : Nat} : cutV xs (some (n : Int)) none = xs.drop n := by
  unfold cutV
  rw [HT.sIx_nat, HT.sIx_none]
  by_cases h : n ≤ xs.length
  · rw [Nat.min_eq_left h, List.take_of_length_le (by rw [List.length_drop]; exact Nat.le_refl _)]
  · rw [Nat.min_eq_right (by omega), List.drop_of_length_le (Nat.le_refl _), List.drop_of_length_le (by omega)]
    simp
end U
namespace U
open PySem PySem.Spec PyProof.Rows L2
theorem hUpd {H : Hp} {a b : Addr} {o u : HO} (n : b ≠ a) (h : H b = some u) : upd H a o b = some u := (upd_ne n).trans h
theorem neN {H : Hp} {a b : Addr} {o : HO} (hb : H b = none) (ha : H a = some o) : a ≠ b := ne_of_none ha hb
theorem sameAt {H H' : Hp} {p : Addr} {o : HO} (s : Same H H') (h : H p = some o) : H' p = some o := s p o h
end U
namespace U
open PySem PySem.Spec PyProof.Rows L2
section
variable {σ σ' : L2.St} {H : Hp} {nx bk ct : L2.St → Hp → Prop} {rt : VK}
theorem nName {i : Nat} {v : V} {R : L2.St → Hp → Prop} (e : σ.set i (some v) = σ') (h : R σ' H) : gName i v σ H R := by subst e; exact h
def PR (nx : L2.St → Hp → Prop) (i j : Nat) (σ : L2.St) (vs : List V) (H1 : Hp) : Prop := ∃ v w, vs = [v, w] ∧ nx ((σ.set i (some v)).set j (some w)) H1
def PR3 (nx : L2.St → Hp → Prop) (i j l : Nat) (σ : L2.St) (vs : List V) (H1 : Hp) : Prop := ∃ u v w, vs = [u, v, w] ∧ nx (((σ.set i (some u)).set j (some v)).set l (some w)) H1
theorem nPar {i j : Nat} {ta : TA} (h : ta σ H (PR nx i j σ)) : tPar i j ta ⟨nx, rt, bk, ct⟩ σ H := h
theorem nPar3 {i j l : Nat} {ta : TA} (h : ta σ H (PR3 nx i j l σ)) : tPar3 i j l ta ⟨nx, rt, bk, ct⟩ σ H := h
theorem nPR {i j : Nat} {v w : V} (e : (σ.set i (some v)).set j (some w) = σ') (h : nx σ' H) : PR nx i j σ [v, w] H := ⟨v, w, rfl, by rw [e]; exact h⟩
theorem nPR3 {i j l : Nat} {u v w : V} (e : ((σ.set i (some u)).set j (some v)).set l (some w) = σ') (h : nx σ' H) : PR3 nx i j l σ [u, v, w] H := ⟨u, v, w, rfl, by rw [e]; exact h⟩
end
end U
namespace U
open PySem PySem.Spec PyProof.Rows L2
theorem kNox {CX : CXT} {P : Program} {w : World} {K : PySem.W.Frag} {mg : Str → Option Value} {base : Heap} {N : List Str} {q : Str} {sc : Scope} {f : Addr} {cd : Value} {A : Around} {o : List Env} {s : Shared} {H : Hp} {E : XK} : (cxOf CX P w K mg base N q sc f cd A o s H E).nox.K = K := rfl
end U
namespace U
open PySem PySem.Spec PyProof.Rows L2
section
variable {H : Hp} {Q : VK}
theorem gCat {l b : Addr} (h : ∃ xs, H l = some (.lst xs) ∧ ∃ zs, H b = some (.lst zs) ∧ xs.length + zs.length ≤ sizeLine ∧ ∀ p, H p = none → Q (.ref p) (upd H p (.lst (xs ++ zs)))) : rCat (.ref l) (.ref b) H Q := let ⟨xs, a, zs, c, d, e⟩ := h; ⟨l, b, xs, zs, rfl, rfl, a, c, d, e⟩
theorem gSorDI {a : Addr} {kvs : List (Key × V)} {ks : List Int} (h : H a = some (.dK kvs)) (e : kvs.map (·.1) = ks.map Sum.inl) (l : ks.length < 64) (q : ∀ p, H p = none → Q (.ref p) (upd H p (.lst ((ks.mergeSort fun a b => decide (a ≤ b)).map V.int)))) : rSorDI [.ref a] H Q :=
  ⟨a, kvs, ks, rfl, .inl h, e, l, fun ys p hp hs np => by rw [PySem.W.os_sorted_mergeSort hp hs]; exact q p np⟩
end
end U
namespace U
section
variable {A B : Prop} {α : Type} {x : α}
theorem oSN (h : B) : if (!(some x).isSome) = true then A else B := h
theorem oNN (h : A) : if (!(none : Option α).isSome) = true then A else B := h
theorem oS (h : A) : if (some x).isSome = true then A else B := h
theorem oN (h : B) : if (none : Option α).isSome = true then A else B := h
theorem oIS (h : B) : if (some x).isNone = true then A else B := h
theorem oIN (h : A) : if (none : Option α).isNone = true then A else B := h
theorem oISN (h : A) : if (!(some x).isNone) = true then A else B := h
theorem oINN (h : B) : if (!(none : Option α).isNone) = true then A else B := h
theorem oNT (h : B) : if (!true) = true then A else B := h
theorem oNF (h : A) : if (!false) = true then A else B := h
end
end U
namespace U
open PySem PySem.Spec PyProof.Rows L2
section
variable {σ : L2.St} {H : Hp} {Q : VK} {td ty tk tv : TE}
theorem iDisp {trs : List (TE × TE)} (h : ∀ p, H p = none → tPairs trs σ (upd H p (.dK [])) fun ps H2 => H2 p = some (.dK []) ∧ ∃ kvs : List (Key × V), ps = kvs.map (fun kv => (kV kv.1, kv.2)) ∧ kvs.length ≤ 15 ∧ Q (.ref p) (upd H2 p (.dK (mergeK [] kvs)))) : tDisp trs σ H Q := h
theorem iPairsN {R : List (V × V) → Hp → Prop} (h : R [] H) : tPairs [] σ H R := h
theorem iPairsC {r : List (TE × TE)} {R : List (V × V) → Hp → Prop} (h : tk σ H fun x H1 => tv σ H1 fun y H2 => tPairs r σ H2 fun ps H3 => R ((x, y) :: ps) H3) : tPairs ((tk, tv) :: r) σ H R := h
def rPopA (ty : TE) (σ : L2.St) (Q : VK) (x : V) (H1 : Hp) : Prop := ∃ a, x = .ref a ∧ IsD H1 a ∧ ty σ H1 fun y H2 => ∃ kvs k v, H2 a = some (.dK kvs) ∧ y = kV k ∧ valV kvs k = some v ∧ Q v (upd H2 a (.dK (dropK kvs k)))
theorem iDPop1 (h : td σ H (rPopA ty σ Q)) : tDPop1 td ty σ H Q := h
theorem gPopA {a : Addr} {kvs : List (Key × V)} (e : H a = some (.dK kvs)) (h : ty σ H fun y H2 => ∃ kvs k v, H2 a = some (.dK kvs) ∧ y = kV k ∧ valV kvs k = some v ∧ Q v (upd H2 a (.dK (dropK kvs k)))) : rPopA ty σ Q (.ref a) H := ⟨a, rfl, .inl ⟨kvs, .inl e⟩, h⟩
theorem iUpdK {a b : Addr} {kvs ks : List (Key × V)} (n : a ≠ b) (ea : H a = some (.dK kvs)) (eb : H b = some (.dK ks)) (z : kvs.length + ks.length ≤ sizeLine) (q : Q .non (upd H a (.dK (mergeK kvs ks)))) : rUpdK (.ref a) [.ref b] H Q := ⟨a, b, kvs, ks, rfl, rfl, n, ea, eb, z, q⟩
end
end U

/-! ### zip of a tuple and a text -/
namespace U
open PySem PySem.Spec PyProof.Rows L2
/-- items with their place in a text: what a turn asks, gives, where it ends -/
def ItzS (Sq : Hp → List V → Prop) (y : Str) : It where
  go i H := ∃ xs x, Sq H xs ∧ xs[i]? = some x ∧ i < y.cps.size
  yld i H v H' := ∃ T x c, v = .ref T ∧ H T = none ∧ H' = upd H T (.tup [x, .str ⟨#[c]⟩]) ∧ (∀ xs, Sq H xs → xs[i]? = some x) ∧ y.cps[i]? = some c
  stop i H := ∃ xs, Sq H xs ∧ i = min xs.length y.cps.size
/-- what a sequence at a gives to zip: St i1 is the state of its iterator i1 -/
structure Src (K : PySem.W.Frag) (a : Addr) (Sq : Hp → List V → Prop) (St : Addr → Nat → Heap → Prop) : Prop where
  there : ∀ {i1 i h}, St i1 i h → ∃ o, h.get? i1 = some o ∧ ∀ v, o.data ≠ .cell v
  stays : ∀ {i1 i h h'}, St i1 i h → (∀ o, h.get? i1 = some o → h'.get? i1 = some o) → St i1 i h'
  inj : ∀ {X : Cx} {pins σ H s xs ys}, X.K = K → Inv X pins σ H s → Sq H xs → Sq H ys → xs = ys
  data : ∀ {X : Cx} {pins σ H s xs}, X.K = K → Inv X pins σ H s → Sq H xs → ∃ (its : List Value) (C : Heap → Prop), Vals xs its ∧ C s.heap ∧ a < s.heap.objs.size ∧ (∃ o, Begins (.ref a) o C ∧ ∀ i1 h, h.get? i1 = some o → St i1 0 h) ∧
    ∀ i1, a ≠ i1 → X.A.in1.handled = none → Draws X.prog X.w X.A.in1 i1 [i1, a] its.toArray.size (fun i v => its.toArray[i]? = some v) (fun i h => St i1 i h ∧ C h)
theorem srcT (K : PySem.W.Frag) (a : Addr) : Src K a (fun H => SqT K H a) (fun i1 i h => h.IsTupleIter i1 a i) where
  there := fun ⟨o, e, _, d⟩ => ⟨o, e, fun v z => by rw [d] at z; cases z⟩
  stays h k := h.at k
  inj := fun e I h h' => by subst e; exact I.tuple_inj h h'
  data := fun e I h => by
    subst e
    obtain ⟨its, rv, p, _⟩ := I.tuple h
    exact ⟨its, fun h => h.IsTuple a its.toArray, rv, p, let ⟨_, e, _⟩ := p; Heap.lt_size e, ⟨_, begins_tuple a _, fun _ _ e => ⟨_, e, rfl, rfl⟩⟩, fun i1 n hh => Draws.tuple hh i1 a n _⟩
section
variable {P : Program} {w : World} {K : PySem.W.Frag} {elts : List Expr} {kk : Nat} {tpos : Pos} {a z TI TO i1 i2 : Addr} {y : Str} {t : Tok} {Sq : Hp → List V → Prop} {St : Addr → Nat → Heap → Prop}
theorem zsep (D : ZipApart z TI TO i1 i2 a a) : ZipSep2 z TI TO i1 i2 [i1, a] [i2] := by
  obtain ⟨_, _, _, _, _, _, _, _, _, _, _, _⟩ := D
  constructor <;> simp_all [eq_comm]
/-- zip's five objects as the walk stands at i -/
abbrev zipAt (St : Addr → Nat → Heap → Prop) (z TI TO i1 i2 : Addr) (y : Str) (t : Tok) (i : Nat) (h : Heap) : Prop := IsZip h z TI TO .none ∧ IsTupOf2 h TI (.ref i1) (.ref i2) ∧ (∃ x y, IsTupOf2 h TO x y) ∧ St i1 i h ∧ h.IsStrIter i2 (strIterType y) y t i
theorem zipAt_obj (S : Src K a Sq St) {i : Nat} {h : Heap} (st : zipAt St z TI TO i1 i2 y t i h) : ∀ b ∈ [z, TI, TO, i1, i2], ∃ o, h.get? b = some o ∧ ∀ v, o.data ≠ .cell v := by
  obtain ⟨hz, hI, ⟨_, _, hO⟩, h1, o2, e2, _, d2⟩ := st
  simp only [List.forall_mem_cons, List.not_mem_nil, false_implies, implies_true, and_true]
  exact ⟨⟨_, hz, nofun⟩, ⟨_, hI, nofun⟩, ⟨_, hO, nofun⟩, S.there h1, o2, e2, fun v q => by rw [d2] at q; cases q⟩
theorem zip_four {b : Addr} (n : b ∉ [z, TI, TO, i1, i2]) : b ∉ [z, TO, i1, i2] := fun m => n ((List.mem_cons.mp m).elim (fun e => e ▸ List.mem_cons_self) fun m => .tail _ (.tail _ m))
theorem turn_zipS (S : Src K a Sq St) (D : ZipApart z TI TO i1 i2 a a) : Turn P w K (.Tuple elts kk tpos) (ItzS Sq y) [z, TI, TO, i1, i2] z (zipAt St z TI TO i1 i2 y t) where
  mem := List.mem_cons_self
  obj _ _ := zipAt_obj S
  keep i h h' st k := by
    simp only [List.forall_mem_cons, List.not_mem_nil, false_implies, implies_true, and_true] at k
    obtain ⟨hz, hI, ⟨x, y', hO⟩, h1, o2, e2, r2⟩ := st
    obtain ⟨kz, kI, kO, k1, k2⟩ := k
    exact ⟨kz _ hz, kI _ hI, ⟨x, y', kO _ hO⟩, S.stays h1 k1, o2, k2 _ e2, r2⟩
  item X eP ew eK hc i pins s σ H E I hf st := by
    rintro ⟨xs, x, hq, hx, hi⟩
    subst eP ew
    have hh : X.A.in1.handled = none := I.ok.hd hc
    obtain ⟨its, C, rv, hC, _, _, D1⟩ := S.data eK I hq
    obtain ⟨u, hu, ru⟩ := rv.get hx
    have hu' : its.toArray[i]? = some u := by rw [List.getElem?_toArray]; exact hu
    refine (GoesN.zip2 (elts := elts) (x1 := kk) (pos := tpos) (zsep D) (D1 i1 D.l1i1 hh) (Draws.text hh i2 y t)).goes i s _ E (Nat.lt_min.mpr ⟨(Array.getElem?_eq_some_iff.mp hu').1, hi⟩) ⟨st.1, st.2.1, st.2.2.1, ⟨st.2.2.2.1, hC⟩, st.2.2.2.2⟩ ?_
    rintro _ h' tk ⟨T, x', _, rfl, new, hx', ⟨c, tk2, hc', rfl⟩, o, ho, hcl, n, hd⟩ st' hk -
    obtain rfl : u = x' := Option.some.inj (hu'.symm.trans hx')
    refine ⟨.ref T, _, I.turnedNew (ob := .tup [x, .str ⟨#[c]⟩]) (fun b o n e => hk b o (zip_four n) e) hf new ⟨by show 2 ≤ sizeLine; decide, _, .cons ru (.cons ⟨tk2, rfl⟩ .nil), o, ho, hcl, n, hd⟩, rfl,
      ⟨T, x, c, rfl, I.hok.fresh new, rfl, fun l hl => by rw [S.inj eK I hl hq]; exact hx, hc'⟩, ⟨st'.1, st'.2.1, st'.2.2.1, st'.2.2.2.1.1, st'.2.2.2.2⟩, fun b hb => ?_⟩
    obtain ⟨_, e, _⟩ := zipAt_obj S st b hb
    exact (upd_ne (Nat.ne_of_lt (Nat.lt_of_lt_of_le (Heap.lt_size e) new))).trans (hf b hb).1
  done X eP ew eK hc i pins s σ H E I hf st := by
    rintro ⟨xs, hq, hi⟩
    subst eP ew
    have hh : X.A.in1.handled = none := I.ok.hd hc
    obtain ⟨its, C, rv, hC, _, _, D1⟩ := S.data eK I hq
    have G := GoesN.zip2 (elts := elts) (x1 := kk) (pos := tpos) (zsep D) (D1 i1 D.l1i1 hh) (Draws.text hh i2 y t)
    rw [List.size_toArray, ← rv.length, ← hi] at G
    exact G.stops s _ E ⟨st.1, st.2.1, st.2.2.1, ⟨st.2.2.2.1, hC⟩, st.2.2.2.2⟩ fun h' tk hk _ => I.turnedL (t' := tk) (ch := [z, TI, TO, i1, i2]) (fun b o n e => hk b o (zip_four n) e) hf
  self _ _ _ _ _ st h := wpAny_pyIter_zip st.1 h
end
theorem five {n b : Nat} (h : b ∈ [n + 4, n + 2, n + 3, n, n + 1]) : n ≤ b := by simp only [List.mem_cons, List.not_mem_nil, or_false] at h; omega
/-- zip(a, y) begins -/
theorem zip_on {X : Cx} {a : Addr} {Sq : Hp → List V → Prop} {St : Addr → Nat → Heap → Prop} {elts : List Expr} {kk : Nat} {tpos : Pos} {pins : List (Addr × Obj)} {σ : L2.St} {H : Hp} {s : Shared} {R : It → Hp → Prop} {E : Value → Shared → Prop} {xs : List V} {y : Str} {t : Tok}
    (S : Src X.K a Sq St) (I : Inv X pins σ H s) (hq : Sq H xs) (h : R (ItzS Sq y) H) : wpAny (model X.prog X.w) X.A (call (.type "zip") [.ref a, .str y t]) (fun v s1 => wpAny (model X.prog X.w) X.A (pyIter v) (PIE X pins σ (.Tuple elts kk tpos) R) E s1) E s := by
  obtain ⟨its, C, _, hC, lt, ⟨o, B, st0⟩, _⟩ := S.data rfl I hq
  refine zip_begins2 B (begins_text y t) hC trivial fun h' hz hI hO h1 h2 _ hk => wpAny_pyIter_zip hz ?_
  exact ⟨_, _, _, _, H, rfl, I.kept (t' := s.toks) hk, turn_zipS S (PySem.W.ktu_apart s.heap.objs.size a a lt lt), ⟨hz, hI, ⟨_, _, hO⟩, st0 _ _ h1, _, h2, rfl, rfl⟩, fun b hb => I.fpOk (five hb) (I.hok.fresh (five hb)), h⟩
theorem pi_zipS {X : Cx} {e e2 : Expr} {ta : TA} {p pos tpos : Pos} {elts : List Expr} {kk : Nat} {Sq : Addr → Hp → List V → Prop} {St : Addr → Addr → Nat → Heap → Prop} (S : ∀ a, Src X.K a (Sq a) (St a)) (hg : Gl X "zip") (hm : X.mg "zip" = none) (ha : PA X [e, e2] ta)
    (two : starEach [e, e2] X.env = (false, eval e X.env) :: starEach [e2] X.env) (plain : (backTo pos (starEach [e2] X.env)).any (·.1) = false) :
    PI X (.Tuple elts kk tpos) (.Call (.Name "zip" p) [e, e2] [] pos) (fun σ H R => ta σ H fun vs H1 => ∃ a y xs, vs = [.ref a, .str y] ∧ Sq a H1 xs ∧ R (ItzS (Sq a) y) H1) :=
  ⟨fun pins s σ H R I h => Call_ (ld_blt I hg hm PyProof.Rows.boot_zip (PyProof.Rows.callWith_type1 (thn (ha.run pos pins s σ H _ I h) fun us s1 ⟨_, _, I1, r1, a, y, xs, ev, hq, q⟩ => by
    subst ev
    obtain ⟨_, _, rfl, rfl, t, rfl⟩ := vals2 r1
    exact zip_on (S a) I1 hq q) two plain))⟩
def iZipTS (K : PySem.W.Frag) (ta : TA) : TI := fun σ H R => ta σ H fun vs H1 => ∃ a y xs, vs = [.ref a, .str y] ∧ SqT K H1 a xs ∧ R (ItzS (fun H => SqT K H a) y) H1
theorem pi_zipTS {X : Cx} {e e2 : Expr} {ta : TA} {p pos tpos : Pos} {elts : List Expr} {kk : Nat} (hg : Gl X "zip") (hm : X.mg "zip" = none) (ha : PA X [e, e2] ta) (two : starEach [e, e2] X.env = (false, eval e X.env) :: starEach [e2] X.env := by rfl) (plain : (backTo pos (starEach [e2] X.env)).any (·.1) = false := by rfl) :
    PI X (.Tuple elts kk tpos) (.Call (.Name "zip" p) [e, e2] [] pos) (iZipTS X.K ta) := pi_zipS (srcT X.K) hg hm ha two plain
/-- a walk of n turns over it -/
theorem walk_zipS {Sq : Hp → List V → Prop} {xs : List V} {y : Str} {n : Nat} (hn : n = min xs.length y.cps.size) : Walk (ItzS Sq y) n (fun H => Sq H xs) (fun i H v H' => ∃ T x c, v = .ref T ∧ H T = none ∧ H' = upd H T (.tup [x, .str ⟨#[c]⟩]) ∧ xs[i]? = some x ∧ y.cps[i]? = some c) :=
  ⟨fun i _ hi q => ⟨xs, xs[i]'(by omega), q, List.getElem?_eq_getElem _, by omega⟩, fun _ q => ⟨xs, q, hn⟩, fun _ _ _ _ _ q ⟨T, x, c, h1, h2, h3, h4, h5⟩ => ⟨T, x, c, h1, h2, h3, h4 xs q, h5⟩⟩
def WZ (K : PySem.W.Frag) (R : It → Hp → Prop) (vs : List V) (H1 : Hp) : Prop := ∃ a y xs, vs = [.ref a, .str y] ∧ SqT K H1 a xs ∧ R (ItzS (fun H => SqT K H a) y) H1
theorem iWZ {K : PySem.W.Frag} {R : It → Hp → Prop} {ta : TA} {σ : L2.St} {H : Hp} (h : ta σ H (WZ K R)) : iZipTS K ta σ H R := h
theorem walk_zipTS {K : PySem.W.Frag} {a : Addr} {xs : List V} {y : Str} {n : Nat} (hn : n = min xs.length y.cps.size) : Walk (ItzS (fun H => SqT K H a) y) n (fun H => SqT K H a xs) (fun i H v H' => ∃ T x c, v = .ref T ∧ H T = none ∧ H' = upd H T (.tup [x, .str ⟨#[c]⟩]) ∧ xs[i]? = some x ∧ y.cps[i]? = some c) := walk_zipS (Sq := fun H => SqT K H a) hn
end U

namespace U
open PySem PySem.Spec PyProof.Rows L2
section
variable {X : Cx} {K : PySem.W.Frag} {w : World} {σ : L2.St} {H : Hp} {Q : VK} {d : Addr}
/-! ### tables -/
def rInKd (K : PySem.W.Frag) (d : Addr) : R2 := fun x y H Q => ∃ (z : Str) (r : Option Value), x = .str z ∧ y = .ref d ∧ PySem.W.nsIn K d z = some r ∧ Q (.bl r.isSome) H
def rNotInKd (K : PySem.W.Frag) (d : Addr) : R2 := fun x y H Q => ∃ (z : Str) (r : Option Value), x = .str z ∧ y = .ref d ∧ PySem.W.nsIn K d z = some r ∧ Q (.bl (!r.isSome)) H
theorem op_inKd (D : ∃ es n, KDict X.K X.w d es n) : OpR X (compareOp .In) (rInKd X.K d) := let ⟨_, _, D⟩ := D; op_in_kd D
theorem op_notInKd (D : ∃ es n, KDict X.K X.w d es n) : OpR X (compareOp .NotIn) (rNotInKd X.K d) := let ⟨_, _, D⟩ := D; op_notIn_kd D
theorem iNotInKd {z : Str} {r : Option Value} (e : PySem.W.nsIn K d z = some r) (q : Q (.bl (!r.isSome)) H) : rNotInKd K d (.str z) (.ref d) H Q := ⟨z, r, rfl, rfl, e, q⟩
theorem iIxKd {z : Str} {u : Value} {v : V} (D : ∃ es n, KDict K w d es n) (e : PySem.W.nsIn K d z = some (some u)) (r : RelV v u) (q : Q v H) : rIxD K w (.ref d) (.str z) H Q := let ⟨es, n, D⟩ := D; ⟨d, z, v, rfl, rfl, ⟨es, n, u, D.at_, D.lit, e, r⟩, q⟩
/-! ### kinds -/
theorem tyT {a : Addr} {xs : List V} (h : SqT K H a xs) : TyX K H (.ref a) (.type "tuple") := by
  rcases h with (h | ⟨o, h⟩) | h
  · exact .base (.tup h)
  · exact .fTuple h
  · obtain ⟨o, its, n, e, c, _⟩ := h
    exact .kTuple e c
theorem tyL {a : Addr} {xs : List V} (h : SqL K H a xs) : TyX K H (.ref a) (.type "list") := by
  rcases h with (h | ⟨o, h⟩) | h
  · exact .base (.lst h)
  · exact .base (.frz h)
  · obtain ⟨o, its, n, e, c, _⟩ := h
    exact .kList e c
theorem iIsi {x : V} {a b : String} {r : Bool} (ty : TyX K H x (.type a)) (k : kitB a b = some r) (q : Q (.bl r) H) : rIsi K [x, .ty b] H Q := ⟨x, .ty b, .type a, .type b, r, rfl, .ty b, ty, kit_ty k, q⟩
theorem iIsiI {i : Int} {b : String} {r : Bool} (k : kitB "int" b = some r) (q : Q (.bl r) H) : rIsi K [.int i, .ty b] H Q := iIsi (.base (.int i)) k q
theorem iIsiS {i : Str} {b : String} {r : Bool} (k : kitB "str" b = some r) (q : Q (.bl r) H) : rIsi K [.str i, .ty b] H Q := iIsi (.base (.str i)) k q
theorem iIsiB {i : Bool} {b : String} {r : Bool} (k : kitB "bool" b = some r) (q : Q (.bl r) H) : rIsi K [.bl i, .ty b] H Q := iIsi (.base (.bl i)) k q
theorem iIsiN {b : String} {r : Bool} (k : kitB "NoneType" b = some r) (q : Q (.bl r) H) : rIsi K [.non, .ty b] H Q := iIsi (.base .non) k q
theorem iDNewK (h : ∀ p, H p = none → Q (.ref p) (upd H p (.dK []))) : tDNewK σ H Q := h
end
end U

/-! ### the same rules, for blocks inside: K named -/
namespace U
open PySem PySem.Spec PyProof.Rows L2
section
variable {X : Cx} {K : PySem.W.Frag} {w : World}
theorem ixLK (e : X.K = K := by rfl) : IxR X (rIxL K) := e ▸ ix_list
theorem ixTK (e : X.K = K := by rfl) : IxR X (rIxT K) := e ▸ ix_tup
theorem ixDK (e : X.K = K := by rfl) (e2 : X.w = w := by rfl) : IxR X (rIxD K w) := e ▸ e2 ▸ ix_kdict
theorem lenK (e : X.K = K := by rfl) : CallR X (.builtin "len") (rLenU K) := e ▸ c_len
theorem eqDK (hu : X.A.units + 64 < cLine) (e : X.K = K := by rfl) : OpR X (compareOp .Eq) (rEqD K) := e ▸ op_eqD hu
theorem neDK (hu : X.A.units + 64 < cLine) (e : X.K = K := by rfl) : OpR X (compareOp .NotEq) (rNeD K) := e ▸ op_neD hu
theorem listK (e : X.K = K := by rfl) : CallR X (.type "list") (rListOf K) := e ▸ c_list
theorem tupleK (e : X.K = K := by rfl) : CallR X (.type "tuple") (rTupOf K) := e ▸ c_tuple
theorem isiK (e : X.K = K := by rfl) : CallR X (.builtin "isinstance") (rIsi K) := e ▸ call_isi
theorem isiTK (e : X.K = K := by rfl) : CallR X (.builtin "isinstance") (rIsiT K) := e ▸ call_isiT
theorem repTAK (e : X.K = K := by rfl) : OpR X (binaryOp .Mult) (rRepA K) := e ▸ op_repTA
theorem inKdK {d : Addr} (D : ∃ es n, KDict K w d es n) (e : X.K = K := by rfl) (e2 : X.w = w := by rfl) : OpR X (compareOp .In) (rInKd K d) := by
  subst e e2
  exact op_inKd D
theorem notInKdK {d : Addr} (D : ∃ es n, KDict K w d es n) (e : X.K = K := by rfl) (e2 : X.w = w := by rfl) : OpR X (compareOp .NotIn) (rNotInKd K d) := by
  subst e e2
  exact op_notInKd D
theorem pgTupK {es : List Expr} {k : Nat} {t : TGs} {n : Nat} {pos : Pos} (hc : X.calm = true) (h : PGs X es t) (e : X.K = K := by rfl)
    (hn : (assignEach es X.env).length = n := by rfl) (hst : (assignEach es X.env).findIdx? (·.1) = none := by rfl) : PG X (.Tuple es k pos) (gTup K n t) := e ▸ pg_tup hc h hn hst
end
end U
namespace U
open PySem PySem.Spec PyProof.Rows L2
section
variable {σ : L2.St} {H : Hp} {Q : VK} {K : PySem.W.Frag}
theorem iSlX {z : Str} {lo hi : Option Int} (hz : z.length ≤ sizeLine) (q : Q (.str (Txt.slice z lo hi)) H) : C8.rSlX (.str z) lo hi H Q := ⟨z, rfl, hz, q⟩
theorem iIxS {z : Str} {i : Int} {c : Nat} (hz : z.length ≤ sizeLine) (e : atI z.cps.toList i = some c) (q : Q (.str ⟨#[c]⟩) H) : rIxS (.str z) (.int i) H Q := ⟨z, i, c, rfl, rfl, hz, e, q⟩
theorem iNotInS {i j : Str} (q : Q (.bl (!(!(Builtin.Str.occurrences j i 0 j.length 1).isEmpty))) H) : rNotInS (.str i) (.str j) H Q := ⟨i, j, rfl, rfl, q⟩
theorem iInS {i j : Str} (q : Q (.bl (!(Builtin.Str.occurrences j i 0 j.length 1).isEmpty)) H) : rInS (.str i) (.str j) H Q := ⟨i, j, rfl, rfl, q⟩
def M1 (r : V → List V → Hp → VK → Prop) (te : TE) (σ : L2.St) (Q : VK) (x : V) (H1 : Hp) : Prop := (∃ a, x = .str a) ∧ te σ H1 fun y H2 => r x [y] H2 Q
theorem iM1 {r : V → List V → Hp → VK → Prop} {to te : TE} (h : to σ H (M1 r te σ Q)) : tM1 r to te σ H Q := h
theorem gM1 {r : V → List V → Hp → VK → Prop} {te : TE} {a : Str} (h : te σ H fun y H2 => r (.str a) [y] H2 Q) : M1 r te σ Q (.str a) H := ⟨⟨a, rfl⟩, h⟩
theorem iExtend {l b : Addr} {xs zs : List V} (h : H l = some (.lst xs)) (h2 : H b = some (.lst zs)) (z : xs.length + zs.length ≤ sizeLine) (q : Q .non (upd H l (.lst (xs ++ zs)))) : rExtend (.ref l) [.ref b] H Q := ⟨l, b, xs, zs, rfl, rfl, h, h2, z, q⟩
theorem gJoin {X : Cx} {a : Str} {p : Addr} {ys : List Str} (h : SqL X.K H p (ys.map V.str)) (z : (ys.map (·.length)).sum + ys.length * a.length ≤ 16777216) (q : Q (.str (Txt.join a ys)) H) : (fun x xs H Q => ∃ a p, ∃ ys : List Str, x = .str a ∧ xs = [.ref p] ∧ (SqL X.K H p (ys.map V.str) ∨ SqT X.K H p (ys.map V.str)) ∧
      (ys.map (·.length)).sum + ys.length * a.length ≤ 16777216 ∧ Q (.str (Txt.join a ys)) H : V → List V → Hp → VK → Prop) (.str a) [.ref p] H Q := ⟨a, p, ys, rfl, rfl, .inl h, z, q⟩
theorem gSplit {a b : Str} (hb : (b.length == 0) = false) (ha : a.length + 2 ≤ sizeLine) (q : ∀ p, H p = none → Q (.ref p) (upd H p (.lst ((Txt.split a b).map V.str)))) : (fun x xs H Q => ∃ a b, x = .str a ∧ xs = [.str b] ∧ (b.length == 0) = false ∧ a.length + 2 ≤ sizeLine ∧ rNewStrs (Txt.split a b) H Q : V → List V → Hp → VK → Prop) (.str a) [.str b] H Q := ⟨a, b, rfl, rfl, hb, ha, q⟩
end
end U

/-! ### a lambda of parameters and captured names, called by a built-in -/
namespace U
open PySem PySem.Spec PyProof.Rows L2 LamX NdefX
abbrev lmF (q : Str) (params : Arguments) (scope : Scope) (cl : List (Str × Addr)) (c : Addr) : NF := ⟨"<lambda>", q, params, [], scope, cl, c⟩
section
variable {X : Cx} {pins : List (Addr × Obj)} {σ : L2.St} {H : Hp} {s : Shared} {k : Nat} {N ps fr : List Str}
theorem lamRun {A' : Around} {q : Str} {params : Arguments} {body : Expr} {scope : Scope} {cl : List (Str × Addr)} {pm ctv : Value} {f c' : Addr} {us : List Value} {vs : List V} {ws : List (Option V)} {tb : TE} {Q : VK} {Er : Value → Shared → Prop}
    (I : Inv X pins σ H s) (S : NScope N ps fr scope) (hf : s.heap.get? f = some (PySem.W.kla_obj "<lambda>" q params body scope cl pm c' ctv)) (hc : H c' = some (CodeO c' q)) (C : CellsAt cl fr ws s.heap H)
    (hr : Room (k + 1) A') (hfr : A'.frames = some X.stack) (hb : bindArgs (PySem.W.kla_fn "<lambda>" q params body scope cl pm (.ref c') ctv) ⟨us, []⟩ = pure (ps.zip us)) (r : Vals vs us) (hl : vs.length = ps.length)
    (hbody : Room k (A'.deeper (envF (lmF q params scope cl c') f s.heap.objs.size)) → PE (ncx L2.CX0 X.prog X.w X.K X.mg X.base N (lmF q params scope cl c') f A' X.stack s H C8.E0) body tb) (ht : tb (startF N vs ws) H Q) :
    wpAny (model X.prog X.w) A' (call (.ref f) us) (EP X pins σ Q) Er s := by
  have e0 : Env0 X.prog X.w X.K X.mg X.base A' X.stack s H := { I.env0 with frames := hfr }
  have rc : codeAny (model X.prog X.w) A' (.call (.ref f) ⟨us, []⟩) (CR L2.CX0 X.stack X.prog X.w H s Q C8.E0) s := by
    refine PySem.W.kla_callFunE hr.depth hf rfl S.co S.gen rfl (codeO_at I.hok hc) ?_
    rw [hb]
    refine wpAny_pure (wpAny_newFunctionEnv S.nocell (fun y hy => S.par y.1 (List.of_mem_zip (show (y.1, y.2) ∈ _ from hy)).1) (fun h1 hns hsb => ⟨I.nolimit.fresh _ hsb, ?_⟩) S.kind)
    have kp : ∀ b o, s.heap.get? b = some o → h1.get? b = some o := fun b o e => hsb.extBut b o (Nat.ne_of_lt (Heap.lt_size e)) (Heap.get?_push_of_some _ e)
    have J := inv_startN (CX := L2.CX0) (f := f) (E := C8.E0) (F := lmF q params scope cl c') (tk := s.toks + (ps.zip us).length) S hr.hd e0 hl r C hns kp
    show codeAny _ _ (.expr body (envF (lmF q params scope cl c') f s.heap.objs.size)) _ _
    refine PySem.W.kla_codeExpr (wpAny_mono ((hbody (hr.deeper _)).run [] _ _ H Q J ht) (fun v s2 z => ?_) fun e s2 z => z)
    obtain ⟨w2, H2, J2, rv, z⟩ := z
    exact ⟨w2, H2, J2.os, J2.bare, J2.base, J2.hok, rv, z⟩
  refine wpAny_call (codeAny_mono rc fun r2 s2 z => ?_)
  match r2, z with
  | .error e, z => exact (show False from z).elim
  | .ok (.ret u), z => exact I.after z
  | .ok .next, z => exact False.elim z
  | .ok .brk, z => exact False.elim z
  | .ok .cont, z => exact False.elim z
end
/-- a lambda's object made: all that stood but the tables stands, nothing is lost -/
theorem lamMake {X : Cx} {pins : List (Addr × Obj)} {σ : L2.St} {H : Hp} {s : Shared} {T : List (Addr × Str)} {c P : Addr} {pa : Arguments} {bo : Expr} {sc : Scope} {lp : Pos} {Er R : Value → Shared → Prop} (J : Inv X pins σ H s) (B : TabB X.base X.mg c P) (ec : X.env.code = .ref c)
    (inT : (P, X.env.qual ++ "<lambda>") ∈ T) (one : ∀ z ∈ T, z.1 = P → z.2 = X.env.qual ++ "<lambda>") (tT : Tabs T H) (nodef : defaultsOf pa X.env = ([], [])) (cells : ∀ y ∈ sc.names, y.2 = .free → ∃ c, X.env.cells.lookup y.1 = some c)
    (go : ∀ (f d : Addr) (pm ct : Value) (G : Hp) (s' : Shared), Inv X pins σ G s' → Fr [P] H G → Tabs T G → s'.heap.get? f = some (PySem.W.kla_obj "<lambda>" (X.env.qual ++ "<lambda>") pa bo sc (cloFrom X.env.cells sc.names []) pm d ct) → G f = none → f ∉ frs X.stack →
      G d = some (CodeO d (X.env.qual ++ "<lambda>")) → R (.ref f) s') : wpAny (model X.prog X.w) X.A (eval (.Lambda pa bo sc lp) X.env) R Er s := by
  obtain ⟨tb, hP, t3, nm⟩ := tT _ inT
  have oP : s.heap.get? P = some { cls := .none, data := .fields tb } := J.hok P _ hP
  have ba : s.heap.BuiltinsAt X.mg P := B.bm.keeps J.bk
  have far : ∀ f, s.heap.objs.size ≤ f → f ∉ frs X.stack := fun f le z => (List.mem_cons.mp (J.stkSub f z)).elim (fun e => absurd (Nat.lt_of_lt_of_le J.lt (e ▸ le)) (Nat.lt_irrefl _)) (J.nofs le)
  refine PySem.W.kla_eval nodef ?_
  cases q : codeAmong lp tb.toList with
  | some cv =>
    obtain ⟨d, rfl, hd⟩ := nm lp cv q
    refine PySem.W.kla_makeFunctionHit (mg := X.mg) (c := c) (P := P) (ps := tb) (closure_ok cells) J.ok.glob (J.mod.glob.keeps J.bk) ec (B.code.keeps J.bk) oP t3 q ba fun ct g tk up le => ?_
    have J1 := Inv.kept (t' := tk) (h' := g.push (PySem.W.kla_obj "<lambda>" (X.env.qual ++ "<lambda>") pa bo sc (cloFrom X.env.cells sc.names []) ((X.mg "__name__").getD .none) d ct)) J fun b o e => Heap.get?_push_of_some _ (up b o e)
    exact go _ d _ ct H _ J1 Fr.refl tT (Heap.get?_push_size _ rfl) (J.hok.fresh le) (far _ le) hd
  | none =>
    refine PySem.W.kla_makeFunction (mg := X.mg) (c := c) (P := P) (ps := tb) (closure_ok cells) J.ok.glob (J.mod.glob.keeps J.bk) ec (B.code.keeps J.bk) oP t3 q B.gP ba fun d ct g tk up ge lt rc tab => ?_
    obtain ⟨d2, oc, vv, tt, ed, e1, e2, e3⟩ := rc
    cases ed
    have nd : H d = none := J.hok.fresh ge
    have le : s.heap.objs.size ≤ g.objs.size := Nat.le_trans ge (Nat.le_of_lt lt)
    have J1 := inv_table (t' := tk) (more := #[rawInt lp.line, rawInt lp.col, .ref d]) (h' := g.push (PySem.W.kla_obj "<lambda>" (X.env.qual ++ "<lambda>") pa bo sc (cloFrom X.env.cells sc.names []) ((X.mg "__name__").getD .none) d ct)) J hP
      (fun b o ne e => Heap.get?_push_of_some _ (up b o ne e)) (Heap.get?_push_of_some _ tab) ge ⟨oc, vv, tt, Heap.get?_push_of_some _ e1, e2, e3⟩
    have kp : ExtN H (upd (upd H P (.tbl (tb ++ #[rawInt lp.line, rawInt lp.col, .ref d]))) d (CodeO d (X.env.qual ++ "<lambda>"))) := fun b o e no => by
      have n1 : b ≠ P := fun z => by subst z; rw [hP] at e; exact no tb (Option.some.inj e).symm
      rw [upd_ne (ne_of_none e nd), upd_ne n1]
      exact e
    have ls : (tb ++ #[rawInt lp.line, rawInt lp.col, .ref d]).toList = tb.toList ++ [rawInt lp.line, rawInt lp.col, .ref d] := by simp
    have kp2 : ∀ b o, H b = some o → b ≠ P → upd (upd H P (.tbl (tb ++ #[rawInt lp.line, rawInt lp.col, .ref d]))) d (CodeO d (X.env.qual ++ "<lambda>")) b = some o := fun b o e n1 => by
      rw [upd_ne (ne_of_none e nd), upd_ne n1]
      exact e
    refine go _ d _ ct _ _ J1 ⟨fun b o e n => kp2 b o e (by simpa using n), fun b o e => kp _ _ e (fun ps z => by cases z), fun b o u e => kp _ _ e (fun ps z => by cases z), fun b z => upd_none (upd_none z)⟩ (fun z hz => ?_) (Heap.get?_push_size _ rfl) ?_ (far _ le) upd_same
    · by_cases e : z.1 = P
      · rw [one z hz e, e]
        refine ⟨_, (upd_ne (ne_of_none hP nd)).trans upd_same, by rw [ls]; exact PySem.TriplesOk_snoc _ _ _ _ t3, fun pp cv hc => ?_⟩
        rw [ls] at hc
        refine (among_app _ t3 hc).elim (fun old => ?_) fun e => ⟨d, e, upd_same⟩
        obtain ⟨d0, a1, a2⟩ := nm pp cv old
        exact ⟨d0, a1, kp _ _ a2 codeO_ne⟩
      · obtain ⟨tz, a1, a2, a3⟩ := tT z hz
        refine ⟨tz, (upd_ne (ne_of_none a1 nd)).trans ((upd_ne e).trans a1), a2, fun pp cv hc => ?_⟩
        obtain ⟨d0, b1, b2⟩ := a3 pp cv hc
        exact ⟨d0, b1, kp _ _ b2 codeO_ne⟩
    · have n1 : g.objs.size ≠ d := Nat.ne_of_gt lt
      have n2 : g.objs.size ≠ P := Nat.ne_of_gt (Nat.lt_of_lt_of_le (Heap.lt_size oP) le)
      exact (upd_ne n1).trans ((upd_ne n2).trans (J.hok.fresh le))
/-! ### sorted by a key -/
/-- a key's value as two ints -/
def kpr (H : Hp) : Value → Int × Int
  | .ref t => match H t with
    | some (.tup [.int a, .int b]) => (a, b)
    | _ => (0, 0)
  | _ => (0, 0)
section
variable {X : Cx} {pins : List (Addr × Obj)} {σ : L2.St} {H : Hp} {s : Shared}
theorem fp_pin (I : Inv X pins σ H s) {D : Addr} {o : Obj} (h : FpOk X pins H D) (e : s.heap.get? D = some o) (hc : ∀ v, o.data ≠ .cell v) : Inv X ((D, o) :: pins) σ H s :=
  I.pins_of fun p hp => by
    rcases List.mem_cons.mp hp with z | z
    · subst z
      exact ⟨e, h.1, h.2.1, h.2.2.1, hc⟩
    · exact I.pin p (List.mem_append_right _ z)
theorem fp_unpin {D : Addr} {o : Obj} (I : Inv X ((D, o) :: pins) σ H s) : Inv X pins σ H s ∧ s.heap.get? D = some o ∧ H D = none :=
  ⟨I.pins_of fun p hp => I.pin p (List.mem_append_right _ (List.mem_cons_of_mem _ hp)), (I.pin (D, o) (List.mem_append_right _ (List.mem_cons_self ..))).1, (I.pin (D, o) (List.mem_append_right _ (List.mem_cons_self ..))).2.1⟩
theorem fp_mv {H' : Hp} {D : Addr} (h : FpOk X pins H D) (n : H' D = none) : FpOk X pins H' D := ⟨n, h.2⟩
theorem fp_cons {D E : Addr} {o : Obj} (h : FpOk X pins H D) (n : E ≠ D) : FpOk X ((E, o) :: pins) H D := ⟨h.1, h.2.1, h.2.2.1, h.2.2.2.1, h.2.2.2.2.1, fun p hp => by
  rcases List.mem_append.mp hp with z | z
  · exact h.2.2.2.2.2 p (List.mem_append_left _ z)
  · rcases List.mem_cons.mp z with z | z
    · subst z; exact n
    · exact h.2.2.2.2.2 p (List.mem_append_right _ z)⟩
/-- the keys made so far -/
structure KyS (X : Cx) (pins : List (Addr × Obj)) (σ : L2.St) (H0 : Hp) (D kS : Addr) (e1 : Nat) (ns : List Int) (kx : Int → Int × Int) (i : Nat) (s : Shared) : Prop where
  ex : ∃ (H : Hp) (kvs : List Value) (e : Nat), Inv X pins σ H s ∧ Same H0 H ∧ s.heap.get? D = some (seqObj "list" #[] e1) ∧ s.heap.get? kS = some (seqObj "list" kvs.toArray e) ∧ FpOk X pins H D ∧ FpOk X pins H kS ∧ kvs.length = i ∧
    ∀ j n, ns[j]? = some n → j < i → ∃ t, kvs[j]? = some (.ref t) ∧ H t = some (.tup [.int (kx n).1, .int (kx n).2])
theorem sortKeyTree {A' : Around} {f D : Addr} {its : List Value} {ns : List Int} {n : Nat} {kx : Int → Int × Int} {R : PySem.Fin → Shared → Prop} {E : Value → Shared → Prop} (I : Inv X pins σ H s) (hi : IntsAre its ns) (hD : s.heap.get? D = some (seqObj "list" its.toArray n)) (fD : FpOk X pins H D) (hz : ns.length ≤ 1000)
    (turn : ∀ (m : Int) (t : Tok) (H' : Hp) (s' : Shared) (pins' : List (Addr × Obj)), m ∈ ns → Same H H' → Inv X pins' σ H' s' → (∀ p ∈ pins, p ∈ pins') →
      wpAny (model X.prog X.w) A' (call (.ref f) [.int m t]) (EP X pins' σ fun v H'' => Same H' H'' ∧ ∃ t, v = .ref t ∧ H'' t = some (.tup [.int (kx m).1, .int (kx m).2])) (fun _ _ => False) s')
    (done : ∀ H' s' out ns' n', Inv X pins σ H' s' → Same H H' → s'.heap.get? D = some (seqObj "list" out n') → FpOk X pins H' D → IntsAre out.toList ns' → ns'.Perm ns → ns'.Pairwise (fun a b => SrtO.lexB (kx b) (kx a) = false) → R (.done (.ret .none)) s') :
    wpAny (model X.prog X.w) A' (ksk_tree D (.ref f) false) R E s := by
  have hlen := hi.length
  have hits : its.length ≤ sizeLine := Nat.le_trans (show _ ≤ 1000 by omega) (by decide)
  unfold ksk_tree
  refine wpAny_bind (listItems_at hD rfl ?_)
  refine wpAny_bind (listUpdate_at hD rfl ?_ (by rw [List.size_toArray]; exact hits) (Nat.zero_le _))
  obtain ⟨e1, hD1⟩ : ∃ e1, (s.heap.update D (Obj.mapSeq fun _ => (#[] : Array Value))).get? D = some (seqObj "list" #[] e1) := ⟨_, get?_update_seq hD fun _ => #[]⟩
  have I1 : Inv X pins σ H { s with heap := s.heap.update D (Obj.mapSeq fun _ => (#[] : Array Value)) } := I.turnedL (t' := s.toks) (ch := [D]) (fun b o hb e => (Heap.get?_update_ne _ _ _ _ (by simpa using hb)).trans e) fun b hb => by rw [List.mem_singleton.mp hb]; exact fD
  refine wpAny_bind (seqEpoch_at hD1 rfl ?_)
  refine wpAny_bind (wpAny_newTuple ?_ (by exact hits))
  have I2 : Inv X pins σ H { s with heap := (s.heap.update D (Obj.mapSeq fun _ => (#[] : Array Value))).push (seqObj "tuple" its.toArray 0) } := I1.kept (t' := s.toks) fun b o e => Heap.get?_push_of_some _ e
  refine wpAny_bind (wpAny_newList ?_ (Nat.zero_le _))
  have I3 : Inv X pins σ H { s with heap := ((s.heap.update D (Obj.mapSeq fun _ => (#[] : Array Value))).push (seqObj "tuple" its.toArray 0)).push (seqObj "list" #[] 0) } := I2.kept (t' := s.toks) fun b o e => Heap.get?_push_of_some _ e
  have hkS := Heap.get?_push_size ((s.heap.update D (Obj.mapSeq fun _ => (#[] : Array Value))).push (seqObj "tuple" its.toArray 0)) (o := seqObj "list" #[] 0) rfl
  have hD3 := Heap.get?_push_of_some (seqObj "list" #[] 0) (Heap.get?_push_of_some (seqObj "tuple" its.toArray 0) hD1)
  have fK := I2.fpOk (Nat.le_refl _) (I2.hok.fresh (Nat.le_refl _))
  refine wpAny_holding ?_
  show wpAny _ _ (ksk_rest D (.ref f) false its.toArray e1 (.ref ((s.heap.update D (Obj.mapSeq fun _ => (#[] : Array Value))).push (seqObj "tuple" its.toArray 0)).objs.size)) R E { s with heap := ((s.heap.update D (Obj.mapSeq fun _ => (#[] : Array Value))).push (seqObj "tuple" its.toArray 0)).push (seqObj "list" #[] 0) }
  have hDk : D ≠ ((s.heap.update D (Obj.mapSeq fun _ => (#[] : Array Value))).push (seqObj "tuple" its.toArray 0)).objs.size := fun z => by
    have := Heap.lt_size (Heap.get?_push_of_some (seqObj "tuple" its.toArray 0) hD1)
    rw [← z] at this
    exact Nat.lt_irrefl _ this
  generalize ((s.heap.update D (Obj.mapSeq fun _ => (#[] : Array Value))).push (seqObj "tuple" its.toArray 0)).objs.size = kS at hkS fK hDk
  generalize ((s.heap.update D (Obj.mapSeq fun _ => (#[] : Array Value))).push (seqObj "tuple" its.toArray 0)).push (seqObj "list" #[] 0) = h3 at I3 hkS hD3
  unfold ksk_rest
  refine wpAny_bind (wpAny_rule ?_)
  rw [← Array.forIn_toList]
  refine wpAny_bind (ksk_fold (KyS X pins σ H D kS e1 ns kx) its 0 { s with heap := h3 } ⟨⟨H, [], 0, I3, Same.refl H, hD3, hkS, fD, fK, rfl, fun j n _ hj => absurd hj (Nat.not_lt_zero _)⟩⟩ ?step ?done)
  case step =>
    rintro j x s' hx ⟨⟨H', kvs, e, J, sm, kD, kK, gD, gK, hkl, hks⟩⟩
    simp only [Nat.zero_add] at hkl hks ⊢
    have hj : j < its.length := (List.getElem?_eq_some_iff.mp hx).1
    obtain ⟨m, hm⟩ : ∃ m, ns[j]? = some m := ⟨_, List.getElem?_eq_getElem (by omega)⟩
    obtain ⟨t, ht⟩ := hi.get j m hm
    rw [ht] at hx
    obtain rfl := Option.some.inj hx
    have J2 := fp_pin (fp_pin J gD kD fun v z => nomatch z) (fp_cons gK hDk) kK fun v z => nomatch z
    refine wpAny_bind (wpAny_attempt (wpAny_mono (turn m t H' s' _ (List.mem_of_getElem? hm) sm J2 fun p hp => List.mem_cons_of_mem _ (List.mem_cons_of_mem _ hp)) (fun v s2 z => ?_) fun _ _ z => z.elim))
    obtain ⟨v', H2, J3, rv, sm2, ta, rfl, hta⟩ := z
    obtain rfl : v = Value.ref ta := rv
    obtain ⟨J4, k2, n2⟩ := fp_unpin J3
    obtain ⟨J5, d2, m2⟩ := fp_unpin J4
    try dsimp only
    have fK2 := fp_mv gK n2
    refine wpAny_bind (listUpdate_at k2 rfl ?_ (by rw [List.size_toArray, hkl]; exact Nat.le_trans (show _ ≤ 1000 by omega) (by decide)) (by rw [Array.size_push, List.size_toArray, hkl]; exact Nat.succ_le_succ (Nat.le_trans (show _ ≤ 1000 by omega) (by decide))))
    have J6 : Inv X pins σ H2 { s2 with heap := s2.heap.update kS (Obj.mapSeq (·.push (.ref ta))) } := J5.turnedL (t' := s2.toks) (ch := [kS]) (fun b o hb e => (Heap.get?_update_ne _ _ _ _ (by simpa using hb)).trans e) fun b hb => by rw [List.mem_singleton.mp hb]; exact fK2
    obtain ⟨ep, kp⟩ : ∃ ep, (s2.heap.update kS (Obj.mapSeq (·.push (Value.ref ta)))).get? kS = some (seqObj "list" (kvs.toArray.push (.ref ta)) ep) := ⟨_, get?_update_seq k2 (·.push (Value.ref ta))⟩
    refine wpAny_pure ⟨rfl, ⟨H2, kvs ++ [.ref ta], ep, J6, sm.trans sm2, (Heap.get?_update_ne _ _ _ _ hDk).trans d2, ?_, fp_mv gD m2, fK2, by rw [List.length_append, hkl]; rfl, fun i n hn hi' => ?_⟩⟩
    · rw [show (kvs ++ [Value.ref ta]).toArray = kvs.toArray.push (Value.ref ta) by simp]
      exact kp
    · by_cases hij : i < j
      · obtain ⟨t3, e3, h3⟩ := hks i n hn hij
        exact ⟨t3, (List.getElem?_append_left (by omega)).trans e3, sm2 _ _ h3⟩
      · have : i = j := by omega
        subst this
        rw [hm] at hn
        obtain rfl := Option.some.inj hn
        exact ⟨ta, by rw [List.getElem?_append_right (by omega), hkl, Nat.sub_self]; exact rfl, hta⟩
  case done =>
    rintro s' ⟨⟨H', kvs, e, J, sm, kD, kK, gD, gK, hkl, hks⟩⟩
    simp only [Nat.zero_add] at hkl hks
    have hk : ∀ (j : Nat) (n : Int), ns[j]? = some n → ∃ t, kvs[j]? = some (Value.ref t) ∧ H' t = some (.tup [.int (kx n).1, .int (kx n).2]) := fun j n hn => hks j n hn (by have := (List.getElem?_eq_some_iff.mp hn).1; omega)
    have hkp : ∀ (j : Nat) (n : Int) (v : Value), ns[j]? = some n → kvs[j]? = some v → kpr H' v = kx n := fun j n v h1 h2 => by
      obtain ⟨t, e3, h3⟩ := hk j n h1
      rw [h2] at e3
      obtain rfl := Option.some.inj e3
      simp only [kpr, h3]
    have hpr : ∀ v ∈ kvs, Srt.IsPair s'.heap v (kpr H' v).1 (kpr H' v).2 := fun v hv => by
      obtain ⟨j, hj⟩ := List.mem_iff_getElem?.mp hv
      obtain ⟨m, hm⟩ : ∃ m, ns[j]? = some m := ⟨_, List.getElem?_eq_getElem (by have := (List.getElem?_eq_some_iff.mp hj).1; omega)⟩
      obtain ⟨t, e3, h3⟩ := hk j m hm
      rw [hkp j m v hm hj]
      rw [hj] at e3
      obtain rfl := Option.some.inj e3
      obtain ⟨_, its2, r2, o, ho, hc, nn, hd⟩ := J.hok _ _ h3
      obtain ⟨u1, u2, rfl, ⟨t1, rfl⟩, t2, rfl⟩ := vals2 r2
      exact ⟨t, o, t1, t2, nn, rfl, ho, hc, hd⟩
    try dsimp only
    refine wpAny_bind (listItems_at kK rfl ?_)
    -- the end, whatever way it was sorted
    have fin : ∀ st : SortSt, (arrOf st).toList.Perm (kvs.zip its) → (arrOf st).toList.Pairwise (fun p q => SrtO.lexB (kpr H' q.1) (kpr H' p.1) = false) → failedOf st = none → wpAny (model X.prog X.w) A' (ksk_tail D false e1 (.ref kS) st) R E s' := by
      intro st hp hs hfl
      have hmem : ∀ p ∈ (arrOf st).toList, ∃ j m t, ns[j]? = some m ∧ kvs[j]? = some p.1 ∧ p.2 = .int m t := fun p hq => by
        obtain ⟨j, hj⟩ := List.mem_iff_getElem?.mp (hp.mem_iff.mp hq)
        rw [List.getElem?_zip_eq_some] at hj
        obtain ⟨m, hm⟩ : ∃ m, ns[j]? = some m := ⟨_, List.getElem?_eq_getElem (by have := (List.getElem?_eq_some_iff.mp hj.2).1; omega)⟩
        obtain ⟨t, ht⟩ := hi.get j m hm
        rw [ht] at hj
        exact ⟨j, m, t, hm, hj.1, (Option.some.inj hj.2).symm⟩
      have hsz2 : (arrOf st).size = its.length := by
        rw [← Array.length_toList, hp.length_eq, List.length_zip, hkl, Nat.min_self]
      unfold ksk_tail
      simp only [Bool.false_eq_true, if_false]
      refine wpAny_bind (listUpdate_at kK rfl ?_ (by rw [List.size_toArray, hkl]; exact hits) (Nat.zero_le _))
      have J6 : Inv X pins σ H' { s' with heap := s'.heap.update kS (Obj.mapSeq fun _ => (#[] : Array Value)) } := J.turnedL (t' := s'.toks) (ch := [kS]) (fun b o hb e => (Heap.get?_update_ne _ _ _ _ (by simpa using hb)).trans e) fun b hb => by rw [List.mem_singleton.mp hb]; exact gK
      have kD2 : (s'.heap.update kS (Obj.mapSeq fun _ => (#[] : Array Value))).get? D = some (seqObj "list" #[] e1) := (Heap.get?_update_ne _ _ _ _ hDk).trans kD
      refine wpAny_bind (wpAny_letGo ?_)
      refine wpAny_bind (seqEpoch_at kD2 rfl ?_)
      refine wpAny_bind (listUpdate_at kD2 rfl ?_ (Nat.zero_le _) (by rw [Array.size_map, hsz2]; exact Nat.le_succ_of_le hits))
      have J7 := Inv.turnedL (h' := (s'.heap.update kS (Obj.mapSeq fun _ => (#[] : Array Value))).update D (Obj.mapSeq fun _ => (arrOf st).map (·.2))) (t' := s'.toks) (ch := [D]) J6 (fun b o hb e => (Heap.get?_update_ne _ _ _ _ (by simpa using hb)).trans e) fun b hb => by rw [List.mem_singleton.mp hb]; exact gD
      have kD3 := get?_update_seq kD2 fun _ => (arrOf st).map (·.2)
      rw [hfl]
      simp only [bne_self_eq_false, Bool.false_eq_true, if_false]
      refine wpAny_pure (done H' _ _ ((arrOf st).toList.map fun p => SrtO.iv p.2) _ J7 sm kD3 gD ?_ ?_ ?_)
      · rw [Array.toList_map]
        have hI := SrtO.ints_iv (vs := (arrOf st).toList.map (·.2)) fun v hv => by
          obtain ⟨p, hq, rfl⟩ := List.mem_map.mp hv
          obtain ⟨j, m, t, _, _, h5⟩ := hmem p hq
          exact ⟨m, t, h5⟩
        rw [List.map_map] at hI
        exact hI
      · have h6 := hp.map fun p : Keyed => SrtO.iv p.2
        have e6 : (kvs.zip its).map (fun p : Keyed => SrtO.iv p.2) = ns := by
          have : (kvs.zip its).map (fun p : Keyed => SrtO.iv p.2) = ((kvs.zip its).map Prod.snd).map SrtO.iv := by rw [List.map_map]; rfl
          rw [this, List.map_snd_zip (by omega), SrtO.iv_ints hi]
        rw [e6] at h6
        exact h6
      · rw [List.pairwise_map]
        refine hs.imp_of_mem fun {p q} hp' hq' z => ?_
        obtain ⟨j, m, t, a1, a2, a3⟩ := hmem p hp'
        obtain ⟨j', m', t', b1, b2, b3⟩ := hmem q hq'
        rw [hkp j m _ a1 a2, hkp j' m' _ b1 b2] at z
        rw [a3, b3]
        exact z
    unfold ksk_end
    simp only [Bool.false_eq_true, if_false]
    have hzl : (kvs.toArray.zip its.toArray).toList = kvs.zip its := by simp
    by_cases h2 : its.toArray.size < 2
    · rw [if_pos h2, if_pos h2]
      refine wpAny_bind (wpAny_pure ?_)
      rw [StateT.run_pure]
      refine wpAny_bind (wpAny_pure ?_)
      try dsimp only
      refine fin (SortSt.mk' general' (kvs.toArray.zip its.toArray) #[] 7 none) (by show (kvs.toArray.zip its.toArray).toList.Perm _; rw [hzl]) ?_ rfl
      show (kvs.toArray.zip its.toArray).toList.Pairwise _
      rw [hzl]
      rw [List.size_toArray] at h2
      have h5 : (kvs.zip its).length ≤ 1 := by rw [List.length_zip]; omega
      match kvs.zip its, h5 with
      | [], _ => exact List.Pairwise.nil
      | [a], _ => exact List.pairwise_singleton _ _
      | _ :: _ :: l, h => exact absurd h (by rw [List.length_cons, List.length_cons]; omega)
    · rw [if_neg h2, if_neg h2]
      rw [List.size_toArray] at h2
      have h0 : 0 < kvs.length := by omega
      obtain ⟨κ, hkind, hT⟩ := SrtO.pairs_sortableO (prog := X.prog) (w := X.w) (A := A') (s := s') (a := D) h0 hpr (fun o ho c => by
        rw [kD] at ho
        obtain rfl := Option.some.inj ho
        exact absurd (Value.type.inj c) (by decide)) s'.heap fun b o _ e => e
      refine wpAny_bind (hkind _ _ ?_)
      refine wpAny_bind (wpAny_mono (SrtO.wpS_sortO (st0 := SortSt.mk' κ (kvs.toArray.zip its.toArray) #[] 7 none)
        (Q := fun _ st => SrtO.Srtd (SrtO.lt2 fun v u => SrtO.lexB (kpr H' v) (kpr H' u)) (arrOf st).toList ∧ SrtO.Stb (SrtO.lt2 fun v u => SrtO.lexB (kpr H' v) (kpr H' u)) (arrOf st).toList (kvs.toArray.zip its.toArray).toList ∧ failedOf st = none)
        (SrtO.swo2 (SrtO.swo_lex (kpr H'))) hT rfl (fun p hm => ?_) rfl rfl fun st a1 a2 a3 => ⟨a1, a2, a3⟩) ?_ fun _ _ z => z)
      · have hm : p ∈ (kvs.toArray.zip its.toArray).toList := hm
        rw [hzl] at hm
        exact (List.of_mem_zip (show (p.1, p.2) ∈ _ from hm)).1
      · rintro ⟨⟨⟩, st⟩ s2 ⟨rfl, a1, a2, a3⟩
        try dsimp only
        rw [hzl] at a2
        exact fin st a2.perm a1 a3
/-- an object of ours, not tracked till now -/
theorem track {D : Addr} {o : HO} (I : Inv X pins σ H s) (f : FpOk X pins H D) (new : ObjOk X.prog X.w (upd H D o) s.heap D o) : Inv X pins σ (upd H D o) s := by
  have ne : ∀ b u, H b = some u → b ≠ D := fun b u e z => by rw [z, f.1] at e; cases e
  exact I.step (h' := s.heap) (g' := s.gens) (d' := s.drawn) (t' := s.toks) (ch := [D]) (fun b hb => by rw [List.mem_singleton.mp hb]; exact ⟨f.2.2.2.1, f.2.1, f.2.2.2.2.1, f.2.2.2.2.2⟩) (fun b u _ _ _ e _ => e) (fun b u _ _ _ e _ => ⟨u.slots, e⟩)
    (fun b u hb _ n => by rw [upd_ne (by simpa using hb)]; exact n) (fun b u _ e => ⟨u, e⟩) (fun b xs e => by rw [upd_ne (ne _ _ e)]; exact e) (fun b u v e => by rw [upd_ne (ne _ _ e)]; exact e) (fun b ps e => ⟨#[], by rw [upd_ne (ne _ _ e), e]; simp⟩) (fun m hm => hm)
    (HOk.laidN I.hok (fun _ _ e => e) f.1 new) I.bare
def tSortLam (K : PySem.W.Frag) (T : List (Addr × Str)) (P : Addr) (N : List Str) (js : List Nat) (te tb : TE) : TE := fun σ H Q => te σ H fun v H1 => Tabs T H1 ∧ ∃ (a : Addr) (ns : List Int) (kx : Int → Int × Int), v = .ref a ∧ SqL K H1 a (ns.map V.int) ∧ ns.length ≤ 1000 ∧
  ∀ H2, Fr [P] H1 H2 → Tabs T H2 → (∀ m ∈ ns, ∀ H3, Same H2 H3 → tb (startF N [.int m] (js.map (slotAt σ))) H3 fun v H4 => Same H3 H4 ∧ ∃ t, v = .ref t ∧ H4 t = some (.tup [.int (kx m).1, .int (kx m).2])) ∧
    ∀ (ns' : List Int) (p : Addr) (H3 : Hp), Same H2 H3 → H2 p = none → ns'.Perm ns → ns'.Pairwise (fun a b => SrtO.lexB (kx b) (kx a) = false) → H3 p = some (.lst (ns'.map V.int)) → Q (.ref p) H3
theorem sqL_fr1 {K : PySem.W.Frag} {H H' : Hp} {P a : Addr} {tb : Array Value} {xs : List V} (f : Fr [P] H H') (hP : H P = some (.tbl tb)) (h : SqL K H a xs) : SqL K H' a xs := by
  rcases h with (h | ⟨o, h⟩) | h
  · exact .inl (.inl (f.at_ _ _ h fun z => by rw [List.mem_singleton.mp z, hP] at h; cases h))
  · exact .inl (.inr ⟨o, f.fz _ _ _ h⟩)
  · exact .inr h
end
section
variable {X : Cx}
theorem pe_sortLam {T : List (Addr × Str)} {c P : Addr} {k : Nat} {N fr : List Str} {js : List Nat} {a : Str} {params : Arguments} {body e : Expr} {scope : Scope} {te tb : TE} {p lpos kpos pos : Pos}
    (hg : Gl X "sorted") (hm : X.mg "sorted" = none) (TB : TabB X.base X.mg c P) (hcode : X.env.code = .ref c) (hmT : (P, X.env.qual ++ "<lambda>") ∈ T) (hu : ∀ p ∈ T, p.1 = P → p.2 = X.env.qual ++ "<lambda>") (hr : Room (k + 3) X.A)
    (S : NScope N [a] fr scope) (L : ndefB X.env.scope scope fr = true) (hjs : js.map (fun j => X.N[j]?) = fr.map some) (hdef : defaultsOf params X.env = ([], []))
    (hbind : ∀ (q : Str) (cl : List (Str × Addr)) (pm cv ctv u : Value), bindArgs (PySem.W.kla_fn "<lambda>" q params body scope cl pm cv ctv) ⟨[u], []⟩ = pure [(a, u)]) (he : PE X e te)
    (hbody : ∀ (A' : Around) (outer : List Env) (s : Shared) (H : Hp) (f c' : Addr) (cl : List (Str × Addr)), Room k (A'.deeper (envF (lmF (X.env.qual ++ "<lambda>") params scope cl c') f s.heap.objs.size)) → PE (ncx L2.CX0 X.prog X.w X.K X.mg X.base N (lmF (X.env.qual ++ "<lambda>") params scope cl c') f A' outer s H C8.E0) body tb)
    (hst : backTo pos (starEach [e] X.env) = (false, eval e X.env) :: backTo pos (starEach [] X.env) := by rfl) (hpl : (backTo pos (starEach [e] X.env)).any (·.1) = false := by rfl) :
    PE X (.Call (.Name "sorted" p) [e] [⟨some "key", .Lambda params body scope lpos, kpos⟩] pos) (tSortLam X.K T P N js te tb) := by
  refine ⟨fun pins s σ H Q I h => ?_⟩
  have hfree : ∀ y ∈ scope.names, y.2 = .free → ∃ c, X.env.cells.lookup y.1 = some c := fun y hy z => by
    rcases ndef_free L y hy z with q | q
    · exact I.ok.has _ (.inl q)
    · exact I.ok.has _ (.inr q)
  refine wpAny_Call_Name_kw (ld_blt I hg hm PyProof.Rows.boot_sorted ?_)
  refine PyProof.Rows.callWith_kw ?_ hst hpl (by rfl) (by rfl)
  rw [hst]
  refine Calls.spliced_cons (thn (he.run pins s σ H _ I h) fun u s1 ⟨v, H1, I1, r1, q1⟩ => ?_)
  refine Calls.spliced_nil ?_
  obtain ⟨hT, a1, ns, kx, ev, hL, hz, q⟩ := q1
  subst ev
  obtain rfl : u = Value.ref a1 := r1
  show wpAny _ _ (evalAll ((do let v ← eval (.Lambda params body scope lpos) X.env; standAt pos; pure v) :: [])) _ _ s1
  refine wpAny_evalAll_cons (wpAny_bind (lamMake I1 TB hcode hmT hu hT hdef hfree fun f c' pm ctv H2 s2 I2 eN T2 hf hfn hfr hco => wpAny_bind (wpAny_standAt (wpAny_pure (wpAny_evalAll_nil ?_)))))
  show wpAny _ _ (call (.builtin "sorted") [.ref a1] [(Str.ofString "key", .ref f)]) _ _ s2
  obtain ⟨key, q⟩ := q H2 eN T2
  have nfl : f ≠ X.env.locals := fun z => by
    obtain ⟨m, ⟨o, es, ep, ho, hd, _⟩, _⟩ := I2.loc
    rw [← z, hf] at ho
    obtain rfl := Option.some.inj ho
    cases hd
  have nff : f ∉ X.fs := fun z => hfr (by
    rcases I2.ok.stk with e | ⟨e, hfm⟩
    · rw [e]; exact z
    · rw [e]; unfold frs; rw [List.filterMap_cons, hfm]; exact List.mem_cons_of_mem _ z)
  have I3 : Inv X ((f, PySem.W.kla_obj "<lambda>" (X.env.qual ++ "<lambda>") params body scope (cloFrom X.env.cells scope.names []) pm c' ctv) :: pins) σ H2 s2 := I2.pins_of fun p hp => by
    rcases List.mem_cons.mp hp with z | z
    · subst z; exact ⟨hf, hfn, nfl, nff, fun v z => nomatch z⟩
    · exact I2.pin p (List.mem_append_right _ z)
  obtain ⟨tbP, hPt⟩ : ∃ tb, H1 P = some (.tbl tb) := let ⟨tb, e, _⟩ := hT _ hmT; ⟨tb, e⟩
  obtain ⟨its, rv, hl, hzl⟩ := I3.list (sqL_fr1 eN hPt hL)
  have hits : its.length ≤ sizeLine := by rw [← rv.length]; exact hzl
  refine PyProof.Rows.call_function_entry_kw PyProof.Rows.kind_sorted PyProof.Rows.plain_sorted PyProof.Rows.entry_sorted (PyProof.Rows.ksk_s1 _ _) ?_
  unfold Builtin.«sorted»
  refine wpAny_bind (m := checkCount "sorted" 1 1 _) (wpAny_pure (wpAny_bind (PyProof.Rows.collect_list hl.isList ?_ hits)))
  refine wpAny_bind (wpAny_newList ?_ hits)
  have I4 : Inv X ((f, PySem.W.kla_obj "<lambda>" (X.env.qual ++ "<lambda>") params body scope (cloFrom X.env.cells scope.names []) pm c' ctv) :: pins) σ H2 { s2 with heap := (s2.heap.push (seqObj "list" #[] 0)).update s2.heap.objs.size (Obj.mapSeq (· ++ its.toArray)) } :=
    I3.kept (t' := s2.toks) fun b o e => (Heap.get?_update_ne _ _ _ _ (Nat.ne_of_lt (Heap.lt_size e))).trans (Heap.get?_push_of_some _ e)
  show wpAny _ _ _ _ _ { s2 with heap := ((s2.heap.push (seqObj "list" #[] 0)).update s2.heap.objs.size (Obj.mapSeq (· ++ its.toArray))).push (seqObj "list" its.toArray 0) }
  have fD := I4.fpOk (Nat.le_refl _) (I4.hok.fresh (Nat.le_refl _))
  have hD := Heap.get?_push_size ((s2.heap.push (seqObj "list" #[] 0)).update s2.heap.objs.size (Obj.mapSeq (· ++ its.toArray))) (o := seqObj "list" its.toArray 0) rfl
  have I5 := Inv.kept (t' := s2.toks) (h' := ((s2.heap.push (seqObj "list" #[] 0)).update s2.heap.objs.size (Obj.mapSeq (· ++ its.toArray))).push (seqObj "list" its.toArray 0)) I4 fun b o e => Heap.get?_push_of_some _ e
  refine wpAny_bind (wpAny_holding (PyProof.Rows.wpAny_call_entry_kw PyProof.Rows.slot_list_sort ⟨_, hD, rfl⟩ PyProof.Rows.entry_list_sort ?body (PyProof.Rows.ksk_l1 _ _)))
  have e8 := PyProof.Rows.ksk_t1 f ((s2.heap.push (seqObj "list" #[] 0)).update s2.heap.objs.size (Obj.mapSeq (· ++ its.toArray))).objs.size
  have hns : its.length = ns.length := rv.ints.length
  generalize ((s2.heap.push (seqObj "list" #[] 0)).update s2.heap.objs.size (Obj.mapSeq (· ++ its.toArray))).objs.size = D at e8 fD hD
  show wpAny (model X.prog X.w) X.A.in1.in1 (Builtin.«list.sort» ⟨[.ref D], [(Str.ofString "key", .ref f)]⟩) _ _ _
  rw [e8]
  refine sortKeyTree (kx := kx) I5 rv.ints hD fD hz (fun m t H' s' pins' hm sm J hp => ?_) fun H' s' out ns' n' J sm oD gD hI pm2 ps => ⟨_, rfl, wpAny_pure ⟨_, rfl, ?_⟩⟩
  · have hfp := (J.pin (f, _) (List.mem_append_right _ (hp _ (List.mem_cons_self ..)))).1
    exact lamRun J S hfp (sm _ _ hco) (cells_of J (Caps.made J.ok (ndef_free L) (ndef_fr L) hjs)) hr.in1.in1 J.ok.frames (hbind _ _ _ _ _ _) (.cons (show RelV (V.int m) (Value.int m t) from ⟨t, rfl⟩) .nil) rfl (fun r2 => hbody _ _ _ _ _ _ _ r2) (key m hm H' sm)
  · obtain ⟨J2, _, _⟩ := fp_unpin J
    have gD2 : FpOk X pins H' D := ⟨gD.1, gD.2.1, gD.2.2.1, gD.2.2.2.1, gD.2.2.2.2.1, fun p hp => gD.2.2.2.2.2 p (by
      rcases List.mem_append.mp hp with z | z
      · exact List.mem_append_left _ z
      · exact List.mem_append_right _ (List.mem_cons_of_mem _ z))⟩
    have hl2 : ns'.length ≤ 1000 := by rw [pm2.length_eq]; exact hz
    refine ⟨.ref D, upd H' D (.lst (ns'.map V.int)), track J2 gD2 ⟨by rw [List.length_map]; exact Nat.le_trans hl2 (by decide), out.toList, n', vals_of_ints hI, by rw [Array.toArray_toList]; exact oD⟩, rfl, q ns' D _ (sm.trans (same_new gD.1)) ?_ pm2 ps upd_same⟩
    cases e9 : H2 D with
    | none => rfl
    | some o => have := sm _ _ e9; rw [gD.1] at this; cases this
end
end U

/-! ### targets: fields, slices; readings of fields -/
namespace U
open PySem PySem.Spec PyProof.Rows L2
section
variable {X : Cx} {K : PySem.W.Frag} {σ : L2.St} {H : Hp} {Q : VK}
def rFld (K : PySem.W.Frag) (f : Str) (Q : VK) (x : V) (H1 : Hp) : Prop := ∃ a C dx fs v, x = .ref a ∧ H1 a = some (.ins C dx fs) ∧ Cls K C ∧ NoAttr K C f ∧ fs.lookup f = some v ∧ Q v H1
theorem iFld {te : TE} {f : Str} (h : te σ H (rFld K f Q)) : tFld K te f σ H Q := h
theorem gFld {f : Str} {a C dx : Addr} {fs : List (Str × V)} {v : V} (e : H a = some (.ins C dx fs)) (c : Cls K C) (n : NoAttr K C f) (l : fs.lookup f = some v) (q : Q v H) : rFld K f Q (.ref a) H := ⟨a, C, dx, fs, v, rfl, e, c, n, l, q⟩
def wFld (K : PySem.W.Frag) (f : Str) (y : V) (R : Hp → Prop) (x : V) (H2 : Hp) : Prop := ∃ a C dx fs, x = .ref a ∧ H2 a = some (.ins C dx fs) ∧ Cls K C ∧ NoAttr K C f ∧ fs.length < 1000 ∧ R (upd H2 a (.ins C dx (putF f y fs)))
theorem iSFld {ta tv : TE} {f : Str} {nx bk ct : L2.St → Hp → Prop} {rt : VK} (h : tv σ H fun y H1 => ta σ H1 (wFld K f y fun H' => nx σ H')) : sFld K ta tv f ⟨nx, rt, bk, ct⟩ σ H := h
theorem gSFld {f : Str} {y : V} {R : Hp → Prop} {a C dx : Addr} {fs fs' : List (Str × V)} (e : H a = some (.ins C dx fs)) (c : Cls K C) (n : NoAttr K C f) (l : Nat.ble fs.length 900 = true) (e2 : putF f y fs = fs') (q : R (upd H a (.ins C dx fs'))) : wFld K f y R (.ref a) H :=
  ⟨a, C, dx, fs, rfl, e, c, n, Nat.lt_of_le_of_lt (Nat.le_of_ble_eq_true l) (by decide), by rw [e2]; exact q⟩
theorem slListK (e : X.K = K := by rfl) : SlR X (rSlL K) := e ▸ sl_list
theorem pe_fldK {e : Expr} {f : Str} {pos : Pos} {ta : TE} (he : PE X e ta) (hb : attributeBase e f X.env (eval e X.env) = eval e X.env) (e2 : X.K = K := by rfl) : PE X (.Attribute e f pos) (tFld K ta f) := e2 ▸ pe_fld he hb
def gFldT (K : PySem.W.Frag) (to : TE) (f : Str) : TG := fun v σ H R => to σ H (wFld K f v fun H' => R σ H')
theorem pg_fldU {o : Expr} {to : TE} {f : Str} {pos : Pos} (ho : PE X o to) : PG X (.Attribute o f pos) (gFldT X.K to f) := by
  refine ⟨fun pins s σ H v u Q I r h => PySem.W.kas_attr (thn (ho.run pins s σ H _ I h) fun ov s1 ⟨x, H1, I1, rx, z⟩ => ?_)⟩
  obtain ⟨a, C, dx, fs, rfl, ea, c, n, l, q⟩ := z
  obtain rfl : ov = Value.ref a := rx
  exact setattr_ok I1 ea c n l r fun s2 I2 => ⟨σ, _, I2, q⟩
theorem iFldT {to : TE} {f : Str} {v : V} {R : L2.St → Hp → Prop} (h : to σ H (wFld K f v fun H' => R σ H')) : gFldT K to f v σ H R := h
def wSl (v l u : V) (R : Hp → Prop) (o : V) (H3 : Hp) : Prop := ∃ (p b : Addr) (xs ys : List V) (a c : Int), o = .ref p ∧ v = .ref b ∧ l = .int a ∧ u = .int c ∧ H3 p = some (.lst xs) ∧ H3 b = some (.lst ys) ∧ p ≠ b ∧ 0 ≤ a ∧ a ≤ c ∧ c ≤ xs.length ∧ xs.length + ys.length ≤ sizeLine ∧
  R (upd H3 p (.lst (xs.take a.toNat ++ ys ++ xs.drop c.toNat)))
def gSlT (to tl th : TE) : TG := fun v σ H R => to σ H fun o H1 => tl σ H1 fun l H2 => th σ H2 fun u H3 => wSl v l u (fun H' => R σ H') o H3
theorem pg_slice {o lo hi : Expr} {to tl th : TE} {p2 pos : Pos} (ho : PE X o to) (hl : PE X lo tl) (hh : PE X hi th) : PG X (.Subscript o (.Slice (some lo) (some hi) none p2) pos) (gSlT to tl th) := by
  refine ⟨fun pins s σ H v u Q I r h => PySem.W.kas_sub (thn (ho.run pins s σ H _ I h) fun ov s1 ⟨x, H1, I1, rx, z⟩ => ?_)⟩
  refine wpAny_Slice ?_
  rw [evalPart_some, evalPart_some, evalPart_none]
  refine thn (hl.run pins s1 σ H1 _ I1 z) fun lv s2 ⟨l, H2, I2, rl, z⟩ => thn (hh.run pins s2 σ H2 _ I2 z) fun uv s3 ⟨u', H3, I3, ru, z⟩ => wpAny_pure ?_
  obtain ⟨p, b, xs, ys, a, c, rfl, rfl, rfl, rfl, hp, hb, ne, h1, h2, h3, h4, q⟩ := z
  obtain rfl : ov = Value.ref p := rx
  obtain rfl : u = Value.ref b := r
  have I4 : Inv X pins σ H3 { s3 with heap := s3.heap.push { cls := .type "slice", data := .fields #[lv, uv, .none] } } := I3.kept (t' := s3.toks) fun b ob q => Heap.get?_push_of_some _ q
  exact set_slice I4 hp hb ne (Heap.IsSliceOf.new ..) rl ru h1 h2 h3 h4 fun s' I5 => ⟨σ, _, I5, q⟩
theorem iSlT {to tl th : TE} {v : V} {R : L2.St → Hp → Prop} (h : to σ H fun o H1 => tl σ H1 fun l H2 => th σ H2 fun u H3 => wSl v l u (fun H' => R σ H') o H3) : gSlT to tl th v σ H R := h
theorem clsK {K' : PySem.W.Frag} {C : Addr} (h : Cls K C) (e : K' = K) : Cls K' C := e ▸ h
theorem naK {K' : PySem.W.Frag} {C : Addr} {f : Str} (h : NoAttr K C f) (e : K' = K) : NoAttr K' C f := e ▸ h
theorem upd2 {a : Addr} {o u : HO} : upd (upd H a o) a u = upd H a u := by
  funext b
  unfold upd
  split <;> rfl
theorem noneU {a b : Addr} {o : HO} (h : upd H a o b = none) : H b = none := by
  unfold upd at h
  split at h
  · cases h
  · exact h
theorem lvU {a r : Addr} {o : HO} (h : (H a).isSome = true) : (upd H r o a).isSome = true := by
  unfold upd
  split
  · rfl
  · exact h
theorem lvA {a : Addr} {o : HO} : (upd H a o a).isSome = true := by rw [upd_same]; rfl
theorem lvS {a : Addr} {o : HO} (h : H a = some o) : (H a).isSome = true := by rw [h]; rfl
theorem lvSame {H' : Hp} {a : Addr} (s : Same H H') (h : (H a).isSome = true) : (H' a).isSome = true := by
  obtain ⟨o, e⟩ := Option.isSome_iff_exists.mp h
  exact lvS (s _ _ e)
theorem lvFr {H' : Hp} {S : List Addr} {a : Addr} (f : Fr S H H') (h : (H a).isSome = true) : (H' a).isSome = true := by
  cases e : H' a with
  | none => rw [f.dm _ e] at h; exact h
  | some o => rfl
theorem neL {a b : Addr} (hb : H b = none) (ha : (H a).isSome = true) : a ≠ b := fun z => by rw [z, hb] at ha; cases ha
/-! calls of methods, new objects -/
def rMeth (C : Addr) (m : Str) (sp : Sp) (E : XK) (t : TA) (dvs : List V) (σ : L2.St) (Q : VK) (x : V) (H1 : Hp) : Prop := ∃ a dx fs, x = .ref a ∧ H1 a = some (.ins C dx fs) ∧ fs.lookup m = none ∧ t σ H1 fun vs H2 => sp (x :: (vs ++ dvs)) H2 Q E
theorem iMeth {C : Addr} {m : Str} {sp : Sp} {E : XK} {dvs : List V} {ta : TE} {t : TA} (h : ta σ H (rMeth C m sp E t dvs σ Q)) : tMeth C m sp dvs E ta t σ H Q := h
theorem gMeth {C : Addr} {m : Str} {sp : Sp} {E : XK} {dvs : List V} {t : TA} {a : Addr} (h : ∃ dx fs, H a = some (.ins C dx fs) ∧ fs.lookup m = none ∧ t σ H fun vs H2 => sp (.ref a :: (vs ++ dvs)) H2 Q E) : rMeth C m sp E t dvs σ Q (.ref a) H := let ⟨dx, fs, e, l, q⟩ := h; ⟨a, dx, fs, rfl, e, l, q⟩
theorem iMake {C : Addr} {sp : Sp} {E : XK} {dvs : List V} {t : TA} (h : t σ H fun vs H1 => ∀ x dx, H1 x = none → H1 dx = none → dx ≠ x → sp (.ref x :: (vs ++ dvs)) (upd (upd H1 dx (.own x)) x (.ins C dx [])) (fun v H2 => v = .non ∧ Q (.ref x) H2) E) : tMake C sp dvs E t σ H Q := h
theorem gFldX {f : Str} {a : Addr} (h : ∃ C dx fs, H a = some (.ins C dx fs) ∧ Cls K C ∧ NoAttr K C f ∧ ∃ v, fs.lookup f = some v ∧ Q v H) : rFld K f Q (.ref a) H := let ⟨C, dx, fs, e, c, n, v, l, q⟩ := h; ⟨a, C, dx, fs, v, rfl, e, c, n, l, q⟩
theorem gSFldX {f : Str} {y : V} {R : Hp → Prop} {a : Addr} (h : ∃ C dx fs, H a = some (.ins C dx fs) ∧ Cls K C ∧ NoAttr K C f ∧ Nat.ble fs.length 900 = true ∧ ∃ fs', putF f y fs = fs' ∧ R (upd H a (.ins C dx fs'))) : wFld K f y R (.ref a) H :=
  let ⟨C, dx, fs, e, c, n, l, fs', e2, q⟩ := h; gSFld e c n l e2 q
theorem iWSl {v l u : V} {R : Hp → Prop} {p b : Addr} {xs ys : List V} {a c : Int} (hp : H p = some (.lst xs)) (hb : H b = some (.lst ys)) (ne : p ≠ b) (h0 : 0 ≤ a) (h1 : a ≤ c) (h2 : c ≤ xs.length) (h3 : xs.length + ys.length ≤ sizeLine) (q : R (upd H p (.lst (xs.take a.toNat ++ ys ++ xs.drop c.toNat)))) : wSl (.ref b) (.int a) (.int c) R (.ref p) H :=
  ⟨p, b, xs, ys, a, c, rfl, rfl, rfl, rfl, hp, hb, ne, h0, h1, h2, h3, q⟩
theorem gRepL {a : Addr} {k : Int} {xs : List V} (h : H a = some (.lst xs)) (k0 : 0 ≤ k) (k1 : k ≤ 1000) (l : xs.length ≤ 1000) (q : ∀ p, H p = none → Q (.ref p) (upd H p (.lst (List.replicate k.toNat xs).flatten))) : rRep (.ref a) (.int k) H Q :=
  ⟨a, k, xs, rfl, rfl, h, by omega, by omega, Nat.le_trans (Nat.mul_le_mul l (show k.toNat ≤ 1000 by omega)) (by decide), q⟩
end
section
open C8 (Cal Met Mak)
variable {P : Program} {w : World} {K : PySem.W.Frag} {mg : Str → Option Value} {base : Heap}
/-- a def that makes a lambda: its code object is known -/
theorem cal_mkT {x : Str} {params : Arguments} {body : List Stmt} {scope : Scope} {N ps : List Str} {k : Nat} {sp : Sp} (hF : ∃ fd, FunD K x x params body scope [] [] (He.fAd K (x, none)) fd) (hm : mg x = some (.ref (He.ga K x)))
    (S : FnScope N ps scope) (hb : ∀ (kV doc pm : Value) (an : Option Addr) (cdv ct : Value) (us : List Value), us.length = ps.length → bindArgs (PySem.W.fnOf x x params body scope .none kV doc pm an cdv ct) ⟨us, []⟩ = pure (ps.zip us))
    (len : ∀ vs H Q E, sp vs H Q E → vs.length = ps.length)
    (hbody : ∀ (cdv : Value), cdv = .ref (He.codeOf K (x, none)) → ∀ (A : Around) (outer : List Env) (s : Shared) (H : Hp) (vs : List V) (Q : VK) (E : XK), Room k (A.deeper (envOfC x scope s.heap.objs.size (He.fAd K (x, none)) cdv)) → sp vs H Q E →
      ∃ t, PSs (cxOf CX0 P w K mg base N x scope (He.fAd K (x, none)) cdv A outer s H E).nox body t ∧ t { nx := fun _ H' => Q .non H', rt := Q } (start N vs) H) : Cal P w K mg base (k + 1) x sp [] := by
  obtain ⟨fd, F⟩ := hF
  refine ⟨He.ga K x, fd, ps, [], ?_, hm, F.kp, F.bindsN hb, .nil⟩
  obtain ⟨oc, od, dV, kV, doc, pm, an, cdv, ct, osl, rfl, lk, hcd, _, _⟩ := F.ex
  obtain ⟨c, ec⟩ := He.codeIn_ref hcd
  have e : cdv = .ref (He.codeOf K (x, none)) := by rw [He.codeOf_eq lk ec]; exact ec
  exact fn_of lk hcd S len fun A outer s H vs Q E hr h => let ⟨t, p, q⟩ := hbody cdv e A outer s H vs Q E hr h; ⟨t, p.nox, q⟩
end
end U

/-! ### methods of built-in types, for blocks inside: K named -/
namespace U
open PySem PySem.Spec PyProof.Rows L2
section
variable {X : Cx} {K : PySem.W.Frag} {T : String} {r : V → List V → Hp → VK → Prop} {name : Str} {id : String} {o e : Expr} {es : List Expr} {to : TE} {t : TA} {apos cpos : Pos}
theorem pe_bmK (pa : PlainAttrs T) (slot : Slot T name id) (hty : typeOf (.builtin id) = pure (.type "method_descriptor")) (hm : MtR X id r) (ho : PE X o to) (ha : PA X (e :: es) t) (e2 : X.K = K := by rfl)
    (hbase : attributeBase o name X.env (eval o X.env) = eval o X.env := by rfl)
    (hfew : ((backTo cpos (starEach (e :: es) X.env)).all (fun x => !x.1) && (backToKw cpos (keywordEach [] X.env)).all (fun x => x.1.isSome)
      && decide ((e :: es).length + ([] : List Keyword).length + (if ([] : List Keyword).isEmpty then 0 else 1) < 30)) = true := by rfl)
    (hline : (apos.endLine == cpos.line) = true := by rfl) (hs : starEach (e :: es) X.env = (false, eval e X.env) :: starEach es X.env := by rfl) (hplain : (backTo cpos (starEach es X.env)).any (·.1) = false := by rfl) :
    PE X (.Call (.Attribute o name apos) (e :: es) [] cpos) (tBM K T r to t) := e2 ▸ pe_bm pa slot hty hm ho ha hbase hfew hline hs hplain
end
end U

/-! ### dicts with tuple keys: dict(pairs), update, sorted -/
namespace U
open PySem PySem.Spec PyProof.Rows L2
abbrev TKey := List Key
def mergeT (kvs more : List (TKey × V)) : List (TKey × V) := more.foldl (fun acc kv => putK acc kv.1 kv.2) kvs
theorem putT_le (kvs : List (TKey × V)) (k : TKey) (v : V) : (putK kvs k v).length ≤ kvs.length + 1 := by
  unfold putK
  split
  · rw [List.length_map]; omega
  · rw [List.length_append]; simp
theorem mergeT_le : ∀ (ks kvs : List (TKey × V)), (mergeT kvs ks).length ≤ kvs.length + ks.length
  | [], kvs => Nat.le_refl _
  | k :: ks, kvs => by
    have h := mergeT_le ks (putK kvs k.1 k.2)
    have h2 := putT_le kvs k.1 k.2
    show (mergeT (putK kvs k.1 k.2) ks).length ≤ _
    rw [List.length_cons]
    omega
theorem kt_merge {H : Hp} : ∀ {more : List (TKey × V)} {ys : List (TKey × Addr × Value)} {kvs : List (TKey × V)} {xs : List (TKey × Addr × Value)}, KT H more ys → KT H kvs xs → KT H (mergeT kvs more) (storedAllH xs ys)
  | _, _, _, _, .nil, h => h
  | _, _, kvs, xs, .cons (a := p) (b := q) (l₁ := ps) (l₂ := qs) h t, h2 => by
    show KT H (mergeT (putK kvs p.1 p.2) ps) (storedAllH (storedH xs q.1 q.2.1 q.2.2) qs)
    refine kt_merge t ?_
    rw [← h.1]
    exact h2.put p.1 h.2.1 h.2.2
section
variable {X : Cx}
def rDictT (K : PySem.W.Frag) : List V → Hp → VK → Prop := fun xs H Q => ∃ (a : Addr) (ps : List Addr) (kvs : List (TKey × V)), xs = [.ref a] ∧ SqL K H a (ps.map V.ref) ∧ Paired (fun p kv => ∃ b, SqT K H p [.ref b, kv.2] ∧ H b = some (.tup (kv.1.map kV))) ps kvs ∧
    ∀ p, H p = none → Q (.ref p) (upd H p (.dT (mergeT [] kvs)))
theorem pairsT_of {pins : List (Addr × Obj)} {σ : L2.St} {H : Hp} {s : Shared} (I : Inv X pins σ H s) : ∀ {ps : List Addr} {kvs : List (TKey × V)}, Paired (fun p kv => ∃ b, SqT X.K H p [.ref b, kv.2] ∧ H b = some (.tup (kv.1.map kV))) ps kvs →
    ∃ prs : List (TKey × Addr × Value), KT H kvs prs ∧ prs.length = ps.length ∧ ∀ (j : Nat) (q : TKey × Addr × Value), prs[j]? = some q → ∃ p, ps[j]? = some p ∧ s.heap.IsTuple p #[.ref q.2.1, q.2.2]
  | _, _, .nil => ⟨[], .nil, rfl, fun j q e => by simp at e⟩
  | _, _, .cons (a := p) (b := kv) h t => by
    obtain ⟨prs, r, hl, hp⟩ := pairsT_of I t
    obtain ⟨b, h, hb⟩ := h
    obtain ⟨its, rv, ht, _⟩ := I.tuple h
    obtain ⟨u, y, ei, ru, ry⟩ := vals2 rv
    subst ei
    obtain rfl : u = Value.ref b := ru
    refine ⟨(kv.1, b, y) :: prs, .cons ⟨rfl, hb, ry⟩ r, by rw [List.length_cons, List.length_cons, hl], fun j q e => ?_⟩
    cases j with
    | zero =>
      have e' : (kv.1, b, y) = q := Option.some.inj e
      subst e'
      exact ⟨p, rfl, ht⟩
    | succ j =>
      obtain ⟨p', h1, h2⟩ := hp j q (by simpa using e)
      exact ⟨p', by simpa using h1, h2⟩
theorem refsAt {ps : List Addr} {its : List Value} (r : Vals (ps.map V.ref) its) : its = ps.map Value.ref := by
  induction ps generalizing its with
  | nil => cases r; rfl
  | cons p ps ih =>
    cases r with
    | cons h t =>
      cases h
      rw [List.map_cons, ← ih t]
theorem call_dictT (hcalm : X.calm = true) (hu : X.A.units + 2 < cLine) : CallR X (.type "dict") (rDictT X.K) := by
  intro pins s σ H xs us Q I r q
  obtain ⟨a, ps, kvs, rfl, hq, hp, q⟩ := q
  obtain ⟨u, rfl, rx⟩ := vals1 r
  cases rx
  obtain ⟨its, rv, pl, hz⟩ := I.list hq
  obtain rfl := refsAt rv
  rw [List.length_map] at hz
  obtain ⟨prs, rel, hl, hpr⟩ := pairsT_of I hp
  obtain ⟨o, n, ho, hc, hd, hdat⟩ := pl
  have hkl : kvs.length = prs.length := Paired.length rel
  have hm : (s.heap.objs.size == sysModules) = false := beq_eq_false_iff_ne.mpr (Nat.ne_of_gt I.big)
  have hkeys : ∀ {l : List (TKey × V)} {m : List (TKey × Addr × Value)}, KT H l m → ∀ x ∈ m, (tupleKind (mixKind X.prog X.w)).is s.heap x.1 x.2.1 := by
    intro l m q
    induction q with
    | nil => intro x hx; exact nomatch hx
    | @cons p q ps qs hq t ih =>
      intro x hx
      rcases List.mem_cons.mp hx with e | hx
      · subst e
        exact key_of I.hok (by rw [← hq.1]; exact hq.2.1)
      · exact ih x hx
  refine call_dict_pairsH (knd := tupleKind (mixKind X.prog X.w)) (ps := prs) (PairArg.list (prog := X.prog) (w := X.w) a (ps.map Value.ref).toArray (fun j => ps.getD j 0) (prs.map fun x => (Value.ref x.2.1, x.2.2))) (I.ok.hd hcalm) (show X.A.units + 2 < cLine from hu) ⟨⟨o, n, ho, hc, hd, hdat⟩, ?_, ?_⟩ ⟨?_, ?_⟩ ?_ ?_ ?_
  · rw [List.size_toArray, List.length_map, List.length_map, hl]
  · intro j k v hj
    rw [List.getElem?_map] at hj
    obtain ⟨x, ex, e2⟩ := Option.map_eq_some_iff.mp hj
    obtain ⟨p, e3, e4⟩ := hpr j x ex
    cases e2
    refine ⟨?_, .inl ?_⟩
    · simp [e3]
    · show s.heap.IsTuple (ps.getD j 0) _
      rw [List.getD_eq_getElem?_getD, e3]
      exact e4
  · rw [List.length_map]
  · intro i k v hi
    rw [show PairRel (prs.map fun x => (Value.ref x.2.1, x.2.2)) i k v = ((prs.map fun x => (Value.ref x.2.1, x.2.2))[i]? = some (k, v)) from rfl, List.getElem?_map] at hi
    obtain ⟨x, ex, e2⟩ := Option.map_eq_some_iff.mp hi
    cases e2
    exact ⟨x.1, x.2.1, ex, rfl⟩
  · intro h' hk x hx
    obtain ⟨o1, its1, n1, h1, h2, h3, h4⟩ := hkeys rel x hx
    exact ⟨o1, its1, n1, hk _ _ (Nat.ne_of_lt (Heap.lt_size h1)) List.not_mem_nil h1, h2, h3, h4⟩
  · rw [List.length_map, hl]; exact hz
  · intro h' tk hd' hk
    obtain ⟨o', es', ep', g1, g2, g3, g4, _, g6⟩ := hd'
    have hlen : (mergeT [] kvs).length ≤ sizeLine := Nat.le_trans (mergeT_le kvs []) (by rw [List.length_nil, Nat.zero_add, hkl, hl]; exact hz)
    refine ⟨.ref s.heap.objs.size, upd H s.heap.objs.size (.dT (mergeT [] kvs)), I.laid (t' := tk) (fun b o e => hk b o List.not_mem_nil e) (Nat.le_refl _) (show ObjOk X.prog X.w _ _ _ (.dT (mergeT [] kvs)) from ⟨hlen, hm, storedAllH [] prs, ?_, o', es', ep', g1, g2, g3, g4, g6⟩), rfl, q _ (I.hok.fresh (Nat.le_refl _))⟩
    refine (kt_merge rel .nil).keeps fun b ys e => ?_
    rw [upd_ne (ne_of_none e (I.hok.fresh (Nat.le_refl _)))]
    exact e
/-- the hash of a tuple key -/
def hshT (w : World) (k : TKey) : Int := reduceHash (Builtin.Tuple.tupleHashOf (k.map (keyH w)))
def rUpdT (w : World) : V → List V → Hp → VK → Prop := fun x vs H Q => ∃ a b kvs ks, x = .ref a ∧ vs = [.ref b] ∧ a ≠ b ∧ H a = some (.dT kvs) ∧ H b = some (.dT ks) ∧ (ks.map fun p => hshT w p.1).Nodup ∧ kvs.length + ks.length ≤ sizeLine ∧ Q .non (upd H a (.dT (mergeT kvs ks)))
theorem mt_updateT (hu : X.A.units + 1 < cLine) : MtR X "dict.update" (rUpdT X.w) := by
  intro pins s σ H x xs v us Q I rx rxs h
  obtain ⟨a, b, kvs, ks, rfl, rfl, ne, ea, eb, hh, hz, q⟩ := h
  cases rx
  obtain ⟨u1, rfl, r1⟩ := vals1 rxs
  cases r1
  obtain ⟨z, hd, vs, rel, dd⟩ := dt_of I.hok ea
  obtain ⟨z2, hd2, vs2, rel2, dd2⟩ := dt_of I.hok eb
  have e1 : kvs.length = vs.length := Paired.length rel
  have e2 : ks.length = vs2.length := Paired.length rel2
  have ek : ∀ {l : List (TKey × V)} {m : List (TKey × Addr × Value)}, KT H l m → m.map (fun x => (tupleKind (mixKind X.prog X.w)).hash x.1) = l.map fun p => hshT X.w p.1 := by
    intro l m q
    induction q with
    | nil => rfl
    | @cons p q ps qs hq t ih =>
      rw [List.map_cons, List.map_cons, ih, ← hq.1]
      rfl
  refine call_update_dictH (knd := tupleKind (mixKind X.prog X.w)) (show X.A.units + 1 < cLine from hu) ne hd2 dd dd2 (.inr ⟨fun x hx => ?_, by rw [ek rel2]; exact hh⟩) (by rw [← e1, ← e2]; exact hz) fun h' dd' _ hs => ?_
  · obtain ⟨o1, es1, ep1, _, _, _, _, hk, _⟩ := dd2
    obtain ⟨o2, its2, n2, h1, h2, _⟩ := hk x hx
    exact ⟨o2, h1, h2⟩
  · obtain ⟨o', es', ep', g1, g2, g3, g4, _, g6⟩ := dd'
    refine ⟨.non, _, d_write (t' := s.toks) I (by rw [ea]; exact True.intro) hs ⟨o', g1⟩ (ob := .dT (mergeT kvs ks)) ⟨Nat.le_trans (mergeT_le ks kvs) hz, hd, _, (kt_merge rel2 rel).keeps (fun c ys ec => (by rw [upd_ne (ne_of ec ea (fun z => nomatch z))]; exact ec)), o', es', ep', g1, g2, g3, g4, g6⟩, rfl, q⟩
/-- sorted(d), d a dict whose keys are tuples of n ints in [0, B) -/
def rSortDT (n : Nat) (B : Int) : List V → Hp → VK → Prop := fun vs H Q => ∃ (a : Addr) (kvs : List (TKey × V)) (ks : List (List Int)), vs = [V.ref a] ∧ H a = some (.dT kvs) ∧ kvs.map (·.1) = ks.map (fun k => k.map Sum.inl) ∧ ks.length < 64 ∧ (∀ k ∈ ks, k.length = n ∧ TS.Bd B k) ∧
  ∀ (ys : List V) (us : List (List Int)) (p : Addr), us.Perm ks → us.Pairwise (fun x y => TS.code B x ≤ TS.code B y) → Paired (fun v k => ∃ t, v = V.ref t ∧ H t = some (.tup (k.map V.int))) ys us → H p = none → Q (.ref p) (upd H p (.lst ys))
theorem kmap_int (k : List Int) : (k.map Sum.inl : TKey).map kV = k.map V.int := by rw [List.map_map]; rfl
theorem paired_maps {α β γ : Type} {R : β → γ → Prop} {f : α → β} {g : α → γ} : ∀ {l : List α}, (∀ x ∈ l, R (f x) (g x)) → Paired R (l.map f) (l.map g)
  | [], _ => .nil
  | x :: l, h => .cons (h x (List.mem_cons_self ..)) (paired_maps fun y hy => h y (List.mem_cons_of_mem _ hy))
theorem cr_sortDT {n : Nat} {B : Int} (hn : 1 ≤ n) (hc : X.calm = true) : CallR X (.builtin "sorted") (rSortDT n B) := by
  intro pins s σ H xs us Q I r h
  obtain ⟨d, kvs, ks0, rfl, hd, hkk, h64, hbd, q⟩ := h
  obtain ⟨u, rfl, rx⟩ := vals1 r
  cases rx
  obtain ⟨z, hs, ks, pr, o, es, ep, ho, hx, hdt, he, hnd⟩ := (show ObjOk X.prog X.w H s.heap d (.dT kvs) from I.hok d _ hd)
  have l1 : es.size = ks.length := size_of_entries he
  have l2 : kvs.length = ks.length := Paired.length pr
  have l3 : kvs.length = ks0.length := by have := congrArg List.length hkk; rwa [List.length_map, List.length_map] at this
  refine Calls.call_function_entry PyProof.Rows.kind_sorted PyProof.Rows.plain_sorted PyProof.Rows.entry_sorted (PyProof.Rows.args_sorted1 _) ?_
  unfold Builtin.«sorted»
  refine wpAny_bind (m := checkCount "sorted" 1 1 _) (wpAny_pure ?_)
  refine wpAny_bind (PySem.W.kdu_collect (A := X.A.in1) (kdl_raw hs hx hdt) (I.ok.hd hc) ho (by omega) fun h' tk acc' kp it => ?_)
  have ea : acc'.toList = ks.map fun x => Value.ref x.2.1 := List.ext_getElem (by rw [Array.length_toList, List.length_map, it.1, l1]) fun j h1 h2 => by
    have lt : j < ks.length := by rwa [List.length_map] at h2
    obtain ⟨en, at_j, key⟩ := it.2 j acc'.toList[j] (by rw [← Array.getElem?_toList]; exact List.getElem?_eq_getElem h1)
    have same := (entry_at he j).symm.trans at_j
    rw [List.getElem?_eq_getElem lt] at same
    rw [key, List.getElem_map, ← Option.some.inj same]
    rfl
  have I1 : Inv X pins σ H { s with heap := h', toks := tk } := I.kept kp
  refine wpAny_bind (wpAny_newList ?_ (by rw [ea, List.length_map, sizeLine_eq]; omega))
  have hoL : (h'.push (seqObj "list" acc'.toList.toArray 0)).get? h'.objs.size = some (seqObj "list" acc'.toList.toArray 0) := Heap.get?_push_size _ rfl
  -- the keys' tuples
  have hT : ∀ v ∈ acc'.toList, ∃ t k, v = Value.ref t ∧ k ∈ ks0 ∧ H t = some (.tup (k.map V.int)) := fun v hv => by
    rw [ea] at hv
    obtain ⟨x, hx2, rfl⟩ := List.mem_map.mp hv
    obtain ⟨i, hi⟩ := List.mem_iff_getElem?.mp hx2
    obtain ⟨p, ep2, hp1, hp2, _⟩ := pGet pr hi
    have e3 : (kvs.map (·.1))[i]? = some p.1 := by rw [List.getElem?_map, ep2]; rfl
    rw [hkk, List.getElem?_map] at e3
    obtain ⟨k, ek, e4⟩ := Option.map_eq_some_iff.mp e3
    refine ⟨x.2.1, k, rfl, List.mem_of_getElem? ek, ?_⟩
    rw [hp2, ← e4, kmap_int]
  have hraw : ∀ t k, H t = some (.tup (k.map V.int)) → TS.TupInts (h'.push (seqObj "list" acc'.toList.toArray 0)) (.ref t) k := fun t k e => (tupI_raw (X := X) I1 (SqT.of e)).keeps fun b o e _ => Heap.get?_push_of_some _ e
  have hacc0 : ∀ G : Heap, (∀ t k, H t = some (.tup (k.map V.int)) → TS.TupInts G (.ref t) k) → acc'.toList.map (TS.intsOf G) = ks0 := by
    intro G hraw
    have e1 : ks0.map (fun k => (k.map Sum.inl : TKey)) = ks.map (·.1) := by
      rw [← hkk]
      clear ea hT hkk it hnd he hx hdt ho l1 l2 l3 hd q z hraw
      induction pr with
      | nil => rfl
      | @cons p q ps qs hq t ih => rw [List.map_cons, List.map_cons, ih, hq.1]
    rw [ea, List.map_map]
    refine List.ext_getElem? fun i => ?_
    rw [List.getElem?_map]
    have e2 : (ks0.map (fun k => (k.map Sum.inl : TKey)))[i]? = (ks.map (·.1))[i]? := by rw [e1]
    rw [List.getElem?_map, List.getElem?_map] at e2
    cases hi : ks[i]? with
    | none =>
      rw [hi] at e2
      cases hk : ks0[i]? with
      | none => rfl
      | some k => rw [hk] at e2; cases e2
    | some x =>
      rw [hi] at e2
      cases hk : ks0[i]? with
      | none => rw [hk] at e2; cases e2
      | some k =>
        rw [hk] at e2
        have e3 : (k.map Sum.inl : TKey) = x.1 := Option.some.inj e2
        obtain ⟨p, ep2, hp1, hp2, _⟩ := pGet pr hi
        rw [hp1, ← e3, kmap_int] at hp2
        show some (TS.intsOf _ (Value.ref x.2.1)) = some k
        rw [(hraw _ _ hp2).ints]
  have hacc := hacc0 _ hraw
  have hal : acc'.toList.length = ks0.length := by rw [← hacc, List.length_map]
  show wpAny _ _ _ _ _ { s with heap := h'.push (seqObj "list" acc'.toList.toArray 0), toks := tk }
  refine wpAny_bind (wpAny_holding (wpAny_call_entry PyProof.Rows.slot_list_sort ⟨_, hoL, rfl⟩ PyProof.Rows.entry_list_sort (TS.sort_tups (d := n) (B := B) (s := { s with heap := h'.push (seqObj "list" acc'.toList.toArray 0), toks := tk }) hoL (by rw [hal]; exact h64) hn (fun v hv => ?_)
    (fun v => TS.code B (TS.intsOf (h'.push (seqObj "list" acc'.toList.toArray 0)) v)) (fun v hv ns t => ?_) fun out a1 a2 => ⟨_, rfl, ?_⟩) (PyProof.Rows.args_list_sort _)))
  · obtain ⟨t, k, rfl, hk, e⟩ := hT v hv
    exact ⟨k, hraw t k e, (hbd k hk).1, (hbd k hk).2⟩
  · show TS.code B (TS.intsOf _ v) = TS.code B ns
    rw [t.ints]
  obtain ⟨e', he'⟩ := PyProof.Rows.sortedHeap_at (vs := acc'.toList) (out := out) hoL
  have hm : ∀ u ∈ out.toList, u ∈ acc'.toList := fun u hu => a1.mem_iff.mp hu
  have h3 : ∀ u ∈ out.toList, ∃ a, u = Value.ref a := fun u hu => let ⟨t, _, e, _⟩ := hT u (hm u hu); ⟨t, e⟩
  have hlen : (out.toList.map bkV).length ≤ sizeLine := by
    rw [List.length_map, a1.length_eq, hal]
    exact Nat.le_trans (Nat.le_of_lt h64) (by decide)
  refine wpAny_pure ⟨_, rfl, .ref h'.objs.size, upd H h'.objs.size (.lst (out.toList.map bkV)), I1.laid (t' := tk) (fun b u e => ?_) (Nat.le_refl _) ⟨hlen, out.toList, e', bkV_vals h3, he'⟩, rfl, q _ (out.toList.map (TS.intsOf (h'.push (seqObj "list" acc'.toList.toArray 0)))) _ ?_ ?_ ?_ (I1.hok.fresh (Nat.le_refl _))⟩
  · have hb : b < h'.objs.size := Heap.lt_size e
    rw [PyProof.Rows.sortedHeap_old (Nat.ne_of_lt hb) (by rw [size_push']; exact Nat.lt_succ_of_lt hb)]
    exact Heap.get?_push_of_some _ e
  · rw [← hacc]
    exact a1.map _
  · rw [List.pairwise_map]
    exact a2
  · refine paired_maps (fun v hv => ?_)
    obtain ⟨t, k, rfl, hk, e⟩ := hT v (hm v hv)
    exact ⟨t, rfl, by rw [(hraw t k e).ints]; exact e⟩
end
end U

/-! ### x in a tuple of data -/
namespace U
open PySem PySem.Spec PyProof.Rows L2
section
variable {X : Cx}
def rInDT (K : PySem.W.Frag) : R2 := fun x y H Q => ∃ d ds, Dp K H x d ∧ Dp K H y (.tuple ds) ∧ SeqAt.shaped d = true ∧ d.depth ≤ 60 ∧ SeqAt.shaped (.tuple ds) = true ∧ Q (.bl (ds.any fun z => PyData.eqv z d)) H
theorem op_inDeep (hu : X.A.units + 64 < cLine) : OpR X (compareOp .In) (rInDT X.K) := by
  intro pins s σ H x y v u Q I rx ry h
  obtain ⟨d, ds, hd, he, sd, hl, se, q⟩ := h
  obtain ⟨as, r1⟩ := Dp.reads I d x v hd rx
  obtain ⟨bs, r2⟩ := Dp.reads I (.tuple ds) y u he ry
  exact SeqAt.in_tuple_reads r2 r1 (SeqAt.canLay_of_shaped se) (SeqAt.canLay_of_shaped sd) (by have := Nat.min_le_right (PyData.depthAll ds) d.depth; omega) ⟨.bl _, H, I, rfl, q⟩
end
end U
namespace U
open PySem PySem.Spec PyProof.Rows L2
theorem hu2 {k : Nat} {A : Around} (hr : Room k A) : A.units + 2 < cLine := by have := hr.units; omega
end U

/-! ### the steps of a walk that need no choice, found by their form -/
namespace U
open PySem PySem.Spec PyProof.Rows L2
class Go (G : Prop) (N : outParam Prop) : Prop where
  go : N → G
theorem goo {G N : Prop} [h : Go G N] (n : N) : G := h.go n
class GetAt (σ : L2.St) (i : Nat) (v : outParam V) : Prop where
  e : σ[i]? = some (some v)
class SetAt (σ : L2.St) (i : Nat) (v : V) (σ' : outParam L2.St) : Prop where
  e : σ.set i (some v) = σ'
section
variable {σ σ' σ2 σ3 : L2.St} {i j l : Nat} {a : Option V} {u v w : V}
instance : GetAt (some v :: σ) 0 v := ⟨rfl⟩
instance [h : GetAt σ i v] : GetAt (a :: σ) (i + 1) v := ⟨by rw [List.getElem?_cons_succ]; exact h.e⟩
instance : SetAt (a :: σ) 0 v (some v :: σ) := ⟨rfl⟩
instance [h : SetAt σ i v σ'] : SetAt (a :: σ) (i + 1) v (a :: σ') := ⟨by rw [List.set_cons_succ, h.e]⟩
section
variable {H : Hp} {Q : VK} {R nx : L2.St → Hp → Prop}
instance go_gVar [h : GetAt σ i v] : Go (tVar i σ H Q) (Q v H) := ⟨fun q => gVar ⟨v, h.e, q⟩⟩
instance go_nName [h : SetAt σ i v σ'] : Go (gName i v σ H R) (R σ' H) := ⟨fun q => nName h.e q⟩
instance go_nPR [h : SetAt σ i v σ2] [k : SetAt σ2 j w σ'] : Go (PR nx i j σ [v, w] H) (nx σ' H) := ⟨fun q => nPR (by rw [h.e, k.e]) q⟩
instance go_nPR3 [h : SetAt σ i u σ2] [k : SetAt σ2 j v σ3] [m : SetAt σ3 l w σ'] : Go (PR3 nx i j l σ [u, v, w] H) (nx σ' H) := ⟨fun q => nPR3 (by rw [h.e, k.e, m.e]) q⟩
end
instance go_iteT {A B : Prop} : Go (if true = true then A else B) A := ⟨fun q => iteT q⟩
instance go_iteF {A B : Prop} : Go (if false = true then A else B) B := ⟨fun q => iteF q⟩
end
section
variable {K : PySem.W.Frag} {σ : L2.St} {H : Hp} {Q : VK} {ta tb te : TE} {v x y : V}
variable {nx bk ct : L2.St → Hp → Prop} {rt : VK}
instance go_iSeq {t u : TS} : Go (tSeq t u ⟨nx, rt, bk, ct⟩ σ H) (t ⟨u ⟨nx, rt, bk, ct⟩, rt, bk, ct⟩ σ H) := ⟨fun q => iSeq q⟩
instance go_iNext  : Go (tNext ⟨nx, rt, bk, ct⟩ σ H) (nx σ H) := ⟨fun q => iNext q⟩
instance go_iAsg {te : TE} {g : TG} : Go (tAsg te g ⟨nx, rt, bk, ct⟩ σ H) (te σ H fun x H1 => g x σ H1 nx) := ⟨fun q => iAsg q⟩
instance go_iRet  : Go (tRet te ⟨nx, rt, bk, ct⟩ σ H) (te σ H rt) := ⟨fun q => iRet q⟩
instance go_iRetN  : Go (tRetN ⟨nx, rt, bk, ct⟩ σ H) (rt .non H) := ⟨fun q => iRetN q⟩
instance go_iDrop  : Go (tDrop te ⟨nx, rt, bk, ct⟩ σ H) (te σ H fun _ H1 => nx σ H1) := ⟨fun q => iDrop q⟩
instance go_iIfS {c : TT} {t u : TS} {D : Ends} : Go (tIfS c t u D σ H) (c σ H fun b H1 => if b = true then t D σ H1 else u D σ H1) := ⟨fun q => iIfS q⟩
end
section
variable {σ σ' : L2.St} {H : Hp} {nx bk ct : L2.St → Hp → Prop} {rt : VK}
instance go_nPar {i j : Nat} {ta : TA} : Go (tPar i j ta ⟨nx, rt, bk, ct⟩ σ H) (ta σ H (PR nx i j σ)) := ⟨fun q => nPar q⟩
instance go_nPar3 {i j l : Nat} {ta : TA} : Go (tPar3 i j l ta ⟨nx, rt, bk, ct⟩ σ H) (ta σ H (PR3 nx i j l σ)) := ⟨fun q => nPar3 q⟩
end
section
variable {K : PySem.W.Frag} {σ : L2.St} {H : Hp} {Q : VK} {ta tb te : TE} {v x y : V}
instance go_iC  : Go (tC v σ H Q) (Q v H) := ⟨fun q => iC q⟩
instance go_iOp {r : R2} : Go (tOp r ta tb σ H Q) (ta σ H fun x H1 => tb σ H1 fun y H2 => r x y H2 Q) := ⟨fun q => iOp q⟩
instance go_iUn {r : V → Hp → VK → Prop} : Go (tUn r ta σ H Q) (ta σ H fun x H1 => r x H1 Q) := ⟨fun q => iUn q⟩
instance go_iI0 {g : Int → Int → V} {i j : Int} : Go (rI0 g (.int i) (.int j) H Q) (Q (g i j) H) := ⟨fun q => iI0 q⟩
instance go_iU {g : Int → V} {i : Int} : Go (rU g (.int i) H Q) (Q (g i) H) := ⟨fun q => iU q⟩
instance go_iTest {t : TE} {R : Bool → Hp → Prop} : Go (tTest t σ H R) (t σ H fun x H' => ∃ k, x = .bl k ∧ R k H') := ⟨fun q => iTest q⟩
instance go_iB {t : TE} {R : Bool → Hp → Prop} : Go (tB t σ H R) (t σ H fun x H1 => ∃ c, x = .bl c ∧ R c H1) := ⟨fun q => iB q⟩
instance go_iAnd {t u : TT} {R : Bool → Hp → Prop} : Go (tAnd t u σ H R) (t σ H fun c H1 => if c = true then u σ H1 R else R false H1) := ⟨fun q => iAnd q⟩
instance go_iOr {t u : TT} {R : Bool → Hp → Prop} : Go (tOr t u σ H R) (t σ H fun c H1 => if c = true then R true H1 else u σ H1 R) := ⟨fun q => iOr q⟩
instance go_iNot {t : TT} {R : Bool → Hp → Prop} : Go (tNot t σ H R) (t σ H fun c H1 => R (!c) H1) := ⟨fun q => iNot q⟩
instance go_iAndV  : Go (tAndV ta tb σ H Q) (ta σ H fun x H1 => ∃ c, x = .bl c ∧ if c = true then tb σ H1 Q else Q (.bl false) H1) := ⟨fun q => iAndV q⟩
instance go_iOrV  : Go (tOrV ta tb σ H Q) (ta σ H fun x H1 => ∃ c, x = .bl c ∧ if c = true then Q (.bl true) H1 else tb σ H1 Q) := ⟨fun q => iOrV q⟩
instance go_iNotV  : Go (tNotV ta σ H Q) (ta σ H fun x H1 => ∃ c, x = .bl c ∧ Q (.bl (!c)) H1) := ⟨fun q => iNotV q⟩
instance go_iChain {r r' : R2} {tc : TE} : Go (tChain r r' ta tb tc σ H Q) (ta σ H fun x H1 => tb σ H1 fun y H2 => r x y H2 fun z H3 => ∃ k, z = .bl k ∧ (if k = true then tc σ H3 fun w' H4 => r' y w' H4 Q else Q (.bl false) H3)) := ⟨fun q => iChain q⟩
instance go_iNil {R : List V → Hp → Prop} : Go (tNil σ H R) (R [] H) := ⟨fun q => iNil q⟩
instance go_iCons {tr : TA} {R : List V → Hp → Prop} : Go (tCons ta tr σ H R) (ta σ H fun x H1 => tr σ H1 fun xs H2 => R (x :: xs) H2) := ⟨fun q => iCons q⟩
instance go_iTupX {t : TA} : Go (tTup t σ H Q) (t σ H fun xs H1 => xs.length ≤ sizeLine ∧ ∀ p, H1 p = none → Q (.ref p) (upd H1 p (.tup xs))) := ⟨fun q => iTupX q⟩
instance go_iLst {t : TA} : Go (tLst t σ H Q) (t σ H fun xs H1 => xs.length ≤ sizeLine ∧ ∀ p, H1 p = none → Q (.ref p) (upd H1 p (.lst xs))) := ⟨fun q => iLst q⟩
instance go_iCB {r : List V → Hp → VK → Prop} {t : TA} : Go (tCB r t σ H Q) (t σ H fun vs H1 => r vs H1 Q) := ⟨fun q => iCB q⟩
instance go_iCall {sp : Sp} {dvs : List V} {E : XK} {t : TA} : Go (tCall sp dvs E t σ H Q) (t σ H fun vs H1 => sp (vs ++ dvs) H1 Q E) := ⟨fun q => iCall q⟩
instance go_iSl {r : V → Option Int → Option Int → Hp → VK → Prop} {tl th : TO} : Go (tSl r te tl th σ H Q) (te σ H fun x H1 => tl σ H1 fun l H2 => th σ H2 fun u H3 => r x l u H3 Q) := ⟨fun q => iSl q⟩
instance go_iNoPart {R : Option Int → Hp → Prop} : Go (tNoPart σ H R) (R none H) := ⟨fun q => iNoPart q⟩
instance go_iPart {R : Option Int → Hp → Prop} : Go (tPart te σ H R) (te σ H fun x H1 => ∃ i, x = .int i ∧ R (some i) H1) := ⟨fun q => iPart q⟩
instance go_iBM {T : String} {r : V → List V → Hp → VK → Prop} {to : TE} {t : TA} : Go (tBM K T r to t σ H Q) (to σ H fun x H1 => tyV K T x H1 ∧ t σ H1 fun xs H2 => r x xs H2 Q) := ⟨fun q => iBM q⟩
instance go_iBM0 {T : String} {r : V → List V → Hp → VK → Prop} {to : TE} : Go (tBM0 K T r to σ H Q) (to σ H fun x H1 => tyV K T x H1 ∧ r x [] H1 Q) := ⟨fun q => iBM0 q⟩
end
section
variable {X : Cx} {K : PySem.W.Frag} {σ : L2.St} {H : Hp} {Q : VK}
instance go_iDGetE {td ty : TE} : Go (tDGet td ty σ H Q) (td σ H fun x H1 => ty σ H1 fun y H2 => rDGet x y H2 Q) := ⟨fun q => iDGetE q⟩
instance go_iDInE {td ty : TE} : Go (tDIn ty td σ H Q) (ty σ H fun y H1 => td σ H1 fun x H2 => rDIn y x H2 Q) := ⟨fun q => iDInE q⟩
instance go_iDNotInE {td ty : TE} : Go (tDNotIn ty td σ H Q) (ty σ H fun y H1 => td σ H1 fun x H2 => rDNotIn y x H2 Q) := ⟨fun q => iDNotInE q⟩
end
section
variable {K : PySem.W.Frag} {σ : L2.St} {H : Hp} {Q : VK} {ta tb te : TE} {v x y : V}
instance go_iSub {to ti : TE} {t : TSet} {v : V} {R : L2.St → Hp → Prop} : Go (gSub to ti t v σ H R) (to σ H fun o H1 => ti σ H1 fun i H2 => t o i v H2 fun H3 => R σ H3) := ⟨fun q => iSub q⟩
end
section
variable {σ : L2.St} {H : Hp} {nx bk ct : L2.St → Hp → Prop} {rt : VK} {td ty tv : TE}
instance go_iDPutE  : Go (sDPut td ty tv ⟨nx, rt, bk, ct⟩ σ H) (tv σ H fun v H1 => td σ H1 fun x H2 => ty σ H2 fun y H3 => rDPut x y v H3 fun H4 => nx σ H4) := ⟨fun q => iDPutE q⟩
end
section
variable {σ : L2.St} {H : Hp} {Q : VK} {td ty tk tv : TE}
instance go_iDisp {trs : List (TE × TE)} : Go (tDisp trs σ H Q) (∀ p, H p = none → tPairs trs σ (upd H p (.dK [])) fun ps H2 => H2 p = some (.dK []) ∧ ∃ kvs : List (Key × V), ps = kvs.map (fun kv => (kV kv.1, kv.2)) ∧ kvs.length ≤ 15 ∧ Q (.ref p) (upd H2 p (.dK (mergeK [] kvs)))) := ⟨fun q => iDisp q⟩
instance go_iPairsN {R : List (V × V) → Hp → Prop} : Go (tPairs [] σ H R) (R [] H) := ⟨fun q => iPairsN q⟩
instance go_iPairsC {r : List (TE × TE)} {R : List (V × V) → Hp → Prop} : Go (tPairs ((tk, tv) :: r) σ H R) (tk σ H fun x H1 => tv σ H1 fun y H2 => tPairs r σ H2 fun ps H3 => R ((x, y) :: ps) H3) := ⟨fun q => iPairsC q⟩
instance go_iDPop1  : Go (tDPop1 td ty σ H Q) (td σ H (rPopA ty σ Q)) := ⟨fun q => iDPop1 q⟩
end
section
variable {K : PySem.W.Frag} {σ : L2.St} {H : Hp} {Q : VK} {ta tb te : TE} {v x y : V}
instance go_iEqI {i j : Int} : Go (rEq (.int i) (.int j) H Q) (Q (.bl (decide (i = j))) H) := ⟨fun q => iEqI q⟩
instance go_iNeI {i j : Int} : Go (rNe (.int i) (.int j) H Q) (Q (.bl (!decide (i = j))) H) := ⟨fun q => iNeI q⟩
instance go_iEqS {i j : Str} : Go (rEq (.str i) (.str j) H Q) (Q (.bl (decide (i = j))) H) := ⟨fun q => iEqS q⟩
instance go_iNeS {i j : Str} : Go (rNe (.str i) (.str j) H Q) (Q (.bl (!decide (i = j))) H) := ⟨fun q => iNeS q⟩
instance go_iEqB {i j : Bool} : Go (rEq (.bl i) (.bl j) H Q) (Q (.bl (decide (i = j))) H) := ⟨fun q => iEqB q⟩
instance go_iNeB {i j : Bool} : Go (rNe (.bl i) (.bl j) H Q) (Q (.bl (!decide (i = j))) H) := ⟨fun q => iNeB q⟩
instance go_iEqIN {i : Int} : Go (rEq (.int i) .non H Q) (Q (.bl false) H) := ⟨fun q => iEqIN q⟩
instance go_iEqNI {i : Int} : Go (rEq .non (.int i) H Q) (Q (.bl false) H) := ⟨fun q => iEqNI q⟩
instance go_iEqNN  : Go (rEq .non .non H Q) (Q (.bl true) H) := ⟨fun q => iEqNN q⟩
end
section
variable {X : Cx} {K : PySem.W.Frag} {σ : L2.St} {H : Hp} {Q : VK}
instance go_iIsNN  : Go (rIsNon .non .non H Q) (Q (.bl true) H) := ⟨fun q => iIsNN q⟩
instance go_iIsNI {i : Int} : Go (rIsNon (.int i) .non H Q) (Q (.bl false) H) := ⟨fun q => iIsNI q⟩
instance go_iIsNR {i : Addr} : Go (rIsNon (.ref i) .non H Q) (Q (.bl false) H) := ⟨fun q => iIsNR q⟩
instance go_iIsNS {i : Str} : Go (rIsNon (.str i) .non H Q) (Q (.bl false) H) := ⟨fun q => iIsNS q⟩
instance go_iNoNN  : Go (rNotNon .non .non H Q) (Q (.bl false) H) := ⟨fun q => iNoNN q⟩
instance go_iNoNI {i : Int} : Go (rNotNon (.int i) .non H Q) (Q (.bl true) H) := ⟨fun q => iNoNI q⟩
instance go_iNoNR {i : Addr} : Go (rNotNon (.ref i) .non H Q) (Q (.bl true) H) := ⟨fun q => iNoNR q⟩
instance go_iNoNS {i : Str} : Go (rNotNon (.str i) .non H Q) (Q (.bl true) H) := ⟨fun q => iNoNS q⟩
instance go_iMax2 {i j : Int} : Go (rMax2 [.int i, .int j] H Q) (Q (.int (if j > i then j else i)) H) := ⟨fun q => iMax2 q⟩
instance go_iMin2 {i j : Int} : Go (rMin2 [.int i, .int j] H Q) (Q (.int (if j < i then j else i)) H) := ⟨fun q => iMin2 q⟩
end
section
variable {K : PySem.W.Frag} {σ : L2.St} {H : Hp} {Q : VK} {nx bk ct : L2.St → Hp → Prop} {rt : VK} {R : It → Hp → Prop} {tl : TE} {ta : TA} {J : It} {g : TG} {tb : TS}
instance go_iFor {wi : TI} : Go (tFor wi g tb ⟨nx, rt, bk, ct⟩ σ H) (wi σ H fun J H1 => LoopS J g tb nx rt σ H1) := ⟨fun q => iFor q⟩
instance go_iLc {wi : TI} {tt : TT} {te : TE} {vs : List Nat} : Go (tLc wi g tt te vs σ H Q) (wi σ H fun J H1 => ∀ D, H1 D = none → CompS J g tt te vs σ D (fun H' => Q (.ref D) H') H1) := ⟨fun q => iLc q⟩
instance go_iWL  : Go (iList K tl σ H R) (tl σ H (WL K R)) := ⟨fun q => iWL q⟩
instance go_iWT  : Go (L2.iTup K tl σ H R) (tl σ H (WT K R)) := ⟨fun q => iWT q⟩
instance go_iWE  : Go (iEnum K ta σ H R) (ta σ H (WE K R)) := ⟨fun q => iWE q⟩
instance go_iWR1  : Go (iRng1 ta σ H R) (ta σ H (WR1 R)) := ⟨fun q => iWR1 q⟩
instance go_iWR2  : Go (iRng2 ta σ H R) (ta σ H (WR2 R)) := ⟨fun q => iWR2 q⟩
instance go_iWS  : Go (iStr tl σ H R) (tl σ H (WS R)) := ⟨fun q => iWS q⟩
instance go_gWS {x : Str} : Go (WS R (.str x) H) (R (Its x) H) := ⟨fun q => gWS q⟩
instance go_iYes {R : Bool → Hp → Prop} : Go (tYes σ H R) (R true H) := ⟨fun q => iYes q⟩
instance go_gConsE {t : TG} {u : TGs} {v : V} {r : List V} {S : L2.St → Hp → Prop} : Go (gCons t u (v :: r) σ H S) (t v σ H fun σ' H' => u r σ' H' S) := ⟨fun q => gConsE q⟩
instance go_gNilE {S : L2.St → Hp → Prop} : Go (gNil [] σ H S) (S σ H) := ⟨fun q => gNilE q⟩
end
section
variable {A B : Prop} {α : Type} {x : α}
instance go_oSN  : Go (if (!(some x).isSome) = true then A else B) (B) := ⟨fun q => oSN q⟩
instance go_oNN  : Go (if (!(none : Option α).isSome) = true then A else B) (A) := ⟨fun q => oNN q⟩
instance go_oS  : Go (if (some x).isSome = true then A else B) (A) := ⟨fun q => oS q⟩
instance go_oN  : Go (if (none : Option α).isSome = true then A else B) (B) := ⟨fun q => oN q⟩
instance go_oIS  : Go (if (some x).isNone = true then A else B) (B) := ⟨fun q => oIS q⟩
instance go_oIN  : Go (if (none : Option α).isNone = true then A else B) (A) := ⟨fun q => oIN q⟩
instance go_oISN  : Go (if (!(some x).isNone) = true then A else B) (A) := ⟨fun q => oISN q⟩
instance go_oINN  : Go (if (!(none : Option α).isNone) = true then A else B) (B) := ⟨fun q => oINN q⟩
instance go_oNT  : Go (if (!true) = true then A else B) (B) := ⟨fun q => oNT q⟩
instance go_oNF  : Go (if (!false) = true then A else B) (A) := ⟨fun q => oNF q⟩
end
section
instance go_gBl {b : Bool} {R : Bool → Prop} : Go (∃ k, V.bl b = V.bl k ∧ R k) (R b) := ⟨fun q => gBl q⟩
instance go_gInt {b : Int} {R : Int → Prop} : Go (∃ k, V.int b = V.int k ∧ R k) (R b) := ⟨fun q => gInt q⟩
instance go_gWipe {σ : L2.St} {R : Prop} : Go (σ = σ ∧ R) (R) := ⟨fun q => gWipe q⟩
end
section
variable {X : Cx} {K : PySem.W.Frag} {σ : L2.St} {H : Hp} {Q : VK}
instance go_iFld {te : TE} {f : Str} : Go (tFld K te f σ H Q) (te σ H (rFld K f Q)) := ⟨fun q => iFld q⟩
instance go_iSFld {ta tv : TE} {f : Str} {nx bk ct : L2.St → Hp → Prop} {rt : VK} : Go (sFld K ta tv f ⟨nx, rt, bk, ct⟩ σ H) (tv σ H fun y H1 => ta σ H1 (wFld K f y fun H' => nx σ H')) := ⟨fun q => iSFld q⟩
instance go_iFldT {to : TE} {f : Str} {v : V} {R : L2.St → Hp → Prop} : Go (gFldT K to f v σ H R) (to σ H (wFld K f v fun H' => R σ H')) := ⟨fun q => iFldT q⟩
instance go_iMeth {C : Addr} {m : Str} {sp : Sp} {E : XK} {dvs : List V} {ta : TE} {t : TA} : Go (tMeth C m sp dvs E ta t σ H Q) (ta σ H (rMeth C m sp E t dvs σ Q)) := ⟨fun q => iMeth q⟩
instance go_iSlT {to tl th : TE} {v : V} {R : L2.St → Hp → Prop} : Go (gSlT to tl th v σ H R) (to σ H fun o H1 => tl σ H1 fun l H2 => th σ H2 fun u H3 => wSl v l u (fun H' => R σ H') o H3) := ⟨fun q => iSlT q⟩
end
end U

/-! ### update of a dict by a list of pairs; or of values -/
namespace U
open PySem PySem.Spec PyProof.Rows L2
section
variable {X : Cx}
theorem pairsU_of {pins : List (Addr × Obj)} {σ : L2.St} {H : Hp} {s : Shared} (I : Inv X pins σ H s) : ∀ {ps : List Addr} {kvs : List (Key × V)}, Paired (fun p kv => SqT X.K H p [kV kv.1, kv.2]) ps kvs →
    ∃ prs : List (Key × Value × Value), KV kvs (prs.map fun q => (q.1, q.2.2)) ∧ prs.length = ps.length ∧ ∀ (j : Nat) q, prs[j]? = some q → ∃ b, ps[j]? = some b ∧ s.heap.IsTuple b #[q.2.1, q.2.2] ∧ keyIs q.1 q.2.1 = true
  | _, _, .nil => ⟨[], .nil, rfl, fun j q e => by simp at e⟩
  | _, _, .cons (a := p) (b := kv) h t => by
    obtain ⟨prs, r, hl, hp⟩ := pairsU_of I t
    obtain ⟨its, rv, ht, _⟩ := I.tuple h
    obtain ⟨u, y, ei, ru, ry⟩ := vals2 rv
    subst ei
    refine ⟨(kv.1, u, y) :: prs, .cons ⟨rfl, ry⟩ r, by rw [List.length_cons, List.length_cons, hl], fun j q e => ?_⟩
    cases j with
    | zero =>
      have e' : (kv.1, u, y) = q := Option.some.inj e
      subst e'
      exact ⟨p, rfl, ht, kV_is (P := X.prog) (w := X.w) ru⟩
    | succ j =>
      obtain ⟨b, e1, e2, e3⟩ := hp j q (by simpa using e)
      exact ⟨b, by simpa using e1, e2, e3⟩
def rUpdP (K : PySem.W.Frag) : V → List V → Hp → VK → Prop := fun x vs H Q => ∃ (a b : Addr) (kvs : List (Key × V)) (ps : List Addr) (ks : List (Key × V)), x = .ref a ∧ vs = [.ref b] ∧ H a = some (.dK kvs) ∧ SqL K H b (ps.map V.ref) ∧ Paired (fun p kv => SqT K H p [kV kv.1, kv.2]) ps ks ∧ kvs.length + ks.length ≤ sizeLine ∧ Q .non (upd H a (.dK (mergeK kvs ks)))
theorem mt_updP (hcalm : X.calm = true) : MtR X "dict.update" (rUpdP X.K) := by
  intro pins s σ H x xs v us Q I rx rxs h
  obtain ⟨a, b, kvs, ps, ks, rfl, rfl, ea, hq, hp, hz, q⟩ := h
  cases rx
  obtain ⟨u1, rfl, r1⟩ := vals1 rxs
  cases r1
  obtain ⟨z, hd, vs, rel, dd⟩ := dk_of I.hok ea
  obtain ⟨its, rv, pl, hz2⟩ := I.list hq
  obtain rfl := refsAt rv
  obtain ⟨prs, rel2, hl, hpr⟩ := pairsU_of I hp
  obtain ⟨o, n, ho, hc, hdd, hdat⟩ := pl
  have hkl : ks.length = prs.length := by have := rel2.length; rwa [List.length_map] at this
  obtain ⟨oa, esa, epa, goa, gca, gda, _⟩ := id dd
  have gets : ∀ (j : Nat) (k v : Value), (prs.map fun q => (q.2.1, q.2.2))[j]? = some (k, v) → ∃ q, prs[j]? = some q ∧ q.2.1 = k ∧ q.2.2 = v := fun j k v hj => by
    rw [List.getElem?_map] at hj
    obtain ⟨q, e1, e2⟩ := Option.map_eq_some_iff.mp hj
    exact ⟨q, e1, (Prod.mk.inj e2).1, (Prod.mk.inj e2).2⟩
  refine call_update_pairs (knd := mixKind X.prog X.w) (kvs := prs.map fun q => (q.1, q.2.2)) (PairArg.list (prog := X.prog) (w := X.w) b (ps.map Value.ref).toArray (fun j => ps.getD j 0) (prs.map fun q => (q.2.1, q.2.2))) (I.ok.hd hcalm) ⟨⟨o, n, ho, hc, hdd, hdat⟩, ?_, ?_⟩ (fun hm => ?_) ⟨?_, ?_⟩ dd ?_ ?_
  · rw [List.size_toArray, List.length_map, List.length_map, hl]
  · intro j k v hj
    obtain ⟨q, e1, rfl, rfl⟩ := gets j k v hj
    obtain ⟨p, e3, e4, _⟩ := hpr j q e1
    refine ⟨by simp [e3], .inl ?_⟩
    show s.heap.IsTuple (ps.getD j 0) _
    rw [List.getD_eq_getElem?_getD, e3]
    exact e4
  · rcases List.mem_cons.mp hm with e | hm
    · subst e
      rw [ho] at goa
      obtain rfl := Option.some.inj goa
      rw [hdat] at gda
      cases gda
    · obtain ⟨j, hj, e⟩ := List.mem_map.mp hm
      have hj : j < prs.length := by have := List.mem_range.mp hj; rwa [List.length_map] at this
      obtain ⟨p, e3, ⟨o2, h1, h2, n2, h3⟩, _⟩ := hpr j _ (List.getElem?_eq_getElem hj)
      have e : ps.getD j 0 = a := e
      rw [List.getD_eq_getElem?_getD, e3] at e
      obtain rfl : p = a := e
      rw [h1] at goa
      obtain rfl := Option.some.inj goa
      rw [h3] at gda
      cases gda
  · rw [List.length_map, List.length_map]
  · intro i k v hi
    obtain ⟨q, e1, rfl, rfl⟩ := gets i k v hi
    obtain ⟨p, _, _, e4⟩ := hpr i q e1
    exact ⟨q.1, by rw [List.getElem?_map, e1]; rfl, e4⟩
  · rw [List.length_map, ← rel.length, ← hkl]; exact hz
  · intro h' tk hd' hk
    obtain ⟨o', es', ep', g⟩ := id hd'
    have e1 : kvs.length + ks.length ≤ sizeLine := hz
    exact ⟨.non, _, I.write (t' := tk) (x := a) (e := a) (by rw [ea]; exact True.intro) (.inl rfl) (fun b q hb z => hk b q hb List.not_mem_nil z) ⟨o', g.1⟩ (o := .dK (mergeK kvs ks)) (dk_new (Nat.le_trans (length_mergeK ks kvs) hz) hd (KV.merge rel2 rel) hd'), rfl, q⟩
def rUpdPT (K : PySem.W.Frag) : V → List V → Hp → VK → Prop := fun x vs H Q => ∃ (a b : Addr) (kvs : List (TKey × V)) (ps : List Addr) (ks : List (TKey × V)), x = .ref a ∧ vs = [.ref b] ∧ H a = some (.dT kvs) ∧ SqL K H b (ps.map V.ref) ∧ Paired (fun p kv => ∃ b, SqT K H p [.ref b, kv.2] ∧ H b = some (.tup (kv.1.map kV))) ps ks ∧ kvs.length + ks.length ≤ sizeLine ∧ Q .non (upd H a (.dT (mergeT kvs ks)))
theorem mt_updPT (hcalm : X.calm = true) (hu : X.A.units + 1 < cLine) : MtR X "dict.update" (rUpdPT X.K) := by
  intro pins s σ H x xs v us Q I rx rxs h
  obtain ⟨a, b, kvs, ps, ks, rfl, rfl, ea, hq, hp, hz, q⟩ := h
  cases rx
  obtain ⟨u1, rfl, r1⟩ := vals1 rxs
  cases r1
  obtain ⟨z, hd, vs, rel, dd⟩ := dt_of I.hok ea
  obtain ⟨its, rv, pl, hz2⟩ := I.list hq
  obtain rfl := refsAt rv
  obtain ⟨prs, rel2, hl, hpr⟩ := pairsT_of I hp
  obtain ⟨o, n, ho, hc, hdd, hdat⟩ := pl
  have hkl : ks.length = prs.length := Paired.length rel2
  have hkl0 : kvs.length = vs.length := Paired.length rel
  obtain ⟨oa, esa, epa, goa, gca, gda, _⟩ := id dd
  have hkeys : ∀ {l : List (TKey × V)} {m : List (TKey × Addr × Value)}, KT H l m → ∀ x ∈ m, (tupleKind (mixKind X.prog X.w)).is s.heap x.1 x.2.1 ∧ x.2.1 ≠ a := by
    intro l m q
    induction q with
    | nil => intro x hx; exact nomatch hx
    | @cons p q ps qs hq t ih =>
      intro x hx
      rcases List.mem_cons.mp hx with e | hx
      · subst e
        refine ⟨key_of I.hok (by rw [← hq.1]; exact hq.2.1), fun z => ?_⟩
        have := hq.2.1
        rw [z, ea] at this
        cases this
      · exact ih x hx
  refine call_update_pairsH (knd := tupleKind (mixKind X.prog X.w)) (ps := prs) (PairArg.list (prog := X.prog) (w := X.w) b (ps.map Value.ref).toArray (fun j => ps.getD j 0) (prs.map fun x => (Value.ref x.2.1, x.2.2))) (I.ok.hd hcalm) (show X.A.units + 1 < cLine from hu) ⟨⟨o, n, ho, hc, hdd, hdat⟩, ?_, ?_⟩ (fun hm => ?_) ⟨?_, ?_⟩ ?_ dd ?_ ?_
  · rw [List.size_toArray, List.length_map, List.length_map, hl]
  · intro j k v hj
    rw [List.getElem?_map] at hj
    obtain ⟨x, ex, e2⟩ := Option.map_eq_some_iff.mp hj
    obtain ⟨p, e3, e4⟩ := hpr j x ex
    cases e2
    refine ⟨?_, .inl ?_⟩
    · simp [e3]
    · show s.heap.IsTuple (ps.getD j 0) _
      rw [List.getD_eq_getElem?_getD, e3]
      exact e4
  · rcases List.mem_cons.mp hm with e | hm
    · subst e
      rw [ho] at goa
      obtain rfl := Option.some.inj goa
      rw [hdat] at gda
      cases gda
    · obtain ⟨j, hj, e⟩ := List.mem_map.mp hm
      have hj : j < prs.length := by have := List.mem_range.mp hj; rwa [List.length_map] at this
      obtain ⟨p, e3, ⟨o2, h1, h2, n2, h3⟩⟩ := hpr j _ (List.getElem?_eq_getElem hj)
      have e : ps.getD j 0 = a := e
      rw [List.getD_eq_getElem?_getD, e3] at e
      obtain rfl : p = a := e
      rw [h1] at goa
      obtain rfl := Option.some.inj goa
      rw [h3] at gda
      cases gda
  · rw [List.length_map]
  · intro i k v hi
    rw [show PairRel (prs.map fun x => (Value.ref x.2.1, x.2.2)) i k v = ((prs.map fun x => (Value.ref x.2.1, x.2.2))[i]? = some (k, v)) from rfl, List.getElem?_map] at hi
    obtain ⟨x, ex, e2⟩ := Option.map_eq_some_iff.mp hi
    cases e2
    exact ⟨x.1, x.2.1, ex, rfl⟩
  · intro h' hk x hx
    have k1 : (tupleKind (mixKind X.prog X.w)).is s.heap x.1 x.2.1 ∧ x.2.1 ≠ a := by
      rcases List.mem_append.mp hx with y | y
      · exact hkeys rel x y
      · exact hkeys rel2 x y
    obtain ⟨⟨o1, its1, n1, h1, h2, h3, h4⟩, ne⟩ := k1
    exact ⟨o1, its1, n1, hk _ _ ne List.not_mem_nil h1, h2, h3, h4⟩
  · rw [List.length_map, ← hkl0, ← hkl]; exact hz
  · intro h' tk hd' hk
    obtain ⟨o', es', ep', g1, g2, g3, g4, _, g6⟩ := hd'
    exact ⟨.non, _, I.write (t' := tk) (x := a) (e := a) (by rw [ea]; exact True.intro) (.inl rfl) (fun b q hb z => hk b q hb List.not_mem_nil z) ⟨o', g1⟩ (o := .dT (mergeT kvs ks)) ⟨Nat.le_trans (mergeT_le ks kvs) hz, hd, _, (kt_merge rel2 rel).keeps (fun c ys ec => (by rw [upd_ne (ne_of ec ea (fun z => nomatch z))]; exact ec)), o', es', ep', g1, g2, g3, g4, g6⟩, rfl, q⟩
end
/-! x or (0, 0) -/
section
variable {σ : L2.St} {H : Hp} {Q : VK} {ta tb : TE} {K : PySem.W.Frag}
def rOrT (K : PySem.W.Frag) (tb : TE) (σ : L2.St) (Q : VK) (x : V) (H1 : Hp) : Prop := ∃ k, TruV K x H1 k ∧ if k = true then Q x H1 else tb σ H1 Q
instance go_iOrT : Go (tOrT K ta tb σ H Q) (ta σ H (rOrT K tb σ Q)) := ⟨fun q => q⟩
theorem iOrN (q : tb σ H Q) : rOrT K tb σ Q .non H := ⟨false, rfl, by rw [if_neg (by decide)]; exact q⟩
theorem iOrU {p : Addr} {x : V} {xs : List V} (h : SqT K H p (x :: xs)) (q : Q (.ref p) H) : rOrT K tb σ Q (.ref p) H := ⟨true, .inr (.inl ⟨_, h, rfl⟩), by rw [if_pos rfl]; exact q⟩
end
end U

/-! own exceptions: what the text must say of them, and what an except suite asks of one -/
namespace U
open PySem PySem.Spec PyProof.Rows L2
/-! ### the text's word -/
def oexB (K : PySem.W.Frag) (C : Addr) : Bool := match K.lookup C with
  | some ⟨.type "type", _, .cls cd, sl⟩ => (match cd.mro, sl.toList with
    | .ref C' :: bm, [_, _, _, _, some (.builtin n), _] => decide (C' = C) && (decide (n = "ValueError.__new__") && (!cd.hasDel && (cd.hasDict && PySem.HandSPX.refsVE bm)))
    | _, _ => false)
  | _ => false
def oexAll (K : PySem.W.Frag) (C : Addr) : Bool := oexB K C && (He.eqO (PySem.W.findIn K (.ref C) "__setattr__") (some (some (.builtin "object.__setattr__"))) && (decide (PySem.W.subIn K (.ref C) (.type "BaseException") = some true) && (decide (PySem.W.typeIn K (.ref C) = some (.type "type")) && PySem.W.keepIn K (.ref C))))
theorem oex_ok {K : PySem.W.Frag} {C : Addr} (h : oexAll K C = true) : OexC K C := by
  unfold oexAll at h
  obtain ⟨q, h⟩ := He.ba h
  obtain ⟨h1, h⟩ := He.ba h
  obtain ⟨h2, h⟩ := He.ba h
  obtain ⟨h3, h4⟩ := He.ba h
  refine ⟨?_, He.eqO_ok h1, of_decide_eq_true h2, of_decide_eq_true h3, h4⟩
  unfold oexB at q
  split at q
  · next dd cd sl ho =>
    split at q
    · next C' bm k0 k1 k2 k3 n k5 hm hs =>
      obtain ⟨a1, q⟩ := He.ba q
      obtain ⟨a2, q⟩ := He.ba q
      obtain ⟨a3, q⟩ := He.ba q
      obtain ⟨a4, a5⟩ := He.ba q
      have a1 := of_decide_eq_true a1
      have a2 := of_decide_eq_true a2
      obtain ⟨nm, bs, mro, ns, qn, hd, sn, sub, ab, col, del⟩ := cd
      dsimp only at hm a3 a4
      have a3 : del = false := by simpa using a3
      subst hm a1 a2 a3 a4
      have e : sl = #[k0, k1, k2, k3, some (.builtin "ValueError.__new__"), k5] := by
        obtain ⟨l⟩ := sl
        simp only at hs
        rw [hs]
      subst e
      exact ⟨nm, qn, ns, bs, bm, sn, sub, ab, col, dd, k0, k1, k2, k3, k5, ho, a5⟩
    · cases q
  · cases q
def excCB (K : PySem.W.Frag) (D : Addr) : Bool :=
  He.eqO (PySem.W.findIn K (.ref D) "__getattribute__") (some (some (.builtin "BaseException.__getattribute__"))) && (He.eqO (PySem.W.findIn K (.ref D) "__getattr__") (some none) && (decide (PySem.W.subIn K (.ref D) (.type "BaseException") = some true) && (PySem.W.hasDictIn K D &&
    (He.eqO (PySem.W.findIn K (.ref D) "__class__") (some (some (.builtin "object.__class__"))) && (He.eqO (PySem.W.specialIn K (.builtin "object.__class__") "__get__") (some (some (.builtin "getset_descriptor.__get__"))) &&
      (decide (PySem.W.takesIn K (.builtin "object.__class__") = some true) && decide (PySem.W.mroIn K D (.type "object") = some true)))))))
theorem excC_ok {K : PySem.W.Frag} {D : Addr} (h : excCB K D = true) : ExcC K D := by
  unfold excCB at h
  obtain ⟨h1, h⟩ := He.ba h
  obtain ⟨h2, h⟩ := He.ba h
  obtain ⟨h3, h⟩ := He.ba h
  obtain ⟨h4, h⟩ := He.ba h
  obtain ⟨h5, h⟩ := He.ba h
  obtain ⟨h6, h⟩ := He.ba h
  obtain ⟨h7, h8⟩ := He.ba h
  exact ⟨He.eqO_ok h1, He.eqO_ok h2, of_decide_eq_true h3, h4, He.eqO_ok h5, He.eqO_ok h6, of_decide_eq_true h7, of_decide_eq_true h8⟩
/-- the base class at B: B.__init__ is ValueError's -/
structure BaseI (K : PySem.W.Frag) (B : Addr) : Prop where
  ga : PySem.W.specialIn K (.ref B) "__getattribute__" = some (some (.builtin "type.__getattribute__"))
  rd : PySem.W.readsIn K B (.type "type") = true
  at_ : PySem.W.findCls K (.ref B) (.type "type") "__init__" = some (.val (.builtin "ValueError.__init__"))
def baseIB (K : PySem.W.Frag) (B : Addr) : Bool := He.eqO (PySem.W.specialIn K (.ref B) "__getattribute__") (some (some (.builtin "type.__getattribute__"))) && (PySem.W.readsIn K B (.type "type") && (match PySem.W.findCls K (.ref B) (.type "type") "__init__" with
  | some (.val (.builtin n)) => decide (n = "ValueError.__init__")
  | _ => false))
theorem baseI_ok {K : PySem.W.Frag} {B : Addr} (h : baseIB K B = true) : BaseI K B := by
  unfold baseIB at h
  obtain ⟨h1, h⟩ := He.ba h
  obtain ⟨h2, h3⟩ := He.ba h
  refine ⟨He.eqO_ok h1, h2, ?_⟩
  split at h3
  · next n e => rw [e, of_decide_eq_true h3]
  · cases h3
/-- the written dict at d has these keys and no others -/
def keysB (K : PySem.W.Frag) (d : Addr) (ks : List Str) : Bool := match K.lookup d with
  | some ⟨_, _, .dict es _, _⟩ => es.toList.all fun e => !e.refKey && (match e.key with
    | .str k _ => ks.any fun z => decide (z = k)
    | _ => false)
  | _ => false
theorem keys_no {K : PySem.W.Frag} {d : Addr} {ks : List Str} {x : Str} (h : keysB K d ks = true) (n : x ∉ ks) : PySem.W.nsIn K d x = some none := by
  unfold keysB at h
  unfold PySem.W.nsIn
  cases ho : K.lookup d with
  | none => rw [ho] at h; cases h
  | some o =>
    obtain ⟨oc, od, dat, sl⟩ := o
    rw [ho] at h
    cases dat with
    | dict es ep =>
      have all : ∀ e ∈ es.toList, (!e.refKey && (match e.key with | .str k _ => ks.any fun z => decide (z = k) | _ => false)) = true := List.all_eq_true.mp h
      have f : es.toList.find? (·.key.isStr x) = none := List.find?_eq_none.mpr fun e he hk => by
        obtain ⟨_, h2⟩ := He.ba (all e he)
        cases ek : e.key with
        | str k t =>
          rw [ek] at h2 hk
          obtain ⟨z, hz, e2⟩ := List.any_eq_true.mp h2
          have e2 := of_decide_eq_true e2
          have hk : k = x := by simpa [Value.isStr] using hk
          exact n (by rw [← hk, ← e2]; exact hz)
        | _ => rw [ek] at h2; cases h2
      have g : es.toList.any (·.refKey) = false := by
        rw [List.any_eq_false]
        intro e he hk
        obtain ⟨h1, _⟩ := He.ba (all e he)
        rw [hk] at h1
        cases h1
      show (match es.toList.find? (·.key.isStr x) with | some e => some (some e.val) | none => if es.toList.any (·.refKey) then none else some none) = _
      rw [f]
      simp [g]
    | _ => cases h
section
variable {X : Cx} {e : Expr} {es : List Expr} {ta : TA} {te : TE} {p p1 p2 pos : Pos}
/-- B.__init__(self, ..), B an own class over ValueError without an __init__ of its own -/
theorem pe_binit {x : Str} {B : Addr} {pl : Sem Bool} (hg : Gl X x) (hm : X.mg x = some (.ref B)) (b : BaseI X.K B) (ha : PA X (e :: es) ta) (hdb : (x == ("__debug__" : Str)) = false := by decide)
    (hc : eval (.Call (.Attribute (.Name x p1) "__init__" p2) (e :: es) [] pos) X.env = (do
      let ov ← eval (.Name x p1) X.env
      standAt p2.atName
      let (f, first) ← holding [ov] (getMethod ov "__init__" pl)
      callWith pos f first (backTo pos (starEach (e :: es) X.env)) (backToKw pos (keywordEach [] X.env))) := by rfl)
    (he : starEach (e :: es) X.env = (false, eval e X.env) :: starEach es X.env := by rfl) (hpl : (backTo pos (starEach es X.env)).any (·.1) = false := by rfl) :
    PE X (.Call (.Attribute (.Name x p1) "__init__" p2) (e :: es) [] pos) (tVeI X.K ta) := by
  refine ⟨fun pins s σ H Q I h => PySem.W.methodCall_KW (ld_glob I hg hm (PySem.W.method_cls I.kIn b.ga (PySem.W.cls_value I.kIn b.rd b.at_ (by decide +kernel) (PyProof.Rows.callWith_method1 (thn (ha.run pos pins _ σ H _ (I.tok _) h) ?_) he hpl))) hdb) hc⟩
  rintro _ s1 ⟨_, H1, I1, r1, a, C, ws, rfl, few, T, at_a, q⟩
  obtain _ | ⟨ra, rw'⟩ := r1
  cases ra
  exact oinit_ok T I1 at_a (by have := Paired.length rw'; rw [sizeLine_eq]; omega) fun _ J => ⟨.non, _, J, rfl, q⟩
end
/-! ### list.count(True) -/
def eqT (v : Value) : Bool := match v with
  | .bool b => b
  | _ => false
def rCntB (K : PySem.W.Frag) : V → List V → Hp → VK → Prop := fun x xs H Q => ∃ (p : Addr) (bs : List Bool), x = .ref p ∧ xs = [.bl true] ∧ SqL K H p (bs.map V.bl) ∧ Q (.int (bs.count true : Nat)) H
theorem bools_back : ∀ {bs : List Bool} {us : List Value}, Vals (bs.map V.bl) us → us = bs.map Value.bool
  | [], _, .nil => rfl
  | b :: bs, _, .cons r t => by
    cases r
    rw [bools_back t]; rfl
theorem count_T : ∀ bs : List Bool, (bs.map Value.bool).countP eqT = bs.count true
  | [] => rfl
  | b :: bs => by
    rw [List.map_cons, List.countP_cons, List.count_cons, count_T bs]
    cases b <;> rfl
theorem mt_countB {X : Cx} : MtR X "list.count" (rCntB X.K) := by
  intro pins s σ H x xs v us Q I rx rxs h
  obtain ⟨p, bs, rfl, rfl, hs, q⟩ := h
  cases rx
  obtain ⟨u, rfl, ru⟩ := vals1 rxs
  cases ru
  obtain ⟨its, rv, ⟨⟨cls, dd, data, sl⟩, n, ho, hc, hdn, hd⟩, hlen⟩ := I.list hs
  simp only at hc hd
  subst hc hd
  obtain rfl := bools_back rv
  refine call_meets PySem.F.slot_list_count ⟨_, ho, rfl⟩ PySem.F.entry_list_count (PySem.F.args_list_count_2 _ _)
    (SeqAt.list_countAt p (bs.map Value.bool).toArray n dd sl (.bool true) eqT) ⟨ho, fun y hy => ?_, ?_⟩
  · obtain ⟨b, _, rfl⟩ := List.mem_map.mp (show y ∈ bs.map Value.bool by simpa using hy)
    have := SeqAt.EqAt.bool_bool (A := X.A.in1) (s := s) b true
    cases b <;> exact this
  · refine ⟨.int (bs.count true : Nat), H, I.tok _, ⟨s.toks, ?_⟩, q⟩
    show Value.int (((bs.map Value.bool).toArray.toList.countP eqT : Nat) : Int) s.toks = _
    rw [show (bs.map Value.bool).toArray.toList = bs.map Value.bool from rfl, count_T]
/-! ### the exception in hand: a (cls, its dict d) -/
/-- its dict, if any, is known -/
def DicK (H : Hp) (d : Option Addr) : Prop := ∀ dd, d = some dd → ∃ fs, H dd = some (.xd fs)
def rIsX (K : PySem.W.Frag) (cls : Value) (d : Option Addr) (a : Addr) : List V → Hp → VK → Prop := fun xs H Q => ∃ (D : Addr) (c : V) (cv : Value) (b : Bool), cls = .ref D ∧ ExcC K D ∧ DicK H d ∧ xs = [.ref a, c] ∧ (∀ u, RelV c u → u = cv) ∧ PySem.W.kitOne K (.ref D) cv = some b ∧ Q (.bl b) H
section
variable {X : Cx} {a : Addr} {oe : Obj} {cls : Value} {d : Option Addr} {pn : List (Addr × Obj)}
theorem inst_x {D : Addr} {pins : List (Addr × Obj)} {σ : L2.St} {H : Hp} {s : Shared} (hz : Zc (.ref D) d oe) (hf : ∃ vs, oe.data = .fields vs) (I : Inv (X.suite a ((a, oe) :: pn)) pins σ H s) (hd : DicK H d) : ∃ od, PySem.W.InstAt s.heap a oe D od := by
  obtain ⟨hget, _⟩ := I.pin (a, oe) (List.mem_append.mpr (.inl List.mem_cons_self))
  obtain ⟨vs, hv⟩ := hf
  obtain ⟨oc, od, oda, osl⟩ := oe
  obtain ⟨h1, h2⟩ := hz
  dsimp only at h1 h2 hv
  subst h1 h2 hv
  cases od with
  | none => exact ⟨none, hget, rfl, rfl, trivial⟩
  | some dd =>
    obtain ⟨fs, e⟩ := hd dd rfl
    obtain ⟨mA, hns, _⟩ : ∃ mA, s.heap.Ns1 dd mA ∧ ∀ f, RelO (fs.lookup f) (mA f) := I.hok dd _ e
    obtain ⟨o, _, _, ho, _⟩ := hns
    exact ⟨some o, hget, rfl, rfl, ho⟩
theorem call_isX (hz : Zc cls d oe) (hf : ∃ vs, oe.data = .fields vs) : CallR (X.suite a ((a, oe) :: pn)) (.builtin "isinstance") (rIsX X.K cls d a) := by
  intro pins s σ H xs us Q I r h
  obtain ⟨D, c, cv, b, rfl, C, hd, rfl, hcv, e, q⟩ := h
  obtain ⟨od, J⟩ := inst_x hz hf I hd
  cases r with
  | cons rx rr =>
    cases rr with
    | cons rt rr =>
      cases rr
      cases rx
      have ec := hcv _ rt
      subst ec
      have hcl : (PySem.W.clsIn X.K D).isSome = true := by
        have := C.hd
        unfold PySem.W.hasDictIn at this
        cases z : PySem.W.clsIn X.K D with
        | none => rw [z] at this; cases this
        | some _ => rfl
      exact PySem.W.kia_one (PySem.W.kitx_exc hcl C.hg C.hk C.hs C.ha C.hn C.ht C.hm) I.kIn J e (fun z => nomatch z) fun tk => ⟨.bl b, H, I.kept (t' := tk) fun _ _ z => z, rfl, q⟩
/-- e.f, e the exception in hand -/
def tFldX (K : PySem.W.Frag) (cls : Value) (d : Option Addr) (a : Addr) (f : Str) (te : TE) : TE := fun σ H Q => te σ H fun x H1 => x = .ref a ∧ ∃ (D dd : Addr) (fs : List (Str × V)) (v : V), cls = .ref D ∧ ExcC K D ∧ PySem.W.findIn K (.ref D) f = some none ∧ d = some dd ∧ H1 dd = some (.xd fs) ∧ fs.lookup f = some v ∧ Q v H1
theorem pe_fldX {e : Expr} {f : Str} {te : TE} {pos : Pos} (hz : Zc cls d oe) (hf : ∃ vs, oe.data = .fields vs) (he : PE (X.suite a ((a, oe) :: pn)) e te)
    (hb : attributeBase e f X.env (eval e X.env) = eval e X.env := by rfl) : PE (X.suite a ((a, oe) :: pn)) (.Attribute e f pos) (tFldX X.K cls d a f te) := by
  refine ⟨fun pins s σ H Q I h => ?_⟩
  refine attr_of hb (thn (he.run pins s σ H _ I h) fun u s1 hh => ?_)
  obtain ⟨x, H1, I1, rx, ex, D, dd, fs, v, ec, C, no, ed, ea, l, q⟩ := hh
  subst ex ec ed
  obtain rfl : u = Value.ref a := rx
  obtain ⟨ha, _⟩ := I1.pin (a, oe) (List.mem_append_left _ List.mem_cons_self)
  obtain ⟨vs, hd⟩ := hf
  obtain ⟨mA, hns, hr⟩ : ∃ mA, s1.heap.Ns1 dd mA ∧ ∀ f, RelO (fs.lookup f) (mA f) := I1.hok dd _ ea
  obtain ⟨od, ho, hl⟩ := lookIn_ns hns
  obtain ⟨u, hu, ru⟩ := RelO.some_of (v := v) (o := mA f) (by rw [← l]; exact hr f)
  have J : PySem.W.InstAt s1.heap a oe D (some od) := ⟨ha, hz.1, by unfold PySem.W.notCls; rw [hd] <;> rfl, by rw [hz.2]; exact ho⟩
  exact HandSPX.exc_get I1.kIn J C.hg C.hk C.hs (PySem.W.findObj_own C.hd no rfl (by rw [hl, hu])) (handed_of ru) ⟨v, H1, I1.tok _, ru, q⟩
end
end U

/-! defs that raise; a def that gets a lambda; the law's own lambdas -/
namespace U
open PySem PySem.Spec PyProof.Rows L2
open C8 (Cal Met Mak)
/-- a def that may raise -/
structure CalX (P : Program) (w : World) (K : PySem.W.Frag) (mg : Str → Option Value) (base : Heap) (k : Nat) (x : Str) (sp : Sp) : Prop where
  ex : ∃ (f : Addr) (fd : FuncData) (ps : List Str), FnOk P w K mg base (L2.CX P w) k f fd ps sp ∧ mg x = some (.ref f) ∧ PySem.W.keepIn K (.ref f) = true ∧ Binds K fd ps []
/-- an own exception's __init__ -/
structure IniX (P : Program) (w : World) (K : PySem.W.Frag) (mg : Str → Option Value) (base : Heap) (k : Nat) (C : Addr) (sp : Sp) : Prop where
  ex : ∃ (f : Addr) (fd : FuncData) (ps : List Str), FnOk P w K mg base CX0 k f fd ps sp ∧ PySem.W.findIn K (.ref C) "__init__" = some (some (.ref f)) ∧ PySem.W.typeIn K (.ref f) = some (.type "function") ∧ Binds K fd ps []
section
variable {P : Program} {w : World} {K : PySem.W.Frag} {mg : Str → Option Value} {base : Heap}
theorem calx_mk {x : Str} {params : Arguments} {body : List Stmt} {scope : Scope} {N ps : List Str} {k : Nat} {sp : Sp} (hF : ∃ fd, FunD K x x params body scope [] [] (He.fAd K (x, none)) fd) (hm : mg x = some (.ref (He.ga K x)))
    (S : FnScope N ps scope) (hb : ∀ (kV doc pm : Value) (an : Option Addr) (cdv ct : Value) (us : List Value), us.length = ps.length → bindArgs (PySem.W.fnOf x x params body scope .none kV doc pm an cdv ct) ⟨us, []⟩ = pure (ps.zip us))
    (len : ∀ vs H Q E, sp vs H Q E → vs.length = ps.length)
    (hbody : ∀ (cdv : Value) (A : Around) (outer : List Env) (s : Shared) (H : Hp) (vs : List V) (Q : VK) (E : XK), Room k (A.deeper (envOfC x scope s.heap.objs.size (He.fAd K (x, none)) cdv)) → sp vs H Q E →
      ∃ t, PSs (cxOf (L2.CX P w) P w K mg base N x scope (He.fAd K (x, none)) cdv A outer s H E) body t ∧ t { nx := fun _ H' => Q .non H', rt := Q } (start N vs) H) : CalX P w K mg base (k + 1) x sp := by
  obtain ⟨fd, F⟩ := hF
  exact ⟨He.ga K x, fd, ps, FunD.ok F S len hbody, hm, F.kp, F.bindsN hb⟩
theorem inix_mk {C : Str} {qual : Str} {params : Arguments} {body : List Stmt} {scope : Scope} {N ps : List Str} {k : Nat} {sp : Sp} (hF : ∃ fd, FunD K "__init__" qual params body scope [] [] (He.fAd K (C, some "__init__")) fd)
    (iC : PySem.W.findIn K (.ref (He.ga K C)) "__init__" = some (some (.ref (He.ma K (He.ga K C) "__init__")))) (tI : PySem.W.typeIn K (.ref (He.ma K (He.ga K C) "__init__")) = some (.type "function"))
    (S : FnScope N ps scope) (hb : ∀ (kV doc pm : Value) (an : Option Addr) (cdv ct : Value) (us : List Value), us.length = ps.length → bindArgs (PySem.W.fnOf "__init__" qual params body scope .none kV doc pm an cdv ct) ⟨us, []⟩ = pure (ps.zip us))
    (len : ∀ vs H Q E, sp vs H Q E → vs.length = ps.length)
    (hbody : ∀ (cdv : Value) (A : Around) (outer : List Env) (s : Shared) (H : Hp) (vs : List V) (Q : VK) (E : XK), Room k (A.deeper (envOfC qual scope s.heap.objs.size (He.fAd K (C, some "__init__")) cdv)) → sp vs H Q E →
      ∃ t, PSs (cxOf CX0 P w K mg base N qual scope (He.fAd K (C, some "__init__")) cdv A outer s H E).nox body t ∧ t { nx := fun _ H' => Q .non H', rt := Q } (start N vs) H) : IniX P w K mg base (k + 1) (He.ga K C) sp := by
  obtain ⟨fd, F⟩ := hF
  refine ⟨He.ma K (He.ga K C) "__init__", fd, ps, FunD.ok F S len fun cdv A outer s H vs Q E hr h => ?_, iC, tI, F.bindsN hb⟩
  obtain ⟨t, p, q⟩ := hbody cdv A outer s H vs Q E hr h
  exact ⟨t, p.nox, q⟩
/-- the law makes a lambda: its code object is known -/
theorem lawT {x : Str} {params : Arguments} {body : List Stmt} {scope : Scope} {N ps : List Str} {k : Nat} {sp : Sp} {fd : FuncData} (F : FunD K x x params body scope [] [] (He.fAd K (x, none)) fd)
    (S : FnScope N ps scope) (len : ∀ vs H Q E, sp vs H Q E → vs.length = ps.length)
    (hbody : ∀ (cdv : Value), cdv = .ref (He.codeOf K (x, none)) → ∀ (A : Around) (outer : List Env) (s : Shared) (H : Hp) (vs : List V) (Q : VK) (E : XK), Room k (A.deeper (envOfC x scope s.heap.objs.size (He.fAd K (x, none)) cdv)) → sp vs H Q E →
      ∃ t, PSs (cxOf CX0 P w K mg base N x scope (He.fAd K (x, none)) cdv A outer s H E).nox body t ∧ t { nx := fun _ H' => Q .non H', rt := Q } (start N vs) H) : FnOk P w K mg base CX0 (k + 1) (He.fAd K (x, none)) fd ps sp := by
  obtain ⟨oc, od, dV, kV, doc, pm, an, cdv, ct, osl, rfl, lk, hcd, _, _⟩ := F.ex
  obtain ⟨c, ec⟩ := He.codeIn_ref hcd
  have e : cdv = .ref (He.codeOf K (x, none)) := by rw [He.codeOf_eq lk ec]; exact ec
  exact fn_of lk hcd S len fun A outer s H vs Q E hr h => let ⟨t, p, q⟩ := hbody cdv e A outer s H vs Q E hr h; ⟨t, p.nox, q⟩
end
section
variable {X : Cx} {k j : Nat} {x : Str} {sp : Sp} {W : WX} {e : Expr} {es : List Expr} {t : TA} {p pos : Pos}
/-- x(e, ..), x may raise, what it raises is taken -/
theorem pe_cX (c : CalX X.prog X.w X.K X.mg X.base k x sp) (hr : Room j X.A) (hk : k ≤ j) (tk : Takes X W) (hg : Gl X x) (ha : PA X (e :: es) t) (hdb : (x == ("__debug__" : Str)) = false := by decide)
    (he : starEach (e :: es) X.env = (false, eval e X.env) :: starEach es X.env := by rfl) (hpl : (backTo pos (starEach es X.env)).any (·.1) = false := by rfl) : PE X (.Call (.Name x p) (e :: es) [] pos) (tCallS sp (L2.WE W) t) := by
  obtain ⟨f, fd, ps, F, hm, hkp, hb⟩ := c.ex
  exact pe_callS F (hr.mono hk) hg hm hkp hb (fun σ => passAt tk σ) ha hdb he hpl
/-- raise C(e, ..), C an own exception with an __init__ -/
theorem ps_raiseX {C : Addr} {pos2 : Pos} (hc : X.calm = true) (T : OexC X.K C) (F : IniX X.prog X.w X.K X.mg X.base k C sp) (hr : Room j X.A) (hk : k + 1 ≤ j) (tk : Takes X W) (hg : Gl X x) (hm : X.mg x = some (.ref C)) (ha : PA X (e :: es) t) (hdb : (x == ("__debug__" : Str)) = false := by decide)
    (he : starEach (e :: es) X.env = (false, eval e X.env) :: starEach es X.env := by rfl) (hpl : (backTo pos (starEach es X.env)).any (·.1) = false := by rfl) :
    PS X (.Raise (some (.Call (.Name x p) (e :: es) [] pos)) none pos2) (fun _ σ H => tMkO C sp [] t σ H fun cls d H' => W cls d σ H') := by
  obtain ⟨f, fd, ps, F1, iC, tI, hb⟩ := F.ex
  exact ps_raise hc tk (pmk_oex T iC tI F1 (hr.mono hk) hb .nil (fun _ _ _ _ _ _ _ h => h.elim) hg hm ha hdb he hpl)
end
/-- x(lambda: body), x by its data -/
theorem pe_lamD {X : Cx} {T : List (Addr × Str)} {TT : (XK → Hp → VK → Prop) → Hp → VK → Prop} {x a : Str} {c P : Addr} {k : Nat} {pg : Arguments} {bg : List Stmt} {sg : Scope} {Ng : List Str}
    {params : Arguments} {body : Expr} {scope : Scope} {t : XK → TE} {p lpos pos : Pos} (hF : ∃ fd, FunD X.K x x pg bg sg [] [] (He.fAd X.K (x, none)) fd) (hg : Gl X x) (hm : X.mg x = some (.ref (He.ga X.K x)))
    (hb : ∀ (kV doc pm : Value) (an : Option Addr) (cdv ct : Value) (us : List Value), us.length = [a].length → bindArgs (PySem.W.fnOf x x pg bg sg .none kV doc pm an cdv ct) ⟨us, []⟩ = pure ([a].zip us)) (Sg : FnScope Ng [a] sg) (hNg : Ng[0]? = some a) (hva : Vis sg a)
    (hG : ∀ cdv, LamX.GivesTo X Ng x sg (He.fAd X.K (x, none)) cdv bg a (X.env.qual ++ "<lambda>") TT)
    (TB : LamX.TabB X.base X.mg c P) (hcode : X.env.code = .ref c) (hmT : (P, X.env.qual ++ "<lambda>") ∈ T) (hu : ∀ p ∈ T, p.1 = P → p.2 = X.env.qual ++ "<lambda>") (hr : Room (k + 2) X.A) (L : LamX.LamS X.env.scope scope) (hdef : defaultsOf params X.env = ([], []))
    (hbind : ∀ (q : Str) (cl : List (Str × Addr)) (pm cv ctv : Value), bindArgs (PySem.W.kla_fn "<lambda>" q params body scope cl pm cv ctv) ⟨[], []⟩ = pure [])
    (hbody : ∀ (A : Around) (outer : List Env) (s : Shared) (H : Hp) (E : XK) (f c' : Addr), Room k (A.deeper (LamX.lamEnv X scope s.heap.objs.size f c')) → PE (LamX.lamCx X A outer s H E scope f c') body (t E))
    (hdb : (x == ("__debug__" : Str)) = false := by decide) (hd : (a == ("__debug__" : Str)) = false := by decide) (hcd : (a == ("__classdict__" : Str)) = false := by decide) :
    PE X (.Call (.Name x p) [.Lambda params body scope lpos] [] pos) (LamX.tLam T TT t) := by
  obtain ⟨fd, F⟩ := hF
  have bnd : Binds X.K fd [a] [] := F.bindsN hb
  obtain ⟨oc, od, dV, kV, doc, pm, an, cdv, ct, osl, rfl, lk, hcg, _, _⟩ := F.ex
  exact LamX.pe_lamcall hg hm F.kp lk hcg bnd Sg hNg hva (hG cdv) TB hcode hmT hu hr L hdef hbind hbody hdb hd hcd
end U

/-! zip of a list and a text -/
namespace U
open PySem PySem.Spec PyProof.Rows L2
theorem srcL (K : PySem.W.Frag) (a : Addr) : Src K a (fun H => SqL K H a) (fun i1 i h => h.IsListIter i1 a i) where
  there := fun ⟨o, e, _, d⟩ => ⟨o, e, fun v z => by rw [d] at z; cases z⟩
  stays h k := h.at k
  inj := fun e I h h' => by subst e; exact I.list_inj h h'
  data := fun e I h => by
    subst e
    obtain ⟨its, rv, p, _⟩ := I.list h
    exact ⟨its, fun h => h.IsList a its.toArray, rv, p.isList, p.lt, ⟨_, begins_list a _, fun _ _ e => ⟨_, e, rfl, rfl⟩⟩, fun i1 n hh => Draws.list hh i1 a n _⟩
def iZipLS (K : PySem.W.Frag) (ta : TA) : TI := fun σ H R => ta σ H fun vs H1 => ∃ a y xs, vs = [.ref a, .str y] ∧ SqL K H1 a xs ∧ R (ItzS (fun H => SqL K H a) y) H1
theorem pi_zipLS {X : Cx} {e e2 : Expr} {ta : TA} {p pos tpos : Pos} {elts : List Expr} {kk : Nat} (hg : Gl X "zip") (hm : X.mg "zip" = none) (ha : PA X [e, e2] ta) (two : starEach [e, e2] X.env = (false, eval e X.env) :: starEach [e2] X.env := by rfl) (plain : (backTo pos (starEach [e2] X.env)).any (·.1) = false := by rfl) :
    PI X (.Tuple elts kk tpos) (.Call (.Name "zip" p) [e, e2] [] pos) (iZipLS X.K ta) := pi_zipS (srcL X.K) hg hm ha two plain
def WZL (K : PySem.W.Frag) (R : It → Hp → Prop) (vs : List V) (H1 : Hp) : Prop := ∃ a y xs, vs = [.ref a, .str y] ∧ SqL K H1 a xs ∧ R (ItzS (fun H => SqL K H a) y) H1
theorem iWZL {K : PySem.W.Frag} {R : It → Hp → Prop} {ta : TA} {σ : L2.St} {H : Hp} (h : ta σ H (WZL K R)) : iZipLS K ta σ H R := h
theorem walk_zipLS {K : PySem.W.Frag} {a : Addr} {xs : List V} {y : Str} {n : Nat} (hn : n = min xs.length y.cps.size) : Walk (ItzS (fun H => SqL K H a) y) n (fun H => SqL K H a xs) (fun i H v H' => ∃ T x c, v = .ref T ∧ H T = none ∧ H' = upd H T (.tup [x, .str ⟨#[c]⟩]) ∧ xs[i]? = some x ∧ y.cps[i]? = some c) := walk_zipS (Sq := fun H => SqL K H a) hn
end U
/-! the head's hook, the interpreter's own statics told too (readsIn looks there) -/
namespace HeY
open PySem He
abbrev asY (g : Addr → Option Obj) (n : Nat) : List Addr := asD g n ++ [cStatics]
def obsY (n : Nat) (fa : List Fa) (fn : List DefD) (ts : List Tab) (tf : List Defn) (ex : PySem.W.Frag → Bool) (g : Addr → Option Obj) : AlX := (obsT fa fn ts (frT g (asY g n)), ex (frT g (asY g n)) && tabsB g tf (frT g (asY g n)))
theorem saysY_of {as : List Addr} {fa : List Fa} {fn : List DefD} {ts : List Tab} {tf : List Defn} {ex : PySem.W.Frag → Bool} {w : World} {h : Heap}
    (e : ((obsT fa fn ts (frT h.get? as), ex (frT h.get? as) && tabsB h.get? tf (frT h.get? as)) : AlX) = valX fn ts w) : SaysX fa fn ts tf ex w h (frT h.get? as) := by
  have hb := He.ba (show (ex (frT h.get? as) && tabsB h.get? tf (frT h.get? as)) = true from congrArg Prod.snd e)
  have one : ∀ p, p ∈ tf → PySem.W.codeHdIn (frT h.get? as) (cT (frT h.get? as) p).1 (cT (frT h.get? as) p).2 = true ∧ ∃ o, h.get? (cT (frT h.get? as) p).2 = some o ∧ emptyTab o = true := fun p m => by
    have z := He.ba (List.all_eq_true.mp hb.2 p m)
    refine ⟨z.1, ?_⟩
    have z2 := z.2
    cases hq : h.get? (cT (frT h.get? as) p).2 with
    | some o => rw [hq] at z2; exact ⟨o, rfl, z2⟩
    | none => rw [hq] at z2; exact nomatch z2
  exact { t := congrArg Prod.fst e, more := hb.1, hd := fun p m => (one p m).1, out := fun p m => (one p m).2.elim fun _ y => frT_none y.1 y.2, empty := fun p m => (one p m).2.elim fun _ y => y.1.trans (congrArg some (emptyTab_eq y.2)) }
/-- the kit's hook, looking at asY -/
def hookY (n : Nat) (fa : List Fa) (fn : List DefD) (ts : List Tab) (tf : List Defn) (ex : PySem.W.Frag → Bool) : PySem.W.Hook :=
  { He.hookX n fa fn ts tf ex with
    obs := fun s => obsY n fa fn ts tf ex s.heap.get?
    of := fun _ s e => ⟨_, frT_in, saysY_of e⟩ }
theorem obsY_eq {n : Nat} {fa : List Fa} {fn : List DefD} {ts : List Tab} {tf : List Defn} {ex : PySem.W.Frag → Bool} {g : Addr → Option Obj} {s : Shared} (h : ∀ a, g a = s.heap.get? a) : obsY n fa fn ts tf ex g = (hookY n fa fn ts tf ex).obs s :=
  congrArg (obsY n fa fn ts tf ex) (funext h)
end HeY

namespace U
open PySem PySem.Spec PyProof.Rows L2
open C8 (Cal Met Mak pe_c pe_mk pe_mt pe_mt0)
/-! the text by places -/
def topS (i : Nat) : Stmt := PySem.Challenge.pw_surfacehall_k18_texts_refused.main.body.getD i (.Pass ⟨0, 0, 0, 0⟩)
abbrev s_BadTextDU_initDU : Stmt := inClass (topS 8) 0
abbrev s_is_number : Stmt := topS 17
abbrev s_is_letter : Stmt := topS 18
abbrev s_need_letter : Stmt := topS 19
abbrev s_written : Stmt := topS 23
abbrev s_number_of : Stmt := topS 24
abbrev s_letter_of : Stmt := topS 25
abbrev s_read : Stmt := topS 26
abbrev s_law_mix : Stmt := topS 28
abbrev s_law_next : Stmt := topS 29
abbrev s_law_alike : Stmt := topS 30
abbrev s_law_letter : Stmt := topS 31
abbrev s_law_odd : Stmt := topS 32
abbrev s_law_sized : Stmt := topS 33
abbrev s_law_pending : Stmt := topS 34
abbrev s_law_under : Stmt := topS 35
abbrev s_law_is_tied : Stmt := topS 36
abbrev s_law_does : Stmt := topS 37
abbrev s_law_book : Stmt := topS 38
abbrev s_law_kind : Stmt := topS 39
abbrev s_law_figures : Stmt := topS 40
abbrev s_law_line : Stmt := topS 41
abbrev s_law_due : Stmt := topS 42
abbrev s_law_spoilt : Stmt := topS 43
abbrev s_law : Stmt := topS 44
abbrev N_BadTextDU_initDU : List Str := ["self", "line"]
theorem st_BadTextDU_initDU (a0 a1 : V) : L2.start N_BadTextDU_initDU [a0, a1] = [some a0, some a1] := rfl
theorem sc_BadTextDU_initDU : FnScope N_BadTextDU_initDU ["self", "line"] (defScope s_BadTextDU_initDU) := ⟨rfl, rfl, rfl, by decide +kernel, rfl, by decide +kernel, by decide +kernel⟩
abbrev N_is_number : List Str := ["part", "low", "high"]
theorem st_is_number (a0 a1 a2 : V) : L2.start N_is_number [a0, a1, a2] = [some a0, some a1, some a2] := rfl
theorem sc_is_number : FnScope N_is_number ["part", "low", "high"] (defScope s_is_number) := ⟨rfl, rfl, rfl, by decide +kernel, rfl, by decide +kernel, by decide +kernel⟩
abbrev N_is_letter : List Str := ["letter", "form", "part", "sort"]
theorem st_is_letter (a0 : V) : L2.start N_is_letter [a0] = [some a0, none, none, none] := rfl
theorem sc_is_letter : FnScope N_is_letter ["letter"] (defScope s_is_letter) := ⟨rfl, rfl, rfl, by decide +kernel, rfl, by decide +kernel, by decide +kernel⟩
abbrev N_need_letter : List Str := ["letter"]
theorem st_need_letter (a0 : V) : L2.start N_need_letter [a0] = [some a0] := rfl
theorem sc_need_letter : FnScope N_need_letter ["letter"] (defScope s_need_letter) := ⟨rfl, rfl, rfl, by decide +kernel, rfl, by decide +kernel, by decide +kernel⟩
abbrev N_written : List Str := ["books", "lines", "number", "book", "letter", "part"]
theorem st_written (a0 : V) : L2.start N_written [a0] = [some a0, none, none, none, none, none] := rfl
theorem sc_written : FnScope N_written ["books"] (defScope s_written) := ⟨rfl, rfl, rfl, by decide +kernel, rfl, by decide +kernel, by decide +kernel⟩
abbrev N_number_of : List Str := ["word", "figures", "sign"]
theorem st_number_of (a0 : V) : L2.start N_number_of [a0] = [some a0, none, none] := rfl
theorem sc_number_of : FnScope N_number_of ["word"] (defScope s_number_of) := ⟨rfl, rfl, rfl, by decide +kernel, rfl, by decide +kernel, by decide +kernel⟩
abbrev N_letter_of : List Str := ["words", "letter", "word"]
theorem st_letter_of (a0 : V) : L2.start N_letter_of [a0] = [some a0, none, none] := rfl
theorem sc_letter_of : FnScope N_letter_of ["words"] (defScope s_letter_of) := ⟨rfl, rfl, rfl, by decide +kernel, rfl, by decide +kernel, by decide +kernel⟩
abbrev N_read : List Str := ["text", "books", "line", "row", "words", "number", "letter", "k"]
theorem st_read (a0 : V) : L2.start N_read [a0] = [some a0, none, none, none, none, none, none, none] := rfl
theorem sc_read : FnScope N_read ["text"] (defScope s_read) := ⟨rfl, rfl, rfl, by decide +kernel, rfl, by decide +kernel, by decide +kernel⟩
abbrev N_law_mix : List Str := ["_law_script", "_law_seed", "_law_mixed", "_law_cell"]
theorem st_law_mix (a0 a1 : V) : L2.start N_law_mix [a0, a1] = [some a0, some a1, none, none] := rfl
theorem sc_law_mix : FnScope N_law_mix ["_law_script", "_law_seed"] (defScope s_law_mix) := ⟨rfl, rfl, rfl, by decide +kernel, rfl, by decide +kernel, by decide +kernel⟩
abbrev N_law_next : List Str := ["_law_h", "_law_many", "_law_at", "_law_cell"]
theorem st_law_next (a0 a1 : V) : L2.start N_law_next [a0, a1] = [some a0, some a1, none, none] := rfl
theorem sc_law_next : FnScope N_law_next ["_law_h", "_law_many"] (defScope s_law_next) := ⟨rfl, rfl, rfl, by decide +kernel, rfl, by decide +kernel, by decide +kernel⟩
abbrev N_law_alike : List Str := ["_law_found", "_law_due_here", "_law_k"]
theorem st_law_alike (a0 a1 : V) : L2.start N_law_alike [a0, a1] = [some a0, some a1, none] := rfl
theorem sc_law_alike : FnScope N_law_alike ["_law_found", "_law_due_here"] (defScope s_law_alike) := ⟨rfl, rfl, rfl, by decide +kernel, rfl, by decide +kernel, by decide +kernel⟩
abbrev N_law_letter : List Str := ["_law_h", "_law_w", "_law_some", "_law_name", "_law_other", "_law_turn", "_law_fresh", "_law_one", "_law_marks", "_law_wide", "_law_high", "_law_x", "_law_y", "_law_far", "_law_words", "_law_word"]
theorem st_law_letter (a0 a1 : V) : L2.start N_law_letter [a0, a1] = [some a0, some a1, none, none, none, none, none, none, none, none, none, none, none, none, none, none] := rfl
theorem sc_law_letter : FnScope N_law_letter ["_law_h", "_law_w"] (defScope s_law_letter) := ⟨rfl, rfl, rfl, by decide +kernel, rfl, by decide +kernel, by decide +kernel⟩
abbrev N_law_odd : List Str := ["_law_h", "_law_w", "_law_name", "_law_some"]
theorem st_law_odd (a0 a1 : V) : L2.start N_law_odd [a0, a1] = [some a0, some a1, none, none] := rfl
theorem sc_law_odd : FnScope N_law_odd ["_law_h", "_law_w"] (defScope s_law_odd) := ⟨rfl, rfl, rfl, by decide +kernel, rfl, by decide +kernel, by decide +kernel⟩
abbrev N_law_sized : List Str := ["_law_marks", "_law_wide", "_law_high", "_law_found", "_law_y", "_law_row"]
theorem st_law_sized (a0 a1 a2 : V) : L2.start N_law_sized [a0, a1, a2] = [some a0, some a1, some a2, none, none, none] := rfl
theorem sc_law_sized : FnScope N_law_sized ["_law_marks", "_law_wide", "_law_high"] (defScope s_law_sized) := ⟨rfl, rfl, rfl, by decide +kernel, rfl, by decide +kernel, by decide +kernel⟩
abbrev N_law_pending : List Str := ["_law_look", "_law_letter_here", "_law_x", "_law_y", "_law_rank", "_law_veiled", "_law_marks", "_law_word", "_law_left", "_law_top", "_law_wide", "_law_high", "_law_mark", "_law_rows", "_law_k"]
theorem st_law_pending (a0 a1 : V) : L2.start N_law_pending [a0, a1] = [some a0, some a1, none, none, none, none, none, none, none, none, none, none, none, none, none] := rfl
theorem sc_law_pending : FnScope N_law_pending ["_law_look", "_law_letter_here"] (defScope s_law_pending) := ⟨rfl, rfl, rfl, by decide +kernel, rfl, by decide +kernel, by decide +kernel⟩
abbrev N_law_under : List Str := ["_law_w", "_law_name", "_law_found", "_law_part"]
theorem st_law_under (a0 a1 : V) : L2.start N_law_under [a0, a1] = [some a0, some a1, none, none] := rfl
theorem sc_law_under : FnScope N_law_under ["_law_w", "_law_name"] (defScope s_law_under) := ⟨rfl, rfl, rfl, by decide +kernel, rfl, by decide +kernel, by decide +kernel⟩
abbrev N_law_is_tied : List Str := ["_law_w", "_law_name", "_law_other", "_law_above"]
theorem st_law_is_tied (a0 a1 a2 : V) : L2.start N_law_is_tied [a0, a1, a2] = [some a0, some a1, some a2, none] := rfl
theorem sc_law_is_tied : FnScope N_law_is_tied ["_law_w", "_law_name", "_law_other"] (defScope s_law_is_tied) := ⟨rfl, rfl, rfl, by decide +kernel, rfl, by decide +kernel, by decide +kernel⟩
abbrev N_law_does : List Str := ["_law_w", "_law_letter_here", "_law_word", "_law_name", "_law_gone", "_law_one", "_law_found", "_law_look"]
theorem st_law_does (a0 a1 : V) : L2.start N_law_does [a0, a1] = [some a0, some a1, none, none, none, none, none, none] := rfl
theorem sc_law_does : FnScope N_law_does ["_law_w", "_law_letter_here"] (defScope s_law_does) := ⟨rfl, rfl, rfl, by decide +kernel, rfl, by decide +kernel, by decide +kernel⟩
abbrev N_law_book : List Str := ["_law_h", "_law_many", "_law_w", "_law_found", "_law_odd_here", "_law_k", "_law_letter_here"]
theorem st_law_book (a0 a1 : V) : L2.start N_law_book [a0, a1] = [some a0, some a1, none, none, none, none, none] := rfl
theorem sc_law_book : FnScope N_law_book ["_law_h", "_law_many"] (defScope s_law_book) := ⟨rfl, rfl, rfl, by decide +kernel, rfl, by decide +kernel, by decide +kernel⟩
abbrev N_law_kind : List Str := ["_law_work", "e", "_law_kinds", "_law_words"]
theorem st_law_kind (a0 : V) : L2.start N_law_kind [a0] = [some a0, none, none, none] := rfl
theorem sc_law_kind : FnScope N_law_kind ["_law_work"] (defScope s_law_kind) := ⟨rfl, rfl, rfl, by decide +kernel, rfl, by decide +kernel, by decide +kernel⟩
abbrev N_law_figures : List Str := ["_law_word", "_law_figures_here", "_law_sign"]
theorem st_law_figures (a0 : V) : L2.start N_law_figures [a0] = [some a0, none, none] := rfl
theorem sc_law_figures : FnScope N_law_figures ["_law_word"] (defScope s_law_figures) := ⟨rfl, rfl, rfl, by decide +kernel, rfl, by decide +kernel, by decide +kernel⟩
abbrev N_law_line : List Str := ["_law_row", "_law_forms", "_law_bounds", "_law_words", "_law_client", "_law_form", "_law_numbers", "_law_word", "_law_number", "_law_sort"]
theorem st_law_line (a0 : V) : L2.start N_law_line [a0] = [some a0, none, none, none, none, none, none, none, none, none] := rfl
theorem sc_law_line : FnScope N_law_line ["_law_row"] (defScope s_law_line) := ⟨rfl, rfl, rfl, by decide +kernel, rfl, by decide +kernel, by decide +kernel⟩
abbrev N_law_due : List Str := ["_law_text", "_law_books", "_law_rows", "_law_k", "_law_found", "_law_more"]
theorem st_law_due (a0 : V) : L2.start N_law_due [a0] = [some a0, none, none, none, none, none] := rfl
theorem sc_law_due : FnScope N_law_due ["_law_text"] (defScope s_law_due) := ⟨rfl, rfl, rfl, by decide +kernel, rfl, by decide +kernel, by decide +kernel⟩
abbrev N_law_spoilt : List Str := ["_law_h", "_law_text", "_law_turn", "_law_at", "_law_signs", "_law_sign", "_law_rows", "_law_k", "_law_words", "_law_j", "_law_odd_here"]
theorem st_law_spoilt (a0 a1 : V) : L2.start N_law_spoilt [a0, a1] = [some a0, some a1, none, none, none, none, none, none, none, none, none] := rfl
theorem sc_law_spoilt : FnScope N_law_spoilt ["_law_h", "_law_text"] (defScope s_law_spoilt) := ⟨rfl, rfl, rfl, by decide +kernel, rfl, by decide +kernel, by decide +kernel⟩
abbrev N_law : List Str := ["_law_script", "_law_h", "_law_some", "_law_turn", "_law_text", "_law_k", "_law_change", "_law_one", "_law_due_here"]
theorem st_law (a0 : V) : L2.start N_law [a0] = [some a0, none, none, none, none, none, none, none, none] := rfl
theorem sc_law : FnScope N_law ["_law_script"] (defScope s_law) := ⟨rfl, rfl, rfl, by decide +kernel, rfl, by decide +kernel, by decide +kernel⟩
def dd : List He.DefD := [
  ⟨("BadText", some "__init__"), "__init__", "BadText.__init__", defArgs s_BadTextDU_initDU, defBody s_BadTextDU_initDU, defScope s_BadTextDU_initDU, [], []⟩,
  ⟨("is_number", none), "is_number", "is_number", defArgs s_is_number, defBody s_is_number, defScope s_is_number, [], []⟩,
  ⟨("is_letter", none), "is_letter", "is_letter", defArgs s_is_letter, defBody s_is_letter, defScope s_is_letter, [], []⟩,
  ⟨("need_letter", none), "need_letter", "need_letter", defArgs s_need_letter, defBody s_need_letter, defScope s_need_letter, [], []⟩,
  ⟨("written", none), "written", "written", defArgs s_written, defBody s_written, defScope s_written, [], []⟩,
  ⟨("number_of", none), "number_of", "number_of", defArgs s_number_of, defBody s_number_of, defScope s_number_of, [], []⟩,
  ⟨("letter_of", none), "letter_of", "letter_of", defArgs s_letter_of, defBody s_letter_of, defScope s_letter_of, [], []⟩,
  ⟨("read", none), "read", "read", defArgs s_read, defBody s_read, defScope s_read, [], []⟩,
  ⟨("_law_mix", none), "_law_mix", "_law_mix", defArgs s_law_mix, defBody s_law_mix, defScope s_law_mix, [], []⟩,
  ⟨("_law_next", none), "_law_next", "_law_next", defArgs s_law_next, defBody s_law_next, defScope s_law_next, [], []⟩,
  ⟨("_law_alike", none), "_law_alike", "_law_alike", defArgs s_law_alike, defBody s_law_alike, defScope s_law_alike, [], []⟩,
  ⟨("_law_letter", none), "_law_letter", "_law_letter", defArgs s_law_letter, defBody s_law_letter, defScope s_law_letter, [], []⟩,
  ⟨("_law_odd", none), "_law_odd", "_law_odd", defArgs s_law_odd, defBody s_law_odd, defScope s_law_odd, [], []⟩,
  ⟨("_law_sized", none), "_law_sized", "_law_sized", defArgs s_law_sized, defBody s_law_sized, defScope s_law_sized, [], []⟩,
  ⟨("_law_pending", none), "_law_pending", "_law_pending", defArgs s_law_pending, defBody s_law_pending, defScope s_law_pending, [], []⟩,
  ⟨("_law_under", none), "_law_under", "_law_under", defArgs s_law_under, defBody s_law_under, defScope s_law_under, [], []⟩,
  ⟨("_law_is_tied", none), "_law_is_tied", "_law_is_tied", defArgs s_law_is_tied, defBody s_law_is_tied, defScope s_law_is_tied, [], []⟩,
  ⟨("_law_does", none), "_law_does", "_law_does", defArgs s_law_does, defBody s_law_does, defScope s_law_does, [], []⟩,
  ⟨("_law_book", none), "_law_book", "_law_book", defArgs s_law_book, defBody s_law_book, defScope s_law_book, [], []⟩,
  ⟨("_law_kind", none), "_law_kind", "_law_kind", defArgs s_law_kind, defBody s_law_kind, defScope s_law_kind, [], []⟩,
  ⟨("_law_figures", none), "_law_figures", "_law_figures", defArgs s_law_figures, defBody s_law_figures, defScope s_law_figures, [], []⟩,
  ⟨("_law_line", none), "_law_line", "_law_line", defArgs s_law_line, defBody s_law_line, defScope s_law_line, [], []⟩,
  ⟨("_law_due", none), "_law_due", "_law_due", defArgs s_law_due, defBody s_law_due, defScope s_law_due, [], []⟩,
  ⟨("_law_spoilt", none), "_law_spoilt", "_law_spoilt", defArgs s_law_spoilt, defBody s_law_spoilt, defScope s_law_spoilt, [], []⟩,
  ⟨("law", none), "law", "law", defArgs s_law, defBody s_law, defScope s_law, [], []⟩]
def ff : List He.Fa := [
  .free "ValueError",
  .free "bool",
  .free "enumerate",
  .free "int",
  .free "isinstance",
  .free "len",
  .free "list",
  .free "max",
  .free "min",
  .free "range",
  .free "sorted",
  .free "str",
  .free "tuple",
  .free "zip",
  .glo "is_number",
  .glo "is_letter",
  .glo "need_letter",
  .glo "written",
  .glo "number_of",
  .glo "letter_of",
  .glo "read",
  .glo "_law_mix",
  .glo "_law_next",
  .glo "_law_alike",
  .glo "_law_letter",
  .glo "_law_odd",
  .glo "_law_sized",
  .glo "_law_pending",
  .glo "_law_under",
  .glo "_law_is_tied",
  .glo "_law_does",
  .glo "_law_book",
  .glo "_law_kind",
  .glo "_law_figures",
  .glo "_law_line",
  .glo "_law_due",
  .glo "_law_spoilt",
  .glo "law",
  .glo "HallError",
  .glo "BadSize",
  .glo "TooMany",
  .glo "NoClient",
  .glo "BadLetter",
  .glo "BadTouch",
  .glo "BadKey",
  .glo "BadText",
  .int "MOST_WIDE" (12),
  .int "MOST_HIGH" (8),
  .int "MOST_CLIENTS" (5),
  .int "MOST_NAME" (9),
  .int "MOST_FAR" (20),
  .glo "FORMS",
  .glo "BOUNDS",
  .str "FIGURES" "0123456789",
  .int "MOST_FIGURES" (2)]
def tt : List He.Tab := [(fun K => He.ga K "FORMS", ["make", "drop", "size", "paint", "place", "rank", "veil", "unveil", "tie", "show", "hold", "let"]), (fun K => He.ga K "BOUNDS", ["n", "m", "W", "H", "x", "y", "p"])]
def ex (K : PySem.W.Frag) : Bool := He.valsB K (He.ga K "FORMS") [("make", .str "n"), ("drop", .str "n"), ("size", .str "nWH"), ("paint", .str "nxyWHm"), ("place", .str "npp"), ("rank", .str "nm"), ("veil", .str "n"), ("unveil", .str "n"), ("tie", .str "nn"), ("show", .str "n"), ("hold", .str "n"), ("let", .str "")] && tupIn K (He.ga K "BOUNDS") "n" [.int (0), .int (9)] && tupIn K (He.ga K "BOUNDS") "m" [.int (0), .int (9)] && tupIn K (He.ga K "BOUNDS") "W" [.int (1), .int (12)] && tupIn K (He.ga K "BOUNDS") "H" [.int (1), .int (8)] && tupIn K (He.ga K "BOUNDS") "x" [.int (0), .int (11)] && tupIn K (He.ga K "BOUNDS") "y" [.int (0), .int (7)] && tupIn K (He.ga K "BOUNDS") "p" [.int (-20), .int (20)] && oexAll K (He.ga K "BadText") && excCB K (He.ga K "BadText") && baseIB K (He.ga K "HallError") && He.eqO (PySem.W.findIn K (.ref (He.ga K "BadText")) "line") (some none) && He.eqO (PySem.W.findIn K (.ref (He.ga K "BadText")) "__init__") (some (some (.ref (He.ma K (He.ga K "BadText") "__init__")))) && decide (PySem.W.typeIn K (.ref (He.ma K (He.ga K "BadText") "__init__")) = some (.type "function")) && decide (PySem.W.exmOne K (.ref (He.ga K "BadText")) (.ref (He.ga K "HallError")) = some true) && decide (PySem.W.kitOne K (.ref (He.ga K "BadText")) (.ref (He.ga K "BadSize")) = some false) && decide (PySem.W.kitOne K (.ref (He.ga K "BadText")) (.ref (He.ga K "TooMany")) = some false) && decide (PySem.W.kitOne K (.ref (He.ga K "BadText")) (.ref (He.ga K "NoClient")) = some false) && decide (PySem.W.kitOne K (.ref (He.ga K "BadText")) (.ref (He.ga K "BadLetter")) = some false) && decide (PySem.W.kitOne K (.ref (He.ga K "BadText")) (.ref (He.ga K "BadTouch")) = some false) && decide (PySem.W.kitOne K (.ref (He.ga K "BadText")) (.ref (He.ga K "BadKey")) = some false) && decide (PySem.W.kitOne K (.ref (He.ga K "BadText")) (.ref (He.ga K "BadText")) = some true) && decide (PySem.W.kitOne K (.ref (He.ga K "BadText")) (.type "ValueError") = some true) && keysB K (He.ga K "FORMS") ["make", "drop", "size", "paint", "place", "rank", "veil", "unveil", "tie", "show", "hold", "let"] && keysB K (He.ga K "BOUNDS") ["n", "m", "W", "H", "x", "y", "p"]
def tf : List He.Defn := [("law", none)]
structure Tx (w : World) (K : PySem.W.Frag) (mg : Str → Option Value) : Prop where
  x : ∃ h, K.In h ∧ h.Ns mainGlobals mg ∧ He.SaysX ff dd tt tf ex w h K
abbrev Ts (K : PySem.W.Frag) : List (Addr × Str) := [(He.tabOf K (He.codeOf K ("law", none)), (("law" : Str) ++ ".<locals>.") ++ "<lambda>")]
structure Tb (base : Heap) (K : PySem.W.Frag) (mg : Str → Option Value) : Prop where
  tb : ∀ p ∈ tf, LamX.TabB base mg (He.codeOf K p) (He.tabOf K (He.codeOf K p))
theorem ts_mem (K : PySem.W.Frag) : (He.tabOf K (He.codeOf K ("law", none)), (("law" : Str) ++ ".<locals>.") ++ "<lambda>") ∈ Ts K := List.mem_cons_self ..
theorem ts_one (K : PySem.W.Frag) : ∀ p ∈ Ts K, p.1 = He.tabOf K (He.codeOf K ("law", none)) → p.2 = (("law" : Str) ++ ".<locals>.") ++ "<lambda>" := fun p hp _ => by rw [List.mem_singleton.mp hp]
section
variable {P : Program} {w : World} {K : PySem.W.Frag} {mg : Str → Option Value} {base : Heap}
theorem f_ValueError (T : Tx w K mg) : mg "ValueError" = none := let ⟨h, X, G, s⟩ := T.x; He.free_ok X G (s.t.d.fact 0 rfl)
theorem f_bool (T : Tx w K mg) : mg "bool" = none := let ⟨h, X, G, s⟩ := T.x; He.free_ok X G (s.t.d.fact 1 rfl)
theorem f_enumerate (T : Tx w K mg) : mg "enumerate" = none := let ⟨h, X, G, s⟩ := T.x; He.free_ok X G (s.t.d.fact 2 rfl)
theorem f_int (T : Tx w K mg) : mg "int" = none := let ⟨h, X, G, s⟩ := T.x; He.free_ok X G (s.t.d.fact 3 rfl)
theorem f_isinstance (T : Tx w K mg) : mg "isinstance" = none := let ⟨h, X, G, s⟩ := T.x; He.free_ok X G (s.t.d.fact 4 rfl)
theorem f_len (T : Tx w K mg) : mg "len" = none := let ⟨h, X, G, s⟩ := T.x; He.free_ok X G (s.t.d.fact 5 rfl)
theorem f_list (T : Tx w K mg) : mg "list" = none := let ⟨h, X, G, s⟩ := T.x; He.free_ok X G (s.t.d.fact 6 rfl)
theorem f_max (T : Tx w K mg) : mg "max" = none := let ⟨h, X, G, s⟩ := T.x; He.free_ok X G (s.t.d.fact 7 rfl)
theorem f_min (T : Tx w K mg) : mg "min" = none := let ⟨h, X, G, s⟩ := T.x; He.free_ok X G (s.t.d.fact 8 rfl)
theorem f_range (T : Tx w K mg) : mg "range" = none := let ⟨h, X, G, s⟩ := T.x; He.free_ok X G (s.t.d.fact 9 rfl)
theorem f_sorted (T : Tx w K mg) : mg "sorted" = none := let ⟨h, X, G, s⟩ := T.x; He.free_ok X G (s.t.d.fact 10 rfl)
theorem f_str (T : Tx w K mg) : mg "str" = none := let ⟨h, X, G, s⟩ := T.x; He.free_ok X G (s.t.d.fact 11 rfl)
theorem f_tuple (T : Tx w K mg) : mg "tuple" = none := let ⟨h, X, G, s⟩ := T.x; He.free_ok X G (s.t.d.fact 12 rfl)
theorem f_zip (T : Tx w K mg) : mg "zip" = none := let ⟨h, X, G, s⟩ := T.x; He.free_ok X G (s.t.d.fact 13 rfl)
theorem g_is_number (T : Tx w K mg) : mg "is_number" = some (.ref (He.ga K "is_number")) := let ⟨h, X, G, s⟩ := T.x; He.glo_ok X G (s.t.d.fact 14 rfl)
theorem g_is_letter (T : Tx w K mg) : mg "is_letter" = some (.ref (He.ga K "is_letter")) := let ⟨h, X, G, s⟩ := T.x; He.glo_ok X G (s.t.d.fact 15 rfl)
theorem g_need_letter (T : Tx w K mg) : mg "need_letter" = some (.ref (He.ga K "need_letter")) := let ⟨h, X, G, s⟩ := T.x; He.glo_ok X G (s.t.d.fact 16 rfl)
theorem g_written (T : Tx w K mg) : mg "written" = some (.ref (He.ga K "written")) := let ⟨h, X, G, s⟩ := T.x; He.glo_ok X G (s.t.d.fact 17 rfl)
theorem g_number_of (T : Tx w K mg) : mg "number_of" = some (.ref (He.ga K "number_of")) := let ⟨h, X, G, s⟩ := T.x; He.glo_ok X G (s.t.d.fact 18 rfl)
theorem g_letter_of (T : Tx w K mg) : mg "letter_of" = some (.ref (He.ga K "letter_of")) := let ⟨h, X, G, s⟩ := T.x; He.glo_ok X G (s.t.d.fact 19 rfl)
theorem g_read (T : Tx w K mg) : mg "read" = some (.ref (He.ga K "read")) := let ⟨h, X, G, s⟩ := T.x; He.glo_ok X G (s.t.d.fact 20 rfl)
theorem g__law_mix (T : Tx w K mg) : mg "_law_mix" = some (.ref (He.ga K "_law_mix")) := let ⟨h, X, G, s⟩ := T.x; He.glo_ok X G (s.t.d.fact 21 rfl)
theorem g__law_next (T : Tx w K mg) : mg "_law_next" = some (.ref (He.ga K "_law_next")) := let ⟨h, X, G, s⟩ := T.x; He.glo_ok X G (s.t.d.fact 22 rfl)
theorem g__law_alike (T : Tx w K mg) : mg "_law_alike" = some (.ref (He.ga K "_law_alike")) := let ⟨h, X, G, s⟩ := T.x; He.glo_ok X G (s.t.d.fact 23 rfl)
theorem g__law_letter (T : Tx w K mg) : mg "_law_letter" = some (.ref (He.ga K "_law_letter")) := let ⟨h, X, G, s⟩ := T.x; He.glo_ok X G (s.t.d.fact 24 rfl)
theorem g__law_odd (T : Tx w K mg) : mg "_law_odd" = some (.ref (He.ga K "_law_odd")) := let ⟨h, X, G, s⟩ := T.x; He.glo_ok X G (s.t.d.fact 25 rfl)
theorem g__law_sized (T : Tx w K mg) : mg "_law_sized" = some (.ref (He.ga K "_law_sized")) := let ⟨h, X, G, s⟩ := T.x; He.glo_ok X G (s.t.d.fact 26 rfl)
theorem g__law_pending (T : Tx w K mg) : mg "_law_pending" = some (.ref (He.ga K "_law_pending")) := let ⟨h, X, G, s⟩ := T.x; He.glo_ok X G (s.t.d.fact 27 rfl)
theorem g__law_under (T : Tx w K mg) : mg "_law_under" = some (.ref (He.ga K "_law_under")) := let ⟨h, X, G, s⟩ := T.x; He.glo_ok X G (s.t.d.fact 28 rfl)
theorem g__law_is_tied (T : Tx w K mg) : mg "_law_is_tied" = some (.ref (He.ga K "_law_is_tied")) := let ⟨h, X, G, s⟩ := T.x; He.glo_ok X G (s.t.d.fact 29 rfl)
theorem g__law_does (T : Tx w K mg) : mg "_law_does" = some (.ref (He.ga K "_law_does")) := let ⟨h, X, G, s⟩ := T.x; He.glo_ok X G (s.t.d.fact 30 rfl)
theorem g__law_book (T : Tx w K mg) : mg "_law_book" = some (.ref (He.ga K "_law_book")) := let ⟨h, X, G, s⟩ := T.x; He.glo_ok X G (s.t.d.fact 31 rfl)
theorem g__law_kind (T : Tx w K mg) : mg "_law_kind" = some (.ref (He.ga K "_law_kind")) := let ⟨h, X, G, s⟩ := T.x; He.glo_ok X G (s.t.d.fact 32 rfl)
theorem g__law_figures (T : Tx w K mg) : mg "_law_figures" = some (.ref (He.ga K "_law_figures")) := let ⟨h, X, G, s⟩ := T.x; He.glo_ok X G (s.t.d.fact 33 rfl)
theorem g__law_line (T : Tx w K mg) : mg "_law_line" = some (.ref (He.ga K "_law_line")) := let ⟨h, X, G, s⟩ := T.x; He.glo_ok X G (s.t.d.fact 34 rfl)
theorem g__law_due (T : Tx w K mg) : mg "_law_due" = some (.ref (He.ga K "_law_due")) := let ⟨h, X, G, s⟩ := T.x; He.glo_ok X G (s.t.d.fact 35 rfl)
theorem g__law_spoilt (T : Tx w K mg) : mg "_law_spoilt" = some (.ref (He.ga K "_law_spoilt")) := let ⟨h, X, G, s⟩ := T.x; He.glo_ok X G (s.t.d.fact 36 rfl)
theorem g_law (T : Tx w K mg) : mg "law" = some (.ref (He.ga K "law")) := let ⟨h, X, G, s⟩ := T.x; He.glo_ok X G (s.t.d.fact 37 rfl)
theorem g_HallError (T : Tx w K mg) : mg "HallError" = some (.ref (He.ga K "HallError")) := let ⟨h, X, G, s⟩ := T.x; He.glo_ok X G (s.t.d.fact 38 rfl)
theorem g_BadSize (T : Tx w K mg) : mg "BadSize" = some (.ref (He.ga K "BadSize")) := let ⟨h, X, G, s⟩ := T.x; He.glo_ok X G (s.t.d.fact 39 rfl)
theorem g_TooMany (T : Tx w K mg) : mg "TooMany" = some (.ref (He.ga K "TooMany")) := let ⟨h, X, G, s⟩ := T.x; He.glo_ok X G (s.t.d.fact 40 rfl)
theorem g_NoClient (T : Tx w K mg) : mg "NoClient" = some (.ref (He.ga K "NoClient")) := let ⟨h, X, G, s⟩ := T.x; He.glo_ok X G (s.t.d.fact 41 rfl)
theorem g_BadLetter (T : Tx w K mg) : mg "BadLetter" = some (.ref (He.ga K "BadLetter")) := let ⟨h, X, G, s⟩ := T.x; He.glo_ok X G (s.t.d.fact 42 rfl)
theorem g_BadTouch (T : Tx w K mg) : mg "BadTouch" = some (.ref (He.ga K "BadTouch")) := let ⟨h, X, G, s⟩ := T.x; He.glo_ok X G (s.t.d.fact 43 rfl)
theorem g_BadKey (T : Tx w K mg) : mg "BadKey" = some (.ref (He.ga K "BadKey")) := let ⟨h, X, G, s⟩ := T.x; He.glo_ok X G (s.t.d.fact 44 rfl)
theorem g_BadText (T : Tx w K mg) : mg "BadText" = some (.ref (He.ga K "BadText")) := let ⟨h, X, G, s⟩ := T.x; He.glo_ok X G (s.t.d.fact 45 rfl)
theorem int_MOST_WIDE (T : Tx w K mg) : ∃ u, mg "MOST_WIDE" = some u ∧ RelV (.int (12)) u := let ⟨h, X, G, s⟩ := T.x; let ⟨t, e⟩ := He.int_ok X G (s.t.d.fact 46 rfl); ⟨_, e, t, rfl⟩
theorem int_MOST_HIGH (T : Tx w K mg) : ∃ u, mg "MOST_HIGH" = some u ∧ RelV (.int (8)) u := let ⟨h, X, G, s⟩ := T.x; let ⟨t, e⟩ := He.int_ok X G (s.t.d.fact 47 rfl); ⟨_, e, t, rfl⟩
theorem int_MOST_CLIENTS (T : Tx w K mg) : ∃ u, mg "MOST_CLIENTS" = some u ∧ RelV (.int (5)) u := let ⟨h, X, G, s⟩ := T.x; let ⟨t, e⟩ := He.int_ok X G (s.t.d.fact 48 rfl); ⟨_, e, t, rfl⟩
theorem int_MOST_NAME (T : Tx w K mg) : ∃ u, mg "MOST_NAME" = some u ∧ RelV (.int (9)) u := let ⟨h, X, G, s⟩ := T.x; let ⟨t, e⟩ := He.int_ok X G (s.t.d.fact 49 rfl); ⟨_, e, t, rfl⟩
theorem int_MOST_FAR (T : Tx w K mg) : ∃ u, mg "MOST_FAR" = some u ∧ RelV (.int (20)) u := let ⟨h, X, G, s⟩ := T.x; let ⟨t, e⟩ := He.int_ok X G (s.t.d.fact 50 rfl); ⟨_, e, t, rfl⟩
theorem g_FORMS (T : Tx w K mg) : mg "FORMS" = some (.ref (He.ga K "FORMS")) := let ⟨h, X, G, s⟩ := T.x; He.glo_ok X G (s.t.d.fact 51 rfl)
theorem g_BOUNDS (T : Tx w K mg) : mg "BOUNDS" = some (.ref (He.ga K "BOUNDS")) := let ⟨h, X, G, s⟩ := T.x; He.glo_ok X G (s.t.d.fact 52 rfl)
theorem str_FIGURES (T : Tx w K mg) : ∃ u, mg "FIGURES" = some u ∧ RelV (.str "0123456789") u := let ⟨h, X, G, s⟩ := T.x; let ⟨t, e⟩ := He.str_ok X G (s.t.d.fact 53 rfl); ⟨_, e, t, rfl⟩
theorem int_MOST_FIGURES (T : Tx w K mg) : ∃ u, mg "MOST_FIGURES" = some u ∧ RelV (.int (2)) u := let ⟨h, X, G, s⟩ := T.x; let ⟨t, e⟩ := He.int_ok X G (s.t.d.fact 54 rfl); ⟨_, e, t, rfl⟩
theorem kd_FORMS (T : Tx w K mg) : ∃ es n, KDict K w (He.ga K "FORMS") es n := let ⟨h, X, G, s⟩ := T.x; s.t.tab 0 rfl
theorem kd_BOUNDS (T : Tx w K mg) : ∃ es n, KDict K w (He.ga K "BOUNDS") es n := let ⟨h, X, G, s⟩ := T.x; s.t.tab 1 rfl
theorem ex_0 (T : Tx w K mg) : (He.valsB K (He.ga K "FORMS") [("make", .str "n"), ("drop", .str "n"), ("size", .str "nWH"), ("paint", .str "nxyWHm"), ("place", .str "npp"), ("rank", .str "nm"), ("veil", .str "n"), ("unveil", .str "n"), ("tie", .str "nn"), ("show", .str "n"), ("hold", .str "n"), ("let", .str "")]) = true := let ⟨h, X, G, s⟩ := T.x; (Bool.and_eq_true_iff.mp (Bool.and_eq_true_iff.mp (Bool.and_eq_true_iff.mp (Bool.and_eq_true_iff.mp (Bool.and_eq_true_iff.mp (Bool.and_eq_true_iff.mp (Bool.and_eq_true_iff.mp (Bool.and_eq_true_iff.mp (Bool.and_eq_true_iff.mp (Bool.and_eq_true_iff.mp (Bool.and_eq_true_iff.mp (Bool.and_eq_true_iff.mp (Bool.and_eq_true_iff.mp (Bool.and_eq_true_iff.mp (Bool.and_eq_true_iff.mp (Bool.and_eq_true_iff.mp (Bool.and_eq_true_iff.mp (Bool.and_eq_true_iff.mp (Bool.and_eq_true_iff.mp (Bool.and_eq_true_iff.mp (Bool.and_eq_true_iff.mp (Bool.and_eq_true_iff.mp (Bool.and_eq_true_iff.mp (Bool.and_eq_true_iff.mp s.more).1).1).1).1).1).1).1).1).1).1).1).1).1).1).1).1).1).1).1).1).1).1).1).1
theorem ex_1 (T : Tx w K mg) : (tupIn K (He.ga K "BOUNDS") "n" [.int (0), .int (9)]) = true := let ⟨h, X, G, s⟩ := T.x; (Bool.and_eq_true_iff.mp (Bool.and_eq_true_iff.mp (Bool.and_eq_true_iff.mp (Bool.and_eq_true_iff.mp (Bool.and_eq_true_iff.mp (Bool.and_eq_true_iff.mp (Bool.and_eq_true_iff.mp (Bool.and_eq_true_iff.mp (Bool.and_eq_true_iff.mp (Bool.and_eq_true_iff.mp (Bool.and_eq_true_iff.mp (Bool.and_eq_true_iff.mp (Bool.and_eq_true_iff.mp (Bool.and_eq_true_iff.mp (Bool.and_eq_true_iff.mp (Bool.and_eq_true_iff.mp (Bool.and_eq_true_iff.mp (Bool.and_eq_true_iff.mp (Bool.and_eq_true_iff.mp (Bool.and_eq_true_iff.mp (Bool.and_eq_true_iff.mp (Bool.and_eq_true_iff.mp (Bool.and_eq_true_iff.mp (Bool.and_eq_true_iff.mp s.more).1).1).1).1).1).1).1).1).1).1).1).1).1).1).1).1).1).1).1).1).1).1).1).2
theorem ex_2 (T : Tx w K mg) : (tupIn K (He.ga K "BOUNDS") "m" [.int (0), .int (9)]) = true := let ⟨h, X, G, s⟩ := T.x; (Bool.and_eq_true_iff.mp (Bool.and_eq_true_iff.mp (Bool.and_eq_true_iff.mp (Bool.and_eq_true_iff.mp (Bool.and_eq_true_iff.mp (Bool.and_eq_true_iff.mp (Bool.and_eq_true_iff.mp (Bool.and_eq_true_iff.mp (Bool.and_eq_true_iff.mp (Bool.and_eq_true_iff.mp (Bool.and_eq_true_iff.mp (Bool.and_eq_true_iff.mp (Bool.and_eq_true_iff.mp (Bool.and_eq_true_iff.mp (Bool.and_eq_true_iff.mp (Bool.and_eq_true_iff.mp (Bool.and_eq_true_iff.mp (Bool.and_eq_true_iff.mp (Bool.and_eq_true_iff.mp (Bool.and_eq_true_iff.mp (Bool.and_eq_true_iff.mp (Bool.and_eq_true_iff.mp (Bool.and_eq_true_iff.mp s.more).1).1).1).1).1).1).1).1).1).1).1).1).1).1).1).1).1).1).1).1).1).1).2
theorem ex_3 (T : Tx w K mg) : (tupIn K (He.ga K "BOUNDS") "W" [.int (1), .int (12)]) = true := let ⟨h, X, G, s⟩ := T.x; (Bool.and_eq_true_iff.mp (Bool.and_eq_true_iff.mp (Bool.and_eq_true_iff.mp (Bool.and_eq_true_iff.mp (Bool.and_eq_true_iff.mp (Bool.and_eq_true_iff.mp (Bool.and_eq_true_iff.mp (Bool.and_eq_true_iff.mp (Bool.and_eq_true_iff.mp (Bool.and_eq_true_iff.mp (Bool.and_eq_true_iff.mp (Bool.and_eq_true_iff.mp (Bool.and_eq_true_iff.mp (Bool.and_eq_true_iff.mp (Bool.and_eq_true_iff.mp (Bool.and_eq_true_iff.mp (Bool.and_eq_true_iff.mp (Bool.and_eq_true_iff.mp (Bool.and_eq_true_iff.mp (Bool.and_eq_true_iff.mp (Bool.and_eq_true_iff.mp (Bool.and_eq_true_iff.mp s.more).1).1).1).1).1).1).1).1).1).1).1).1).1).1).1).1).1).1).1).1).1).2
theorem ex_4 (T : Tx w K mg) : (tupIn K (He.ga K "BOUNDS") "H" [.int (1), .int (8)]) = true := let ⟨h, X, G, s⟩ := T.x; (Bool.and_eq_true_iff.mp (Bool.and_eq_true_iff.mp (Bool.and_eq_true_iff.mp (Bool.and_eq_true_iff.mp (Bool.and_eq_true_iff.mp (Bool.and_eq_true_iff.mp (Bool.and_eq_true_iff.mp (Bool.and_eq_true_iff.mp (Bool.and_eq_true_iff.mp (Bool.and_eq_true_iff.mp (Bool.and_eq_true_iff.mp (Bool.and_eq_true_iff.mp (Bool.and_eq_true_iff.mp (Bool.and_eq_true_iff.mp (Bool.and_eq_true_iff.mp (Bool.and_eq_true_iff.mp (Bool.and_eq_true_iff.mp (Bool.and_eq_true_iff.mp (Bool.and_eq_true_iff.mp (Bool.and_eq_true_iff.mp (Bool.and_eq_true_iff.mp s.more).1).1).1).1).1).1).1).1).1).1).1).1).1).1).1).1).1).1).1).1).2
theorem ex_5 (T : Tx w K mg) : (tupIn K (He.ga K "BOUNDS") "x" [.int (0), .int (11)]) = true := let ⟨h, X, G, s⟩ := T.x; (Bool.and_eq_true_iff.mp (Bool.and_eq_true_iff.mp (Bool.and_eq_true_iff.mp (Bool.and_eq_true_iff.mp (Bool.and_eq_true_iff.mp (Bool.and_eq_true_iff.mp (Bool.and_eq_true_iff.mp (Bool.and_eq_true_iff.mp (Bool.and_eq_true_iff.mp (Bool.and_eq_true_iff.mp (Bool.and_eq_true_iff.mp (Bool.and_eq_true_iff.mp (Bool.and_eq_true_iff.mp (Bool.and_eq_true_iff.mp (Bool.and_eq_true_iff.mp (Bool.and_eq_true_iff.mp (Bool.and_eq_true_iff.mp (Bool.and_eq_true_iff.mp (Bool.and_eq_true_iff.mp (Bool.and_eq_true_iff.mp s.more).1).1).1).1).1).1).1).1).1).1).1).1).1).1).1).1).1).1).1).2
theorem ex_6 (T : Tx w K mg) : (tupIn K (He.ga K "BOUNDS") "y" [.int (0), .int (7)]) = true := let ⟨h, X, G, s⟩ := T.x; (Bool.and_eq_true_iff.mp (Bool.and_eq_true_iff.mp (Bool.and_eq_true_iff.mp (Bool.and_eq_true_iff.mp (Bool.and_eq_true_iff.mp (Bool.and_eq_true_iff.mp (Bool.and_eq_true_iff.mp (Bool.and_eq_true_iff.mp (Bool.and_eq_true_iff.mp (Bool.and_eq_true_iff.mp (Bool.and_eq_true_iff.mp (Bool.and_eq_true_iff.mp (Bool.and_eq_true_iff.mp (Bool.and_eq_true_iff.mp (Bool.and_eq_true_iff.mp (Bool.and_eq_true_iff.mp (Bool.and_eq_true_iff.mp (Bool.and_eq_true_iff.mp (Bool.and_eq_true_iff.mp s.more).1).1).1).1).1).1).1).1).1).1).1).1).1).1).1).1).1).1).2
theorem ex_7 (T : Tx w K mg) : (tupIn K (He.ga K "BOUNDS") "p" [.int (-20), .int (20)]) = true := let ⟨h, X, G, s⟩ := T.x; (Bool.and_eq_true_iff.mp (Bool.and_eq_true_iff.mp (Bool.and_eq_true_iff.mp (Bool.and_eq_true_iff.mp (Bool.and_eq_true_iff.mp (Bool.and_eq_true_iff.mp (Bool.and_eq_true_iff.mp (Bool.and_eq_true_iff.mp (Bool.and_eq_true_iff.mp (Bool.and_eq_true_iff.mp (Bool.and_eq_true_iff.mp (Bool.and_eq_true_iff.mp (Bool.and_eq_true_iff.mp (Bool.and_eq_true_iff.mp (Bool.and_eq_true_iff.mp (Bool.and_eq_true_iff.mp (Bool.and_eq_true_iff.mp (Bool.and_eq_true_iff.mp s.more).1).1).1).1).1).1).1).1).1).1).1).1).1).1).1).1).1).2
theorem ex_8 (T : Tx w K mg) : (oexAll K (He.ga K "BadText")) = true := let ⟨h, X, G, s⟩ := T.x; (Bool.and_eq_true_iff.mp (Bool.and_eq_true_iff.mp (Bool.and_eq_true_iff.mp (Bool.and_eq_true_iff.mp (Bool.and_eq_true_iff.mp (Bool.and_eq_true_iff.mp (Bool.and_eq_true_iff.mp (Bool.and_eq_true_iff.mp (Bool.and_eq_true_iff.mp (Bool.and_eq_true_iff.mp (Bool.and_eq_true_iff.mp (Bool.and_eq_true_iff.mp (Bool.and_eq_true_iff.mp (Bool.and_eq_true_iff.mp (Bool.and_eq_true_iff.mp (Bool.and_eq_true_iff.mp (Bool.and_eq_true_iff.mp s.more).1).1).1).1).1).1).1).1).1).1).1).1).1).1).1).1).2
theorem ex_9 (T : Tx w K mg) : (excCB K (He.ga K "BadText")) = true := let ⟨h, X, G, s⟩ := T.x; (Bool.and_eq_true_iff.mp (Bool.and_eq_true_iff.mp (Bool.and_eq_true_iff.mp (Bool.and_eq_true_iff.mp (Bool.and_eq_true_iff.mp (Bool.and_eq_true_iff.mp (Bool.and_eq_true_iff.mp (Bool.and_eq_true_iff.mp (Bool.and_eq_true_iff.mp (Bool.and_eq_true_iff.mp (Bool.and_eq_true_iff.mp (Bool.and_eq_true_iff.mp (Bool.and_eq_true_iff.mp (Bool.and_eq_true_iff.mp (Bool.and_eq_true_iff.mp (Bool.and_eq_true_iff.mp s.more).1).1).1).1).1).1).1).1).1).1).1).1).1).1).1).2
theorem ex_10 (T : Tx w K mg) : (baseIB K (He.ga K "HallError")) = true := let ⟨h, X, G, s⟩ := T.x; (Bool.and_eq_true_iff.mp (Bool.and_eq_true_iff.mp (Bool.and_eq_true_iff.mp (Bool.and_eq_true_iff.mp (Bool.and_eq_true_iff.mp (Bool.and_eq_true_iff.mp (Bool.and_eq_true_iff.mp (Bool.and_eq_true_iff.mp (Bool.and_eq_true_iff.mp (Bool.and_eq_true_iff.mp (Bool.and_eq_true_iff.mp (Bool.and_eq_true_iff.mp (Bool.and_eq_true_iff.mp (Bool.and_eq_true_iff.mp (Bool.and_eq_true_iff.mp s.more).1).1).1).1).1).1).1).1).1).1).1).1).1).1).2
theorem ex_11 (T : Tx w K mg) : (He.eqO (PySem.W.findIn K (.ref (He.ga K "BadText")) "line") (some none)) = true := let ⟨h, X, G, s⟩ := T.x; (Bool.and_eq_true_iff.mp (Bool.and_eq_true_iff.mp (Bool.and_eq_true_iff.mp (Bool.and_eq_true_iff.mp (Bool.and_eq_true_iff.mp (Bool.and_eq_true_iff.mp (Bool.and_eq_true_iff.mp (Bool.and_eq_true_iff.mp (Bool.and_eq_true_iff.mp (Bool.and_eq_true_iff.mp (Bool.and_eq_true_iff.mp (Bool.and_eq_true_iff.mp (Bool.and_eq_true_iff.mp (Bool.and_eq_true_iff.mp s.more).1).1).1).1).1).1).1).1).1).1).1).1).1).2
theorem ex_12 (T : Tx w K mg) : (He.eqO (PySem.W.findIn K (.ref (He.ga K "BadText")) "__init__") (some (some (.ref (He.ma K (He.ga K "BadText") "__init__"))))) = true := let ⟨h, X, G, s⟩ := T.x; (Bool.and_eq_true_iff.mp (Bool.and_eq_true_iff.mp (Bool.and_eq_true_iff.mp (Bool.and_eq_true_iff.mp (Bool.and_eq_true_iff.mp (Bool.and_eq_true_iff.mp (Bool.and_eq_true_iff.mp (Bool.and_eq_true_iff.mp (Bool.and_eq_true_iff.mp (Bool.and_eq_true_iff.mp (Bool.and_eq_true_iff.mp (Bool.and_eq_true_iff.mp (Bool.and_eq_true_iff.mp s.more).1).1).1).1).1).1).1).1).1).1).1).1).2
theorem ex_13 (T : Tx w K mg) : (decide (PySem.W.typeIn K (.ref (He.ma K (He.ga K "BadText") "__init__")) = some (.type "function"))) = true := let ⟨h, X, G, s⟩ := T.x; (Bool.and_eq_true_iff.mp (Bool.and_eq_true_iff.mp (Bool.and_eq_true_iff.mp (Bool.and_eq_true_iff.mp (Bool.and_eq_true_iff.mp (Bool.and_eq_true_iff.mp (Bool.and_eq_true_iff.mp (Bool.and_eq_true_iff.mp (Bool.and_eq_true_iff.mp (Bool.and_eq_true_iff.mp (Bool.and_eq_true_iff.mp (Bool.and_eq_true_iff.mp s.more).1).1).1).1).1).1).1).1).1).1).1).2
theorem ex_14 (T : Tx w K mg) : (decide (PySem.W.exmOne K (.ref (He.ga K "BadText")) (.ref (He.ga K "HallError")) = some true)) = true := let ⟨h, X, G, s⟩ := T.x; (Bool.and_eq_true_iff.mp (Bool.and_eq_true_iff.mp (Bool.and_eq_true_iff.mp (Bool.and_eq_true_iff.mp (Bool.and_eq_true_iff.mp (Bool.and_eq_true_iff.mp (Bool.and_eq_true_iff.mp (Bool.and_eq_true_iff.mp (Bool.and_eq_true_iff.mp (Bool.and_eq_true_iff.mp (Bool.and_eq_true_iff.mp s.more).1).1).1).1).1).1).1).1).1).1).2
theorem ex_15 (T : Tx w K mg) : (decide (PySem.W.kitOne K (.ref (He.ga K "BadText")) (.ref (He.ga K "BadSize")) = some false)) = true := let ⟨h, X, G, s⟩ := T.x; (Bool.and_eq_true_iff.mp (Bool.and_eq_true_iff.mp (Bool.and_eq_true_iff.mp (Bool.and_eq_true_iff.mp (Bool.and_eq_true_iff.mp (Bool.and_eq_true_iff.mp (Bool.and_eq_true_iff.mp (Bool.and_eq_true_iff.mp (Bool.and_eq_true_iff.mp (Bool.and_eq_true_iff.mp s.more).1).1).1).1).1).1).1).1).1).2
theorem ex_16 (T : Tx w K mg) : (decide (PySem.W.kitOne K (.ref (He.ga K "BadText")) (.ref (He.ga K "TooMany")) = some false)) = true := let ⟨h, X, G, s⟩ := T.x; (Bool.and_eq_true_iff.mp (Bool.and_eq_true_iff.mp (Bool.and_eq_true_iff.mp (Bool.and_eq_true_iff.mp (Bool.and_eq_true_iff.mp (Bool.and_eq_true_iff.mp (Bool.and_eq_true_iff.mp (Bool.and_eq_true_iff.mp (Bool.and_eq_true_iff.mp s.more).1).1).1).1).1).1).1).1).2
theorem ex_17 (T : Tx w K mg) : (decide (PySem.W.kitOne K (.ref (He.ga K "BadText")) (.ref (He.ga K "NoClient")) = some false)) = true := let ⟨h, X, G, s⟩ := T.x; (Bool.and_eq_true_iff.mp (Bool.and_eq_true_iff.mp (Bool.and_eq_true_iff.mp (Bool.and_eq_true_iff.mp (Bool.and_eq_true_iff.mp (Bool.and_eq_true_iff.mp (Bool.and_eq_true_iff.mp (Bool.and_eq_true_iff.mp s.more).1).1).1).1).1).1).1).2
theorem ex_18 (T : Tx w K mg) : (decide (PySem.W.kitOne K (.ref (He.ga K "BadText")) (.ref (He.ga K "BadLetter")) = some false)) = true := let ⟨h, X, G, s⟩ := T.x; (Bool.and_eq_true_iff.mp (Bool.and_eq_true_iff.mp (Bool.and_eq_true_iff.mp (Bool.and_eq_true_iff.mp (Bool.and_eq_true_iff.mp (Bool.and_eq_true_iff.mp (Bool.and_eq_true_iff.mp s.more).1).1).1).1).1).1).2
theorem ex_19 (T : Tx w K mg) : (decide (PySem.W.kitOne K (.ref (He.ga K "BadText")) (.ref (He.ga K "BadTouch")) = some false)) = true := let ⟨h, X, G, s⟩ := T.x; (Bool.and_eq_true_iff.mp (Bool.and_eq_true_iff.mp (Bool.and_eq_true_iff.mp (Bool.and_eq_true_iff.mp (Bool.and_eq_true_iff.mp (Bool.and_eq_true_iff.mp s.more).1).1).1).1).1).2
theorem ex_20 (T : Tx w K mg) : (decide (PySem.W.kitOne K (.ref (He.ga K "BadText")) (.ref (He.ga K "BadKey")) = some false)) = true := let ⟨h, X, G, s⟩ := T.x; (Bool.and_eq_true_iff.mp (Bool.and_eq_true_iff.mp (Bool.and_eq_true_iff.mp (Bool.and_eq_true_iff.mp (Bool.and_eq_true_iff.mp s.more).1).1).1).1).2
theorem ex_21 (T : Tx w K mg) : (decide (PySem.W.kitOne K (.ref (He.ga K "BadText")) (.ref (He.ga K "BadText")) = some true)) = true := let ⟨h, X, G, s⟩ := T.x; (Bool.and_eq_true_iff.mp (Bool.and_eq_true_iff.mp (Bool.and_eq_true_iff.mp (Bool.and_eq_true_iff.mp s.more).1).1).1).2
theorem ex_22 (T : Tx w K mg) : (decide (PySem.W.kitOne K (.ref (He.ga K "BadText")) (.type "ValueError") = some true)) = true := let ⟨h, X, G, s⟩ := T.x; (Bool.and_eq_true_iff.mp (Bool.and_eq_true_iff.mp (Bool.and_eq_true_iff.mp s.more).1).1).2
theorem ex_23 (T : Tx w K mg) : (keysB K (He.ga K "FORMS") ["make", "drop", "size", "paint", "place", "rank", "veil", "unveil", "tie", "show", "hold", "let"]) = true := let ⟨h, X, G, s⟩ := T.x; (Bool.and_eq_true_iff.mp (Bool.and_eq_true_iff.mp s.more).1).2
theorem ex_24 (T : Tx w K mg) : (keysB K (He.ga K "BOUNDS") ["n", "m", "W", "H", "x", "y", "p"]) = true := let ⟨h, X, G, s⟩ := T.x; (Bool.and_eq_true_iff.mp s.more).2
theorem oex_BadText (T : Tx w K mg) : OexC K (He.ga K "BadText") := oex_ok (ex_8 T)
theorem xcc_BadText (T : Tx w K mg) : ExcC K (He.ga K "BadText") := excC_ok (ex_9 T)
theorem base_HallError (T : Tx w K mg) : BaseI K (He.ga K "HallError") := baseI_ok (ex_10 T)
theorem nof_BadText_line (T : Tx w K mg) : PySem.W.findIn K (.ref (He.ga K "BadText")) "line" = some none := He.eqO_ok (ex_11 T)
theorem ini_BadText (T : Tx w K mg) : PySem.W.findIn K (.ref (He.ga K "BadText")) "__init__" = some (some (.ref (He.ma K (He.ga K "BadText") "__init__"))) := He.eqO_ok (ex_12 T)
theorem tin_BadText (T : Tx w K mg) : PySem.W.typeIn K (.ref (He.ma K (He.ga K "BadText") "__init__")) = some (.type "function") := of_decide_eq_true (ex_13 T)
theorem exm_BadText (T : Tx w K mg) : PySem.W.exmOne K (.ref (He.ga K "BadText")) (.ref (He.ga K "HallError")) = some true := of_decide_eq_true (ex_14 T)
theorem kit_BadText_BadSize (T : Tx w K mg) : PySem.W.kitOne K (.ref (He.ga K "BadText")) (.ref (He.ga K "BadSize")) = some false := of_decide_eq_true (ex_15 T)
theorem kit_BadText_TooMany (T : Tx w K mg) : PySem.W.kitOne K (.ref (He.ga K "BadText")) (.ref (He.ga K "TooMany")) = some false := of_decide_eq_true (ex_16 T)
theorem kit_BadText_NoClient (T : Tx w K mg) : PySem.W.kitOne K (.ref (He.ga K "BadText")) (.ref (He.ga K "NoClient")) = some false := of_decide_eq_true (ex_17 T)
theorem kit_BadText_BadLetter (T : Tx w K mg) : PySem.W.kitOne K (.ref (He.ga K "BadText")) (.ref (He.ga K "BadLetter")) = some false := of_decide_eq_true (ex_18 T)
theorem kit_BadText_BadTouch (T : Tx w K mg) : PySem.W.kitOne K (.ref (He.ga K "BadText")) (.ref (He.ga K "BadTouch")) = some false := of_decide_eq_true (ex_19 T)
theorem kit_BadText_BadKey (T : Tx w K mg) : PySem.W.kitOne K (.ref (He.ga K "BadText")) (.ref (He.ga K "BadKey")) = some false := of_decide_eq_true (ex_20 T)
theorem kit_BadText_BadText (T : Tx w K mg) : PySem.W.kitOne K (.ref (He.ga K "BadText")) (.ref (He.ga K "BadText")) = some true := of_decide_eq_true (ex_21 T)
theorem kit_BadText_ValueError (T : Tx w K mg) : PySem.W.kitOne K (.ref (He.ga K "BadText")) (.type "ValueError") = some true := of_decide_eq_true (ex_22 T)
theorem keys_FORMS (T : Tx w K mg) : keysB K (He.ga K "FORMS") ["make", "drop", "size", "paint", "place", "rank", "veil", "unveil", "tie", "show", "hold", "let"] = true := (ex_23 T)
theorem keys_BOUNDS (T : Tx w K mg) : keysB K (He.ga K "BOUNDS") ["n", "m", "W", "H", "x", "y", "p"] = true := (ex_24 T)
theorem mk_BadTextDU_initDU (T : Tx w K mg) {k : Nat} {sp : Sp} (len : ∀ vs H Q E, sp vs H Q E → vs.length = 2)
    (hbody : ∀ (cdv : Value) (A : Around) (outer : List Env) (s : Shared) (H : Hp) (vs : List V) (Q : VK) (E : XK), Room k (A.deeper (envOfC "BadText.__init__" (defScope s_BadTextDU_initDU) s.heap.objs.size (He.fAd K ("BadText", some "__init__")) cdv)) → sp vs H Q E →
      ∃ t, PSs (cxOf CX0 P w K mg base N_BadTextDU_initDU "BadText.__init__" (defScope s_BadTextDU_initDU) (He.fAd K ("BadText", some "__init__")) cdv A outer s H E).nox (defBody s_BadTextDU_initDU) t ∧ t { nx := fun _ H' => Q .non H', rt := Q } (start N_BadTextDU_initDU vs) H) : IniX P w K mg base (k + 1) (He.ga K "BadText") sp :=
  let ⟨h, X, G, s⟩ := T.x; inix_mk (s.t.d.def_ 0 rfl) (ini_BadText T) (tin_BadText T) sc_BadTextDU_initDU (fun _ _ _ _ _ _ us hl => match us, hl with | [_, _], _ => rfl) len hbody
theorem mk_is_number (T : Tx w K mg) {k : Nat} {sp : Sp} (len : ∀ vs H Q E, sp vs H Q E → vs.length = 3)
    (hbody : ∀ (cdv : Value) (A : Around) (outer : List Env) (s : Shared) (H : Hp) (vs : List V) (Q : VK) (E : XK), Room k (A.deeper (envOfC "is_number" (defScope s_is_number) s.heap.objs.size (He.fAd K ("is_number", none)) cdv)) → sp vs H Q E →
      ∃ t, PSs (cxOf CX0 P w K mg base N_is_number "is_number" (defScope s_is_number) (He.fAd K ("is_number", none)) cdv A outer s H E).nox (defBody s_is_number) t ∧ t { nx := fun _ H' => Q .non H', rt := Q } (start N_is_number vs) H) : Cal P w K mg base (k + 1) "is_number" sp [] :=
  let ⟨h, X, G, s⟩ := T.x; cal_mk (s.t.d.def_ 1 rfl) (g_is_number T) sc_is_number (fun _ _ _ _ _ _ us hl => match us, hl with | [_, _, _], _ => rfl) len hbody
theorem mk_is_letter (T : Tx w K mg) {k : Nat} {sp : Sp} (len : ∀ vs H Q E, sp vs H Q E → vs.length = 1)
    (hbody : ∀ (cdv : Value) (A : Around) (outer : List Env) (s : Shared) (H : Hp) (vs : List V) (Q : VK) (E : XK), Room k (A.deeper (envOfC "is_letter" (defScope s_is_letter) s.heap.objs.size (He.fAd K ("is_letter", none)) cdv)) → sp vs H Q E →
      ∃ t, PSs (cxOf CX0 P w K mg base N_is_letter "is_letter" (defScope s_is_letter) (He.fAd K ("is_letter", none)) cdv A outer s H E).nox (defBody s_is_letter) t ∧ t { nx := fun _ H' => Q .non H', rt := Q } (start N_is_letter vs) H) : Cal P w K mg base (k + 1) "is_letter" sp [] :=
  let ⟨h, X, G, s⟩ := T.x; cal_mk (s.t.d.def_ 2 rfl) (g_is_letter T) sc_is_letter (fun _ _ _ _ _ _ us hl => match us, hl with | [_], _ => rfl) len hbody
theorem mk_need_letter (T : Tx w K mg) {k : Nat} {sp : Sp} (len : ∀ vs H Q E, sp vs H Q E → vs.length = 1)
    (hbody : ∀ (cdv : Value) (A : Around) (outer : List Env) (s : Shared) (H : Hp) (vs : List V) (Q : VK) (E : XK), Room k (A.deeper (envOfC "need_letter" (defScope s_need_letter) s.heap.objs.size (He.fAd K ("need_letter", none)) cdv)) → sp vs H Q E →
      ∃ t, PSs (cxOf CX0 P w K mg base N_need_letter "need_letter" (defScope s_need_letter) (He.fAd K ("need_letter", none)) cdv A outer s H E).nox (defBody s_need_letter) t ∧ t { nx := fun _ H' => Q .non H', rt := Q } (start N_need_letter vs) H) : Cal P w K mg base (k + 1) "need_letter" sp [] :=
  let ⟨h, X, G, s⟩ := T.x; cal_mk (s.t.d.def_ 3 rfl) (g_need_letter T) sc_need_letter (fun _ _ _ _ _ _ us hl => match us, hl with | [_], _ => rfl) len hbody
theorem mk_written (T : Tx w K mg) {k : Nat} {sp : Sp} (len : ∀ vs H Q E, sp vs H Q E → vs.length = 1)
    (hbody : ∀ (cdv : Value) (A : Around) (outer : List Env) (s : Shared) (H : Hp) (vs : List V) (Q : VK) (E : XK), Room k (A.deeper (envOfC "written" (defScope s_written) s.heap.objs.size (He.fAd K ("written", none)) cdv)) → sp vs H Q E →
      ∃ t, PSs (cxOf CX0 P w K mg base N_written "written" (defScope s_written) (He.fAd K ("written", none)) cdv A outer s H E).nox (defBody s_written) t ∧ t { nx := fun _ H' => Q .non H', rt := Q } (start N_written vs) H) : Cal P w K mg base (k + 1) "written" sp [] :=
  let ⟨h, X, G, s⟩ := T.x; cal_mk (s.t.d.def_ 4 rfl) (g_written T) sc_written (fun _ _ _ _ _ _ us hl => match us, hl with | [_], _ => rfl) len hbody
theorem mk_number_of (T : Tx w K mg) {k : Nat} {sp : Sp} (len : ∀ vs H Q E, sp vs H Q E → vs.length = 1)
    (hbody : ∀ (cdv : Value) (A : Around) (outer : List Env) (s : Shared) (H : Hp) (vs : List V) (Q : VK) (E : XK), Room k (A.deeper (envOfC "number_of" (defScope s_number_of) s.heap.objs.size (He.fAd K ("number_of", none)) cdv)) → sp vs H Q E →
      ∃ t, PSs (cxOf CX0 P w K mg base N_number_of "number_of" (defScope s_number_of) (He.fAd K ("number_of", none)) cdv A outer s H E).nox (defBody s_number_of) t ∧ t { nx := fun _ H' => Q .non H', rt := Q } (start N_number_of vs) H) : Cal P w K mg base (k + 1) "number_of" sp [] :=
  let ⟨h, X, G, s⟩ := T.x; cal_mk (s.t.d.def_ 5 rfl) (g_number_of T) sc_number_of (fun _ _ _ _ _ _ us hl => match us, hl with | [_], _ => rfl) len hbody
theorem mk_letter_of (T : Tx w K mg) {k : Nat} {sp : Sp} (len : ∀ vs H Q E, sp vs H Q E → vs.length = 1)
    (hbody : ∀ (cdv : Value) (A : Around) (outer : List Env) (s : Shared) (H : Hp) (vs : List V) (Q : VK) (E : XK), Room k (A.deeper (envOfC "letter_of" (defScope s_letter_of) s.heap.objs.size (He.fAd K ("letter_of", none)) cdv)) → sp vs H Q E →
      ∃ t, PSs (cxOf CX0 P w K mg base N_letter_of "letter_of" (defScope s_letter_of) (He.fAd K ("letter_of", none)) cdv A outer s H E).nox (defBody s_letter_of) t ∧ t { nx := fun _ H' => Q .non H', rt := Q } (start N_letter_of vs) H) : Cal P w K mg base (k + 1) "letter_of" sp [] :=
  let ⟨h, X, G, s⟩ := T.x; cal_mk (s.t.d.def_ 6 rfl) (g_letter_of T) sc_letter_of (fun _ _ _ _ _ _ us hl => match us, hl with | [_], _ => rfl) len hbody
theorem mk_read (T : Tx w K mg) {k : Nat} {sp : Sp} (len : ∀ vs H Q E, sp vs H Q E → vs.length = 1)
    (hbody : ∀ (cdv : Value) (A : Around) (outer : List Env) (s : Shared) (H : Hp) (vs : List V) (Q : VK) (E : XK), Room k (A.deeper (envOfC "read" (defScope s_read) s.heap.objs.size (He.fAd K ("read", none)) cdv)) → sp vs H Q E →
      ∃ t, PSs (cxOf (L2.CX P w) P w K mg base N_read "read" (defScope s_read) (He.fAd K ("read", none)) cdv A outer s H E) (defBody s_read) t ∧ t { nx := fun _ H' => Q .non H', rt := Q } (start N_read vs) H) : CalX P w K mg base (k + 1) "read" sp :=
  let ⟨h, X, G, s⟩ := T.x; calx_mk (s.t.d.def_ 7 rfl) (g_read T) sc_read (fun _ _ _ _ _ _ us hl => match us, hl with | [_], _ => rfl) len hbody
theorem mk_law_mix (T : Tx w K mg) {k : Nat} {sp : Sp} (len : ∀ vs H Q E, sp vs H Q E → vs.length = 2)
    (hbody : ∀ (cdv : Value) (A : Around) (outer : List Env) (s : Shared) (H : Hp) (vs : List V) (Q : VK) (E : XK), Room k (A.deeper (envOfC "_law_mix" (defScope s_law_mix) s.heap.objs.size (He.fAd K ("_law_mix", none)) cdv)) → sp vs H Q E →
      ∃ t, PSs (cxOf CX0 P w K mg base N_law_mix "_law_mix" (defScope s_law_mix) (He.fAd K ("_law_mix", none)) cdv A outer s H E).nox (defBody s_law_mix) t ∧ t { nx := fun _ H' => Q .non H', rt := Q } (start N_law_mix vs) H) : Cal P w K mg base (k + 1) "_law_mix" sp [] :=
  let ⟨h, X, G, s⟩ := T.x; cal_mk (s.t.d.def_ 8 rfl) (g__law_mix T) sc_law_mix (fun _ _ _ _ _ _ us hl => match us, hl with | [_, _], _ => rfl) len hbody
theorem mk_law_next (T : Tx w K mg) {k : Nat} {sp : Sp} (len : ∀ vs H Q E, sp vs H Q E → vs.length = 2)
    (hbody : ∀ (cdv : Value) (A : Around) (outer : List Env) (s : Shared) (H : Hp) (vs : List V) (Q : VK) (E : XK), Room k (A.deeper (envOfC "_law_next" (defScope s_law_next) s.heap.objs.size (He.fAd K ("_law_next", none)) cdv)) → sp vs H Q E →
      ∃ t, PSs (cxOf CX0 P w K mg base N_law_next "_law_next" (defScope s_law_next) (He.fAd K ("_law_next", none)) cdv A outer s H E).nox (defBody s_law_next) t ∧ t { nx := fun _ H' => Q .non H', rt := Q } (start N_law_next vs) H) : Cal P w K mg base (k + 1) "_law_next" sp [] :=
  let ⟨h, X, G, s⟩ := T.x; cal_mk (s.t.d.def_ 9 rfl) (g__law_next T) sc_law_next (fun _ _ _ _ _ _ us hl => match us, hl with | [_, _], _ => rfl) len hbody
theorem mk_law_alike (T : Tx w K mg) {k : Nat} {sp : Sp} (len : ∀ vs H Q E, sp vs H Q E → vs.length = 2)
    (hbody : ∀ (cdv : Value) (A : Around) (outer : List Env) (s : Shared) (H : Hp) (vs : List V) (Q : VK) (E : XK), Room k (A.deeper (envOfC "_law_alike" (defScope s_law_alike) s.heap.objs.size (He.fAd K ("_law_alike", none)) cdv)) → sp vs H Q E →
      ∃ t, PSs (cxOf CX0 P w K mg base N_law_alike "_law_alike" (defScope s_law_alike) (He.fAd K ("_law_alike", none)) cdv A outer s H E).nox (defBody s_law_alike) t ∧ t { nx := fun _ H' => Q .non H', rt := Q } (start N_law_alike vs) H) : Cal P w K mg base (k + 1) "_law_alike" sp [] :=
  let ⟨h, X, G, s⟩ := T.x; cal_mk (s.t.d.def_ 10 rfl) (g__law_alike T) sc_law_alike (fun _ _ _ _ _ _ us hl => match us, hl with | [_, _], _ => rfl) len hbody
theorem mk_law_letter (T : Tx w K mg) {k : Nat} {sp : Sp} (len : ∀ vs H Q E, sp vs H Q E → vs.length = 2)
    (hbody : ∀ (cdv : Value) (A : Around) (outer : List Env) (s : Shared) (H : Hp) (vs : List V) (Q : VK) (E : XK), Room k (A.deeper (envOfC "_law_letter" (defScope s_law_letter) s.heap.objs.size (He.fAd K ("_law_letter", none)) cdv)) → sp vs H Q E →
      ∃ t, PSs (cxOf CX0 P w K mg base N_law_letter "_law_letter" (defScope s_law_letter) (He.fAd K ("_law_letter", none)) cdv A outer s H E).nox (defBody s_law_letter) t ∧ t { nx := fun _ H' => Q .non H', rt := Q } (start N_law_letter vs) H) : Cal P w K mg base (k + 1) "_law_letter" sp [] :=
  let ⟨h, X, G, s⟩ := T.x; cal_mk (s.t.d.def_ 11 rfl) (g__law_letter T) sc_law_letter (fun _ _ _ _ _ _ us hl => match us, hl with | [_, _], _ => rfl) len hbody
theorem mk_law_odd (T : Tx w K mg) {k : Nat} {sp : Sp} (len : ∀ vs H Q E, sp vs H Q E → vs.length = 2)
    (hbody : ∀ (cdv : Value) (A : Around) (outer : List Env) (s : Shared) (H : Hp) (vs : List V) (Q : VK) (E : XK), Room k (A.deeper (envOfC "_law_odd" (defScope s_law_odd) s.heap.objs.size (He.fAd K ("_law_odd", none)) cdv)) → sp vs H Q E →
      ∃ t, PSs (cxOf CX0 P w K mg base N_law_odd "_law_odd" (defScope s_law_odd) (He.fAd K ("_law_odd", none)) cdv A outer s H E).nox (defBody s_law_odd) t ∧ t { nx := fun _ H' => Q .non H', rt := Q } (start N_law_odd vs) H) : Cal P w K mg base (k + 1) "_law_odd" sp [] :=
  let ⟨h, X, G, s⟩ := T.x; cal_mk (s.t.d.def_ 12 rfl) (g__law_odd T) sc_law_odd (fun _ _ _ _ _ _ us hl => match us, hl with | [_, _], _ => rfl) len hbody
theorem mk_law_sized (T : Tx w K mg) {k : Nat} {sp : Sp} (len : ∀ vs H Q E, sp vs H Q E → vs.length = 3)
    (hbody : ∀ (cdv : Value) (A : Around) (outer : List Env) (s : Shared) (H : Hp) (vs : List V) (Q : VK) (E : XK), Room k (A.deeper (envOfC "_law_sized" (defScope s_law_sized) s.heap.objs.size (He.fAd K ("_law_sized", none)) cdv)) → sp vs H Q E →
      ∃ t, PSs (cxOf CX0 P w K mg base N_law_sized "_law_sized" (defScope s_law_sized) (He.fAd K ("_law_sized", none)) cdv A outer s H E).nox (defBody s_law_sized) t ∧ t { nx := fun _ H' => Q .non H', rt := Q } (start N_law_sized vs) H) : Cal P w K mg base (k + 1) "_law_sized" sp [] :=
  let ⟨h, X, G, s⟩ := T.x; cal_mk (s.t.d.def_ 13 rfl) (g__law_sized T) sc_law_sized (fun _ _ _ _ _ _ us hl => match us, hl with | [_, _, _], _ => rfl) len hbody
theorem mk_law_pending (T : Tx w K mg) {k : Nat} {sp : Sp} (len : ∀ vs H Q E, sp vs H Q E → vs.length = 2)
    (hbody : ∀ (cdv : Value) (A : Around) (outer : List Env) (s : Shared) (H : Hp) (vs : List V) (Q : VK) (E : XK), Room k (A.deeper (envOfC "_law_pending" (defScope s_law_pending) s.heap.objs.size (He.fAd K ("_law_pending", none)) cdv)) → sp vs H Q E →
      ∃ t, PSs (cxOf CX0 P w K mg base N_law_pending "_law_pending" (defScope s_law_pending) (He.fAd K ("_law_pending", none)) cdv A outer s H E).nox (defBody s_law_pending) t ∧ t { nx := fun _ H' => Q .non H', rt := Q } (start N_law_pending vs) H) : Cal P w K mg base (k + 1) "_law_pending" sp [] :=
  let ⟨h, X, G, s⟩ := T.x; cal_mk (s.t.d.def_ 14 rfl) (g__law_pending T) sc_law_pending (fun _ _ _ _ _ _ us hl => match us, hl with | [_, _], _ => rfl) len hbody
theorem mk_law_under (T : Tx w K mg) {k : Nat} {sp : Sp} (len : ∀ vs H Q E, sp vs H Q E → vs.length = 2)
    (hbody : ∀ (cdv : Value) (A : Around) (outer : List Env) (s : Shared) (H : Hp) (vs : List V) (Q : VK) (E : XK), Room k (A.deeper (envOfC "_law_under" (defScope s_law_under) s.heap.objs.size (He.fAd K ("_law_under", none)) cdv)) → sp vs H Q E →
      ∃ t, PSs (cxOf CX0 P w K mg base N_law_under "_law_under" (defScope s_law_under) (He.fAd K ("_law_under", none)) cdv A outer s H E).nox (defBody s_law_under) t ∧ t { nx := fun _ H' => Q .non H', rt := Q } (start N_law_under vs) H) : Cal P w K mg base (k + 1) "_law_under" sp [] :=
  let ⟨h, X, G, s⟩ := T.x; cal_mk (s.t.d.def_ 15 rfl) (g__law_under T) sc_law_under (fun _ _ _ _ _ _ us hl => match us, hl with | [_, _], _ => rfl) len hbody
theorem mk_law_is_tied (T : Tx w K mg) {k : Nat} {sp : Sp} (len : ∀ vs H Q E, sp vs H Q E → vs.length = 3)
    (hbody : ∀ (cdv : Value) (A : Around) (outer : List Env) (s : Shared) (H : Hp) (vs : List V) (Q : VK) (E : XK), Room k (A.deeper (envOfC "_law_is_tied" (defScope s_law_is_tied) s.heap.objs.size (He.fAd K ("_law_is_tied", none)) cdv)) → sp vs H Q E →
      ∃ t, PSs (cxOf CX0 P w K mg base N_law_is_tied "_law_is_tied" (defScope s_law_is_tied) (He.fAd K ("_law_is_tied", none)) cdv A outer s H E).nox (defBody s_law_is_tied) t ∧ t { nx := fun _ H' => Q .non H', rt := Q } (start N_law_is_tied vs) H) : Cal P w K mg base (k + 1) "_law_is_tied" sp [] :=
  let ⟨h, X, G, s⟩ := T.x; cal_mk (s.t.d.def_ 16 rfl) (g__law_is_tied T) sc_law_is_tied (fun _ _ _ _ _ _ us hl => match us, hl with | [_, _, _], _ => rfl) len hbody
theorem mk_law_does (T : Tx w K mg) {k : Nat} {sp : Sp} (len : ∀ vs H Q E, sp vs H Q E → vs.length = 2)
    (hbody : ∀ (cdv : Value) (A : Around) (outer : List Env) (s : Shared) (H : Hp) (vs : List V) (Q : VK) (E : XK), Room k (A.deeper (envOfC "_law_does" (defScope s_law_does) s.heap.objs.size (He.fAd K ("_law_does", none)) cdv)) → sp vs H Q E →
      ∃ t, PSs (cxOf CX0 P w K mg base N_law_does "_law_does" (defScope s_law_does) (He.fAd K ("_law_does", none)) cdv A outer s H E).nox (defBody s_law_does) t ∧ t { nx := fun _ H' => Q .non H', rt := Q } (start N_law_does vs) H) : Cal P w K mg base (k + 1) "_law_does" sp [] :=
  let ⟨h, X, G, s⟩ := T.x; cal_mk (s.t.d.def_ 17 rfl) (g__law_does T) sc_law_does (fun _ _ _ _ _ _ us hl => match us, hl with | [_, _], _ => rfl) len hbody
theorem mk_law_book (T : Tx w K mg) {k : Nat} {sp : Sp} (len : ∀ vs H Q E, sp vs H Q E → vs.length = 2)
    (hbody : ∀ (cdv : Value) (A : Around) (outer : List Env) (s : Shared) (H : Hp) (vs : List V) (Q : VK) (E : XK), Room k (A.deeper (envOfC "_law_book" (defScope s_law_book) s.heap.objs.size (He.fAd K ("_law_book", none)) cdv)) → sp vs H Q E →
      ∃ t, PSs (cxOf CX0 P w K mg base N_law_book "_law_book" (defScope s_law_book) (He.fAd K ("_law_book", none)) cdv A outer s H E).nox (defBody s_law_book) t ∧ t { nx := fun _ H' => Q .non H', rt := Q } (start N_law_book vs) H) : Cal P w K mg base (k + 1) "_law_book" sp [] :=
  let ⟨h, X, G, s⟩ := T.x; cal_mk (s.t.d.def_ 18 rfl) (g__law_book T) sc_law_book (fun _ _ _ _ _ _ us hl => match us, hl with | [_, _], _ => rfl) len hbody
theorem fun_law_kind (T : Tx w K mg) : ∃ fd, FunD K "_law_kind" "_law_kind" (defArgs s_law_kind) (defBody s_law_kind) (defScope s_law_kind) [] [] (He.fAd K ("_law_kind", none)) fd := let ⟨h, X, G, s⟩ := T.x; s.t.d.def_ 19 rfl
theorem mk_law_figures (T : Tx w K mg) {k : Nat} {sp : Sp} (len : ∀ vs H Q E, sp vs H Q E → vs.length = 1)
    (hbody : ∀ (cdv : Value) (A : Around) (outer : List Env) (s : Shared) (H : Hp) (vs : List V) (Q : VK) (E : XK), Room k (A.deeper (envOfC "_law_figures" (defScope s_law_figures) s.heap.objs.size (He.fAd K ("_law_figures", none)) cdv)) → sp vs H Q E →
      ∃ t, PSs (cxOf CX0 P w K mg base N_law_figures "_law_figures" (defScope s_law_figures) (He.fAd K ("_law_figures", none)) cdv A outer s H E).nox (defBody s_law_figures) t ∧ t { nx := fun _ H' => Q .non H', rt := Q } (start N_law_figures vs) H) : Cal P w K mg base (k + 1) "_law_figures" sp [] :=
  let ⟨h, X, G, s⟩ := T.x; cal_mk (s.t.d.def_ 20 rfl) (g__law_figures T) sc_law_figures (fun _ _ _ _ _ _ us hl => match us, hl with | [_], _ => rfl) len hbody
theorem mk_law_line (T : Tx w K mg) {k : Nat} {sp : Sp} (len : ∀ vs H Q E, sp vs H Q E → vs.length = 1)
    (hbody : ∀ (cdv : Value) (A : Around) (outer : List Env) (s : Shared) (H : Hp) (vs : List V) (Q : VK) (E : XK), Room k (A.deeper (envOfC "_law_line" (defScope s_law_line) s.heap.objs.size (He.fAd K ("_law_line", none)) cdv)) → sp vs H Q E →
      ∃ t, PSs (cxOf CX0 P w K mg base N_law_line "_law_line" (defScope s_law_line) (He.fAd K ("_law_line", none)) cdv A outer s H E).nox (defBody s_law_line) t ∧ t { nx := fun _ H' => Q .non H', rt := Q } (start N_law_line vs) H) : Cal P w K mg base (k + 1) "_law_line" sp [] :=
  let ⟨h, X, G, s⟩ := T.x; cal_mk (s.t.d.def_ 21 rfl) (g__law_line T) sc_law_line (fun _ _ _ _ _ _ us hl => match us, hl with | [_], _ => rfl) len hbody
theorem mk_law_due (T : Tx w K mg) {k : Nat} {sp : Sp} (len : ∀ vs H Q E, sp vs H Q E → vs.length = 1)
    (hbody : ∀ (cdv : Value) (A : Around) (outer : List Env) (s : Shared) (H : Hp) (vs : List V) (Q : VK) (E : XK), Room k (A.deeper (envOfC "_law_due" (defScope s_law_due) s.heap.objs.size (He.fAd K ("_law_due", none)) cdv)) → sp vs H Q E →
      ∃ t, PSs (cxOf CX0 P w K mg base N_law_due "_law_due" (defScope s_law_due) (He.fAd K ("_law_due", none)) cdv A outer s H E).nox (defBody s_law_due) t ∧ t { nx := fun _ H' => Q .non H', rt := Q } (start N_law_due vs) H) : Cal P w K mg base (k + 1) "_law_due" sp [] :=
  let ⟨h, X, G, s⟩ := T.x; cal_mk (s.t.d.def_ 22 rfl) (g__law_due T) sc_law_due (fun _ _ _ _ _ _ us hl => match us, hl with | [_], _ => rfl) len hbody
theorem mk_law_spoilt (T : Tx w K mg) {k : Nat} {sp : Sp} (len : ∀ vs H Q E, sp vs H Q E → vs.length = 2)
    (hbody : ∀ (cdv : Value) (A : Around) (outer : List Env) (s : Shared) (H : Hp) (vs : List V) (Q : VK) (E : XK), Room k (A.deeper (envOfC "_law_spoilt" (defScope s_law_spoilt) s.heap.objs.size (He.fAd K ("_law_spoilt", none)) cdv)) → sp vs H Q E →
      ∃ t, PSs (cxOf CX0 P w K mg base N_law_spoilt "_law_spoilt" (defScope s_law_spoilt) (He.fAd K ("_law_spoilt", none)) cdv A outer s H E).nox (defBody s_law_spoilt) t ∧ t { nx := fun _ H' => Q .non H', rt := Q } (start N_law_spoilt vs) H) : Cal P w K mg base (k + 1) "_law_spoilt" sp [] :=
  let ⟨h, X, G, s⟩ := T.x; cal_mk (s.t.d.def_ 23 rfl) (g__law_spoilt T) sc_law_spoilt (fun _ _ _ _ _ _ us hl => match us, hl with | [_, _], _ => rfl) len hbody
abbrev FunLaw (K : PySem.W.Frag) (fd : FuncData) : Prop := FunD K "law" "law" (defArgs s_law) (defBody s_law) (defScope s_law) [] [] (He.fAd K ("law", none)) fd
theorem fun_law (T : Tx w K mg) : ∃ fd, FunLaw K fd := let ⟨h, X, G, s⟩ := T.x; s.t.d.def_ 24 rfl
theorem bind_law {fd : FuncData} (F : FunLaw K fd) (s : Shared) (u : Value) : BindsTo s fd ⟨[u], []⟩ [("_law_script", u)] := FunD.bindsA (ps := ["_law_script"]) F (fun _ _ _ _ _ _ us hl => match us, hl with | [_], _ => rfl) s [u] rfl
theorem mk_law {fd : FuncData} (F : FunLaw K fd) {k : Nat} {sp : Sp} (len : ∀ vs H Q E, sp vs H Q E → vs.length = 1)
    (hbody : ∀ (cdv : Value), cdv = .ref (He.codeOf K ("law", none)) → ∀ (A : Around) (outer : List Env) (s : Shared) (H : Hp) (vs : List V) (Q : VK) (E : XK), Room k (A.deeper (envOfC "law" (defScope s_law) s.heap.objs.size (He.fAd K ("law", none)) cdv)) → sp vs H Q E →
      ∃ t, PSs (cxOf CX0 P w K mg base N_law "law" (defScope s_law) (He.fAd K ("law", none)) cdv A outer s H E).nox (defBody s_law) t ∧ t { nx := fun _ H' => Q .non H', rt := Q } (start N_law vs) H) : FnOk P w K mg base CX0 (k + 1) (He.fAd K ("law", none)) fd ["_law_script"] sp :=
  lawT F sc_law len hbody
end
end U

namespace U
open PySem PySem.Spec PyProof.Rows L2
def names0 : List Str := ["is_number", "is_letter", "need_letter", "written", "number_of", "letter_of", "read", "_law_mix", "_law_next", "_law_alike", "_law_letter", "_law_odd", "_law_sized", "_law_pending", "_law_under", "_law_is_tied", "_law_does", "_law_book", "_law_kind", "_law_figures", "_law_line", "_law_due", "_law_spoilt", "HallError", "BadSize", "TooMany", "NoClient", "BadLetter", "BadTouch", "BadKey"]
def names1 : List Str := ["BadText", "MOST_WIDE", "MOST_HIGH", "MOST_CLIENTS", "MOST_NAME", "MOST_FAR", "FORMS", "BOUNDS", "FIGURES", "MOST_FIGURES"]
def names : List Str := names0 ++ names1
abbrev R : PySem.W.OpenRow := PySem.W.OpenLaw.row PySem.Challenge.rw_surfacehall_k18_texts_refused
abbrev hk : PySem.W.Hook := HeY.hookY 5 ff dd tt tf ex
def ob (s : PySem.W.SharedT) : He.AlX := HeY.obsY 5 ff dd tt tf ex (HandSHeadRun.getT s)
theorem ob_eq (s : PySem.W.SharedT) : ob s = hk.obs s.abs := HeY.obsY_eq (HandSHeadRun.getT_eq s)
noncomputable abbrev theEnd (w : World) (os : PySem.OsState) := HandSHeadRun.endF (HandSHeadRun.stepQ (HandSHeadRun.denQ HandSHeadRun.tabQ) R.prog w) 5000 R.prog w os
abbrev theK (s : PySem.W.SharedT) : PySem.W.Frag := He.frT (HandSHeadRun.getT s) (HeY.asY (HandSHeadRun.getT s) 5)
theorem comb {S A B : Type} {x : Option S} {fl : S → A} {fs : S → B} {a : A} {b : B} {fk : S → PySem.W.Frag} {fa : List He.Fa} {fn : List He.DefD} {ts : List He.Tab} {ex : PySem.W.Frag → Bool} {tb : S → PySem.W.Frag → Bool} {w : World} (h1 : x.map fl = some a) (h2 : x.map fs = some b)
    (h3 : ∀ i, i < 1 → x.map (fun s => ((fa.drop (i * ((fa.length + 0) / 1))).take ((fa.length + 0) / 1)).all fun f => f.ok (fk s)) = some true) (h4 : x.map (fun s => (fn.all (fun d => d.ok (fk s)), fn.map fun d => He.fnW (fk s) d.at_)) = some (true, fn.map He.DefD.val))
    (h5 : x.map (fun s => (ts.map (fun t => He.dicW (fk s) (t.1 (fk s))), ex (fk s) && tb s (fk s))) = some (ts.map fun t => some (He.keysIn w.params t.2), true)) :
    x.map (fun s => (fl s, fs s, ((((fa.all fun f => f.ok (fk s)) && fn.all fun d => d.ok (fk s), fn.map fun d => He.fnW (fk s) d.at_), ts.map fun t => He.dicW (fk s) (t.1 (fk s))), ex (fk s) && tb s (fk s)))) = some (a, b, (((true, fn.map He.DefD.val), ts.map fun t => some (He.keysIn w.params t.2)), true)) := by
  cases x with
  | none => cases h1
  | some s =>
    simp only [Option.map_some, Option.some.injEq, Prod.mk.injEq] at h1 h2 h3 h4 h5 ⊢
    refine ⟨h1, h2, ⟨⟨?_, h4.2⟩, h5.1⟩, h5.2⟩
    rw [h4.1, Bool.and_true, List.all_eq_true]
    intro f hf
    obtain ⟨j, hj⟩ := List.mem_iff_getElem?.mp hf
    have hl := (List.getElem?_eq_some_iff.mp hj).1
    have c0 : 0 < (fa.length + 0) / 1 := by omega
    have d0 := Nat.div_add_mod j ((fa.length + 0) / 1)
    have m0 := Nat.mod_lt j c0
    have i0 : j / ((fa.length + 0) / 1) < 1 := by
      refine (Nat.div_lt_iff_lt_mul c0).mpr ?_
      omega
    refine List.all_eq_true.mp (h3 _ i0) f (List.mem_iff_getElem?.mpr ⟨j % ((fa.length + 0) / 1), ?_⟩)
    rw [List.getElem?_take, if_pos m0, List.getElem?_drop, Nat.mul_comm, d0, hj]
abbrev RT (w : World) (os : PySem.OsState) {A : Type} (f : PySem.W.SharedT → A) (a : A) : Prop := (theEnd w os).map f = some a
theorem runL_false (w : World) : ∀ os, RT (w.withFollow "special-get-raises" false) os (fun s => HandSHeadRun.looksF R.prog (PySem.W.boot_heap (w.withFollow "special-get-raises" false).params) s.abs) true := fun os => by kernel_rfl
theorem runS_false (w : World) : ∀ os, RT (w.withFollow "special-get-raises" false) os (fun s => HandSHeadRun.seenQ (PySem.W.view R.prog [44]) names (importedModules R.prog.main.body) (fun s => PySem.W.xlAt (PySem.W.view R.prog [44]) [] s && PySem.W.recOk R.toRowW.records s) s.abs) (PySem.W.openGood (PySem.W.view R.prog [44]) names) := fun os => by kernel_rfl
theorem runF0_false (w : World) : ∀ os, RT (w.withFollow "special-get-raises" false) os (fun s => ((ff.drop (0 * ((ff.length + 0) / 1))).take ((ff.length + 0) / 1)).all fun f => f.ok (theK s)) true := fun os => by kernel_rfl
theorem runD_false (w : World) : ∀ os, RT (w.withFollow "special-get-raises" false) os (fun s => (dd.all (fun d => d.ok (theK s)), dd.map fun d => He.fnW (theK s) d.at_)) (true, dd.map He.DefD.val) := fun os => by kernel_rfl
theorem runT_false (w : World) : ∀ os, RT (w.withFollow "special-get-raises" false) os (fun s => (tt.map (fun t => He.dicW (theK s) (t.1 (theK s))), ex (theK s) && He.tabsB (HandSHeadRun.getT s) tf (theK s))) (tt.map fun t => some (He.keysIn (w.withFollow "special-get-raises" false).params t.2), true) := fun os => by kernel_rfl
theorem run_false (w : World) : HandSHeadRun.RunEq R (PySem.W.view R.prog [44]) hk ob 5000 names (w.withFollow "special-get-raises" false) := fun os => comb (runL_false w os) (runS_false w os) (fun i hi => match i, hi with | 0, _ => runF0_false w os) (runD_false w os) (runT_false w os)
theorem runL_true (w : World) : ∀ os, RT (w.withFollow "special-get-raises" true) os (fun s => HandSHeadRun.looksF R.prog (PySem.W.boot_heap (w.withFollow "special-get-raises" true).params) s.abs) true := fun os => by kernel_rfl
theorem runS_true (w : World) : ∀ os, RT (w.withFollow "special-get-raises" true) os (fun s => HandSHeadRun.seenQ (PySem.W.view R.prog [44]) names (importedModules R.prog.main.body) (fun s => PySem.W.xlAt (PySem.W.view R.prog [44]) [] s && PySem.W.recOk R.toRowW.records s) s.abs) (PySem.W.openGood (PySem.W.view R.prog [44]) names) := fun os => by kernel_rfl
theorem runF0_true (w : World) : ∀ os, RT (w.withFollow "special-get-raises" true) os (fun s => ((ff.drop (0 * ((ff.length + 0) / 1))).take ((ff.length + 0) / 1)).all fun f => f.ok (theK s)) true := fun os => by kernel_rfl
theorem runD_true (w : World) : ∀ os, RT (w.withFollow "special-get-raises" true) os (fun s => (dd.all (fun d => d.ok (theK s)), dd.map fun d => He.fnW (theK s) d.at_)) (true, dd.map He.DefD.val) := fun os => by kernel_rfl
theorem runT_true (w : World) : ∀ os, RT (w.withFollow "special-get-raises" true) os (fun s => (tt.map (fun t => He.dicW (theK s) (t.1 (theK s))), ex (theK s) && He.tabsB (HandSHeadRun.getT s) tf (theK s))) (tt.map fun t => some (He.keysIn (w.withFollow "special-get-raises" true).params t.2), true) := fun os => by kernel_rfl
theorem run_true (w : World) : HandSHeadRun.RunEq R (PySem.W.view R.prog [44]) hk ob 5000 names (w.withFollow "special-get-raises" true) := fun os => comb (runL_true w os) (runS_true w os) (fun i hi => match i, hi with | 0, _ => runF0_true w os) (runD_true w os) (runT_true w os)
theorem run (w : World) : HandSHeadRun.RunEq R (PySem.W.view R.prog [44]) hk ob 5000 names w := PySem.W.byRow2 (P := fun w => HandSHeadRun.RunEq R _ _ _ _ names w) "special-get-raises" run_false run_true w
theorem tabs_nil {K : PySem.W.Frag} {H : Hp} (h : ∀ p ∈ tf.map (He.cT K), H p.2 = some (.tbl #[])) : LamX.Tabs (Ts K) H := fun p hp => ⟨#[], by rw [List.mem_singleton.mp hp]; exact h _ (List.mem_map_of_mem (f := He.cT K) (List.mem_cons_self ..)), by first | trivial | rfl | simp [TriplesOk] | decide, fun pos cv hc => by cases hc⟩
def spLawT0 (K : PySem.W.Frag) : Sp := fun vs H Q _ => ∃ (a : Addr) (ns : List Int), vs = [.ref a] ∧ SqL K H a (ns.map V.int) ∧ ns.length ≤ 63 ∧ LamX.Tabs (Ts K) H ∧ ∀ H', Q (.bl true) H'
end U
section
open PySem PySem.W PySem.Calls PyProof.Rows
set_option maxHeartbeats 0 in
theorem U.top (hl : ∀ (P : PySem.Program) (w : PySem.World) (K : PySem.W.Frag) (mg : PySem.Str → Option PySem.Value) (base : PySem.Heap), U.Tx w K mg → U.Tb base K mg → ∀ fd, U.FunLaw K fd → L2.FnOk P w K mg base L2.CX0 20 (He.fAd K ("law", none)) fd ["_law_script"] (U.spLawT0 K)) : PySem.Challenge.rw_surfacehall_k18_texts_refused.Holds := by
  w_on; o_law
  refine HandSHeadRun.head_any (r := OpenLaw.row PySem.Challenge.rw_surfacehall_k18_texts_refused) (q := view (OpenLaw.row PySem.Challenge.rw_surfacehall_k18_texts_refused).prog [44]) (H := U.hk) (ob := U.ob) (M := 5000) (loose := U.names) (d := HandSHeadRun.topDef (OpenLaw.row PySem.Challenge.rw_surfacehall_k18_texts_refused).prog 44) (kwd := []) U.ob_eq
    (by kernel_rfl) (fun s => by kernel_rfl) U.run (by kernel_rfl) (by kernel_rfl) (by kernel_rfl) (by rfl) (by first | assumption | decide +kernel) (by decide +kernel) ⟨rfl, rfl, rfl, rfl, rfl, by decide +kernel⟩ ?hw ?hc
  case hw => w_witness2
  case hc =>
    refine LamX.walk_ofTsE (l := PySem.Challenge.rw_surfacehall_k18_texts_refused) (n := 63) (k := 20) (x := "_law_script") (CX := fun _ => L2.CX0) rfl (by decide) (by kernel_rfl) ⟨rfl, by decide, by decide⟩ ?F (fun _ _ _ _ _ z => z)
    intro w mg fa h Y G hmg0
    obtain ⟨K, KX, c⟩ := Y
    have hmg : mg ("law" : PySem.Str) = some (.ref fa) := by
      have e : (HandSHeadRun.topDef (OpenLaw.row PySem.Challenge.rw_surfacehall_k18_texts_refused).prog 44).name = ("law" : PySem.Str) := by kernel_rfl
      rw [← e]
      exact hmg0
    have T : U.Tx w K mg := ⟨h, KX, G, c⟩
    obtain ⟨fd, F⟩ := U.fun_law T
    have e : fa = He.fAd K ("law", none) := by
      have e1 := hmg.symm.trans (U.g_law T)
      cases e1
      rfl
    subst e
    refine ⟨K, KX, fd, U.tf.map (He.cT K), U.spLawT0 K, fun p hp => ?_, fun p hp => ?_, fun p hp => ?_, fun s u => U.bind_law F s u, fun H a ns hl _ hH hS => ⟨a, ns, rfl, hS, hl, U.tabs_nil hH, fun _ => rfl⟩, fun base _ _ hB => hl _ _ _ _ _ T ⟨fun p hp => hB _ (List.mem_map_of_mem (f := He.cT K) hp)⟩ _ F⟩
    · obtain ⟨z, hz, rfl⟩ := List.mem_map.mp hp
      exact c.empty z hz
    · obtain ⟨z, hz, rfl⟩ := List.mem_map.mp hp
      exact c.out z hz
    · obtain ⟨z, hz, rfl⟩ := List.mem_map.mp hp
      exact codeHd_of_K KX (c.hd z hz)
end

namespace U
open PySem PySem.Spec PyProof.Rows L2
open C8 (Cal Met Mak pe_c pe_mk pe_mt pe_mt0 pe_gc sl_txt)
local macro_rules | `(tactic| wtm_at "cl") => `(tactic| exact clsK (by with_reducible first | exact cls_Look (by assumption) | exact cls_Surface (by assumption) | exact cls_Client (by assumption) | exact cls_House (by assumption)) (by rfl))
local macro_rules | `(tactic| wtm_at "na") => `(tactic| exact naK (by with_reducible first | exact na_Look_x (by assumption) | exact na_Look_y (by assumption) | exact na_Look_rank (by assumption) | exact na_Look_is_veiled (by assumption) | exact na_Look_marks (by assumption) | exact na_Surface_pending (by assumption) | exact na_Surface_ready (by assumption) | exact na_Surface_shown (by assumption) | exact na_Surface_top (by assumption) | exact na_Client_surfaces (by assumption) | exact na_Client_row (by assumption) | exact na_Client_ears (by assumption) | exact na_Client_is_there (by assumption) | exact na_House_wide (by assumption) | exact na_House_high (by assumption) | exact na_House_rows_of (by assumption) | exact na_House_marks (by assumption) | exact na_House_owners (by assumption) | exact na_House_places (by assumption) | exact na_House_fresh (by assumption) | exact na_House_fingers (by assumption) | exact na_House_focus (by assumption) | exact na_House_holder (by assumption)) (by rfl))
local macro_rules | `(tactic| wtm_at "fl") => `(tactic| (first
  | with_reducible (first | refine iFld ?_ | refine iSFld ?_ | refine iFldT ?_ | refine iMeth ?_ | refine iSlT ?_)
  | ((with_reducible refine gFldX ?_); refine ⟨_, _, _, by wtm_at "hp", by wtm_at "cl", by wtm_at "na", _, rfl, ?_⟩)
  | ((with_reducible refine gSFldX ?_); refine ⟨_, _, _, by wtm_at "hp", by wtm_at "cl", by wtm_at "na", rfl, _, rfl, ?_⟩)
  | ((with_reducible refine gMeth ?_); refine ⟨_, _, by wtm_at "hp", by rfl, ?_⟩)
  | fail))
local macro_rules | `(tactic| wtm_at "st") => `(tactic| (simp only [wipe, List.map_cons, List.map_nil, List.foldl_cons, List.foldl_nil, List.set_cons_succ, List.set_cons_zero]; exact rfl))
local macro_rules | `(tactic| wtm_at "hq") => `(tactic| (first | with_reducible assumption | with_reducible exact upd_same | ((with_reducible refine hUpd ?_ ?_); (first | assumption | exact Ne.symm (by assumption)); (wtm_at "hq")) | exact sameAt (by with_reducible assumption) (by wtm_at "hq") | fail))
local macro_rules | `(tactic| wtm_at "lv") => `(tactic| (first | with_reducible exact lvA | ((with_reducible refine lvU ?_); (wtm_at "lv")) | with_reducible exact lvS (by assumption) | exact lvSame (by with_reducible assumption) (by wtm_at "lv") | exact lvFr (by with_reducible assumption) (by wtm_at "lv") | fail))
local macro_rules | `(tactic| wtm_at "ne") => `(tactic| (first
  | assumption | exact Ne.symm (by assumption) | exact neL (by with_reducible assumption) (by wtm_at "lv") | exact Ne.symm (neL (by with_reducible assumption) (by wtm_at "lv")) | exact neN (by with_reducible assumption) (by wtm_at "hq") | exact Ne.symm (neN (by with_reducible assumption) (by wtm_at "hq")) | exact ne_of (by with_reducible assumption) (by with_reducible assumption) (by nofun) | fail))
local macro_rules | `(tactic| wtm_at "hp") => `(tactic| (first | with_reducible assumption | with_reducible exact upd_same | ((with_reducible refine hUpd ?_ ?_); (wtm_at "ne"); (wtm_at "hp")) | exact sameAt (by with_reducible assumption) (by wtm_at "hp") | fail))
local macro_rules | `(tactic| wtm_at "sl") => `(tactic| (first | assumption | exact SqL.of (by wtm_at "hp") | exact SqT.of (by wtm_at "hp") | fail))
local macro_rules | `(tactic| wtm_at "cc") => `(tactic| (first | (show (0 : Int) < _; omega) | exact ⟨by omega, by omega⟩ | exact .inl ⟨by omega, by omega⟩ | exact .inr ⟨by omega, by omega⟩ | exact ⟨by omega, by omega, by decide⟩ | fail))
local macro_rules | `(tactic| wtm_at "go") => `(tactic| repeat (first
  | with_reducible refine goo ?_
  | with_reducible refine iteYes rfl ?_ | with_reducible refine iteNNo rfl ?_
  | ((with_reducible refine iteNo ?_ ?_); decide +kernel) | ((with_reducible refine iteNYes ?_ ?_); decide +kernel)
  | ((with_reducible refine gIxL ?_); refine ⟨_, by wtm_at "sl", _, rfl, ?_⟩)
  | ((with_reducible refine gIxT ?_); refine ⟨_, by wtm_at "sl", _, rfl, ?_⟩)
  | ((with_reducible refine iI ?_ ?_); wtm_at "cc")
  | ((with_reducible refine gMeth ?_); refine ⟨_, _, by wtm_at "hp", by rfl, ?_⟩)
  | ((with_reducible refine gFldX ?_); refine ⟨_, _, _, by wtm_at "hp", by wtm_at "cl", by wtm_at "na", _, rfl, ?_⟩)
  | ((with_reducible refine gSFldX ?_); refine ⟨_, _, _, by wtm_at "hp", by wtm_at "cl", by wtm_at "na", rfl, _, rfl, ?_⟩)
  | ((with_reducible refine gLenL ?_); refine ⟨_, by wtm_at "sl", ?_⟩)
  | ((with_reducible refine gLenT ?_); refine ⟨_, by wtm_at "sl", ?_⟩)
  | ((with_reducible refine gSetL ?_); refine ⟨_, by wtm_at "hp", _, rfl, ?_⟩)
  | ((with_reducible refine gWL ?_); refine ⟨_, by wtm_at "sl", ?_⟩)
  | ((with_reducible refine gWT ?_); refine ⟨_, by wtm_at "sl", ?_⟩)
  | ((with_reducible refine gWE ?_); refine ⟨_, by wtm_at "sl", ?_⟩)
  | ((with_reducible refine gWR1 ?_ ?_); exact ⟨by omega, by omega⟩)
  | ((with_reducible refine gWR2 ?_ ?_); exact ⟨by omega, by omega, by omega, by omega⟩)
  | ((with_reducible refine gTupE ?_); refine ⟨_, by wtm_at "sl", rfl, ?_⟩)
  | ((with_reducible refine gTyL ?_ ?_); exact ⟨_, by wtm_at "sl"⟩)
  | ((with_reducible refine gTyD ?_ ?_); exact ⟨_, by wtm_at "hp"⟩)
  | ((with_reducible refine iSz ?_ ?_); rfl)
  | ((with_reducible refine gWipe2 ?_ ?_); (simp only [wipe, List.map_cons, List.map_nil, List.foldl_cons, List.foldl_nil, List.set_cons_succ, List.set_cons_zero]))
  | with_reducible refine nName (by wtm_at "st") ?_ | with_reducible refine nPR (by wtm_at "st") ?_ | with_reducible refine nPR3 (by wtm_at "st") ?_
  | ((with_reducible refine gVar ?_); refine ⟨_, rfl, ?_⟩)
  | fail))
local macro_rules | `(tactic| wtm_at "ii") => `(tactic| (first | with_reducible refine iIsiI (r := true) (by decide +kernel) ?_ | with_reducible refine iIsiI (r := false) (by decide +kernel) ?_ | with_reducible refine iIsiS (r := true) (by decide +kernel) ?_ | with_reducible refine iIsiS (r := false) (by decide +kernel) ?_ | with_reducible refine iIsiB (r := true) (by decide +kernel) ?_ | with_reducible refine iIsiB (r := false) (by decide +kernel) ?_ | with_reducible refine iIsiN (r := true) (by decide +kernel) ?_ | with_reducible refine iIsiN (r := false) (by decide +kernel) ?_ | fail))
/-! ### what is drawn from -/
def Drw (H : Hp) (ph pl : Addr) : Prop := ∃ (m : Int) (cs : List Int) (k : Int), H ph = some (.lst [.int m, .ref pl, .int k]) ∧ H pl = some (.lst (cs.map V.int)) ∧ 0 ≤ m ∧ m < 2147483647 ∧ cs.length ≤ 63
def spMix (K : PySem.W.Frag) : Sp := fun vs H Q _ => ∃ (a : Addr) (ns : List Int) (n : Int), vs = [.ref a, .int n] ∧ SqL K H a (ns.map V.int) ∧ ns.length ≤ 63 ∧ 0 ≤ n ∧ n < 2147483647 ∧ ∀ H' ph pl, Drw H' ph pl → Same H H' → H ph = none → H pl = none → Q (.ref ph) H'
def spNext : Sp := fun vs H Q _ => ∃ (ph pl : Addr) (n : Int), vs = [.ref ph, .int n] ∧ Drw H ph pl ∧ 0 < n ∧ n < 1073741824 ∧ ∀ H' r, Drw H' ph pl → Fr [ph, pl] H H' → 0 ≤ r → r < n → Q (.int r) H'
section
variable {P : Program} {w : World} {K : PySem.W.Frag} {mg : Str → Option Value} {base : Heap}
theorem ok_law_next (T : Tx w K mg) : Cal P w K mg base 1 "_law_next" spNext [] := by
  refine mk_law_next T (fun vs H Q E h => ?_) (fun cdv A outer s H vs Q E hr h => ?_)
  · obtain ⟨ph, pl, n, rfl, _⟩ := h
    rfl
  · obtain ⟨ph, pl, n, rfl, ⟨m, cs, k, eh, el, m0, m1, hl⟩, n0, n1, q⟩ := h
    refine ⟨_, (pss_cons (ps_set (i := 2) sc_law_next.nd rfl (.inl rfl) (pe_op op_mod (pe_ix ix_list (pv 0) pe_int (fun _ _ => rfl)) (pe_callB (c_max2 rfl) (by rfl) (f_max T) (by decide +kernel) (pa_cons pe_int (pa_cons (pe_callB c_len (by rfl) (f_len T) (by decide +kernel) (pa_cons (pe_ix ix_list (pv 0) pe_int (fun _ _ => rfl)) pa_nil)) pa_nil)))))
  (pss_cons (ps_set (i := 3) sc_law_next.nd rfl (.inl rfl) (pe_ifExp (pt_cmpR (op_neD hr.units) (pe_ix ix_list (pv 0) pe_int (fun _ _ => rfl)) (pe_lst pa_nil) (nomark _)) (pe_ix ix_list (pe_ix ix_list (pv 0) pe_int (fun _ _ => rfl)) (pv 2) (fun _ _ => rfl)) pe_int))
  (pss_cons (ps_if (pt_cmpR op_ge (pv 3) (pe_op op_pow pe_int pe_int) (nomark _)) (pss_cons (ps_asg (pe_op op_fdiv (pv 3) (pv 1)) (pg_sub (pe_ix ix_list (pv 0) pe_int (fun _ _ => rfl)) (pv 2) set_list))
  (pss_one (ps_ret (pe_op op_mod (pv 3) (pv 1))))) pss_nil)
  (pss_cons (ps_asg (pe_op op_mod (pe_op op_add (pe_op op_add (pe_op op_mul (pe_ix ix_list (pv 0) pe_int (fun _ _ => rfl)) pe_int) (pe_op op_mul (pv 3) pe_int)) pe_int) pe_int) (pg_sub (pv 0) pe_int set_list))
  (pss_cons (ps_asg (pe_op op_add (pe_ix ix_list (pv 0) pe_int (fun _ _ => rfl)) pe_int) (pg_sub (pv 0) pe_int set_list))
  (pss_one (ps_ret (pe_op op_mod (pe_op op_fdiv (pe_ix ix_list (pv 0) pe_int (fun _ _ => rfl)) pe_int) (pv 1))))))))), ?_⟩
    rw [st_law_next]
    have npl : ph ≠ pl := fun e => by
      rw [e, el] at eh
      have z := HO.lst.inj (Option.some.inj eh)
      match cs, z with
      | [_, _, _], z => simp at z
    wtm_at "go"
    generalize ea : k % (if ((cs.map V.int).length : Int) > 1 then ((cs.map V.int).length : Int) else 1) = at_
    refine iIfK (fun v H' => ∃ c : Int, v = .int c ∧ Same H H' ∧ (cs = [] → c = 0) ∧ (cs ≠ [] → 0 ≤ at_ ∧ at_.toNat < cs.length)) (fun Q' k' => ?_) (fun v H1 hv => ?_)
    · wtm_at "go"
      intro p np
      refine iNeDI (ns := cs) (ms := []) (by wtm_at "sl") (SqL.of upd_same) ?_
      wtm_at "go"
      first | refine iteD (fun e => ?_) (fun e => ?_) | refine iteN (fun e => ?_) (fun e => ?_) | refine ite2 (fun e => ?_) (fun e => ?_)
      · have hp : 0 < cs.length := by
          cases cs with
          | nil => exact absurd rfl e
          | cons _ _ => simp
        have b0 : 0 ≤ at_ := by
          rw [← ea, List.length_map]
          exact Int.emod_nonneg _ (by split <;> omega)
        have b1 : at_ < (cs.length : Int) := by
          rw [← ea, List.length_map]
          split
          · exact Int.emod_lt_of_pos _ (by omega)
          · have := Int.emod_lt_of_pos k (show (0 : Int) < 1 by decide)
            omega
        wtm_at "go"
        refine iIxL (by wtm_at "sl") (at_ints (j := at_.toNat) (by omega) (by omega)) (k' _ _ ⟨_, rfl, same_new np, fun z => absurd z e, fun _ => ⟨b0, by omega⟩⟩)
      · wtm_at "go"
        exact k' _ _ ⟨0, rfl, same_new np, fun _ => rfl, fun z => absurd e z⟩
    · obtain ⟨c, rfl, s1, c0, c1⟩ := hv
      have eh1 := s1 _ _ eh
      have el1 := s1 _ _ el
      wtm_at "go"
      first | refine iteD (fun e => ?_) (fun e => ?_) | refine iteN (fun e => ?_) (fun e => ?_) | refine ite2 (fun e => ?_) (fun e => ?_)
      · have hne : cs ≠ [] := fun z => by
          rw [c0 z] at e
          exact absurd e (by decide)
        obtain ⟨b0, b1⟩ := c1 hne
        wtm_at "go"
        refine iSetL (by wtm_at "hp") (ixN_nat (j := at_.toNat) (by omega) (by rw [List.length_map]; exact b1)) ?_
        wtm_at "go"
        refine q _ _ ⟨m, cs.set at_.toNat (c / n), k, ?_, ?_, m0, m1, by rw [List.length_set]; exact hl⟩ ((Fr.same s1).trans (Fr.set el1 rfl (by simp))) (Int.emod_nonneg _ (by omega)) (Int.emod_lt_of_pos _ n0)
        · wtm_at "hp"
        · rw [upd_same, set_ints]
      · wtm_at "go"
        refine q _ _ ⟨(m * 48271 + c * 69621 + 11) % 2147483647, cs, k + 1, upd_same, (by wtm_at "hp"), Int.emod_nonneg _ (by decide), Int.emod_lt_of_pos _ (by decide), hl⟩ (((Fr.same s1).trans (Fr.set eh1 rfl (by simp))).trans (Fr.set upd_same rfl (by simp))) (Int.emod_nonneg _ (by omega)) (Int.emod_lt_of_pos _ n0)
theorem ok_law_mix (T : Tx w K mg) : Cal P w K mg base 1 "_law_mix" (spMix K) [] := by
  refine mk_law_mix T (fun vs H Q E h => ?_) (fun cdv A outer s H vs Q E hr h => ?_)
  · obtain ⟨a, ns, n, rfl, _⟩ := h
    rfl
  · obtain ⟨a, ns, n, rfl, hS, hl, n0, n1, q⟩ := h
    refine ⟨_, (pss_cons (ps_set (i := 2) sc_law_mix.nd rfl (.inl rfl) (pv 1))
  (pss_cons (ps_for PassesOwn.never rfl (pi_list (pv 0)) (pg_name (i := 3) sc_law_mix.nd rfl (.inl rfl)) (pss_one (ps_set (i := 2) sc_law_mix.nd rfl (.inl rfl) (pe_op op_mod (pe_op op_add (pe_op op_add (pe_op op_mul (pv 2) pe_int) (pe_op op_mod (pv 3) pe_int)) pe_int) pe_int))))
  (pss_one (ps_ret (pe_lst (pa_cons (pv 2) (pa_cons (pe_callTy c_list (by rfl) (f_list T) (by decide +kernel) (pa_cons (pv 0) pa_nil)) (pa_cons pe_int pa_nil)))))))), ?_⟩
    rw [st_law_mix]
    wtm_at "go"
    refine eForL (xs := ns.map V.int) (fun i σ H' => H' = H ∧ ∃ (m : Int) (y : Option V), σ = [some (.ref a), some (.int n), some (.int m), y] ∧ 0 ≤ m ∧ m < 2147483647) ⟨rfl, n, _, rfl, n0, n1⟩ ?_ ?_ ?_
    · rintro i σ' H' _ ⟨rfl, _⟩
      exact hS
    · rintro i x σ' H' hx ⟨rfl, m, y, rfl, m0, m1⟩
      obtain ⟨c, rfl⟩ : ∃ c, x = V.int c := by
        rw [List.getElem?_map] at hx
        cases e : ns[i]? with
        | none => rw [e] at hx; cases hx
        | some c => rw [e] at hx; exact ⟨c, (Option.some.inj hx).symm⟩
      wtm_at "go"
      exact ⟨rfl, _, _, rfl, Int.emod_nonneg _ (by decide), Int.emod_lt_of_pos _ (by decide)⟩
    · rintro σ' H' ⟨rfl, m, y, rfl, m0, m1⟩
      wtm_at "go"
      refine iListL (by wtm_at "sl") (fun l nl => ?_)
      wtm_at "go"
      intro p np
      have npl : l ≠ p := (by wtm_at "ne")
      exact q _ p l ⟨m, ns, 0, upd_same, (by wtm_at "hp"), m0, m1, hl⟩ ((same_new nl).trans (same_new np)) ((same_new nl).free np) nl
end

/-! ### what surfaces are: plain -/
structure Lk where
  x : Int
  y : Int
  rank : Int
  veiled : Bool
  marks : List (List Int)
def Lk.new : Lk := ⟨0, 0, 0, false, [[0]]⟩
structure Sf where
  pending : Lk
  ready : Option Lk
  shown : Option Lk
  top : Option Int
def Sf.new : Sf := ⟨Lk.new, none, none, none⟩
abbrev Wd := List (Int × Sf)
def Wd.get (W : Wd) (n : Int) : Option Sf := W.lookup n
def Wd.put (W : Wd) (n : Int) (f : Sf → Sf) : Wd := W.map fun e => if e.1 = n then (e.1, f e.2) else e
def Wd.del (W : Wd) (n : Int) : Wd := W.filter fun e => decide (e.1 ≠ n)
def Wd.names (W : Wd) : List Int := W.map (·.1)
inductive Lt where
  | make (n : Int) | drop (n : Int) | size (n w h : Int) | paint (n x y w h m : Int) | place (n x y : Int) | rank (n r : Int) | veil (n : Int) | unveil (n : Int) | tie (n o : Int) | shw (n : Int) | hold (n : Int) | lt
def Lt.word : Lt → Str
  | .make _ => "make" | .drop _ => "drop" | .size _ _ _ => "size" | .paint _ _ _ _ _ _ => "paint" | .place _ _ _ => "place" | .rank _ _ => "rank" | .veil _ => "veil" | .unveil _ => "unveil" | .tie _ _ => "tie" | .shw _ => "show" | .hold _ => "hold" | .lt => "let"
def Lt.nums : Lt → List Int
  | .make n => [n] | .drop n => [n] | .size n w h => [n, w, h] | .paint n x y w h m => [n, x, y, w, h, m] | .place n x y => [n, x, y] | .rank n r => [n, r] | .veil n => [n] | .unveil n => [n] | .tie n o => [n, o] | .shw n => [n] | .hold n => [n] | .lt => []
def Lt.vs (l : Lt) : List V := .str l.word :: l.nums.map V.int
def Nm (n : Int) : Prop := 0 ≤ n ∧ n ≤ 9
/-- a letter of this paper: every number within its bounds -/
def Lt.ok : Lt → Prop
  | .make n => Nm n | .drop n => Nm n | .size n w h => Nm n ∧ (1 ≤ w ∧ w ≤ 12) ∧ 1 ≤ h ∧ h ≤ 8
  | .paint n x y w h m => Nm n ∧ (0 ≤ x ∧ x ≤ 11) ∧ (0 ≤ y ∧ y ≤ 7) ∧ (1 ≤ w ∧ w ≤ 12) ∧ (1 ≤ h ∧ h ≤ 8) ∧ 0 ≤ m ∧ m ≤ 9
  | .place n x y => Nm n ∧ (-20 ≤ x ∧ x ≤ 20) ∧ -20 ≤ y ∧ y ≤ 20 | .rank n r => Nm n ∧ 0 ≤ r ∧ r ≤ 9 | .veil n => Nm n | .unveil n => Nm n | .tie n o => Nm n ∧ Nm o | .shw n => Nm n | .hold n => Nm n | .lt => True
/-! sizes, paint -/
def sizedR (row : List Int) (w : Nat) : List Int := (row ++ List.replicate w 0).take w
def sized (m : List (List Int)) (w h : Nat) : List (List Int) := (List.range h).map fun y => sizedR (m.getD y []) w
def paintR (row : List Int) (x w : Nat) (c : Int) : List Int := row.take x ++ List.replicate w c ++ row.drop (x + w)
def paintM (m : List (List Int)) (x y w h : Nat) (c : Int) : List (List Int) := (List.range m.length).map fun k => if y ≤ k ∧ k < y + h then paintR (m.getD k []) x w c else m.getD k []
/-- a look behind a letter of size, paint, place, rank, veil, unveil -/
def pend (l : Lk) : Lt → Option Lk
  | .size _ w h => some { l with marks := sized l.marks w.toNat h.toNat }
  | .paint _ x y w h c => if x + w > ((l.marks.headD []).length : Int) ∨ y + h > (l.marks.length : Int) then none else some { l with marks := paintM l.marks x.toNat y.toNat w.toNat h.toNat c }
  | .place _ x y => some { l with x := x, y := y }
  | .rank _ r => some { l with rank := r }
  | .veil _ => some { l with veiled := true }
  | _ => some { l with veiled := false }
/-! parts -/
def sortI (l : List Int) : List Int := l.mergeSort (fun a b => decide (a ≤ b))
def Wd.parts (W : Wd) (n : Option Int) : List Int := (sortI W.names).filter fun p => decide ((W.get p).map (·.top) = some n)
def under : Nat → Wd → Int → List Int
  | 0, _, n => [n]
  | f + 1, W, n => n :: (W.parts (some n)).flatMap (under f W)
/-- whether n may be tied to o -/
def mayTie (W : Wd) (n o : Int) : Bool :=
  match W.get n, W.get o with
  | some s, some t => !decide (n = o) && s.shown.isNone && s.ready.isNone && s.top.isNone && (W.parts (some n)).isEmpty && (match t.top with | none => true | some u => (match W.get u with | some s' => s'.top.isNone | none => false))
  | _, _ => false
def Lt.name : Lt → Int
  | .make n => n | .drop n => n | .size n _ _ => n | .paint n _ _ _ _ _ => n | .place n _ _ => n | .rank n _ => n | .veil n => n | .unveil n => n | .tie n _ => n | .shw n => n | .hold n => n | .lt => 0
/-- what show shows: those that are ready, under n -/
def showns (W : Wd) (n : Int) : List Int := (under 3 W n).filter fun p => match W.get p with | some s => s.ready.isSome | none => false
def showOne (s : Sf) : Sf := { s with shown := s.ready, ready := none }
def doShow (W : Wd) (n : Int) : Wd × List Int :=
  let W1 := W.put n fun s => { s with ready := some s.pending }
  match (W.get n).bind (·.top) with
  | some _ => (W1, [])
  | none => ((showns W1 n).foldl (fun V p => V.put p showOne) W1, showns W1 n)
def doDrop (W : Wd) (n : Int) : Wd := (under 3 W n).foldl (fun V p => V.del p) W
/-- a letter done: the surfaces behind it, those shown, those dropped; none where it can't be -/
def does (W : Wd) : Lt → Option (Wd × List Int × List Int)
  | .lt => some (W, [], [])
  | .make n => if (W.get n).isSome then none else some (W ++ [(n, Sf.new)], [], [])
  | .tie n o => if mayTie W n o then some (W.put n fun s => { s with top := some o }, [], []) else none
  | .hold n => if (W.get n).isSome then some (W, [], []) else none
  | .drop n => if (W.get n).isSome then some (doDrop W n, [], under 3 W n) else none
  | .shw n => if (W.get n).isSome then some ((doShow W n).1, (doShow W n).2, []) else none
  | l => match W.get l.name with
    | none => none
    | some s => (pend s.pending l).map fun k => (W.put l.name fun s => { s with pending := k }, [], [])

/-! ### the law's surfaces: how they lie -/
section
variable (K : PySem.W.Frag) (H : Hp)
def RowT (v : V) (r : List Int) : Prop := ∃ a, v = .ref a ∧ SqT K H a (r.map V.int)
def MkT (v : V) (m : List (List Int)) : Prop := ∃ a vs, v = .ref a ∧ SqT K H a vs ∧ Paired (RowT K H) vs m
def LkT (v : V) (l : Lk) : Prop := ∃ a vm, v = .ref a ∧ SqT K H a [.int l.x, .int l.y, .int l.rank, .bl l.veiled, vm] ∧ MkT K H vm l.marks
def OLk (v : V) : Option Lk → Prop
  | none => v = .non
  | some l => LkT K H v l
end
def oI : Option Int → V
  | none => .non
  | some i => .int i
section
variable {K : PySem.W.Frag} {H H' : Hp} {S : List Addr}
theorem RowT.fr {v : V} {r : List Int} (f : Fr S H H') (h : RowT K H v r) : RowT K H' v r := let ⟨a, e, q⟩ := h; ⟨a, e, f.sqT q⟩
theorem MkT.fr {v : V} {m : List (List Int)} (f : Fr S H H') (h : MkT K H v m) : MkT K H' v m := let ⟨a, vs, e, q, p⟩ := h; ⟨a, vs, e, f.sqT q, pMap p fun _ _ z => RowT.fr f z⟩
theorem LkT.fr {v : V} {l : Lk} (f : Fr S H H') (h : LkT K H v l) : LkT K H' v l := let ⟨a, vm, e, q, p⟩ := h; ⟨a, vm, e, f.sqT q, p.fr f⟩
theorem OLk.fr {v : V} : ∀ {o : Option Lk}, Fr S H H' → OLk K H v o → OLk K H' v o
  | none, _, h => h
  | some _, f, h => LkT.fr f h
end
section
variable {P : Program} {w : World} {K : PySem.W.Frag} {mg : Str → Option Value} {base : Heap}
def spSized (K : PySem.W.Frag) : Sp := fun vs H Q _ => ∃ v m wd hg, vs = [v, .int wd, .int hg] ∧ MkT K H v m ∧ m.length ≤ 8 ∧ (∀ r ∈ m, r.length ≤ 12) ∧ (1 ≤ wd ∧ wd ≤ 12) ∧ (1 ≤ hg ∧ hg ≤ 8) ∧ ∀ H' u, Same H H' → MkT K H' u (sized m wd.toNat hg.toNat) → Q u H'
theorem ok_law_sized (T : Tx w K mg) : Cal P w K mg base 1 "_law_sized" (spSized K) [] := by
  refine mk_law_sized T (fun vs H Q E h => ?_) (fun cdv A outer s H vs Q E hr h => ?_)
  · obtain ⟨v, m, wd, hg, rfl, _⟩ := h
    rfl
  · obtain ⟨v, m, wd, hg, rfl, ⟨a, rs, rfl, hM, hP⟩, hml, hrl, hw, hh, q⟩ := h
    refine ⟨_, (pss_cons (ps_set (i := 3) sc_law_sized.nd rfl (.inl rfl) (pe_lst pa_nil))
  (pss_cons (ps_for PassesOwn.never rfl (pi_range1 rfl (f_range T) (pa_cons (pv 2) pa_nil)) (pg_name (i := 4) sc_law_sized.nd rfl (.inl rfl)) (pss_cons (ps_set (i := 5) sc_law_sized.nd rfl (.inl rfl) (pe_ifExp (pt_cmpR op_lt (pv 4) (pe_callB c_len (by rfl) (f_len T) (by decide +kernel) (pa_cons (pv 0) pa_nil)) (nomark _)) (pe_ix ix_tup (pv 0) (pv 4) (fun _ _ => rfl)) (pe_tup pa_nil)))
  (pss_one (ps_expr (pe_bm PySem.F.plainAttrs_list PySem.F.slot_list_append PySem.F.type_list_append mt_append (pv 3) (pa_cons (pe_slice sl_tupA (pe_op op_catA (pv 5) (pe_op op_repTA (pe_tup (pa_cons pe_int pa_nil)) (pv 1))) po_none (po_some (pv 1))) pa_nil))))))
  (pss_one (ps_ret (pe_callTy c_tuple (by rfl) (f_tuple T) (by decide +kernel) (pa_cons (pv 3) pa_nil)))))), ?_⟩
    rw [st_law_sized]
    wtm_at "go"
    intro p np
    wtm_at "go"
    have hrs : rs.length = m.length := pLen hP
    refine eForR (lo := 0) (n := hg.toNat) (fun i σ H' => ∃ ys y4 y5, σ = [some (.ref a), some (.int wd), some (.int hg), some (.ref p), y4, y5] ∧ Same H H' ∧ H p = none ∧ H' p = some (.lst ys) ∧ Paired (RowT K H') ys ((sized m wd.toNat hg.toNat).take i))
      ⟨[], _, _, rfl, same_new np, np, upd_same, .nil⟩ ?_ ?_
    · rintro i σ H1 hi ⟨ys, y4, y5, rfl, sm, _, hp, hys⟩
      wtm_at "go"
      refine iIfK (fun v H' => Same H1 H' ∧ RowT K H' v (m.getD i [])) (fun Q' k' => ?_) (fun v H2 hv => ?_)
      · wtm_at "go"
        refine gLenT ⟨_, sqT_same sm hM, ?_⟩
        wtm_at "go"
        first | refine iteD (fun e => ?_) (fun e => ?_) | refine iteN (fun e => ?_) (fun e => ?_) | refine ite2 (fun e => ?_) (fun e => ?_)
        · have hi2 : i < m.length := by omega
          obtain ⟨rv, e1, e2⟩ := pGet hP (List.getElem?_eq_getElem hi2)
          obtain ⟨ra, rfl, hra⟩ := e2
          wtm_at "go"
          refine iIxT (sqT_same sm hM) (at_of (j := i) (by omega) e1) (k' _ _ ⟨Same.refl _, ra, rfl, ?_⟩)
          rw [List.getD_eq_getElem?_getD, List.getElem?_eq_getElem hi2]
          exact sqT_same sm hra
        · wtm_at "go"
          intro t nt
          refine k' _ _ ⟨same_new nt, t, rfl, ?_⟩
          rw [List.getD_eq_getElem?_getD, List.getElem?_eq_none (by omega)]
          exact SqT.of upd_same
      · obtain ⟨s2, ra, rfl, hra⟩ := hv
        wtm_at "go"
        intro t nt
        wtm_at "go"
        refine iRepA (xs := [.int 0]) (SqT.of upd_same) (by simp) hw.1 (by omega) (by decide) (fun c H3 s3 hc => ?_)
        rw [rep_one] at hc
        have s23 : Same H2 H3 := (same_new nt).trans s3
        refine iCatA (sqT_same s23 hra) hc ?_ (fun c2 H4 s4 hc2 => ?_)
        · have : (m.getD i []).length ≤ 12 := by
            rw [List.getD_eq_getElem?_getD]
            cases e : m[i]? with
            | none => exact Nat.zero_le _
            | some r => exact hrl r (List.mem_of_getElem? e)
          rw [List.length_map, List.length_replicate]
          exact Nat.le_trans (show _ ≤ 24 by omega) (by decide)
        · wtm_at "go"
          refine iSlA hc2 (fun c3 H5 s5 hc3 => ?_)
          wtm_at "go"
          have s15 : Same H1 H5 := s2.trans (s23.trans (s4.trans s5))
          have hyl : ys.length ≤ 8 := by
            have := pLen hys
            rw [List.length_take] at this
            omega
          refine gAppend ⟨_, s15 _ _ hp, Nat.lt_of_le_of_lt hyl (by decide), ?_⟩
          refine ⟨_, _, _, rfl, fun b o e => ?_, np, upd_same, ?_⟩
          · rw [upd_ne (ne_of_none e np)]
            exact s15 _ _ (sm _ _ e)
          · rw [take_succ (x := sizedR (m.getD i []) wd.toNat)]
            · refine pSnoc (pMap hys fun _ _ z => ?_) ⟨c3, rfl, ?_⟩
              · exact (RowT.fr (Fr.same (S := [p]) s15) z).fr (Fr.set (S := [p]) (s15 _ _ hp) rfl (by simp))
              · refine (Fr.set (S := [p]) (s15 _ _ hp) rfl (by simp)).sqT ?_
                have ew : wd = ((wd.toNat : Nat) : Int) := by omega
                rw [ew, cut_to] at hc3
                rw [sizedR, List.map_take, List.map_append, List.map_replicate]
                exact hc3
            · unfold sized
              rw [List.getElem?_map, List.getElem?_range hi]
              rfl
    · rintro σ H1 ⟨ys, y4, y5, rfl, sm, _, hp, hys⟩
      wtm_at "go"
      refine iTupL (SqL.of hp) (fun t nt => ?_)
      refine q _ _ (sm.trans (same_new nt)) ⟨t, ys, rfl, SqT.of upd_same, ?_⟩
      rw [List.take_of_length_le (by simp [sized])] at hys
      exact pMap hys fun _ _ z => z.fr (Fr.new (S := []) nt)
end

/-! ### a look behind a letter -/
/-- rows of one width, marks of this paper -/
structure Rect (m : List (List Int)) : Prop where
  h1 : 1 ≤ m.length
  h8 : m.length ≤ 8
  w1 : 1 ≤ (m.headD []).length
  w12 : (m.headD []).length ≤ 12
  all : ∀ r ∈ m, r.length = (m.headD []).length
theorem Rect.le (h : Rect m) : ∀ r ∈ m, r.length ≤ 12 := fun r hr => by rw [h.all r hr]; exact h.w12
theorem Rect.row (h : Rect m) {k : Nat} (hk : k < m.length) : (m.getD k []).length = (m.headD []).length := by
  rw [List.getD_eq_getElem?_getD, List.getElem?_eq_getElem hk]
  exact h.all _ (List.getElem_mem hk)
theorem headD_getD (m : List (List Int)) : m.headD [] = m.getD 0 [] := by cases m <;> rfl
theorem paintM_len (m : List (List Int)) (x y w h : Nat) (c : Int) : (paintM m x y w h c).length = m.length := by simp [paintM]
theorem paintM_get {m : List (List Int)} {x y w h : Nat} {c : Int} {k : Nat} (hk : k < m.length) : (paintM m x y w h c)[k]? = some (if y ≤ k ∧ k < y + h then paintR (m.getD k []) x w c else m.getD k []) := by
  unfold paintM
  rw [List.getElem?_map, List.getElem?_range hk]
  rfl
theorem paintM_zero (m : List (List Int)) (x y w : Nat) (c : Int) : paintM m x y w 0 c = m := by
  apply List.ext_getElem?
  intro k
  by_cases hk : k < m.length
  · rw [paintM_get hk, if_neg (by omega), List.getD_eq_getElem?_getD, List.getElem?_eq_getElem hk]
    rfl
  · rw [List.getElem?_eq_none (by rw [paintM_len]; omega), List.getElem?_eq_none (by omega)]
theorem paintM_step {m : List (List Int)} {x y w i : Nat} {c : Int} (h : y + i < m.length) : (paintM m x y w i c).set (y + i) (paintR (m.getD (y + i) []) x w c) = paintM m x y w (i + 1) c := by
  apply List.ext_getElem?
  intro k
  by_cases hk : k < m.length
  · rw [paintM_get hk]
    by_cases e : k = y + i
    · subst e
      rw [List.getElem?_set_self (by rw [paintM_len]; exact h), if_pos (by omega)]
    · rw [List.getElem?_set_ne (by omega), paintM_get hk]
      by_cases g : y ≤ k ∧ k < y + i
      · rw [if_pos g, if_pos (by omega)]
      · rw [if_neg g, if_neg (by omega)]
  · rw [List.getElem?_eq_none (by rw [List.length_set, paintM_len]; omega), List.getElem?_eq_none (by rw [paintM_len]; omega)]
/-- a letter that changes what is pending -/
def Lt.chg : Lt → Bool
  | .size _ _ _ => true | .paint _ _ _ _ _ _ => true | .place _ _ _ => true | .rank _ _ => true | .veil _ => true | .unveil _ => true | _ => false
section
variable {P : Program} {w : World} {K : PySem.W.Frag} {mg : Str → Option Value} {base : Heap}
def spPending (K : PySem.W.Frag) : Sp := fun vs H Q _ => ∃ v la k l, vs = [v, .ref la] ∧ LkT K H v k ∧ Rect k.marks ∧ SqT K H la (Lt.vs l) ∧ l.ok ∧ l.chg = true ∧ ∀ H' u, Same H H' → OLk K H' u (pend k l) → Q u H'
theorem ok_law_pending (T : Tx w K mg) : Cal P w K mg base 2 "_law_pending" (spPending K) [] := by
  refine mk_law_pending T (fun vs H Q E h => ?_) (fun cdv A outer s H vs Q E hr h => ?_)
  · obtain ⟨v, la, k, l, rfl, _⟩ := h
    rfl
  · obtain ⟨v, la, k, l, rfl, ⟨a, vm, rfl, hk, hm⟩, hR, hl, hok, hc, q⟩ := h
    refine ⟨_, (pss_cons (ps_asg (pv 0) (pg_tup (n := 5) rfl (pgs_cons (pg_name (i := 2) sc_law_pending.nd rfl (.inl rfl)) (pgs_cons (pg_name (i := 3) sc_law_pending.nd rfl (.inl rfl)) (pgs_cons (pg_name (i := 4) sc_law_pending.nd rfl (.inl rfl)) (pgs_cons (pg_name (i := 5) sc_law_pending.nd rfl (.inl rfl)) (pgs_cons (pg_name (i := 6) sc_law_pending.nd rfl (.inl rfl)) pgs_nil)))))))
  (pss_cons (ps_set (i := 7) sc_law_pending.nd rfl (.inl rfl) (pe_ix ix_tup (pv 1) pe_int (fun _ _ => rfl)))
  (pss_cons (ps_if (pt_cmpR op_eq (pv 7) pe_str (nomark _)) (pss_one (ps_ret (pe_tup (pa_cons (pv 2) (pa_cons (pv 3) (pa_cons (pv 4) (pa_cons (pv 5) (pa_cons (pe_c (ok_law_sized T) hr (by omega) rfl (pa_cons (pv 6) (pa_cons (pe_ix ix_tup (pv 1) pe_int (fun _ _ => rfl)) (pa_cons (pe_ix ix_tup (pv 1) pe_int (fun _ _ => rfl)) pa_nil)))) pa_nil)))))))) pss_nil)
  (pss_cons (ps_if (pt_cmpR op_eq (pv 7) pe_str (nomark _)) (pss_cons (ps_asg (pe_slice sl_tupA (pv 1) (po_some pe_int) po_none) (pg_tup (n := 5) rfl (pgs_cons (pg_name (i := 8) sc_law_pending.nd rfl (.inl rfl)) (pgs_cons (pg_name (i := 9) sc_law_pending.nd rfl (.inl rfl)) (pgs_cons (pg_name (i := 10) sc_law_pending.nd rfl (.inl rfl)) (pgs_cons (pg_name (i := 11) sc_law_pending.nd rfl (.inl rfl)) (pgs_cons (pg_name (i := 12) sc_law_pending.nd rfl (.inl rfl)) pgs_nil)))))))
  (pss_cons (ps_if (PW.pt (pw_or (pt_cmpR op_gt (pe_op op_add (pv 8) (pv 10)) (pe_callB c_len (by rfl) (f_len T) (by decide +kernel) (pa_cons (pe_ix ix_tup (pv 6) pe_int (fun _ _ => rfl)) pa_nil)) (nomark _)) (pw_or1 (pt_cmpR op_gt (pe_op op_add (pv 9) (pv 11)) (pe_callB c_len (by rfl) (f_len T) (by decide +kernel) (pa_cons (pv 6) pa_nil)) (nomark _))))) (pss_one (ps_ret pe_non)) pss_nil)
  (pss_cons (ps_set (i := 13) sc_law_pending.nd rfl (.inl rfl) (pe_callTy c_list (by rfl) (f_list T) (by decide +kernel) (pa_cons (pv 6) pa_nil)))
  (pss_cons (ps_for PassesOwn.never rfl (pi_range2 rfl (f_range T) (pa_cons (pv 9) (pa_cons (pe_op op_add (pv 9) (pv 11)) pa_nil))) (pg_name (i := 14) sc_law_pending.nd rfl (.inl rfl)) (pss_one (ps_asg (pe_op op_catA (pe_op op_catA (pe_slice sl_tupA (pe_ix ix_list (pv 13) (pv 14) (fun _ _ => rfl)) po_none (po_some (pv 8))) (pe_op op_repTA (pe_tup (pa_cons (pv 12) pa_nil)) (pv 10))) (pe_slice sl_tupA (pe_ix ix_list (pv 13) (pv 14) (fun _ _ => rfl)) (po_some (pe_op op_add (pv 8) (pv 10))) po_none)) (pg_sub (pv 13) (pv 14) set_list))))
  (pss_one (ps_ret (pe_tup (pa_cons (pv 2) (pa_cons (pv 3) (pa_cons (pv 4) (pa_cons (pv 5) (pa_cons (pe_callTy c_tuple (by rfl) (f_tuple T) (by decide +kernel) (pa_cons (pv 13) pa_nil)) pa_nil)))))))))))) pss_nil)
  (pss_cons (ps_if (pt_cmpR op_eq (pv 7) pe_str (nomark _)) (pss_one (ps_ret (pe_tup (pa_cons (pe_ix ix_tup (pv 1) pe_int (fun _ _ => rfl)) (pa_cons (pe_ix ix_tup (pv 1) pe_int (fun _ _ => rfl)) (pa_cons (pv 4) (pa_cons (pv 5) (pa_cons (pv 6) pa_nil)))))))) pss_nil)
  (pss_cons (ps_if (pt_cmpR op_eq (pv 7) pe_str (nomark _)) (pss_one (ps_ret (pe_tup (pa_cons (pv 2) (pa_cons (pv 3) (pa_cons (pe_ix ix_tup (pv 1) pe_int (fun _ _ => rfl)) (pa_cons (pv 5) (pa_cons (pv 6) pa_nil)))))))) pss_nil)
  (pss_one (ps_ret (pe_tup (pa_cons (pv 2) (pa_cons (pv 3) (pa_cons (pv 4) (pa_cons (pe_cmpR op_eq (pv 7) pe_str (nomark _)) (pa_cons (pv 6) pa_nil)))))))))))))), ?_⟩
    rw [st_law_pending]
    wtm_at "go"
    cases l with
    | size n wd hg =>
      have hl : SqT K H la [.str "size", .int n, .int wd, .int hg] := hl
      obtain ⟨_, hw, hh⟩ := hok
      wtm_at "go"
      refine ⟨vm, k.marks, wd, hg, rfl, hm, hR.h8, hR.le, hw, hh, fun H' u s1 hu => ?_⟩
      wtm_at "go"
      intro t nt
      refine q _ _ (s1.trans (same_new nt)) ⟨t, u, rfl, SqT.of upd_same, hu.fr (Fr.new (S := []) nt)⟩
    | paint n x y wd hg c =>
      have hl : SqT K H la [.str "paint", .int n, .int x, .int y, .int wd, .int hg, .int c] := hl
      obtain ⟨_, hx, hy, hw, hh, _⟩ := hok
      obtain ⟨am, rs, rfl, hM, hP⟩ := id hm
      wtm_at "go"
      refine iSlA hl (fun cc H1 s1 hc1 => ?_)
      rw [show (2 : Int) = ((2 : Nat) : Int) from rfl, cut_from] at hc1
      have hc1 : SqT K H1 cc [.int x, .int y, .int wd, .int hg, .int c] := hc1
      have hk1 := sqT_same s1 hk
      have hM1 := sqT_same s1 hM
      have h0 : 0 < k.marks.length := hR.h1
      obtain ⟨v0, e0, a0, rfl, hr0⟩ := pGet hP (List.getElem?_eq_getElem h0)
      have hr1 := sqT_same s1 hr0
      have ehd : k.marks.headD [] = k.marks[0] := by
        rw [headD_getD, List.getD_eq_getElem?_getD, List.getElem?_eq_getElem h0]
        rfl
      have erl : rs.length = k.marks.length := pLen hP
      wtm_at "go"
      refine iIxT hM1 (at_of (j := 0) rfl e0) ?_
      wtm_at "go"
      refine ite2 (fun e1 => ?_) (fun e1 => ?_)
      · wtm_at "go"
        refine q _ _ s1 ?_
        have e2 := of_decide_eq_true e1
        rw [List.length_map] at e2
        have : pend k (.paint n x y wd hg c) = none := if_pos (.inl (by rw [ehd]; omega))
        rw [this]
        rfl
      · have e2 : ¬ _ := fun z => e1 (decide_eq_true z)
        rw [List.length_map] at e2
        wtm_at "go"
        refine ite2 (fun e3 => ?_) (fun e3 => ?_)
        · wtm_at "go"
          refine q _ _ s1 ?_
          have e4 := of_decide_eq_true e3
          have : pend k (.paint n x y wd hg c) = none := if_pos (.inr (by omega))
          rw [this]
          rfl
        · have e4 : ¬ _ := fun z => e3 (decide_eq_true z)
          have epd : pend k (.paint n x y wd hg c) = some { k with marks := paintM k.marks x.toNat y.toNat wd.toNat hg.toNat c } := if_neg (by rw [ehd]; omega)
          rw [epd] at q
          wtm_at "go"
          refine iListT hM1 (fun p np => ?_)
          wtm_at "go"
          have ehg : (y + hg - y).toNat = hg.toNat := by omega
          rw [ehg]
          refine eForR (lo := y) (n := hg.toNat) (fun i σ H' => ∃ ys z14, σ = [some (.ref a), some (.ref la), some (.int k.x), some (.int k.y), some (.int k.rank), some (.bl k.veiled), some (.ref am), some (.str "paint"), some (.int x), some (.int y), some (.int wd), some (.int hg), some (.int c), some (.ref p), z14] ∧ Fr [p] H1 H' ∧ H' p = some (.lst ys) ∧ Paired (RowT K H') ys (paintM k.marks x.toNat y.toNat wd.toNat i c))
            ⟨rs, _, rfl, Fr.new np, upd_same, ?_⟩ ?_ ?_
          · rw [paintM_zero]
            exact pMap hP fun _ _ z => (z.fr (Fr.same (S := []) s1)).fr (Fr.new (S := []) np)
          · rintro i σ H2 hi ⟨ys, z14, rfl, f2, hp2, hys⟩
            have hyi : y.toNat + i < k.marks.length := by omega
            have hyl : ys.length = k.marks.length := by rw [pLen hys, paintM_len]
            obtain ⟨vr, er, ar, rfl, hrr⟩ := pGet hys (paintM_get hyi)
            rw [if_neg (by omega)] at hrr
            have hrl : (k.marks.getD (y.toNat + i) []).length ≤ 12 := by rw [hR.row hyi]; exact hR.w12
            wtm_at "go"
            refine iIxL (SqL.of hp2) (at_of (j := y.toNat + i) (by omega) er) ?_
            wtm_at "go"
            refine iSlA hrr (fun c3 H3 s3 hc3 => ?_)
            rw [show x = ((x.toNat : Nat) : Int) by omega, cut_to] at hc3
            wtm_at "go"
            intro t nt
            wtm_at "go"
            refine iRepA (xs := [.int c]) (SqT.of upd_same) (by simp) hw.1 (by omega) (by simp) (fun c4 H4 s4 hc4 => ?_)
            rw [rep_one] at hc4
            have s34 : Same H3 H4 := (same_new nt).trans s4
            refine iCatA (sqT_same s34 hc3) hc4 ?_ (fun c5 H5 s5 hc5 => ?_)
            · rw [List.length_take, List.length_map, List.length_replicate]
              exact Nat.le_trans (show _ ≤ 24 by omega) (by decide)
            · have s25 : Same H2 H5 := s3.trans (s34.trans s5)
              have hp5 := s25 _ _ hp2
              wtm_at "go"
              refine iIxL (SqL.of hp5) (at_of (j := y.toNat + i) (by omega) er) ?_
              wtm_at "go"
              refine iSlA (sqT_same s25 hrr) (fun c6 H6 s6 hc6 => ?_)
              rw [show x + wd = ((x.toNat + wd.toNat : Nat) : Int) by omega, cut_from] at hc6
              refine iCatA (sqT_same s6 hc5) hc6 ?_ (fun c7 H7 s7 hc7 => ?_)
              · simp only [List.length_append, List.length_take, List.length_map, List.length_replicate, List.length_drop]
                exact Nat.le_trans (show _ ≤ 48 by omega) (by decide)
              · have s27 : Same H2 H7 := s25.trans (s6.trans s7)
                have hp7 := s27 _ _ hp2
                wtm_at "go"
                refine gSetL ⟨_, hp7, y.toNat + i, ixN_nat (by omega) (by omega), ?_⟩
                refine ⟨_, _, rfl, (f2.trans (Fr.same s27)).trans (Fr.set hp7 rfl (by simp)), upd_same, ?_⟩
                have hcv : RowT K H7 (.ref c7) (paintR (k.marks.getD (y.toNat + i) []) x.toNat wd.toNat c) := by
                  refine ⟨c7, rfl, ?_⟩
                  rw [paintR, List.map_append, List.map_append, List.map_take, List.map_replicate, List.map_drop]
                  exact hc7
                rw [← paintM_step hyi]
                exact pMap (pSet hcv (y.toNat + i) (pMap hys fun _ _ z => z.fr (Fr.same (S := []) s27))) fun _ _ z => z.fr (Fr.set (S := [p]) hp7 rfl (by simp))
          · rintro σ H2 ⟨ys, z14, rfl, f2, hp2, hys⟩
            wtm_at "go"
            refine iTupL (SqL.of hp2) (fun t nt => ?_)
            wtm_at "go"
            intro u nu
            have hpn : p ≠ t := (by wtm_at "ne")
            have fF : Fr [p] H1 (upd (upd H2 t (.tup ys)) u (.tup [.int k.x, .int k.y, .int k.rank, .bl k.veiled, .ref t])) := (f2.trans (Fr.new nt)).trans (Fr.new nu)
            refine q _ _ (fun b o e => ?_) ⟨u, .ref t, rfl, SqT.of upd_same, t, ys, rfl, SqT.of (by wtm_at "hp"), pMap hys fun _ _ z => (z.fr (Fr.new (S := []) nt)).fr (Fr.new (S := []) nu)⟩
            refine fF.at_ _ _ (s1 _ _ e) fun z => ?_
            rw [List.mem_singleton.mp z] at e
            rw [s1 _ _ e] at np
            cases np
    | place n x y =>
      have hl : SqT K H la [.str "place", .int n, .int x, .int y] := hl
      wtm_at "go"
      intro t nt
      exact q _ _ (same_new nt) ⟨t, vm, rfl, SqT.of upd_same, hm.fr (Fr.new (S := []) nt)⟩
    | rank n r =>
      have hl : SqT K H la [.str "rank", .int n, .int r] := hl
      wtm_at "go"
      intro t nt
      exact q _ _ (same_new nt) ⟨t, vm, rfl, SqT.of upd_same, hm.fr (Fr.new (S := []) nt)⟩
    | veil n =>
      have hl : SqT K H la [.str "veil", .int n] := hl
      wtm_at "go"
      intro t nt
      exact q _ _ (same_new nt) ⟨t, vm, rfl, SqT.of upd_same, hm.fr (Fr.new (S := []) nt)⟩
    | unveil n =>
      have hl : SqT K H la [.str "unveil", .int n] := hl
      wtm_at "go"
      intro t nt
      exact q _ _ (same_new nt) ⟨t, vm, rfl, SqT.of upd_same, hm.fr (Fr.new (S := []) nt)⟩
    | _ => cases hc
end

/-! ### the law's surfaces in a dict -/
def SfAt (K : PySem.W.Frag) (H : Hp) (d : Addr) (s : Sf) : Prop := ∃ vp vr vs, H d = some (.dK [(.inr "pending", vp), (.inr "ready", vr), (.inr "shown", vs), (.inr "top", oI s.top)]) ∧ LkT K H vp s.pending ∧ OLk K H vr s.ready ∧ OLk K H vs s.shown
abbrev WL_ := List (Int × Addr × Sf)
def wd (L : WL_) : Wd := L.map fun e => (e.1, e.2.2)
def kvW (L : WL_) : List (Key × V) := L.map fun e => (.inl e.1, .ref e.2.1)
structure WAt (K : PySem.W.Frag) (H : Hp) (pw : Addr) (L : WL_) : Prop where
  at_ : H pw = some (.dK (kvW L))
  each : ∀ e ∈ L, SfAt K H e.2.1 e.2.2
  nd : (L.map fun e => e.2.1).Nodup
  nn : (L.map fun e => e.1).Nodup
  ne : ∀ e ∈ L, e.2.1 ≠ pw
  le : L.length ≤ 10
def fpW (pw : Addr) (L : WL_) : List Addr := pw :: L.map fun e => e.2.1
theorem get_find (L : WL_) (n : Int) : (wd L).get n = (L.find? fun e => decide (e.1 = n)).map fun e => e.2.2 := by
  induction L with
  | nil => rfl
  | cons e L ih =>
    show List.lookup n ((e.1, e.2.2) :: wd L) = _
    by_cases h : e.1 = n
    · rw [List.find?_cons_of_pos (by simpa using h), List.lookup_cons, ← h]
      simp
    · rw [List.find?_cons_of_neg (by simpa using h), List.lookup_cons, beq_eq_false_iff_ne.mpr (Ne.symm h)]
      exact ih
theorem val_find (L : WL_) (n : Int) : valV (kvW L) (.inl n) = (L.find? fun e => decide (e.1 = n)).map fun e => V.ref e.2.1 := by
  unfold valV kvW
  induction L with
  | nil => rfl
  | cons e L ih =>
    rw [List.map_cons]
    by_cases h : e.1 = n
    · rw [List.find?_cons_of_pos (by simpa using h), List.find?_cons_of_pos (by simpa using h)]
      rfl
    · rw [List.find?_cons_of_neg (by simpa using h), List.find?_cons_of_neg (by simpa using h)]
      exact ih
theorem wd_names (L : WL_) : (wd L).names = L.map fun e => e.1 := by simp [wd, Wd.names]
theorem kvW_keys (L : WL_) : (kvW L).map (·.1) = ((wd L).names).map Sum.inl := by simp [kvW, wd, Wd.names]
theorem iEqOI {o : Option Int} {n : Int} {H : Hp} {Q : VK} (q : Q (.bl (decide (o = some n))) H) : rEq (oI o) (.int n) H Q := by
  cases o with
  | none => exact iEqNI q
  | some i => exact iEqI (by rw [show decide (i = n) = decide (some i = some n) by simp]; exact q)
theorem iIsOI {o : Option Int} {H : Hp} {Q : VK} (q : Q (.bl o.isNone) H) : rIsNon (oI o) .non H Q := by
  cases o with
  | none => exact iIsNN q
  | some i => exact iIsNI q
theorem iNoOI {o : Option Int} {H : Hp} {Q : VK} (q : Q (.bl o.isSome) H) : rNotNon (oI o) .non H Q := by
  cases o with
  | none => exact iNoNN q
  | some i => exact iNoNI q
theorem iIsOL {K : PySem.W.Frag} {v : V} {o : Option Lk} {H H' : Hp} {Q : VK} (h : OLk K H' v o) (q : Q (.bl o.isNone) H) : rIsNon v .non H Q := by
  cases o with
  | none => cases (show v = .non from h); exact iIsNN q
  | some i => obtain ⟨a, _, rfl, _⟩ := (show LkT K H' v i from h); exact iIsNR q
theorem iNoOL {K : PySem.W.Frag} {v : V} {o : Option Lk} {H H' : Hp} {Q : VK} (h : OLk K H' v o) (q : Q (.bl o.isSome) H) : rNotNon v .non H Q := by
  cases o with
  | none => cases (show v = .non from h); exact iNoNN q
  | some i => obtain ⟨a, _, rfl, _⟩ := (show LkT K H' v i from h); exact iNoNR q
section
variable {K : PySem.W.Frag} {H H' : Hp} {pw : Addr} {L : WL_} {n : Int} {s : Sf}
theorem WAt.get (h : WAt K H pw L) (g : (wd L).get n = some s) : ∃ d, (n, d, s) ∈ L ∧ valV (kvW L) (.inl n) = some (.ref d) ∧ SfAt K H d s := by
  rw [get_find] at g
  cases e : L.find? fun e => decide (e.1 = n) with
  | none => rw [e] at g; cases g
  | some x =>
    rw [e] at g
    have h1 : x.2.2 = s := Option.some.inj g
    have h2 := List.find?_some e
    have h3 : x.1 = n := by simpa using h2
    obtain ⟨a, d, c⟩ := x
    dsimp only at h1 h3
    subst h1 h3
    exact ⟨d, List.mem_of_find?_eq_some e, by rw [val_find, e]; rfl, h.each _ (List.mem_of_find?_eq_some e)⟩
theorem WAt.none (g : (wd L).get n = none) : valV (kvW L) (.inl n) = none := by
  rw [get_find] at g
  rw [val_find]
  cases e : L.find? fun e => decide (e.1 = n) with
  | none => rfl
  | some x => rw [e] at g; cases g
theorem WAt.isSome : (valV (kvW L) (.inl n)).isSome = ((wd L).get n).isSome := by
  rw [get_find, val_find]
  cases L.find? fun e => decide (e.1 = n) <;> rfl
theorem SfAt.fr {S : List Addr} {d : Addr} (f : Fr S H H') (nd : d ∉ S) (h : SfAt K H d s) : SfAt K H' d s := by
  obtain ⟨vp, vr, vs, h1, h2, h3, h4⟩ := h
  exact ⟨vp, vr, vs, f.at_ _ _ h1 nd, h2.fr f, h3.fr f, h4.fr f⟩
theorem WAt.fr {S : List Addr} (f : Fr S H H') (nd : ∀ a ∈ fpW pw L, a ∉ S) (h : WAt K H pw L) : WAt K H' pw L :=
  ⟨f.at_ _ _ h.at_ (nd _ (List.mem_cons_self ..)), fun e he => (h.each e he).fr f (nd _ (List.mem_cons_of_mem _ (List.mem_map_of_mem he))), h.nd, h.nn, h.ne, h.le⟩
theorem WAt.same (f : Same H H') (h : WAt K H pw L) : WAt K H' pw L := h.fr (Fr.same (S := []) f) fun _ _ => List.not_mem_nil
end
def Ht : Nat → Wd → Int → Prop
  | 0, _, _ => False
  | f + 1, W, n => ∀ p ∈ W.parts (some n), Ht f W p
theorem under_ht : ∀ (f g : Nat) (W : Wd) (n : Int), Ht f W n → f ≤ g → under g W n = under f W n
  | 0, _, _, _, h, _ => h.elim
  | f + 1, 0, _, _, _, h => by omega
  | f + 1, g + 1, W, n, h, hg => by
    show n :: _ = n :: _
    congr 1
    rw [List.flatMap_def, List.flatMap_def]
    congr 1
    exact List.map_congr_left fun p hp => under_ht f g W p (h p hp) (by omega)
theorem parts_le (W : Wd) (n : Option Int) : (W.parts n).length ≤ W.length := by
  unfold Wd.parts
  refine Nat.le_trans (List.length_filter_le _ _) ?_
  rw [sortI, List.length_mergeSort, Wd.names, List.length_map]
  exact Nat.le_refl _
theorem flat_le {α β : Type} (f : α → List β) (b : Nat) : ∀ l : List α, (∀ x ∈ l, (f x).length ≤ b) → (l.flatMap f).length ≤ l.length * b
  | [], _ => Nat.zero_le _
  | x :: l, h => by
    rw [List.flatMap_cons, List.length_append, List.length_cons, Nat.succ_mul]
    have h1 := h x (List.mem_cons_self ..)
    have h2 := flat_le f b l fun y hy => h y (List.mem_cons_of_mem _ hy)
    omega
def bU : Nat → Nat
  | 0 => 1
  | f + 1 => 1 + 10 * bU f
theorem under_le : ∀ (f : Nat) (W : Wd) (n : Int), W.length ≤ 10 → (under f W n).length ≤ bU f
  | 0, _, _, _ => Nat.le_refl _
  | f + 1, W, n, h => by
    show (n :: (W.parts (some n)).flatMap (under f W)).length ≤ 1 + 10 * bU f
    rw [List.length_cons]
    have h1 := flat_le (under f W) (bU f) (W.parts (some n)) fun x _ => under_le f W x h
    have h2 := parts_le W (some n)
    have h3 : (W.parts (some n)).length * bU f ≤ 10 * bU f := Nat.mul_le_mul_right _ (by omega)
    omega
theorem bU_mono : ∀ {f g : Nat}, f ≤ g → bU f ≤ bU g
  | 0, 0, _ => Nat.le_refl _
  | 0, g + 1, _ => by show 1 ≤ 1 + _; omega
  | f + 1, 0, h => by omega
  | f + 1, g + 1, h => by
    have := bU_mono (f := f) (g := g) (by omega)
    show 1 + 10 * _ ≤ 1 + 10 * _
    omega
section
variable {P : Program} {w : World} {K : PySem.W.Frag} {mg : Str → Option Value} {base : Heap}
def spUnder (K : PySem.W.Frag) (f : Nat) : Sp := fun vs H Q _ => ∃ pw n L, vs = [.ref pw, .int n] ∧ WAt K H pw L ∧ Ht f (wd L) n ∧ ∀ H' p, Same H H' → H p = none → H' p = some (.lst ((under f (wd L) n).map V.int)) → Q (.ref p) H'
theorem ok_law_underF (T : Tx w K mg) : ∀ f, f ≤ 3 → Cal P w K mg base (f + 1) "_law_under" (spUnder K f) []
  | 0, _ => mk_law_under T (fun vs H Q E h => by obtain ⟨pw, n, L, rfl, _⟩ := h; rfl) (fun cdv A outer s H vs Q E hr h => by obtain ⟨_, _, _, _, _, z, _⟩ := h; exact z.elim)
  | f + 1, hf => by
    have ih := ok_law_underF T f (by omega)
    refine mk_law_under T (fun vs H Q E h => ?_) (fun cdv A outer s H vs Q E hr h => ?_)
    · obtain ⟨pw, n, L, rfl, _⟩ := h
      rfl
    · obtain ⟨pw, n, L, rfl, hW, hT, q⟩ := h
      refine ⟨_, (pss_cons (ps_set (i := 2) sc_law_under.nd rfl (.inl rfl) (pe_lst (pa_cons (pv 1) pa_nil)))
  (pss_cons (ps_for PassesOwn.never rfl (pi_list (pe_callB (c_sorDI rfl) (by rfl) (f_sorted T) (by decide +kernel) (pa_cons (pv 0) pa_nil))) (pg_name (i := 3) sc_law_under.nd rfl (.inl rfl)) (pss_one (ps_if (pt_cmpR op_eq (pe_dget (hu_of hr) (pe_dget (hu_of hr) (pv 0) (pv 3) (fun _ _ => rfl)) pe_str (fun _ _ => rfl)) (pv 1) (nomark _)) (pss_one (ps_set (i := 2) sc_law_under.nd rfl (.inl rfl) (pe_op op_cat (pv 2) (pe_c ih hr (by omega) rfl (pa_cons (pv 0) (pa_cons (pv 3) pa_nil)))))) pss_nil)))
  (pss_one (ps_ret (pv 2))))), ?_⟩
      rw [st_law_under]
      wtm_at "go"
      intro p np
      wtm_at "go"
      refine gSorDI (ks := (wd L).names) (by rw [upd_ne (ne_of_none hW.at_ np)]; exact hW.at_) (kvW_keys L) (by rw [wd_names, List.length_map]; have := hW.le; omega) (fun ps nps => ?_)
      wtm_at "go"
      refine eForL (xs := (sortI (wd L).names).map V.int) (fun i σ H' => ∃ l y, σ = [some (.ref pw), some (.int n), some (.ref l), y] ∧ Same H H' ∧ H l = none ∧ H' ps = some (.lst ((sortI (wd L).names).map V.int)) ∧ H' l = some (.lst ((n :: (((sortI (wd L).names).take i).filter fun p => decide (((wd L).get p).map (·.top) = some (some n))).flatMap (under f (wd L))).map V.int)))
        ⟨p, _, rfl, (same_new np).trans (same_new nps), np, upd_same, ?_⟩ ?_ ?_ ?_
      · rw [upd_ne (ne_of_none upd_same nps)]
        exact upd_same
      · rintro i σ H1 _ ⟨l, y, rfl, sm, nl, hps, hl⟩
        exact SqL.of hps
      · rintro i x σ H1 hx ⟨l, y, rfl, sm, nl, hps, hl⟩
        obtain ⟨m, em, rfl⟩ : ∃ m, (sortI (wd L).names)[i]? = some m ∧ x = V.int m := by
          rw [List.getElem?_map] at hx
          cases e : (sortI (wd L).names)[i]? with
          | none => rw [e] at hx; cases hx
          | some c => rw [e] at hx; exact ⟨c, rfl, (Option.some.inj hx).symm⟩
        have hmem : m ∈ (wd L).names := (List.mergeSort_perm _ _).mem_iff.mp (List.mem_of_getElem? em)
        have W1 := hW.same sm
        obtain ⟨sf, gs⟩ : ∃ sf, (wd L).get m = some sf := by
          cases e : (wd L).get m with
          | some sf => exact ⟨sf, rfl⟩
          | none => exact absurd hmem (by rw [Wd.get, List.lookup_eq_none_iff] at e; rw [Wd.names, List.mem_map]; rintro ⟨z, hz, rfl⟩; have := e z hz; simp at this)
        obtain ⟨d, _, ev, vp, vr, vs, hd, _, _, _⟩ := W1.get gs
        have htk : ((sortI (wd L).names).take (i + 1)) = ((sortI (wd L).names).take i) ++ [m] := take_succ em
        wtm_at "go"
        refine iDGI W1.at_ ev ?_
        wtm_at "go"
        refine iDGS (v := oI sf.top) hd rfl ?_
        wtm_at "go"
        refine iEqOI ?_
        wtm_at "go"
        first | refine iteD (fun e => ?_) (fun e => ?_) | refine iteN (fun e => ?_) (fun e => ?_) | refine ite2 (fun e => ?_) (fun e => ?_)
        · have hp : m ∈ (wd L).parts (some n) := List.mem_filter.mpr ⟨List.mem_of_getElem? em, by rw [gs]; simp [e]⟩
          wtm_at "go"
          refine ⟨pw, m, L, rfl, W1, hT m hp, fun H2 r s2 nr hr2 => ?_⟩
          have hl2 := s2 _ _ hl
          refine gCat ⟨_, hl2, _, hr2, ?_, fun c nc => ?_⟩
          · rw [List.length_map, List.length_map]
            have a1 := under_le f (wd L) m (by rw [wd, List.length_map]; exact hW.le)
            have a2 := flat_le (under f (wd L)) (bU f) (((sortI (wd L).names).take i).filter fun p => decide (((wd L).get p).map (·.top) = some (some n))) fun x _ => under_le f (wd L) x (by rw [wd, List.length_map]; exact hW.le)
            have a3 : (((sortI (wd L).names).take i).filter fun p => decide (((wd L).get p).map (·.top) = some (some n))).length ≤ 10 := by
              refine Nat.le_trans (List.length_filter_le _ _) (Nat.le_trans (by rw [List.length_take]; exact Nat.min_le_right _ _) ?_)
              rw [sortI, List.length_mergeSort, wd_names, List.length_map]
              exact hW.le
            have a4 := Nat.mul_le_mul_right (bU f) a3
            have a5 : bU f ≤ bU 3 := bU_mono (by omega)
            have a6 : bU 3 = 1111 := by decide
            rw [List.length_cons]
            exact Nat.le_trans (show _ ≤ 20000 by omega) (by decide)
          · wtm_at "go"
            have s3 := same_new (o := .lst (((n :: (((sortI (wd L).names).take i).filter fun p => decide (((wd L).get p).map (·.top) = some (some n))).flatMap (under f (wd L))).map V.int) ++ (under f (wd L) m).map V.int)) nc
            refine ⟨c, _, rfl, sm.trans (s2.trans s3), (sm.trans s2).free nc, s3 _ _ (s2 _ _ hps), ?_⟩
            rw [upd_same, htk, List.filter_append, List.flatMap_append, ← List.map_append]
            simp [gs, e]
        · wtm_at "go"
          refine ⟨l, _, rfl, sm, nl, hps, ?_⟩
          rw [hl, htk, List.filter_append]
          simp [gs, e]
      · rintro σ H1 ⟨l, y, rfl, sm, nl, hps, hl⟩
        wtm_at "go"
        refine q _ _ sm nl ?_
        rw [hl, List.length_map, List.take_of_length_le (Nat.le_refl _)]
        rfl
theorem ok_law_under (T : Tx w K mg) : Cal P w K mg base 4 "_law_under" (spUnder K 3) [] := ok_law_underF T 3 (by omega)
end

/-! ### surfaces that can be -/
structure LkOk (l : Lk) : Prop where
  r : Rect l.marks
  x : -20 ≤ l.x ∧ l.x ≤ 20
  y : -20 ≤ l.y ∧ l.y ≤ 20
  k : 0 ≤ l.rank ∧ l.rank ≤ 9
structure SfOk (s : Sf) : Prop where
  p : LkOk s.pending
  r : ∀ l, s.ready = some l → LkOk l
  s : ∀ l, s.shown = some l → LkOk l
structure WfW (W : Wd) : Prop where
  nm : ∀ e ∈ W, Nm e.1
  nd : W.names.Nodup
  top : ∀ n s t, W.get n = some s → s.top = some t → ∃ s', W.get t = some s' ∧ (s'.top = none ∨ ∃ u s'', s'.top = some u ∧ W.get u = some s'' ∧ s''.top = none)
  ok : ∀ n s, W.get n = some s → SfOk s
theorem get_mem {W : Wd} {n : Int} {s : Sf} (h : W.get n = some s) : (n, s) ∈ W := by
  unfold Wd.get at h
  induction W with
  | nil => cases h
  | cons e W ih =>
    rw [List.lookup_cons] at h
    cases q : (n == e.1) with
    | true =>
      rw [q] at h
      have h2 : e.2 = s := Option.some.inj h
      have h3 : n = e.1 := eq_of_beq q
      rw [h3, ← h2]
      exact List.mem_cons_self ..
    | false =>
      rw [q] at h
      exact List.mem_cons_of_mem _ (ih h)
theorem get_name {W : Wd} {n : Int} {s : Sf} (h : W.get n = some s) : n ∈ W.names := List.mem_map_of_mem (f := (·.1)) (get_mem h)
theorem name_get {W : Wd} {n : Int} (h : n ∈ W.names) : ∃ s, W.get n = some s := by
  cases e : W.get n with
  | some s => exact ⟨s, rfl⟩
  | none =>
    rw [Wd.get, List.lookup_eq_none_iff] at e
    rw [Wd.names, List.mem_map] at h
    obtain ⟨z, hz, rfl⟩ := h
    have := e z hz
    simp at this
theorem get_put {W : Wd} {n m : Int} {f : Sf → Sf} : (W.put n f).get m = if m = n then (W.get m).map f else W.get m := by
  induction W with
  | nil => simp [Wd.put, Wd.get]
  | cons e W ih =>
    have ih2 : List.lookup m (List.map (fun e => if e.1 = n then (e.1, f e.2) else e) W) = if m = n then (List.lookup m W).map f else List.lookup m W := ih
    show List.lookup m ((if e.1 = n then (e.1, f e.2) else e) :: List.map _ W) = if m = n then (List.lookup m (e :: W)).map f else List.lookup m (e :: W)
    by_cases h : e.1 = n
    · rw [if_pos h, List.lookup_cons, List.lookup_cons, ih2]
      by_cases h2 : m = n
      · rw [if_pos h2, if_pos h2]
        have : (m == e.1) = true := by rw [h, h2]; simp
        rw [this]
        rfl
      · rw [if_neg h2, if_neg h2]
        have : (m == e.1) = false := beq_eq_false_iff_ne.mpr (by rw [h]; exact h2)
        rw [this]
    · rw [if_neg h, List.lookup_cons, ih2]
      by_cases h2 : m = n
      · rw [if_pos h2, if_pos h2]
        have : (m == e.1) = false := beq_eq_false_iff_ne.mpr (by rw [h2]; exact Ne.symm h)
        rw [List.lookup_cons, this]
      · rw [if_neg h2, if_neg h2, List.lookup_cons]
theorem names_put (W : Wd) (n : Int) (f : Sf → Sf) : (W.put n f).names = W.names := by
  unfold Wd.put Wd.names
  rw [List.map_map]
  refine List.map_congr_left fun e _ => ?_
  show (if e.1 = n then (e.1, f e.2) else e).1 = e.1
  split <;> rfl
theorem get_del {W : Wd} {n m : Int} : (W.del n).get m = if m = n then none else W.get m := by
  induction W with
  | nil => simp [Wd.del, Wd.get]
  | cons e W ih =>
    have ih2 : List.lookup m (W.filter fun e => decide (e.1 ≠ n)) = if m = n then none else List.lookup m W := ih
    show List.lookup m (List.filter _ (e :: W)) = if m = n then none else List.lookup m (e :: W)
    by_cases h : e.1 = n
    · rw [List.filter_cons_of_neg (by simpa using h), ih2]
      by_cases h2 : m = n
      · rw [if_pos h2, if_pos h2]
      · rw [if_neg h2, if_neg h2, List.lookup_cons, beq_eq_false_iff_ne.mpr (by rw [h]; exact h2)]
    · rw [List.filter_cons_of_pos (by simpa using h), List.lookup_cons, List.lookup_cons, ih2]
      by_cases h2 : m = n
      · rw [if_pos h2, if_pos h2, beq_eq_false_iff_ne.mpr (by rw [h2]; exact Ne.symm h)]
      · rw [if_neg h2, if_neg h2]
theorem names_del (W : Wd) (n : Int) : (W.del n).names = W.names.filter fun m => decide (m ≠ n) := by
  unfold Wd.del Wd.names
  rw [List.filter_map]
  rfl
theorem le_of_nodup : ∀ (n : Nat) (l : List Int), l.Nodup → (∀ x ∈ l, 0 ≤ x ∧ x < (n : Int)) → l.length ≤ n
  | 0, l, _, h => by
    cases l with
    | nil => exact Nat.le_refl _
    | cons x l => have := h x (List.mem_cons_self ..); omega
  | n + 1, l, hd, h => by
    by_cases hm : (n : Int) ∈ l
    · have h1 := le_of_nodup n (l.erase (n : Int)) (hd.erase _) fun x hx => by
        have h2 := h x (List.mem_of_mem_erase hx)
        have h3 : x ≠ (n : Int) := fun e => by
          rw [e] at hx
          exact (List.Nodup.not_mem_erase hd) hx
        omega
      rw [List.length_erase_of_mem hm] at h1
      omega
    · have := le_of_nodup n l hd fun x hx => by
        have h2 := h x hx
        have h3 : x ≠ (n : Int) := fun e => hm (by rw [← e]; exact hx)
        omega
      omega
section
variable {W : Wd}
theorem WfW.le (h : WfW W) : W.length ≤ 10 := by
  have := le_of_nodup 10 W.names h.nd fun x hx => by
    obtain ⟨s, hs⟩ := name_get hx
    have := h.nm _ (get_mem hs)
    unfold Nm at this
    omega
  rw [Wd.names, List.length_map] at this
  exact this
theorem mem_parts {n : Option Int} {p : Int} : p ∈ W.parts n ↔ ∃ s, W.get p = some s ∧ s.top = n := by
  unfold Wd.parts
  rw [List.mem_filter, sortI, (List.mergeSort_perm _ _).mem_iff]
  constructor
  · rintro ⟨_, h⟩
    have h2 := of_decide_eq_true h
    cases e : W.get p with
    | none => rw [e] at h2; cases h2
    | some s => rw [e] at h2; exact ⟨s, rfl, Option.some.inj h2⟩
  · rintro ⟨s, h1, h2⟩
    exact ⟨get_name h1, by rw [h1, ← h2]; simp⟩
theorem WfW.ht (h : WfW W) (n : Int) : Ht 3 W n := by
  intro p hp q hq r hr
  obtain ⟨sp, gp, tp⟩ := mem_parts.mp hp
  obtain ⟨sq, gq, tq⟩ := mem_parts.mp hq
  obtain ⟨sr, gr, tr⟩ := mem_parts.mp hr
  obtain ⟨s', g', h'⟩ := h.top r sr q gr tr
  rw [gq] at g'
  cases g'
  rcases h' with e | ⟨u, s'', e1, e2, e3⟩
  · rw [tq] at e; cases e
  · rw [tq] at e1
    cases e1
    rw [gp] at e2
    cases e2
    rw [tp] at e3
    cases e3
/-- how deep a surface lies -/
def Wd.dep (W : Wd) (n : Int) : Nat := match (W.get n).bind (·.top) with
  | none => 0
  | some t => match (W.get t).bind (·.top) with
    | none => 1
    | some _ => 2
theorem WfW.dep (h : WfW W) {p t : Int} {s : Sf} (g : W.get p = some s) (e : s.top = some t) : W.dep p = W.dep t + 1 := by
  obtain ⟨s', g', h'⟩ := h.top p s t g e
  have a : W.dep p = match s'.top with | none => 1 | some _ => 2 := by
    unfold Wd.dep
    rw [g]
    show (match s.top with | none => 0 | some t => match (W.get t).bind (·.top) with | none => 1 | some _ => 2) = _
    rw [e]
    show (match (W.get t).bind (·.top) with | none => 1 | some _ => 2) = _
    rw [g']
    rfl
  rcases h' with e1 | ⟨u, s'', e1, e2, e3⟩
  · rw [a, e1]
    unfold Wd.dep
    rw [g']
    show _ = (match s'.top with | none => 0 | some t => match (W.get t).bind (·.top) with | none => 1 | some _ => 2) + 1
    rw [e1]
  · rw [a, e1]
    unfold Wd.dep
    rw [g']
    show _ = (match s'.top with | none => 0 | some t => match (W.get t).bind (·.top) with | none => 1 | some _ => 2) + 1
    rw [e1]
    show _ = (match (W.get u).bind (·.top) with | none => 1 | some _ => 2) + 1
    rw [e2]
    show _ = (match s''.top with | none => 1 | some _ => 2) + 1
    rw [e3]
theorem under_cons (f : Nat) (W : Wd) (n : Int) : ∃ r, under f W n = n :: r := by
  cases f with
  | zero => exact ⟨[], rfl⟩
  | succ f => exact ⟨_, rfl⟩
theorem under_self (f : Nat) (W : Wd) (n : Int) : n ∈ under f W n := by
  obtain ⟨r, e⟩ := under_cons f W n
  rw [e]
  exact List.mem_cons_self ..
/-- who is under n: n itself, or a surface whose top is -/
theorem under_up : ∀ (f : Nat) (n x : Int), x ∈ under f W n → x = n ∨ ∃ s t, W.get x = some s ∧ s.top = some t ∧ t ∈ under f W n
  | 0, n, x, h => .inl (List.mem_singleton.mp h)
  | f + 1, n, x, h => by
    rcases List.mem_cons.mp h with e | h
    · exact .inl e
    · obtain ⟨p, hp, hx⟩ := List.mem_flatMap.mp h
      rcases under_up f p x hx with e | ⟨s, t, e1, e2, e3⟩
      · subst e
        obtain ⟨s, g, t⟩ := mem_parts.mp hp
        exact .inr ⟨s, n, g, t, List.mem_cons_self ..⟩
      · exact .inr ⟨s, t, e1, e2, List.mem_cons_of_mem _ (List.mem_flatMap.mpr ⟨p, hp, e3⟩)⟩
theorem under_down : ∀ (f : Nat) (n x t : Int) (s : Sf), Ht f W n → t ∈ under f W n → W.get x = some s → s.top = some t → x ∈ under f W n
  | 0, _, _, _, _, h, _, _, _ => h.elim
  | f + 1, n, x, t, s, h, ht, g, e => by
    rcases List.mem_cons.mp ht with e1 | ht
    · subst e1
      exact List.mem_cons_of_mem _ (List.mem_flatMap.mpr ⟨x, mem_parts.mpr ⟨s, g, e⟩, under_self ..⟩)
    · obtain ⟨p, hp, hx⟩ := List.mem_flatMap.mp ht
      exact List.mem_cons_of_mem _ (List.mem_flatMap.mpr ⟨p, hp, under_down f p x t s (h p hp) hx g e⟩)
theorem WfW.dep_under (h : WfW W) : ∀ (f : Nat) (n x : Int), x ∈ under f W n → x = n ∨ W.dep n < W.dep x
  | 0, n, x, hx => .inl (List.mem_singleton.mp hx)
  | f + 1, n, x, hx => by
    rcases List.mem_cons.mp hx with e | hx
    · exact .inl e
    · obtain ⟨p, hp, hx⟩ := List.mem_flatMap.mp hx
      obtain ⟨s, g, t⟩ := mem_parts.mp hp
      have h1 := h.dep g t
      rcases h.dep_under f p x hx with e | e
      · subst e
        exact .inr (by omega)
      · exact .inr (by omega)
theorem WfW.apart (h : WfW W) {f : Nat} {n p q : Int} (hp : p ∈ W.parts (some n)) (hq : q ∈ W.parts (some n)) (ne : p ≠ q) : ∀ (k : Nat) (x : Int), W.dep x = k → x ∈ under f W p → x ∈ under f W q → False := by
  obtain ⟨sp, gp, tp⟩ := mem_parts.mp hp
  obtain ⟨sq, gq, tq⟩ := mem_parts.mp hq
  have dp := h.dep gp tp
  have dq := h.dep gq tq
  intro k
  induction k using Nat.strongRecOn with
  | _ k ih =>
    intro x hk h1 h2
    rcases under_up f p x h1 with e | ⟨s, t, e1, e2, e3⟩
    · subst e
      rcases under_up f q x h2 with e | ⟨s, t, e1, e2, e3⟩
      · exact ne e
      · rw [gp] at e1
        cases e1
        rw [tp] at e2
        cases e2
        rcases h.dep_under f q n e3 with z | z
        · have := congrArg W.dep z
          omega
        · omega
    · rcases under_up f q x h2 with e | ⟨s2, t2, f1, f2, f3⟩
      · subst e
        rw [gq] at e1
        cases e1
        rw [tq] at e2
        cases e2
        rcases h.dep_under f p n e3 with z | z
        · have := congrArg W.dep z
          omega
        · omega
      · rw [e1] at f1
        cases f1
        rw [e2] at f2
        cases f2
        have := h.dep e1 e2
        exact ih (W.dep t) (by omega) t rfl e3 f3
theorem WfW.parts_nodup (h : WfW W) (n : Option Int) : (W.parts n).Nodup := by
  unfold Wd.parts sortI
  exact List.Pairwise.filter _ ((List.mergeSort_perm _ _).nodup_iff.mpr h.nd)
theorem WfW.under_nodup (h : WfW W) : ∀ (f : Nat) (n : Int), (under f W n).Nodup
  | 0, n => by simp [under]
  | f + 1, n => by
    refine List.nodup_cons.mpr ⟨fun hm => ?_, ?_⟩
    · obtain ⟨p, hp, hx⟩ := List.mem_flatMap.mp hm
      obtain ⟨s, g, t⟩ := mem_parts.mp hp
      have h1 := h.dep g t
      rcases h.dep_under f p n hx with e | e
      · have := congrArg W.dep e
        omega
      · omega
    · refine List.pairwise_flatMap.mpr ⟨fun p _ => h.under_nodup f p, ?_⟩
      refine List.Pairwise.imp_of_mem ?_ (h.parts_nodup (some n))
      intro p q hp hq ne x hx y hy e
      subst e
      exact h.apart hp hq ne _ x rfl hx hy
theorem under_names (f : Nat) {n x : Int} (hn : n ∈ W.names) (h : x ∈ under f W n) : x ∈ W.names := by
  rcases under_up f n x h with e | ⟨s, t, e, _⟩
  · rw [e]; exact hn
  · exact get_name e
end
/-! dropped -/
theorem get_dels : ∀ (l : List Int) (W : Wd) (m : Int), (l.foldl (fun V p => V.del p) W).get m = if m ∈ l then none else W.get m
  | [], W, m => by simp
  | p :: l, W, m => by
    rw [List.foldl_cons, get_dels l (W.del p) m, get_del]
    by_cases h : m ∈ l
    · rw [if_pos h, if_pos (List.mem_cons_of_mem _ h)]
    · rw [if_neg h]
      by_cases h2 : m = p
      · rw [if_pos h2, if_pos (by rw [h2]; exact List.mem_cons_self ..)]
      · rw [if_neg h2, if_neg (by simp [h2, h])]
theorem names_dels : ∀ (l : List Int) (W : Wd), (l.foldl (fun V p => V.del p) W).names = W.names.filter fun m => decide (m ∉ l)
  | [], W => by
    show W.names = _
    rw [List.filter_eq_self.mpr]
    intro a _
    simp
  | p :: l, W => by
    rw [List.foldl_cons, names_dels l (W.del p), names_del, List.filter_filter]
    congr 1
    funext m
    simp [Bool.and_comm]
theorem nm_of_names {W : Wd} (h : ∀ n ∈ W.names, Nm n) : ∀ e ∈ W, Nm e.1 := fun e he => h e.1 (List.mem_map_of_mem (f := (·.1)) he)
theorem WfW.names_nm {W : Wd} (h : WfW W) : ∀ n ∈ W.names, Nm n := fun n hn => by
  obtain ⟨s, hs⟩ := name_get hn
  exact h.nm _ (get_mem hs)
theorem WfW.drop {W : Wd} (h : WfW W) (n : Int) : WfW (doDrop W n) := by
  have hg : ∀ m, (doDrop W n).get m = if m ∈ under 3 W n then none else W.get m := get_dels _ W
  have hn : (doDrop W n).names = _ := names_dels (under 3 W n) W
  have gg : ∀ m s, (doDrop W n).get m = some s → m ∉ under 3 W n ∧ W.get m = some s := fun m s e => by
    rw [hg] at e
    by_cases hm : m ∈ under 3 W n
    · rw [if_pos hm] at e; cases e
    · rw [if_neg hm] at e; exact ⟨hm, e⟩
  have up : ∀ m s t, m ∉ under 3 W n → W.get m = some s → s.top = some t → t ∉ under 3 W n := fun m s t hm g e ht => hm (under_down 3 n m t s (h.ht n) ht g e)
  refine ⟨nm_of_names fun m hm => h.names_nm m (by rw [hn] at hm; exact (List.mem_filter.mp hm).1), by rw [hn]; exact List.Pairwise.filter _ h.nd, fun m s t g e => ?_, fun m s g => h.ok m s (gg m s g).2⟩
  obtain ⟨hm, g⟩ := gg m s g
  obtain ⟨s', g', h'⟩ := h.top m s t g e
  have ht := up m s t hm g e
  refine ⟨s', by rw [hg, if_neg ht]; exact g', ?_⟩
  rcases h' with e1 | ⟨u, s'', e1, e2, e3⟩
  · exact .inl e1
  · exact .inr ⟨u, s'', e1, by rw [hg, if_neg (up t s' u ht g' e1)]; exact e2, e3⟩
/-- a change that leaves whose part a surface is -/
theorem WfW.put {W : Wd} (h : WfW W) {n : Int} {f : Sf → Sf} (ht : ∀ s, W.get n = some s → (f s).top = s.top) (hk : ∀ s, W.get n = some s → SfOk s → SfOk (f s)) : WfW (W.put n f) := by
  have gt : ∀ m s, (W.put n f).get m = some s → ∃ s0, W.get m = some s0 ∧ s.top = s0.top := fun m s g => by
    rw [get_put] at g
    by_cases e : m = n
    · rw [if_pos e] at g
      obtain ⟨s0, g0, e0⟩ := Option.map_eq_some_iff.mp g
      exact ⟨s0, g0, by rw [← e0]; exact ht s0 (by rw [← e]; exact g0)⟩
    · rw [if_neg e] at g
      exact ⟨s, g, rfl⟩
  have tg : ∀ m s0, W.get m = some s0 → ∃ s, (W.put n f).get m = some s ∧ s.top = s0.top := fun m s0 g => by
    rw [get_put]
    by_cases e : m = n
    · rw [if_pos e, g]
      exact ⟨f s0, rfl, ht s0 (by rw [← e]; exact g)⟩
    · rw [if_neg e]
      exact ⟨s0, g, rfl⟩
  refine ⟨nm_of_names (by rw [names_put]; exact h.names_nm), by rw [names_put]; exact h.nd, fun m s t g e => ?_, fun m s g => ?_⟩
  · obtain ⟨s0, g0, e0⟩ := gt m s g
    obtain ⟨s', g', h'⟩ := h.top m s0 t g0 (by rw [← e0]; exact e)
    obtain ⟨s1, g1, e1⟩ := tg t s' g'
    refine ⟨s1, g1, ?_⟩
    rcases h' with e2 | ⟨u, s'', e2, e3, e4⟩
    · exact .inl (by rw [e1]; exact e2)
    · obtain ⟨s2, g2, e5⟩ := tg u s'' e3
      exact .inr ⟨u, s2, by rw [e1]; exact e2, g2, by rw [e5]; exact e4⟩
  · rw [get_put] at g
    by_cases e : m = n
    · rw [if_pos e] at g
      obtain ⟨s0, g0, e0⟩ := Option.map_eq_some_iff.mp g
      rw [← e0]
      exact hk s0 (by rw [← e]; exact g0) (h.ok m s0 g0)
    · rw [if_neg e] at g
      exact h.ok m s g
theorem rect_sized (m : List (List Int)) {w h : Nat} (hw : 1 ≤ w ∧ w ≤ 12) (hh : 1 ≤ h ∧ h ≤ 8) : Rect (sized m w h) := by
  have hl : ∀ r ∈ sized m w h, r.length = w := fun r hr => by
    obtain ⟨y, _, rfl⟩ := List.mem_map.mp hr
    unfold sizedR
    rw [List.length_take, List.length_append, List.length_replicate]
    omega
  have h0 : (sized m w h).length = h := by simp [sized]
  have hd : ((sized m w h).headD []).length = w := by
    cases e : sized m w h with
    | nil => rw [e] at h0; simp at h0; omega
    | cons r rs => exact hl r (by rw [e]; exact List.mem_cons_self ..)
  exact ⟨by omega, by omega, by omega, by omega, fun r hr => by rw [hl r hr, hd]⟩
theorem rect_paint {m : List (List Int)} (r : Rect m) {x y w h : Nat} {c : Int} (hx : x + w ≤ (m.headD []).length) : Rect (paintM m x y w h c) := by
  have hl : ∀ q ∈ paintM m x y w h c, q.length = (m.headD []).length := fun q hq => by
    obtain ⟨k, hk, rfl⟩ := List.mem_map.mp hq
    have hk2 := List.mem_range.mp hk
    have hr := r.row hk2
    show (if y ≤ k ∧ k < y + h then paintR (m.getD k []) x w c else m.getD k []).length = _
    split
    · unfold paintR
      rw [List.length_append, List.length_append, List.length_take, List.length_replicate, List.length_drop, hr]
      omega
    · exact hr
  have h0 : (paintM m x y w h c).length = m.length := paintM_len ..
  have hd : ((paintM m x y w h c).headD []).length = (m.headD []).length := by
    cases e : paintM m x y w h c with
    | nil => rw [e] at h0; have := r.h1; simp at h0; omega
    | cons q qs => exact hl q (by rw [e]; exact List.mem_cons_self ..)
  exact ⟨by rw [h0]; exact r.h1, by rw [h0]; exact r.h8, by rw [hd]; exact r.w1, by rw [hd]; exact r.w12, fun q hq => by rw [hl q hq, hd]⟩
theorem pend_ok {l k : Lk} {t : Lt} (h : LkOk l) (ht : t.ok) (hc : t.chg = true) (e : pend l t = some k) : LkOk k := by
  cases t with
  | size n w hg =>
    obtain ⟨_, h1, h2⟩ := ht
    cases e
    exact ⟨rect_sized _ (by omega) (by omega), h.x, h.y, h.k⟩
  | paint n x y w hg c =>
    obtain ⟨_, hx, hy, h1, h2, _⟩ := ht
    have e : (if x + w > ((l.marks.headD []).length : Int) ∨ y + hg > (l.marks.length : Int) then none else some { l with marks := paintM l.marks x.toNat y.toNat w.toNat hg.toNat c }) = some k := e
    by_cases g : x + w > ((l.marks.headD []).length : Int) ∨ y + hg > (l.marks.length : Int)
    · rw [if_pos g] at e; cases e
    · rw [if_neg g] at e
      cases e
      exact ⟨rect_paint h.r (by omega), h.x, h.y, h.k⟩
  | place n x y =>
    obtain ⟨_, h1, h2⟩ := ht
    cases e
    exact ⟨h.r, h1, h2, h.k⟩
  | rank n r =>
    obtain ⟨_, h1⟩ := ht
    cases e
    exact ⟨h.r, h.x, h.y, h1⟩
  | veil n => cases e; exact ⟨h.r, h.x, h.y, h.k⟩
  | unveil n => cases e; exact ⟨h.r, h.x, h.y, h.k⟩
  | _ => cases hc
theorem new_ok : SfOk Sf.new := by
  refine ⟨⟨⟨?_, ?_, ?_, ?_, ?_⟩, ?_, ?_, ?_⟩, fun l e => ?_, fun l e => ?_⟩ <;> first | (cases e; done) | decide | (intro r hr; simp [Sf.new, Lk.new] at hr ⊢; rw [hr]; rfl)
theorem WfW.make {W : Wd} (h : WfW W) {n : Int} (hn : Nm n) (g : W.get n = none) : WfW (W ++ [(n, Sf.new)]) := by
  have nin : n ∉ W.names := fun q => by
    obtain ⟨s, e⟩ := name_get q
    rw [g] at e
    cases e
  have ga : ∀ m, (W ++ [(n, Sf.new)] : Wd).get m = if m = n then some Sf.new else W.get m := fun m => by
    unfold Wd.get
    rw [List.lookup_append]
    by_cases e : m = n
    · rw [if_pos e, e]
      have g2 : List.lookup n W = none := g
      rw [g2]
      simp
    · rw [if_neg e]
      cases q : List.lookup m W with
      | some s => rfl
      | none => simp [beq_eq_false_iff_ne.mpr e, List.lookup]
  have keep : ∀ m s, W.get m = some s → (W ++ [(n, Sf.new)] : Wd).get m = some s := fun m s q => by
    rw [ga, if_neg (fun e => by rw [e, g] at q; cases q)]
    exact q
  refine ⟨fun e he => ?_, ?_, fun m s t q e => ?_, fun m s q => ?_⟩
  · rcases List.mem_append.mp he with he | he
    · exact h.nm e he
    · rw [List.mem_singleton.mp he]; exact hn
  · unfold Wd.names
    rw [List.map_append, List.nodup_append]
    refine ⟨h.nd, by simp, fun a ha b hb e => ?_⟩
    rw [List.mem_singleton.mp (show b ∈ [n] from hb)] at e
    rw [e] at ha
    exact nin ha
  · rw [ga] at q
    by_cases em : m = n
    · rw [if_pos em] at q
      cases q
      cases e
    · rw [if_neg em] at q
      obtain ⟨s', g', h'⟩ := h.top m s t q e
      refine ⟨s', keep _ _ g', ?_⟩
      rcases h' with e1 | ⟨u, s'', e1, e2, e3⟩
      · exact .inl e1
      · exact .inr ⟨u, s'', e1, keep _ _ e2, e3⟩
  · rw [ga] at q
    by_cases em : m = n
    · rw [if_pos em] at q
      cases q
      exact new_ok
    · rw [if_neg em] at q
      exact h.ok m s q
theorem WfW.tie {W : Wd} (h : WfW W) {n o : Int} (t : mayTie W n o = true) : WfW (W.put n fun s => { s with top := some o }) := by
  unfold mayTie at t
  cases gn : W.get n with
  | none => rw [gn] at t; cases t
  | some sn =>
    cases go : W.get o with
    | none => rw [gn, go] at t; cases t
    | some so =>
      rw [gn, go] at t
      simp only [Bool.and_eq_true, Bool.not_eq_true', decide_eq_false_iff_not, Option.isNone_iff_eq_none, List.isEmpty_iff] at t
      obtain ⟨⟨⟨⟨⟨ne, _⟩, _⟩, t1⟩, t2⟩, t3⟩ := t
      have gp : ∀ m, (W.put n fun s => { s with top := some o }).get m = if m = n then some { sn with top := some o } else W.get m := fun m => by
        rw [get_put]
        by_cases e : m = n
        · rw [if_pos e, if_pos e, e, gn]; rfl
        · rw [if_neg e, if_neg e]
      have noT : ∀ m s, W.get m = some s → s.top ≠ some n := fun m s g e => by
        have : m ∈ W.parts (some n) := mem_parts.mpr ⟨s, g, e⟩
        rw [t2] at this
        cases this
      refine ⟨nm_of_names (by rw [names_put]; exact h.names_nm), by rw [names_put]; exact h.nd, fun m s t g e => ?_, fun m s g => ?_⟩
      · rw [gp] at g
        by_cases em : m = n
        · rw [if_pos em] at g
          cases g
          cases e
          refine ⟨so, by rw [gp, if_neg (Ne.symm ne)]; exact go, ?_⟩
          cases eo : so.top with
          | none => exact .inl rfl
          | some u =>
            rw [eo] at t3
            have t3 : (match W.get u with | some s' => s'.top.isNone | none => false) = true := t3
            cases gu : W.get u with
            | none =>
              rw [gu] at t3
              cases t3
            | some su =>
              rw [gu] at t3
              refine .inr ⟨u, su, rfl, ?_, Option.isNone_iff_eq_none.mp t3⟩
              rw [gp, if_neg (fun z => noT o so go (by rw [eo, z]))]
              exact gu
        · rw [if_neg em] at g
          obtain ⟨s', g', h'⟩ := h.top m s t g e
          have tn : t ≠ n := fun z => noT m s g (by rw [e, z])
          refine ⟨s', by rw [gp, if_neg tn]; exact g', ?_⟩
          rcases h' with e1 | ⟨u, s'', e1, e2, e3⟩
          · exact .inl e1
          · refine .inr ⟨u, s'', e1, ?_, e3⟩
            rw [gp, if_neg (fun z => noT t s' g' (by rw [e1, z]))]
            exact e2
      · rw [gp] at g
        by_cases em : m = n
        · rw [if_pos em] at g
          cases g
          have k := h.ok n sn gn
          exact ⟨k.p, k.r, k.s⟩
        · rw [if_neg em] at g
          exact h.ok m s g
theorem SfOk.shw {s : Sf} (h : SfOk s) : SfOk { s with ready := some s.pending } := ⟨h.p, fun l e => by cases e; exact h.p, h.s⟩
theorem WfW.shows {W : Wd} : ∀ (l : List Int) {W : Wd}, WfW W → WfW (l.foldl (fun V p => V.put p showOne) W)
  | [], _, h => h
  | p :: l, _, h => WfW.shows (W := W) l (h.put (fun s _ => rfl) fun s _ k => ⟨k.p, fun l e => (by cases e), k.r⟩)
theorem WfW.shw {W : Wd} (h : WfW W) (n : Int) : WfW (doShow W n).1 := by
  have h1 : WfW (W.put n fun s => { s with ready := some s.pending }) := h.put (fun s _ => rfl) fun s _ k => k.shw
  unfold doShow
  split
  · exact h1
  · exact WfW.shows (W := W) _ h1
/-- what a letter leaves can be -/
theorem WfW.does {W : Wd} (h : WfW W) {l : Lt} (hl : l.ok) {r : Wd × List Int × List Int} (e : does W l = some r) : WfW r.1 := by
  have chg : ∀ l : Lt, l.ok → l.chg = true → (match W.get l.name with | none => none | some s => (pend s.pending l).map fun k => ((W.put l.name fun s => { s with pending := k }), ([] : List Int), ([] : List Int))) = some r → WfW r.1 := fun l hl hc e => by
    cases g : W.get l.name with
    | none => rw [g] at e; cases e
    | some s =>
      rw [g] at e
      obtain ⟨k, e1, e2⟩ := Option.map_eq_some_iff.mp e
      rw [← e2]
      exact h.put (f := fun s => { s with pending := k }) (fun s _ => rfl) fun s2 g2 k2 => ⟨pend_ok (h.ok _ _ g).p hl hc e1, k2.r, k2.s⟩
  cases l with
  | make n =>
    have e : (if (W.get n).isSome = true then none else some (W ++ [(n, Sf.new)], [], [])) = some r := e
    by_cases g : (W.get n).isSome = true
    · rw [if_pos g] at e; cases e
    · rw [if_neg g] at e
      cases e
      exact h.make hl (by simpa using g)
  | drop n =>
    have e : (if (W.get n).isSome = true then some (doDrop W n, [], under 3 W n) else none) = some r := e
    by_cases g : (W.get n).isSome = true
    · rw [if_pos g] at e; cases e; exact h.drop n
    · rw [if_neg g] at e; cases e
  | tie n o =>
    have e : (if mayTie W n o = true then some (W.put n fun s => { s with top := some o }, [], []) else none) = some r := e
    by_cases g : mayTie W n o = true
    · rw [if_pos g] at e; cases e; exact h.tie g
    · rw [if_neg g] at e; cases e
  | shw n =>
    have e : (if (W.get n).isSome = true then some ((doShow W n).1, (doShow W n).2, []) else none) = some r := e
    by_cases g : (W.get n).isSome = true
    · rw [if_pos g] at e; cases e; exact h.shw n
    · rw [if_neg g] at e; cases e
  | hold n =>
    have e : (if (W.get n).isSome = true then some (W, [], []) else none) = some r := e
    by_cases g : (W.get n).isSome = true
    · rw [if_pos g] at e; cases e; exact h
    · rw [if_neg g] at e; cases e
  | lt => cases e; exact h
  | size n a b => exact chg (.size n a b) hl rfl e
  | paint n a b c d f => exact chg (.paint n a b c d f) hl rfl e
  | place n a b => exact chg (.place n a b) hl rfl e
  | rank n a => exact chg (.rank n a) hl rfl e
  | veil n => exact chg (.veil n) hl rfl e
  | unveil n => exact chg (.unveil n) hl rfl e
theorem wf_nil : WfW [] where
  nm := fun e h => by cases h
  nd := List.nodup_nil
  top := fun n s t h => by cases h
  ok := fun n s h => by cases h

/-! ### letters done upon the law's surfaces -/
def putL (L : WL_) (n : Int) (f : Sf → Sf) : WL_ := L.map fun e => if e.1 = n then (e.1, e.2.1, f e.2.2) else e
theorem wd_putL (L : WL_) (n : Int) (f : Sf → Sf) : wd (putL L n f) = (wd L).put n f := by
  unfold wd putL Wd.put
  rw [List.map_map, List.map_map]
  refine List.map_congr_left fun e _ => ?_
  show ((if e.1 = n then (e.1, e.2.1, f e.2.2) else e).1, (if e.1 = n then (e.1, e.2.1, f e.2.2) else e).2.2) = if e.1 = n then (e.1, f e.2.2) else (e.1, e.2.2)
  split <;> rfl
theorem ad_putL (L : WL_) (n : Int) (f : Sf → Sf) : (putL L n f).map (fun e => e.2.1) = L.map fun e => e.2.1 := by
  unfold putL
  rw [List.map_map]
  refine List.map_congr_left fun e _ => ?_
  show (if e.1 = n then (e.1, e.2.1, f e.2.2) else e).2.1 = e.2.1
  split <;> rfl
theorem nn_putL (L : WL_) (n : Int) (f : Sf → Sf) : (putL L n f).map (fun e => e.1) = L.map fun e => e.1 := by
  unfold putL
  rw [List.map_map]
  refine List.map_congr_left fun e _ => ?_
  show (if e.1 = n then (e.1, e.2.1, f e.2.2) else e).1 = e.1
  split <;> rfl
theorem kv_putL (L : WL_) (n : Int) (f : Sf → Sf) : kvW (putL L n f) = kvW L := by
  unfold kvW putL
  rw [List.map_map]
  refine List.map_congr_left fun e _ => ?_
  show ((.inl (if e.1 = n then (e.1, e.2.1, f e.2.2) else e).1 : Key), V.ref (if e.1 = n then (e.1, e.2.1, f e.2.2) else e).2.1) = (.inl e.1, V.ref e.2.1)
  split <;> rfl
theorem fp_putL (pw : Addr) (L : WL_) (n : Int) (f : Sf → Sf) : fpW pw (putL L n f) = fpW pw L := by unfold fpW; rw [ad_putL]
def addL (L : WL_) (n : Int) (d : Addr) (s : Sf) : WL_ := L ++ [(n, d, s)]
def delL (L : WL_) (n : Int) : WL_ := L.filter fun e => decide (e.1 ≠ n)
theorem wd_delL (L : WL_) (n : Int) : wd (delL L n) = (wd L).del n := by
  unfold wd delL Wd.del
  rw [List.filter_map]
  rfl
theorem kv_delL (L : WL_) (n : Int) : kvW (delL L n) = dropK (kvW L) (.inl n) := by
  unfold kvW delL dropK
  rw [List.filter_map]
  congr 1
  refine List.filter_congr fun e _ => ?_
  simp
section
variable {K : PySem.W.Frag} {H H' : Hp} {pw d : Addr} {L : WL_} {n : Int} {s : Sf}
theorem mem_nd (h : (L.map fun e => e.2.1).Nodup) {a b : Int × Addr × Sf} (ha : a ∈ L) (hb : b ∈ L) (e : a.2.1 = b.2.1) : a = b := by
  induction L with
  | nil => cases ha
  | cons x L ih =>
    rw [List.map_cons, List.nodup_cons] at h
    rcases List.mem_cons.mp ha with e1 | ha
    · rcases List.mem_cons.mp hb with e2 | hb
      · rw [e1, e2]
      · exact absurd (by rw [← e1, e]; exact List.mem_map_of_mem (f := fun e => e.2.1) hb) h.1
    · rcases List.mem_cons.mp hb with e2 | hb
      · exact absurd (by rw [← e2, ← e]; exact List.mem_map_of_mem (f := fun e => e.2.1) ha) h.1
      · exact ih h.2 ha hb
theorem mem_nn (h : (L.map fun e => e.1).Nodup) {a b : Int × Addr × Sf} (ha : a ∈ L) (hb : b ∈ L) (e : a.1 = b.1) : a = b := by
  induction L with
  | nil => cases ha
  | cons x L ih =>
    rw [List.map_cons, List.nodup_cons] at h
    rcases List.mem_cons.mp ha with e1 | ha
    · rcases List.mem_cons.mp hb with e2 | hb
      · rw [e1, e2]
      · exact absurd (by rw [← e1, e]; exact List.mem_map_of_mem (f := fun e => e.1) hb) h.1
    · rcases List.mem_cons.mp hb with e2 | hb
      · exact absurd (by rw [← e2, ← e]; exact List.mem_map_of_mem (f := fun e => e.1) ha) h.1
      · exact ih h.2 ha hb
/-- one surface changed in its place -/
theorem WAt.put {f : Sf → Sf} (h : WAt K H pw L) (m : (n, d, s) ∈ L) (fr : Fr [d] H H') (q : SfAt K H' d (f s)) : WAt K H' pw (putL L n f) := by
  refine ⟨?_, fun e he => ?_, by rw [ad_putL]; exact h.nd, by rw [nn_putL]; exact h.nn, fun e he => ?_, by unfold putL; rw [List.length_map]; exact h.le⟩
  · rw [kv_putL]
    exact fr.at_ _ _ h.at_ fun z => h.ne _ m (List.mem_singleton.mp z).symm
  · obtain ⟨e0, h0, rfl⟩ := List.mem_map.mp he
    by_cases en : e0.1 = n
    · rw [if_pos en]
      have := mem_nn h.nn h0 m en
      rw [this]
      exact q
    · rw [if_neg en]
      refine (h.each _ h0).fr fr fun z => en ?_
      have := mem_nd h.nd h0 m (List.mem_singleton.mp z)
      rw [this]
  · have : e.2.1 ∈ (putL L n f).map (fun e => e.2.1) := List.mem_map_of_mem (f := fun e => e.2.1) he
    rw [ad_putL] at this
    obtain ⟨e0, h0, e1⟩ := List.mem_map.mp this
    rw [← e1]
    exact h.ne _ h0
theorem putK_new {L : WL_} (hn : n ∉ L.map fun e => e.1) (v : V) : putK (kvW L) (.inl n) v = kvW L ++ [(.inl n, v)] := by
  unfold putK
  rw [if_neg]
  intro q
  obtain ⟨kv, h1, h2⟩ := List.any_eq_true.mp q
  obtain ⟨e, he, rfl⟩ := List.mem_map.mp h1
  have h3 : (Sum.inl e.1 : Key) = Sum.inl n := of_decide_eq_true h2
  injection h3 with h3
  exact hn (by rw [← h3]; exact List.mem_map_of_mem (f := fun e => e.1) he)
/-- one surface more -/
theorem WAt.add (h : WAt K H pw L) (hn : n ∉ L.map fun e => e.1) (hd : ∀ e ∈ L, e.2.1 ≠ d) (nd : d ≠ pw) (fr : Fr [pw] H H') (hp : H' pw = some (.dK (putK (kvW L) (.inl n) (.ref d)))) (q : SfAt K H' d s) (hl : L.length < 10) : WAt K H' pw (addL L n d s) := by
  refine ⟨?_, fun e he => ?_, ?_, ?_, fun e he => ?_, by unfold addL; rw [List.length_append]; exact hl⟩
  · rw [hp, putK_new hn]
    simp [kvW, addL]
  · rcases List.mem_append.mp he with he | he
    · exact (h.each _ he).fr fr fun z => h.ne _ he (List.mem_singleton.mp z)
    · rw [List.mem_singleton.mp he]
      exact q
  · unfold addL
    rw [List.map_append, List.nodup_append]
    refine ⟨h.nd, by simp, fun a ha b hb e => ?_⟩
    obtain ⟨x, hx, rfl⟩ := List.mem_map.mp ha
    rw [List.mem_singleton.mp (show b ∈ [d] from hb)] at e
    exact hd x hx e
  · unfold addL
    rw [List.map_append, List.nodup_append]
    refine ⟨h.nn, by simp, fun a ha b hb e => ?_⟩
    rw [List.mem_singleton.mp (show b ∈ [n] from hb)] at e
    rw [e] at ha
    exact hn ha
  · rcases List.mem_append.mp he with he | he
    · exact h.ne _ he
    · rw [List.mem_singleton.mp he]
      exact nd
/-- one surface less -/
theorem WAt.del (h : WAt K H pw L) : WAt K (upd H pw (.dK (dropK (kvW L) (.inl n)))) pw (delL L n) := by
  have fr : Fr [pw] H (upd H pw (.dK (dropK (kvW L) (.inl n)))) := Fr.set h.at_ rfl (List.mem_singleton.mpr rfl)
  refine ⟨by rw [upd_same, kv_delL], fun e he => ?_, List.Nodup.sublist (List.Sublist.map _ List.filter_sublist) h.nd, List.Nodup.sublist (List.Sublist.map _ List.filter_sublist) h.nn, fun e he => h.ne _ (List.mem_filter.mp he).1, Nat.le_trans (List.length_filter_le _ _) h.le⟩
  have hm := (List.mem_filter.mp he).1
  exact (h.each _ hm).fr fr fun z => h.ne _ hm (List.mem_singleton.mp z)
theorem fp_delL {a : Addr} (h : a ∈ fpW pw (delL L n)) : a ∈ fpW pw L := by
  rcases List.mem_cons.mp h with e | h
  · rw [e]; exact List.mem_cons_self ..
  · obtain ⟨x, hx, rfl⟩ := List.mem_map.mp h
    exact List.mem_cons_of_mem _ (List.mem_map_of_mem (f := fun e => e.2.1) (List.mem_filter.mp hx).1)
theorem fp_mem (m : (n, d, s) ∈ L) : d ∈ fpW pw L := List.mem_cons_of_mem _ (List.mem_map_of_mem (f := fun e => e.2.1) m)
end
section
variable {P : Program} {w : World} {K : PySem.W.Frag} {mg : Str → Option Value} {base : Heap}
def spTied (K : PySem.W.Frag) : Sp := fun vs H Q _ => ∃ pw n o L, vs = [.ref pw, .int n, .int o] ∧ WAt K H pw L ∧ WfW (wd L) ∧ ∀ H', Same H H' → Q (.bl (mayTie (wd L) n o)) H'
theorem under_long {W : Wd} {n : Int} : (under 3 W n).length ≤ 1 ↔ W.parts (some n) = [] := by
  constructor
  · intro h
    have h : (n :: (W.parts (some n)).flatMap (under 2 W)).length ≤ 1 := h
    rw [List.length_cons] at h
    cases e : W.parts (some n) with
    | nil => rfl
    | cons p ps =>
      rw [e, List.flatMap_cons, List.length_append] at h
      obtain ⟨r, q⟩ := under_cons 2 W p
      rw [q, List.length_cons] at h
      omega
  · intro h
    show (n :: (W.parts (some n)).flatMap (under 2 W)).length ≤ 1
    rw [h]
    exact Nat.le_refl _
theorem ok_law_is_tied (T : Tx w K mg) : Cal P w K mg base 5 "_law_is_tied" (spTied K) [] := by
  refine mk_law_is_tied T (fun vs H Q E h => ?_) (fun cdv A outer s H vs Q E hr h => ?_)
  · obtain ⟨pw, n, o, L, rfl, _⟩ := h
    rfl
  · obtain ⟨pw, n, o, L, rfl, hW, hF, q⟩ := h
    refine ⟨_, (pss_cons (ps_if (PW.pt (pw_or (pt_cmpR op_eq (pv 1) (pv 2) (nomark _)) (pw_or (pt_cmp (pc_dnotin (hu_of hr) (pv 1) (pv 0))) (pw_or (pt_cmp (pc_dnotin (hu_of hr) (pv 2) (pv 0))) (pw_or1 (pt_cmpR op_gt (pe_callB c_len (by rfl) (f_len T) (by decide +kernel) (pa_cons (pe_c (ok_law_under T) hr (by omega) rfl (pa_cons (pv 0) (pa_cons (pv 1) pa_nil))) pa_nil)) pe_int (nomark _))))))) (pss_one (ps_ret pe_bl)) pss_nil)
  (pss_cons (ps_if (PW.pt (pw_or (pt_cmpR o_notN (pe_dget (hu_of hr) (pe_dget (hu_of hr) (pv 0) (pv 1) (fun _ _ => rfl)) pe_str (fun _ _ => rfl)) pe_non (nomark _)) (pw_or (pt_cmpR o_notN (pe_dget (hu_of hr) (pe_dget (hu_of hr) (pv 0) (pv 1) (fun _ _ => rfl)) pe_str (fun _ _ => rfl)) pe_non (nomark _)) (pw_or1 (pt_cmpR o_notN (pe_dget (hu_of hr) (pe_dget (hu_of hr) (pv 0) (pv 1) (fun _ _ => rfl)) pe_str (fun _ _ => rfl)) pe_non (nomark _)))))) (pss_one (ps_ret pe_bl)) pss_nil)
  (pss_cons (ps_set (i := 3) sc_law_is_tied.nd rfl (.inl rfl) (pe_dget (hu_of hr) (pe_dget (hu_of hr) (pv 0) (pv 2) (fun _ _ => rfl)) pe_str (fun _ _ => rfl)))
  (pss_one (ps_ret (pe_or (pe_cmpR o_isN (pv 3) pe_non (nomark _)) (pe_one (pe_cmpR o_isN (pe_dget (hu_of hr) (pe_dget (hu_of hr) (pv 0) (pv 3) (fun _ _ => rfl)) pe_str (fun _ _ => rfl)) pe_non (nomark _))))))))), ?_⟩
    rw [st_law_is_tied]
    wtm_at "go"
    by_cases e0 : n = o
    · rw [decide_eq_true e0]
      wtm_at "go"
      have : mayTie (wd L) n o = false := by
        unfold mayTie
        rw [e0]
        cases (wd L).get o <;> simp
      rw [this] at q
      exact q _ (Same.refl _)
    · rw [decide_eq_false e0]
      wtm_at "go"
      refine iDNI hW.at_ ?_
      rw [WAt.isSome]
      wtm_at "go"
      cases gn : (wd L).get n with
      | none =>
        wtm_at "go"
        have : mayTie (wd L) n o = false := by unfold mayTie; rw [gn]
        rw [this] at q
        exact q _ (Same.refl _)
      | some sn =>
        wtm_at "go"
        refine iDNI hW.at_ ?_
        rw [WAt.isSome]
        wtm_at "go"
        cases go : (wd L).get o with
        | none =>
          wtm_at "go"
          have : mayTie (wd L) n o = false := by unfold mayTie; rw [gn, go]
          rw [this] at q
          exact q _ (Same.refl _)
        | some so =>
          have emt : mayTie (wd L) n o = (!decide (n = o) && sn.shown.isNone && sn.ready.isNone && sn.top.isNone && ((wd L).parts (some n)).isEmpty && (match so.top with | none => true | some u => (match (wd L).get u with | some s' => s'.top.isNone | none => false))) := by unfold mayTie; rw [gn, go] <;> rfl
          wtm_at "go"
          refine ⟨pw, n, L, rfl, hW, hF.ht n, fun H1 p s1 np hp => ?_⟩
          wtm_at "go"
          rw [List.length_map]
          have W1 := hW.same s1
          obtain ⟨d, md, ev, vp, vr, vs, hd, h1, h2, h3⟩ := W1.get gn
          first | refine iteD (fun e1 => ?_) (fun e1 => ?_) | refine iteN (fun e1 => ?_) (fun e1 => ?_) | refine ite2 (fun e1 => ?_) (fun e1 => ?_)
          · wtm_at "go"
            have : mayTie (wd L) n o = false := by
              rw [emt]
              have : ((wd L).parts (some n)).isEmpty = false := by
                cases q : (wd L).parts (some n) with
                | nil => have := under_long.mpr q; omega
                | cons _ _ => rfl
              rw [this]
              simp
            rw [this] at q
            exact q _ s1
          · have e2 : ((wd L).parts (some n)).isEmpty = true := by rw [List.isEmpty_iff]; exact under_long.mp (by omega)
            rw [e2] at emt
            wtm_at "go"
            refine iDGI W1.at_ ev ?_
            wtm_at "go"
            refine iDGS (v := vs) hd rfl ?_
            wtm_at "go"
            refine iNoOL h3 ?_
            wtm_at "go"
            cases es : sn.shown with
            | some _ => rw [es] at emt; wtm_at "go"; exact (by simpa [emt] using q _ s1)
            | none =>
              rw [es] at emt
              wtm_at "go"
              refine iDGI W1.at_ ev ?_
              wtm_at "go"
              refine iDGS (v := vr) hd rfl ?_
              wtm_at "go"
              refine iNoOL h2 ?_
              wtm_at "go"
              cases er : sn.ready with
              | some _ => rw [er] at emt; wtm_at "go"; exact (by simpa [emt] using q _ s1)
              | none =>
                rw [er] at emt
                wtm_at "go"
                refine iDGI W1.at_ ev ?_
                wtm_at "go"
                refine iDGS (v := oI sn.top) hd rfl ?_
                wtm_at "go"
                refine iNoOI ?_
                wtm_at "go"
                cases et : sn.top with
                | some _ => rw [et] at emt; wtm_at "go"; exact (by simpa [emt] using q _ s1)
                | none =>
                  rw [et] at emt
                  obtain ⟨d2, md2, ev2, vp2, vr2, vs2, hd2, _⟩ := W1.get go
                  wtm_at "go"
                  refine iDGI W1.at_ ev2 ?_
                  wtm_at "go"
                  refine iDGS (v := oI so.top) hd2 rfl ?_
                  wtm_at "go"
                  refine iIsOI ?_
                  wtm_at "go"
                  cases eo : so.top with
                  | none =>
                    rw [eo] at emt
                    wtm_at "go"
                    have : mayTie (wd L) n o = true := by rw [emt]; simp [e0]
                    rw [this] at q
                    exact q _ s1
                  | some u =>
                    rw [eo] at emt
                    wtm_at "go"
                    obtain ⟨su, gu, _⟩ := hF.top o so u go eo
                    obtain ⟨d3, md3, ev3, vp3, vr3, vs3, hd3, _⟩ := W1.get gu
                    refine iDGI W1.at_ ev3 ?_
                    wtm_at "go"
                    refine iDGS (v := oI su.top) hd3 rfl ?_
                    wtm_at "go"
                    refine iIsOI ?_
                    have : mayTie (wd L) n o = su.top.isNone := by
                      rw [emt]
                      show (!decide (n = o) && _ && _ && _ && _ && (match (wd L).get u with | some s' => s'.top.isNone | none => false)) = _
                      rw [gu]
                      simp [e0]
                    rw [this] at q
                    exact q _ s1
end

def aft (W : Wd) (l : Lt) : Wd := match does W l with | some r => r.1 | none => W
def shs (W : Wd) (l : Lt) : List Int := match does W l with | some r => r.2.1 | none => []
def drs (W : Wd) (l : Lt) : List Int := match does W l with | some r => r.2.2 | none => []
theorem WfW.aft {W : Wd} (h : WfW W) {l : Lt} (hl : l.ok) : WfW (aft W l) := by
  unfold U.aft
  cases e : U.does W l with
  | none => exact h
  | some r => exact h.does hl e
/-- what one letter leaves of the law's surfaces -/
structure DoneW (K : PySem.W.Frag) (H H' : Hp) (pw : Addr) (L L' : WL_) (l : Lt) : Prop where
  at_ : WAt K H' pw L'
  is : wd L' = aft (wd L) l
  fr : Fr (fpW pw L) H H'
  fp : ∀ a ∈ fpW pw L', a ∈ fpW pw L ∨ H a = none
theorem names_puts {f : Sf → Sf} : ∀ (l : List Int) (W : Wd), (l.foldl (fun V p => V.put p f) W).names = W.names
  | [], _ => rfl
  | p :: l, W => by rw [List.foldl_cons, names_puts l, names_put]
theorem chg_vs {l : Lt} (h : l.chg = true) : ∃ (wo : Str) (n : Int) (r : List V), l.vs = .str wo :: .int n :: r ∧ wo ≠ "let" ∧ wo ≠ "make" ∧ wo ≠ "tie" ∧ wo ≠ "hold" ∧ wo ≠ "drop" ∧ wo ≠ "show" ∧ l.name = n ∧ ∀ W, does W l = match W.get l.name with
    | none => none
    | some s => (pend s.pending l).map fun k => (W.put l.name fun s => { s with pending := k }, [], []) := by
  cases l <;> first | (cases h; done) | exact ⟨_, _, _, rfl, by simp only [Lt.word]; decide, by simp only [Lt.word]; decide, by simp only [Lt.word]; decide, by simp only [Lt.word]; decide, by simp only [Lt.word]; decide, by simp only [Lt.word]; decide, rfl, fun _ => rfl⟩
def spDoes (K : PySem.W.Frag) : Sp := fun vs H Q _ => ∃ pw la L l, vs = [.ref pw, .ref la] ∧ WAt K H pw L ∧ WfW (wd L) ∧ SqT K H la (Lt.vs l) ∧ l.ok ∧ ∀ H' L' t p1 p2, DoneW K H H' pw L L' l → H p1 = none → H p2 = none → p1 ∉ fpW pw L' → p2 ∉ fpW pw L' → SqT K H' t [.bl (does (wd L) l).isSome, .ref p1, .ref p2] → H' p1 = some (.lst ((shs (wd L) l).map V.int)) → H' p2 = some (.lst ((drs (wd L) l).map V.int)) → Q (.ref t) H'
section
variable {K : PySem.W.Frag} {H H1 : Hp} {pw : Addr} {L L1 : WL_}
theorem fp_some (h : WAt K H pw L) {a : Addr} (ha : a ∈ fpW pw L) : ∃ o, H a = some o ∧ isMut o = true := by
  rcases List.mem_cons.mp ha with e | ha
  · rw [e]; exact ⟨_, h.at_, rfl⟩
  · obtain ⟨x, hx, rfl⟩ := List.mem_map.mp ha
    obtain ⟨vp, vr, vs, e, _⟩ := h.each x hx
    exact ⟨_, e, rfl⟩
theorem fp_new (h : WAt K H pw L) {a : Addr} (ha : H a = none) : a ∉ fpW pw L := fun z => by
  obtain ⟨o, e, _⟩ := fp_some h z
  rw [ha] at e
  cases e
/-- the end of a letter that shows and drops nothing: two new lists, the tuple -/
theorem fin3 {l : Lt} {b : Bool} {Q : VK} (q : ∀ H' L' t p1 p2, DoneW K H H' pw L L' l → H p1 = none → H p2 = none → p1 ∉ fpW pw L' → p2 ∉ fpW pw L' → SqT K H' t [.bl (does (wd L) l).isSome, .ref p1, .ref p2] → H' p1 = some (.lst ((shs (wd L) l).map V.int)) → H' p2 = some (.lst ((drs (wd L) l).map V.int)) → Q (.ref t) H')
    (hW : WAt K H pw L) (W1 : WAt K H1 pw L1) (is : wd L1 = aft (wd L) l) (fr : Fr (fpW pw L) H H1) (fp : ∀ a ∈ fpW pw L1, a ∈ fpW pw L ∨ H a = none) (eb : (does (wd L) l).isSome = b) (es : shs (wd L) l = []) (ed : drs (wd L) l = [])
    (p1 : Addr) (n1 : H1 p1 = none) (p2 : Addr) (n2 : upd H1 p1 (.lst []) p2 = none) (t : Addr) (nt : upd (upd H1 p1 (.lst [])) p2 (.lst []) t = none) : Q (.ref t) (upd (upd (upd H1 p1 (.lst [])) p2 (.lst [])) t (.tup [.bl b, .ref p1, .ref p2])) := by
  have s1 : Same H1 (upd (upd (upd H1 p1 (.lst [])) p2 (.lst [])) t (.tup [.bl b, .ref p1, .ref p2])) := ((same_new n1).trans (same_new n2)).trans (same_new nt)
  have n2' : H1 p2 = none := (same_new n1).free n2
  have N1 : p1 ∉ fpW pw L1 := fp_new W1 n1
  have N2 : p2 ∉ fpW pw L1 := fp_new W1 n2'
  rw [← eb] at s1 ⊢
  refine q _ L1 t p1 p2 ⟨W1.same s1, is, fr.trans (Fr.same s1), fp⟩ (fr.free n1) (fr.free n2') N1 N2 (SqT.of upd_same) ?_ ?_
  · rw [es, upd_ne (ne_of_none ((same_new n2) _ _ upd_same) nt), upd_ne (ne_of_none upd_same n2)]
    exact upd_same
  · rw [ed, upd_ne (ne_of_none upd_same nt)]
    exact upd_same
end
section
variable {P : Program} {w : World} {K : PySem.W.Frag} {mg : Str → Option Value} {base : Heap}
theorem aft_none {W : Wd} {l : Lt} (e : does W l = none) : aft W l = W ∧ shs W l = [] ∧ drs W l = [] := by unfold aft shs drs; rw [e]; exact ⟨rfl, rfl, rfl⟩
theorem aft_some {W : Wd} {l : Lt} {r : Wd × List Int × List Int} (e : does W l = some r) : aft W l = r.1 ∧ shs W l = r.2.1 ∧ drs W l = r.2.2 := by unfold aft shs drs; rw [e]; exact ⟨rfl, rfl, rfl⟩
theorem ok_law_does (T : Tx w K mg) : Cal P w K mg base 6 "_law_does" (spDoes K) [] := by
  refine mk_law_does T (fun vs H Q E h => ?_) (fun cdv A outer s H vs Q E hr h => ?_)
  · obtain ⟨pw, la, L, l, rfl, _⟩ := h
    rfl
  · obtain ⟨pw, la, L, l, rfl, hW, hF, hl, hok, q⟩ := h
    refine ⟨_, (pss_cons (ps_set (i := 2) sc_law_does.nd rfl (.inl rfl) (pe_ix ix_tup (pv 1) pe_int (fun _ _ => rfl)))
  (pss_cons (ps_if (pt_cmpR op_eq (pv 2) pe_str (nomark _)) (pss_one (ps_ret (pe_tup (pa_cons pe_bl (pa_cons (pe_lst pa_nil) (pa_cons (pe_lst pa_nil) pa_nil)))))) pss_nil)
  (pss_cons (ps_set (i := 3) sc_law_does.nd rfl (.inl rfl) (pe_ix ix_tup (pv 1) pe_int (fun _ _ => rfl)))
  (pss_cons (ps_if (pt_cmpR op_eq (pv 2) pe_str (nomark _)) (pss_cons (ps_if (pt_cmp (pc_din (hu_of hr) (pv 3) (pv 0))) (pss_one (ps_ret (pe_tup (pa_cons pe_bl (pa_cons (pe_lst pa_nil) (pa_cons (pe_lst pa_nil) pa_nil)))))) pss_nil)
  (pss_cons (ps_dput (hu_of hr) (pv 0) (pv 3) (pe_disp (pps_cons pe_str (pe_tup (pa_cons pe_int (pa_cons pe_int (pa_cons pe_int (pa_cons pe_bl (pa_cons (pe_tup (pa_cons (pe_tup (pa_cons pe_int pa_nil)) pa_nil)) pa_nil)))))) (pps_cons pe_str pe_non (pps_cons pe_str pe_non (pps_cons pe_str pe_non pps_nil)))) (by rfl) (by rfl) (fun z => by cases z) (by decide)) rfl)
  (pss_one (ps_ret (pe_tup (pa_cons pe_bl (pa_cons (pe_lst pa_nil) (pa_cons (pe_lst pa_nil) pa_nil)))))))) pss_nil)
  (pss_cons (ps_if (pt_cmpR op_eq (pv 2) pe_str (nomark _)) (pss_cons (ps_if (pt_not (pt_val (pe_c (ok_law_is_tied T) hr (by omega) rfl (pa_cons (pv 0) (pa_cons (pv 3) (pa_cons (pe_ix ix_tup (pv 1) pe_int (fun _ _ => rfl)) pa_nil)))))) (pss_one (ps_ret (pe_tup (pa_cons pe_bl (pa_cons (pe_lst pa_nil) (pa_cons (pe_lst pa_nil) pa_nil)))))) pss_nil)
  (pss_cons (ps_dput (hu_of hr) (pe_dget (hu_of hr) (pv 0) (pv 3) (fun _ _ => rfl)) pe_str (pe_ix ix_tup (pv 1) pe_int (fun _ _ => rfl)) rfl)
  (pss_one (ps_ret (pe_tup (pa_cons pe_bl (pa_cons (pe_lst pa_nil) (pa_cons (pe_lst pa_nil) pa_nil)))))))) pss_nil)
  (pss_cons (ps_if (pt_cmp (pc_dnotin (hu_of hr) (pv 3) (pv 0))) (pss_one (ps_ret (pe_tup (pa_cons pe_bl (pa_cons (pe_lst pa_nil) (pa_cons (pe_lst pa_nil) pa_nil)))))) pss_nil)
  (pss_cons (ps_if (pt_cmpR op_eq (pv 2) pe_str (nomark _)) (pss_one (ps_ret (pe_tup (pa_cons pe_bl (pa_cons (pe_lst pa_nil) (pa_cons (pe_lst pa_nil) pa_nil)))))) pss_nil)
  (pss_cons (ps_if (pt_cmpR op_eq (pv 2) pe_str (nomark _)) (pss_cons (ps_set (i := 4) sc_law_does.nd rfl (.inl rfl) (pe_c (ok_law_under T) hr (by omega) rfl (pa_cons (pv 0) (pa_cons (pv 3) pa_nil))))
  (pss_cons (ps_for PassesOwn.never rfl (pi_list (pv 4)) (pg_name (i := 5) sc_law_does.nd rfl (.inl rfl)) (pss_one (ps_expr (pe_dpop1 (pv 0) (pv 5) ⟨rfl, rfl, rfl, rfl⟩))))
  (pss_one (ps_ret (pe_tup (pa_cons pe_bl (pa_cons (pe_lst pa_nil) (pa_cons (pv 4) pa_nil)))))))) pss_nil)
  (pss_cons (ps_if (pt_cmpR op_eq (pv 2) pe_str (nomark _)) (pss_cons (ps_dput (hu_of hr) (pe_dget (hu_of hr) (pv 0) (pv 3) (fun _ _ => rfl)) pe_str (pe_dget (hu_of hr) (pe_dget (hu_of hr) (pv 0) (pv 3) (fun _ _ => rfl)) pe_str (fun _ _ => rfl)) rfl)
  (pss_cons (ps_set (i := 6) sc_law_does.nd rfl (.inl rfl) (pe_ifExp (pt_cmpR o_isN (pe_dget (hu_of hr) (pe_dget (hu_of hr) (pv 0) (pv 3) (fun _ _ => rfl)) pe_str (fun _ _ => rfl)) pe_non (nomark _)) (pe_c (ok_law_under T) hr (by omega) rfl (pa_cons (pv 0) (pa_cons (pv 3) pa_nil))) (pe_lst pa_nil)))
  (pss_cons (ps_setLc (i := 6) (own := [("_law_one", 5)]) rfl sc_law_does.nd rfl rfl (sw_true rfl rfl rfl (by decide +kernel)) (pi_list (pv 6)) (blkOk_by (N := N_law_does) (sc := defScope s_law_does) (by decide +kernel)) (fun _ _ _ _ _ => (pg_name (i := 5) sc_law_does.nd rfl (.inl rfl))) (fun _ _ _ _ _ => pts_one (pt_cmpR o_notN (pe_dget (hu_of hr) (pe_dget (hu_of hr) (pv 0) (pv 5) (fun _ _ => rfl)) pe_str (fun _ _ => rfl)) pe_non (nomark _))) (fun _ _ _ _ _ => (pv 5)))
  (pss_cons (ps_for PassesOwn.never rfl (pi_list (pv 6)) (pg_name (i := 5) sc_law_does.nd rfl (.inl rfl)) (pss_one (ps_expr (pe_bm PySem.F.plainAttrs_dict PySem.F.slot_dict_update PySem.F.type_dict_update mt_update (pe_dget (hu_of hr) (pv 0) (pv 5) (fun _ _ => rfl)) (pa_cons (pe_disp (pps_cons pe_str (pe_dget (hu_of hr) (pe_dget (hu_of hr) (pv 0) (pv 5) (fun _ _ => rfl)) pe_str (fun _ _ => rfl)) (pps_cons pe_str pe_non pps_nil)) (by rfl) (by rfl) (fun z => by cases z) (by decide)) pa_nil)))))
  (pss_one (ps_ret (pe_tup (pa_cons pe_bl (pa_cons (pv 6) (pa_cons (pe_lst pa_nil) pa_nil)))))))))) pss_nil)
  (pss_cons (ps_set (i := 7) sc_law_does.nd rfl (.inl rfl) (pe_c (ok_law_pending T) hr (by omega) rfl (pa_cons (pe_dget (hu_of hr) (pe_dget (hu_of hr) (pv 0) (pv 3) (fun _ _ => rfl)) pe_str (fun _ _ => rfl)) (pa_cons (pv 1) pa_nil))))
  (pss_cons (ps_if (pt_cmpR o_notN (pv 7) pe_non (nomark _)) (pss_one (ps_dput (hu_of hr) (pe_dget (hu_of hr) (pv 0) (pv 3) (fun _ _ => rfl)) pe_str (pv 7) rfl)) pss_nil)
  (pss_one (ps_ret (pe_tup (pa_cons (pe_cmpR o_notN (pv 7) pe_non (nomark _)) (pa_cons (pe_lst pa_nil) (pa_cons (pe_lst pa_nil) pa_nil))))))))))))))))), ?_⟩
    rw [st_law_does]
    have fin0 := fun (e : does (wd L) l = none) => fin3 (b := false) q hW hW (aft_none e).1.symm Fr.refl (fun a h => .inl h) (by rw [e]; rfl) (aft_none e).2.1 (aft_none e).2.2
    by_cases hc : l.chg = true
    · obtain ⟨wo, n, r, hv, ne1, ne2, ne3, ne4, ne5, ne6, hn, hdo⟩ := chg_vs hc
      have hl2 := hl
      rw [hv] at hl2
      wtm_at "go"
      refine iIxT hl2 (at_of (j := 0) rfl rfl) ?_
      wtm_at "go"
      refine iteNo ne1 ?_
      wtm_at "go"
      refine iIxT hl2 (at_of (j := 1) rfl rfl) ?_
      wtm_at "go"
      refine iteNo ne2 ?_
      wtm_at "go"
      refine iteNo ne3 ?_
      wtm_at "go"
      refine iDNI hW.at_ ?_
      rw [WAt.isSome]
      wtm_at "go"
      cases gn : (wd L).get n with
      | none =>
        wtm_at "go"
        intro p1 n1
        wtm_at "go"
        intro p2 n2
        wtm_at "go"
        intro t nt
        exact fin0 (by rw [hdo, hn, gn]) p1 n1 p2 n2 t nt
      | some sn =>
        obtain ⟨d, md, ev, vp, vr, vs, hd, h1, h2, h3⟩ := hW.get gn
        have hok1 := (hF.ok n sn gn).p
        wtm_at "go"
        refine iteNo ne4 ?_
        wtm_at "go"
        refine iteNo ne5 ?_
        wtm_at "go"
        refine iteNo ne6 ?_
        wtm_at "go"
        refine iDGI hW.at_ ev ?_
        wtm_at "go"
        refine iDGS (v := vp) hd rfl ?_
        wtm_at "go"
        refine ⟨vp, la, sn.pending, l, rfl, h1, hok1.r, hl, hok, hc, fun H1 u s1 hu => ?_⟩
        have W1 := hW.same s1
        wtm_at "go"
        refine iNoOL hu ?_
        wtm_at "go"
        cases ep : pend sn.pending l with
        | none =>
          rw [ep] at hu
          cases (show u = .non from hu)
          wtm_at "go"
          intro p1 n1
          wtm_at "go"
          intro p2 n2
          wtm_at "go"
          intro t nt
          have ed : does (wd L) l = none := by rw [hdo, hn, gn]; show (pend sn.pending l).map _ = none; rw [ep]; rfl
          exact fin3 (b := false) q hW W1 (aft_none ed).1.symm (Fr.same s1) (fun a h => .inl h) (by rw [ed]; rfl) (aft_none ed).2.1 (aft_none ed).2.2 p1 n1 p2 n2 t nt
        | some k =>
          rw [ep] at hu
          obtain ⟨ua, uv, rfl, hu1⟩ := (show LkT K H1 u k from hu)
          have hu : LkT K H1 (.ref ua) k := ⟨ua, uv, rfl, hu1⟩
          have hd1 := s1 _ _ hd
          wtm_at "go"
          refine iDGI W1.at_ ev ?_
          wtm_at "go"
          refine iDPS hd1 (by simp [sizeLine_eq]) ?_
          rw [show putK [((.inr "pending" : Key), vp), (.inr "ready", vr), (.inr "shown", vs), (.inr "top", oI sn.top)] (.inr "pending") (.ref ua) = [((.inr "pending" : Key), .ref ua), (.inr "ready", vr), (.inr "shown", vs), (.inr "top", oI sn.top)] by kernel_rfl]
          have f2 : Fr [d] H1 (upd H1 d (.dK [((.inr "pending" : Key), .ref ua), (.inr "ready", vr), (.inr "shown", vs), (.inr "top", oI sn.top)])) := Fr.set hd1 rfl (by simp)
          have fs := Fr.same (S := [d]) s1
          have W2 := W1.put (f := fun s => { s with pending := k }) md f2 ⟨.ref ua, vr, vs, upd_same, hu.fr f2, (h2.fr fs).fr f2, (h3.fr fs).fr f2⟩
          wtm_at "go"
          intro p1 n1
          wtm_at "go"
          intro p2 n2
          wtm_at "go"
          intro t nt
          have ed : does (wd L) l = some ((wd L).put n fun s => { s with pending := k }, [], []) := by rw [hdo, hn, gn]; show (pend sn.pending l).map _ = _; rw [ep]; rfl
          exact fin3 (b := true) q hW W2 (by rw [wd_putL, (aft_some ed).1]) ((Fr.same s1).trans (f2.mono fun x hx => by rw [List.mem_singleton.mp hx]; exact fp_mem md)) (fun a h => .inl (by rw [fp_putL] at h; exact h)) (by rw [ed]; rfl) (aft_some ed).2.1 (aft_some ed).2.2 p1 n1 p2 n2 t nt
    cases l with
    | lt =>
      have hl : SqT K H la [.str "let"] := hl
      wtm_at "go"
      intro p1 n1
      wtm_at "go"
      intro p2 n2
      wtm_at "go"
      intro t nt
      exact fin3 (b := true) q hW hW rfl Fr.refl (fun a h => .inl h) rfl rfl rfl p1 n1 p2 n2 t nt
    | make n =>
      have hl : SqT K H la [.str "make", .int n] := hl
      wtm_at "go"
      refine iDII hW.at_ ?_
      rw [WAt.isSome]
      wtm_at "go"
      cases gn : (wd L).get n with
      | some s =>
        wtm_at "go"
        intro p1 n1
        wtm_at "go"
        intro p2 n2
        wtm_at "go"
        intro t nt
        exact fin0 (by show (if ((wd L).get n).isSome = true then none else _) = none; rw [gn]; rfl) p1 n1 p2 n2 t nt
      | none =>
        wtm_at "go"
        intro d nd
        wtm_at "go"
        intro r0 nr0
        wtm_at "go"
        intro m0 nm0
        wtm_at "go"
        intro k0 nk0
        wtm_at "go"
        generalize eH1 : upd (upd (upd (upd H d (.dK [])) r0 (.tup [.int 0])) m0 (.tup [.ref r0])) k0 (.tup [.int 0, .int 0, .int 0, .bl false, .ref m0]) = H1
        have s0 : Same H (upd H d (.dK [])) := same_new nd
        have s1 : Same (upd H d (.dK [])) H1 := by rw [← eH1]; exact ((same_new nr0).trans (same_new nm0)).trans (same_new nk0)
        have hd1 : H1 d = some (.dK []) := s1 _ _ upd_same
        have hk : LkT K H1 (.ref k0) Lk.new := by
          rw [← eH1]
          refine ⟨k0, .ref m0, rfl, SqT.of upd_same, m0, [.ref r0], rfl, SqT.of ?_, .cons ⟨r0, rfl, SqT.of ?_⟩ .nil⟩
          · exact same_new nk0 _ _ upd_same
          · exact same_new nk0 _ _ (same_new nm0 _ _ upd_same)
        refine ⟨hd1, [(.inr "pending", .ref k0), (.inr "ready", .non), (.inr "shown", .non), (.inr "top", .non)], rfl, by simp, ?_⟩
        rw [show mergeK [] [((.inr "pending" : Key), V.ref k0), (.inr "ready", .non), (.inr "shown", .non), (.inr "top", .non)] = [((.inr "pending" : Key), V.ref k0), (.inr "ready", .non), (.inr "shown", .non), (.inr "top", .non)] by kernel_rfl]
        generalize eH2 : upd H1 d (.dK [((.inr "pending" : Key), V.ref k0), (.inr "ready", .non), (.inr "shown", .non), (.inr "top", .non)]) = H2
        have f2 : Fr [d] H1 H2 := by rw [← eH2]; exact Fr.set hd1 rfl (by simp)
        have hs : SfAt K H2 d Sf.new := ⟨.ref k0, .non, .non, by rw [← eH2]; exact upd_same, hk.fr f2, rfl, rfl⟩
        have ndf : d ∉ fpW pw L := fp_new hW nd
        have W2 : WAt K H2 pw L := ((hW.same s0).same s1).fr f2 fun a ha z => ndf (by rw [← List.mem_singleton.mp z]; exact ha)
        have f02 : Fr [d] H H2 := ((Fr.same s0).trans (Fr.same s1)).trans f2
        have lL : L.length < 10 := by
          have := (hF.make hok gn).le
          rw [List.length_append, wd, List.length_map] at this
          exact this
        wtm_at "go"
        refine iDPI W2.at_ (by unfold kvW; rw [List.length_map]; exact Nat.lt_trans lL (by decide)) ?_
        have f3 : Fr [pw] H2 (upd H2 pw (.dK (putK (kvW L) (.inl n) (.ref d)))) := Fr.set W2.at_ rfl (by simp)
        have dne : d ≠ pw := fun e => ndf (by rw [e]; exact List.mem_cons_self ..)
        have nin : n ∉ L.map fun e => e.1 := fun z => by
          rw [← wd_names] at z
          obtain ⟨s, e⟩ := name_get z
          rw [gn] at e
          cases e
        have W3 := W2.add nin (fun e he z => ndf (by rw [← z]; exact fp_mem he)) dne f3 upd_same (hs.fr f3 (by simpa using dne)) lL
        have ed : does (wd L) (.make n) = some (wd L ++ [(n, Sf.new)], [], []) := by
          show (if ((wd L).get n).isSome = true then none else _) = _
          rw [gn]
          rfl
        wtm_at "go"
        intro p1 n1
        wtm_at "go"
        intro p2 n2
        wtm_at "go"
        intro t nt
        refine fin3 (b := true) q hW W3 ?_ ⟨fun a o e z => ?_, fun a xs e => f3.tu _ _ (f02.tu _ _ e), fun a o u e => f3.fz _ _ _ (f02.fz _ _ _ e), fun a e => f02.dm _ (f3.dm _ e)⟩ (fun a ha => ?_) (by rw [ed]; rfl) (aft_some ed).2.1 (aft_some ed).2.2 p1 n1 p2 n2 t nt
        · rw [(aft_some ed).1]
          simp [wd, addL]
        · exact f3.at_ _ _ (f02.at_ _ _ e fun z2 => by rw [List.mem_singleton.mp z2, nd] at e; cases e) fun z2 => z (by rw [List.mem_singleton.mp z2]; exact List.mem_cons_self ..)
        · rcases List.mem_cons.mp ha with e | ha
          · exact .inl (by rw [e]; exact List.mem_cons_self ..)
          · unfold addL at ha
            rw [List.map_append] at ha
            rcases List.mem_append.mp ha with ha | ha
            · exact .inl (List.mem_cons_of_mem _ ha)
            · rw [List.mem_singleton.mp (show a ∈ [d] from ha)]
              exact .inr nd
    | tie n o =>
      have hl : SqT K H la [.str "tie", .int n, .int o] := hl
      wtm_at "go"
      refine ⟨pw, n, o, L, rfl, hW, hF, fun H1 s1 => ?_⟩
      have W1 := hW.same s1
      have hl1 := sqT_same s1 hl
      cases et : mayTie (wd L) n o with
      | false =>
        wtm_at "go"
        intro p1 n1
        wtm_at "go"
        intro p2 n2
        wtm_at "go"
        intro t nt
        have ed : does (wd L) (.tie n o) = none := by
          show (if mayTie (wd L) n o = true then _ else none) = none
          rw [et]
          rfl
        exact fin3 (b := false) q hW W1 (aft_none ed).1.symm (Fr.same s1) (fun a h => .inl h) (by rw [ed]; rfl) (aft_none ed).2.1 (aft_none ed).2.2 p1 n1 p2 n2 t nt
      | true =>
        have ed : does (wd L) (.tie n o) = some ((wd L).put n fun s => { s with top := some o }, [], []) := by
          show (if mayTie (wd L) n o = true then _ else none) = _
          rw [et]
          rfl
        obtain ⟨sn, gn⟩ : ∃ s, (wd L).get n = some s := by
          unfold mayTie at et
          cases g : (wd L).get n with
          | none => rw [g] at et; cases et
          | some s => exact ⟨s, rfl⟩
        obtain ⟨d, md, ev, vp, vr, vs, hd, h1, h2, h3⟩ := W1.get gn
        wtm_at "go"
        refine iDGI W1.at_ ev ?_
        wtm_at "go"
        refine iDPS hd (by simp [sizeLine_eq]) ?_
        rw [show putK [((.inr "pending" : Key), vp), (.inr "ready", vr), (.inr "shown", vs), (.inr "top", oI sn.top)] (.inr "top") (V.int o) = [((.inr "pending" : Key), vp), (.inr "ready", vr), (.inr "shown", vs), (.inr "top", V.int o)] by kernel_rfl]
        have f2 : Fr [d] H1 (upd H1 d (.dK [((.inr "pending" : Key), vp), (.inr "ready", vr), (.inr "shown", vs), (.inr "top", V.int o)])) := Fr.set hd rfl (by simp)
        have W2 := W1.put (f := fun s => { s with top := some o }) md f2 ⟨vp, vr, vs, upd_same, h1.fr f2, h2.fr f2, h3.fr f2⟩
        wtm_at "go"
        intro p1 n1
        wtm_at "go"
        intro p2 n2
        wtm_at "go"
        intro t nt
        exact fin3 (b := true) q hW W2 (by rw [wd_putL, (aft_some ed).1]) ((Fr.same s1).trans (f2.mono fun x hx => by rw [List.mem_singleton.mp hx]; exact fp_mem md)) (fun a h => .inl (by rw [fp_putL] at h; exact h)) (by rw [ed]; rfl) (aft_some ed).2.1 (aft_some ed).2.2 p1 n1 p2 n2 t nt
    | hold n =>
      have hl : SqT K H la [.str "hold", .int n] := hl
      wtm_at "go"
      refine iDNI hW.at_ ?_
      rw [WAt.isSome]
      wtm_at "go"
      cases gn : (wd L).get n with
      | none =>
        wtm_at "go"
        intro p1 n1
        wtm_at "go"
        intro p2 n2
        wtm_at "go"
        intro t nt
        exact fin0 (by show (if ((wd L).get n).isSome = true then _ else none) = none; rw [gn]; rfl) p1 n1 p2 n2 t nt
      | some sn =>
        have ed : does (wd L) (.hold n) = some (wd L, [], []) := by
          show (if ((wd L).get n).isSome = true then _ else none) = _
          rw [gn]
          rfl
        wtm_at "go"
        intro p1 n1
        wtm_at "go"
        intro p2 n2
        wtm_at "go"
        intro t nt
        exact fin3 (b := true) q hW hW (aft_some ed).1.symm Fr.refl (fun a h => .inl h) (by rw [ed]; rfl) (aft_some ed).2.1 (aft_some ed).2.2 p1 n1 p2 n2 t nt
    | drop n =>
      have hl : SqT K H la [.str "drop", .int n] := hl
      wtm_at "go"
      refine iDNI hW.at_ ?_
      rw [WAt.isSome]
      wtm_at "go"
      cases gn : (wd L).get n with
      | none =>
        wtm_at "go"
        intro p1 n1
        wtm_at "go"
        intro p2 n2
        wtm_at "go"
        intro t nt
        exact fin0 (by show (if ((wd L).get n).isSome = true then _ else none) = none; rw [gn]; rfl) p1 n1 p2 n2 t nt
      | some sn =>
        have ed : does (wd L) (.drop n) = some (doDrop (wd L) n, [], under 3 (wd L) n) := by
          show (if ((wd L).get n).isSome = true then _ else none) = _
          rw [gn]
          rfl
        wtm_at "go"
        refine ⟨pw, n, L, rfl, hW, hF.ht n, fun H1 p s1 np hp => ?_⟩
        have W1 := hW.same s1
        have npf : p ∉ fpW pw L := fp_new hW np
        have nppw : p ≠ pw := fun e => npf (by rw [e]; exact List.mem_cons_self ..)
        wtm_at "go"
        refine eForL (xs := (under 3 (wd L) n).map V.int) (fun i σ H' => ∃ y L', σ = [some (.ref pw), some (.ref la), some (.str "drop"), some (.int n), some (.ref p), y, none, none] ∧ WAt K H' pw L' ∧ wd L' = ((under 3 (wd L) n).take i).foldl (fun V p => V.del p) (wd L) ∧ Fr (fpW pw L) H H' ∧ H' p = some (.lst ((under 3 (wd L) n).map V.int)) ∧ ∀ a ∈ fpW pw L', a ∈ fpW pw L)
          ⟨_, L, rfl, W1, rfl, Fr.same s1, hp, fun a h => h⟩ (fun i σ H2 _ ⟨_, _, _, _, _, _, h, _⟩ => SqL.of h) ?_ ?_
        · rintro i x σ H2 ex ⟨y, L2, rfl, W2, ew, f2, hp2, sub⟩
          rw [List.getElem?_map] at ex
          obtain ⟨m, em, rfl⟩ := Option.map_eq_some_iff.mp ex
          have hm : m ∈ (wd L2).names := by
            rw [ew, names_dels]
            refine List.mem_filter.mpr ⟨under_names 3 (get_name gn) (List.mem_of_getElem? em), decide_eq_true fun z => ?_⟩
            obtain ⟨j, hj, e⟩ := List.getElem_of_mem z
            rw [List.getElem_take] at e
            rw [List.length_take] at hj
            have hi : i < (under 3 (wd L) n).length := (List.getElem?_eq_some_iff.mp em).1
            have e2 : (under 3 (wd L) n)[i] = m := (List.getElem?_eq_some_iff.mp em).2
            have := (List.getElem_inj (hF.under_nodup 3 n)).mp (e.trans e2.symm)
            omega
          obtain ⟨sm, gm⟩ := name_get hm
          obtain ⟨d, md, ev, _⟩ := W2.get gm
          wtm_at "go"
          refine gPopA W2.at_ ?_
          wtm_at "go"
          refine ⟨_, .inl m, _, W2.at_, rfl, ev, ?_⟩
          wtm_at "go"
          refine ⟨_, delL L2 m, rfl, W2.del, ?_, f2.trans (Fr.set W2.at_ rfl (List.mem_cons_self ..)), (hUpd nppw hp2), fun a h => sub a (fp_delL h)⟩
          rw [wd_delL, ew, take_succ em, List.foldl_append]
          rfl
        · rintro σ H2 ⟨y, L2, rfl, W2, ew, f2, hp2, sub⟩
          rw [List.length_map, List.take_of_length_le (Nat.le_refl _)] at ew
          wtm_at "go"
          intro p1 n1
          wtm_at "go"
          intro t nt
          have s2 : Same H2 (upd (upd H2 p1 (.lst [])) t (.tup [.bl true, .ref p1, .ref p])) := (same_new n1).trans (same_new nt)
          have q := q _ L2 t p1 p ⟨W2.same s2, by rw [ew, (aft_some ed).1]; rfl, f2.trans (Fr.same s2), fun a h => .inl (sub a h)⟩ (f2.free n1) np (fp_new W2 n1) (fun z => npf (sub _ z))
          rw [ed, (aft_some ed).2.1, (aft_some ed).2.2] at q
          refine q (SqT.of upd_same) ?_ (s2 _ _ hp2)
          rw [upd_ne (ne_of_none upd_same nt)]
          exact upd_same
    | shw n =>
      have hl : SqT K H la [.str "show", .int n] := hl
      wtm_at "go"
      refine iDNI hW.at_ ?_
      rw [WAt.isSome]
      wtm_at "go"
      cases gn : (wd L).get n with
      | none =>
        wtm_at "go"
        intro p1 n1
        wtm_at "go"
        intro p2 n2
        wtm_at "go"
        intro t nt
        exact fin0 (by show (if ((wd L).get n).isSome = true then _ else none) = none; rw [gn]; rfl) p1 n1 p2 n2 t nt
      | some sn =>
        have ed : does (wd L) (.shw n) = some ((doShow (wd L) n).1, (doShow (wd L) n).2, []) := by
          show (if ((wd L).get n).isSome = true then _ else none) = _
          rw [gn]
          rfl
        obtain ⟨d, md, ev, vp, vr, vs, hd, h1, h2, h3⟩ := hW.get gn
        wtm_at "go"
        refine iDGI hW.at_ ev ?_
        wtm_at "go"
        refine iDGS (v := vp) hd rfl ?_
        wtm_at "go"
        refine iDGI hW.at_ ev ?_
        wtm_at "go"
        refine iDPS hd (by simp [sizeLine_eq]) ?_
        rw [show putK [((.inr "pending" : Key), vp), (.inr "ready", vr), (.inr "shown", vs), (.inr "top", oI sn.top)] (.inr "ready") vp = [((.inr "pending" : Key), vp), (.inr "ready", vp), (.inr "shown", vs), (.inr "top", oI sn.top)] by kernel_rfl]
        generalize eH1 : upd H d (.dK [((.inr "pending" : Key), vp), (.inr "ready", vp), (.inr "shown", vs), (.inr "top", oI sn.top)]) = H1
        have f2 : Fr [d] H H1 := by rw [← eH1]; exact Fr.set hd rfl (by simp)
        have W1 := hW.put (f := fun s => { s with ready := some s.pending }) md f2 ⟨vp, vp, vs, by rw [← eH1]; exact upd_same, h1.fr f2, h1.fr f2, h3.fr f2⟩
        have F1 : WfW (wd (putL L n fun s => { s with ready := some s.pending })) := by
          rw [wd_putL]
          exact hF.put (fun _ _ => rfl) fun _ _ h => h.shw
        have fp1 : fpW pw (putL L n fun s => { s with ready := some s.pending }) = fpW pw L := fp_putL ..
        have g1 : (wd (putL L n fun s => { s with ready := some s.pending })).get n = some { sn with ready := some sn.pending } := by
          rw [wd_putL, get_put, if_pos rfl, gn]
          rfl
        have eS : doShow (wd L) n = match sn.top with | some _ => (wd (putL L n fun s => { s with ready := some s.pending }), []) | none => ((showns (wd (putL L n fun s => { s with ready := some s.pending })) n).foldl (fun V p => V.put p showOne) (wd (putL L n fun s => { s with ready := some s.pending })), showns (wd (putL L n fun s => { s with ready := some s.pending })) n) := by
          unfold doShow
          rw [gn, wd_putL]
          rfl
        have fr1 : Fr (fpW pw L) H H1 := f2.mono fun x hx => by rw [List.mem_singleton.mp hx]; exact fp_mem md
        generalize putL L n (fun s => { s with ready := some s.pending }) = L1 at W1 F1 fp1 g1 eS
        obtain ⟨d1, md1, ev1, vp1, vr1, vs1, hd1, _⟩ := W1.get g1
        have hm1 : ∀ m ∈ (match sn.top with | some _ => [] | none => under 3 (wd L1) n), ∃ s, (wd L1).get m = some s := fun m hm => by
          cases et : sn.top with
          | some _ => rw [et] at hm; cases hm
          | none => rw [et] at hm; exact name_get (under_names 3 (get_name g1) hm)
        have hlen : (match sn.top with | some _ => [] | none => under 3 (wd L1) n).length ≤ 1111 := by
          cases et : sn.top with
          | some _ => exact Nat.zero_le _
          | none => exact under_le 3 (wd L1) n (by rw [wd, List.length_map]; exact W1.le)
        have eS2 : doShow (wd L) n = (((match sn.top with | some _ => [] | none => under 3 (wd L1) n).filter fun p => match (wd L1).get p with | some s => s.ready.isSome | none => false).foldl (fun V p => V.put p showOne) (wd L1), (match sn.top with | some _ => [] | none => under 3 (wd L1) n).filter fun p => match (wd L1).get p with | some s => s.ready.isSome | none => false) := by
          rw [eS]
          cases et : sn.top with
          | some _ => rfl
          | none => rfl
        wtm_at "go"
        refine iIfK (fun v H' => Same H1 H' ∧ ∃ p, v = .ref p ∧ H1 p = none ∧ H' p = some (.lst ((match sn.top with | some _ => [] | none => under 3 (wd L1) n).map V.int))) (fun Q' k' => ?_) (fun v H2 hv => ?_)
        · wtm_at "go"
          refine iDGI W1.at_ ev1 ?_
          wtm_at "go"
          refine iDGS (v := oI sn.top) hd1 rfl ?_
          wtm_at "go"
          refine iIsOI ?_
          cases et : sn.top with
          | none =>
            rw [et] at k'
            wtm_at "go"
            refine ⟨pw, n, L1, rfl, W1, F1.ht n, fun H2 p s2 np hp => ?_⟩
            exact k' _ _ ⟨s2, p, rfl, np, hp⟩
          | some u =>
            rw [et] at k'
            wtm_at "go"
            intro p np
            exact k' _ _ ⟨same_new np, p, rfl, np, upd_same⟩
        · obtain ⟨s2, p, rfl, np, hp⟩ := hv
          generalize (match sn.top with | some _ => [] | none => under 3 (wd L1) n) = U at hm1 hlen eS2 hp
          have W2 := W1.same s2
          wtm_at "go"
          intro D nD
          have hpD : p ≠ D := ne_of_none hp nD
          refine eLcL (xs := U.map V.int) (fun i H' => Fr [D] H2 H' ∧ H' D = some (.lst (((U.take i).filter fun p => match (wd L1).get p with | some s => s.ready.isSome | none => false).map V.int)))
            ⟨Fr.new nD, upd_same⟩ (fun i H' _ h => SqL.of (h.1.at_ _ _ hp (by simpa using hpD))) ?_ ?_
          · rintro i x H3 ex ⟨f3, hD⟩
            rw [List.getElem?_map] at ex
            obtain ⟨m, em, rfl⟩ := Option.map_eq_some_iff.mp ex
            obtain ⟨sm, gm⟩ := hm1 m (List.mem_of_getElem? em)
            have W3 := W2.fr f3 fun a ha z => by
              obtain ⟨o, e, _⟩ := fp_some W2 ha
              rw [List.mem_singleton.mp z, nD] at e
              cases e
            obtain ⟨d3, md3, ev3, vp3, vr3, vs3, hd3, _, r3, _⟩ := W3.get gm
            wtm_at "go"
            refine iDGI W3.at_ ev3 ?_
            wtm_at "go"
            refine iDGS (v := vr3) hd3 rfl ?_
            wtm_at "go"
            refine iNoOL r3 ?_
            wtm_at "go"
            cases er : sm.ready with
            | some _ =>
              wtm_at "go"
              refine ⟨_, hD, ?_, f3.trans (Fr.set hD rfl (by simp)), ?_⟩
              · rw [List.length_map]
                refine Nat.lt_of_le_of_lt (List.length_filter_le _ _) (Nat.lt_of_le_of_lt (List.length_take_le' ..) (Nat.lt_of_le_of_lt hlen (by decide)))
              · rw [upd_same, take_succ em, List.filter_append]
                simp [gm, er]
            | none =>
              wtm_at "go"
              refine ⟨f3, ?_⟩
              rw [hD, take_succ em, List.filter_append]
              simp [gm, er]
          · rintro H3 ⟨f3, hD⟩
            rw [List.length_map, List.take_of_length_le (Nat.le_refl _)] at hD
            have W3 := W2.fr f3 fun a ha z => by
              obtain ⟨o, e, _⟩ := fp_some W2 ha
              rw [List.mem_singleton.mp z, nD] at e
              cases e
            have hm2 : ∀ m ∈ U.filter (fun p => match (wd L1).get p with | some s => s.ready.isSome | none => false), ∃ s, (wd L1).get m = some s := fun m hm => hm1 m (List.mem_filter.mp hm).1
            generalize U.filter (fun p => match (wd L1).get p with | some s => s.ready.isSome | none => false) = G at hD eS2 hm2
            have fr3 : Fr (fpW pw L) H H3 := by
              refine (fr1.trans (Fr.same s2)).trans ⟨fun a o e z => ?_, f3.tu, f3.fz, f3.dm⟩
              exact f3.at_ _ _ e fun z2 => by rw [List.mem_singleton.mp z2, nD] at e; cases e
            have nDf : D ∉ fpW pw L1 := fp_new W2 nD
            have nDH : H D = none := fr1.free (s2.free nD)
            wtm_at "go"
            refine eForL (xs := G.map V.int) (fun i σ H' => ∃ y L', σ = [some (.ref pw), some (.ref la), some (.str "show"), some (.int n), none, y, some (.ref D), none] ∧ WAt K H' pw L' ∧ wd L' = (G.take i).foldl (fun V p => V.put p showOne) (wd L1) ∧ Fr (fpW pw L) H3 H' ∧ H' D = some (.lst (G.map V.int)) ∧ fpW pw L' = fpW pw L1)
              ⟨_, L1, rfl, W3, rfl, Fr.refl, hD, rfl⟩ (fun i σ H2 _ ⟨_, _, _, _, _, _, h, _⟩ => SqL.of h) ?_ ?_
            · rintro i x σ H4 ex ⟨y, L4, rfl, W4, ew, f4, hD4, efp⟩
              rw [List.getElem?_map] at ex
              obtain ⟨m, em, rfl⟩ := Option.map_eq_some_iff.mp ex
              obtain ⟨s0, g0⟩ := hm2 m (List.mem_of_getElem? em)
              have hm : m ∈ (wd L4).names := by
                rw [ew, names_puts]
                exact get_name g0
              obtain ⟨sm, gm⟩ := name_get hm
              obtain ⟨d4, md4, ev4, vp4, vr4, vs4, hd4, p4, r4, q4⟩ := W4.get gm
              wtm_at "go"
              refine iDGI W4.at_ ev4 ?_
              wtm_at "go"
              intro e ne
              wtm_at "go"
              refine iDGI (W4.same (same_new ne)).at_ ev4 ?_
              wtm_at "go"
              refine iDGS (v := vr4) (same_new ne _ _ hd4) rfl ?_
              wtm_at "go"
              refine ⟨upd_same, [(.inr "shown", vr4), (.inr "ready", .non)], rfl, by simp, ?_⟩
              rw [show mergeK [] [((.inr "shown" : Key), vr4), (.inr "ready", .non)] = [((.inr "shown" : Key), vr4), (.inr "ready", .non)] by kernel_rfl]
              have f5 : Fr [e] H4 (upd (upd H4 e (.dK [])) e (.dK [((.inr "shown" : Key), vr4), (.inr "ready", .non)])) := (Fr.new ne).trans (Fr.set upd_same rfl (by simp))
              have ned : d4 ≠ e := ne_of_none hd4 ne
              have W5 := W4.fr f5 fun a ha z => by
                obtain ⟨o, e1, _⟩ := fp_some W4 ha
                rw [List.mem_singleton.mp z, ne] at e1
                cases e1
              have hd5 := f5.at_ _ _ hd4 (by simpa using ned)
              have he5 : upd (upd H4 e (.dK [])) e (.dK [((.inr "shown" : Key), vr4), (.inr "ready", .non)]) e = _ := upd_same
              have hD5 := f5.at_ _ _ hD4 (by simpa using ne_of_none hD4 ne)
              have f05 : Fr (fpW pw L) H3 (upd (upd H4 e (.dK [])) e (.dK [((.inr "shown" : Key), vr4), (.inr "ready", .non)])) := f4.trans ⟨fun a o h z => f5.at_ _ _ h fun z2 => (by rw [List.mem_singleton.mp z2, ne] at h; cases h), f5.tu, f5.fz, f5.dm⟩
              have r5 := r4.fr f5
              have p5 := p4.fr f5
              generalize upd (upd H4 e (.dK [])) e (.dK [((.inr "shown" : Key), vr4), (.inr "ready", .non)]) = H5 at W5 hd5 he5 hD5 f05 r5 p5
              wtm_at "go"
              refine iUpdK ned hd5 he5 (by simp [sizeLine_eq]) ?_
              rw [show mergeK [((.inr "pending" : Key), vp4), (.inr "ready", vr4), (.inr "shown", vs4), (.inr "top", oI sm.top)] [((.inr "shown" : Key), vr4), (.inr "ready", .non)] = [((.inr "pending" : Key), vp4), (.inr "ready", .non), (.inr "shown", vr4), (.inr "top", oI sm.top)] by kernel_rfl]
              have f6 : Fr [d4] H5 (upd H5 d4 (.dK [((.inr "pending" : Key), vp4), (.inr "ready", .non), (.inr "shown", vr4), (.inr "top", oI sm.top)])) := Fr.set hd5 rfl (by simp)
              refine ⟨_, putL L4 m showOne, rfl, W5.put (f := showOne) md4 f6 ⟨vp4, .non, vr4, upd_same, p5.fr f6, rfl, r5.fr f6⟩, ?_, f05.trans (f6.mono fun x hx => by rw [List.mem_singleton.mp hx, ← fp1, ← efp]; exact fp_mem md4), f6.at_ _ _ hD5 fun z => ?_, by rw [fp_putL, efp]⟩
              · rw [wd_putL, ew, take_succ em, List.foldl_append]
                rfl
              · refine nDf ?_
                rw [List.mem_singleton.mp z, ← efp]
                exact fp_mem md4
            · rintro σ H4 ⟨y, L4, rfl, W4, ew, f4, hD4, efp⟩
              rw [List.length_map, List.take_of_length_le (Nat.le_refl _)] at ew
              wtm_at "go"
              intro p2 n2
              wtm_at "go"
              intro t nt
              have s2 : Same H4 (upd (upd H4 p2 (.lst [])) t (.tup [.bl true, .ref D, .ref p2])) := (same_new n2).trans (same_new nt)
              have q := q _ L4 t D p2 ⟨W4.same s2, by rw [ew, (aft_some ed).1, eS2], (fr3.trans f4).trans (Fr.same s2), fun a h => .inl (by rw [efp, fp1] at h; exact h)⟩ nDH (fr3.free (f4.free n2)) (by rw [efp]; exact nDf) (fp_new W4 n2)
              rw [ed, (aft_some ed).2.1, (aft_some ed).2.2, eS2] at q
              refine q (SqT.of upd_same) (s2 _ _ hD4) ?_
              rw [upd_ne (ne_of_none upd_same nt)]
              exact upd_same
    | size n a b => exact (hc rfl).elim
    | paint n a b c d e => exact (hc rfl).elim
    | place n a b => exact (hc rfl).elim
    | rank n a => exact (hc rfl).elim
    | veil n => exact (hc rfl).elim
    | unveil n => exact (hc rfl).elim
end

/-! ### a letter drawn -/
theorem len_le_sub : ∀ {l m : List Int}, l.Nodup → (∀ x ∈ l, x ∈ m) → l.length ≤ m.length
  | [], _, _, _ => Nat.zero_le _
  | x :: l, m, nd, h => by
    rw [List.nodup_cons] at nd
    have hx := h x (List.mem_cons_self ..)
    have ih := len_le_sub (l := l) (m := m.erase x) nd.2 fun y hy => (List.mem_erase_of_ne fun e => nd.1 (by rw [← e]; exact hy)).mpr (h y (List.mem_cons_of_mem _ hy))
    rw [List.length_erase_of_mem hx] at ih
    have : 0 < m.length := List.length_pos_of_mem hx
    rw [List.length_cons]
    omega
theorem Drw.same {H H' : Hp} {ph pl : Addr} (h : Drw H ph pl) (s : Same H H') : Drw H' ph pl := by
  obtain ⟨m, cs, k, a, b, c⟩ := h
  exact ⟨m, cs, k, s _ _ a, s _ _ b, c⟩
theorem Drw.ne {H : Hp} {ph pl p : Addr} (h : Drw H ph pl) (n : H p = none) : p ∉ [ph, pl] := by
  obtain ⟨m, cs, k, a, b, c⟩ := h
  intro z
  rcases List.mem_cons.mp z with e | z
  · rw [e, a] at n; cases n
  · rw [List.mem_singleton.mp z, b] at n; cases n
section
variable {K : PySem.W.Frag} {σ : L2.St} {H : Hp} {Q : VK} {ph pl : Addr}
theorem iNx {n : Int} {E : XK} (h : Drw H ph pl) (n0 : 0 < n) (n1 : n < 1073741824) (q : ∀ H' r, Drw H' ph pl → Fr [ph, pl] H H' → 0 ≤ r → r < n → Q (.int r) H') : spNext ([.ref ph, .int n] ++ []) H Q E := ⟨ph, pl, n, rfl, h, n0, n1, q⟩
theorem at_pick {cs : List Int} {r : Int} (r0 : 0 ≤ r) (r1 : r < (cs.length : Int)) : ∃ c, atI (cs.map V.int) r = some (.int c) ∧ c ∈ cs :=
  ⟨_, at_ints (j := r.toNat) (by omega) (by omega), List.getElem_mem _⟩
theorem at_pick' {xs : List Str} {r : Int} (r0 : 0 ≤ r) (r1 : r < (xs.length : Int)) : ∃ c, atI (xs.map V.str) r = some (.str c) ∧ c ∈ xs :=
  ⟨_, at_of (j := r.toNat) (by omega) (by rw [List.getElem?_map, List.getElem?_eq_getElem (by omega)]; rfl), List.getElem_mem _⟩
theorem at_any {xs : List V} {r : Int} (r0 : 0 ≤ r) (r1 : r < (xs.length : Int)) : ∃ c, atI xs r = some c ∧ c ∈ xs :=
  ⟨_, at_of (j := r.toNat) (by omega) (List.getElem?_eq_getElem (by omega)), List.getElem_mem _⟩
theorem iPick {E : XK} {i : Nat} {n : Int} (cs : List Int) (hσ : σ[i]? = some (some (.ref ph))) (hD : Drw H ph pl) (hn : n = (cs.length : Int)) (c0 : cs ≠ []) (c1 : cs.length ≤ 1000)
    (q : ∀ H' c, Drw H' ph pl → Fr [ph, pl] H H' → c ∈ cs → Q (.int c) H') : ∀ p, H p = none → tCall spNext [] E (tCons (tVar i) (tCons (tC (.int n)) tNil)) σ (upd H p (.lst (cs.map V.int))) fun y H2 => rIxL K (.ref p) y H2 Q := by
  intro p np
  refine ⟨_, hσ, ?_⟩
  have hl : 0 < cs.length := List.length_pos_iff.mpr c0
  have hD1 := hD.same (same_new (o := .lst (cs.map V.int)) np)
  show spNext ([.ref ph, .int n] ++ []) (upd H p (.lst (cs.map V.int))) (fun y H2 => rIxL K (.ref p) y H2 Q) E
  refine iNx (n := n) hD1 (by omega) (by omega) fun H' r d f r0 r1 => ?_
  obtain ⟨c, e, hc⟩ := at_pick (cs := cs) r0 (by omega)
  exact iIxL (SqL.of (f.at_ _ _ upd_same (hD.ne np))) e (q _ _ d ((Fr.new np).trans f) hc)
end
/-- what stands while a letter is drawn -/
structure LS (K : PySem.W.Frag) (H0 : Hp) (ph pl pw : Addr) (L : WL_) (p : Addr) (H : Hp) : Prop where
  dw : Drw H ph pl
  wa : WAt K H pw L
  fr : Fr [ph, pl] H0 H
  sm : H p = some (.lst ((sortI (wd L).names).map V.int))
  na : ∀ a ∈ fpW pw L, a ∉ [ph, pl]
  np : p ∉ [ph, pl]
section
variable {K : PySem.W.Frag} {H0 H H' : Hp} {ph pl pw p : Addr} {L : WL_}
theorem LS.step (h : LS K H0 ph pl pw L p H) (d : Drw H' ph pl) (f : Fr [ph, pl] H H') : LS K H0 ph pl pw L p H' := ⟨d, h.wa.fr f h.na, h.fr.trans f, f.at_ _ _ h.sm h.np, h.na, h.np⟩
theorem LS.same (h : LS K H0 ph pl pw L p H) (s : Same H H') : LS K H0 ph pl pw L p H' := ⟨h.dw.same s, h.wa.same s, h.fr.trans (Fr.same s), s _ _ h.sm, h.na, h.np⟩
end
theorem mem_sortI {l : List Int} {x : Int} : x ∈ sortI l ↔ x ∈ l := (List.mergeSort_perm l _).mem_iff
theorem len_sortI {l : List Int} : (sortI l).length = l.length := List.length_mergeSort l
def frs (W : Wd) (n : Nat) : List Int := ((List.range n).map Int.ofNat).filter fun m => (W.get m).isNone
theorem frs_nm {W : Wd} {x : Int} (h : x ∈ frs W 10) : Nm x ∧ W.get x = none := by
  obtain ⟨h1, h2⟩ := List.mem_filter.mp h
  obtain ⟨n, hn, rfl⟩ := List.mem_map.mp h1
  have := List.mem_range.mp hn
  exact ⟨⟨Int.natCast_nonneg n, by show (n : Int) ≤ 9; omega⟩, Option.isNone_iff_eq_none.mp h2⟩
theorem frs_ne {W : Wd} (h : W.length < 10) : frs W 10 ≠ [] := fun e => by
  have := len_le_sub (l := (List.range 10).map Int.ofNat) (m := W.names) (by decide) fun x hx => by
    cases g : W.get x with
    | some s => exact get_name g
    | none =>
      have : x ∈ frs W 10 := List.mem_filter.mpr ⟨hx, by rw [g]; rfl⟩
      rw [e] at this
      cases this
  rw [List.length_map, List.length_range, Wd.names, List.length_map] at this
  omega
theorem frs_succ {W : Wd} {n : Nat} : frs W (n + 1) = frs W n ++ if (W.get (n : Int)).isNone then [(n : Int)] else [] := by
  unfold frs
  rw [List.range_succ, List.map_append, List.filter_append]
  congr 1
  show List.filter _ [(n : Int)] = _
  cases e : W.get (n : Int) <;> simp [e]
theorem frs_le {W : Wd} {n : Nat} : (frs W n).length ≤ n := by
  refine Nat.le_trans (List.length_filter_le _ _) ?_
  rw [List.length_map, List.length_range]
  exact Nat.le_refl _
def spLetter (K : PySem.W.Frag) : Sp := fun vs H Q _ => ∃ ph pl pw L, vs = [.ref ph, .ref pw] ∧ Drw H ph pl ∧ WAt K H pw L ∧ WfW (wd L) ∧ (∀ a ∈ fpW pw L, a ∉ [ph, pl]) ∧ ∀ H' t l, SqT K H' t (Lt.vs l) → l.ok → Drw H' ph pl → Fr [ph, pl] H H' → Q (.ref t) H'
section
variable {P : Program} {w : World} {K : PySem.W.Frag} {mg : Str → Option Value} {base : Heap}
theorem ok_law_letter (T : Tx w K mg) : Cal P w K mg base 2 "_law_letter" (spLetter K) [] := by
  refine mk_law_letter T (fun vs H Q E h => ?_) (fun cdv A outer s H vs Q E hr h => ?_)
  · obtain ⟨ph, pl, pw, L, rfl, _⟩ := h
    rfl
  · obtain ⟨ph, pl, pw, L, rfl, hD, hW, hF, hna, q⟩ := h
    refine ⟨_, (pss_cons (ps_set (i := 2) sc_law_letter.nd rfl (.inl rfl) (pe_callB (c_sorDI rfl) (by rfl) (f_sorted T) (by decide +kernel) (pa_cons (pv 1) pa_nil)))
  (pss_cons (ps_set (i := 3) sc_law_letter.nd rfl (.inl rfl) (pe_ifExp (pt_cmpR (op_neD hr.units) (pv 2) (pe_lst pa_nil) (nomark _)) (pe_ix ix_list (pv 2) (pe_c (ok_law_next T) hr (by omega) rfl (pa_cons (pv 0) (pa_cons (pe_callB c_len (by rfl) (f_len T) (by decide +kernel) (pa_cons (pv 2) pa_nil)) pa_nil))) (fun _ _ => rfl)) (pe_c (ok_law_next T) hr (by omega) rfl (pa_cons (pv 0) (pa_cons pe_int pa_nil)))))
  (pss_cons (ps_set (i := 4) sc_law_letter.nd rfl (.inl rfl) (pe_ifExp (pt_cmpR (op_neD hr.units) (pv 2) (pe_lst pa_nil) (nomark _)) (pe_ix ix_list (pv 2) (pe_c (ok_law_next T) hr (by omega) rfl (pa_cons (pv 0) (pa_cons (pe_callB c_len (by rfl) (f_len T) (by decide +kernel) (pa_cons (pv 2) pa_nil)) pa_nil))) (fun _ _ => rfl)) (pe_c (ok_law_next T) hr (by omega) rfl (pa_cons (pv 0) (pa_cons pe_int pa_nil)))))
  (pss_cons (ps_set (i := 5) sc_law_letter.nd rfl (.inl rfl) (pe_c (ok_law_next T) hr (by omega) rfl (pa_cons (pv 0) (pa_cons pe_int pa_nil))))
  (pss_cons (ps_if (PW.pt (pw_or (pt_cmpR (op_eqD hr.units) (pv 2) (pe_lst pa_nil) (nomark _)) (pw_or1 (PW.pt (pw_and (pt_cmpR op_lt (pv 5) pe_int (nomark _)) (pw_and1 (pt_cmpR op_lt (pe_callB c_len (by rfl) (f_len T) (by decide +kernel) (pa_cons (pv 2) pa_nil)) pe_int (nomark _)))))))) (pss_cons (ps_setLc (i := 6) (own := [("_law_one", 7)]) rfl sc_law_letter.nd rfl rfl (sw_true rfl rfl rfl (by decide +kernel)) (pi_range1 rfl (f_range T) (pa_cons pe_int pa_nil)) (blkOk_by (N := N_law_letter) (sc := defScope s_law_letter) (by decide +kernel)) (fun _ _ _ _ _ => (pg_name (i := 7) sc_law_letter.nd rfl (.inl rfl))) (fun _ _ _ _ _ => pts_one (pt_cmp (pc_dnotin (hu_of hr) (pv 7) (pv 1)))) (fun _ _ _ _ _ => (pv 7)))
  (pss_one (ps_ret (pe_tup (pa_cons pe_str (pa_cons (pe_ix ix_list (pv 6) (pe_c (ok_law_next T) hr (by omega) rfl (pa_cons (pv 0) (pa_cons (pe_ifExp (pt_cmpR op_gt (pe_callB c_len (by rfl) (f_len T) (by decide +kernel) (pa_cons (pv 6) pa_nil)) pe_int (nomark _)) (pe_ix ix_list (pe_lst (pa_cons (pe_callB c_len (by rfl) (f_len T) (by decide +kernel) (pa_cons (pv 6) pa_nil)) (pa_cons pe_int (pa_cons pe_int pa_nil)))) (pe_c (ok_law_next T) hr (by omega) rfl (pa_cons (pv 0) (pa_cons pe_int pa_nil))) (fun _ _ => rfl)) pe_int) pa_nil))) (fun _ _ => rfl)) pa_nil)))))) pss_nil)
  (pss_cons (ps_if (pt_cmpR op_lt (pv 5) pe_int (nomark _)) (pss_one (ps_ret (pe_tup (pa_cons pe_str (pa_cons (pv 3) (pa_cons (pe_op op_add pe_int (pe_c (ok_law_next T) hr (by omega) rfl (pa_cons (pv 0) (pa_cons (pe_ix ix_list (pe_lst (pa_cons pe_int (pa_cons pe_int pa_nil))) (pe_c (ok_law_next T) hr (by omega) rfl (pa_cons (pv 0) (pa_cons pe_int pa_nil))) (fun _ _ => rfl)) pa_nil)))) (pa_cons (pe_op op_add pe_int (pe_c (ok_law_next T) hr (by omega) rfl (pa_cons (pv 0) (pa_cons (pe_ix ix_list (pe_lst (pa_cons pe_int (pa_cons pe_int pa_nil))) (pe_c (ok_law_next T) hr (by omega) rfl (pa_cons (pv 0) (pa_cons pe_int pa_nil))) (fun _ _ => rfl)) pa_nil)))) pa_nil))))))) pss_nil)
  (pss_cons (ps_if (pt_cmpR op_lt (pv 5) pe_int (nomark _)) (pss_cons (ps_set (i := 8) sc_law_letter.nd rfl (.inl rfl) (pe_ix ix_tup (pe_dget (hu_of hr) (pe_dget (hu_of hr) (pv 1) (pv 3) (fun _ _ => rfl)) pe_str (fun _ _ => rfl)) pe_int (fun _ _ => rfl)))
  (pss_cons (ps_par rfl sc_law_letter.nd (i := 9) (j := 10) rfl rfl (by decide) rfl rfl (pa_cons (pe_op op_add pe_int (pe_c (ok_law_next T) hr (by omega) rfl (pa_cons (pv 0) (pa_cons (pe_callB c_len (by rfl) (f_len T) (by decide +kernel) (pa_cons (pe_ix ix_tup (pv 8) pe_int (fun _ _ => rfl)) pa_nil)) pa_nil)))) (pa_cons (pe_op op_add pe_int (pe_c (ok_law_next T) hr (by omega) rfl (pa_cons (pv 0) (pa_cons (pe_callB c_len (by rfl) (f_len T) (by decide +kernel) (pa_cons (pv 8) pa_nil)) pa_nil)))) pa_nil)) rfl)
  (pss_cons (ps_par rfl sc_law_letter.nd (i := 11) (j := 12) rfl rfl (by decide) rfl rfl (pa_cons (pe_c (ok_law_next T) hr (by omega) rfl (pa_cons (pv 0) (pa_cons (pe_op op_add (pe_op op_sub (pe_callB c_len (by rfl) (f_len T) (by decide +kernel) (pa_cons (pe_ix ix_tup (pv 8) pe_int (fun _ _ => rfl)) pa_nil)) (pv 9)) pe_int) pa_nil))) (pa_cons (pe_c (ok_law_next T) hr (by omega) rfl (pa_cons (pv 0) (pa_cons (pe_op op_add (pe_op op_sub (pe_callB c_len (by rfl) (f_len T) (by decide +kernel) (pa_cons (pv 8) pa_nil)) (pv 10)) pe_int) pa_nil))) pa_nil)) rfl)
  (pss_one (ps_ret (pe_tup (pa_cons pe_str (pa_cons (pv 3) (pa_cons (pv 11) (pa_cons (pv 12) (pa_cons (pv 9) (pa_cons (pv 10) (pa_cons (pe_c (ok_law_next T) hr (by omega) rfl (pa_cons (pv 0) (pa_cons pe_int pa_nil))) pa_nil))))))))))))) pss_nil)
  (pss_cons (ps_if (pt_cmpR op_lt (pv 5) pe_int (nomark _)) (pss_cons (ps_set (i := 13) sc_law_letter.nd rfl (.inl rfl) (pe_ix ix_list (pe_lst (pa_cons pe_int (pa_cons pe_int (pa_cons pe_int pa_nil)))) (pe_c (ok_law_next T) hr (by omega) rfl (pa_cons (pv 0) (pa_cons pe_int pa_nil))) (fun _ _ => rfl)))
  (pss_one (ps_ret (pe_tup (pa_cons pe_str (pa_cons (pv 3) (pa_cons (pe_op op_sub (pe_c (ok_law_next T) hr (by omega) rfl (pa_cons (pv 0) (pa_cons (pe_op op_add (pe_op op_mul pe_int (pv 13)) pe_int) pa_nil))) (pv 13)) (pa_cons (pe_op op_sub (pe_c (ok_law_next T) hr (by omega) rfl (pa_cons (pv 0) (pa_cons (pe_op op_add (pe_op op_mul pe_int (pv 13)) pe_int) pa_nil))) (pv 13)) pa_nil)))))))) pss_nil)
  (pss_cons (ps_if (pt_cmpR op_lt (pv 5) pe_int (nomark _)) (pss_one (ps_ret (pe_tup (pa_cons pe_str (pa_cons (pv 3) (pa_cons (pe_c (ok_law_next T) hr (by omega) rfl (pa_cons (pv 0) (pa_cons (pe_ix ix_list (pe_lst (pa_cons pe_int (pa_cons pe_int pa_nil))) (pe_c (ok_law_next T) hr (by omega) rfl (pa_cons (pv 0) (pa_cons pe_int pa_nil))) (fun _ _ => rfl)) pa_nil))) pa_nil)))))) pss_nil)
  (pss_cons (ps_set (i := 14) sc_law_letter.nd rfl (.inl rfl) (pe_lst (pa_cons pe_str (pa_cons pe_str (pa_cons pe_str (pa_cons pe_str (pa_cons pe_str (pa_cons pe_str (pa_cons pe_str (pa_cons pe_str (pa_cons pe_str (pa_cons pe_str pa_nil))))))))))))
  (pss_cons (ps_set (i := 15) sc_law_letter.nd rfl (.inl rfl) (pe_ix ix_list (pv 14) (pe_ifExp (pt_cmpR op_gt (pe_c (ok_law_next T) hr (by omega) rfl (pa_cons (pv 0) (pa_cons pe_int pa_nil))) pe_int (nomark _)) (pe_callB (c_min2 rfl) (by rfl) (f_min T) (by decide +kernel) (pa_cons (pe_c (ok_law_next T) hr (by omega) rfl (pa_cons (pv 0) (pa_cons pe_int pa_nil))) (pa_cons pe_int pa_nil))) pe_int) (fun _ _ => rfl)))
  (pss_one (ps_ret (pe_ifExp (pt_cmpR op_eq (pv 15) pe_str (nomark _)) (pe_tup (pa_cons (pv 15) (pa_cons (pv 3) (pa_cons (pv 4) pa_nil)))) (pe_ifExp (pt_cmpR op_eq (pv 15) pe_str (nomark _)) (pe_tup (pa_cons pe_str pa_nil)) (pe_tup (pa_cons (pv 15) (pa_cons (pv 3) pa_nil)))))))))))))))))), ?_⟩
    rw [st_law_letter]
    have hle : (wd L).names.length ≤ 10 := by rw [wd_names, List.length_map]; exact hW.le
    wtm_at "go"
    refine gSorDI hW.at_ (kvW_keys L) (by omega) (fun p np => ?_)
    have I0 : LS K H ph pl pw L p (upd H p (.lst ((sortI (wd L).names).map V.int))) := ⟨hD.same (same_new np), hW.same (same_new np), Fr.new np, upd_same, hna, hD.ne np⟩
    show gName _ _ _ (upd H p (.lst ((sortI (wd L).names).map V.int))) _
    generalize upd H p (.lst ((sortI (wd L).names).map V.int)) = H1 at I0
    have hS : ∀ r : Int, 0 ≤ r → r < ((sortI (wd L).names).length : Int) → ∃ c, atI ((sortI (wd L).names).map V.int) r = some (.int c) ∧ c ∈ (wd L).names := fun r r0 r1 => by
      obtain ⟨c, e, hc⟩ := at_pick (cs := sortI (wd L).names) r0 r1
      exact ⟨c, e, mem_sortI.mp hc⟩
    have hlen : (sortI (wd L).names).length ≤ 10 := by rw [len_sortI]; exact hle
    wtm_at "go"
    refine iIfK (fun v H' => ∃ c, v = .int c ∧ Nm c ∧ (sortI (wd L).names ≠ [] → c ∈ (wd L).names) ∧ LS K H ph pl pw L p H') (fun Q' k' => ?_) (fun v H2 hv => ?_)
    · wtm_at "go"
      intro e ne
      have I1 := I0.same (same_new (o := .lst []) ne)
      refine iNeDI (ns := sortI (wd L).names) (ms := []) (SqL.of I1.sm) (SqL.of upd_same) ?_
      wtm_at "go"
      first | refine iteD (fun e => ?_) (fun e => ?_) | refine iteN (fun e => ?_) (fun e => ?_) | refine ite2 (fun e => ?_) (fun e => ?_)
      · have hl := List.length_pos_iff.mpr e
        have hsm := I1.sm
        wtm_at "go"
        rw [List.length_map]
        refine iNx I1.dw (by omega) (by omega) fun H2 r d2 f2 r0 r1 => ?_
        obtain ⟨c, ec, hc⟩ := hS r r0 r1
        have I2 := I1.step d2 f2
        exact iIxL (SqL.of I2.sm) ec (k' _ _ ⟨c, rfl, hF.names_nm c hc, fun _ => hc, I2⟩)
      · wtm_at "go"
        refine iNx I1.dw (by omega) (by omega) fun H2 r d2 f2 r0 r1 => ?_
        exact k' _ _ ⟨r, rfl, ⟨r0, by omega⟩, fun z => absurd e z, I1.step d2 f2⟩
    · obtain ⟨nm, rfl, hnm, hin, I2⟩ := hv
      wtm_at "go"
      refine iIfK (fun v H' => ∃ c, v = .int c ∧ Nm c ∧ LS K H ph pl pw L p H') (fun Q' k' => ?_) (fun v H3 hv => ?_)
      · wtm_at "go"
        intro e ne
        have I1 := I2.same (same_new (o := .lst []) ne)
        refine iNeDI (ns := sortI (wd L).names) (ms := []) (SqL.of I1.sm) (SqL.of upd_same) ?_
        wtm_at "go"
        first | refine iteD (fun e => ?_) (fun e => ?_) | refine iteN (fun e => ?_) (fun e => ?_) | refine ite2 (fun e => ?_) (fun e => ?_)
        · have hl := List.length_pos_iff.mpr e
          have hsm := I1.sm
          wtm_at "go"
          rw [List.length_map]
          refine iNx I1.dw (by omega) (by omega) fun H2 r d2 f2 r0 r1 => ?_
          obtain ⟨c, ec, hc⟩ := hS r r0 r1
          have I2 := I1.step d2 f2
          exact iIxL (SqL.of I2.sm) ec (k' _ _ ⟨c, rfl, hF.names_nm c hc, I2⟩)
        · wtm_at "go"
          refine iNx I1.dw (by omega) (by omega) fun H2 r d2 f2 r0 r1 => ?_
          exact k' _ _ ⟨r, rfl, ⟨r0, by omega⟩, I1.step d2 f2⟩
      · obtain ⟨ot, rfl, hot, I3⟩ := hv
        wtm_at "go"
        refine iNx I3.dw (by omega) (by omega) fun H4 tn d4 f4 t0 t1 => ?_
        have I4 := I3.step d4 f4
        refine nName (by wtm_at "st") ?_
        refine iSeq ?_
        refine iIfS ?_
        refine iTK (fun b H' => LS K H ph pl pw L p H' ∧ (b = true → (wd L).names.length < 10) ∧ (b = false → (wd L).names ≠ [])) (fun R' k' => ?_) ?_
        · wtm_at "go"
          intro e ne
          have I5 := I4.same (same_new (o := .lst []) ne)
          refine iEqDI (ns := sortI (wd L).names) (ms := []) (SqL.of I5.sm) (SqL.of upd_same) ?_
          wtm_at "go"
          first | refine iteD (fun e => ?_) (fun e => ?_) | refine iteN (fun e => ?_) (fun e => ?_) | refine ite2 (fun e => ?_) (fun e => ?_)
          · exact k' _ _ ⟨I5, fun _ => by rw [← len_sortI, e]; decide, fun z => nomatch z⟩
          · have hne : (wd L).names ≠ [] := fun z => e (List.length_eq_zero_iff.mp (by rw [len_sortI, z]; rfl))
            have hsm := I5.sm
            wtm_at "go"
            first | refine iteD (fun e2 => ?_) (fun e2 => ?_) | refine iteN (fun e2 => ?_) (fun e2 => ?_) | refine ite2 (fun e2 => ?_) (fun e2 => ?_)
            · wtm_at "go"
              rw [List.length_map]
              refine k' _ _ ⟨I5, fun z => ?_, fun _ => hne⟩
              have := of_decide_eq_true z
              rw [len_sortI] at this
              omega
            · exact k' _ _ ⟨I5, (fun z => nomatch z), fun _ => hne⟩
        · rintro b H5 ⟨I5, hb1, hb2⟩
          cases b with
          | true =>
            have hl10 := hb1 rfl
            wtm_at "go"
            intro D nD
            refine eLcR (lo := 0) (n := 10) (fun i H' => Fr [D] H5 H' ∧ H' D = some (.lst ((frs (wd L) i).map V.int))) ⟨Fr.new nD, upd_same⟩ ?_ ?_
            · rintro i H6 hi ⟨f6, hD6⟩
              have W6 := I5.wa.fr f6 fun a ha z => by
                obtain ⟨o, e, _⟩ := fp_some I5.wa ha
                rw [List.mem_singleton.mp z, nD] at e
                cases e
              wtm_at "go"
              refine iDNI W6.at_ ?_
              rw [WAt.isSome]
              rw [show (0 : Int) + (i : Int) = (i : Int) by omega]
              have hfr := frs_succ (W := wd L) (n := i)
              cases g : (wd L).get (i : Int) with
              | some s =>
                rw [g] at hfr
                wtm_at "go"
                refine ⟨f6, ?_⟩
                rw [hD6, hfr]
                simp
              | none =>
                rw [g] at hfr
                wtm_at "go"
                refine ⟨_, hD6, ?_, f6.trans (Fr.set hD6 rfl (by simp)), ?_⟩
                · rw [List.length_map]
                  exact Nat.lt_of_le_of_lt frs_le (Nat.lt_trans hi (by decide))
                · rw [upd_same, hfr]
                  simp
            · rintro H6 ⟨f6, hD6⟩
              have nDp := I5.dw.ne nD
              have f06 : Fr [ph, pl] H H6 := I5.fr.trans ⟨fun a o e z => f6.at_ _ _ e fun z2 => (by rw [List.mem_singleton.mp z2, nD] at e; cases e), f6.tu, f6.fz, f6.dm⟩
              have d6 : Drw H6 ph pl := by
                obtain ⟨m, cs, k, a, b, c⟩ := I5.dw
                exact ⟨m, cs, k, f6.at_ _ _ a (fun z2 => by rw [List.mem_singleton.mp z2, nD] at a; cases a), f6.at_ _ _ b (fun z2 => by rw [List.mem_singleton.mp z2, nD] at b; cases b), c⟩
              have hF0 : 0 < (frs (wd L) 10).length := List.length_pos_iff.mpr (frs_ne (by rw [Wd.names, List.length_map] at hl10; exact hl10))
              have hF1 : (frs (wd L) 10).length ≤ 10 := frs_le
              have hFm : ∀ r : Int, 0 ≤ r → r < ((frs (wd L) 10).length : Int) → ∃ c, atI ((frs (wd L) 10).map V.int) r = some (.int c) ∧ Nm c := fun r r0 r1 => by
                obtain ⟨c, e, hc⟩ := at_pick (cs := frs (wd L) 10) r0 r1
                exact ⟨c, e, (frs_nm hc).1⟩
              generalize frs (wd L) 10 = F at hD6 hF0 hF1 hFm
              wtm_at "go"
              refine iIfK (fun v H' => ∃ c, v = .int c ∧ 1 ≤ c ∧ c ≤ (F.length : Int) ∧ Drw H' ph pl ∧ Fr [ph, pl] H6 H') (fun Q' k' => ?_) (fun v H7 hv => ?_)
              · wtm_at "go"
                rw [List.length_map]
                first | refine iteD (fun e => ?_) (fun e => ?_) | refine iteN (fun e => ?_) (fun e => ?_) | refine ite2 (fun e => ?_) (fun e => ?_)
                · wtm_at "go"
                  rw [List.length_map]
                  wtm_at "go"
                  refine iPick [(F.length : Int), 2, 1] rfl d6 rfl (by simp) (by simp) fun H7 c d7 f7 hc => ?_
                  · refine k' _ _ ⟨c, rfl, ?_, ?_, d7, f7⟩
                    · simp at hc
                      omega
                    · simp at hc
                      omega
                · wtm_at "go"
                  exact k' _ _ ⟨1, rfl, by omega, by omega, d6, Fr.refl⟩
              · obtain ⟨c, rfl, c0, c1, d7, f7⟩ := hv
                wtm_at "go"
                refine iNx d7 (by omega) (by omega) fun H8 r d8 f8 r0 r1 => ?_
                obtain ⟨x, ex, hx⟩ := hFm r r0 (by omega)
                have hD8 := (f7.trans f8).at_ _ _ hD6 nDp
                refine iIxL (SqL.of hD8) ex ?_
                wtm_at "go"
                intro t nt
                exact q _ t (.make x) (SqT.of upd_same) hx (d8.same (same_new nt)) (((f06.trans f7).trans f8).trans (Fr.new nt))
          | false =>
            have hnn := hin (fun z => hb2 rfl (by
              have : (sortI (wd L).names).length = 0 := by rw [z]; rfl
              rw [len_sortI] at this
              exact List.length_eq_zero_iff.mp this))
            have hnn := hin fun z => hb2 rfl (by
              have : (sortI (wd L).names).length = 0 := by rw [z]; rfl
              rw [len_sortI] at this
              exact List.length_eq_zero_iff.mp this)
            wtm_at "go"
            first | refine iteD (fun e1 => ?_) (fun e1 => ?_) | refine iteN (fun e1 => ?_) (fun e1 => ?_) | refine ite2 (fun e1 => ?_) (fun e1 => ?_)
            · wtm_at "go"
              refine iPick [4, 12] rfl I5.dw rfl (by simp) (by simp) fun H6 c d6 f6 hc => ?_
              have c1 : 1 ≤ c ∧ c ≤ 12 := by simp at hc; omega
              have I6 := I5.step d6 f6
              wtm_at "go"
              refine iNx I6.dw (by omega) (by omega) fun H7 a d7 f7 a0 a1 => ?_
              have I7 := I6.step d7 f7
              wtm_at "go"
              refine iPick [3, 8] rfl I7.dw rfl (by simp) (by simp) fun H8 c2 d8 f8 hc2 => ?_
              have c3 : 1 ≤ c2 ∧ c2 ≤ 8 := by simp at hc2; omega
              have I8 := I7.step d8 f8
              wtm_at "go"
              refine iNx I8.dw (by omega) (by omega) fun H9 b d9 f9 b0 b1 => ?_
              have I9 := I8.step d9 f9
              wtm_at "go"
              intro t nt
              exact q _ t (.size nm (1 + a) (1 + b)) (SqT.of upd_same) ⟨hnm, ⟨by omega, by omega⟩, by omega, by omega⟩ (I9.same (same_new nt)).dw (I9.same (same_new nt)).fr
            · wtm_at "go"
              first | refine iteD (fun e2 => ?_) (fun e2 => ?_) | refine iteN (fun e2 => ?_) (fun e2 => ?_) | refine ite2 (fun e2 => ?_) (fun e2 => ?_)
              · obtain ⟨sn, gn⟩ := name_get hnn
                have hR := (hF.ok nm sn gn).p.r
                obtain ⟨d, md, ev, vp, vr, vs, hd, ⟨pa, vm, rfl, hp, ma, ms, rfl, hm, hrs⟩, _, _⟩ := I5.wa.get gn
                wtm_at "go"
                refine iDGI I5.wa.at_ ev ?_
                wtm_at "go"
                refine iDGS (v := .ref pa) hd rfl ?_
                wtm_at "go"
                have hml : ms.length = sn.pending.marks.length := pLen hrs
                have h1 := hR.h1
                have h8 := hR.h8
                have w1 := hR.w1
                have w12 := hR.w12
                obtain ⟨rv, e3, ra, rfl, hra⟩ := pGet hrs (i := 0) (List.getElem?_eq_getElem (by omega))
                have hrl : (sn.pending.marks[0]'(by omega)).length = (sn.pending.marks.headD []).length := hR.all _ (List.getElem_mem _)
                refine iIxT hm (at_of (j := 0) rfl e3) ?_
                wtm_at "go"
                rw [List.length_map, hrl]
                refine iNx I5.dw (by omega) (by omega) fun H6 wi d6 f6 wi0 wi1 => ?_
                have I6 := I5.step d6 f6
                have hm6 := f6.sqT hm
                have hra6 := f6.sqT hra
                wtm_at "go"
                rw [hml]
                refine iNx I6.dw (by omega) (by omega) fun H7 hi d7 f7 hi0 hi1 => ?_
                have I7 := I6.step d7 f7
                have hm7 := f7.sqT hm6
                have hra7 := f7.sqT hra6
                wtm_at "go"
                refine iIxT hm7 (at_of (j := 0) rfl e3) ?_
                wtm_at "go"
                rw [List.length_map, hrl]
                refine iNx I7.dw (by omega) (by omega) fun H8 x d8 f8 x0 x1 => ?_
                have I8 := I7.step d8 f8
                have hm8 := f8.sqT hm7
                have hra8 := f8.sqT hra7
                wtm_at "go"
                rw [hml]
                refine iNx I8.dw (by omega) (by omega) fun H9 y d9 f9 y0 y1 => ?_
                have I9 := I8.step d9 f9
                wtm_at "go"
                refine iNx I9.dw (by omega) (by omega) fun HA m dA fA m0 m1 => ?_
                have IA := I9.step dA fA
                wtm_at "go"
                intro t nt
                exact q _ t (.paint nm x y (1 + wi) (1 + hi) m) (SqT.of upd_same) ⟨hnm, ⟨by omega, by omega⟩, ⟨by omega, by omega⟩, ⟨by omega, by omega⟩, ⟨by omega, by omega⟩, by omega, by omega⟩ (IA.same (same_new nt)).dw (IA.same (same_new nt)).fr
              · wtm_at "go"
                first | refine iteD (fun e3 => ?_) (fun e3 => ?_) | refine iteN (fun e3 => ?_) (fun e3 => ?_) | refine ite2 (fun e3 => ?_) (fun e3 => ?_)
                · wtm_at "go"
                  refine iPick [6, 3, 20] rfl I5.dw rfl (by simp) (by simp) fun H6 c d6 f6 hc => ?_
                  have c1 : 3 ≤ c ∧ c ≤ 20 := by simp at hc; omega
                  have I6 := I5.step d6 f6
                  wtm_at "go"
                  refine iNx I6.dw (by omega) (by omega) fun H7 a d7 f7 a0 a1 => ?_
                  have I7 := I6.step d7 f7
                  wtm_at "go"
                  refine iNx I7.dw (by omega) (by omega) fun H8 b d8 f8 b0 b1 => ?_
                  have I8 := I7.step d8 f8
                  wtm_at "go"
                  intro t nt
                  exact q _ t (.place nm (a - c) (b - c)) (SqT.of upd_same) ⟨hnm, ⟨by omega, by omega⟩, by omega, by omega⟩ (I8.same (same_new nt)).dw (I8.same (same_new nt)).fr
                · wtm_at "go"
                  first | refine iteD (fun e4 => ?_) (fun e4 => ?_) | refine iteN (fun e4 => ?_) (fun e4 => ?_) | refine ite2 (fun e4 => ?_) (fun e4 => ?_)
                  · wtm_at "go"
                    refine iPick [3, 10] rfl I5.dw rfl (by simp) (by simp) fun H6 c d6 f6 hc => ?_
                    have c1 : 1 ≤ c ∧ c ≤ 10 := by simp at hc; omega
                    have I6 := I5.step d6 f6
                    wtm_at "go"
                    refine iNx I6.dw (by omega) (by omega) fun H7 a d7 f7 a0 a1 => ?_
                    have I7 := I6.step d7 f7
                    wtm_at "go"
                    intro t nt
                    exact q _ t (.rank nm a) (SqT.of upd_same) ⟨hnm, by omega, by omega⟩ (I7.same (same_new nt)).dw (I7.same (same_new nt)).fr
                  · wtm_at "go"
                    intro wp nwp
                    have I6 := I5.same (same_new (o := .lst [.str "veil", .str "unveil", .str "unveil", .str "tie", .str "drop", .str "hold", .str "show", .str "show", .str "show", .str "let"]) nwp)
                    have hwp : upd H5 wp (.lst [.str "veil", .str "unveil", .str "unveil", .str "tie", .str "drop", .str "hold", .str "show", .str "show", .str "show", .str "let"]) wp = some _ := upd_same
                    have nwp2 := I5.dw.ne nwp
                    generalize upd H5 wp (.lst [.str "veil", .str "unveil", .str "unveil", .str "tie", .str "drop", .str "hold", .str "show", .str "show", .str "show", .str "let"]) = H6 at I6 hwp
                    wtm_at "go"
                    refine iIfK (fun v H' => ∃ c : Int, v = .int c ∧ 0 ≤ c ∧ c < 10 ∧ LS K H ph pl pw L p H' ∧ Fr [ph, pl] H6 H') (fun Q' k' => ?_) (fun v H7 hv => ?_)
                    · wtm_at "go"
                      refine iNx I6.dw (by omega) (by omega) fun H7 a d7 f7 a0 a1 => ?_
                      have I7 := I6.step d7 f7
                      wtm_at "go"
                      first | refine iteD (fun e5 => ?_) (fun e5 => ?_) | refine iteN (fun e5 => ?_) (fun e5 => ?_) | refine ite2 (fun e5 => ?_) (fun e5 => ?_)
                      · wtm_at "go"
                        refine iNx I7.dw (by omega) (by omega) fun H8 b d8 f8 b0 b1 => ?_
                        have I8 := I7.step d8 f8
                        wtm_at "go"
                        refine k' _ _ ⟨_, rfl, ?_, ?_, I8, f7.trans f8⟩
                        · split <;> omega
                        · split <;> omega
                      · wtm_at "go"
                        exact k' _ _ ⟨9, rfl, by omega, by omega, I7, f7⟩
                    · obtain ⟨c, rfl, c0, c1, I7, f7⟩ := hv
                      obtain ⟨wo, ew, hwo⟩ := at_pick' (xs := ["veil", "unveil", "unveil", "tie", "drop", "hold", "show", "show", "show", "let"]) c0 c1
                      refine iIxL (SqL.of (f7.at_ _ _ hwp nwp2)) ew ?_
                      simp only [List.mem_cons, List.not_mem_nil, or_false] at hwo
                      have fin : ∀ (t : Addr) (xs : List V) (l : Lt), Lt.vs l = xs → l.ok → H7 t = none → Q (.ref t) (upd H7 t (.tup xs)) := fun t xs l e ho nt => q _ t l (by rw [e]; exact SqT.of upd_same) ho (I7.same (same_new nt)).dw (I7.same (same_new nt)).fr
                      rcases hwo with rfl | rfl | rfl | rfl | rfl | rfl | rfl | rfl | rfl | rfl
                      · refine iIf ?_
                        wtm_at "go"
                        refine iIf ?_
                        wtm_at "go"
                        intro t nt
                        exact fin t _ (.veil nm) rfl hnm nt
                      · refine iIf ?_
                        wtm_at "go"
                        refine iIf ?_
                        wtm_at "go"
                        intro t nt
                        exact fin t _ (.unveil nm) rfl hnm nt
                      · refine iIf ?_
                        wtm_at "go"
                        refine iIf ?_
                        wtm_at "go"
                        intro t nt
                        exact fin t _ (.unveil nm) rfl hnm nt
                      · refine iIf ?_
                        wtm_at "go"
                        intro t nt
                        exact fin t _ (.tie nm ot) rfl ⟨hnm, hot⟩ nt
                      · refine iIf ?_
                        wtm_at "go"
                        refine iIf ?_
                        wtm_at "go"
                        intro t nt
                        exact fin t _ (.drop nm) rfl hnm nt
                      · refine iIf ?_
                        wtm_at "go"
                        refine iIf ?_
                        wtm_at "go"
                        intro t nt
                        exact fin t _ (.hold nm) rfl hnm nt
                      · refine iIf ?_
                        wtm_at "go"
                        refine iIf ?_
                        wtm_at "go"
                        intro t nt
                        exact fin t _ (.shw nm) rfl hnm nt
                      · refine iIf ?_
                        wtm_at "go"
                        refine iIf ?_
                        wtm_at "go"
                        intro t nt
                        exact fin t _ (.shw nm) rfl hnm nt
                      · refine iIf ?_
                        wtm_at "go"
                        refine iIf ?_
                        wtm_at "go"
                        intro t nt
                        exact fin t _ (.shw nm) rfl hnm nt
                      · refine iIf ?_
                        wtm_at "go"
                        refine iIf ?_
                        wtm_at "go"
                        intro t nt
                        exact fin t _ .lt rfl trivial nt
end

/-! ### an odd letter, a book -/
def LtT (K : PySem.W.Frag) (H : Hp) (v : V) (l : Lt) : Prop := ∃ t, v = .ref t ∧ SqT K H t l.vs
theorem LtT.fr {K : PySem.W.Frag} {H H' : Hp} {S : List Addr} {v : V} {l : Lt} (f : Fr S H H') (h : LtT K H v l) : LtT K H' v l := let ⟨t, e, q⟩ := h; ⟨t, e, f.sqT q⟩
structure OD (K : PySem.W.Frag) (H0 : Hp) (ph pl : Addr) (xs : List V) (ls : List Lt) (H : Hp) : Prop where
  dw : Drw H ph pl
  fr : Fr [ph, pl] H0 H
  ps : Paired (LtT K H) xs ls
  ok : ∀ l ∈ ls, l.ok
section
variable {K : PySem.W.Frag} {H0 H H' : Hp} {ph pl p : Addr} {xs : List V} {ls : List Lt} {Q : VK} {σ : L2.St}
theorem OD.same (h : OD K H0 ph pl xs ls H) (s : Same H H') : OD K H0 ph pl xs ls H' := ⟨h.dw.same s, h.fr.trans (Fr.same s), pMap h.ps fun _ _ z => z.fr (Fr.same (S := []) s), h.ok⟩
theorem OD.step (h : OD K H0 ph pl xs ls H) (d : Drw H' ph pl) (f : Fr [ph, pl] H H') : OD K H0 ph pl xs ls H' := ⟨d, h.fr.trans f, pMap h.ps fun _ _ z => z.fr f, h.ok⟩
theorem OD.snoc (h : OD K H0 ph pl xs ls H) {t : Addr} (n : H t = none) {l : Lt} (ho : l.ok) : OD K H0 ph pl (xs ++ [.ref t]) (ls ++ [l]) (upd H t (.tup l.vs)) :=
  have h' := h.same (same_new (o := .tup l.vs) n)
  ⟨h'.dw, h'.fr, pSnoc h'.ps ⟨t, rfl, SqT.of upd_same⟩, fun x hx => by
    rcases List.mem_append.mp hx with hx | hx
    · exact h.ok x hx
    · rw [List.mem_singleton.mp hx]; exact ho⟩
theorem vs_le (l : Lt) : l.vs.length ≤ 7 := by cases l <;> simp [Lt.vs, Lt.nums]
theorem iTupO {t : TA} (h : OD K H0 ph pl xs ls H) (l : Lt) (ho : l.ok) (ht : ∀ R : List V → Hp → Prop, R l.vs H → t σ H R) (q : ∀ p H', Same H H' → OD K H0 ph pl (xs ++ [.ref p]) (ls ++ [l]) H' → Q (.ref p) H') : tTup t σ H Q :=
  ht _ ⟨Nat.le_trans (vs_le l) (by decide), fun p np => q p _ (same_new np) (h.snoc np ho)⟩
end
theorem Fr.trans2 {S : List Addr} {H0 H H' : Hp} {p : Addr} (f : Fr S H0 H) (g : Fr [p] H H') (n : H0 p = none) : Fr S H0 H' :=
  ⟨fun a o e z => g.at_ _ _ (f.at_ _ _ e z) fun z2 => (by rw [List.mem_singleton.mp z2, n] at e; cases e), fun a xs e => g.tu _ _ (f.tu _ _ e), fun a o u e => g.fz _ _ _ (f.fz _ _ _ e), fun a e => f.dm _ (g.dm _ e)⟩
def spOdd (K : PySem.W.Frag) : Sp := fun vs H Q _ => ∃ ph pl pw, vs = [.ref ph, pw] ∧ Drw H ph pl ∧ ∀ H' t l, SqT K H' t (Lt.vs l) → l.ok → Drw H' ph pl → Fr [ph, pl] H H' → Q (.ref t) H'
section
variable {P : Program} {w : World} {K : PySem.W.Frag} {mg : Str → Option Value} {base : Heap}
theorem ok_law_odd (T : Tx w K mg) : Cal P w K mg base 2 "_law_odd" (spOdd K) [] := by
  refine mk_law_odd T (fun vs H Q E h => ?_) (fun cdv A outer s H vs Q E hr h => ?_)
  · obtain ⟨ph, pl, pw, rfl, _⟩ := h
    rfl
  · obtain ⟨ph, pl, pw, rfl, hD, q⟩ := h
    refine ⟨_, (pss_cons (ps_set (i := 2) sc_law_odd.nd rfl (.inl rfl) (pe_c (ok_law_next T) hr (by omega) rfl (pa_cons (pv 0) (pa_cons pe_int pa_nil))))
  (pss_cons (ps_set (i := 3) sc_law_odd.nd rfl (.inl rfl) (pe_lst (pa_cons (pe_tup (pa_cons pe_str (pa_cons (pv 2) pa_nil))) (pa_cons (pe_tup (pa_cons pe_str (pa_cons (pv 2) pa_nil))) (pa_cons (pe_tup (pa_cons pe_str (pa_cons (pv 2) (pa_cons pe_int (pa_cons pe_int pa_nil))))) (pa_cons (pe_tup (pa_cons pe_str (pa_cons (pv 2) (pa_cons pe_int (pa_cons pe_int (pa_cons pe_int (pa_cons pe_int (pa_cons pe_int pa_nil)))))))) pa_nil))))))
  (pss_cons (ps_expr (pe_bm PySem.F.plainAttrs_list PySem.F.slot_list_append PySem.F.type_list_append mt_append (pv 3) (pa_cons (pe_tup (pa_cons pe_str (pa_cons (pv 2) (pa_cons pe_int (pa_cons pe_int pa_nil))))) pa_nil)))
  (pss_cons (ps_set (i := 3) sc_law_odd.nd rfl (.inl rfl) (pe_op op_cat (pv 3) (pe_lst (pa_cons (pe_tup (pa_cons pe_str (pa_cons (pv 2) (pa_cons pe_int pa_nil)))) (pa_cons (pe_tup (pa_cons pe_str (pa_cons (pv 2) pa_nil))) (pa_cons (pe_tup (pa_cons pe_str (pa_cons (pv 2) pa_nil))) (pa_cons (pe_tup (pa_cons pe_str (pa_cons (pv 2) (pa_cons (pe_c (ok_law_next T) hr (by omega) rfl (pa_cons (pv 0) (pa_cons pe_int pa_nil))) pa_nil)))) (pa_cons (pe_tup (pa_cons pe_str (pa_cons (pv 2) pa_nil))) pa_nil))))))))
  (pss_one (ps_ret (pe_ix ix_list (pe_op op_cat (pv 3) (pe_lst (pa_cons (pe_tup (pa_cons pe_str (pa_cons (pv 2) pa_nil))) (pa_cons (pe_tup (pa_cons pe_str (pa_cons (pv 2) (pa_cons pe_int (pa_cons pe_int (pa_cons pe_int (pa_cons pe_int (pa_cons pe_int pa_nil)))))))) pa_nil)))) (pe_c (ok_law_next T) hr (by omega) rfl (pa_cons (pv 0) (pa_cons pe_int pa_nil))) (fun _ _ => rfl)))))))), ?_⟩
    rw [st_law_odd]
    wtm_at "go"
    refine iNx hD (by omega) (by omega) fun H1 n d1 f1 n0 n1 => ?_
    have hn : Nm n := ⟨n0, by omega⟩
    have I0 : OD K H ph pl [] [] H1 := ⟨d1, f1, .nil, fun _ h => nomatch h⟩
    refine nName (by wtm_at "st") ?_
    refine iSeq ?_
    refine iAsg ?_
    refine iLst ?_
    refine iCons ?_
    refine iTupO I0 (.make n) hn (fun R h => (by wtm_at "go"; exact h)) fun t1 H2 _ I1 => ?_
    refine iCons ?_
    refine iTupO I1 (.drop n) hn (fun R h => (by wtm_at "go"; exact h)) fun t2 H3 _ I2 => ?_
    refine iCons ?_
    refine iTupO I2 (.size n 2 2) ⟨hn, by omega, by omega⟩ (fun R h => (by wtm_at "go"; exact h)) fun t3 H4 _ I3 => ?_
    refine iCons ?_
    refine iTupO I3 (.paint n 11 7 1 1 3) ⟨hn, by omega, by omega, by omega, by omega, by omega⟩ (fun R h => (by wtm_at "go"; exact h)) fun t4 H5 _ I4 => ?_
    wtm_at "go"
    intro p np
    have J4 := I4.same (same_new (o := .lst [.ref t1, .ref t2, .ref t3, .ref t4]) np)
    have hp : upd H5 p (.lst [.ref t1, .ref t2, .ref t3, .ref t4]) p = some (.lst [.ref t1, .ref t2, .ref t3, .ref t4]) := upd_same
    generalize upd H5 p (.lst [.ref t1, .ref t2, .ref t3, .ref t4]) = H6 at J4 hp
    refine nName (by wtm_at "st") ?_
    refine iSeq ?_
    refine iDrop ?_
    refine iBM ?_
    refine gVar ?_
    refine ⟨_, rfl, gTyL ⟨_, SqL.of hp⟩ ?_⟩
    refine iCons ?_
    refine iTupO J4 (.place n 0 0) ⟨hn, by omega, by omega⟩ (fun R h => (by wtm_at "go"; exact h)) fun t5 H7 s7 I5 => ?_
    refine iNil ?_
    refine gAppend ⟨_, s7 _ _ hp, by simp [sizeLine_eq], ?_⟩
    have f8 := Fr.set (S := [p]) (o := .lst ([.ref t1, .ref t2, .ref t3, .ref t4] ++ [.ref t5])) (s7 _ _ hp) rfl (by simp)
    have hp8 : upd H7 p (.lst ([.ref t1, .ref t2, .ref t3, .ref t4] ++ [.ref t5])) p = some (.lst [.ref t1, .ref t2, .ref t3, .ref t4, .ref t5]) := upd_same
    have npd := I4.dw.ne np
    have npH : H p = none := I4.fr.free np
    have I8 : OD K H ph pl [.ref t1, .ref t2, .ref t3, .ref t4, .ref t5] [.make n, .drop n, .size n 2 2, .paint n 11 7 1 1 3, .place n 0 0] (upd H7 p (.lst ([.ref t1, .ref t2, .ref t3, .ref t4] ++ [.ref t5]))) := by
      refine ⟨?_, I5.fr.trans2 f8 npH, pMap I5.ps fun _ _ z => z.fr f8, I5.ok⟩
      obtain ⟨m, cs, k, a, b, c⟩ := I5.dw
      exact ⟨m, cs, k, f8.at_ _ _ a (fun z => npd (by rw [List.mem_singleton.mp z] ; simp)), f8.at_ _ _ b (fun z => npd (by rw [List.mem_singleton.mp z] ; simp)), c⟩
    generalize upd H7 p (.lst ([.ref t1, .ref t2, .ref t3, .ref t4] ++ [.ref t5])) = H8 at hp8 I8
    refine iSeq ?_
    refine iAsg ?_
    refine iOp ?_
    refine gVar ⟨_, rfl, ?_⟩
    refine iLst ?_
    refine iCons ?_
    refine iTupO I8 (.rank n 1) ⟨hn, by omega, by omega⟩ (fun R h => (by wtm_at "go"; exact h)) fun t6 H9 s9 I9 => ?_
    refine iCons ?_
    refine iTupO I9 (.veil n) hn (fun R h => (by wtm_at "go"; exact h)) fun t7 HA sA IA => ?_
    refine iCons ?_
    refine iTupO IA (.unveil n) hn (fun R h => (by wtm_at "go"; exact h)) fun t8 HB sB IB => ?_
    wtm_at "go"
    refine iNx IB.dw (by omega) (by omega) fun HC o dC fC o0 o1 => ?_
    have IC := IB.step dC fC
    have hpC := fC.at_ _ _ (sB _ _ (sA _ _ (s9 _ _ hp8))) npd
    wtm_at "go"
    intro t9 n9
    have ID := IC.snoc n9 (l := .tie n o) ⟨hn, o0, by omega⟩
    have hpD := same_new (o := .tup [.str "tie", .int n, .int o]) n9 _ _ hpC
    have ID : OD K H ph pl _ _ (upd HC t9 (.tup [.str "tie", .int n, .int o])) := ID
    generalize upd HC t9 (.tup [.str "tie", .int n, .int o]) = HD at ID hpD
    refine iCons ?_
    refine iTupO ID (.shw n) hn (fun R h => (by wtm_at "go"; exact h)) fun ta HE sE IE => ?_
    wtm_at "go"
    intro p2 np2
    refine gCat ⟨_, same_new np2 _ _ (sE _ _ hpD), _, upd_same, by simp [sizeLine_eq], fun p3 np3 => ?_⟩
    have IF := (IE.same (same_new (o := .lst [.ref t6, .ref t7, .ref t8, .ref t9, .ref ta]) np2)).same (same_new (o := .lst ([.ref t1, .ref t2, .ref t3, .ref t4, .ref t5] ++ [.ref t6, .ref t7, .ref t8, .ref t9, .ref ta])) np3)
    have hpF : upd (upd HE p2 (.lst [.ref t6, .ref t7, .ref t8, .ref t9, .ref ta])) p3 (.lst ([.ref t1, .ref t2, .ref t3, .ref t4, .ref t5] ++ [.ref t6, .ref t7, .ref t8, .ref t9, .ref ta])) p3 = some (.lst [.ref t1, .ref t2, .ref t3, .ref t4, .ref t5, .ref t6, .ref t7, .ref t8, .ref t9, .ref ta]) := upd_same
    generalize upd (upd HE p2 (.lst [.ref t6, .ref t7, .ref t8, .ref t9, .ref ta])) p3 (.lst ([.ref t1, .ref t2, .ref t3, .ref t4, .ref t5] ++ [.ref t6, .ref t7, .ref t8, .ref t9, .ref ta])) = HF at IF hpF
    refine nName (by wtm_at "st") ?_
    refine iRet ?_
    refine iOp ?_
    refine iOp ?_
    refine gVar ⟨_, rfl, ?_⟩
    refine iLst ?_
    refine iCons ?_
    refine iTupO IF (.hold n) hn (fun R h => (by wtm_at "go"; exact h)) fun tb HG sG IG => ?_
    refine iCons ?_
    refine iTupO IG (.paint n 0 0 12 8 1) ⟨hn, by omega, by omega, by omega, by omega, by omega⟩ (fun R h => (by wtm_at "go"; exact h)) fun tc HI sI II => ?_
    wtm_at "go"
    intro p4 np4
    refine gCat ⟨_, same_new np4 _ _ (sI _ _ (sG _ _ hpF)), _, upd_same, by simp [sizeLine_eq], fun p5 np5 => ?_⟩
    have IJ := (II.same (same_new (o := .lst [.ref tb, .ref tc]) np4)).same (same_new (o := .lst ([.ref t1, .ref t2, .ref t3, .ref t4, .ref t5, .ref t6, .ref t7, .ref t8, .ref t9, .ref ta] ++ [.ref tb, .ref tc])) np5)
    have hpJ : upd (upd HI p4 (.lst [.ref tb, .ref tc])) p5 (.lst ([.ref t1, .ref t2, .ref t3, .ref t4, .ref t5, .ref t6, .ref t7, .ref t8, .ref t9, .ref ta] ++ [.ref tb, .ref tc])) p5 = some (.lst [.ref t1, .ref t2, .ref t3, .ref t4, .ref t5, .ref t6, .ref t7, .ref t8, .ref t9, .ref ta, .ref tb, .ref tc]) := upd_same
    have n5d := II.dw.ne ((same_new (o := .lst [.ref tb, .ref tc]) np4).free np5)
    generalize upd (upd HI p4 (.lst [.ref tb, .ref tc])) p5 (.lst ([.ref t1, .ref t2, .ref t3, .ref t4, .ref t5, .ref t6, .ref t7, .ref t8, .ref t9, .ref ta] ++ [.ref tb, .ref tc])) = HJ at IJ hpJ
    wtm_at "go"
    refine iNx IJ.dw (by omega) (by omega) fun HK r dK fK r0 r1 => ?_
    have IK := IJ.step dK fK
    obtain ⟨l, hl, t, et, ht⟩ := pGetL IK.ps (i := r.toNat) (List.getElem?_eq_getElem (by simp; omega))
    refine iIxL (SqL.of (fK.at_ _ _ hpJ n5d)) (at_of (j := r.toNat) (by omega) ?_) (q _ t l ht (IK.ok _ (List.mem_of_getElem? hl)) IK.dw IK.fr)
    rw [← et]
    exact List.getElem?_eq_getElem _
end

theorem Fr.trans3 {S S2 : List Addr} {H0 H H' : Hp} (f : Fr S H0 H) (g : Fr S2 H H') (n : ∀ a ∈ S2, H0 a = none) : Fr S H0 H' :=
  ⟨fun a o e z => g.at_ _ _ (f.at_ _ _ e z) fun z2 => (by rw [n a z2] at e; cases e), fun a xs e => g.tu _ _ (f.tu _ _ e), fun a o u e => g.fz _ _ _ (f.fz _ _ _ e), fun a e => f.dm _ (g.dm _ e)⟩
theorem Drw.fr {S : List Addr} {H H' : Hp} {ph pl : Addr} (h : Drw H ph pl) (f : Fr S H H') (n : ph ∉ S) (n2 : pl ∉ S) : Drw H' ph pl := by
  obtain ⟨m, cs, k, a, b, c⟩ := h
  exact ⟨m, cs, k, f.at_ _ _ a n, f.at_ _ _ b n2, c⟩
theorem wat_nil {K : PySem.W.Frag} {H : Hp} {p : Addr} (h : H p = some (.dK [])) : WAt K H p [] := ⟨h, (fun _ h => nomatch h), List.nodup_nil, List.nodup_nil, (fun _ h => nomatch h), Nat.zero_le _⟩
def BkT (K : PySem.W.Frag) (H : Hp) (v : V) (ls : List Lt) : Prop := ∃ b xs, v = .ref b ∧ H b = some (.lst xs) ∧ Paired (LtT K H) xs ls
/-- a book's loop -/
structure BI (K : PySem.W.Frag) (H0 H : Hp) (ph pl pw pb : Addr) (i : Nat) : Prop where
  dw : Drw H ph pl
  fr : Fr [ph, pl] H0 H
  wa : ∃ L, WAt K H pw L ∧ WfW (wd L) ∧ (∀ a ∈ fpW pw L, a ∉ [ph, pl]) ∧ pb ∉ fpW pw L ∧ ∀ a ∈ fpW pw L, H0 a = none
  bk : ∃ xs ls, H pb = some (.lst xs) ∧ Paired (LtT K H) xs ls ∧ (∀ l ∈ ls, Lt.ok l) ∧ ls.length = i
  nb : H0 pb = none
  np : pb ∉ [ph, pl]
theorem BI.draw {K : PySem.W.Frag} {H0 H H' : Hp} {ph pl pw pb : Addr} {i : Nat} (I : BI K H0 H ph pl pw pb i) (d : Drw H' ph pl) (f : Fr [ph, pl] H H') : BI K H0 H' ph pl pw pb i := by
  obtain ⟨L, hW, hF, hna, hpb, hnew⟩ := I.wa
  obtain ⟨xs, ls, hb, hps, hlo, hll⟩ := I.bk
  exact ⟨d, I.fr.trans f, ⟨L, hW.fr f hna, hF, hna, hpb, hnew⟩, ⟨xs, ls, f.at_ _ _ hb I.np, pMap hps fun _ _ z => z.fr f, hlo, hll⟩, I.nb, I.np⟩
def spBook (K : PySem.W.Frag) : Sp := fun vs H Q _ => ∃ ph pl many, vs = [.ref ph, .int many] ∧ Drw H ph pl ∧ 0 ≤ many ∧ many ≤ 250 ∧ ∀ H' b xs ls, H' b = some (.lst xs) → H b = none → Paired (LtT K H') xs ls → (∀ l ∈ ls, Lt.ok l) → (ls.length : Int) ≤ many → Drw H' ph pl → Fr [ph, pl] H H' → Q (.ref b) H'
section
variable {P : Program} {w : World} {K : PySem.W.Frag} {mg : Str → Option Value} {base : Heap}
theorem ok_law_book (T : Tx w K mg) : Cal P w K mg base 7 "_law_book" (spBook K) [] := by
  refine mk_law_book T (fun vs H Q E h => ?_) (fun cdv A outer s H vs Q E hr h => ?_)
  · obtain ⟨ph, pl, many, rfl, _⟩ := h
    rfl
  · obtain ⟨ph, pl, many, rfl, hD, m0, m1, q⟩ := h
    refine ⟨_, (pss_cons (ps_set (i := 2) sc_law_book.nd rfl (.inl rfl) pe_dnewK)
  (pss_cons (ps_set (i := 3) sc_law_book.nd rfl (.inl rfl) (pe_lst pa_nil))
  (pss_cons (ps_set (i := 4) sc_law_book.nd rfl (.inl rfl) (pe_ix ix_list (pe_lst (pa_cons pe_int (pa_cons pe_int (pa_cons pe_int pa_nil)))) (pe_c (ok_law_next T) hr (by omega) rfl (pa_cons (pv 0) (pa_cons pe_int pa_nil))) (fun _ _ => rfl)))
  (pss_cons (ps_for PassesOwn.never rfl (pi_range1 rfl (f_range T) (pa_cons (pe_c (ok_law_next T) hr (by omega) rfl (pa_cons (pv 0) (pa_cons (pe_op op_add (pv 1) pe_int) pa_nil))) pa_nil)) (pg_name (i := 5) sc_law_book.nd rfl (.inl rfl)) (pss_cons (ps_set (i := 6) sc_law_book.nd rfl (.inl rfl) (pe_ifExp (PW.pt (pw_and (pt_cmpR op_gt (pv 4) pe_int (nomark _)) (pw_and1 (pt_cmpR op_eq (pe_c (ok_law_next T) hr (by omega) rfl (pa_cons (pv 0) (pa_cons (pv 4) pa_nil))) pe_int (nomark _))))) (pe_c (ok_law_odd T) hr (by omega) rfl (pa_cons (pv 0) (pa_cons (pv 2) pa_nil))) (pe_c (ok_law_letter T) hr (by omega) rfl (pa_cons (pv 0) (pa_cons (pv 2) pa_nil)))))
  (pss_cons (ps_expr (pe_bm PySem.F.plainAttrs_list PySem.F.slot_list_append PySem.F.type_list_append mt_append (pv 3) (pa_cons (pv 6) pa_nil)))
  (pss_one (ps_if (pt_not (pt_val (pe_ix ix_tup (pe_c (ok_law_does T) hr (by omega) rfl (pa_cons (pv 2) (pa_cons (pv 6) pa_nil))) pe_int (fun _ _ => rfl)))) (pss_one (ps_set (i := 2) sc_law_book.nd rfl (.inl rfl) pe_dnewK)) pss_nil)))))
  (pss_one (ps_ret (pv 3))))))), ?_⟩
    rw [st_law_book]
    wtm_at "go"
    intro pw npw
    wtm_at "go"
    intro pb npb
    have hD1 := (hD.same (same_new (o := .dK []) npw)).same (same_new (o := .lst []) npb)
    have npwH := npw
    have npbH := (same_new npw).free npb
    have hbw : pb ≠ pw := Ne.symm (ne_of_none (upd_same (a := pw)) npb)
    have I0 : BI K H (upd (upd H pw (.dK [])) pb (.lst [])) ph pl pw pb 0 := by
      refine ⟨hD1, (Fr.new npw).trans (Fr.new npb), ⟨[], wat_nil (hUpd (Ne.symm hbw) upd_same), wf_nil, ?_, ?_, ?_⟩, ⟨[], [], upd_same, .nil, (fun _ h => nomatch h), rfl⟩, npbH, hD.ne npbH⟩
      · intro a ha
        rw [List.mem_singleton.mp (show a ∈ [pw] from ha)]
        exact hD.ne npw
      · intro z
        exact hbw (List.mem_singleton.mp (show pb ∈ [pw] from z))
      · intro a ha
        rw [List.mem_singleton.mp (show a ∈ [pw] from ha)]
        exact npw
    show gName _ _ _ (upd (upd H pw (.dK [])) pb (.lst [])) _
    generalize upd (upd H pw (.dK [])) pb (.lst []) = H1 at I0
    wtm_at "go"
    refine iPick [1, 40, 400] rfl I0.dw rfl (by simp) (by simp) fun H2 od d2 f2 ho => ?_
    have ho : 1 ≤ od ∧ od ≤ 400 := by simp at ho; omega
    have I2 := I0.draw d2 f2
    wtm_at "go"
    refine iNx d2 (by omega) (by omega) fun H3 n d3 f3 n0 n1 => ?_
    have I3 := I2.draw d3 f3
    wtm_at "go"
    refine eForR (lo := 0) (n := n.toNat) (fun i σ H' => ∃ y5 y6 pw, σ = [some (.ref ph), some (.int many), some (.ref pw), some (.ref pb), some (.int od), y5, y6] ∧ BI K H H' ph pl pw pb i) ⟨_, _, _, rfl, I3⟩ ?_ ?_
    · rintro i σ H4 hi ⟨y5, y6, pw, rfl, I4⟩
      obtain ⟨L, hW, hF, hna, hpb, hnew⟩ := I4.wa
      wtm_at "go"
      refine iIfK (fun v H' => ∃ t l, v = .ref t ∧ SqT K H' t (Lt.vs l) ∧ l.ok ∧ Drw H' ph pl ∧ Fr [ph, pl] H4 H') (fun Q' k' => ?_) (fun v H5 hv => ?_)
      · refine iTK (fun b H' => Drw H' ph pl ∧ Fr [ph, pl] H4 H') (fun R' k2 => ?_) ?_
        · wtm_at "go"
          first | refine iteD (fun e => ?_) (fun e => ?_) | refine iteN (fun e => ?_) (fun e => ?_) | refine ite2 (fun e => ?_) (fun e => ?_)
          · wtm_at "go"
            refine iNx I4.dw (by omega) (by omega) fun H5 r d5 f5 r0 r1 => ?_
            wtm_at "go"
            exact k2 _ _ ⟨d5, f5⟩
          · exact k2 _ _ ⟨I4.dw, Fr.refl⟩
        · rintro b H5 ⟨d5, f5⟩
          cases b with
          | true =>
            wtm_at "go"
            exact ⟨ph, pl, _, rfl, d5, fun H6 t l ht ho d6 f6 => k' _ _ ⟨t, l, rfl, ht, ho, d6, f5.trans f6⟩⟩
          | false =>
            wtm_at "go"
            exact ⟨ph, pl, pw, L, rfl, d5, hW.fr f5 hna, hF, hna, fun H6 t l ht ho d6 f6 => k' _ _ ⟨t, l, rfl, ht, ho, d6, f5.trans f6⟩⟩
      · obtain ⟨t, l, rfl, ht, hok, d5, f5⟩ := hv
        obtain ⟨xs, ls, hb, hps, hlo, hll⟩ := I4.bk
        have hb5 := f5.at_ _ _ hb I4.np
        have I5 := I4.draw d5 f5
        obtain ⟨xs, ls, hb5, hps5, hlo, hll⟩ := I5.bk
        have W5 := hW.fr f5 hna
        wtm_at "go"
        refine gAppend ⟨xs, hb5, ?_, ?_⟩
        · have := pLen hps5
          exact Nat.lt_of_le_of_lt (show xs.length ≤ 250 by omega) (by decide)
        have f6 : Fr [pb] H5 (upd H5 pb (.lst (xs ++ [.ref t]))) := Fr.set hb5 rfl (by simp)
        have hb6 : upd H5 pb (.lst (xs ++ [.ref t])) pb = _ := upd_same
        have hps6 := pSnoc (pMap hps5 fun _ _ z => z.fr f6) (a := .ref t) (b := l) ⟨t, rfl, f6.sqT ht⟩
        have hnph : ph ∉ [pb] := fun z => I4.np (by rw [List.mem_singleton.mp z]; simp)
        have hnpl : pl ∉ [pb] := fun z => I4.np (by rw [List.mem_singleton.mp z]; simp)
        have d6 := d5.fr f6 hnph hnpl
        have W6 := W5.fr f6 fun a ha z => hpb (by rw [← List.mem_singleton.mp z]; exact ha)
        have ht6 := f6.sqT ht
        have fr6 := I5.fr.trans3 f6 (by simpa using I4.nb)
        generalize upd H5 pb (.lst (xs ++ [.ref t])) = H6 at hb6 hps6 d6 W6 ht6 fr6
        wtm_at "go"
        refine ⟨pw, t, L, l, rfl, W6, hF, ht6, hok, fun H7 L7 t7 p1 p2 D n1 n2 m1 m2 hq e1 e2 => ?_⟩
        have hna7 : ∀ a ∈ fpW pw L7, a ∉ [ph, pl] := fun a ha => by
          rcases D.fp a ha with h | h
          · exact hna a h
          · exact d6.ne h
        have hpb7 : pb ∉ fpW pw L7 := fun z => by
          rcases D.fp _ z with h | h
          · exact hpb h
          · rw [hb6] at h; cases h
        have hnew7 : ∀ a ∈ fpW pw L7, H a = none := fun a ha => by
          rcases D.fp a ha with h | h
          · exact hnew a h
          · exact fr6.free h
        have hph : ph ∉ fpW pw L := fun z => hna _ z (by simp)
        have hpl : pl ∉ fpW pw L := fun z => hna _ z (by simp)
        have I7 : BI K H H7 ph pl pw pb (i + 1) := ⟨d6.fr D.fr hph hpl, fr6.trans3 D.fr hnew, ⟨L7, D.at_, by rw [D.is]; exact hF.aft hok, hna7, hpb7, hnew7⟩,
          ⟨xs ++ [.ref t], ls ++ [l], D.fr.at_ _ _ hb6 hpb, pMap hps6 fun _ _ z => z.fr D.fr, fun x hx => by
            rcases List.mem_append.mp hx with h | h
            · exact hlo x h
            · rw [List.mem_singleton.mp h]; exact hok, by rw [List.length_append, hll]; rfl⟩, I4.nb, I4.np⟩
        wtm_at "go"
        cases eb : (does (wd L) l).isSome with
        | true =>
          wtm_at "go"
          exact ⟨_, _, _, rfl, I7⟩
        | false =>
          wtm_at "go"
          intro pw2 npw2
          wtm_at "go"
          refine ⟨_, _, pw2, rfl, ?_⟩
          obtain ⟨xs7, ls7, hb7, hps7, hlo7, hll7⟩ := I7.bk
          have s8 := same_new (o := .dK []) npw2
          refine ⟨I7.dw.same s8, I7.fr.trans (Fr.same s8), ⟨[], wat_nil upd_same, wf_nil, ?_, ?_, ?_⟩, ⟨xs7, ls7, s8 _ _ hb7, pMap hps7 fun _ _ z => z.fr (Fr.same (S := []) s8), hlo7, hll7⟩, I4.nb, I4.np⟩
          · intro a ha
            rw [List.mem_singleton.mp (show a ∈ [pw2] from ha)]
            exact I7.dw.ne npw2
          · intro z
            rw [List.mem_singleton.mp (show pb ∈ [pw2] from z), npw2] at hb7
            cases hb7
          · intro a ha
            rw [List.mem_singleton.mp (show a ∈ [pw2] from ha)]
            exact I7.fr.free npw2
    · rintro σ H4 ⟨y5, y6, pw, rfl, I4⟩
      wtm_at "go"
      obtain ⟨xs, ls, hb, hps, hlo, hll⟩ := I4.bk
      exact q _ pb xs ls hb I4.nb hps hlo (by omega) I4.dw I4.fr
end

/-! ### numbers, letters: those that can be -/
def spIsNum : Sp := fun vs H Q _ => ∃ p lo hi : Int, vs = [.int p, .int lo, .int hi] ∧ Q (.bl (decide (lo ≤ p) && decide (p ≤ hi))) H
section
variable {P : Program} {w : World} {K : PySem.W.Frag} {mg : Str → Option Value} {base : Heap}
theorem ok_is_number (T : Tx w K mg) : Cal P w K mg base 1 "is_number" spIsNum [] := by
  refine mk_is_number T (fun vs H Q E h => ?_) (fun cdv A outer s H vs Q E hr h => ?_)
  · obtain ⟨p, lo, hi, rfl, _⟩ := h
    rfl
  · obtain ⟨p, lo, hi, rfl, q⟩ := h
    refine ⟨_, (pss_one (ps_ret (pe_and (pe_callB call_isi (by rfl) (f_isinstance T) (by decide +kernel) (pa_cons (pv 0) (pa_cons (pe_bltn (v := .ty "int") (u := .type "int") (by rfl) (f_int T) (by decide +kernel) rfl) pa_nil))) (pe_and (pe_not (pe_callB call_isi (by rfl) (f_isinstance T) (by decide +kernel) (pa_cons (pv 0) (pa_cons (pe_bltn (v := .ty "bool") (u := .type "bool") (by rfl) (f_bool T) (by decide +kernel) rfl) pa_nil)))) (pe_one (pe_chain op_le op_le (pv 1) (pv 0) (pv 2))))))), ?_⟩
    rw [st_is_number]
    wtm_at "go"
    wtm_at "ii"
    wtm_at "go"
    wtm_at "ii"
    wtm_at "go"
    first | refine iteD (fun e => ?_) (fun e => ?_) | refine iteN (fun e => ?_) (fun e => ?_) | refine ite2 (fun e => ?_) (fun e => ?_)
    · rw [decide_eq_true e] at q
      wtm_at "go"
      exact q
    · rw [decide_eq_false e] at q
      exact q
end
def Lt.form : Lt → Str
  | .make _ => "n" | .drop _ => "n" | .size _ _ _ => "nWH" | .paint _ _ _ _ _ _ => "nxyWHm" | .place _ _ _ => "npp" | .rank _ _ => "nm" | .veil _ => "n" | .unveil _ => "n" | .tie _ _ => "nn" | .shw _ => "n" | .hold _ => "n" | .lt => ""
section
variable {P : Program} {w : World} {K : PySem.W.Frag} {mg : Str → Option Value} {base : Heap}
theorem form_at (T : Tx w K mg) (l : Lt) : ∃ u, PySem.W.nsIn K (He.ga K "FORMS") l.word = some (some u) ∧ RelV (.str l.form) u := by
  cases l
  · exact He.valsB_ok (ex_0 T) (q := ("make", .str "n")) (by simp)
  · exact He.valsB_ok (ex_0 T) (q := ("drop", .str "n")) (by simp)
  · exact He.valsB_ok (ex_0 T) (q := ("size", .str "nWH")) (by simp)
  · exact He.valsB_ok (ex_0 T) (q := ("paint", .str "nxyWHm")) (by simp)
  · exact He.valsB_ok (ex_0 T) (q := ("place", .str "npp")) (by simp)
  · exact He.valsB_ok (ex_0 T) (q := ("rank", .str "nm")) (by simp)
  · exact He.valsB_ok (ex_0 T) (q := ("veil", .str "n")) (by simp)
  · exact He.valsB_ok (ex_0 T) (q := ("unveil", .str "n")) (by simp)
  · exact He.valsB_ok (ex_0 T) (q := ("tie", .str "nn")) (by simp)
  · exact He.valsB_ok (ex_0 T) (q := ("show", .str "n")) (by simp)
  · exact He.valsB_ok (ex_0 T) (q := ("hold", .str "n")) (by simp)
  · exact He.valsB_ok (ex_0 T) (q := ("let", .str "")) (by simp)
def Bnd (K : PySem.W.Frag) (c : Nat) (p : Int) : Prop := ∃ a lo hi, PySem.W.nsIn K (He.ga K "BOUNDS") ⟨#[c]⟩ = some (some (.ref a)) ∧ (∀ H : Hp, SqT K H a [.int lo, .int hi]) ∧ lo ≤ p ∧ p ≤ hi
theorem bnd_of {z : Str} {lo hi p : Int} (h : tupIn K (He.ga K "BOUNDS") z [.int lo, .int hi] = true) {c : Nat} (e : z = ⟨#[c]⟩) (h1 : lo ≤ p) (h2 : p ≤ hi) : Bnd K c p := by
  subst e
  obtain ⟨a, h3, h4⟩ := tupIn_ok h
  exact ⟨a, lo, hi, h3, h4, h1, h2⟩
def okAt (K : PySem.W.Frag) : List Nat → List Int → Prop
  | [], [] => True
  | c :: cs, p :: ps => Bnd K c p ∧ okAt K cs ps
  | _, _ => False
theorem okAt_get : ∀ {cs : List Nat} {ps : List Int} {i : Nat} {c : Nat} {p : Int}, okAt K cs ps → cs[i]? = some c → ps[i]? = some p → Bnd K c p
  | c :: cs, p :: ps, 0, _, _, h, e, e2 => by
    simp at e e2
    subst e e2
    exact h.1
  | c :: cs, p :: ps, i + 1, _, _, h, e, e2 => okAt_get h.2 (by simpa using e) (by simpa using e2)
theorem bn (T : Tx w K mg) {p : Int} (h1 : 0 ≤ p) (h2 : p ≤ 9) : Bnd K 110 p := bnd_of (ex_1 T) (by decide +kernel) h1 h2
theorem bm (T : Tx w K mg) {p : Int} (h1 : 0 ≤ p) (h2 : p ≤ 9) : Bnd K 109 p := bnd_of (ex_2 T) (by decide +kernel) h1 h2
theorem bW (T : Tx w K mg) {p : Int} (h1 : 1 ≤ p) (h2 : p ≤ 12) : Bnd K 87 p := bnd_of (ex_3 T) (by decide +kernel) h1 h2
theorem bH (T : Tx w K mg) {p : Int} (h1 : 1 ≤ p) (h2 : p ≤ 8) : Bnd K 72 p := bnd_of (ex_4 T) (by decide +kernel) h1 h2
theorem bx (T : Tx w K mg) {p : Int} (h1 : 0 ≤ p) (h2 : p ≤ 11) : Bnd K 120 p := bnd_of (ex_5 T) (by decide +kernel) h1 h2
theorem by_ (T : Tx w K mg) {p : Int} (h1 : 0 ≤ p) (h2 : p ≤ 7) : Bnd K 121 p := bnd_of (ex_6 T) (by decide +kernel) h1 h2
theorem bp (T : Tx w K mg) {p : Int} (h1 : -20 ≤ p) (h2 : p ≤ 20) : Bnd K 112 p := bnd_of (ex_7 T) (by decide +kernel) h1 h2
theorem okAt_of (T : Tx w K mg) {l : Lt} (h : l.ok) : okAt K l.form.cps.toList l.nums := by
  cases l with
  | size n a b => exact ⟨bn T h.1.1 h.1.2, bW T h.2.1.1 h.2.1.2, bH T h.2.2.1 h.2.2.2, trivial⟩
  | paint n a b c d e => exact ⟨bn T h.1.1 h.1.2, bx T h.2.1.1 h.2.1.2, by_ T h.2.2.1.1 h.2.2.1.2, bW T h.2.2.2.1.1 h.2.2.2.1.2, bH T h.2.2.2.2.1.1 h.2.2.2.2.1.2, bm T h.2.2.2.2.2.1 h.2.2.2.2.2.2, trivial⟩
  | place n a b => exact ⟨bn T h.1.1 h.1.2, bp T h.2.1.1 h.2.1.2, bp T h.2.2.1 h.2.2.2, trivial⟩
  | rank n a => exact ⟨bn T h.1.1 h.1.2, bm T h.2.1 h.2.2, trivial⟩
  | tie n a => exact ⟨bn T h.1.1 h.1.2, bn T h.2.1 h.2.2, trivial⟩
  | lt => exact trivial
  | _ => exact ⟨bn T h.1 h.2, trivial⟩
theorem form_len (l : Lt) : l.form.length = l.nums.length := by cases l <;> rfl
theorem form_size (l : Lt) : l.form.cps.size = l.nums.length := by cases l <;> rfl
theorem word_ok (l : Lt) : PyData.strOk l.word = true := by cases l <;> (simp only [Lt.word]; decide +kernel)
def spIsLetter (K : PySem.W.Frag) : Sp := fun vs H Q _ => ∃ t l, vs = [.ref t] ∧ SqT K H t (Lt.vs l) ∧ l.ok ∧ ∀ H', Same H H' → Q (.bl true) H'
def spNeed (K : PySem.W.Frag) : Sp := fun vs H Q _ => ∃ t l, vs = [.ref t] ∧ SqT K H t (Lt.vs l) ∧ l.ok ∧ ∀ H', Same H H' → Q .non H'
theorem iEqT1 {p q : Addr} {x : Str} {ns : List Int} {H : Hp} {Q : VK} (h : SqT K H p (.str x :: ns.map V.int)) (h2 : SqT K H q []) (sx : PyData.strOk x = true) (k : Q (.bl false) H) : rEqD K (.ref p) (.ref q) H Q := by
  refine ⟨.tuple (.str x :: ns.map .int), .tuple [], .tup h (.cons (.str x) (dp_ints ns)), .tup h2 .nil, ?_, by decide, ?_⟩
  · simp [SeqAt.shaped, PyData.canLay0, PyData.canLayAll0, canLay_ints, PyData.depth, PyData.depthAll, depth_ints, sx]
  · rw [show PyData.eqv (.tuple (.str x :: ns.map .int)) (.tuple []) = false by simp [PyData.eqv, PyData.eqvAll]]
    exact k
theorem ok_is_letter (T : Tx w K mg) : Cal P w K mg base 2 "is_letter" (spIsLetter K) [] := by
  refine mk_is_letter T (fun vs H Q E h => ?_) (fun cdv A outer s H vs Q E hr h => ?_)
  · obtain ⟨t, l, rfl, _⟩ := h
    rfl
  · obtain ⟨t, l, rfl, hl, hok, q⟩ := h
    refine ⟨_, (pss_cons (ps_if (PW.pt (pw_or (pt_not (pt_val (pe_callB call_isi (by rfl) (f_isinstance T) (by decide +kernel) (pa_cons (pv 0) (pa_cons (pe_bltn (v := .ty "tuple") (u := .type "tuple") (by rfl) (f_tuple T) (by decide +kernel) rfl) pa_nil))))) (pw_or (pt_cmpR (op_eqD hr.units) (pv 0) (pe_tup pa_nil) (nomark _)) (pw_or (pt_not (pt_val (pe_callB call_isi (by rfl) (f_isinstance T) (by decide +kernel) (pa_cons (pe_ix ix_tup (pv 0) pe_int (fun _ _ => rfl)) (pa_cons (pe_bltn (v := .ty "str") (u := .type "str") (by rfl) (f_str T) (by decide +kernel) rfl) pa_nil))))) (pw_or1 (pt_cmpR (op_notInKd (kd_FORMS T)) (pe_ix ix_tup (pv 0) pe_int (fun _ _ => rfl)) (pe_gc (v := .ref (He.ga K "FORMS")) rfl ⟨_, g_FORMS T, rfl⟩) (by rfl))))))) (pss_one (ps_ret pe_bl)) pss_nil)
  (pss_cons (ps_set (i := 1) sc_is_letter.nd rfl (.inl rfl) (pe_ix ix_kdict (pe_gc (v := .ref (He.ga K "FORMS")) rfl ⟨_, g_FORMS T, rfl⟩) (pe_ix ix_tup (pv 0) pe_int (fun _ _ => rfl)) (fun _ _ => rfl)))
  (pss_cons (ps_if (pt_cmpR op_ne (pe_callB c_len (by rfl) (f_len T) (by decide +kernel) (pa_cons (pv 0) pa_nil)) (pe_op op_add (pe_callB c_lenS (by rfl) (f_len T) (by decide +kernel) (pa_cons (pv 1) pa_nil)) pe_int) (nomark _)) (pss_one (ps_ret pe_bl)) pss_nil)
  (pss_one (ps_ret (pe_cmpR (op_eqD hr.units) (pe_lc (own := [("part", 2), ("sort", 3)]) rfl sc_is_letter.nd (pi_zipTS (by rfl) (f_zip T) (pa_cons (pe_slice sl_tupA (pv 0) (po_some pe_int) po_none) (pa_cons (pv 1) pa_nil))) (blkOk_by (N := N_is_letter) (sc := defScope s_is_letter) (by decide +kernel)) (fun _ _ _ _ _ => (pgTupK (K := K) (n := 2) rfl (pgs_cons (pg_name (i := 2) sc_is_letter.nd rfl (.inl rfl)) (pgs_cons (pg_name (i := 3) sc_is_letter.nd rfl (.inl rfl)) pgs_nil)))) (fun _ _ _ _ _ => pts_one (pt_not (pt_val (pe_c (ok_is_number T) hr (by omega) rfl (pa_cons (pv 2) (pa_cons (pe_ix (ixTK (K := K)) (pe_ix (ixDK (K := K) (w := w)) (pe_gc (v := .ref (He.ga K "BOUNDS")) rfl ⟨_, g_BOUNDS T, rfl⟩) (pv 3) (fun _ _ => rfl)) pe_int (fun _ _ => rfl)) (pa_cons (pe_ix (ixTK (K := K)) (pe_ix (ixDK (K := K) (w := w)) (pe_gc (v := .ref (He.ga K "BOUNDS")) rfl ⟨_, g_BOUNDS T, rfl⟩) (pv 3) (fun _ _ => rfl)) pe_int (fun _ _ => rfl)) pa_nil))))))) (fun _ _ _ _ _ => pe_int)) (pe_lst pa_nil) (nomark _))))))), ?_⟩
    rw [st_is_letter]
    obtain ⟨u, hu, ru⟩ := form_at T l
    have h0 : ∀ {H' : Hp}, Same H H' → ∀ {Q' : VK}, Q' (.str l.word) H' → rIxT K (.ref t) (.int 0) H' Q' := fun s _ q => iIxT (sqT_same s hl) (at_of (j := 0) rfl rfl) q
    wtm_at "go"
    refine iIsi (r := true) (tyT hl) (by decide +kernel) ?_
    wtm_at "go"
    intro p np
    have hl1 := sqT_same (same_new (o := .tup []) np) hl
    refine iEqT1 hl1 (SqT.of upd_same) (word_ok l) ?_
    wtm_at "go"
    refine h0 (same_new np) ?_
    wtm_at "go"
    wtm_at "ii"
    wtm_at "go"
    refine h0 (same_new np) ?_
    wtm_at "go"
    refine iNotInKd hu ?_
    wtm_at "go"
    refine h0 (same_new np) ?_
    wtm_at "go"
    refine iIxKd (kd_FORMS T) hu ru ?_
    wtm_at "go"
    have hlen : ((Lt.vs l).length : Int) = (l.form.length : Int) + 1 := by rw [form_len]; simp [Lt.vs]
    have hfl : l.form.length ≤ 6 := by rw [form_len]; cases l <;> simp [Lt.nums]
    refine iLenS (Nat.le_trans hfl (by decide)) ?_
    wtm_at "go"
    refine iteNNo hlen ?_
    wtm_at "go"
    refine iWZ ?_
    wtm_at "go"
    refine iSlA hl1 fun c H2 s2 hc => ?_
    rw [show cutV (Lt.vs l) (some 1) none = l.nums.map V.int from cut_from (n := 1)] at hc
    wtm_at "go"
    refine ⟨c, l.form, _, rfl, hc, fun D nD => ?_⟩
    have hD0 : Same H (upd H2 D (.lst [])) := ((same_new np).trans s2).trans (same_new nD)
    refine eLc (walk_zipTS (xs := l.nums.map V.int) (n := l.nums.length) (by rw [List.length_map, form_size]; omega)) (fun i H' => Same H H' ∧ SqT K H' c (l.nums.map V.int) ∧ H' D = some (.lst [])) ⟨hD0, sqT_same (same_new nD) hc, upd_same⟩ (fun i H' _ h => h.2.1) ?_ ?_
    · rintro i x H3 H4 hi ⟨s3, hc3, hD3⟩ ⟨T', x', ch, rfl, nT, rfl, ex, ec⟩
      rw [List.getElem?_map] at ex
      obtain ⟨m, em, rfl⟩ := Option.map_eq_some_iff.mp ex
      obtain ⟨ba, lo, hi2, b1, b2, b3, b4⟩ := okAt_get (okAt_of T hok) (show l.form.cps.toList[i]? = some ch by simpa using ec) em
      have hp : upd H3 T' (.tup [.int m, .str ⟨#[ch]⟩]) T' = some (.tup [.int m, .str ⟨#[ch]⟩]) := upd_same
      have s4 := same_new (o := .tup [.int m, .str ⟨#[ch]⟩]) nT
      wtm_at "go"
      refine iIxKd (v := .ref ba) (kd_BOUNDS T) b1 rfl ?_
      wtm_at "go"
      refine iIxT (b2 _) (at_of (j := 0) rfl rfl) ?_
      wtm_at "go"
      refine iIxKd (v := .ref ba) (kd_BOUNDS T) b1 rfl ?_
      wtm_at "go"
      refine iIxT (b2 _) (at_of (j := 1) rfl rfl) ?_
      wtm_at "go"
      refine ⟨m, lo, hi2, rfl, ?_⟩
      rw [decide_eq_true b3, decide_eq_true b4]
      wtm_at "go"
      exact ⟨s3.trans s4, sqT_same s4 hc3, s4 _ _ hD3⟩
    · rintro H3 ⟨s3, hc3, hD3⟩
      wtm_at "go"
      intro e ne
      refine iEqDI (ns := []) (ms := []) (SqL.of (same_new ne _ _ hD3)) (SqL.of upd_same) ?_
      exact q _ (s3.trans (same_new ne))
theorem ok_need_letter (T : Tx w K mg) : Cal P w K mg base 3 "need_letter" (spNeed K) [] := by
  refine mk_need_letter T (fun vs H Q E h => ?_) (fun cdv A outer s H vs Q E hr h => ?_)
  · obtain ⟨t, l, rfl, _⟩ := h
    rfl
  · obtain ⟨t, l, rfl, hl, hok, q⟩ := h
    refine ⟨_, (pss_one (ps_if (pt_not (pt_val (pe_c (ok_is_letter T) hr (by omega) rfl (pa_cons (pv 0) pa_nil)))) (pss_one ps_never) pss_nil)), ?_⟩
    rw [st_need_letter]
    wtm_at "go"
    refine ⟨t, l, rfl, hl, hok, fun H1 s1 => ?_⟩
    wtm_at "go"
    exact q _ s1
end

/-! ### texts: plain -/
abbrev sx (n : Int) : Str := Str.ofString (toString n)
theorem rng {p : Int → Bool} (h : ((List.range 41).all fun k => p ((k : Int) - 20)) = true) {n : Int} (h1 : -20 ≤ n) (h2 : n ≤ 20) : p n = true := by
  have := List.all_eq_true.mp h (n + 20).toNat (List.mem_range.mpr (by omega))
  rw [show (((n + 20).toNat : Nat) : Int) - 20 = n by omega] at this
  exact this
def figs (n : Int) : Str := sx (n.natAbs : Int)
def fig0 (n : Int) : Nat := (figs n).cps.toList.headD 0
theorem nt_neg {n : Int} (h1 : -20 ≤ n) (h2 : n ≤ 20) : (if n < 0 then decide (Txt.slice (sx n) none (some 1) = "-") && decide (Txt.slice (sx n) (some 1) none = figs n) else !decide (Txt.slice (sx n) none (some 1) = "-") && decide (sx n = figs n)) = true := rng (p := fun n => if n < 0 then decide (Txt.slice (sx n) none (some 1) = "-") && decide (Txt.slice (sx n) (some 1) none = figs n) else !decide (Txt.slice (sx n) none (some 1) = "-") && decide (sx n = figs n)) (by decide +kernel) h1 h2
theorem nt_len {n : Int} (h1 : -20 ≤ n) (h2 : n ≤ 20) : (decide (1 ≤ (figs n).length) && decide ((figs n).length ≤ 2) && decide ((sx n).length ≤ 3)) = true := rng (p := fun n => decide (1 ≤ (figs n).length) && decide ((figs n).length ≤ 2) && decide ((sx n).length ≤ 3)) (by decide +kernel) h1 h2
theorem nt_dig {n : Int} (h1 : -20 ≤ n) (h2 : n ≤ 20) : ((figs n).cps.toList.all fun c => !(Builtin.Str.occurrences "0123456789" ⟨#[c]⟩ 0 10 1).isEmpty) = true := rng (p := fun n => (figs n).cps.toList.all fun c => !(Builtin.Str.occurrences "0123456789" ⟨#[c]⟩ 0 10 1).isEmpty) (by decide +kernel) h1 h2
theorem nt_0 {n : Int} (h1 : -20 ≤ n) (h2 : n ≤ 20) : (decide (atI (figs n).cps.toList 0 = some (fig0 n)) && (!decide ((⟨#[fig0 n]⟩ : Str) = "0") || decide (sx n = "0")) && decide (PySem.intText? (sx n) = some n)) = true := rng (p := fun n => decide (atI (figs n).cps.toList 0 = some (fig0 n)) && (!decide ((⟨#[fig0 n]⟩ : Str) = "0") || decide (sx n = "0")) && decide (PySem.intText? (sx n) = some n)) (by decide +kernel) h1 h2
theorem nt_free {n : Int} (h1 : -20 ≤ n) (h2 : n ≤ 20) : (!((sx n).cps.toList.contains 32) && !((sx n).cps.toList.contains 10)) = true := rng (p := fun n => !((sx n).cps.toList.contains 32) && !((sx n).cps.toList.contains 10)) (by decide +kernel) h1 h2
def spNumberOf : Sp := fun vs H Q _ => ∃ n : Int, vs = [.str (sx n)] ∧ -20 ≤ n ∧ n ≤ 20 ∧ ∀ H', Same H H' → Q (.int n) H'
section
variable {P : Program} {w : World} {K : PySem.W.Frag} {mg : Str → Option Value} {base : Heap}
theorem ok_number_of (T : Tx w K mg) : Cal P w K mg base 1 "number_of" spNumberOf [] := by
  refine mk_number_of T (fun vs H Q E h => ?_) (fun cdv A outer s H vs Q E hr h => ?_)
  · obtain ⟨n, rfl, _⟩ := h
    rfl
  · obtain ⟨n, rfl, h1, h2, q⟩ := h
    refine ⟨_, (pss_cons (ps_set (i := 1) sc_number_of.nd rfl (.inl rfl) (pe_ifExp (pt_cmpR op_eq (pe_slice sl_txt (pv 0) po_none (po_some pe_int)) pe_str (nomark _)) (pe_slice sl_txt (pv 0) (po_some pe_int) po_none) (pv 0)))
  (pss_cons (ps_if (PW.pt (pw_or (pt_not (pt_chain op_le op_le pe_int (pe_callB c_lenS (by rfl) (f_len T) (by decide +kernel) (pa_cons (pv 1) pa_nil)) (pe_gc rfl (int_MOST_FIGURES T)))) (pw_or1 (pt_cmpR (op_neD hr.units) (pe_lc (own := [("sign", 2)]) rfl sc_number_of.nd (pi_str (pv 1)) (blkOk_by (N := N_number_of) (sc := defScope s_number_of) (by decide +kernel)) (fun _ _ _ _ _ => (pg_name (i := 2) sc_number_of.nd rfl (.inl rfl))) (fun _ _ _ _ _ => pts_one (pt_cmpR o_notInS (pv 2) (pe_gc rfl (str_FIGURES T)) (by rfl))) (fun _ _ _ _ _ => (pv 2))) (pe_lst pa_nil) (nomark _))))) (pss_one (ps_ret pe_non)) pss_nil)
  (pss_one (ps_ret (pe_ifExp (PW.pt (pw_and (pt_cmpR op_eq (pe_ix ix_str (pv 1) pe_int (fun _ _ => rfl)) pe_str (nomark _)) (pw_and1 (pt_cmpR op_ne (pv 0) pe_str (nomark _))))) pe_non (pe_callTy c_int (by rfl) (f_int T) (by decide +kernel) (pa_cons (pv 0) pa_nil))))))), ?_⟩
    rw [st_number_of]
    have a1 := nt_neg h1 h2
    have a2 := nt_len h1 h2
    have a3 := nt_dig h1 h2
    have a4 := nt_0 h1 h2
    simp only [Bool.and_eq_true, decide_eq_true_eq, Bool.or_eq_true, Bool.not_eq_true', decide_eq_false_iff_not] at a2 a4
    obtain ⟨⟨a21, a22⟩, a23⟩ := a2
    obtain ⟨⟨a41, a42⟩, a43⟩ := a4
    have hz : (sx n).length ≤ sizeLine := Nat.le_trans a23 (by decide)
    have hf : (figs n).length ≤ sizeLine := Nat.le_trans a22 (by decide)
    wtm_at "go"
    refine iIfK (fun v H' => v = .str (figs n) ∧ H' = H) (fun Q' k' => ?_) (fun v H2 hv => ?_)
    · wtm_at "go"
      refine iSlX hz ?_
      wtm_at "go"
      by_cases hn : n < 0
      · rw [if_pos hn] at a1
        simp only [Bool.and_eq_true, decide_eq_true_eq] at a1
        refine iteYes a1.1 ?_
        wtm_at "go"
        refine iSlX hz ?_
        rw [a1.2]
        exact k' _ _ ⟨rfl, rfl⟩
      · rw [if_neg hn] at a1
        simp only [Bool.and_eq_true, decide_eq_true_eq, Bool.not_eq_true', decide_eq_false_iff_not] at a1
        refine iteNo a1.1 ?_
        wtm_at "go"
        exact k' _ _ ⟨by rw [a1.2], rfl⟩
    · obtain ⟨rfl, rfl⟩ := hv
      wtm_at "go"
      refine iLenS hf ?_
      wtm_at "go"
      refine iteYes (by omega) ?_
      wtm_at "go"
      refine iteNNo (by omega) ?_
      wtm_at "go"
      intro D nD
      refine eLc (walk_str (z := figs n)) (fun i H' => Same H2 H' ∧ H' D = some (.lst [])) ⟨same_new nD, upd_same⟩ (fun _ _ _ _ => trivial) ?_ ?_
      · rintro i x H3 H4 hi ⟨s3, hD⟩ ⟨rfl, c, ec, rfl⟩
        wtm_at "go"
        have := List.all_eq_true.mp a3 c (List.mem_of_getElem? (show (figs n).cps.toList[i]? = some c by simpa using ec))
        refine iNotInS ?_
        rw [show ((Str.ofString "0123456789").length) = 10 by decide, this]
        wtm_at "go"
        exact ⟨s3, hD⟩
      · rintro H3 ⟨s3, hD⟩
        wtm_at "go"
        intro e ne
        refine iNeDI (ns := []) (ms := []) (SqL.of (same_new ne _ _ hD)) (SqL.of upd_same) ?_
        have s4 := s3.trans (same_new (o := .lst []) ne)
        wtm_at "go"
        refine iteNNo rfl ?_
        wtm_at "go"
        refine iIf ?_
        wtm_at "go"
        refine iIxS hf a41 ?_
        wtm_at "go"
        first | refine iteD (fun e0 => ?_) (fun e0 => ?_) | refine iteN (fun e0 => ?_) (fun e0 => ?_) | refine ite2 (fun e0 => ?_) (fun e0 => ?_)
        · have hx : sx n = "0" := a42.resolve_left fun z => z e0
          wtm_at "go"
          refine iteNNo hx ?_
          wtm_at "go"
          refine iIntS a43 (by omega) ?_
          exact q _ s4
        · wtm_at "go"
          refine iIntS a43 (by omega) ?_
          exact q _ s4
end

theorem nums_ok {l : Lt} (h : l.ok) : ∀ n ∈ l.nums, -20 ≤ n ∧ n ≤ 20 := by
  cases l with
  | size n a b => obtain ⟨⟨h1, h2⟩, ⟨h3, h4⟩, h5, h6⟩ := h; intro x hx; simp [Lt.nums] at hx; omega
  | paint n a b c d e => obtain ⟨⟨h1, h2⟩, ⟨h3, h4⟩, ⟨h5, h6⟩, ⟨h7, h8⟩, ⟨h9, ha⟩, hb, hc⟩ := h; intro x hx; simp [Lt.nums] at hx; omega
  | place n a b => obtain ⟨⟨h1, h2⟩, ⟨h3, h4⟩, h5, h6⟩ := h; intro x hx; simp [Lt.nums] at hx; omega
  | rank n a => obtain ⟨⟨h1, h2⟩, h3, h4⟩ := h; intro x hx; simp [Lt.nums] at hx; omega
  | tie n a => obtain ⟨⟨h1, h2⟩, h3, h4⟩ := h; intro x hx; simp [Lt.nums] at hx; omega
  | lt => intro x hx; cases hx
  | _ => obtain ⟨h1, h2⟩ := h; intro x hx; simp [Lt.nums] at hx; omega
theorem nums_len (l : Lt) : l.nums.length ≤ 6 := by cases l <;> simp [Lt.nums]
def wtx (l : Lt) : List Str := l.word :: l.nums.map sx
def spLetterOf (K : PySem.W.Frag) : Sp := fun vs H Q _ => ∃ a l, vs = [.ref a] ∧ SqL K H a ((wtx l).map V.str) ∧ l.ok ∧ ∀ H' t, Same H H' → SqT K H' t l.vs → Q (.ref t) H'
section
variable {P : Program} {w : World} {K : PySem.W.Frag} {mg : Str → Option Value} {base : Heap}
theorem ok_letter_of (T : Tx w K mg) : Cal P w K mg base 3 "letter_of" (spLetterOf K) [] := by
  refine mk_letter_of T (fun vs H Q E h => ?_) (fun cdv A outer s H vs Q E hr h => ?_)
  · obtain ⟨a, l, rfl, _⟩ := h
    rfl
  · obtain ⟨a, l, rfl, hl, hok, q⟩ := h
    refine ⟨_, (pss_cons (ps_if (pt_cmpR (op_notInKd (kd_FORMS T)) (pe_ix ix_list (pv 0) pe_int (fun _ _ => rfl)) (pe_gc (v := .ref (He.ga K "FORMS")) rfl ⟨_, g_FORMS T, rfl⟩) (by rfl)) (pss_one (ps_ret pe_non)) pss_nil)
  (pss_cons (ps_set (i := 1) sc_letter_of.nd rfl (.inl rfl) (pe_op op_catA (pe_tup (pa_cons (pe_ix ix_list (pv 0) pe_int (fun _ _ => rfl)) pa_nil)) (pe_callTy c_tuple (by rfl) (f_tuple T) (by decide +kernel) (pa_cons (pe_lc (own := [("word", 2)]) rfl sc_letter_of.nd (pi_list (pe_slice sl_list (pv 0) (po_some pe_int) po_none)) (blkOk_by (N := N_letter_of) (sc := defScope s_letter_of) (by decide +kernel)) (fun _ _ _ _ _ => (pg_name (i := 2) sc_letter_of.nd rfl (.inl rfl))) (fun _ _ _ _ _ => pts_nil) (fun _ _ _ _ _ => (pe_c (ok_number_of T) hr (by omega) rfl (pa_cons (pv 2) pa_nil)))) pa_nil))))
  (pss_one (ps_ret (pe_ifExp (pt_val (pe_c (ok_is_letter T) hr (by omega) rfl (pa_cons (pv 1) pa_nil))) (pv 1) pe_non))))), ?_⟩
    rw [st_letter_of]
    obtain ⟨u, hu, ru⟩ := form_at T l
    wtm_at "go"
    refine iIxL hl (at_of (j := 0) rfl rfl) ?_
    wtm_at "go"
    refine iNotInKd hu ?_
    wtm_at "go"
    refine iIxL hl (at_of (j := 0) rfl rfl) ?_
    wtm_at "go"
    intro w1 nw1
    have hw1 : upd H w1 (.tup [.str l.word]) w1 = some (.tup [.str l.word]) := upd_same
    have s1 := same_new (o := .tup [.str l.word]) nw1
    generalize upd H w1 (.tup [.str l.word]) = H1 at hw1 s1
    have hl1 : SqL K H1 a ((wtx l).map V.str) := (Fr.same (S := []) s1).sqL hl (by simp)
    wtm_at "go"
    refine iSlL hl1 fun p np => ?_
    rw [show cutV ((wtx l).map V.str) (some 1) none = (l.nums.map sx).map V.str from cut_from (n := 1)]
    wtm_at "go"
    intro D nD
    have hp : upd H1 p (.lst ((l.nums.map sx).map V.str)) p = some (.lst ((l.nums.map sx).map V.str)) := upd_same
    have s2 := (same_new (o := .lst ((l.nums.map sx).map V.str)) np)
    generalize upd H1 p (.lst ((l.nums.map sx).map V.str)) = H2 at hp s2 nD
    have hpD : p ≠ D := ne_of_none hp nD
    refine eLcL (xs := (l.nums.map sx).map V.str) (fun i H' => Fr [D] H2 H' ∧ H' D = some (.lst ((l.nums.take i).map V.int))) ⟨Fr.new nD, upd_same⟩ (fun i H' _ h => SqL.of (h.1.at_ _ _ hp (by simpa using hpD))) ?_ ?_
    · rintro i x H3 ex ⟨f3, hD⟩
      rw [List.map_map, List.getElem?_map] at ex
      obtain ⟨m, em, rfl⟩ := Option.map_eq_some_iff.mp ex
      have hm := nums_ok hok m (List.mem_of_getElem? em)
      wtm_at "go"
      refine ⟨m, rfl, hm.1, hm.2, fun H4 s4 => ?_⟩
      refine ⟨_, s4 _ _ hD, ?_, (f3.trans (Fr.same s4)).trans (Fr.set (s4 _ _ hD) rfl (by simp)), ?_⟩
      · rw [List.length_map]
        exact Nat.lt_of_le_of_lt (Nat.le_trans (List.length_take_le' ..) (nums_len l)) (by decide)
      · rw [upd_same, take_succ em, List.map_append]
        rfl
    · rintro H3 ⟨f3, hD⟩
      rw [List.length_map, List.length_map, List.take_of_length_le (Nat.le_refl _)] at hD
      wtm_at "go"
      refine iTupL (SqL.of hD) fun t2 nt2 => ?_
      have f4 : Fr [D] H2 (upd H3 t2 (.tup (l.nums.map V.int))) := f3.trans (Fr.new nt2)
      have ht2 : upd H3 t2 (.tup (l.nums.map V.int)) t2 = some (.tup (l.nums.map V.int)) := upd_same
      generalize upd H3 t2 (.tup (l.nums.map V.int)) = H4 at f4 ht2
      have hw4 := f4.tu _ _ (s2 _ _ hw1)
      refine iCatA (SqT.of hw4) (SqT.of ht2) ?_ fun c H5 s5 hc => ?_
      · have := nums_len l
        rw [List.length_map]
        exact Nat.le_trans (show _ ≤ 7 by simp; omega) (by decide)
      · have hc : SqT K H5 c l.vs := hc
        have fin : Same H H5 := fun x o e => s5 _ _ (f4.at_ _ _ (s2 _ _ (s1 _ _ e)) fun z => by
          rw [List.mem_singleton.mp z] at e
          rw [s2 _ _ (s1 _ _ e)] at nD
          cases nD)
        wtm_at "go"
        refine iIf ?_
        wtm_at "go"
        refine ⟨c, l, rfl, hc, hok, fun H6 s6 => ?_⟩
        wtm_at "go"
        exact q _ c (fin.trans s6) (sqT_same s6 hc)
end

def toks (k : Nat) (l : Lt) : List Str := sx (k : Int) :: wtx l
def line (k : Nat) (l : Lt) : Str := Txt.join " " (toks k l)
def linesTo (bs : List (List Lt)) (i : Nat) : List Str := (List.range i).flatMap fun k => (bs.getD k []).map (line k)
def text (bs : List (List Lt)) : Str := Txt.join "\n" (linesTo bs bs.length)
theorem linesTo_succ (bs : List (List Lt)) (i : Nat) : linesTo bs (i + 1) = linesTo bs i ++ (bs.getD i []).map (line i) := by
  unfold linesTo
  rw [List.range_succ, List.flatMap_append]
  simp
theorem sx_len {n : Int} (h1 : -20 ≤ n) (h2 : n ≤ 20) : (sx n).length ≤ 3 := by
  have a2 := nt_len h1 h2
  simp only [Bool.and_eq_true, decide_eq_true_eq] at a2
  exact a2.2
theorem word_len (l : Lt) : l.word.length ≤ 6 := by cases l <;> (simp only [Lt.word]; decide)
theorem toks_sum {k : Nat} (hk : k ≤ 20) {l : Lt} (h : l.ok) : ((toks k l).map (·.length)).sum + (toks k l).length * 1 ≤ 35 := by
  have h1 := sx_len (n := (k : Int)) (by omega) (by omega)
  have h2 := word_len l
  have h3 := nums_len l
  have h4 : ∀ ns : List Int, (∀ n ∈ ns, -20 ≤ n ∧ n ≤ 20) → ((ns.map sx).map (·.length)).sum ≤ 3 * ns.length := fun ns => by
    induction ns with
    | nil => intro _; exact Nat.le_refl _
    | cons n ns ih =>
      intro hn
      have a := ih fun m hm => hn m (List.mem_cons_of_mem _ hm)
      have b := sx_len (hn n (List.mem_cons_self ..)).1 (hn n (List.mem_cons_self ..)).2
      simp only [List.map_cons, List.sum_cons, List.length_cons]
      omega
  have h5 := h4 l.nums (nums_ok h)
  unfold toks wtx
  simp only [List.map_cons, List.sum_cons, List.length_cons, List.length_map] at h5 ⊢
  omega
theorem join_len (sep : Str) : ∀ ys : List Str, (Txt.join sep ys).length ≤ (ys.map (·.length)).sum + ys.length * sep.length
  | [] => by rw [TL.join_eq]; exact Nat.zero_le _
  | [x] => by
    rw [TL.join_eq]
    show x.length ≤ _
    simp
  | x :: y :: r => by
    have ih := join_len sep (y :: r)
    rw [TL.join_eq] at ih ⊢
    show (x ++ sep ++ Str.join sep (y :: r)).length ≤ _
    rw [Str.length_append, Str.length_append]
    simp only [List.map_cons, List.sum_cons, List.length_cons] at ih ⊢
    rw [Nat.succ_mul]
    omega
theorem line_len {k : Nat} (hk : k ≤ 20) {l : Lt} (h : l.ok) : (line k l).length ≤ 35 := Nat.le_trans (join_len _ _) (toks_sum hk h)
theorem lines_mem {bs : List (List Lt)} {i : Nat} {x : Str} (h : x ∈ linesTo bs i) : ∃ k l, k < i ∧ l ∈ bs.getD k [] ∧ x = line k l := by
  unfold linesTo at h
  obtain ⟨k, hk, h⟩ := List.mem_flatMap.mp h
  obtain ⟨l, hl, rfl⟩ := List.mem_map.mp h
  exact ⟨k, l, List.mem_range.mp hk, hl, rfl⟩
theorem lines_cnt {bs : List (List Lt)} (hb : ∀ b ∈ bs, b.length ≤ 40) : ∀ i, (linesTo bs i).length ≤ 40 * i
  | 0 => Nat.le_refl _
  | i + 1 => by
    have ih := lines_cnt hb i
    rw [linesTo_succ, List.length_append, List.length_map]
    have : (bs.getD i []).length ≤ 40 := by
      rw [List.getD_eq_getElem?_getD]
      cases e : bs[i]? with
      | none => exact Nat.zero_le _
      | some b => exact hb b (List.mem_of_getElem? e)
    omega
structure BkOk (bs : List (List Lt)) : Prop where
  le : bs.length ≤ 5
  each : ∀ b ∈ bs, b.length ≤ 40
  ok : ∀ b ∈ bs, ∀ l ∈ b, Lt.ok l
theorem BkOk.at {bs : List (List Lt)} (h : BkOk bs) {k : Nat} {l : Lt} (hl : l ∈ bs.getD k []) : l.ok := by
  rw [List.getD_eq_getElem?_getD] at hl
  cases e : bs[k]? with
  | none => rw [e] at hl; cases hl
  | some b => rw [e] at hl; exact h.ok b (List.mem_of_getElem? e) l hl
theorem lines_sum {bs : List (List Lt)} (h : BkOk bs) : ((linesTo bs bs.length).map (·.length)).sum + (linesTo bs bs.length).length * 1 ≤ 7200 := by
  have h1 := lines_cnt h.each bs.length
  have h2 := h.le
  have h3 : ∀ ys : List Str, (∀ y ∈ ys, y.length ≤ 35) → (ys.map (·.length)).sum ≤ 35 * ys.length := fun ys => by
    induction ys with
    | nil => intro _; exact Nat.le_refl _
    | cons n ns ih =>
      intro hn
      have a := ih fun m hm => hn m (List.mem_cons_of_mem _ hm)
      have b := hn n (List.mem_cons_self ..)
      simp only [List.map_cons, List.sum_cons, List.length_cons]
      omega
  have h4 := h3 (linesTo bs bs.length) fun y hy => by
    obtain ⟨k, l, hk, hl, rfl⟩ := lines_mem hy
    exact line_len (by omega) (h.at hl)
  omega
theorem text_len {bs : List (List Lt)} (h : BkOk bs) : (text bs).length ≤ 7200 := Nat.le_trans (join_len _ _) (lines_sum h)

/-! ### what a text reads as: plain -/
def step (B : List (List Lt)) (p : Nat × Lt) : List (List Lt) :=
  let B' := B ++ List.replicate (p.1 + 1 - B.length) []
  B'.set p.1 (B'.getD p.1 [] ++ [p.2])
def rd (ps : List (Nat × Lt)) : List (List Lt) := ps.foldl step []
def pairsTo (bs : List (List Lt)) (i : Nat) : List (Nat × Lt) := (List.range i).flatMap fun k => (bs.getD k []).map fun l => (k, l)
def manyTo (bs : List (List Lt)) : Nat → Nat
  | 0 => 0
  | i + 1 => if bs.getD i [] = [] then manyTo bs i else i + 1
theorem pairsTo_succ (bs : List (List Lt)) (i : Nat) : pairsTo bs (i + 1) = pairsTo bs i ++ (bs.getD i []).map fun l => (i, l) := by
  unfold pairsTo
  rw [List.range_succ, List.flatMap_append]
  simp
theorem lines_pairs (bs : List (List Lt)) (i : Nat) : linesTo bs i = (pairsTo bs i).map fun p => line p.1 p.2 := by
  unfold linesTo pairsTo
  rw [List.map_flatMap]
  congr 1
  funext k
  rw [List.map_map]
  rfl
theorem manyTo_le (bs : List (List Lt)) : ∀ i, manyTo bs i ≤ i
  | 0 => Nat.le_refl _
  | i + 1 => by
    unfold manyTo
    split
    · exact Nat.le_succ_of_le (manyTo_le bs i)
    · exact Nat.le_refl _
theorem manyTo_nil (bs : List (List Lt)) : ∀ i k, manyTo bs i ≤ k → k < i → bs.getD k [] = []
  | 0, k, _, h => by omega
  | i + 1, k, h1, h2 => by
    unfold manyTo at h1
    split at h1
    · by_cases e : k = i
      · subst e; assumption
      · exact manyTo_nil bs i k h1 (by omega)
    · omega
theorem step_len (B : List (List Lt)) (p : Nat × Lt) : (step B p).length = max B.length (p.1 + 1) := by
  unfold step
  rw [List.length_set, List.length_append, List.length_replicate]
  omega
theorem foldl_len {k : Nat} : ∀ (ps : List (Nat × Lt)) (B : List (List Lt)), B.length ≤ k + 1 → (∀ p ∈ ps, p.1 ≤ k) → (ps.foldl step B).length ≤ k + 1
  | [], _, h, _ => h
  | p :: ps, B, h, hp => by
    rw [List.foldl_cons]
    refine foldl_len ps _ ?_ fun q hq => hp q (List.mem_cons_of_mem _ hq)
    rw [step_len]
    have := hp p (List.mem_cons_self ..)
    omega
theorem rd_len {k : Nat} {ps : List (Nat × Lt)} (h : ∀ p ∈ ps, p.1 ≤ k) : (rd ps).length ≤ k + 1 := foldl_len ps [] (Nat.zero_le _) h
theorem fold_each : ∀ (ps : List (Nat × Lt)) (B : List (List Lt)) (m : Nat), (∀ b ∈ B, b.length ≤ m) → ∀ b ∈ ps.foldl step B, b.length ≤ m + ps.length
  | [], _, m, h, b, hb => h b hb
  | p :: ps, B, m, h, b, hb => by
    rw [List.foldl_cons] at hb
    have := fold_each ps (step B p) (m + 1) (fun x hx => ?_) b hb
    · rw [List.length_cons]; omega
    · have h0 : ∀ y ∈ B ++ List.replicate (p.1 + 1 - B.length) [], y.length ≤ m := fun y hy => by
        rcases List.mem_append.mp hy with hy | hy
        · exact h y hy
        · rw [(List.mem_replicate.mp hy).2]; exact Nat.zero_le _
      unfold step at hx
      rcases List.mem_or_eq_of_mem_set hx with hx | hx
      · exact Nat.le_succ_of_le (h0 x hx)
      · rw [hx, List.length_append, List.getD_eq_getElem?_getD]
        cases e : (B ++ List.replicate (p.1 + 1 - B.length) [])[p.1]? with
        | none => simp
        | some y => exact Nat.succ_le_succ (h0 y (List.mem_of_getElem? e))
theorem rd_each (ps : List (Nat × Lt)) : ∀ b ∈ rd ps, b.length ≤ ps.length := fun b hb => by
  have := fold_each ps [] 0 (fun _ h => nomatch h) b hb
  omega
theorem pairs_lt {bs : List (List Lt)} {i : Nat} {p : Nat × Lt} (h : p ∈ pairsTo bs i) : p.1 < i ∧ p.2 ∈ bs.getD p.1 [] := by
  unfold pairsTo at h
  obtain ⟨k, hk, h⟩ := List.mem_flatMap.mp h
  obtain ⟨l, hl, rfl⟩ := List.mem_map.mp h
  exact ⟨List.mem_range.mp hk, hl⟩
theorem pairs_sorted (bs : List (List Lt)) : ∀ i, (pairsTo bs i).Pairwise fun p q => p.1 ≤ q.1
  | 0 => List.Pairwise.nil
  | i + 1 => by
    rw [pairsTo_succ, List.pairwise_append]
    refine ⟨pairs_sorted bs i, ?_, fun p hp q hq => ?_⟩
    · rw [List.pairwise_map]
      exact List.pairwise_of_forall fun _ _ => Nat.le_refl _
    · obtain ⟨l, _, rfl⟩ := List.mem_map.mp hq
      exact Nat.le_of_lt (pairs_lt hp).1
theorem pairs_before {bs : List (List Lt)} {i n : Nat} {p : Nat × Lt} (h : (pairsTo bs i)[n]? = some p) : ∀ q ∈ (pairsTo bs i).take n, q.1 ≤ p.1 := fun q hq => by
  obtain ⟨hn, e⟩ := List.getElem?_eq_some_iff.mp h
  obtain ⟨m, hm, e2⟩ := List.getElem_of_mem hq
  rw [List.length_take] at hm
  rw [List.getElem_take] at e2
  have := List.pairwise_iff_getElem.mp (pairs_sorted bs i) m n (by omega) hn (by omega)
  rw [e, e2] at this
  exact this
theorem step_at {A : List (List Lt)} {x : List Lt} {i : Nat} {l : Lt} (h : A.length = i) : step (A ++ [x]) (i, l) = A ++ [x ++ [l]] := by
  subst h
  unfold step
  simp
theorem fold_at {A : List (List Lt)} {i : Nat} (h : A.length = i) : ∀ (ls : List Lt) (x : List Lt), (ls.map fun l => (i, l)).foldl step (A ++ [x]) = A ++ [x ++ ls]
  | [], x => by simp
  | l :: ls, x => by
    rw [List.map_cons, List.foldl_cons, step_at h, fold_at h ls]
    simp
theorem rd_pairs (bs : List (List Lt)) : ∀ i, i ≤ bs.length → rd (pairsTo bs i) = bs.take (manyTo bs i)
  | 0, _ => rfl
  | i + 1, hi => by
    have ih := rd_pairs bs i (by omega)
    unfold rd at ih ⊢
    rw [pairsTo_succ, List.foldl_append, ih, show manyTo bs (i + 1) = if bs.getD i [] = [] then manyTo bs i else i + 1 from rfl]
    have hget : bs[i]? = some (bs.getD i []) := by rw [List.getD_eq_getElem?_getD, List.getElem?_eq_getElem (by omega)]; rfl
    split
    · next e => rw [e]; rfl
    · next e =>
      rw [take_succ hget]
      generalize hb : bs.getD i [] = b at e
      cases b with
      | nil => exact absurd rfl e
      | cons l ls =>
        rw [List.map_cons, List.foldl_cons]
        have hm := manyTo_le bs i
        have hlen : (bs.take (manyTo bs i)).length = manyTo bs i := by rw [List.length_take]; omega
        have e1 : bs.take (manyTo bs i) ++ List.replicate (i + 1 - manyTo bs i) [] = bs.take i ++ [[]] := by
          apply List.ext_getElem?
          intro k
          by_cases h1 : k < manyTo bs i
          · rw [List.getElem?_append_left (by omega), List.getElem?_append_left (by rw [List.length_take]; omega), List.getElem?_take_of_lt h1, List.getElem?_take_of_lt (by omega)]
          · rw [List.getElem?_append_right (by omega), hlen]
            by_cases h2 : k < i
            · have := manyTo_nil bs i k (by omega) h2
              rw [List.getElem?_append_left (by rw [List.length_take]; omega), List.getElem?_take_of_lt h2, List.getElem?_replicate, if_pos (by omega)]
              rw [List.getD_eq_getElem?_getD, List.getElem?_eq_getElem (by omega)] at this
              rw [List.getElem?_eq_getElem (by omega)]
              exact congrArg some this.symm
            · rw [List.getElem?_append_right (by rw [List.length_take]; omega), List.length_take, Nat.min_eq_left (by omega)]
              by_cases h3 : k = i
              · subst h3
                rw [List.getElem?_replicate, if_pos (by omega), Nat.sub_self]
                rfl
              · rw [List.getElem?_replicate, if_neg (by omega), List.getElem?_eq_none (by simp; omega)]
        have e2 : step (bs.take (manyTo bs i)) (i, l) = bs.take i ++ [[l]] := by
          unfold step
          dsimp only
          rw [hlen, e1]
          have hl : (bs.take i).length = i := by rw [List.length_take]; omega
          simp [hl]
        rw [e2, fold_at (by rw [List.length_take]; omega)]
        rfl
def trim (bs : List (List Lt)) : List (List Lt) := bs.take (manyTo bs bs.length)
theorem joinL_free {s c : Nat} (h : c ≠ s) : ∀ {parts : List (List Nat)}, (∀ p ∈ parts, c ∉ p) → c ∉ TL.joinL [s] parts
  | [], _ => by simp [TL.joinL]
  | [p], hp => hp p (List.mem_cons_self ..)
  | p :: q :: r, hp => by
    show c ∉ p ++ ([s] ++ TL.joinL [s] (q :: r))
    have ih := joinL_free h (parts := q :: r) fun z hz => hp z (List.mem_cons_of_mem _ hz)
    have := hp p (List.mem_cons_self ..)
    simp only [List.mem_append, List.mem_singleton]
    rintro (z | z | z)
    · exact this z
    · exact h z
    · exact ih z
theorem sx_free {n : Int} (h1 : -20 ≤ n) (h2 : n ≤ 20) : 32 ∉ (sx n).cps.toList ∧ 10 ∉ (sx n).cps.toList := by
  have := nt_free h1 h2
  simp only [Bool.and_eq_true, Bool.not_eq_true', List.contains_eq_mem, decide_eq_false_iff_not] at this
  exact this
theorem word_free (l : Lt) : 32 ∉ l.word.cps.toList ∧ 10 ∉ l.word.cps.toList := by cases l <;> (simp only [Lt.word]; decide +kernel)
theorem toks_free {k : Nat} (hk : k ≤ 20) {l : Lt} (h : l.ok) : ∀ p ∈ toks k l, 32 ∉ p.cps.toList ∧ 10 ∉ p.cps.toList := fun p hp => by
  rcases List.mem_cons.mp hp with e | hp
  · rw [e]; exact sx_free (by omega) (by omega)
  · rcases List.mem_cons.mp hp with e | hp
    · rw [e]; exact word_free l
    · obtain ⟨n, hn, rfl⟩ := List.mem_map.mp hp
      exact sx_free (nums_ok h n hn).1 (nums_ok h n hn).2
theorem split_line {k : Nat} (hk : k ≤ 20) {l : Lt} (h : l.ok) : Txt.split (line k l) " " = toks k l :=
  TL.split_join (s := 32) (S := []) (by decide +kernel) (by decide +kernel) (by simp [toks]) fun p hp => (toks_free hk h p hp).1
theorem line_free {k : Nat} (hk : k ≤ 20) {l : Lt} (h : l.ok) : 10 ∉ (line k l).cps.toList := by
  unfold line
  rw [TL.join_eq]
  show 10 ∉ TL.tl (Str.join " " (toks k l))
  rw [TL.tl_join, show TL.tl (" " : Str) = [32] by decide +kernel]
  refine joinL_free (s := 32) (by decide) fun p hp => ?_
  obtain ⟨z, hz, rfl⟩ := List.mem_map.mp hp
  exact (toks_free hk h z hz).2
theorem split_text {bs : List (List Lt)} (h : BkOk bs) (hne : linesTo bs bs.length ≠ []) : Txt.split (text bs) "\n" = linesTo bs bs.length :=
  TL.split_join (s := 10) (S := []) (by decide +kernel) (by decide +kernel) hne fun p hp => by
    obtain ⟨k, l, hk, hl, rfl⟩ := lines_mem hp
    have := h.le
    exact line_free (by omega) (h.at hl)
theorem text_nil {bs : List (List Lt)} (h : BkOk bs) : text bs = "" ↔ linesTo bs bs.length = [] := by
  constructor
  · intro e
    apply Classical.byContradiction
    intro hne
    have h1 := split_text h hne
    rw [e, show Txt.split "" "\n" = [("" : Str)] by decide +kernel] at h1
    have h2 : ("" : Str) ∈ linesTo bs bs.length := by rw [← h1]; exact List.mem_cons_self ..
    obtain ⟨k, l, hk, hl, e2⟩ := lines_mem h2
    have := h.le
    have h3 := split_line (k := k) (by omega) (h.at hl)
    rw [← e2, show Txt.split "" " " = [("" : Str)] by decide +kernel] at h3
    unfold toks wtx at h3
    simp at h3
  · intro e
    unfold text
    rw [e]
    decide +kernel

/-! ### what any text reads as: plain -/
section
open Classical
theorem rng99 {p : Int → Bool} (h : ((List.range 199).all fun k => p ((k : Int) - 99)) = true) {n : Int} (h1 : -99 ≤ n) (h2 : n ≤ 99) : p n = true := by
  have := List.all_eq_true.mp h (n + 99).toNat (List.mem_range.mpr (by omega))
  rw [show (((n + 99).toNat : Nat) : Int) - 99 = n by omega] at this
  exact this
/-- n's text, by its code points -/
def sxL (n : Int) : List Nat := (sx n).cps.toList
def figL (cs : List Nat) : List Nat := if cs.head? = some 45 then cs.tail else cs
def dig (c : Nat) : Bool := decide (48 ≤ c) && decide (c ≤ 57)
/-- the figures are such as a number's are -/
def figOk (cs : List Nat) : Bool := decide (1 ≤ (figL cs).length) && (decide ((figL cs).length ≤ 2) && ((figL cs).all dig && (decide ((figL cs).head? ≠ some 48) || decide (cs = [48]))))
theorem sx_fig {n : Int} (h1 : -99 ≤ n) (h2 : n ≤ 99) : (figOk (sxL n) && (decide (PySem.intText? (sx n) = some n) && decide ((sxL n).length ≤ 3))) = true := rng99 (p := fun n => figOk (sxL n) && (decide (PySem.intText? (sx n) = some n) && decide ((sxL n).length ≤ 3))) (by decide +kernel) h1 h2
def val1 (neg : Bool) (a : Nat) : Int := if neg then -((a : Int)) else a
theorem one_fig : ((List.range 10).all fun a => decide (sxL (val1 false a) = [48 + a]) && (decide (a = 0) || decide (sxL (val1 true a) = [45, 48 + a]))) = true := by decide +kernel
theorem two_fig : ((List.range 100).all fun a => decide (a < 10) || (decide (sxL (val1 false a) = [48 + a / 10, 48 + a % 10]) && decide (sxL (val1 true a) = [45, 48 + a / 10, 48 + a % 10]))) = true := by decide +kernel
theorem dig_of {c : Nat} (h : dig c = true) : ∃ a, a < 10 ∧ c = 48 + a := by
  unfold dig at h
  rw [Bool.and_eq_true, decide_eq_true_eq, decide_eq_true_eq] at h
  exact ⟨c - 48, by omega, by omega⟩
/-- such figures are a number's -/
theorem fig_sx {cs : List Nat} (h : figOk cs = true) : ∃ n : Int, -99 ≤ n ∧ n ≤ 99 ∧ cs = sxL n := by
  unfold figOk at h
  simp only [Bool.and_eq_true, decide_eq_true_eq, Bool.or_eq_true, List.all_eq_true] at h
  obtain ⟨h1, h2, h3, h4⟩ := h
  have key : ∀ (neg : Bool) (fs : List Nat), 1 ≤ fs.length → fs.length ≤ 2 → (∀ c ∈ fs, dig c = true) → (fs.head? ≠ some 48 ∨ (neg = false ∧ fs = [48])) → ∃ n : Int, -99 ≤ n ∧ n ≤ 99 ∧ (if neg = true then 45 :: fs else fs) = sxL n := by
    intro neg fs a1 a2 a3 a4
    match fs, a1, a2 with
    | [c], _, _ =>
      obtain ⟨a, ha, rfl⟩ := dig_of (a3 _ (List.mem_cons_self ..))
      have q := List.all_eq_true.mp one_fig a (List.mem_range.mpr ha)
      simp only [Bool.and_eq_true, Bool.or_eq_true, decide_eq_true_eq] at q
      refine ⟨val1 neg a, by unfold val1; split <;> omega, by unfold val1; split <;> omega, ?_⟩
      cases neg with
      | false => exact q.1.symm
      | true =>
        refine (q.2.resolve_left fun z => ?_).symm
        subst z
        rcases a4 with a4 | a4
        · exact a4 rfl
        · cases a4.1
    | [c, e], _, _ =>
      obtain ⟨a, ha, rfl⟩ := dig_of (a3 _ (List.mem_cons_self ..))
      obtain ⟨b, hb, rfl⟩ := dig_of (a3 _ (List.mem_cons_of_mem _ (List.mem_cons_self ..)))
      have ne : a ≠ 0 := fun z => by
        subst z
        rcases a4 with a4 | a4
        · exact a4 rfl
        · cases a4.2
      have q := List.all_eq_true.mp two_fig (a * 10 + b) (List.mem_range.mpr (by omega))
      rw [show (a * 10 + b) / 10 = a by omega, show (a * 10 + b) % 10 = b by omega] at q
      simp only [Bool.and_eq_true, Bool.or_eq_true, decide_eq_true_eq] at q
      have q := q.resolve_left (by omega)
      refine ⟨val1 neg (a * 10 + b : Nat), by unfold val1; split <;> omega, by unfold val1; split <;> omega, ?_⟩
      cases neg with
      | false => exact q.1.symm
      | true => exact q.2.symm
  by_cases c : cs.head? = some 45
  · have ef : figL cs = cs.tail := if_pos c
    rw [ef] at h1 h2 h3 h4
    obtain ⟨n, a, b, e⟩ := key true cs.tail h1 h2 h3 (h4.imp id fun z => by rw [z] at c; cases c)
    refine ⟨n, a, b, ?_⟩
    rw [← e, if_pos rfl]
    cases cs with
    | nil => cases c
    | cons x l => cases c; rfl
  · have ef : figL cs = cs := if_neg c
    rw [ef] at h1 h2 h3 h4
    obtain ⟨n, a, b, e⟩ := key false cs h1 h2 h3 (h4.imp id fun z => ⟨rfl, z⟩)
    exact ⟨n, a, b, e⟩
/-- the number that a word writes -/
noncomputable def numT (w : Str) : Option Int := if h : ∃ n : Int, -99 ≤ n ∧ n ≤ 99 ∧ w = sx n then some h.choose else none
theorem str_ext {a b : Str} (h : a.cps.toList = b.cps.toList) : a = b := by
  obtain ⟨x⟩ := a
  obtain ⟨y⟩ := b
  have : x = y := by
    rw [← Array.toArray_toList (xs := x), ← Array.toArray_toList (xs := y)]
    exact congrArg List.toArray h
  rw [this]
theorem numT_none {w : Str} (h : figOk w.cps.toList = false) : numT w = none := dif_neg fun ⟨n, h1, h2, e⟩ => by
  have q := sx_fig h1 h2
  rw [Bool.and_eq_true] at q
  have q1 : figOk w.cps.toList = true := by rw [e]; exact q.1
  rw [h] at q1; cases q1
theorem numT_some {w : Str} (h : figOk w.cps.toList = true) : ∃ n : Int, -99 ≤ n ∧ n ≤ 99 ∧ w = sx n ∧ numT w = some n ∧ PySem.intText? w = some n := by
  obtain ⟨n, h1, h2, e⟩ := fig_sx h
  have ew : w = sx n := str_ext e
  have ex : ∃ n : Int, -99 ≤ n ∧ n ≤ 99 ∧ w = sx n := ⟨n, h1, h2, ew⟩
  have ec := ex.choose_spec
  have q := sx_fig ec.1 ec.2.1
  simp only [Bool.and_eq_true, decide_eq_true_eq] at q
  refine ⟨ex.choose, ec.1, ec.2.1, ec.2.2, dif_pos ex, ?_⟩
  have := q.2.1
  rw [← ec.2.2] at this
  exact this
theorem sx_inj {n m : Int} (h1 : -99 ≤ n) (h2 : n ≤ 99) (h3 : -99 ≤ m) (h4 : m ≤ 99) (e : sx n = sx m) : n = m := by
  have a := sx_fig h1 h2
  have b := sx_fig h3 h4
  simp only [Bool.and_eq_true, decide_eq_true_eq] at a b
  have := a.2.1
  rw [e, b.2.1] at this
  exact (Option.some.inj this).symm
theorem numT_sx {n : Int} (h1 : -99 ≤ n) (h2 : n ≤ 99) : numT (sx n) = some n := by
  have q := sx_fig h1 h2
  rw [Bool.and_eq_true] at q
  obtain ⟨m, a, b, e, e2, _⟩ := numT_some (w := sx n) q.1
  rw [e2, sx_inj h1 h2 a b e]
theorem numT_bd {w : Str} {n : Int} (h : numT w = some n) : -99 ≤ n ∧ n ≤ 99 ∧ w = sx n := by
  unfold numT at h
  split at h
  · next ex => cases h; exact ex.choose_spec
  · cases h
def numV : Option Int → V
  | none => .non
  | some n => .int n
/-- the letter that some words write -/
noncomputable def letT (ws : List Str) : Option Lt := if h : ∃ l : Lt, l.ok ∧ ws = wtx l then some h.choose else none
theorem letT_some {ws : List Str} {l : Lt} (h : letT ws = some l) : l.ok ∧ ws = wtx l := by
  unfold letT at h
  split at h
  · next ex => cases h; exact ex.choose_spec
  · cases h
theorem letT_ok {ws : List Str} (h : ∃ l : Lt, l.ok ∧ ws = wtx l) : ∃ l, letT ws = some l := ⟨_, dif_pos h⟩
theorem letT_no {ws : List Str} (h : ¬ ∃ l : Lt, l.ok ∧ ws = wtx l) : letT ws = none := dif_neg h
/-- a client's number and a letter, by a row's words -/
noncomputable def rowT (ws : List Str) : Option (Nat × Lt) := match numT (ws.headD ""), letT ws.tail with
  | some k, some l => if 0 ≤ k ∧ k < 5 then some (k.toNat, l) else none
  | _, _ => none
/-- the rows read, n of them done, B so far: the first that is none, or all -/
noncomputable def goT : List (List Str) → Nat → List (List Lt) → Except Nat (List (List Lt))
  | [], _, B => .ok B
  | ws :: r, n, B => match rowT ws with
    | some p => if B.length ≤ p.1 + 1 then goT r (n + 1) (step B p) else .error n
    | none => .error n
noncomputable def readT (s : Str) : Except Nat (List (List Lt)) := if s = "" then .ok [] else goT ((Txt.split s "\n").map fun r => Txt.split r " ") 0 []
end

/-! ### numbers, letters: any -/
def optD : Option Int → PyData
  | none => .none
  | some n => .int n
theorem canLay_opts : ∀ os : List (Option Int), PyData.canLayAll0 (os.map optD) = true
  | [] => by simp [PyData.canLayAll0]
  | none :: ns => by simp [PyData.canLayAll0, PyData.canLay0, optD, canLay_opts ns]
  | some n :: ns => by simp [PyData.canLayAll0, PyData.canLay0, optD, canLay_opts ns]
theorem depth_opts : ∀ os : List (Option Int), PyData.depthAll (os.map optD) = 0
  | [] => by simp [PyData.depthAll]
  | none :: ns => by simp [PyData.depthAll, PyData.depth, optD, depth_opts ns]
  | some n :: ns => by simp [PyData.depthAll, PyData.depth, optD, depth_opts ns]
theorem dp_opts {K : PySem.W.Frag} {H : Hp} : ∀ os : List (Option Int), DpAll K H (os.map numV) (os.map optD)
  | [] => .nil
  | none :: ns => .cons .non (dp_opts ns)
  | some n :: ns => .cons (.int n) (dp_opts ns)
theorem iEqT1G {K : PySem.W.Frag} {p q : Addr} {x : Str} {os : List (Option Int)} {H : Hp} {Q : VK} (h : SqT K H p (.str x :: os.map numV)) (h2 : SqT K H q []) (sx : PyData.strOk x = true) (k : Q (.bl false) H) : rEqD K (.ref p) (.ref q) H Q := by
  refine ⟨.tuple (.str x :: os.map optD), .tuple [], .tup h (.cons (.str x) (dp_opts os)), .tup h2 .nil, ?_, by decide, ?_⟩
  · simp [SeqAt.shaped, PyData.canLay0, PyData.canLayAll0, canLay_opts, PyData.depth, PyData.depthAll, depth_opts, sx]
  · rw [show PyData.eqv (.tuple (.str x :: os.map optD)) (.tuple []) = false by simp [PyData.eqv, PyData.eqvAll]]
    exact k
def inO (lo hi : Int) : Option Int → Bool
  | none => false
  | some p => decide (lo ≤ p) && decide (p ≤ hi)
def spIsNumG : Sp := fun vs H Q _ => ∃ (o : Option Int) (lo hi : Int), vs = [numV o, .int lo, .int hi] ∧ Q (.bl (inO lo hi o)) H
/-- a sort's bounds -/
def bdT (c : Nat) : Int × Int := if c = 110 then (0, 9) else if c = 109 then (0, 9) else if c = 87 then (1, 12) else if c = 72 then (1, 8) else if c = 120 then (0, 11) else if c = 121 then (0, 7) else (-20, 20)
def inB (c : Nat) (o : Option Int) : Bool := inO (bdT c).1 (bdT c).2 o
def allB : List Nat → List (Option Int) → Bool
  | c :: cs, o :: os => inB c o && allB cs os
  | [], [] => true
  | _, _ => false
theorem allB_get : ∀ {cs : List Nat} {os : List (Option Int)}, cs.length = os.length → (∀ (i : Nat) c o, cs[i]? = some c → os[i]? = some o → inB c o = true) → allB cs os = true
  | [], [], _, _ => rfl
  | c :: cs, o :: os, hl, h => by
    unfold allB
    rw [h 0 c o rfl rfl, allB_get (by simpa using hl) fun i c' o' a b => h (i + 1) c' o' (by simpa using a) (by simpa using b)]; rfl
theorem allB_of : ∀ {cs : List Nat} {os : List (Option Int)}, allB cs os = true → cs.length = os.length ∧ ∀ (i : Nat) c o, cs[i]? = some c → os[i]? = some o → inB c o = true
  | [], [], _ => ⟨rfl, fun i c o e => by simp at e⟩
  | c :: cs, o :: os, h => by
    unfold allB at h
    rw [Bool.and_eq_true] at h
    obtain ⟨a, b⟩ := allB_of h.2
    refine ⟨congrArg Nat.succ a, fun i c' o' e1 e2 => ?_⟩
    cases i with
    | zero => simp at e1 e2; rw [← e1, ← e2]; exact h.1
    | succ i => exact b i c' o' (by simpa using e1) (by simpa using e2)
  | [], _ :: _, h => by cases h
  | _ :: _, [], h => by cases h
theorem inO_some {lo hi : Int} {o : Option Int} (h : inO lo hi o = true) : ∃ p, o = some p ∧ lo ≤ p ∧ p ≤ hi := by
  cases o with
  | none => cases h
  | some p =>
    unfold inO at h
    rw [Bool.and_eq_true, decide_eq_true_eq, decide_eq_true_eq] at h
    exact ⟨p, rfl, h.1, h.2⟩
/-- such parts make a letter that can be -/
theorem lt_of (l0 : Lt) {os : List (Option Int)} (h : allB l0.form.cps.toList os = true) : ∃ l : Lt, l.ok ∧ l.word = l0.word ∧ os = l.nums.map some := by
  have sp : ∀ {c : Nat} {cs : List Nat} {os : List (Option Int)}, allB (c :: cs) os = true → ∃ p os', os = some p :: os' ∧ ((bdT c).1 ≤ p ∧ p ≤ (bdT c).2) ∧ allB cs os' = true := fun {c cs os} h => by
    cases os with
    | nil => cases h
    | cons o os =>
      unfold allB at h
      rw [Bool.and_eq_true] at h
      obtain ⟨p, rfl, a, b⟩ := inO_some h.1
      exact ⟨p, os, rfl, ⟨a, b⟩, h.2⟩
  have nl : ∀ {os : List (Option Int)}, allB [] os = true → os = [] := fun {os} h => by
    cases os with
    | nil => rfl
    | cons _ _ => cases h
  cases l0 with
  | lt => exact ⟨.lt, trivial, rfl, nl h⟩
  | make n0 => obtain ⟨a, _, rfl, ha, h⟩ := sp (c := 110) (cs := []) h; obtain rfl := nl h; exact ⟨.make a, ha, rfl, rfl⟩
  | drop n0 => obtain ⟨a, _, rfl, ha, h⟩ := sp (c := 110) (cs := []) h; obtain rfl := nl h; exact ⟨.drop a, ha, rfl, rfl⟩
  | veil n0 => obtain ⟨a, _, rfl, ha, h⟩ := sp (c := 110) (cs := []) h; obtain rfl := nl h; exact ⟨.veil a, ha, rfl, rfl⟩
  | unveil n0 => obtain ⟨a, _, rfl, ha, h⟩ := sp (c := 110) (cs := []) h; obtain rfl := nl h; exact ⟨.unveil a, ha, rfl, rfl⟩
  | shw n0 => obtain ⟨a, _, rfl, ha, h⟩ := sp (c := 110) (cs := []) h; obtain rfl := nl h; exact ⟨.shw a, ha, rfl, rfl⟩
  | hold n0 => obtain ⟨a, _, rfl, ha, h⟩ := sp (c := 110) (cs := []) h; obtain rfl := nl h; exact ⟨.hold a, ha, rfl, rfl⟩
  | rank n0 m0 => obtain ⟨a, _, rfl, ha, h⟩ := sp (c := 110) (cs := [109]) h; obtain ⟨b, _, rfl, hb, h⟩ := sp (c := 109) (cs := []) h; obtain rfl := nl h; exact ⟨.rank a b, ⟨ha, hb⟩, rfl, rfl⟩
  | tie n0 m0 => obtain ⟨a, _, rfl, ha, h⟩ := sp (c := 110) (cs := [110]) h; obtain ⟨b, _, rfl, hb, h⟩ := sp (c := 110) (cs := []) h; obtain rfl := nl h; exact ⟨.tie a b, ⟨ha, hb⟩, rfl, rfl⟩
  | size n0 a0 b0 => obtain ⟨a, _, rfl, ha, h⟩ := sp (c := 110) (cs := [87, 72]) h; obtain ⟨b, _, rfl, hb, h⟩ := sp (c := 87) (cs := [72]) h; obtain ⟨c, _, rfl, hc, h⟩ := sp (c := 72) (cs := []) h; obtain rfl := nl h; exact ⟨.size a b c, ⟨ha, hb, hc⟩, rfl, rfl⟩
  | place n0 a0 b0 => obtain ⟨a, _, rfl, ha, h⟩ := sp (c := 110) (cs := [112, 112]) h; obtain ⟨b, _, rfl, hb, h⟩ := sp (c := 112) (cs := [112]) h; obtain ⟨c, _, rfl, hc, h⟩ := sp (c := 112) (cs := []) h; obtain rfl := nl h; exact ⟨.place a b c, ⟨ha, hb, hc⟩, rfl, rfl⟩
  | paint n0 a0 b0 c0 d0 e0 =>
    obtain ⟨a, _, rfl, ha, h⟩ := sp (c := 110) (cs := [120, 121, 87, 72, 109]) h
    obtain ⟨b, _, rfl, hb, h⟩ := sp (c := 120) (cs := [121, 87, 72, 109]) h
    obtain ⟨c, _, rfl, hc, h⟩ := sp (c := 121) (cs := [87, 72, 109]) h
    obtain ⟨d, _, rfl, hd, h⟩ := sp (c := 87) (cs := [72, 109]) h
    obtain ⟨e, _, rfl, he, h⟩ := sp (c := 72) (cs := [109]) h
    obtain ⟨f, _, rfl, hf, h⟩ := sp (c := 109) (cs := []) h
    obtain rfl := nl h
    exact ⟨.paint a b c d e f, ⟨ha, hb, hc, hd, he, hf⟩, rfl, rfl⟩
/-- a letter that can be has such parts -/
theorem all_of {l : Lt} (h : l.ok) : allB l.form.cps.toList (l.nums.map some) = true := by
  have y : ∀ {c : Nat} {cs : List Nat} {p : Int} {os : List (Option Int)}, ((bdT c).1 ≤ p ∧ p ≤ (bdT c).2) → allB cs os = true → allB (c :: cs) (some p :: os) = true := fun {c cs p os} h1 h2 => by
    show ((decide ((bdT c).1 ≤ p) && decide (p ≤ (bdT c).2)) && allB cs os) = true
    rw [decide_eq_true h1.1, decide_eq_true h1.2, h2]; rfl
  cases l with
  | lt => rfl
  | make n => exact y (c := 110) h rfl
  | drop n => exact y (c := 110) h rfl
  | veil n => exact y (c := 110) h rfl
  | unveil n => exact y (c := 110) h rfl
  | shw n => exact y (c := 110) h rfl
  | hold n => exact y (c := 110) h rfl
  | rank n a => exact y (c := 110) h.1 (y (c := 109) h.2 rfl)
  | tie n a => exact y (c := 110) h.1 (y (c := 110) h.2 rfl)
  | size n a b => exact y (c := 110) h.1 (y (c := 87) h.2.1 (y (c := 72) h.2.2 rfl))
  | place n a b => exact y (c := 110) h.1 (y (c := 112) h.2.1 (y (c := 112) h.2.2 rfl))
  | paint n a b c d e => exact y (c := 110) h.1 (y (c := 120) h.2.1 (y (c := 121) h.2.2.1 (y (c := 87) h.2.2.2.1 (y (c := 72) h.2.2.2.2.1 (y (c := 109) h.2.2.2.2.2 rfl)))))
theorem words_of (l : Lt) {l1 : Lt} (h : l.word = l1.word) : l.form = l1.form := by
  cases l <;> cases l1 <;> first | rfl | (exfalso; revert h; simp only [Lt.word]; decide +kernel)

def spIsLetG (K : PySem.W.Frag) : Sp := fun vs H Q _ => ∃ (t : Addr) (l0 : Lt) (os : List (Option Int)), vs = [.ref t] ∧ SqT K H t (.str l0.word :: os.map numV) ∧ os.length ≤ 100000 ∧ ∀ H', Same H H' → Q (.bl (allB l0.form.cps.toList os)) H'
section
variable {P : Program} {w : World} {K : PySem.W.Frag} {mg : Str → Option Value} {base : Heap}
theorem okg_is_number (T : Tx w K mg) : Cal P w K mg base 1 "is_number" spIsNumG [] := by
  refine mk_is_number T (fun vs H Q E h => ?_) (fun cdv A outer s H vs Q E hr h => ?_)
  · obtain ⟨p, lo, hi, rfl, _⟩ := h
    rfl
  · obtain ⟨o, lo, hi, rfl, q⟩ := h
    refine ⟨_, (pss_one (ps_ret (pe_and (pe_callB call_isi (by rfl) (f_isinstance T) (by decide +kernel) (pa_cons (pv 0) (pa_cons (pe_bltn (v := .ty "int") (u := .type "int") (by rfl) (f_int T) (by decide +kernel) rfl) pa_nil))) (pe_and (pe_not (pe_callB call_isi (by rfl) (f_isinstance T) (by decide +kernel) (pa_cons (pv 0) (pa_cons (pe_bltn (v := .ty "bool") (u := .type "bool") (by rfl) (f_bool T) (by decide +kernel) rfl) pa_nil)))) (pe_one (pe_chain op_le op_le (pv 1) (pv 0) (pv 2))))))), ?_⟩
    rw [st_is_number]
    cases o with
    | none =>
      show tRet _ _ [some .non, some (.int lo), some (.int hi)] H
      wtm_at "go"
      refine iIsiN (r := false) (by decide +kernel) ?_
      wtm_at "go"
      exact q
    | some p =>
      show tRet _ _ [some (.int p), some (.int lo), some (.int hi)] H
      have q : Q (.bl (decide (lo ≤ p) && decide (p ≤ hi))) H := q
      wtm_at "go"
      wtm_at "ii"
      wtm_at "go"
      wtm_at "ii"
      wtm_at "go"
      first | refine iteD (fun e => ?_) (fun e => ?_) | refine iteN (fun e => ?_) (fun e => ?_) | refine ite2 (fun e => ?_) (fun e => ?_)
      · rw [decide_eq_true e] at q
        wtm_at "go"
        exact q
      · rw [decide_eq_false e] at q
        exact q
theorem bd_at (T : Tx w K mg) (l0 : Lt) {i : Nat} {c : Nat} (e : l0.form.cps.toList[i]? = some c) : ∃ a, PySem.W.nsIn K (He.ga K "BOUNDS") ⟨#[c]⟩ = some (some (.ref a)) ∧ ∀ H : Hp, SqT K H a [.int (bdT c).1, .int (bdT c).2] := by
  have g : ∀ {z : Str} {lo hi : Int} {c : Nat}, tupIn K (He.ga K "BOUNDS") z [.int lo, .int hi] = true → z = ⟨#[c]⟩ → bdT c = (lo, hi) → ∃ a, PySem.W.nsIn K (He.ga K "BOUNDS") ⟨#[c]⟩ = some (some (.ref a)) ∧ ∀ H : Hp, SqT K H a [.int (bdT c).1, .int (bdT c).2] := fun {z lo hi c} h e b => by
    subst e
    obtain ⟨a, h3, h4⟩ := tupIn_ok h
    exact ⟨a, h3, by rw [b]; exact h4⟩
  have m : c ∈ l0.form.cps.toList := List.mem_of_getElem? e
  have cs : c = 110 ∨ c = 109 ∨ c = 87 ∨ c = 72 ∨ c = 120 ∨ c = 121 ∨ c = 112 := by
    have all : ∀ l0 : Lt, (l0.form.cps.toList.all fun c => decide (c = 110 ∨ c = 109 ∨ c = 87 ∨ c = 72 ∨ c = 120 ∨ c = 121 ∨ c = 112)) = true := fun l0 => by cases l0 <;> (simp only [Lt.form]; decide +kernel)
    exact of_decide_eq_true (List.all_eq_true.mp (all l0) c m)
  rcases cs with rfl | rfl | rfl | rfl | rfl | rfl | rfl
  · exact g (ex_1 T) (by decide +kernel) rfl
  · exact g (ex_2 T) (by decide +kernel) rfl
  · exact g (ex_3 T) (by decide +kernel) rfl
  · exact g (ex_4 T) (by decide +kernel) rfl
  · exact g (ex_5 T) (by decide +kernel) rfl
  · exact g (ex_6 T) (by decide +kernel) rfl
  · exact g (ex_7 T) (by decide +kernel) rfl
theorem okg_is_letter (T : Tx w K mg) : Cal P w K mg base 2 "is_letter" (spIsLetG K) [] := by
  refine mk_is_letter T (fun vs H Q E h => ?_) (fun cdv A outer s H vs Q E hr h => ?_)
  · obtain ⟨t, l, os, rfl, _⟩ := h
    rfl
  · obtain ⟨t, l, os, rfl, hl, hz, q⟩ := h
    refine ⟨_, (pss_cons (ps_if (PW.pt (pw_or (pt_not (pt_val (pe_callB call_isi (by rfl) (f_isinstance T) (by decide +kernel) (pa_cons (pv 0) (pa_cons (pe_bltn (v := .ty "tuple") (u := .type "tuple") (by rfl) (f_tuple T) (by decide +kernel) rfl) pa_nil))))) (pw_or (pt_cmpR (op_eqD hr.units) (pv 0) (pe_tup pa_nil) (nomark _)) (pw_or (pt_not (pt_val (pe_callB call_isi (by rfl) (f_isinstance T) (by decide +kernel) (pa_cons (pe_ix ix_tup (pv 0) pe_int (fun _ _ => rfl)) (pa_cons (pe_bltn (v := .ty "str") (u := .type "str") (by rfl) (f_str T) (by decide +kernel) rfl) pa_nil))))) (pw_or1 (pt_cmpR (op_notInKd (kd_FORMS T)) (pe_ix ix_tup (pv 0) pe_int (fun _ _ => rfl)) (pe_gc (v := .ref (He.ga K "FORMS")) rfl ⟨_, g_FORMS T, rfl⟩) (by rfl))))))) (pss_one (ps_ret pe_bl)) pss_nil)
  (pss_cons (ps_set (i := 1) sc_is_letter.nd rfl (.inl rfl) (pe_ix ix_kdict (pe_gc (v := .ref (He.ga K "FORMS")) rfl ⟨_, g_FORMS T, rfl⟩) (pe_ix ix_tup (pv 0) pe_int (fun _ _ => rfl)) (fun _ _ => rfl)))
  (pss_cons (ps_if (pt_cmpR op_ne (pe_callB c_len (by rfl) (f_len T) (by decide +kernel) (pa_cons (pv 0) pa_nil)) (pe_op op_add (pe_callB c_lenS (by rfl) (f_len T) (by decide +kernel) (pa_cons (pv 1) pa_nil)) pe_int) (nomark _)) (pss_one (ps_ret pe_bl)) pss_nil)
  (pss_one (ps_ret (pe_cmpR (op_eqD hr.units) (pe_lc (own := [("part", 2), ("sort", 3)]) rfl sc_is_letter.nd (pi_zipTS (by rfl) (f_zip T) (pa_cons (pe_slice sl_tupA (pv 0) (po_some pe_int) po_none) (pa_cons (pv 1) pa_nil))) (blkOk_by (N := N_is_letter) (sc := defScope s_is_letter) (by decide +kernel)) (fun _ _ _ _ _ => (pgTupK (K := K) (n := 2) rfl (pgs_cons (pg_name (i := 2) sc_is_letter.nd rfl (.inl rfl)) (pgs_cons (pg_name (i := 3) sc_is_letter.nd rfl (.inl rfl)) pgs_nil)))) (fun _ _ _ _ _ => pts_one (pt_not (pt_val (pe_c (okg_is_number T) hr (by omega) rfl (pa_cons (pv 2) (pa_cons (pe_ix (ixTK (K := K)) (pe_ix (ixDK (K := K) (w := w)) (pe_gc (v := .ref (He.ga K "BOUNDS")) rfl ⟨_, g_BOUNDS T, rfl⟩) (pv 3) (fun _ _ => rfl)) pe_int (fun _ _ => rfl)) (pa_cons (pe_ix (ixTK (K := K)) (pe_ix (ixDK (K := K) (w := w)) (pe_gc (v := .ref (He.ga K "BOUNDS")) rfl ⟨_, g_BOUNDS T, rfl⟩) (pv 3) (fun _ _ => rfl)) pe_int (fun _ _ => rfl)) pa_nil))))))) (fun _ _ _ _ _ => pe_int)) (pe_lst pa_nil) (nomark _))))))), ?_⟩
    rw [st_is_letter]
    obtain ⟨u, hu, ru⟩ := form_at T l
    have h0 : ∀ {H' : Hp}, Same H H' → ∀ {Q' : VK}, Q' (.str l.word) H' → rIxT K (.ref t) (.int 0) H' Q' := fun s _ q => iIxT (sqT_same s hl) (at_of (j := 0) rfl rfl) q
    wtm_at "go"
    refine iIsi (r := true) (tyT hl) (by decide +kernel) ?_
    wtm_at "go"
    intro p np
    have hl1 := sqT_same (same_new (o := .tup []) np) hl
    refine iEqT1G hl1 (SqT.of upd_same) (word_ok l) ?_
    wtm_at "go"
    refine h0 (same_new np) ?_
    wtm_at "go"
    wtm_at "ii"
    wtm_at "go"
    refine h0 (same_new np) ?_
    wtm_at "go"
    refine iNotInKd hu ?_
    wtm_at "go"
    refine h0 (same_new np) ?_
    wtm_at "go"
    refine iIxKd (kd_FORMS T) hu ru ?_
    wtm_at "go"
    have hfl : l.form.length ≤ 6 := by rw [form_len]; cases l <;> simp [Lt.nums]
    have hfc : l.form.cps.toList.length = l.form.length := Array.length_toList ..
    refine iLenS (Nat.le_trans hfl (by decide)) ?_
    rw [show (V.str l.word :: os.map numV).length = os.length + 1 by simp]
    wtm_at "go"
    first | refine iteD (fun hne => ?_) (fun hne => ?_) | refine iteN (fun hne => ?_) (fun hne => ?_) | refine ite2 (fun hne => ?_) (fun hne => ?_)
    · wtm_at "go"
      have := q _ (same_new (o := .tup []) np)
      rw [show allB l.form.cps.toList os = false from Bool.eq_false_iff.mpr fun z => hne (by have := (allB_of z).1; omega)] at this
      exact this
    · have hlen : os.length = l.form.length := by omega
      wtm_at "go"
      refine iWZ ?_
      wtm_at "go"
      refine iSlA hl1 fun c H2 s2 hc => ?_
      rw [show cutV (V.str l.word :: os.map numV) (some 1) none = os.map numV from cut_from (n := 1)] at hc
      wtm_at "go"
      refine ⟨c, l.form, _, rfl, hc, fun D nD => ?_⟩
      have hD0 : Same H (upd H2 D (.lst [])) := ((same_new np).trans s2).trans (same_new nD)
      refine eLc (walk_zipTS (xs := os.map numV) (n := os.length) (by rw [List.length_map, ← Array.length_toList]; omega)) (fun i H' => ∃ bad : List Int, Same H2 H' ∧ H' D = some (.lst (bad.map V.int)) ∧ bad.length ≤ i ∧ (bad = [] ↔ ∀ j, j < i → ∀ ch o, l.form.cps.toList[j]? = some ch → os[j]? = some o → inB ch o = true)) ⟨[], same_new nD, upd_same, Nat.le_refl _, ⟨fun _ j hj => absurd hj (Nat.not_lt_zero _), fun _ => rfl⟩⟩ (fun i H' _ h => sqT_same (by obtain ⟨_, s3, _⟩ := h; exact s3) hc) ?_ ?_
      · rintro i x H3 H4 hi ⟨bad, s3, hD3, hbl, hb⟩ ⟨T', x', ch, rfl, nT, rfl, ex, ec⟩
        rw [List.getElem?_map] at ex
        obtain ⟨o, em, rfl⟩ := Option.map_eq_some_iff.mp ex
        have ec' : l.form.cps.toList[i]? = some ch := by rw [Array.getElem?_toList]; exact ec
        obtain ⟨ba, b1, b2⟩ := bd_at T l ec'
        have hp : upd H3 T' (.tup [numV o, .str ⟨#[ch]⟩]) T' = some (.tup [numV o, .str ⟨#[ch]⟩]) := upd_same
        have s4 := same_new (o := .tup [numV o, .str ⟨#[ch]⟩]) nT
        have s34 := s3.trans s4
        have hD4 := s4 _ _ hD3
        show gTup _ _ _ _ _ (upd H3 T' (.tup [numV o, .str ⟨#[ch]⟩])) _
        generalize upd H3 T' (.tup [numV o, .str ⟨#[ch]⟩]) = H4 at hp s4 s34 hD4
        wtm_at "go"
        refine iIxKd (v := .ref ba) (kd_BOUNDS T) b1 rfl ?_
        wtm_at "go"
        refine iIxT (b2 _) (at_of (j := 0) rfl rfl) ?_
        wtm_at "go"
        refine iIxKd (v := .ref ba) (kd_BOUNDS T) b1 rfl ?_
        wtm_at "go"
        refine iIxT (b2 _) (at_of (j := 1) rfl rfl) ?_
        wtm_at "go"
        refine ⟨o, _, _, rfl, ?_⟩
        have nx : ∀ {b : Bool}, inB ch o = b → ((bad = [] ∧ b = true) ↔ ∀ j, j < i + 1 → ∀ ch o, l.form.cps.toList[j]? = some ch → os[j]? = some o → inB ch o = true) := fun {b} eb => by
          constructor
          · rintro ⟨z, e2⟩ j hj c' o' e3 e4
            by_cases ji : j = i
            · subst ji
              rw [ec'] at e3; rw [em] at e4
              cases e3; cases e4
              rw [eb]; exact e2
            · exact hb.mp z j (by omega) c' o' e3 e4
          · intro z
            exact ⟨hb.mpr fun j hj => z j (by omega), by rw [← eb]; exact z i (Nat.lt_succ_self i) ch o ec' em⟩
        have eb : inO (bdT ch).1 (bdT ch).2 o = inB ch o := rfl
        rw [eb]
        cases e : inB ch o with
        | true =>
          wtm_at "go"
          exact ⟨bad, s34, hD4, Nat.le_succ_of_le hbl, ⟨fun z => (nx e).mp ⟨z, rfl⟩, fun z => ((nx e).mpr z).1⟩⟩
        | false =>
          wtm_at "go"
          refine ⟨_, hD4, ?_, bad ++ [1], fun a o' e2 => ?_, by rw [upd_same, List.map_append]; rfl, by rw [List.length_append]; exact Nat.succ_le_succ hbl, ⟨fun z => by simp at z, fun z => ?_⟩⟩
          · rw [List.length_map]
            exact Nat.lt_of_le_of_lt (show bad.length ≤ 100000 by omega) (by decide)
          · rw [upd_ne fun z => ?_]
            · exact s34 _ _ e2
            · rw [z, nD] at e2; cases e2
          · have := ((nx e).mpr z).2
            cases this
      · rintro H3 ⟨bad, s3, hD3, _, hb⟩
        wtm_at "go"
        intro e ne
        refine iEqDI (ns := bad) (ms := []) (SqL.of (same_new ne _ _ hD3)) (SqL.of upd_same) ?_
        have s5 : Same H (upd H3 e (.lst [])) := (((same_new np).trans s2).trans s3).trans (same_new ne)
        have fin : decide (bad = []) = allB l.form.cps.toList os := by
          by_cases z : bad = []
          · rw [decide_eq_true z]
            exact (allB_get (by omega) fun i c o e1 e2 => hb.mp z i (by have := (List.getElem?_eq_some_iff.mp e2).1; omega) c o e1 e2).symm
          · rw [decide_eq_false z]
            exact (Bool.eq_false_iff.mpr fun y => z (hb.mpr fun j _ c o e1 e2 => (allB_of y).2 j c o e1 e2)).symm
        rw [fin]
        exact q _ s5
end

/-! ### a word's number: walked -/
open SX in
theorem s_of (w : Str) : w = S w.cps.toList := str_ext (by show _ = w.cps.toList.toArray.toList; rw [List.toList_toArray])
theorem dash_iff {w : Str} : (Txt.slice w none (some 1) = "-") ↔ w.cps.toList.head? = some 45 := by
  have e : Txt.slice w none (some 1) = SX.S (w.cps.toList.take 1) := (congrArg (fun z => Txt.slice z none (some 1)) (s_of w)).trans (SX.slice_to (by decide))
  rw [e]
  constructor
  · intro h
    have h2 : (w.cps.toList.take 1) = [45] := by
      have := congrArg (fun z : Str => z.cps.toList) h
      have e2 : (SX.S (w.cps.toList.take 1)).cps.toList = w.cps.toList.take 1 := List.toList_toArray ..
      rw [e2] at this
      rw [this]; decide
    cases z : w.cps.toList with
    | nil => rw [z] at h2; cases h2
    | cons a l => rw [z] at h2; cases h2; rfl
  · intro h
    cases z : w.cps.toList with
    | nil => rw [z] at h; cases h
    | cons a l => rw [z] at h; cases h; rfl
def figW (w : Str) : Str := ⟨(figL w.cps.toList).toArray⟩
theorem figW_dash {w : Str} (h : Txt.slice w none (some 1) = "-") : Txt.slice w (some 1) none = figW w := by
  have h2 := dash_iff.mp h
  have e : Txt.slice w (some 1) none = SX.S (w.cps.toList.drop 1) := (congrArg (fun z => Txt.slice z (some 1) none) (s_of w)).trans (SX.slice_from (by decide))
  rw [e]
  unfold figW figL
  rw [if_pos h2]
  cases w.cps.toList <;> rfl
theorem figW_no {w : Str} (h : ¬ Txt.slice w none (some 1) = "-") : w = figW w := by
  have h2 : ¬ w.cps.toList.head? = some 45 := fun z => h (dash_iff.mpr z)
  unfold figW figL
  rw [if_neg h2]
theorem figL_len (cs : List Nat) : (figL cs).length ≤ cs.length := by
  unfold figL
  by_cases h : cs.head? = some 45
  · rw [if_pos h, List.length_tail]; exact Nat.sub_le ..
  · rw [if_neg h]; exact Nat.le_refl _
theorem figW_len (w : Str) : (figW w).length ≤ w.length := by
  show (figL w.cps.toList).toArray.size ≤ w.cps.size
  rw [List.size_toArray, ← Array.length_toList]
  exact figL_len _
theorem figW_cps (w : Str) : (figW w).cps.toList = figL w.cps.toList := by show (figL w.cps.toList).toArray.toList = _; rw [List.toList_toArray]
theorem figL_sub {cs : List Nat} {c : Nat} (h : c ∈ figL cs) : c ∈ cs := by
  unfold figL at h
  split at h
  · exact List.mem_of_mem_tail h
  · exact h
theorem figW_sz (w : Str) : (figW w).length = (figL w.cps.toList).length := by show (figL w.cps.toList).toArray.size = _; rw [List.size_toArray]
theorem dig_in (c : Nat) : (!(Builtin.Str.occurrences "0123456789" ⟨#[c]⟩ 0 10 1).isEmpty) = dig c := by
  have e := SX.in_one [48, 49, 50, 51, 52, 53, 54, 55, 56, 57] c
  have e2 : (!(Builtin.Str.occurrences "0123456789" ⟨#[c]⟩ 0 10 1).isEmpty) = decide (c ∈ [48, 49, 50, 51, 52, 53, 54, 55, 56, 57]) := e
  rw [e2]
  unfold dig
  by_cases h : 48 ≤ c ∧ c ≤ 57
  · rw [decide_eq_true h.1, decide_eq_true h.2]
    refine decide_eq_true ?_
    simp only [List.mem_cons, List.not_mem_nil, or_false]
    omega
  · have : (decide (48 ≤ c) && decide (c ≤ 57)) = false := by
      rw [Bool.and_eq_false_iff, decide_eq_false_iff_not, decide_eq_false_iff_not]; omega
    rw [this]
    refine decide_eq_false ?_
    simp only [List.mem_cons, List.not_mem_nil, or_false]
    omega
/-- a text of any signs, not too long -/
structure TO (s : Str) (n : Nat) : Prop where
  ok : PyData.strOk s = true
  le : s.length ≤ n
theorem TO.mono {s : Str} {n m : Nat} (h : TO s n) (l : n ≤ m) : TO s m := ⟨h.ok, Nat.le_trans h.le l⟩
theorem to_mem {s : Str} (h : PyData.strOk s = true) {c : Nat} (m : c ∈ s.cps.toList) : c < 0x110000 := by
  unfold PyData.strOk at h
  rw [Array.all_eq_true_iff_forall_mem] at h
  have := h c (Array.mem_toList_iff.mp m)
  simpa using this
theorem to_of {s : Str} (h : ∀ c ∈ s.cps.toList, c < 0x110000) : PyData.strOk s = true := by
  unfold PyData.strOk
  rw [Array.all_eq_true_iff_forall_mem]
  intro c m
  simpa using h c (Array.mem_toList_iff.mpr m)
theorem canLay_strs : ∀ {ss : List Str}, (∀ s ∈ ss, PyData.strOk s = true) → PyData.canLayAll0 (ss.map PyData.str) = true
  | [], _ => by simp [PyData.canLayAll0]
  | s :: ss, h => by simp [PyData.canLayAll0, PyData.canLay0, h s (List.mem_cons_self ..), canLay_strs fun x hx => h x (List.mem_cons_of_mem _ hx)]
theorem depth_strs : ∀ ss : List Str, PyData.depthAll (ss.map PyData.str) = 0
  | [] => by simp [PyData.depthAll]
  | s :: ss => by simp [PyData.depthAll, PyData.depth, depth_strs ss]
theorem dp_strs {K : PySem.W.Frag} {H : Hp} : ∀ ss : List Str, DpAll K H (ss.map V.str) (ss.map PyData.str)
  | [] => .nil
  | s :: ss => .cons (.str s) (dp_strs ss)
theorem iNeStr0 {K : PySem.W.Frag} {H : Hp} {p q : Addr} {ss : List Str} {Q : VK} (h : SqL K H p (ss.map V.str)) (h2 : SqL K H q []) (ok : ∀ s ∈ ss, PyData.strOk s = true) (k : Q (.bl (!decide (ss = []))) H) : rNeD K (.ref p) (.ref q) H Q := by
  refine ⟨.list (ss.map .str), .list [], .lst h (dp_strs ss), .lst h2 .nil, ?_, by decide, ?_⟩
  · simp [SeqAt.shaped, PyData.canLay0, canLay_strs ok, PyData.depth, depth_strs]
  · cases ss with
    | nil => exact k
    | cons s ss =>
      rw [show PyData.eqv (.list ((s :: ss).map .str)) (.list []) = false by simp [PyData.eqv, PyData.eqvAll]]
      exact k
def spNumG : Sp := fun vs H Q _ => ∃ w : Str, vs = [.str w] ∧ TO w 100000 ∧ ∀ H', Same H H' → Q (numV (numT w)) H'
section
variable {P : Program} {w : World} {K : PySem.W.Frag} {mg : Str → Option Value} {base : Heap}
theorem okg_number_of (T : Tx w K mg) : Cal P w K mg base 1 "number_of" spNumG [] := by
  refine mk_number_of T (fun vs H Q E h => ?_) (fun cdv A outer s H vs Q E hr h => ?_)
  · obtain ⟨n, rfl, _⟩ := h
    rfl
  · obtain ⟨wd, rfl, tw, q⟩ := h
    refine ⟨_, (pss_cons (ps_set (i := 1) sc_number_of.nd rfl (.inl rfl) (pe_ifExp (pt_cmpR op_eq (pe_slice sl_txt (pv 0) po_none (po_some pe_int)) pe_str (nomark _)) (pe_slice sl_txt (pv 0) (po_some pe_int) po_none) (pv 0)))
  (pss_cons (ps_if (PW.pt (pw_or (pt_not (pt_chain op_le op_le pe_int (pe_callB c_lenS (by rfl) (f_len T) (by decide +kernel) (pa_cons (pv 1) pa_nil)) (pe_gc rfl (int_MOST_FIGURES T)))) (pw_or1 (pt_cmpR (op_neD hr.units) (pe_lc (own := [("sign", 2)]) rfl sc_number_of.nd (pi_str (pv 1)) (blkOk_by (N := N_number_of) (sc := defScope s_number_of) (by decide +kernel)) (fun _ _ _ _ _ => (pg_name (i := 2) sc_number_of.nd rfl (.inl rfl))) (fun _ _ _ _ _ => pts_one (pt_cmpR o_notInS (pv 2) (pe_gc rfl (str_FIGURES T)) (by rfl))) (fun _ _ _ _ _ => (pv 2))) (pe_lst pa_nil) (nomark _))))) (pss_one (ps_ret pe_non)) pss_nil)
  (pss_one (ps_ret (pe_ifExp (PW.pt (pw_and (pt_cmpR op_eq (pe_ix ix_str (pv 1) pe_int (fun _ _ => rfl)) pe_str (nomark _)) (pw_and1 (pt_cmpR op_ne (pv 0) pe_str (nomark _))))) pe_non (pe_callTy c_int (by rfl) (f_int T) (by decide +kernel) (pa_cons (pv 0) pa_nil))))))), ?_⟩
    rw [st_number_of]
    have hz : wd.length ≤ sizeLine := Nat.le_trans tw.le (by decide)
    have hf : (figW wd).length ≤ sizeLine := Nat.le_trans (figW_len wd) hz
    have fz := figW_sz wd
    have fc := figW_cps wd
    wtm_at "go"
    refine iIfK (fun v H' => v = .str (figW wd) ∧ H' = H) (fun Q' k' => ?_) (fun v H2 hv => ?_)
    · wtm_at "go"
      refine iSlX hz ?_
      wtm_at "go"
      by_cases hn : Txt.slice wd none (some 1) = "-"
      · refine iteYes hn ?_
        wtm_at "go"
        refine iSlX hz ?_
        rw [figW_dash hn]
        exact k' _ _ ⟨rfl, rfl⟩
      · refine iteNo hn ?_
        wtm_at "go"
        exact k' _ _ ⟨congrArg V.str (figW_no hn), rfl⟩
    · obtain ⟨rfl, rfl⟩ := hv
      have bad : figOk wd.cps.toList = false → ∀ H', Same H2 H' → Q .non H' := fun z H' s' => by
        have := q H' s'
        rw [numT_none z] at this
        exact this
      wtm_at "go"
      refine iLenS hf ?_
      have nOk : (1 ≤ (figL wd.cps.toList).length ∧ (figL wd.cps.toList).length ≤ 2 ∧ (∀ c ∈ figL wd.cps.toList, dig c = true) ∧ ((figL wd.cps.toList).head? ≠ some 48 ∨ wd.cps.toList = [48])) ↔ figOk wd.cps.toList = true := by
        unfold figOk
        simp only [Bool.and_eq_true, decide_eq_true_eq, Bool.or_eq_true, List.all_eq_true]
      have no : ¬ (1 ≤ (figL wd.cps.toList).length ∧ (figL wd.cps.toList).length ≤ 2 ∧ (∀ c ∈ figL wd.cps.toList, dig c = true) ∧ ((figL wd.cps.toList).head? ≠ some 48 ∨ wd.cps.toList = [48])) → figOk wd.cps.toList = false := fun z => Bool.eq_false_iff.mpr fun y => z (nOk.mpr y)
      wtm_at "go"
      first | refine iteD (fun c1 => ?_) (fun c1 => ?_) | refine iteN (fun c1 => ?_) (fun c1 => ?_) | refine ite2 (fun c1 => ?_) (fun c1 => ?_)
      · wtm_at "go"
        first | refine iteD (fun c2 => ?_) (fun c2 => ?_) | refine iteN (fun c2 => ?_) (fun c2 => ?_) | refine ite2 (fun c2 => ?_) (fun c2 => ?_)
        · wtm_at "go"
          exact bad (no fun z => c2 (by have := z.2.1; omega)) _ (Same.refl _)
        · wtm_at "go"
          intro D nD
          refine eLc (walk_str (z := figW wd)) (fun i H' => Same H2 H' ∧ H' D = some (.lst ((((figL wd.cps.toList).take i).filter fun c => !dig c).map fun c => V.str ⟨#[c]⟩))) ⟨same_new nD, upd_same⟩ (fun _ _ _ _ => trivial) ?_ ?_
          · rintro i x H3 H4 hi ⟨s3, hD⟩ ⟨rfl, c, ec, rfl⟩
            have ec2 : (figL wd.cps.toList)[i]? = some c := by rw [← fc, Array.getElem?_toList]; exact ec
            wtm_at "go"
            refine iNotInS ?_
            rw [show ((Str.ofString "0123456789").length) = 10 by decide, dig_in]
            cases e : dig c with
            | true =>
              wtm_at "go"
              refine ⟨s3, ?_⟩
              rw [take_succ ec2, List.filter_append, List.filter_cons_of_neg (by rw [e]; decide), List.filter_nil, List.append_nil]
              exact hD
            | false =>
              wtm_at "go"
              refine ⟨_, hD, ?_, fun a o ea => (upd_ne fun z => by rw [z, nD] at ea; cases ea).trans (s3 _ _ ea), ?_⟩
              · rw [List.length_map]
                exact Nat.lt_of_le_of_lt (Nat.le_trans (List.length_filter_le ..) (Nat.le_trans (List.length_take_le' ..) (show _ ≤ 100000 by omega))) (by decide)
              · rw [upd_same, take_succ ec2, List.filter_append, List.filter_cons_of_pos (by rw [e]; rfl), List.filter_nil, List.map_append]
                rfl
          · rintro H3 ⟨s3, hD⟩
            rw [List.take_of_length_le (show _ ≤ (figW wd).cps.size from Nat.le_of_eq fz.symm)] at hD
            wtm_at "go"
            intro e ne
            refine iNeStr0 (ss := ((figL wd.cps.toList).filter fun c => !dig c).map fun c => (⟨#[c]⟩ : Str)) (SqL.of (by rw [List.map_map]; exact same_new ne _ _ hD)) (SqL.of upd_same) (fun z hz => ?_) ?_
            · obtain ⟨c, hc, rfl⟩ := List.mem_map.mp hz
              have hc2 : c ∈ (figW wd).cps.toList := by rw [fc]; exact (List.mem_filter.mp hc).1
              have hc3 : c ∈ wd.cps.toList := figL_sub (by rw [← fc]; exact hc2)
              exact to_of fun d hd => by rw [show d = c by simpa using hd]; exact to_mem tw.ok hc3
            · have s4 : Same H2 (upd H3 e (.lst [])) := s3.trans (same_new ne)
              have ef : ((((figL wd.cps.toList).filter fun c => !dig c).map fun c => (⟨#[c]⟩ : Str)) = []) ↔ ∀ c ∈ figL wd.cps.toList, dig c = true := by
                rw [List.map_eq_nil_iff, List.filter_eq_nil_iff]
                exact ⟨fun z c hc => by have := z c hc; simpa using this, fun z c hc => by rw [z c hc]; decide⟩
              wtm_at "go"
              first | refine iteD (fun c3 => ?_) (fun c3 => ?_) | refine iteN (fun c3 => ?_) (fun c3 => ?_) | refine ite2 (fun c3 => ?_) (fun c3 => ?_)
              · wtm_at "go"
                exact bad (no fun z => c3 (ef.mpr z.2.2.1)) _ s4
              · have c3 : ∀ c ∈ figL wd.cps.toList, dig c = true := ef.mp c3
                wtm_at "go"
                refine iIf ?_
                wtm_at "go"
                obtain ⟨c, cl, ecl⟩ : ∃ c cl, figL wd.cps.toList = c :: cl := by
                  cases z : figL wd.cps.toList with
                  | nil => rw [z] at fz; rw [fz] at c1; exact absurd c1 (by decide)
                  | cons c cl => exact ⟨c, cl, rfl⟩
                refine iIxS hf (show atI (figW wd).cps.toList 0 = some c by rw [fc, ecl]; show ((ixN (cl.length + 1) 0).bind fun j => (c :: cl)[j]?) = some c; rw [show ixN (cl.length + 1) 0 = some 0 from ixN_nat (j := 0) rfl (Nat.succ_pos _)]; rfl) ?_
                wtm_at "go"
                have fin : (c ≠ 48 ∨ wd.cps.toList = [48]) → figOk wd.cps.toList = true := fun z => nOk.mp ⟨by omega, by omega, c3, z.imp (fun y => by rw [ecl]; exact fun x => y (Option.some.inj x)) id⟩
                have done : figOk wd.cps.toList = true → ∃ n, PySem.intText? wd = some n ∧ wd.length ≤ 3 ∧ ∀ H', Same H2 H' → Q (.int n) H' := fun z => by
                  obtain ⟨n, a, b, ew, en, ei⟩ := numT_some z
                  refine ⟨n, ei, ?_, fun H' s' => ?_⟩
                  · have q := sx_fig a b
                    simp only [Bool.and_eq_true, decide_eq_true_eq] at q
                    rw [ew]
                    exact Nat.le_trans (Nat.le_of_eq (Array.length_toList ..).symm) q.2.2
                  have := q H' s'
                  rw [en] at this
                  exact this
                have e48 : ((⟨#[c]⟩ : Str) = "0") ↔ c = 48 := ⟨fun z => by
                  have := congrArg (fun z : Str => z.cps.toList.headD 0) z
                  exact this.trans (by decide), fun z => by rw [z]; decide⟩
                have e4 : (wd = "0") ↔ wd.cps.toList = [48] := ⟨fun z => by rw [z]; decide, fun z => str_ext (z.trans (by decide))⟩
                first | refine iteD (fun e0 => ?_) (fun e0 => ?_) | refine iteN (fun e0 => ?_) (fun e0 => ?_) | refine ite2 (fun e0 => ?_) (fun e0 => ?_)
                · wtm_at "go"
                  first | refine iteD (fun e1 => ?_) (fun e1 => ?_) | refine iteN (fun e1 => ?_) (fun e1 => ?_) | refine ite2 (fun e1 => ?_) (fun e1 => ?_)
                  · wtm_at "go"
                    exact bad (no fun z => by
                      rcases z.2.2.2 with y | y
                      · exact y (by rw [ecl, e48.mp e0]; rfl)
                      · exact e1 (e4.mpr y)) _ s4
                  · wtm_at "go"
                    obtain ⟨n, ei, eb, hq⟩ := done (fin (.inr (e4.mp e1)))
                    refine iIntS ei (by omega) ?_
                    exact hq _ s4
                · wtm_at "go"
                  obtain ⟨n, ei, eb, hq⟩ := done (fin (.inl fun z => e0 (e48.mpr z)))
                  refine iIntS ei (by omega) ?_
                  exact hq _ s4
      · wtm_at "go"
        exact bad (no fun z => c1 (by have := z.1; omega)) _ (Same.refl _)
end

/-! ### a letter's words, any: walked -/
theorem vs_of {ws : List Str} {l : Lt} (h : l.ok) (e : ws = wtx l) : ws.tail.map numT = l.nums.map some ∧ ws.headD "" = l.word := by
  subst e
  refine ⟨?_, rfl⟩
  show (l.nums.map sx).map numT = _
  rw [List.map_map]
  exact List.map_congr_left fun n hn => by
    have := nums_ok h n hn
    exact numT_sx (by omega) (by omega)
theorem vs_numV {l : Lt} : (V.str l.word :: (l.nums.map some).map numV) = l.vs := by
  rw [List.map_map]
  rfl
theorem letT_of {wd : Str} {wr : List Str} {l0 : Lt} (hw : wd = l0.word) (h : allB l0.form.cps.toList (wr.map numT) = true) : ∃ l, letT (wd :: wr) = some l ∧ l.vs = .str wd :: (wr.map numT).map numV := by
  obtain ⟨l, hok, e1, e2⟩ := lt_of l0 h
  have ew : wd :: wr = wtx l := by
    unfold wtx
    rw [hw, e1]
    congr 1
    apply List.ext_getElem?
    intro i
    have e3 : (wr.map numT)[i]? = (l.nums.map some)[i]? := by rw [e2]
    rw [List.getElem?_map, List.getElem?_map] at e3
    rw [List.getElem?_map]
    cases a : wr[i]? with
    | none =>
      rw [a] at e3
      cases b : l.nums[i]? with
      | none => rfl
      | some n => rw [b] at e3; cases e3
    | some x =>
      rw [a] at e3
      cases b : l.nums[i]? with
      | none => rw [b] at e3; cases e3
      | some n =>
        rw [b] at e3
        have e4 : numT x = some n := Option.some.inj e3
        rw [(numT_bd e4).2.2]
        rfl
  obtain ⟨l2, h2⟩ := letT_ok ⟨l, hok, ew⟩
  obtain ⟨a, b⟩ := letT_some h2
  obtain ⟨c, d⟩ := vs_of a b
  refine ⟨l2, h2, ?_⟩
  have d : wd = l2.word := d
  have c : wr.map numT = l2.nums.map some := c
  rw [c, d, vs_numV]
theorem letT_not {wd : Str} {wr : List Str} {l0 : Lt} (hw : wd = l0.word) (h : allB l0.form.cps.toList (wr.map numT) = false) : letT (wd :: wr) = none := letT_no fun ⟨l, hok, e⟩ => by
  obtain ⟨c, d⟩ := vs_of hok e
  have d : wd = l.word := d
  have c : wr.map numT = l.nums.map some := c
  rw [words_of l0 (hw.symm.trans d), c, all_of hok] at h
  cases h
theorem letT_unk {wd : Str} {wr : List Str} (h : ¬ ∃ l0 : Lt, wd = l0.word) : letT (wd :: wr) = none := letT_no fun ⟨l, _, e⟩ => h ⟨l, (List.cons.inj e).1⟩
theorem unk_keys {wd : Str} (h : ¬ ∃ l0 : Lt, wd = l0.word) : wd ∉ (["make", "drop", "size", "paint", "place", "rank", "veil", "unveil", "tie", "show", "hold", "let"] : List Str) := by
  intro m
  simp only [List.mem_cons, List.not_mem_nil, or_false] at m
  rcases m with m | m | m | m | m | m | m | m | m | m | m | m
  · exact h ⟨.make 0, m⟩
  · exact h ⟨.drop 0, m⟩
  · exact h ⟨.size 0 0 0, m⟩
  · exact h ⟨.paint 0 0 0 0 0 0, m⟩
  · exact h ⟨.place 0 0 0, m⟩
  · exact h ⟨.rank 0 0, m⟩
  · exact h ⟨.veil 0, m⟩
  · exact h ⟨.unveil 0, m⟩
  · exact h ⟨.tie 0 0, m⟩
  · exact h ⟨.shw 0, m⟩
  · exact h ⟨.hold 0, m⟩
  · exact h ⟨.lt, m⟩
def spLetG (K : PySem.W.Frag) : Sp := fun vs H Q _ => ∃ (a : Addr) (wd : Str) (wr : List Str), vs = [.ref a] ∧ SqL K H a ((wd :: wr).map V.str) ∧ (∀ x ∈ wr, TO x 100000) ∧ wr.length ≤ 90000 ∧
  (letT (wd :: wr) = none → ∀ H', Same H H' → Q .non H') ∧ (∀ l, letT (wd :: wr) = some l → ∀ H' t, Same H H' → SqT K H' t l.vs → Q (.ref t) H')
section
variable {P : Program} {w : World} {K : PySem.W.Frag} {mg : Str → Option Value} {base : Heap}
theorem okg_letter_of (T : Tx w K mg) : Cal P w K mg base 3 "letter_of" (spLetG K) [] := by
  refine mk_letter_of T (fun vs H Q E h => ?_) (fun cdv A outer s H vs Q E hr h => ?_)
  · obtain ⟨a, wd, wr, rfl, _⟩ := h
    rfl
  · obtain ⟨a, wd, wr, rfl, hl, hto, hwl, qn, qs⟩ := h
    refine ⟨_, (pss_cons (ps_if (pt_cmpR (op_notInKd (kd_FORMS T)) (pe_ix ix_list (pv 0) pe_int (fun _ _ => rfl)) (pe_gc (v := .ref (He.ga K "FORMS")) rfl ⟨_, g_FORMS T, rfl⟩) (by rfl)) (pss_one (ps_ret pe_non)) pss_nil)
  (pss_cons (ps_set (i := 1) sc_letter_of.nd rfl (.inl rfl) (pe_op op_catA (pe_tup (pa_cons (pe_ix ix_list (pv 0) pe_int (fun _ _ => rfl)) pa_nil)) (pe_callTy c_tuple (by rfl) (f_tuple T) (by decide +kernel) (pa_cons (pe_lc (own := [("word", 2)]) rfl sc_letter_of.nd (pi_list (pe_slice sl_list (pv 0) (po_some pe_int) po_none)) (blkOk_by (N := N_letter_of) (sc := defScope s_letter_of) (by decide +kernel)) (fun _ _ _ _ _ => (pg_name (i := 2) sc_letter_of.nd rfl (.inl rfl))) (fun _ _ _ _ _ => pts_nil) (fun _ _ _ _ _ => (pe_c (okg_number_of T) hr (by omega) rfl (pa_cons (pv 2) pa_nil)))) pa_nil))))
  (pss_one (ps_ret (pe_ifExp (pt_val (pe_c (okg_is_letter T) hr (by omega) rfl (pa_cons (pv 1) pa_nil))) (pv 1) pe_non))))), ?_⟩
    rw [st_letter_of]
    by_cases hex : ∃ l0 : Lt, wd = l0.word
    · obtain ⟨l0, hw⟩ := hex
      obtain ⟨u, hu, ru⟩ := form_at T l0
      rw [← hw] at hu
      wtm_at "go"
      refine iIxL hl (at_of (j := 0) rfl rfl) ?_
      wtm_at "go"
      refine iNotInKd hu ?_
      wtm_at "go"
      refine iIxL hl (at_of (j := 0) rfl rfl) ?_
      wtm_at "go"
      intro w1 nw1
      have hw1 : upd H w1 (.tup [.str wd]) w1 = some (.tup [.str wd]) := upd_same
      have s1 := same_new (o := .tup [.str wd]) nw1
      generalize upd H w1 (.tup [.str wd]) = H1 at hw1 s1
      have hl1 : SqL K H1 a ((wd :: wr).map V.str) := (Fr.same (S := []) s1).sqL hl (by simp)
      wtm_at "go"
      refine iSlL hl1 fun p np => ?_
      rw [show cutV ((wd :: wr).map V.str) (some 1) none = wr.map V.str from cut_from (n := 1)]
      wtm_at "go"
      intro D nD
      have hp : upd H1 p (.lst (wr.map V.str)) p = some (.lst (wr.map V.str)) := upd_same
      have s2 := (same_new (o := .lst (wr.map V.str)) np)
      generalize upd H1 p (.lst (wr.map V.str)) = H2 at hp s2 nD
      have hpD : p ≠ D := ne_of_none hp nD
      refine eLcL (xs := wr.map V.str) (fun i H' => Fr [D] H2 H' ∧ H' D = some (.lst (((wr.map numT).take i).map numV))) ⟨Fr.new nD, upd_same⟩ (fun i H' _ h => SqL.of (h.1.at_ _ _ hp (by simpa using hpD))) ?_ ?_
      · rintro i x H3 ex ⟨f3, hD⟩
        rw [List.getElem?_map] at ex
        obtain ⟨m, em, rfl⟩ := Option.map_eq_some_iff.mp ex
        wtm_at "go"
        refine ⟨m, rfl, hto m (List.mem_of_getElem? em), fun H4 s4 => ?_⟩
        have em2 : (wr.map numT)[i]? = some (numT m) := by rw [List.getElem?_map, em]; rfl
        refine ⟨_, s4 _ _ hD, ?_, (f3.trans (Fr.same s4)).trans (Fr.set (s4 _ _ hD) rfl (by simp)), ?_⟩
        · rw [List.length_map]
          exact Nat.lt_of_le_of_lt (Nat.le_trans (List.length_take_le' ..) (show (wr.map numT).length ≤ 90000 by rw [List.length_map]; exact hwl)) (by decide)
        · rw [upd_same, take_succ em2, List.map_append]
          rfl
      · rintro H3 ⟨f3, hD⟩
        rw [List.length_map, List.take_of_length_le (Nat.le_of_eq (List.length_map ..))] at hD
        wtm_at "go"
        refine iTupL (SqL.of hD) fun t2 nt2 => ?_
        have f4 : Fr [D] H2 (upd H3 t2 (.tup ((wr.map numT).map numV))) := f3.trans (Fr.new nt2)
        have ht2 : upd H3 t2 (.tup ((wr.map numT).map numV)) t2 = some (.tup ((wr.map numT).map numV)) := upd_same
        generalize upd H3 t2 (.tup ((wr.map numT).map numV)) = H4 at f4 ht2
        have hw4 := f4.tu _ _ (s2 _ _ hw1)
        refine iCatA (SqT.of hw4) (SqT.of ht2) ?_ fun c H5 s5 hc => ?_
        · simp only [List.length_map, List.length_cons, List.length_nil]
          exact Nat.le_trans (show _ ≤ 90001 by omega) (by decide)
        · have hc : SqT K H5 c (.str wd :: (wr.map numT).map numV) := hc
          have fin : Same H H5 := fun x o e => s5 _ _ (f4.at_ _ _ (s2 _ _ (s1 _ _ e)) fun z => by
            rw [List.mem_singleton.mp z] at e
            rw [s2 _ _ (s1 _ _ e)] at nD
            cases nD)
          wtm_at "go"
          refine iIf ?_
          wtm_at "go"
          refine ⟨c, l0, wr.map numT, rfl, by rw [← hw]; exact hc, by rw [List.length_map]; omega, fun H6 s6 => ?_⟩
          cases e : allB l0.form.cps.toList (wr.map numT) with
          | true =>
            wtm_at "go"
            obtain ⟨l, el, ev⟩ := letT_of hw e
            exact qs l el _ c (fin.trans s6) (by rw [ev]; exact sqT_same s6 hc)
          | false =>
            wtm_at "go"
            exact qn (letT_not hw e) _ (fin.trans s6)
    · have hu := keys_no (keys_FORMS T) (unk_keys hex)
      wtm_at "go"
      refine iIxL hl (at_of (j := 0) rfl rfl) ?_
      wtm_at "go"
      refine iNotInKd hu ?_
      wtm_at "go"
      exact qn (letT_unk hex) _ (Same.refl _)
end

/-! ### the exception that read raises -/
abbrev BT (K : PySem.W.Frag) : Addr := He.ga K "BadText"
def spBT (K : PySem.W.Frag) : Sp := fun vs H Q _ => ∃ a n, vs = [.ref a, .int n] ∧ H a = some (exo a (BT K) none) ∧ ∀ dx, H dx = none → dx ≠ a → Q .non (upd (upd H dx (exd dx [(("line" : Str), .int n)])) a (exo a (BT K) (some dx)))
section
variable {P : Program} {w : World} {K : PySem.W.Frag} {mg : Str → Option Value} {base : Heap}
theorem ok_BadText___init__ (T : Tx w K mg) : IniX P w K mg base 1 (He.ga K "BadText") (spBT K) := by
  refine mk_BadTextDU_initDU T (fun vs H Q E h => ?_) (fun cdv A outer s H vs Q E hr h => ?_)
  · obtain ⟨a, n, rfl, _⟩ := h
    rfl
  · obtain ⟨a, n, rfl, ha, q⟩ := h
    refine ⟨_, (pss_cons (ps_expr (pe_binit (by rfl) (g_HallError T) (base_HallError T) (pa_cons (pv 0) (pa_cons (pv 1) pa_nil))))
  (pss_one (ps_ost (pv 0) (pv 1)))), ?_⟩
    rw [st_BadTextDU_initDU]
    refine iSeq ?_
    refine iDrop ?_
    refine (show tVeI K _ _ _ _ from ⟨.ref a, rfl, .int n, rfl, a, BT K, [.int n], rfl, (show 1 ≤ 1000 by decide), oex_BadText T, ha, ?_⟩)
    exact ⟨.int n, rfl, .ref a, rfl, a, BT K, rfl, oex_BadText T, nof_BadText_line T, .inl ⟨ha, q⟩⟩
end

/-! ### the word of a refusal -/
theorem takes_len {X : Cx} {W : WX} (tk : Takes X W) : Takes X (fun cls d σ H => σ.length = X.N.length → W cls d σ H) := fun u s' x => by
  obtain ⟨a, B, sI, pins, σ, H, cls, d, e, I, nb, up, sky, na, os, ag, h⟩ := x
  exact tk u s' ⟨a, B, sI, pins, σ, H, cls, d, e, I, nb, up, sky, na, os, ag, h I.len⟩
/-- work() ends, or raises BadText with this line -/
def TTKind (K : PySem.W.Frag) : (XK → Hp → VK → Prop) → Hp → VK → Prop := fun tl H Q =>
  tl (fun cls d H' => ∃ (n : Int) (dd : Addr), cls = .ref (BT K) ∧ d = some dd ∧ H' dd = some (.xd [(("line" : Str), .int n)]) ∧ ∀ H2 p, Same H' H2 → H2 p = some (.tup [.str "BadText", .int n]) → Q (.ref p) H2) H (fun _ H' => Q (.str "") H')
def isXr (K : PySem.W.Frag) (a : Addr) (cls : Value) (d : Option Addr) (c : V) : TE := tCB (rIsX K cls d a) (tCons (tVar 1) (tCons (tC c) tNil))
/-- what the suite does with the exception at a -/
def tsK (K : PySem.W.Frag) (a : Addr) (cls : Value) (d : Option Addr) : TS :=
  tSeq (tAsg (tLst (tCons (isXr K a cls d (.ref (He.ga K "BadSize"))) (tCons (isXr K a cls d (.ref (He.ga K "TooMany"))) (tCons (isXr K a cls d (.ref (He.ga K "NoClient"))) (tCons (isXr K a cls d (.ref (He.ga K "BadLetter"))) tNil))))) (gName 2))
  (tSeq (tAsg (tOp rCat (tVar 2) (tLst (tCons (isXr K a cls d (.ref (He.ga K "BadTouch"))) (tCons (isXr K a cls d (.ref (He.ga K "BadKey"))) (tCons (isXr K a cls d (.ref (He.ga K "BadText"))) tNil))))) (gName 2))
  (tSeq (tIfS (tOr (tTest (tOp rNe (tBM K "list" (rCntB K) (tVar 2) (tCons (tC (.bl true)) tNil)) (tC (.int 1)))) (tNot (tB (isXr K a cls d (.ty "ValueError"))))) (tRet (tC (.str "other"))) tNext)
  (tSeq (tAsg (tLst (tCons (tC (.str "BadSize")) (tCons (tC (.str "TooMany")) (tCons (tC (.str "NoClient")) (tCons (tC (.str "BadLetter")) (tCons (tC (.str "BadTouch")) (tCons (tC (.str "BadKey")) tNil))))))) (gName 3))
  (tRet (tIf (tB (tOp (rIxL K) (tVar 2) (tC (.int 6)))) (tTup (tCons (tC (.str "BadText")) (tCons (tFldX K cls d a "line" (tVar 1)) tNil))) (tOp (rIxL K) (tVar 3) (tBM K "list" (rIndex K) (tVar 2) (tCons (tC (.bl true)) tNil))))))))
theorem iIsX {K : PySem.W.Frag} {a dd D : Addr} {c : V} {cv : Value} {b : Bool} {H : Hp} {Q : VK} (C : ExcC K D) (hd : ∃ fs, H dd = some (.xd fs)) (hc : ∀ u, RelV c u → u = cv) (k : PySem.W.kitOne K (.ref D) cv = some b) (q : Q (.bl b) H) : rIsX K (.ref D) (some dd) a [.ref a, c] H Q :=
  ⟨D, c, cv, b, rfl, C, fun _ e => by cases e; exact hd, rfl, hc, k, q⟩
section
theorem kind_gives {X : Cx} (T : Tx X.w X.K X.mg) {cdg : Value} {q : Str} : LamX.GivesTo X N_law_kind "_law_kind" (defScope s_law_kind) (He.fAd X.K ("_law_kind", none)) cdg (defBody s_law_kind) "_law_work" q (TTKind X.K) := by
  intro f c' s H Q tl act hc h
  refine ⟨_, pss_cons (ps_try_as (X := (cxOf C8.CX0 X.prog X.w X.K X.mg X.base N_law_kind "_law_kind" (defScope s_law_kind) (He.fAd X.K ("_law_kind", none)) cdg X.A X.stack s H C8.E0).nox) (c := .ref (He.ga X.K "HallError")) (i := 1)
    (ts := tsK X.K) (tb := fun W D σ H => ∃ Ech : XK, (∀ cls d σ' H', σ'.length = 4 → Ech cls d H' → W cls d σ' H') ∧ σ[0]? = some (some (.ref f)) ∧ H c' = some (LamX.CodeO c' q) ∧ tl Ech H (fun _ H1 => D.nx σ H1)) (Wout := fun _ _ _ _ => False)
    rfl rfl sc_law_kind.nd rfl rfl ⟨rfl, by decide, .inl (g_HallError T)⟩ LamX.takes0 (fun W pn xe tk _ => ⟨fun pins s' σ H' D I h' => ?body⟩) (fun a oe cls d pn hz hf => ?suite)) (pss_one (ps_ret pe_str)), ?fin⟩
  case suite => exact (show PSs _ _ (tsK X.K a cls d) from (pss_cons (ps_set (i := 2) sc_law_kind.nd rfl (.inl rfl) (pe_lst (pa_cons (pe_callB (call_isX (X := (cxOf C8.CX0 X.prog X.w X.K X.mg X.base N_law_kind "_law_kind" (defScope s_law_kind) (He.fAd X.K ("_law_kind", none)) cdg X.A X.stack s H C8.E0).nox) hz hf) (by rfl) (f_isinstance T) (by decide +kernel) (pa_cons (pv 1) (pa_cons (pe_gc (v := .ref (He.ga X.K "BadSize")) rfl ⟨_, g_BadSize T, rfl⟩) pa_nil))) (pa_cons (pe_callB (call_isX (X := (cxOf C8.CX0 X.prog X.w X.K X.mg X.base N_law_kind "_law_kind" (defScope s_law_kind) (He.fAd X.K ("_law_kind", none)) cdg X.A X.stack s H C8.E0).nox) hz hf) (by rfl) (f_isinstance T) (by decide +kernel) (pa_cons (pv 1) (pa_cons (pe_gc (v := .ref (He.ga X.K "TooMany")) rfl ⟨_, g_TooMany T, rfl⟩) pa_nil))) (pa_cons (pe_callB (call_isX (X := (cxOf C8.CX0 X.prog X.w X.K X.mg X.base N_law_kind "_law_kind" (defScope s_law_kind) (He.fAd X.K ("_law_kind", none)) cdg X.A X.stack s H C8.E0).nox) hz hf) (by rfl) (f_isinstance T) (by decide +kernel) (pa_cons (pv 1) (pa_cons (pe_gc (v := .ref (He.ga X.K "NoClient")) rfl ⟨_, g_NoClient T, rfl⟩) pa_nil))) (pa_cons (pe_callB (call_isX (X := (cxOf C8.CX0 X.prog X.w X.K X.mg X.base N_law_kind "_law_kind" (defScope s_law_kind) (He.fAd X.K ("_law_kind", none)) cdg X.A X.stack s H C8.E0).nox) hz hf) (by rfl) (f_isinstance T) (by decide +kernel) (pa_cons (pv 1) (pa_cons (pe_gc (v := .ref (He.ga X.K "BadLetter")) rfl ⟨_, g_BadLetter T, rfl⟩) pa_nil))) pa_nil))))))
  (pss_cons (ps_set (i := 2) sc_law_kind.nd rfl (.inl rfl) (pe_op op_cat (pv 2) (pe_lst (pa_cons (pe_callB (call_isX (X := (cxOf C8.CX0 X.prog X.w X.K X.mg X.base N_law_kind "_law_kind" (defScope s_law_kind) (He.fAd X.K ("_law_kind", none)) cdg X.A X.stack s H C8.E0).nox) hz hf) (by rfl) (f_isinstance T) (by decide +kernel) (pa_cons (pv 1) (pa_cons (pe_gc (v := .ref (He.ga X.K "BadTouch")) rfl ⟨_, g_BadTouch T, rfl⟩) pa_nil))) (pa_cons (pe_callB (call_isX (X := (cxOf C8.CX0 X.prog X.w X.K X.mg X.base N_law_kind "_law_kind" (defScope s_law_kind) (He.fAd X.K ("_law_kind", none)) cdg X.A X.stack s H C8.E0).nox) hz hf) (by rfl) (f_isinstance T) (by decide +kernel) (pa_cons (pv 1) (pa_cons (pe_gc (v := .ref (He.ga X.K "BadKey")) rfl ⟨_, g_BadKey T, rfl⟩) pa_nil))) (pa_cons (pe_callB (call_isX (X := (cxOf C8.CX0 X.prog X.w X.K X.mg X.base N_law_kind "_law_kind" (defScope s_law_kind) (He.fAd X.K ("_law_kind", none)) cdg X.A X.stack s H C8.E0).nox) hz hf) (by rfl) (f_isinstance T) (by decide +kernel) (pa_cons (pv 1) (pa_cons (pe_gc (v := .ref (He.ga X.K "BadText")) rfl ⟨_, g_BadText T, rfl⟩) pa_nil))) pa_nil))))))
  (pss_cons (ps_if (PW.pt (pw_or (pt_cmpR op_ne (pe_bm PySem.F.plainAttrs_list PySem.F.slot_list_count PySem.F.type_list_count (mt_countB (X := Cx.suite (cxOf C8.CX0 X.prog X.w X.K X.mg X.base N_law_kind "_law_kind" (defScope s_law_kind) (He.fAd X.K ("_law_kind", none)) cdg X.A X.stack s H C8.E0).nox a ((a, oe) :: pn))) (pv 2) (pa_cons pe_bl pa_nil)) pe_int (nomark _)) (pw_or1 (pt_not (pt_val (pe_callB (call_isX (X := (cxOf C8.CX0 X.prog X.w X.K X.mg X.base N_law_kind "_law_kind" (defScope s_law_kind) (He.fAd X.K ("_law_kind", none)) cdg X.A X.stack s H C8.E0).nox) hz hf) (by rfl) (f_isinstance T) (by decide +kernel) (pa_cons (pv 1) (pa_cons (pe_bltn (v := .ty "ValueError") (u := .type "ValueError") (by rfl) (f_ValueError T) (by decide +kernel) rfl) pa_nil)))))))) (pss_one (ps_ret pe_str)) pss_nil)
  (pss_cons (ps_set (i := 3) sc_law_kind.nd rfl (.inl rfl) (pe_lst (pa_cons pe_str (pa_cons pe_str (pa_cons pe_str (pa_cons pe_str (pa_cons pe_str (pa_cons pe_str pa_nil))))))))
  (pss_one (ps_ret (pe_ifExp (pt_val (pe_ix ix_list (pv 2) pe_int (fun _ _ => rfl))) (pe_tup (pa_cons pe_str (pa_cons (pe_fldX (X := (cxOf C8.CX0 X.prog X.w X.K X.mg X.base N_law_kind "_law_kind" (defScope s_law_kind) (He.fAd X.K ("_law_kind", none)) cdg X.A X.stack s H C8.E0).nox) hz hf (pv 1)) pa_nil))) (pe_ix ix_list (pv 3) (pe_bm PySem.F.plainAttrs_list PySem.F.slot_list_index PySem.F.type_list_index (mt_index (X := Cx.suite (cxOf C8.CX0 X.prog X.w X.K X.mg X.base N_law_kind "_law_kind" (defScope s_law_kind) (He.fAd X.K ("_law_kind", none)) cdg X.A X.stack s H C8.E0).nox a ((a, oe) :: pn))) (pv 2) (pa_cons pe_bl pa_nil)) (fun _ _ => rfl))))))))))
  case body =>
    obtain ⟨Ech, hW, h1, h2, h3⟩ := h'
    exact (pss_one (ps_expr (act (fun cls d σ H => σ.length = 4 → W cls d σ H) pn xe Ech _ _ (takes_len tk) (fun cls d σ' H' e l => hW cls d σ' H' l e)))).run pins s' σ H' D I ⟨h1, h2, h3⟩
  case fin =>
    rw [st_law_kind]
    refine iSeq ?_
    refine ⟨_, fun cls d σ' H' hl e => ?_, rfl, hc, h⟩
    obtain ⟨n, dd, rfl, rfl, hdd, q⟩ := e
    refine ⟨true, exm_BadText T, fun _ a na => ?_, fun z => nomatch z⟩
    obtain ⟨y0, y1, y2, y3, rfl⟩ : ∃ y0 y1 y2 y3, σ' = [y0, y1, y2, y3] := by
      match σ', hl with
      | [y0, y1, y2, y3], _ => exact ⟨y0, y1, y2, y3, rfl⟩
    unfold tsK isXr
    have C := xcc_BadText T
    wtm_at "go"
    refine iIsX C ⟨_, hdd⟩ (fun u r => r) (kit_BadText_BadSize T) ?_
    wtm_at "go"
    refine iIsX C ⟨_, hdd⟩ (fun u r => r) (kit_BadText_TooMany T) ?_
    wtm_at "go"
    refine iIsX C ⟨_, hdd⟩ (fun u r => r) (kit_BadText_NoClient T) ?_
    wtm_at "go"
    refine iIsX C ⟨_, hdd⟩ (fun u r => r) (kit_BadText_BadLetter T) ?_
    wtm_at "go"
    intro p1 np1
    have s1 := same_new (o := .lst [.bl false, .bl false, .bl false, .bl false]) np1
    have hd1 := s1 _ _ hdd
    have e1 : upd H' p1 (.lst [.bl false, .bl false, .bl false, .bl false]) p1 = some (.lst [.bl false, .bl false, .bl false, .bl false]) := upd_same
    generalize upd H' p1 (.lst [.bl false, .bl false, .bl false, .bl false]) = H1 at s1 hd1 e1 ⊢
    wtm_at "go"
    refine iIsX C ⟨_, hd1⟩ (fun u r => r) (kit_BadText_BadTouch T) ?_
    wtm_at "go"
    refine iIsX C ⟨_, hd1⟩ (fun u r => r) (kit_BadText_BadKey T) ?_
    wtm_at "go"
    refine iIsX C ⟨_, hd1⟩ (fun u r => r) (kit_BadText_BadText T) ?_
    wtm_at "go"
    intro p2 np2
    have s2 := same_new (o := .lst [.bl false, .bl false, .bl true]) np2
    have hd2 := s2 _ _ hd1
    have e2 := s2 _ _ e1
    have e3 : upd H1 p2 (.lst [.bl false, .bl false, .bl true]) p2 = some (.lst [.bl false, .bl false, .bl true]) := upd_same
    generalize upd H1 p2 (.lst [.bl false, .bl false, .bl true]) = H2 at s2 hd2 e2 e3 ⊢
    wtm_at "go"
    refine gCat ⟨_, e2, _, e3, (show 7 ≤ sizeLine by decide), fun p3 np3 => ?_⟩
    have s3 := same_new (o := .lst [.bl false, .bl false, .bl false, .bl false, .bl false, .bl false, .bl true]) np3
    have hd3 := s3 _ _ hd2
    have e4 : upd H2 p3 (.lst [.bl false, .bl false, .bl false, .bl false, .bl false, .bl false, .bl true]) p3 = some (.lst [.bl false, .bl false, .bl false, .bl false, .bl false, .bl false, .bl true]) := upd_same
    show gName _ _ _ (upd H2 p3 (.lst [.bl false, .bl false, .bl false, .bl false, .bl false, .bl false, .bl true])) _
    generalize upd H2 p3 (.lst [.bl false, .bl false, .bl false, .bl false, .bl false, .bl false, .bl true]) = H3 at s3 hd3 e4 ⊢
    wtm_at "go"
    refine ⟨p3, [false, false, false, false, false, false, true], rfl, rfl, SqL.of e4, ?_⟩
    wtm_at "go"
    refine iIsX C ⟨_, hd3⟩ (fun u r => r) (kit_BadText_ValueError T) ?_
    wtm_at "go"
    intro p4 np4
    have s4 := same_new (o := .lst [.str "BadSize", .str "TooMany", .str "NoClient", .str "BadLetter", .str "BadTouch", .str "BadKey"]) np4
    have hd4 := s4 _ _ hd3
    have e5 := s4 _ _ e4
    show gName _ _ _ (upd H3 p4 (.lst [.str "BadSize", .str "TooMany", .str "NoClient", .str "BadLetter", .str "BadTouch", .str "BadKey"])) _
    generalize upd H3 p4 (.lst [.str "BadSize", .str "TooMany", .str "NoClient", .str "BadLetter", .str "BadTouch", .str "BadKey"]) = H4 at s4 hd4 e5
    wtm_at "go"
    refine iIf ?_
    wtm_at "go"
    refine ⟨.ref a, rfl, rfl, BT X.K, dd, _, .int n, rfl, C, nof_BadText_line T, rfl, hd4, rfl, ?_⟩
    wtm_at "go"
    intro p5 np5
    exact q _ _ ((((s1.trans s2).trans s3).trans s4).trans (same_new np5)) upd_same
end

abbrev BL := List (Addr × List Lt)
/-- books that are being read: lists in a list, all new -/
structure Bks (K : PySem.W.Frag) (H0 H : Hp) (pb : Addr) (B : BL) : Prop where
  at_ : H pb = some (.lst (B.map fun e => .ref e.1))
  each : ∀ e ∈ B, ∃ xs, H e.1 = some (.lst xs) ∧ Paired (LtT K H) xs e.2
  nd : (B.map fun e => e.1).Nodup
  ne : ∀ e ∈ B, e.1 ≠ pb
  new : ∀ e ∈ B, H0 e.1 = none
  nb : H0 pb = none
section
variable {K : PySem.W.Frag} {H0 H H' : Hp} {pb : Addr} {B : BL}
theorem Bks.same (h : Bks K H0 H pb B) (s : Same H H') : Bks K H0 H' pb B := ⟨s _ _ h.at_, fun e he => let ⟨xs, a, b⟩ := h.each e he; ⟨xs, s _ _ a, pMap b fun _ _ z => z.fr (Fr.same (S := []) s)⟩, h.nd, h.ne, h.new, h.nb⟩
theorem ad_inj (h : (B.map fun e => e.1).Nodup) {a b : Nat} {x y : Addr × List Lt} (hx : B[a]? = some x) (hy : B[b]? = some y) (e : x.1 = y.1) : a = b := by
  obtain ⟨h1, e1⟩ := List.getElem?_eq_some_iff.mp hx
  obtain ⟨h2, e2⟩ := List.getElem?_eq_some_iff.mp hy
  have := (List.getElem_inj (i := a) (j := b) (h₀ := by rw [List.length_map]; exact h1) (h₁ := by rw [List.length_map]; exact h2) h).mp (by rw [List.getElem_map, List.getElem_map, e1, e2]; exact e)
  exact this
/-- one letter more in the k-th -/
theorem Bks.push (h : Bks K H0 H pb B) {k : Nat} {ad : Addr} {ls : List Lt} (e : B[k]? = some (ad, ls)) {xs : List V} (hx : H ad = some (.lst xs)) (hp : Paired (LtT K H) xs ls) {t : Addr} {l : Lt} (ht : SqT K H t l.vs) :
    Bks K H0 (upd H ad (.lst (xs ++ [.ref t]))) pb (B.set k (ad, ls ++ [l])) := by
  have hm : (ad, ls) ∈ B := List.mem_of_getElem? e
  have f : Fr [ad] H (upd H ad (.lst (xs ++ [.ref t]))) := Fr.set hx rfl (by simp)
  have hk := (List.getElem?_eq_some_iff.mp e).1
  have eads : ∀ {β : Type} (g : Addr → β), (B.set k (ad, ls ++ [l])).map (fun e => g e.1) = B.map fun e => g e.1 := fun g => by
    rw [List.map_set]
    apply List.ext_getElem?
    intro i
    by_cases hi : i = k
    · subst hi
      rw [List.getElem?_set_self (by rw [List.length_map]; exact hk), List.getElem?_map, e]
      rfl
    · rw [List.getElem?_set_ne (by omega)]
  refine ⟨?_, fun x hx' => ?_, ?_, fun x hx' => ?_, fun x hx' => ?_, h.nb⟩
  · rw [eads (fun a => V.ref a)]
    exact f.at_ _ _ h.at_ (by simpa using Ne.symm (h.ne _ hm))
  · obtain ⟨i, hi, rfl⟩ := List.getElem_of_mem hx'
    rw [List.length_set] at hi
    by_cases ik : i = k
    · subst ik
      rw [List.getElem_set_self]
      exact ⟨_, upd_same, pSnoc (pMap hp fun _ _ z => z.fr f) ⟨t, rfl, f.sqT ht⟩⟩
    · rw [List.getElem_set_ne (by omega)]
      obtain ⟨ys, a, b⟩ := h.each B[i] (List.getElem_mem hi)
      refine ⟨ys, f.at_ _ _ a fun z => ik ?_, pMap b fun _ _ z => z.fr f⟩
      exact ad_inj h.nd (List.getElem?_eq_getElem hi) e (List.mem_singleton.mp z)
  · rw [eads (fun a => a)]
    exact h.nd
  · have : x.1 ∈ (B.set k (ad, ls ++ [l])).map fun e => e.1 := List.mem_map_of_mem (f := fun e => e.1) hx'
    rw [eads (fun a => a)] at this
    obtain ⟨y, hy, ey⟩ := List.mem_map.mp this
    rw [← ey]
    exact h.ne y hy
  · have : x.1 ∈ (B.set k (ad, ls ++ [l])).map fun e => e.1 := List.mem_map_of_mem (f := fun e => e.1) hx'
    rw [eads (fun a => a)] at this
    obtain ⟨y, hy, ey⟩ := List.mem_map.mp this
    rw [← ey]
    exact h.new y hy
end

/-! ### read, any text: walked -/
theorem spl1 {c : Nat} : ∀ (L acc : List Nat), ∃ p ps, TL.spl [c] 0 acc L = p :: ps ∧ ps.length ≤ L.length ∧ ((p :: ps).map (·.length)).sum + ps.length = acc.length + L.length ∧ ∀ q ∈ p :: ps, ∀ x ∈ q, x ∈ acc ++ L
  | [], acc => ⟨acc, [], TL.spl_nil _ _ _, Nat.le_refl _, by simp, fun q hq x hx => by rw [List.mem_singleton.mp hq] at hx; exact List.mem_append_left _ hx⟩
  | d :: r, acc => by
    cases h : TL.pre [c] (d :: r) with
    | true =>
      obtain ⟨p, ps, e, h1, h2, h3⟩ := spl1 (c := c) r []
      refine ⟨acc, p :: ps, by rw [TL.spl_hit h]; exact congrArg (acc :: ·) e, Nat.succ_le_succ h1, ?_, fun q hq x hx => ?_⟩
      · simp only [List.map_cons, List.sum_cons, List.length_cons, List.length_nil] at h2 ⊢; omega
      · rcases List.mem_cons.mp hq with rfl | hq
        · exact List.mem_append_left _ hx
        · exact List.mem_append_right _ (List.mem_cons_of_mem _ (by simpa using h3 q hq x hx))
    | false =>
      obtain ⟨p, ps, e, h1, h2, h3⟩ := spl1 (c := c) r (acc ++ [d])
      refine ⟨p, ps, by rw [TL.spl_miss h]; exact e, Nat.le_succ_of_le h1, ?_, fun q hq x hx => ?_⟩
      · simp only [List.length_append, List.length_cons, List.length_nil] at h2 ⊢; omega
      · have := h3 q hq x hx
        rw [List.append_assoc] at this
        exact this
theorem sum_mem : ∀ {ys : List Nat} {y : Nat}, y ∈ ys → y ≤ ys.sum
  | a :: ys, y, h => by
    rw [List.sum_cons]
    rcases List.mem_cons.mp h with rfl | h
    · omega
    · have := sum_mem h; omega
/-- a text split at one sign -/
structure Spl (s : Str) (ys : List Str) (n : Nat) : Prop where
  ne : ys ≠ []
  each : ∀ y ∈ ys, TO y n
  le : ys.length ≤ n + 1
  sum : (ys.map (·.length)).sum + ys.length = s.length + 1
theorem split1 {c : Nat} (hc : c < 256) {s : Str} {n : Nat} (h : TO s n) : Spl s (Txt.split s ⟨#[c]⟩) n := by
  have hk : ([c] : List Nat).all (· < 256) = true := by simp [hc]
  have e : Txt.split s ⟨#[c]⟩ = (TL.spl [c] 0 [] s.cps.toList).map SX.S := (congrArg (fun z => Txt.split z ⟨#[c]⟩) (s_of s)).trans (SX.split_S (by simp) hk)
  obtain ⟨p, ps, e2, h1, h2, h3⟩ := spl1 (c := c) s.cps.toList []
  have hs : s.cps.toList.length = s.length := Array.length_toList ..
  rw [e, e2]
  have hl : (((p :: ps).map SX.S).map (·.length)) = (p :: ps).map (·.length) := SX.lens _
  have h2 : ((p :: ps).map (·.length)).sum + ps.length = s.length := by simpa [hs] using h2
  refine ⟨by simp, fun y hy => ?_, ?_, ?_⟩
  · obtain ⟨q, hq, rfl⟩ := List.mem_map.mp hy
    have e3 : (SX.S q).cps.toList = q := List.toList_toArray ..
    refine ⟨to_of fun d hd => ?_, ?_⟩
    · rw [e3] at hd
      exact to_mem h.ok (by simpa using h3 q hq d hd)
    · have : q.length ≤ ((p :: ps).map (·.length)).sum := sum_mem (List.mem_map_of_mem hq)
      have e4 : (SX.S q).length = q.length := SX.S_len _
      have := h.le
      omega
  · rw [List.length_map, List.length_cons]
    have := h.le
    omega
  · rw [hl, List.length_map, List.length_cons]
    omega
theorem letT_nil : letT [] = none := letT_no fun ⟨l, _, e⟩ => nomatch e
/-- raise BadText(n) -/
theorem iMkBT {K : PySem.W.Frag} {σ : L2.St} {H : Hp} {Q : XK} {n : Int} {ta : TA} (h : ∀ k : List V → Hp → Prop, k [.int n] H → ta σ H k) (q : ∀ H' dd, Same H H' → H' dd = some (.xd [(("line" : Str), .int n)]) → Q (.ref (BT K)) (some dd) H') : tMkO (BT K) (spBT K) [] ta σ H Q := by
  refine h _ ⟨Nat.le_of_ble_eq_true rfl, fun a na => ⟨a, n, rfl, upd_same, fun dx ndx ne => ?_⟩⟩
  have hdx : H dx = none := by rw [upd_ne ne] at ndx; exact ndx
  refine ⟨rfl, dx, _, upd_same, by rw [upd_ne ne, upd_same], hdx, q _ dx (fun x o e => ?_) upd_same⟩
  have xa : x ≠ a := fun z => by rw [z, na] at e; cases e
  have xd : x ≠ dx := fun z => by rw [z, hdx] at e; cases e
  rw [upd_ne xd]
  show del _ a x = _
  unfold del
  rw [if_neg xa, upd_ne xa, upd_ne xd, upd_ne xa]
  exact e
def spReadG (K : PySem.W.Frag) : Sp := fun vs H Q E => ∃ s : Str, vs = [.str s] ∧ TO s 80000 ∧
  (∀ bs, readT s = .ok bs → ∀ H' pb B, Same H H' → Bks K H H' pb B → B.map (fun e => e.2) = bs → Q (.ref pb) H') ∧
  (∀ n : Nat, readT s = .error n → ∀ H' dd, Same H H' → H' dd = some (.xd [(("line" : Str), .int n)]) → E (.ref (BT K)) (some dd) H')
section
variable {P : Program} {w : World} {K : PySem.W.Frag} {mg : Str → Option Value} {base : Heap}
theorem okg_read (T : Tx w K mg) : CalX P w K mg base 5 "read" (spReadG K) := by
  refine mk_read T (fun vs H Q E h => ?_) (fun cdv A outer s H vs Q E hr h => ?_)
  · obtain ⟨s, rfl, _⟩ := h
    rfl
  · obtain ⟨sx, rfl, ht, q, qe⟩ := h
    refine ⟨_, (pss_cons (ps_set (i := 1) sc_read.nd rfl (.inl rfl) (pe_lst pa_nil))
  (pss_cons (ps_if (pt_cmpR op_eq (pv 0) pe_str (nomark _)) (pss_one (ps_ret (pv 1))) pss_nil)
  (pss_cons (ps_for (L2.passes_of rfl) rfl (pi_enum (by rfl) (f_enumerate T) (pa_cons (pe_split (pv 0) pe_str) pa_nil)) (pg_tup (n := 2) rfl (pgs_cons (pg_name (i := 2) sc_read.nd rfl (.inl rfl)) (pgs_cons (pg_name (i := 3) sc_read.nd rfl (.inl rfl)) pgs_nil))) (pss_cons (ps_set (i := 4) sc_read.nd rfl (.inl rfl) (pe_split (pv 3) pe_str))
  (pss_cons (ps_set (i := 5) sc_read.nd rfl (.inl rfl) (pe_c (okg_number_of T) hr (by omega) rfl (pa_cons (pe_ix ix_list (pv 4) pe_int (fun _ _ => rfl)) pa_nil)))
  (pss_cons (ps_set (i := 6) sc_read.nd rfl (.inl rfl) (pe_ifExp (pt_cmpR op_gt (pe_callB c_len (by rfl) (f_len T) (by decide +kernel) (pa_cons (pv 4) pa_nil)) pe_int (nomark _)) (pe_c (okg_letter_of T) hr (by omega) rfl (pa_cons (pe_slice sl_list (pv 4) (po_some pe_int) po_none) pa_nil)) pe_non))
  (pss_cons (ps_if (PW.pt (pw_or (pt_cmpR o_isN (pv 5) pe_non (nomark _)) (pw_or (pt_cmpR o_isN (pv 6) pe_non (nomark _)) (pw_or (pt_not (pt_chain op_le op_lt (pe_op op_sub (pe_callB c_len (by rfl) (f_len T) (by decide +kernel) (pa_cons (pv 1) pa_nil)) pe_int) (pv 5) (pe_gc rfl (int_MOST_CLIENTS T)))) (pw_or1 (pt_cmpR op_lt (pv 5) pe_int (nomark _))))))) (pss_one (ps_raiseX rfl (oex_BadText T) (ok_BadText___init__ (K := K) T) hr (by omega) (L2.takes_of rfl rfl rfl rfl) (by rfl) (g_BadText T) (pa_cons (pv 2) pa_nil))) pss_nil)
  (pss_cons (ps_expr (pe_bm PySem.F.plainAttrs_list PySem.F.slot_list_extend PySem.F.type_list_extend mt_extend (pv 1) (pa_cons (pe_lc (own := [("k", 7)]) rfl sc_read.nd (pi_range1 rfl (f_range T) (pa_cons (pe_op op_sub (pe_op op_add (pv 5) pe_int) (pe_callB c_len (by rfl) (f_len T) (by decide +kernel) (pa_cons (pv 1) pa_nil))) pa_nil)) (blkOk_by (N := N_read) (sc := defScope s_read) (by decide +kernel)) (fun _ _ _ _ _ => (pg_name (i := 7) sc_read.nd rfl (.inl rfl))) (fun _ _ _ _ _ => pts_nil) (fun _ _ _ _ _ => (pe_lst pa_nil))) pa_nil)))
  (pss_one (ps_expr (pe_bm PySem.F.plainAttrs_list PySem.F.slot_list_append PySem.F.type_list_append mt_append (pe_ix ix_list (pv 1) (pv 5) (fun _ _ => rfl)) (pa_cons (pv 6) pa_nil))))))))))
  (pss_one (ps_ret (pv 1)))))), ?_⟩
    rw [st_read]
    wtm_at "go"
    intro pb npb
    have I0 : Bks K H (upd H pb (.lst [])) pb [] := ⟨upd_same, (fun _ h => nomatch h), List.nodup_nil, (fun _ h => nomatch h), (fun _ h => nomatch h), npb⟩
    have s0 := same_new (o := .lst []) npb
    show gName _ _ _ (upd H pb (.lst [])) _
    generalize upd H pb (.lst []) = H1 at I0 s0
    wtm_at "go"
    first | refine iteD (fun e => ?_) (fun e => ?_) | refine iteN (fun e => ?_) (fun e => ?_) | refine ite2 (fun e => ?_) (fun e => ?_)
    · wtm_at "go"
      exact q [] (by unfold readT; rw [if_pos e]) _ pb [] s0 I0 rfl
    · have er : readT sx = goT ((Txt.split sx "\n").map fun r => Txt.split r " ") 0 [] := by unfold readT; rw [if_neg e]
      wtm_at "go"
      refine iM1 ?_
      wtm_at "go"
      refine gM1 ?_
      wtm_at "go"
      refine ⟨_, _, rfl, rfl, by decide, Nat.le_trans (Nat.add_le_add_right ht.le 2) (by decide), fun p np => ?_⟩
      have hS : Spl sx (Txt.split sx "\n") 80000 := split1 (c := 10) (by decide) ht
      rw [er] at q qe
      generalize Txt.split sx "\n" = rows at q qe hS
      have hp : upd H1 p (.lst (rows.map V.str)) p = some (.lst (rows.map V.str)) := upd_same
      have s1 := same_new (o := .lst (rows.map V.str)) np
      have I1 := I0.same s1
      have npbp : pb ≠ p := ne_of_none I0.at_ np
      generalize upd H1 p (.lst (rows.map V.str)) = H2 at hp s1 I1
      have hnew2 : H p = none := s0.free np
      have hsame2 : Same H H2 := s0.trans s1
      wtm_at "go"
      refine eForE (xs := rows.map V.str) (fun n σ H' => ∃ y2 y3 y4 y5 y6 y7 B, σ = [some (.str sx), some (.ref pb), y2, y3, y4, y5, y6, y7] ∧ Same H H' ∧ Bks K H H' pb B ∧ goT (rows.map fun r => Txt.split r " ") 0 [] = goT ((rows.drop n).map fun r => Txt.split r " ") n (B.map fun e => e.2) ∧ (B.length ≤ 5 ∧ ∀ b ∈ B, b.2.length ≤ n) ∧ H' p = some (.lst (rows.map V.str))) ?_ ?_ ?_ ?_
      · exact ⟨_, _, _, _, _, _, [], rfl, hsame2, I1, rfl, ⟨Nat.zero_le _, fun _ h => nomatch h⟩, hp⟩
      · exact fun n σ H' _ ⟨_, _, _, _, _, _, _, _, _, _, _, _, h⟩ => SqL.of h
      · rintro n x σ H3 Tt ex ⟨y2, y3, y4, y5, y6, y7, B, rfl, s3, I3, hG, ⟨hB5, hBn⟩, hp3⟩ nT
        rw [List.getElem?_map] at ex
        obtain ⟨row, em, rfl⟩ := Option.map_eq_some_iff.mp ex
        have hto : TO row 80000 := hS.each row (List.mem_of_getElem? em)
        have hT : upd H3 Tt (.tup [.int (n : Nat), .str row]) Tt = some (.tup [.int (n : Nat), .str row]) := upd_same
        have s4 := same_new (o := .tup [.int (n : Nat), .str row]) nT
        show gTup _ _ _ _ _ (upd H3 Tt (.tup [.int (n : Nat), .str row])) _
        generalize upd H3 Tt (.tup [.int (n : Nat), .str row]) = H4 at hT s4
        wtm_at "go"
        refine iM1 ?_
        wtm_at "go"
        refine gM1 ?_
        wtm_at "go"
        refine ⟨row, " ", rfl, rfl, by decide, Nat.le_trans (Nat.add_le_add_right hto.le 2) (by decide), fun p4 np4 => ?_⟩
        have hS4 : Spl row (Txt.split row " ") 80000 := split1 (c := 32) (by decide) hto
        have hd : rows.drop n = row :: rows.drop (n + 1) := by
          obtain ⟨h1, h2⟩ := List.getElem?_eq_some_iff.mp em
          rw [List.drop_eq_getElem_cons h1, h2]
        rw [hd, List.map_cons] at hG
        obtain ⟨wd, wr, ew⟩ : ∃ wd wr, Txt.split row " " = wd :: wr := by
          cases z : Txt.split row " " with
          | nil => exact absurd z hS4.ne
          | cons a b => exact ⟨a, b, rfl⟩
        rw [ew] at hS4 hG ⊢
        have hp4 : upd H4 p4 (.lst ((wd :: wr).map V.str)) p4 = some (.lst ((wd :: wr).map V.str)) := upd_same
        have s5 := same_new (o := .lst ((wd :: wr).map V.str)) np4
        generalize upd H4 p4 (.lst ((wd :: wr).map V.str)) = H5 at hp4 s5
        wtm_at "go"
        refine iIxL (SqL.of hp4) (at_of (j := 0) rfl rfl) ?_
        wtm_at "go"
        refine ⟨wd, rfl, (hS4.each wd (List.mem_cons_self ..)).mono (by decide), fun H6 s6 => ?_⟩
        have hp6 := s6 _ _ hp4
        wtm_at "go"
        refine iIfK (fun v H' => Same H6 H' ∧ ((letT wr = none ∧ v = .non) ∨ ∃ l t, letT wr = some l ∧ v = .ref t ∧ SqT K H' t l.vs)) (fun Q' k' => ?_) (fun v H7 hv => ?_)
        · wtm_at "go"
          cases wr with
          | nil =>
            refine iteNo (by simp) ?_
            wtm_at "go"
            exact k' _ _ ⟨Same.refl _, .inl ⟨letT_nil, rfl⟩⟩
          | cons w2 wr =>
            refine iteYes (by simp only [List.map_cons, List.length_cons]; omega) ?_
            wtm_at "go"
            refine iSlL (SqL.of hp6) fun p5 np5 => ?_
            rw [show cutV ((wd :: w2 :: wr).map V.str) (some 1) none = (w2 :: wr).map V.str from cut_from (n := 1)]
            wtm_at "go"
            have hw5 : (w2 :: wr).length ≤ 80000 := by have := hS4.le; simp only [List.length_cons] at this ⊢; omega
            refine ⟨p5, w2, wr, rfl, SqL.of upd_same, fun x hx => (hS4.each x (List.mem_cons_of_mem _ (List.mem_cons_of_mem _ hx))).mono (by decide), by simp only [List.length_cons] at hw5; omega, fun en H' s' => ?_, fun l el H' t s' ht => ?_⟩
            · exact k' _ _ ⟨(same_new np5).trans s', .inl ⟨en, rfl⟩⟩
            · exact k' _ _ ⟨(same_new np5).trans s', .inr ⟨l, t, el, rfl, ht⟩⟩
        · obtain ⟨s7, hv⟩ := hv
          have s47 := s4.trans (s5.trans (s6.trans s7))
          have I7 := I3.same s47
          have hpb7 := I7.at_
          have s37 := s3.trans s47
          have hp7 := s47 _ _ hp3
          have hml : (B.map fun e => V.ref e.1).length = B.length := List.length_map ..
          have bad : (∀ p, rowT (wd :: wr) = some p → ¬ B.length ≤ p.1 + 1) → goT (rows.map fun r => Txt.split r " ") 0 [] = .error n := fun z => by
            rw [hG]
            unfold goT
            cases e3 : rowT (wd :: wr) with
            | none => rfl
            | some p =>
              show (if _ then _ else _) = _
              rw [if_neg (by rw [List.length_map]; exact z p e3)]
          have no : goT (rows.map fun r => Txt.split r " ") 0 [] = .error n → ∀ H8 dd, Same H7 H8 → H8 dd = some (.xd [(("line" : Str), .int n)]) → E (.ref (BT K)) (some dd) H8 := fun z H8 dd s8 hd => qe n z H8 dd (s37.trans s8) hd
          have no2 : ∀ {σ : L2.St}, (∀ p, rowT (wd :: wr) = some p → ¬ B.length ≤ p.1 + 1) → σ[2]? = some (some (.int n)) → tMkO (BT K) (spBT K) [] (tCons (tVar 2) tNil) σ H7 fun cls d H' => E cls d H' := fun {σ} z e => iMkBT (n := n) (fun k h => ⟨_, e, h⟩) (no (bad z))
          rcases hv with ⟨el, rfl⟩ | ⟨l, t, el, rfl, ht⟩
          · have nr : rowT (wd :: wr) = none := by
              show (match numT wd, letT wr with | some k, some l => if 0 ≤ k ∧ k < 5 then some (k.toNat, l) else none | _, _ => none) = none
              rw [el]
              cases numT wd <;> rfl
            have nr2 : ∀ p, rowT (wd :: wr) = some p → ¬ B.length ≤ p.1 + 1 := fun p z => by rw [nr] at z; cases z
            cases ek : numT wd with
            | none =>
              dsimp only [numV]
              wtm_at "go"
              exact no2 nr2 rfl
            | some k =>
              dsimp only [numV]
              wtm_at "go"
              exact no2 nr2 rfl
          · cases ek : numT wd with
            | none =>
              have nr : rowT (wd :: wr) = none := by
                show (match numT wd, letT wr with | some k, some l => if 0 ≤ k ∧ k < 5 then some (k.toNat, l) else none | _, _ => none) = none
                rw [ek]
              dsimp only [numV]
              wtm_at "go"
              exact no2 (fun p z => by rw [nr] at z; cases z) rfl
            | some k =>
              have er : rowT (wd :: wr) = if 0 ≤ k ∧ k < 5 then some (k.toNat, l) else none := by
                show (match numT wd, letT wr with | some k, some l => if 0 ≤ k ∧ k < 5 then some (k.toNat, l) else none | _, _ => none) = _
                rw [ek, el]
              dsimp only [numV]
              have bad3 : ¬ ((B.length : Int) - 1 ≤ k ∧ k < 5 ∧ 0 ≤ k) → ∀ p, rowT (wd :: wr) = some p → ¬ B.length ≤ p.1 + 1 := fun z p e y => by
                rw [er] at e
                split at e
                · next h => cases e; exact z (by dsimp only at y; omega)
                · cases e
              by_cases hkk : (B.length : Int) - 1 ≤ k ∧ k < 5 ∧ 0 ≤ k
              · obtain ⟨k, rfl⟩ := Int.eq_ofNat_of_zero_le hkk.2.2
                have hBl : B.length ≤ k + 1 := by omega
                have hG2 : goT (rows.map fun r => Txt.split r " ") 0 [] = goT ((rows.drop (n + 1)).map fun r => Txt.split r " ") (n + 1) (step (B.map fun e => e.2) (k, l)) := by
                  rw [hG]
                  show (match rowT (wd :: wr) with | some p => if (B.map fun e : Addr × List Lt => e.2).length ≤ p.1 + 1 then goT _ (n + 1) (step (B.map fun e : Addr × List Lt => e.2) p) else .error n | none => .error n) = _
                  rw [er, if_pos (by omega)]
                  show (if _ then _ else _) = _
                  rw [if_pos (by rw [List.length_map]; exact hBl)]
                  rfl
                wtm_at "go"
                rw [hml]
                refine iteYes (by omega) ?_
                wtm_at "go"
                refine iteNNo (by omega) ?_
                wtm_at "go"
                refine iteNo (by omega) ?_
                wtm_at "go"
                rw [hml]
                wtm_at "go"
                intro D nD
                have npbD := ne_of_none hpb7 nD
                refine eLcR (lo := 0) (fun i H' => ∃ rs : List Addr, rs.length = i ∧ Fr [D] H7 H' ∧ H' D = some (.lst (rs.map V.ref)) ∧ (∀ r ∈ rs, H' r = some (.lst []) ∧ H7 r = none ∧ r ≠ D) ∧ rs.Nodup) ⟨[], rfl, Fr.new nD, upd_same, (fun _ h => nomatch h), List.nodup_nil⟩ ?_ ?_
                · rintro i H8 hi ⟨rs, hrl, f8, hD, hr, hnd⟩
                  wtm_at "go"
                  intro r nr
                  have hrD : D ≠ r := ne_of_none hD nr
                  have hD2 := same_new (o := .lst []) nr _ _ hD
                  have f9 : Fr [D] (upd H8 r (.lst [])) (upd (upd H8 r (.lst [])) D (.lst (rs.map V.ref ++ [.ref r]))) := Fr.set hD2 rfl (by simp)
                  refine ⟨_, hD2, ?_, rs ++ [r], by rw [List.length_append, hrl]; rfl, (f8.trans (Fr.new nr)).trans f9, by rw [upd_same, List.map_append]; rfl, fun x hx => ?_, ?_⟩
                  · rw [List.length_map, hrl]
                    exact Nat.lt_of_lt_of_le hi (Nat.le_trans (show _ ≤ 10 by omega) (by decide))
                  · rcases List.mem_append.mp hx with hx | hx
                    · obtain ⟨a, b, c⟩ := hr x hx
                      exact ⟨f9.at_ _ _ (same_new nr _ _ a) (by simpa using c), b, c⟩
                    · rw [List.mem_singleton.mp hx]
                      exact ⟨f9.at_ _ _ upd_same (by simpa using Ne.symm hrD), f8.free nr, Ne.symm hrD⟩
                  · rw [List.nodup_append]
                    refine ⟨hnd, by simp, fun a ha b hb e => ?_⟩
                    rw [List.mem_singleton.mp hb] at e
                    rw [e] at ha
                    rw [(hr r ha).1] at nr
                    cases nr
                · rintro H8 ⟨rs, hrl, f8, hD, hr, hnd⟩
                  have hpb8 := f8.at_ _ _ hpb7 (by simpa using npbD)
                  wtm_at "go"
                  refine iExtend hpb8 hD (Nat.le_trans (show _ ≤ 10 by rw [hml, List.length_map, hrl]; omega) (by decide)) ?_
                  have I9 : Bks K H (upd H8 pb (.lst ((B.map fun e => V.ref e.1) ++ rs.map V.ref))) pb (B ++ rs.map fun r => (r, [])) := by
                    have f9 : Fr [pb] H8 (upd H8 pb (.lst ((B.map fun e => V.ref e.1) ++ rs.map V.ref))) := Fr.set hpb8 rfl (by simp)
                    have f79 : ∀ a o, H7 a = some o → a ≠ pb → upd H8 pb (.lst ((B.map fun e => V.ref e.1) ++ rs.map V.ref)) a = some o := fun a o e z => f9.at_ _ _ (f8.at_ _ _ e (by simpa using ne_of_none e nD)) (by simpa using z)
                    refine ⟨by rw [upd_same]; simp, fun x hx => ?_, ?_, fun x hx => ?_, fun x hx => ?_, I7.nb⟩
                    · rcases List.mem_append.mp hx with hx | hx
                      · obtain ⟨ys, a, b⟩ := I7.each x hx
                        exact ⟨ys, f79 _ _ a (I7.ne x hx), pMap b fun _ _ z => (z.fr f8).fr f9⟩
                      · obtain ⟨r, hr2, rfl⟩ := List.mem_map.mp hx
                        exact ⟨[], f9.at_ _ _ (hr r hr2).1 (fun z => by
                          have := (hr r hr2).2.1
                          have z2 : r = pb := List.mem_singleton.mp z
                          rw [z2, hpb7] at this
                          cases this), .nil⟩
                    · rw [List.map_append, List.nodup_append]
                      refine ⟨I7.nd, by rw [List.map_map, show ((fun e : Addr × List Lt => e.1) ∘ fun r => (r, [])) = id from rfl, List.map_id]; exact hnd, fun a ha b hb e => ?_⟩
                      obtain ⟨x, hx, rfl⟩ := List.mem_map.mp ha
                      obtain ⟨y, hy, rfl⟩ := List.mem_map.mp hb
                      obtain ⟨r, hr2, rfl⟩ := List.mem_map.mp hy
                      obtain ⟨ys, a, _⟩ := I7.each x hx
                      have z2 : x.1 = r := e
                      rw [z2, (hr r hr2).2.1] at a
                      cases a
                    · rcases List.mem_append.mp hx with hx | hx
                      · exact I7.ne x hx
                      · obtain ⟨r, hr2, rfl⟩ := List.mem_map.mp hx
                        intro z
                        have := (hr r hr2).2.1
                        rw [show r = pb from z, hpb7] at this
                        cases this
                    · rcases List.mem_append.mp hx with hx | hx
                      · exact I7.new x hx
                      · obtain ⟨r, hr2, rfl⟩ := List.mem_map.mp hx
                        exact s37.free (hr r hr2).2.1
                  have s9 : Same H (upd H8 pb (.lst ((B.map fun e => V.ref e.1) ++ rs.map V.ref))) := fun a o e => by
                    rw [upd_ne (ne_of_none e npb)]
                    exact f8.at_ _ _ (s37 _ _ e) (by simpa using ne_of_none (s37 _ _ e) nD)
                  have ht9 : SqT K (upd H8 pb (.lst ((B.map fun e => V.ref e.1) ++ rs.map V.ref))) t l.vs := (Fr.set (S := [pb]) hpb8 rfl (by simp)).sqT (f8.sqT ht)
                  have hp9 : upd H8 pb (.lst ((B.map fun e => V.ref e.1) ++ rs.map V.ref)) p = some (.lst (rows.map V.str)) := by
                    rw [upd_ne (Ne.symm npbp)]
                    exact f8.at_ _ _ hp7 (by simpa using ne_of_none hp7 nD)
                  have hB9 : (B ++ rs.map fun r => ((r, []) : Addr × List Lt)).map (fun e : Addr × List Lt => e.2) = B.map (fun e : Addr × List Lt => e.2) ++ List.replicate (k + 1 - (B.map fun e : Addr × List Lt => e.2).length) ([] : List Lt) := by
                    rw [List.map_append, List.map_map]
                    congr 1
                    rw [show ((fun e : Addr × List Lt => e.2) ∘ fun r => (r, [])) = fun _ => ([] : List Lt) from rfl, List.map_const', hrl, List.length_map]
                    congr 1
                    omega
                  have hB9n : ∀ b ∈ B ++ rs.map fun r => ((r, []) : Addr × List Lt), b.2.length ≤ n := fun b hb => by
                    rcases List.mem_append.mp hb with hb | hb
                    · exact hBn b hb
                    · obtain ⟨r, _, rfl⟩ := List.mem_map.mp hb
                      exact Nat.zero_le _
                  have hB9l : (B ++ rs.map fun r => ((r, []) : Addr × List Lt)).length = k + 1 := by
                    rw [List.length_append, List.length_map, hrl]
                    omega
                  generalize (B ++ rs.map fun r => ((r, []) : Addr × List Lt)) = B9 at I9 hB9 hB9l hB9n
                  generalize upd H8 pb (.lst ((B.map fun e => V.ref e.1) ++ rs.map V.ref)) = H9 at I9 s9 ht9 hp9
                  obtain ⟨ad, ls, eB⟩ : ∃ ad ls, B9[k]? = some (ad, ls) := ⟨_, _, List.getElem?_eq_getElem (by omega)⟩
                  obtain ⟨xs9, hx9, hp9s⟩ := I9.each _ (List.mem_of_getElem? eB)
                  wtm_at "go"
                  refine iIxL (v := .ref ad) (SqL.of I9.at_) (at_of (j := k) rfl (by rw [List.getElem?_map, eB]; rfl)) ?_
                  wtm_at "go"
                  have hls : ls.length ≤ n := hB9n (ad, ls) (List.mem_of_getElem? eB)
                  refine gAppend ⟨_, hx9, ?_, ?_⟩
                  · rw [pLen hp9s]
                    exact Nat.lt_of_le_of_lt (show ls.length ≤ 80000 by have := hS.le; have := (List.getElem?_eq_some_iff.mp em).1; omega) (by decide)
                  · refine ⟨_, _, _, _, _, _, _, rfl, ?_, I9.push eB hx9 hp9s ht9, ?_, ⟨?_, ?_⟩, ?_⟩
                    · intro a o e
                      rw [upd_ne (ne_of_none e (I9.new _ (List.mem_of_getElem? eB)))]
                      exact s9 _ _ e
                    · rw [hG2]
                      congr 1
                      rw [List.map_set, hB9]
                      unfold step
                      dsimp only
                      congr 2
                      have : (B9.map fun e => e.2)[k]? = some ls := by rw [List.getElem?_map, eB]; rfl
                      rw [hB9] at this
                      rw [List.getD_eq_getElem?_getD, this]
                      rfl
                    · rw [List.length_set]; omega
                    · intro b hb
                      rcases List.mem_or_eq_of_mem_set hb with hb | hb
                      · exact Nat.le_succ_of_le (hB9n b hb)
                      · rw [hb, List.length_append]
                        exact Nat.succ_le_succ hls
                    · rw [upd_ne (fun z => ?_)]
                      · exact hp9
                      · rw [← z, hp9] at hx9
                        have e1 : rows.map V.str = xs9 := by injection hx9 with h; injection h
                        rw [← e1] at hp9s
                        obtain ⟨_, _, _, c, _⟩ := pGetL hp9s (i := n) (by rw [List.getElem?_map, em]; rfl)
                        cases c
              · wtm_at "go"
                rw [hml]
                wtm_at "go"
                first | refine iteD (fun c1 => ?_) (fun c1 => ?_) | refine iteN (fun c1 => ?_) (fun c1 => ?_) | refine ite2 (fun c1 => ?_) (fun c1 => ?_)
                · wtm_at "go"
                  first | refine iteD (fun c2 => ?_) (fun c2 => ?_) | refine iteN (fun c2 => ?_) (fun c2 => ?_) | refine ite2 (fun c2 => ?_) (fun c2 => ?_)
                  · wtm_at "go"
                    exact no2 (bad3 hkk) rfl
                  · wtm_at "go"
                    first | refine iteD (fun c3 => ?_) (fun c3 => ?_) | refine iteN (fun c3 => ?_) (fun c3 => ?_) | refine ite2 (fun c3 => ?_) (fun c3 => ?_)
                    · wtm_at "go"
                      exact no2 (bad3 hkk) rfl
                    · exact absurd ⟨c1, by omega, by omega⟩ hkk
                · wtm_at "go"
                  exact no2 (bad3 hkk) rfl
      · rintro σ H3 ⟨y2, y3, y4, y5, y6, y7, B, rfl, s3, I3, hG, hB5, hp3⟩
        rw [List.length_map, List.drop_length] at hG
        wtm_at "go"
        exact q _ hG _ pb B s3 I3 rfl
end

/-! ### the law's own reader -/
theorem figW_int {w : Str} : Txt.slice w (some (if decide (Txt.slice w none (some 1) = "-") = true then 1 else 0)) none = figW w := by
  by_cases h : Txt.slice w none (some 1) = "-"
  · rw [if_pos (decide_eq_true h)]; exact figW_dash h
  · rw [if_neg (by rw [decide_eq_false h]; decide)]
    have e : Txt.slice w (some 0) none = SX.S (w.cps.toList.drop 0) := (congrArg (fun z => Txt.slice z (some 0) none) (s_of w)).trans (SX.slice_from (by decide))
    rw [e, List.drop_zero]
    exact (s_of w).symm.trans (figW_no h)
section
variable {P : Program} {w : World} {K : PySem.W.Frag} {mg : Str → Option Value} {base : Heap}
theorem ok_law_figures (T : Tx w K mg) : Cal P w K mg base 1 "_law_figures" spNumG [] := by
  refine mk_law_figures T (fun vs H Q E h => ?_) (fun cdv A outer s H vs Q E hr h => ?_)
  · obtain ⟨n, rfl, _⟩ := h
    rfl
  · obtain ⟨wd, rfl, tw, q⟩ := h
    refine ⟨_, (pss_cons (ps_set (i := 1) sc_law_figures.nd rfl (.inl rfl) (pe_slice sl_txt (pv 0) (po_some (pe_callTy call_int1 (by rfl) (f_int T) (by decide +kernel) (pa_cons (pe_cmpR op_eq (pe_slice sl_txt (pv 0) po_none (po_some pe_int)) pe_str (nomark _)) pa_nil))) po_none))
  (pss_cons (ps_if (PW.pt (pw_or (pt_not (pt_chain op_lt op_lt pe_int (pe_callB c_lenS (by rfl) (f_len T) (by decide +kernel) (pa_cons (pv 1) pa_nil)) pe_int)) (pw_or1 (pt_cmpR (op_neD hr.units) (pe_lc (own := [("_law_sign", 2)]) rfl sc_law_figures.nd (pi_str (pv 1)) (blkOk_by (N := N_law_figures) (sc := defScope s_law_figures) (by decide +kernel)) (fun _ _ _ _ _ => (pg_name (i := 2) sc_law_figures.nd rfl (.inl rfl))) (fun _ _ _ _ _ => pts_one (pt_cmpR o_notInS (pv 2) pe_str (by rfl))) (fun _ _ _ _ _ => (pv 2))) (pe_lst pa_nil) (nomark _))))) (pss_one (ps_ret pe_non)) pss_nil)
  (pss_one (ps_ret (pe_ifExp (PW.pt (pw_or (pt_cmpR op_eq (pv 0) pe_str (nomark _)) (pw_or1 (pt_cmpR op_ne (pe_ix ix_str (pv 1) pe_int (fun _ _ => rfl)) pe_str (nomark _))))) (pe_callTy c_int (by rfl) (f_int T) (by decide +kernel) (pa_cons (pv 0) pa_nil)) pe_non))))), ?_⟩
    rw [st_law_figures]
    have hz : wd.length ≤ sizeLine := Nat.le_trans tw.le (by decide)
    have hf : (figW wd).length ≤ sizeLine := Nat.le_trans (figW_len wd) hz
    have fz := figW_sz wd
    have fc := figW_cps wd
    wtm_at "go"
    refine iSlX hz ?_
    wtm_at "go"
    refine .inr ⟨_, rfl, ?_⟩
    wtm_at "go"
    refine iSlX hz ?_
    rw [figW_int]
    have bad : figOk wd.cps.toList = false → ∀ H', Same H H' → Q .non H' := fun z H' s' => by
      have := q H' s'
      rw [numT_none z] at this
      exact this
    wtm_at "go"
    refine iLenS hf ?_
    have nOk : (1 ≤ (figL wd.cps.toList).length ∧ (figL wd.cps.toList).length ≤ 2 ∧ (∀ c ∈ figL wd.cps.toList, dig c = true) ∧ ((figL wd.cps.toList).head? ≠ some 48 ∨ wd.cps.toList = [48])) ↔ figOk wd.cps.toList = true := by
      unfold figOk
      simp only [Bool.and_eq_true, decide_eq_true_eq, Bool.or_eq_true, List.all_eq_true]
    have no : ¬ (1 ≤ (figL wd.cps.toList).length ∧ (figL wd.cps.toList).length ≤ 2 ∧ (∀ c ∈ figL wd.cps.toList, dig c = true) ∧ ((figL wd.cps.toList).head? ≠ some 48 ∨ wd.cps.toList = [48])) → figOk wd.cps.toList = false := fun z => Bool.eq_false_iff.mpr fun y => z (nOk.mpr y)
    wtm_at "go"
    first | refine iteD (fun c1 => ?_) (fun c1 => ?_) | refine iteN (fun c1 => ?_) (fun c1 => ?_) | refine ite2 (fun c1 => ?_) (fun c1 => ?_)
    · wtm_at "go"
      first | refine iteD (fun c2 => ?_) (fun c2 => ?_) | refine iteN (fun c2 => ?_) (fun c2 => ?_) | refine ite2 (fun c2 => ?_) (fun c2 => ?_)
      · wtm_at "go"
        exact bad (no fun z => c2 (by have := z.2.1; omega)) _ (Same.refl _)
      · wtm_at "go"
        intro D nD
        refine eLc (walk_str (z := figW wd)) (fun i H' => Same H H' ∧ H' D = some (.lst ((((figL wd.cps.toList).take i).filter fun c => !dig c).map fun c => V.str ⟨#[c]⟩))) ⟨same_new nD, upd_same⟩ (fun _ _ _ _ => trivial) ?_ ?_
        · rintro i x H3 H4 hi ⟨s3, hD⟩ ⟨rfl, c, ec, rfl⟩
          have ec2 : (figL wd.cps.toList)[i]? = some c := by rw [← fc, Array.getElem?_toList]; exact ec
          wtm_at "go"
          refine iNotInS ?_
          rw [show ((Str.ofString "0123456789").length) = 10 by decide, dig_in]
          cases e : dig c with
          | true =>
            wtm_at "go"
            refine ⟨s3, ?_⟩
            rw [take_succ ec2, List.filter_append, List.filter_cons_of_neg (by rw [e]; decide), List.filter_nil, List.append_nil]
            exact hD
          | false =>
            wtm_at "go"
            refine ⟨_, hD, ?_, fun a o ea => (upd_ne fun z => by rw [z, nD] at ea; cases ea).trans (s3 _ _ ea), ?_⟩
            · rw [List.length_map]
              exact Nat.lt_of_le_of_lt (Nat.le_trans (List.length_filter_le ..) (Nat.le_trans (List.length_take_le' ..) (show _ ≤ 100000 by omega))) (by decide)
            · rw [upd_same, take_succ ec2, List.filter_append, List.filter_cons_of_pos (by rw [e]; rfl), List.filter_nil, List.map_append]
              rfl
        · rintro H3 ⟨s3, hD⟩
          rw [List.take_of_length_le (show _ ≤ (figW wd).cps.size from Nat.le_of_eq fz.symm)] at hD
          wtm_at "go"
          intro e ne
          refine iNeStr0 (ss := ((figL wd.cps.toList).filter fun c => !dig c).map fun c => (⟨#[c]⟩ : Str)) (SqL.of (by rw [List.map_map]; exact same_new ne _ _ hD)) (SqL.of upd_same) (fun z hz => ?_) ?_
          · obtain ⟨c, hc, rfl⟩ := List.mem_map.mp hz
            have hc2 : c ∈ (figW wd).cps.toList := by rw [fc]; exact (List.mem_filter.mp hc).1
            have hc3 : c ∈ wd.cps.toList := figL_sub (by rw [← fc]; exact hc2)
            exact to_of fun d hd => by rw [show d = c by simpa using hd]; exact to_mem tw.ok hc3
          · have s4 : Same H (upd H3 e (.lst [])) := s3.trans (same_new ne)
            have ef : ((((figL wd.cps.toList).filter fun c => !dig c).map fun c => (⟨#[c]⟩ : Str)) = []) ↔ ∀ c ∈ figL wd.cps.toList, dig c = true := by
              rw [List.map_eq_nil_iff, List.filter_eq_nil_iff]
              exact ⟨fun z c hc => by have := z c hc; simpa using this, fun z c hc => by rw [z c hc]; decide⟩
            wtm_at "go"
            first | refine iteD (fun c3 => ?_) (fun c3 => ?_) | refine iteN (fun c3 => ?_) (fun c3 => ?_) | refine ite2 (fun c3 => ?_) (fun c3 => ?_)
            · wtm_at "go"
              exact bad (no fun z => c3 (ef.mpr z.2.2.1)) _ s4
            · have c3 : ∀ c ∈ figL wd.cps.toList, dig c = true := ef.mp c3
              wtm_at "go"
              refine iIf ?_
              wtm_at "go"
              obtain ⟨c, cl, ecl⟩ : ∃ c cl, figL wd.cps.toList = c :: cl := by
                cases z : figL wd.cps.toList with
                | nil => rw [z] at fz; rw [fz] at c1; exact absurd c1 (by decide)
                | cons c cl => exact ⟨c, cl, rfl⟩
              have fin : (c ≠ 48 ∨ wd.cps.toList = [48]) → figOk wd.cps.toList = true := fun z => nOk.mp ⟨by omega, by omega, c3, z.imp (fun y => by rw [ecl]; exact fun x => y (Option.some.inj x)) id⟩
              have done : figOk wd.cps.toList = true → ∃ n, PySem.intText? wd = some n ∧ wd.length ≤ 3 ∧ ∀ H', Same H H' → Q (.int n) H' := fun z => by
                obtain ⟨n, a, b, ew, en, ei⟩ := numT_some z
                refine ⟨n, ei, ?_, fun H' s' => ?_⟩
                · have q := sx_fig a b
                  simp only [Bool.and_eq_true, decide_eq_true_eq] at q
                  rw [ew]
                  exact Nat.le_trans (Nat.le_of_eq (Array.length_toList ..).symm) q.2.2
                have := q H' s'
                rw [en] at this
                exact this
              have e48 : ((⟨#[c]⟩ : Str) = "0") ↔ c = 48 := ⟨fun z => by
                have := congrArg (fun z : Str => z.cps.toList.headD 0) z
                exact this.trans (by decide), fun z => by rw [z]; decide⟩
              have e4 : (wd = "0") ↔ wd.cps.toList = [48] := ⟨fun z => by rw [z]; decide, fun z => str_ext (z.trans (by decide))⟩
              first | refine iteD (fun e1 => ?_) (fun e1 => ?_) | refine iteN (fun e1 => ?_) (fun e1 => ?_) | refine ite2 (fun e1 => ?_) (fun e1 => ?_)
              · wtm_at "go"
                obtain ⟨n, ei, eb, hq⟩ := done (fin (.inr (e4.mp e1)))
                refine iIntS ei (by omega) ?_
                exact hq _ s4
              · wtm_at "go"
                refine iIxS hf (show atI (figW wd).cps.toList 0 = some c by rw [fc, ecl]; show ((ixN (cl.length + 1) 0).bind fun j => (c :: cl)[j]?) = some c; rw [show ixN (cl.length + 1) 0 = some 0 from ixN_nat (j := 0) rfl (Nat.succ_pos _)]; rfl) ?_
                wtm_at "go"
                first | refine iteD (fun e0 => ?_) (fun e0 => ?_) | refine iteN (fun e0 => ?_) (fun e0 => ?_) | refine ite2 (fun e0 => ?_) (fun e0 => ?_)
                · wtm_at "go"
                  obtain ⟨n, ei, eb, hq⟩ := done (fin (.inl fun z => e0 (e48.mpr z)))
                  refine iIntS ei (by omega) ?_
                  exact hq _ s4
                · wtm_at "go"
                  exact bad (no fun z => by
                    rcases z.2.2.2 with y | y
                    · exact y (by rw [ecl, e48.mp e0]; rfl)
                    · exact e1 (e4.mpr y)) _ s4
    · wtm_at "go"
      exact bad (no fun z => c1 (by have := z.1; omega)) _ (Same.refl _)
theorem iDGet1E {σ : L2.St} {H : Hp} {Q : VK} {td ty : TE} (h : td σ H fun x H1 => ∃ a, x = .ref a ∧ IsD H1 a ∧ ty σ H1 fun y H2 => ∃ o, DGet H2 a y o ∧ Q (o.getD .non) H2) : tDGet1 td ty σ H Q := h
abbrev ft7 : List (Key × V) := [(.inr "make", .str "n"), (.inr "drop", .str "n"), (.inr "size", .str "nWH"), (.inr "paint", .str "nxyWHm"), (.inr "place", .str "npp"), (.inr "rank", .str "nm"), (.inr "veil", .str "n")]
abbrev ft5 : List (Key × V) := [(.inr "unveil", .str "n"), (.inr "tie", .str "nn"), (.inr "show", .str "n"), (.inr "hold", .str "n"), (.inr "let", .str "")]
abbrev ftA : List (Key × V) := [(.inr "make", .str "n"), (.inr "drop", .str "n"), (.inr "size", .str "nWH"), (.inr "paint", .str "nxyWHm"), (.inr "place", .str "npp"), (.inr "rank", .str "nm"), (.inr "veil", .str "n"), (.inr "unveil", .str "n"), (.inr "tie", .str "nn"), (.inr "show", .str "n"), (.inr "hold", .str "n"), (.inr "let", .str "")]
abbrev bdK (a b c d e f g : Addr) : List (Key × V) := [(.inr "n", .ref a), (.inr "m", .ref b), (.inr "W", .ref c), (.inr "H", .ref d), (.inr "x", .ref e), (.inr "y", .ref f), (.inr "p", .ref g)]
theorem ft_7 : mergeK [] ft7 = ft7 := by kernel_rfl
theorem ft_5 : mergeK [] ft5 = ft5 := by kernel_rfl
theorem ft_A : mergeK ft7 ft5 = ftA := by kernel_rfl
theorem ft_get (l0 : Lt) : valV ftA (.inr l0.word) = some (.str l0.form) := by cases l0 <;> (simp only [Lt.word, Lt.form]; decide +kernel)
theorem ft_no {x : Str} (h : ¬ ∃ l0 : Lt, x = l0.word) : valV ftA (.inr x) = none := by
  have hk := unk_keys h
  simp only [List.mem_cons, List.not_mem_nil, or_false, not_or] at hk
  unfold valV
  have : ftA.find? (fun kv => decide (kv.1 = Sum.inr x)) = none := by
    rw [List.find?_eq_none]
    intro kv hkv
    simp only [List.mem_cons, List.not_mem_nil, or_false] at hkv
    rcases hkv with rfl | rfl | rfl | rfl | rfl | rfl | rfl | rfl | rfl | rfl | rfl | rfl <;> (simp only [decide_eq_true_eq]; intro e; have e := Sum.inr.inj e; subst e; simp at hk)
  rw [this]; rfl
theorem bd_K (a b c d e f g : Addr) : mergeK [] (bdK a b c d e f g) = bdK a b c d e f g := by kernel_rfl
theorem cut_two {x y : Str} {r : List Str} : cutV ((x :: y :: r).map V.str) (some 1) (some 2) = [.str y] := by
  show (((x :: y :: r).map V.str).drop (HT.sIx ((x :: y :: r).map V.str).length 0 (some ((1 : Nat) : Int)))).take (HT.sIx ((x :: y :: r).map V.str).length ((x :: y :: r).map V.str).length (some ((2 : Nat) : Int)) - HT.sIx ((x :: y :: r).map V.str).length 0 (some ((1 : Nat) : Int))) = _
  rw [HT.sIx_nat, HT.sIx_nat, List.length_map, List.length_cons, List.length_cons, Nat.min_eq_left (by omega), Nat.min_eq_left (by omega)]
  rfl
def spLine (K : PySem.W.Frag) : Sp := fun vs H Q _ => ∃ row : Str, vs = [.str row] ∧ TO row 80000 ∧
  (rowT (Txt.split row " ") = none → ∀ H', Same H H' → Q .non H') ∧
  (∀ k l, rowT (Txt.split row " ") = some (k, l) → ∀ H' p t, Same H H' → H' p = some (.tup [.int (k : Int), .ref t]) → SqT K H' t l.vs → Q (.ref p) H')
theorem ok_law_line (T : Tx w K mg) : Cal P w K mg base 2 "_law_line" (spLine K) [] := by
  refine mk_law_line T (fun vs H Q E h => ?_) (fun cdv A outer s H vs Q E hr h => ?_)
  · obtain ⟨n, rfl, _⟩ := h
    rfl
  · obtain ⟨row, rfl, tw, qn, qs⟩ := h
    refine ⟨_, (pss_cons (ps_set (i := 1) sc_law_line.nd rfl (.inl rfl) (pe_disp (pps_cons pe_str pe_str (pps_cons pe_str pe_str (pps_cons pe_str pe_str (pps_cons pe_str pe_str (pps_cons pe_str pe_str (pps_cons pe_str pe_str (pps_cons pe_str pe_str pps_nil))))))) (by rfl) (by rfl) (fun z => by cases z) (by decide)))
  (pss_cons (ps_expr (pe_bm PySem.F.plainAttrs_dict PySem.F.slot_dict_update PySem.F.type_dict_update mt_update (pv 1) (pa_cons (pe_disp (pps_cons pe_str pe_str (pps_cons pe_str pe_str (pps_cons pe_str pe_str (pps_cons pe_str pe_str (pps_cons pe_str pe_str pps_nil))))) (by rfl) (by rfl) (fun z => by cases z) (by decide)) pa_nil)))
  (pss_cons (ps_set (i := 2) sc_law_line.nd rfl (.inl rfl) (pe_disp (pps_cons pe_str (pe_tup (pa_cons pe_int (pa_cons pe_int pa_nil))) (pps_cons pe_str (pe_tup (pa_cons pe_int (pa_cons pe_int pa_nil))) (pps_cons pe_str (pe_tup (pa_cons pe_int (pa_cons pe_int pa_nil))) (pps_cons pe_str (pe_tup (pa_cons pe_int (pa_cons pe_int pa_nil))) (pps_cons pe_str (pe_tup (pa_cons pe_int (pa_cons pe_int pa_nil))) (pps_cons pe_str (pe_tup (pa_cons pe_int (pa_cons pe_int pa_nil))) (pps_cons pe_str (pe_tup (pa_cons (pe_un un_neg pe_int) (pa_cons pe_int pa_nil))) pps_nil))))))) (by rfl) (by rfl) (fun z => by cases z) (by decide)))
  (pss_cons (ps_set (i := 3) sc_law_line.nd rfl (.inl rfl) (pe_split (pv 0) pe_str))
  (pss_cons (ps_set (i := 4) sc_law_line.nd rfl (.inl rfl) (pe_c (ok_law_figures T) hr (by omega) rfl (pa_cons (pe_ix ix_list (pv 3) pe_int (fun _ _ => rfl)) pa_nil)))
  (pss_cons (ps_set (i := 5) sc_law_line.nd rfl (.inl rfl) (pe_dget1 (hu_of hr) (pv 1) (pe_ix ix_list (pe_op op_cat (pv 3) (pe_lst (pa_cons pe_str pa_nil))) pe_int (fun _ _ => rfl)) ⟨rfl, rfl, rfl, rfl⟩))
  (pss_cons (ps_if (PW.pt (pw_or (pt_cmpR o_isN (pv 4) pe_non (nomark _)) (pw_or (pt_not (pt_chain op_le op_lt pe_int (pv 4) pe_int)) (pw_or (pt_cmpR o_isN (pv 5) pe_non (nomark _)) (pw_or1 (pt_cmpR op_ne (pe_callB c_len (by rfl) (f_len T) (by decide +kernel) (pa_cons (pv 3) pa_nil)) (pe_op op_add (pe_callB c_lenS (by rfl) (f_len T) (by decide +kernel) (pa_cons (pv 5) pa_nil)) pe_int) (nomark _))))))) (pss_one (ps_ret pe_non)) pss_nil)
  (pss_cons (ps_setLc (i := 6) (own := [("_law_word", 7)]) rfl sc_law_line.nd rfl rfl (sw_true rfl rfl rfl (by decide +kernel)) (pi_list (pe_slice sl_list (pv 3) (po_some pe_int) po_none)) (blkOk_by (N := N_law_line) (sc := defScope s_law_line) (by decide +kernel)) (fun _ _ _ _ _ => (pg_name (i := 7) sc_law_line.nd rfl (.inl rfl))) (fun _ _ _ _ _ => pts_nil) (fun _ _ _ _ _ => (pe_c (ok_law_figures T) hr (by omega) rfl (pa_cons (pv 7) pa_nil))))
  (pss_cons (ps_for PassesOwn.never rfl (pi_zipLS (by rfl) (f_zip T) (pa_cons (pv 6) (pa_cons (pv 5) pa_nil))) (pg_tup (n := 2) rfl (pgs_cons (pg_name (i := 8) sc_law_line.nd rfl (.inl rfl)) (pgs_cons (pg_name (i := 9) sc_law_line.nd rfl (.inl rfl)) pgs_nil))) (pss_one (ps_if (PW.pt (pw_or (pt_cmpR o_isN (pv 8) pe_non (nomark _)) (pw_or1 (pt_not (pt_chain op_le op_le (pe_ix ix_tup (pe_dget (hu_of hr) (pv 2) (pv 9) (fun _ _ => rfl)) pe_int (fun _ _ => rfl)) (pv 8) (pe_ix ix_tup (pe_dget (hu_of hr) (pv 2) (pv 9) (fun _ _ => rfl)) pe_int (fun _ _ => rfl))))))) (pss_one (ps_ret pe_non)) pss_nil)))
  (pss_one (ps_ret (pe_tup (pa_cons (pv 4) (pa_cons (pe_callTy c_tuple (by rfl) (f_tuple T) (by decide +kernel) (pa_cons (pe_op op_cat (pe_slice sl_list (pv 3) (po_some pe_int) (po_some pe_int)) (pv 6)) pa_nil)) pa_nil)))))))))))))), ?_⟩
    rw [st_law_line]
    wtm_at "go"
    intro pf npf
    have s1 := same_new (o := .dK []) npf
    wtm_at "go"
    refine ⟨upd_same, ft7, rfl, by decide, ?_⟩
    rw [upd2, ft_7]
    have s1 := same_new (o := .dK ft7) npf
    have h1 : upd H pf (.dK ft7) pf = some (.dK ft7) := upd_same
    show gName _ _ _ (upd H pf (.dK ft7)) _
    generalize upd H pf (.dK ft7) = H1 at s1 h1
    wtm_at "go"
    intro pd npd
    wtm_at "go"
    refine ⟨upd_same, ft5, rfl, by decide, ?_⟩
    rw [upd2, ft_5]
    have s2 := same_new (o := .dK ft5) npd
    have h2 := s2 _ _ h1
    have nd : pf ≠ pd := ne_of_none h1 npd
    have hd2 : upd H1 pd (.dK ft5) pd = some (.dK ft5) := upd_same
    generalize upd H1 pd (.dK ft5) = H2 at s2 h2 hd2
    wtm_at "go"
    refine iUpdK nd h2 hd2 (show 7 + 5 ≤ sizeLine by decide) ?_
    rw [ft_A]
    have s3 : Same H (upd H2 pf (.dK ftA)) := fun a o e => (upd_ne (ne_of_none e npf)).trans (s2 _ _ (s1 _ _ e))
    have h3 : upd H2 pf (.dK ftA) pf = some (.dK ftA) := upd_same
    show tSeq _ _ _ _ (upd H2 pf (.dK ftA))
    generalize upd H2 pf (.dK ftA) = H3 at s3 h3
    clear s2 h2 hd2 s1 h1
    wtm_at "go"
    intro pb npb
    have hb4 : upd H3 pb (.dK []) pb = some (.dK []) := upd_same
    have s4 := same_new (o := .dK []) npb
    have npfb : pf ≠ pb := ne_of_none h3 npb
    have h4 := s4 _ _ h3
    have s34 := s3.trans s4
    generalize upd H3 pb (.dK []) = H4 at hb4 h4 s34
    clear s4
    wtm_at "go"
    intro t1 nt1
    have e1 : upd H4 t1 (.tup [.int 0, .int 9]) t1 = some (.tup [.int 0, .int 9]) := upd_same
    have z1 := same_new (o := .tup [.int 0, .int 9]) nt1
    have hb4 := z1 _ _ hb4
    have h4 := z1 _ _ h4
    have s34 := s34.trans z1
    generalize upd H4 t1 (.tup [.int 0, .int 9]) = G1 at hb4 h4 e1 s34
    clear z1
    wtm_at "go"
    intro t2 nt2
    have e2 : upd G1 t2 (.tup [.int 0, .int 9]) t2 = some (.tup [.int 0, .int 9]) := upd_same
    have z2 := same_new (o := .tup [.int 0, .int 9]) nt2
    have hb4 := z2 _ _ hb4
    have h4 := z2 _ _ h4
    have e1 := z2 _ _ e1
    have s34 := s34.trans z2
    generalize upd G1 t2 (.tup [.int 0, .int 9]) = G2 at hb4 h4 e1 e2 s34
    clear z2
    wtm_at "go"
    intro t3 nt3
    have e3 : upd G2 t3 (.tup [.int 1, .int 12]) t3 = some (.tup [.int 1, .int 12]) := upd_same
    have z3 := same_new (o := .tup [.int 1, .int 12]) nt3
    have hb4 := z3 _ _ hb4
    have h4 := z3 _ _ h4
    have e1 := z3 _ _ e1
    have e2 := z3 _ _ e2
    have s34 := s34.trans z3
    generalize upd G2 t3 (.tup [.int 1, .int 12]) = G3 at hb4 h4 e1 e2 e3 s34
    clear z3
    wtm_at "go"
    intro t4 nt4
    have e4 : upd G3 t4 (.tup [.int 1, .int 8]) t4 = some (.tup [.int 1, .int 8]) := upd_same
    have z4 := same_new (o := .tup [.int 1, .int 8]) nt4
    have hb4 := z4 _ _ hb4
    have h4 := z4 _ _ h4
    have e1 := z4 _ _ e1
    have e2 := z4 _ _ e2
    have e3 := z4 _ _ e3
    have s34 := s34.trans z4
    generalize upd G3 t4 (.tup [.int 1, .int 8]) = G4 at hb4 h4 e1 e2 e3 e4 s34
    clear z4
    wtm_at "go"
    intro t5 nt5
    have e5 : upd G4 t5 (.tup [.int 0, .int 11]) t5 = some (.tup [.int 0, .int 11]) := upd_same
    have z5 := same_new (o := .tup [.int 0, .int 11]) nt5
    have hb4 := z5 _ _ hb4
    have h4 := z5 _ _ h4
    have e1 := z5 _ _ e1
    have e2 := z5 _ _ e2
    have e3 := z5 _ _ e3
    have e4 := z5 _ _ e4
    have s34 := s34.trans z5
    generalize upd G4 t5 (.tup [.int 0, .int 11]) = G5 at hb4 h4 e1 e2 e3 e4 e5 s34
    clear z5
    wtm_at "go"
    intro t6 nt6
    have e6 : upd G5 t6 (.tup [.int 0, .int 7]) t6 = some (.tup [.int 0, .int 7]) := upd_same
    have z6 := same_new (o := .tup [.int 0, .int 7]) nt6
    have hb4 := z6 _ _ hb4
    have h4 := z6 _ _ h4
    have e1 := z6 _ _ e1
    have e2 := z6 _ _ e2
    have e3 := z6 _ _ e3
    have e4 := z6 _ _ e4
    have e5 := z6 _ _ e5
    have s34 := s34.trans z6
    generalize upd G5 t6 (.tup [.int 0, .int 7]) = G6 at hb4 h4 e1 e2 e3 e4 e5 e6 s34
    clear z6
    wtm_at "go"
    intro t7 nt7
    have e7 : upd G6 t7 (.tup [.int (-20), .int 20]) t7 = some (.tup [.int (-20), .int 20]) := upd_same
    have z7 := same_new (o := .tup [.int (-20), .int 20]) nt7
    have hb4 := z7 _ _ hb4
    have h4 := z7 _ _ h4
    have e1 := z7 _ _ e1
    have e2 := z7 _ _ e2
    have e3 := z7 _ _ e3
    have e4 := z7 _ _ e4
    have e5 := z7 _ _ e5
    have e6 := z7 _ _ e6
    have s34 := s34.trans z7
    generalize upd G6 t7 (.tup [.int (-20), .int 20]) = G7 at hb4 h4 e1 e2 e3 e4 e5 e6 e7 s34
    clear z7
    wtm_at "go"
    refine ⟨hb4, bdK t1 t2 t3 t4 t5 t6 t7, rfl, (show 7 ≤ 15 by decide), ?_⟩
    rw [bd_K]
    have npbH : H pb = none := s3.free npb
    have nb : ∀ {t : Addr} {xs : List V}, G7 t = some (.tup xs) → t ≠ pb := fun {t xs} e z => by rw [z, hb4] at e; cases e
    have hb5 : upd G7 pb (.dK (bdK t1 t2 t3 t4 t5 t6 t7)) pb = some (.dK (bdK t1 t2 t3 t4 t5 t6 t7)) := upd_same
    have hf5 : upd G7 pb (.dK (bdK t1 t2 t3 t4 t5 t6 t7)) pf = some (.dK ftA) := (upd_ne npfb).trans h4
    have s5 : Same H (upd G7 pb (.dK (bdK t1 t2 t3 t4 t5 t6 t7))) := fun a o e => (upd_ne (ne_of_none e npbH)).trans (s34 _ _ e)
    have hBD : ∀ (l0 : Lt) (i c : Nat), l0.form.cps.toList[i]? = some c → ∃ a, valV (bdK t1 t2 t3 t4 t5 t6 t7) (.inr ⟨#[c]⟩) = some (.ref a) ∧ upd G7 pb (.dK (bdK t1 t2 t3 t4 t5 t6 t7)) a = some (.tup [.int (bdT c).1, .int (bdT c).2]) := fun l0 i c e => by
      have m : c ∈ l0.form.cps.toList := List.mem_of_getElem? e
      have cs : c = 110 ∨ c = 109 ∨ c = 87 ∨ c = 72 ∨ c = 120 ∨ c = 121 ∨ c = 112 := by
        have all : ∀ l0 : Lt, (l0.form.cps.toList.all fun c => decide (c = 110 ∨ c = 109 ∨ c = 87 ∨ c = 72 ∨ c = 120 ∨ c = 121 ∨ c = 112)) = true := fun l0 => by cases l0 <;> (simp only [Lt.form]; decide +kernel)
        exact of_decide_eq_true (List.all_eq_true.mp (all l0) c m)
      rcases cs with rfl | rfl | rfl | rfl | rfl | rfl | rfl
      · exact ⟨t1, by kernel_rfl, (upd_ne (nb e1)).trans e1⟩
      · exact ⟨t2, by kernel_rfl, (upd_ne (nb e2)).trans e2⟩
      · exact ⟨t3, by kernel_rfl, (upd_ne (nb e3)).trans e3⟩
      · exact ⟨t4, by kernel_rfl, (upd_ne (nb e4)).trans e4⟩
      · exact ⟨t5, by kernel_rfl, (upd_ne (nb e5)).trans e5⟩
      · exact ⟨t6, by kernel_rfl, (upd_ne (nb e6)).trans e6⟩
      · exact ⟨t7, by kernel_rfl, (upd_ne (nb e7)).trans e7⟩
    generalize bdK t1 t2 t3 t4 t5 t6 t7 = BD at hb5 hf5 s5 hBD
    show gName _ _ _ (upd G7 pb (.dK BD)) _
    generalize upd G7 pb (.dK BD) = H5 at hb5 hf5 s5 hBD
    clear nb e1 e2 e3 e4 e5 e6 e7 s34 hb4 h4 nt1 nt2 nt3 nt4 nt5 nt6 nt7
    wtm_at "go"
    refine iM1 ?_
    wtm_at "go"
    refine gM1 ?_
    wtm_at "go"
    refine ⟨row, " ", rfl, rfl, by decide, Nat.le_trans (Nat.add_le_add_right tw.le 2) (by decide), fun p4 np4 => ?_⟩
    have hS4 : Spl row (Txt.split row " ") 80000 := split1 (c := 32) (by decide) tw
    obtain ⟨wd, wr, ew⟩ : ∃ wd wr, Txt.split row " " = wd :: wr := by
      cases z : Txt.split row " " with
      | nil => exact absurd z hS4.ne
      | cons a b => exact ⟨a, b, rfl⟩
    rw [ew] at hS4 qn qs ⊢
    have hp6 : upd H5 p4 (.lst ((wd :: wr).map V.str)) p4 = some (.lst ((wd :: wr).map V.str)) := upd_same
    have z6 := same_new (o := .lst ((wd :: wr).map V.str)) np4
    generalize upd H5 p4 (.lst ((wd :: wr).map V.str)) = H6 at hp6 z6
    wtm_at "go"
    refine iIxL (SqL.of hp6) (at_of (j := 0) rfl rfl) ?_
    wtm_at "go"
    refine ⟨wd, rfl, (hS4.each wd (List.mem_cons_self ..)).mono (by decide), fun H7 z7 => ?_⟩
    have z57 := z6.trans z7
    have hp7 := z7 _ _ hp6
    have hf7 := z57 _ _ hf5
    wtm_at "go"
    refine iDGet1E ?_
    wtm_at "go"
    refine ⟨pf, rfl, .inl ⟨_, .inl hf7⟩, ?_⟩
    wtm_at "go"
    intro p8 np8
    have z8 := same_new (o := .lst [.str ""]) np8
    have hp8 : upd H7 p8 (.lst [.str ""]) p8 = some (.lst [.str ""]) := upd_same
    have hp7' := z8 _ _ hp7
    have z58 := z57.trans z8
    generalize upd H7 p8 (.lst [.str ""]) = H8 at z8 hp8 hp7' z58
    wtm_at "go"
    have hwl : wr.length ≤ 80000 := by have := hS4.le; simp only [List.length_cons] at this; omega
    refine gCat ⟨_, hp7', _, hp8, ?_, fun p9 np9 => ?_⟩
    · simp only [List.length_append, List.length_map, List.length_cons, List.length_nil]
      exact Nat.le_trans (show _ ≤ 80002 by omega) (by decide)
    have z9 := same_new (o := .lst ((wd :: wr).map V.str ++ [.str ""])) np9
    have hp9 : upd H8 p9 (.lst ((wd :: wr).map V.str ++ [.str ""])) p9 = some (.lst ((wd :: wr).map V.str ++ [.str ""])) := upd_same
    have hpA := z9 _ _ hp7'
    have z5A := z58.trans z9
    generalize upd H8 p9 (.lst ((wd :: wr).map V.str ++ [.str ""])) = HA at hp9 hpA z5A
    clear z9 z8 z58 hp8 hp7' z57 z6 z7 hp6 hp7 hf7
    wtm_at "go"
    refine iIxL (v := .str (wr.headD "")) (SqL.of hp9) (at_of (j := 1) rfl (by cases wr <;> rfl)) ?_
    wtm_at "go"
    refine ⟨_, DGet.k (k := .inr (wr.headD "")) (z5A _ _ hf5), ?_⟩
    have hfv : (((valV ftA (.inr (wr.headD ""))).getD .non = .non) ∧ letT wr = none) ∨ ∃ (l0 : Lt) (rest : List Str), wr = l0.word :: rest ∧ (valV ftA (.inr (wr.headD ""))).getD .non = .str l0.form := by
      by_cases hex : ∃ l0 : Lt, wr.headD "" = l0.word
      · obtain ⟨l0, e⟩ := hex
        cases wr with
        | nil => exfalso; revert e; cases l0 <;> (simp only [Lt.word]; decide +kernel)
        | cons w2 rest =>
          have e : w2 = l0.word := e
          subst e
          exact .inr ⟨l0, rest, rfl, by show (valV ftA (.inr l0.word)).getD .non = _; rw [ft_get]; rfl⟩
      · refine .inl ⟨by rw [ft_no hex]; rfl, ?_⟩
        cases wr with
        | nil => exact letT_nil
        | cons w2 rest => exact letT_unk hex
    generalize (valV ftA (.inr (wr.headD ""))).getD .non = fv at hfv
    wtm_at "go"
    have sA := s5.trans z5A
    have no : rowT (wd :: wr) = none → Q .non HA := fun z => qn z HA sA
    have rnil : ∀ {a b}, numT wd = a → letT wr = b → rowT (wd :: wr) = (match a, b with | some k, some l => if 0 ≤ k ∧ k < 5 then some (k.toNat, l) else none | _, _ => none) := fun e1 e2 => by
      show (match numT wd, letT wr with | some k, some l => if 0 ≤ k ∧ k < 5 then some (k.toNat, l) else none | _, _ => none) = _
      rw [e1, e2]
    cases ek : numT wd with
    | none =>
      dsimp only [numV]
      wtm_at "go"
      exact no (rnil ek rfl)
    | some k =>
      dsimp only [numV]
      wtm_at "go"
      have out : ¬ (0 ≤ k ∧ k < 5) → Q .non HA := fun z => no (by
        rw [rnil ek rfl]
        cases letT wr with
        | none => rfl
        | some l => exact if_neg z)
      first | refine iteD (fun c1 => ?_) (fun c1 => ?_) | refine iteN (fun c1 => ?_) (fun c1 => ?_) | refine ite2 (fun c1 => ?_) (fun c1 => ?_)
      · wtm_at "go"
        first | refine iteD (fun c2 => ?_) (fun c2 => ?_) | refine iteN (fun c2 => ?_) (fun c2 => ?_) | refine ite2 (fun c2 => ?_) (fun c2 => ?_)
        · wtm_at "go"
          exact out (by omega)
        · wtm_at "go"
          rcases hfv with ⟨rfl, el⟩ | ⟨l0, rest, rfl, rfl⟩
          · wtm_at "go"
            exact no (by rw [rnil ek el])
          · have hfl : l0.form.length ≤ 6 := by rw [form_len]; cases l0 <;> simp [Lt.nums]
            have hfc : l0.form.cps.toList.length = l0.form.length := Array.length_toList ..
            wtm_at "go"
            refine iLenS (Nat.le_trans hfl (by decide)) ?_
            rw [List.length_map]
            wtm_at "go"
            have noB : allB l0.form.cps.toList (rest.map numT) = false → ∀ H', Same HA H' → Q .non H' := fun z H' s' => qn (by rw [rnil ek (letT_not rfl z)]) H' (sA.trans s')
            first | refine iteD (fun c3 => ?_) (fun c3 => ?_) | refine iteN (fun c3 => ?_) (fun c3 => ?_) | refine ite2 (fun c3 => ?_) (fun c3 => ?_)
            · wtm_at "go"
              exact noB (Bool.eq_false_iff.mpr fun z => c3 (by have := (allB_of z).1; rw [List.length_map] at this; simp only [List.length_cons]; omega)) _ (Same.refl _)
            · have hlen : rest.length = l0.form.length := by simp only [List.length_cons] at c3; omega
              wtm_at "go"
              refine iSlL (SqL.of hpA) fun pB npB => ?_
              rw [show cutV ((wd :: l0.word :: rest).map V.str) (some 2) none = rest.map V.str from cut_from (n := 2)]
              wtm_at "go"
              intro D nD
              have hpB : upd HA pB (.lst (rest.map V.str)) pB = some (.lst (rest.map V.str)) := upd_same
              have zB := same_new (o := .lst (rest.map V.str)) npB
              have hpAB := zB _ _ hpA
              generalize upd HA pB (.lst (rest.map V.str)) = HB at hpB zB nD hpAB
              have hpD : pB ≠ D := ne_of_none hpB nD
              refine eLcL (xs := rest.map V.str) (fun i H' => Fr [D] HB H' ∧ H' D = some (.lst (((rest.map numT).take i).map numV))) ⟨Fr.new nD, upd_same⟩ (fun i H' _ h => SqL.of (h.1.at_ _ _ hpB (by simpa using hpD))) ?_ ?_
              · rintro i x H3 ex ⟨f3, hD⟩
                rw [List.getElem?_map] at ex
                obtain ⟨m, em, rfl⟩ := Option.map_eq_some_iff.mp ex
                wtm_at "go"
                refine ⟨m, rfl, (hS4.each m (List.mem_cons_of_mem _ (List.mem_cons_of_mem _ (List.mem_of_getElem? em)))).mono (by decide), fun H4 s4 => ?_⟩
                have em2 : (rest.map numT)[i]? = some (numT m) := by rw [List.getElem?_map, em]; rfl
                refine ⟨_, s4 _ _ hD, ?_, (f3.trans (Fr.same s4)).trans (Fr.set (s4 _ _ hD) rfl (by simp)), ?_⟩
                · rw [List.length_map]
                  exact Nat.lt_of_le_of_lt (Nat.le_trans (List.length_take_le' ..) (show (rest.map numT).length ≤ 6 by rw [List.length_map]; omega)) (by decide)
                · rw [upd_same, take_succ em2, List.map_append]
                  rfl
              · rintro HC ⟨f3, hD⟩
                rw [List.length_map, List.take_of_length_le (Nat.le_of_eq (List.length_map ..))] at hD
                have zC : Same HB HC := fun a o e => f3.at_ _ _ e fun z => by
                  rw [List.mem_singleton.mp z, nD] at e
                  cases e
                have zAC := zB.trans zC
                have hpAC := zC _ _ hpAB
                have hBDC : ∀ (i c : Nat), l0.form.cps.toList[i]? = some c → ∃ a, valV BD (.inr ⟨#[c]⟩) = some (.ref a) ∧ HC a = some (.tup [.int (bdT c).1, .int (bdT c).2]) := fun i c e => let ⟨a, e1, e2⟩ := hBD l0 i c e; ⟨a, e1, zAC _ _ (z5A _ _ e2)⟩
                have hbC := zAC _ _ (z5A _ _ hb5)
                clear hBD zC f3 hpB hpD nD hpAB zB npB hb5 hf5
                wtm_at "go"
                refine iWZL ?_
                wtm_at "go"
                refine ⟨D, l0.form, _, rfl, SqL.of hD, ?_⟩
                refine eFor (walk_zipLS (xs := (rest.map numT).map numV) (n := rest.length) (by rw [List.length_map, List.length_map, ← Array.length_toList]; omega)) (fun i σ H' => Same HC H' ∧ (∃ y7 y8 y9, σ = [some (.str row), some (.ref pf), some (.ref pb), some (.ref p4), some (.int k), some (.str l0.form), some (.ref D), y7, y8, y9]) ∧ ∀ j, j < i → ∀ ch o, l0.form.cps.toList[j]? = some ch → (rest.map numT)[j]? = some o → inB ch o = true) ⟨Same.refl _, ⟨_, _, _, rfl⟩, fun j hj => absurd hj (Nat.not_lt_zero _)⟩ (fun i σ H' _ h => SqL.of (h.1 _ _ hD)) ?_ ?_
                · rintro i x σ H3 H4 hi ⟨s3, ⟨y7, y8, y9, rfl⟩, hok⟩ ⟨T', x', ch, rfl, nT, rfl, ex, ec⟩
                  rw [List.getElem?_map] at ex
                  obtain ⟨o, em, rfl⟩ := Option.map_eq_some_iff.mp ex
                  have ec' : l0.form.cps.toList[i]? = some ch := by rw [Array.getElem?_toList]; exact ec
                  obtain ⟨ba, b1, b2⟩ := hBDC i ch ec'
                  have hp : upd H3 T' (.tup [numV o, .str ⟨#[ch]⟩]) T' = some (.tup [numV o, .str ⟨#[ch]⟩]) := upd_same
                  have s4 := same_new (o := .tup [numV o, .str ⟨#[ch]⟩]) nT
                  have s34 := s3.trans s4
                  show gTup _ _ _ _ _ (upd H3 T' (.tup [numV o, .str ⟨#[ch]⟩])) _
                  generalize upd H3 T' (.tup [numV o, .str ⟨#[ch]⟩]) = H4 at hp s4 s34
                  have hb4 := s34 _ _ hbC
                  have b24 := s34 _ _ b2
                  have noI : inB ch o = false → ∀ H', Same H4 H' → Q .non H' := fun z H' s' => noB (Bool.eq_false_iff.mpr fun y => by
                    rw [(allB_of y).2 i ch o ec' em] at z; cases z) H' (zAC.trans (s34.trans s'))
                  have okI : inB ch o = true → ∀ j, j < i + 1 → ∀ ch o, l0.form.cps.toList[j]? = some ch → (rest.map numT)[j]? = some o → inB ch o = true := fun e j hj c' o' e3 e4 => by
                    by_cases ji : j = i
                    · subst ji
                      rw [ec'] at e3; rw [em] at e4
                      cases e3; cases e4
                      exact e
                    · exact hok j (by omega) c' o' e3 e4
                  wtm_at "go"
                  cases o with
                  | none =>
                    dsimp only [numV]
                    wtm_at "go"
                    exact noI rfl _ (Same.refl _)
                  | some m =>
                    dsimp only [numV]
                    wtm_at "go"
                    refine iDGS hb4 b1 ?_
                    wtm_at "go"
                    have eI : inB ch (some m) = (decide ((bdT ch).1 ≤ m) && decide (m ≤ (bdT ch).2)) := rfl
                    first | refine iteD (fun d1 => ?_) (fun d1 => ?_) | refine iteN (fun d1 => ?_) (fun d1 => ?_) | refine ite2 (fun d1 => ?_) (fun d1 => ?_)
                    · wtm_at "go"
                      refine iDGS hb4 b1 ?_
                      wtm_at "go"
                      first | refine iteD (fun d2 => ?_) (fun d2 => ?_) | refine iteN (fun d2 => ?_) (fun d2 => ?_) | refine ite2 (fun d2 => ?_) (fun d2 => ?_)
                      · wtm_at "go"
                        exact noI (by rw [eI, decide_eq_false d2, Bool.and_false]) _ (Same.refl _)
                      · wtm_at "go"
                        exact ⟨s34, ⟨_, _, _, rfl⟩, okI (by rw [eI, decide_eq_true d1, decide_eq_true d2]; rfl)⟩
                    · wtm_at "go"
                      exact noI (by rw [eI, decide_eq_false d1, Bool.false_and]) _ (Same.refl _)
                · rintro σ HD ⟨s3, ⟨y7, y8, y9, rfl⟩, hok⟩
                  have hall : allB l0.form.cps.toList (rest.map numT) = true := allB_get (by rw [List.length_map]; omega) fun i c o e1 e2 => hok i (by have := (List.getElem?_eq_some_iff.mp e2).1; rw [List.length_map] at this; omega) c o e1 e2
                  obtain ⟨l, el, ev⟩ := letT_of rfl hall
                  have hpD := s3 _ _ hpAC
                  have hDD := s3 _ _ hD
                  have zAD := zAC.trans s3
                  wtm_at "go"
                  refine iSlL (SqL.of hpD) fun pE npE => ?_
                  rw [show cutV ((wd :: l0.word :: rest).map V.str) (some 1) (some 2) = [.str l0.word] from cut_two (x := wd) (y := l0.word)]
                  have zE := same_new (o := .lst [.str l0.word]) npE
                  have hpE : upd HD pE (.lst [.str l0.word]) pE = some (.lst [.str l0.word]) := upd_same
                  have hDE := zE _ _ hDD
                  have zAE := zAD.trans zE
                  generalize upd HD pE (.lst [.str l0.word]) = HE at hpE hDE zAE
                  wtm_at "go"
                  refine gCat ⟨_, hpE, _, hDE, ?_, fun pF npF => ?_⟩
                  · simp only [List.length_append, List.length_map, List.length_cons, List.length_nil]
                    exact Nat.le_trans (show _ ≤ 100 by omega) (by decide)
                  have zF := same_new (o := .lst ([.str l0.word] ++ (rest.map numT).map numV)) npF
                  have hpF : upd HE pF (.lst ([.str l0.word] ++ (rest.map numT).map numV)) pF = some (.lst ([.str l0.word] ++ (rest.map numT).map numV)) := upd_same
                  have zAF := zAE.trans zF
                  generalize upd HE pF (.lst ([.str l0.word] ++ (rest.map numT).map numV)) = HF at hpF zAF
                  wtm_at "go"
                  refine iTupL (SqL.of hpF) fun t nt => ?_
                  have zG := same_new (o := .tup ([.str l0.word] ++ (rest.map numT).map numV)) nt
                  have ht : upd HF t (.tup ([.str l0.word] ++ (rest.map numT).map numV)) t = some (.tup ([.str l0.word] ++ (rest.map numT).map numV)) := upd_same
                  have zAG := zAF.trans zG
                  generalize upd HF t (.tup ([.str l0.word] ++ (rest.map numT).map numV)) = HG at ht zAG
                  wtm_at "go"
                  intro p np
                  have zH := same_new (o := .tup [.int k, .ref t]) np
                  obtain ⟨k, rfl⟩ := Int.eq_ofNat_of_zero_le c1
                  exact qs k l (by rw [rnil ek el]; exact if_pos (by omega)) _ p t (sA.trans (zAG.trans zH)) upd_same (by rw [ev]; exact SqT.of (zH _ _ ht))
      · wtm_at "go"
        exact out (by omega)
end

/-! ### what read is to tell, by the law's reader -/
theorem rowT_lt {ws : List Str} {k : Nat} {l : Lt} (h : rowT ws = some (k, l)) : k < 5 := by
  unfold rowT at h
  split at h
  · split at h
    · next hk => cases h; omega
    · cases h
  · cases h
def spDue (K : PySem.W.Frag) : Sp := fun vs H Q _ => ∃ s : Str, vs = [.str s] ∧ TO s 80000 ∧
  (∀ bs, readT s = .ok bs → ∀ H' pb B, Same H H' → Bks K H H' pb B → B.map (fun e => e.2) = bs → Q (.ref pb) H') ∧
  (∀ n : Nat, readT s = .error n → ∀ H' p, Same H H' → H' p = some (.tup [.str "BadText", .int n]) → Q (.ref p) H')
section
variable {P : Program} {w : World} {K : PySem.W.Frag} {mg : Str → Option Value} {base : Heap}
theorem ok_law_due (T : Tx w K mg) : Cal P w K mg base 3 "_law_due" (spDue K) [] := by
  refine mk_law_due T (fun vs H Q E h => ?_) (fun cdv A outer s H vs Q E hr h => ?_)
  · obtain ⟨s, rfl, _⟩ := h
    rfl
  · obtain ⟨sx, rfl, ht, q, qe⟩ := h
    refine ⟨_, (pss_cons (ps_set (i := 1) sc_law_due.nd rfl (.inl rfl) (pe_lst pa_nil))
  (pss_cons (ps_set (i := 2) sc_law_due.nd rfl (.inl rfl) (pe_ifExp (pt_cmpR op_ne (pv 0) pe_str (nomark _)) (pe_split (pv 0) pe_str) (pe_lst pa_nil)))
  (pss_cons (ps_for PassesOwn.never rfl (pi_range1 rfl (f_range T) (pa_cons (pe_callB c_len (by rfl) (f_len T) (by decide +kernel) (pa_cons (pv 2) pa_nil)) pa_nil)) (pg_name (i := 3) sc_law_due.nd rfl (.inl rfl)) (pss_cons (ps_set (i := 4) sc_law_due.nd rfl (.inl rfl) (pe_c (ok_law_line T) hr (by omega) rfl (pa_cons (pe_ix ix_list (pv 2) (pv 3) (fun _ _ => rfl)) pa_nil)))
  (pss_cons (ps_if (PW.pt (pw_or (pt_cmpR o_isN (pv 4) pe_non (nomark _)) (pw_or1 (pt_cmpR op_lt (pe_ix ix_tup (pv 4) pe_int (fun _ _ => rfl)) (pe_op op_sub (pe_callB c_len (by rfl) (f_len T) (by decide +kernel) (pa_cons (pv 1) pa_nil)) pe_int) (nomark _))))) (pss_one (ps_ret (pe_tup (pa_cons pe_str (pa_cons (pv 3) pa_nil))))) pss_nil)
  (pss_cons (ps_set (i := 1) sc_law_due.nd rfl (.inl rfl) (pe_op op_cat (pv 1) (pe_lc (own := [("_law_more", 5)]) rfl sc_law_due.nd (pi_range1 rfl (f_range T) (pa_cons (pe_op op_sub (pe_op op_add (pe_ix ix_tup (pv 4) pe_int (fun _ _ => rfl)) pe_int) (pe_callB c_len (by rfl) (f_len T) (by decide +kernel) (pa_cons (pv 1) pa_nil))) pa_nil)) (blkOk_by (N := N_law_due) (sc := defScope s_law_due) (by decide +kernel)) (fun _ _ _ _ _ => (pg_name (i := 5) sc_law_due.nd rfl (.inl rfl))) (fun _ _ _ _ _ => pts_nil) (fun _ _ _ _ _ => (pe_lst pa_nil)))))
  (pss_one (ps_expr (pe_bm PySem.F.plainAttrs_list PySem.F.slot_list_append PySem.F.type_list_append mt_append (pe_ix ix_list (pv 1) (pe_ix ix_tup (pv 4) pe_int (fun _ _ => rfl)) (fun _ _ => rfl)) (pa_cons (pe_ix ix_tup (pv 4) pe_int (fun _ _ => rfl)) pa_nil))))))))
  (pss_one (ps_ret (pv 1)))))), ?_⟩
    rw [st_law_due]
    wtm_at "go"
    intro pb npb
    have I0 : Bks K H (upd H pb (.lst [])) pb [] := ⟨upd_same, (fun _ h => nomatch h), List.nodup_nil, (fun _ h => nomatch h), (fun _ h => nomatch h), npb⟩
    have s0 := same_new (o := .lst []) npb
    show gName _ _ _ (upd H pb (.lst [])) _
    generalize upd H pb (.lst []) = H1 at I0 s0
    wtm_at "go"
    refine iIfK (fun v H' => Same H1 H' ∧ ∃ (p : Addr) (rows : List Str), v = .ref p ∧ H' p = some (.lst (rows.map V.str)) ∧ H1 p = none ∧ (∀ r ∈ rows, TO r 80000) ∧ rows.length ≤ 80001 ∧ readT sx = goT (rows.map fun r => Txt.split r " ") 0 []) (fun Q' k' => ?_) (fun v H2 hv => ?_)
    · wtm_at "go"
      first | refine iteD (fun e => ?_) (fun e => ?_) | refine iteN (fun e => ?_) (fun e => ?_) | refine ite2 (fun e => ?_) (fun e => ?_)
      · have er : readT sx = goT ((Txt.split sx "\n").map fun r => Txt.split r " ") 0 [] := by unfold readT; rw [if_neg e]
        wtm_at "go"
        refine iM1 ?_
        wtm_at "go"
        refine gM1 ?_
        wtm_at "go"
        refine ⟨_, _, rfl, rfl, by decide, Nat.le_trans (Nat.add_le_add_right ht.le 2) (by decide), fun p np => ?_⟩
        have hS : Spl sx (Txt.split sx "\n") 80000 := split1 (c := 10) (by decide) ht
        exact k' _ _ ⟨same_new np, p, _, rfl, upd_same, np, hS.each, hS.le, er⟩
      · wtm_at "go"
        intro p np
        exact k' _ _ ⟨same_new np, p, [], rfl, upd_same, np, (fun _ h => nomatch h), Nat.zero_le _, by unfold readT; rw [if_pos e]; rfl⟩
    · obtain ⟨s1, p, rows, rfl, hp, np1, hto, hlen, er⟩ := hv
      rw [er] at q qe
      have I1 := I0.same s1
      have hsame2 : Same H H2 := s0.trans s1
      have hnew2 : H p = none := s0.free np1
      clear I0 s0 s1 npb np1 H1
      wtm_at "go"
      rw [List.length_map]
      wtm_at "go"
      refine eForR (lo := 0) (fun n σ H' => ∃ y3 y4 y5 pb B, σ = [some (.str sx), some (.ref pb), some (.ref p), y3, y4, y5] ∧ Same H H' ∧ Bks K H H' pb B ∧ goT (rows.map fun r => Txt.split r " ") 0 [] = goT ((rows.drop n).map fun r => Txt.split r " ") n (B.map fun e => e.2) ∧ (B.length ≤ 5 ∧ ∀ b ∈ B, b.2.length ≤ n) ∧ H' p = some (.lst (rows.map V.str))) ⟨_, _, _, _, [], rfl, hsame2, I1, rfl, ⟨Nat.zero_le _, fun _ h => nomatch h⟩, hp⟩ ?_ ?_
      · rintro n σ H3 hn ⟨y3, y4, y5, pb, B, rfl, s3, I3, hG, ⟨hB5, hBn⟩, hp3⟩
        have hn2 : n < rows.length := by omega
        obtain ⟨row, em⟩ : ∃ row, rows[n]? = some row := ⟨_, List.getElem?_eq_getElem hn2⟩
        have hrow : TO row 80000 := hto row (List.mem_of_getElem? em)
        have hd : rows.drop n = row :: rows.drop (n + 1) := by
          obtain ⟨h1, h2⟩ := List.getElem?_eq_some_iff.mp em
          rw [List.drop_eq_getElem_cons h1, h2]
        rw [hd, List.map_cons] at hG
        rw [Int.zero_add]
        wtm_at "go"
        refine iIxL (SqL.of hp3) (at_of (j := n) rfl (by rw [List.getElem?_map, em]; rfl)) ?_
        wtm_at "go"
        have hml : (B.map fun e => V.ref e.1).length = B.length := List.length_map ..
        have bad : (∀ p, rowT (Txt.split row " ") = some p → ¬ B.length ≤ p.1 + 1) → goT (rows.map fun r => Txt.split r " ") 0 [] = .error n := fun z => by
          rw [hG]
          unfold goT
          cases e3 : rowT (Txt.split row " ") with
          | none => rfl
          | some p =>
            show (if _ then _ else _) = _
            rw [if_neg (by rw [List.length_map]; exact z p e3)]
        refine ⟨row, rfl, hrow, fun en H4 z4 => ?_, fun k l el H4 pf t z4 hpf ht => ?_⟩
        · wtm_at "go"
          intro pq npq
          exact qe n (bad fun p z => by rw [en] at z; cases z) _ pq ((s3.trans z4).trans (same_new npq)) upd_same
        · have hk5 := rowT_lt el
          have I7 := I3.same z4
          have hpb7 := I7.at_
          have s37 := s3.trans z4
          have hp7 := z4 _ _ hp3
          wtm_at "go"
          rw [hml]
          wtm_at "go"
          first | refine iteD (fun c1 => ?_) (fun c1 => ?_) | refine iteN (fun c1 => ?_) (fun c1 => ?_) | refine ite2 (fun c1 => ?_) (fun c1 => ?_)
          · wtm_at "go"
            intro pq npq
            exact qe n (bad fun p z y => by rw [el] at z; cases z; dsimp only at y; omega) _ pq (s37.trans (same_new npq)) upd_same
          · have hBl : B.length ≤ k + 1 := by omega
            have hG2 : goT (rows.map fun r => Txt.split r " ") 0 [] = goT ((rows.drop (n + 1)).map fun r => Txt.split r " ") (n + 1) (step (B.map fun e => e.2) (k, l)) := by
              rw [hG]
              show (match rowT (Txt.split row " ") with | some p => if (B.map fun e : Addr × List Lt => e.2).length ≤ p.1 + 1 then goT _ (n + 1) (step (B.map fun e : Addr × List Lt => e.2) p) else .error n | none => .error n) = _
              rw [el]
              show (if _ then _ else _) = _
              rw [if_pos (by rw [List.length_map]; exact hBl)]
            wtm_at "go"
            rw [hml]
            wtm_at "go"
            intro D nD
            have npbD := ne_of_none hpb7 nD
            refine eLcR (lo := 0) (fun i H' => ∃ rs : List Addr, rs.length = i ∧ Fr [D] H4 H' ∧ H' D = some (.lst (rs.map V.ref)) ∧ (∀ r ∈ rs, H' r = some (.lst []) ∧ H4 r = none ∧ r ≠ D) ∧ rs.Nodup) ⟨[], rfl, Fr.new nD, upd_same, (fun _ h => nomatch h), List.nodup_nil⟩ ?_ ?_
            · rintro i H8 hi ⟨rs, hrl, f8, hD, hr, hnd⟩
              wtm_at "go"
              intro r nr
              have hrD : D ≠ r := ne_of_none hD nr
              have hD2 := same_new (o := .lst []) nr _ _ hD
              have f9 : Fr [D] (upd H8 r (.lst [])) (upd (upd H8 r (.lst [])) D (.lst (rs.map V.ref ++ [.ref r]))) := Fr.set hD2 rfl (by simp)
              refine ⟨_, hD2, ?_, rs ++ [r], by rw [List.length_append, hrl]; rfl, (f8.trans (Fr.new nr)).trans f9, by rw [upd_same, List.map_append]; rfl, fun x hx => ?_, ?_⟩
              · rw [List.length_map, hrl]
                exact Nat.lt_of_lt_of_le hi (Nat.le_trans (show _ ≤ 10 by omega) (by decide))
              · rcases List.mem_append.mp hx with hx | hx
                · obtain ⟨a, b, c⟩ := hr x hx
                  exact ⟨f9.at_ _ _ (same_new nr _ _ a) (by simpa using c), b, c⟩
                · rw [List.mem_singleton.mp hx]
                  exact ⟨f9.at_ _ _ upd_same (by simpa using Ne.symm hrD), f8.free nr, Ne.symm hrD⟩
              · rw [List.nodup_append]
                refine ⟨hnd, by simp, fun a ha b hb e => ?_⟩
                rw [List.mem_singleton.mp hb] at e
                rw [e] at ha
                rw [(hr r ha).1] at nr
                cases nr
            · rintro H8 ⟨rs, hrl, f8, hD, hr, hnd⟩
              have hpb8 := f8.at_ _ _ hpb7 (by simpa using npbD)
              have s48 : ∀ a o, H4 a = some o → H8 a = some o := fun a o e => f8.at_ _ _ e (by simpa using ne_of_none e nD)
              have s38 : Same H H8 := fun a o e => s48 _ _ (s37 _ _ e)
              wtm_at "go"
              refine gCat ⟨_, hpb8, _, hD, (Nat.le_trans (show _ ≤ 10 by rw [hml, List.length_map, hrl]; omega) (by decide)), fun pq npq => ?_⟩
              have zq : ∀ a o, H8 a = some o → upd H8 pq (.lst ((B.map fun e => V.ref e.1) ++ rs.map V.ref)) a = some o := fun a o e => (upd_ne (ne_of_none e npq)).trans e
              have I9 : Bks K H (upd H8 pq (.lst ((B.map fun e => V.ref e.1) ++ rs.map V.ref))) pq (B ++ rs.map fun r => (r, [])) := by
                have f9 : Same H4 (upd H8 pq (.lst ((B.map fun e => V.ref e.1) ++ rs.map V.ref))) := fun a o e => zq _ _ (s48 _ _ e)
                refine ⟨by rw [upd_same]; simp, fun x hx => ?_, ?_, fun x hx => ?_, fun x hx => ?_, s38.free npq⟩
                · rcases List.mem_append.mp hx with hx | hx
                  · obtain ⟨ys, a, b⟩ := I7.each x hx
                    exact ⟨ys, f9 _ _ a, pMap b fun _ _ z => z.fr (Fr.same (S := []) f9)⟩
                  · obtain ⟨r, hr2, rfl⟩ := List.mem_map.mp hx
                    exact ⟨[], zq _ _ (hr r hr2).1, .nil⟩
                · rw [List.map_append, List.nodup_append]
                  refine ⟨I7.nd, by rw [List.map_map, show ((fun e : Addr × List Lt => e.1) ∘ fun r => (r, [])) = id from rfl, List.map_id]; exact hnd, fun a ha b hb e => ?_⟩
                  obtain ⟨x, hx, rfl⟩ := List.mem_map.mp ha
                  obtain ⟨y, hy, rfl⟩ := List.mem_map.mp hb
                  obtain ⟨r, hr2, rfl⟩ := List.mem_map.mp hy
                  obtain ⟨ys, a, _⟩ := I7.each x hx
                  have z2 : x.1 = r := e
                  rw [z2, (hr r hr2).2.1] at a
                  cases a
                · intro z
                  rcases List.mem_append.mp hx with hx | hx
                  · obtain ⟨ys, a, _⟩ := I7.each x hx
                    have := s48 _ _ a
                    rw [z, npq] at this
                    cases this
                  · obtain ⟨r, hr2, rfl⟩ := List.mem_map.mp hx
                    have := (hr r hr2).1
                    rw [show r = pq from z, npq] at this
                    cases this
                · rcases List.mem_append.mp hx with hx | hx
                  · exact I7.new x hx
                  · obtain ⟨r, hr2, rfl⟩ := List.mem_map.mp hx
                    exact s37.free (hr r hr2).2.1
              have s9 : Same H (upd H8 pq (.lst ((B.map fun e => V.ref e.1) ++ rs.map V.ref))) := fun a o e => zq _ _ (s38 _ _ e)
              have ht9 : SqT K (upd H8 pq (.lst ((B.map fun e => V.ref e.1) ++ rs.map V.ref))) t l.vs := sqT_same (fun a o e => zq _ _ (s48 _ _ e)) ht
              have hp9 : upd H8 pq (.lst ((B.map fun e => V.ref e.1) ++ rs.map V.ref)) p = some (.lst (rows.map V.str)) := zq _ _ (s48 _ _ hp7)
              have hpf9 := zq _ _ (s48 _ _ hpf)
              have hB9 : (B ++ rs.map fun r => ((r, []) : Addr × List Lt)).map (fun e : Addr × List Lt => e.2) = B.map (fun e : Addr × List Lt => e.2) ++ List.replicate (k + 1 - (B.map fun e : Addr × List Lt => e.2).length) ([] : List Lt) := by
                rw [List.map_append, List.map_map]
                congr 1
                rw [show ((fun e : Addr × List Lt => e.2) ∘ fun r => (r, [])) = fun _ => ([] : List Lt) from rfl, List.map_const', hrl, List.length_map]
                congr 1
                omega
              have hB9n : ∀ b ∈ B ++ rs.map fun r => ((r, []) : Addr × List Lt), b.2.length ≤ n := fun b hb => by
                rcases List.mem_append.mp hb with hb | hb
                · exact hBn b hb
                · obtain ⟨r, _, rfl⟩ := List.mem_map.mp hb
                  exact Nat.zero_le _
              have hB9l : (B ++ rs.map fun r => ((r, []) : Addr × List Lt)).length = k + 1 := by
                rw [List.length_append, List.length_map, hrl]
                omega
              generalize (B ++ rs.map fun r => ((r, []) : Addr × List Lt)) = B9 at I9 hB9 hB9l hB9n
              show gName _ _ _ (upd H8 pq (.lst ((B.map fun e => V.ref e.1) ++ rs.map V.ref))) _
              generalize upd H8 pq (.lst ((B.map fun e => V.ref e.1) ++ rs.map V.ref)) = H9 at I9 s9 ht9 hp9 hpf9
              obtain ⟨ad, ls, eB⟩ : ∃ ad ls, B9[k]? = some (ad, ls) := ⟨_, _, List.getElem?_eq_getElem (by omega)⟩
              obtain ⟨xs9, hx9, hp9s⟩ := I9.each _ (List.mem_of_getElem? eB)
              wtm_at "go"
              refine iIxL (v := .ref ad) (SqL.of I9.at_) (at_of (j := k) rfl (by rw [List.getElem?_map, eB]; rfl)) ?_
              wtm_at "go"
              have hls : ls.length ≤ n := hB9n (ad, ls) (List.mem_of_getElem? eB)
              refine gAppend ⟨_, hx9, ?_, ?_⟩
              · rw [pLen hp9s]
                exact Nat.lt_of_le_of_lt (show ls.length ≤ 80000 by omega) (by decide)
              · refine ⟨_, _, _, _, _, rfl, ?_, I9.push eB hx9 hp9s ht9, ?_, ⟨?_, ?_⟩, ?_⟩
                · intro a o e
                  rw [upd_ne (ne_of_none e (I9.new _ (List.mem_of_getElem? eB)))]
                  exact s9 _ _ e
                · rw [hG2]
                  congr 1
                  rw [List.map_set, hB9]
                  unfold step
                  dsimp only
                  congr 2
                  have : (B9.map fun e => e.2)[k]? = some ls := by rw [List.getElem?_map, eB]; rfl
                  rw [hB9] at this
                  rw [List.getD_eq_getElem?_getD, this]
                  rfl
                · rw [List.length_set]; omega
                · intro b hb
                  rcases List.mem_or_eq_of_mem_set hb with hb | hb
                  · exact Nat.le_succ_of_le (hB9n b hb)
                  · rw [hb, List.length_append]
                    exact Nat.succ_le_succ hls
                · rw [upd_ne (fun z => ?_)]
                  · exact hp9
                  · rw [← z, hp9] at hx9
                    have e1 : rows.map V.str = xs9 := by injection hx9 with h; injection h
                    rw [← e1] at hp9s
                    obtain ⟨_, _, _, c, _⟩ := pGetL hp9s (i := n) (by rw [List.getElem?_map, em]; rfl)
                    cases c
      · rintro σ H3 ⟨y3, y4, y5, pb, B, rfl, s3, I3, hG, hB5, hp3⟩
        rw [show ((rows.length : Int)).toNat = rows.length from rfl, List.drop_length] at hG
        wtm_at "go"
        exact q _ hG _ pb B s3 I3 rfl
end

/-! ### texts told otherwise: how long, of which signs -/
theorem TO.sub {s : Str} {n : Nat} (h : TO s n) {L : List Nat} (m : ∀ c ∈ L, c ∈ s.cps.toList) (l : L.length ≤ s.length) : TO (SX.S L) n := by
  have e3 : (SX.S L).cps.toList = L := List.toList_toArray ..
  refine ⟨to_of fun d hd => to_mem h.ok (m d (by rw [e3] at hd; exact hd)), ?_⟩
  have e4 : (SX.S L).length = L.length := SX.S_len _
  have := h.le
  omega
theorem cps_len (s : Str) : s.cps.toList.length = s.length := Array.length_toList ..
theorem TO.pre {s : Str} {n : Nat} (h : TO s n) {i : Int} (i0 : 0 ≤ i) : TO (Txt.slice s none (some i)) (min n i.toNat) := by
  have e : Txt.slice s none (some i) = SX.S (s.cps.toList.take i.toNat) := (congrArg (fun z => Txt.slice z none (some i)) (s_of s)).trans (SX.slice_to i0)
  rw [e]
  have a := h.sub (L := s.cps.toList.take i.toNat) (fun c hc => List.mem_of_mem_take hc) (by rw [← cps_len]; exact List.length_take_le' ..)
  refine ⟨a.ok, ?_⟩
  have e4 : (SX.S (s.cps.toList.take i.toNat)).length = (s.cps.toList.take i.toNat).length := SX.S_len _
  have := a.le
  rw [List.length_take] at e4
  omega
theorem TO.suf {s : Str} {n : Nat} (h : TO s n) {i : Int} (i0 : 0 ≤ i) : TO (Txt.slice s (some i) none) (n - i.toNat) := by
  have e : Txt.slice s (some i) none = SX.S (s.cps.toList.drop i.toNat) := (congrArg (fun z => Txt.slice z (some i) none) (s_of s)).trans (SX.slice_from i0)
  rw [e]
  have a := h.sub (L := s.cps.toList.drop i.toNat) (fun c hc => List.mem_of_mem_drop hc) (by rw [List.length_drop, cps_len]; exact Nat.sub_le ..)
  refine ⟨a.ok, ?_⟩
  have e4 : (SX.S (s.cps.toList.drop i.toNat)).length = (s.cps.toList.drop i.toNat).length := SX.S_len _
  rw [List.length_drop, cps_len] at e4
  have := h.le
  omega
theorem cps_app (a b : Str) : (a ++ b).cps.toList = a.cps.toList ++ b.cps.toList := by
  show (a.cps ++ b.cps).toList = _
  rw [Array.toList_append]
theorem TO.app {a b : Str} {n m : Nat} (ha : TO a n) (hb : TO b m) : TO (a ++ b) (n + m) := by
  refine ⟨to_of fun c hc => ?_, by rw [Str.length_append]; exact Nat.add_le_add ha.le hb.le⟩
  rw [cps_app] at hc
  rcases List.mem_append.mp hc with h | h
  · exact to_mem ha.ok h
  · exact to_mem hb.ok h
/-- texts, with their lengths and their number -/
def cst (ys : List Str) : Nat := (ys.map (·.length)).sum + ys.length
structure Cs (ys : List Str) (m : Nat) : Prop where
  ok : ∀ y ∈ ys, PyData.strOk y = true
  le : cst ys ≤ m
theorem cst_app (a b : List Str) : cst (a ++ b) = cst a + cst b := by unfold cst; rw [List.map_append, List.sum_append, List.length_append]; omega
theorem cst_split (ys : List Str) (k : Nat) : cst (ys.take k) + cst (ys.drop k) = cst ys := by rw [← cst_app, List.take_append_drop]
theorem Cs.app {a b : List Str} {n m : Nat} (ha : Cs a n) (hb : Cs b m) : Cs (a ++ b) (n + m) := ⟨fun y hy => by
  rcases List.mem_append.mp hy with h | h
  · exact ha.ok y h
  · exact hb.ok y h, by rw [cst_app]; exact Nat.add_le_add ha.le hb.le⟩
theorem Cs.mono {a : List Str} {n m : Nat} (h : Cs a n) (l : n ≤ m) : Cs a m := ⟨h.ok, Nat.le_trans h.le l⟩
theorem Cs.take {a : List Str} (h : ∀ y ∈ a, PyData.strOk y = true) (k : Nat) : Cs (a.take k) (cst (a.take k)) := ⟨fun y hy => h y (List.mem_of_mem_take hy), Nat.le_refl _⟩
theorem Cs.drop {a : List Str} (h : ∀ y ∈ a, PyData.strOk y = true) (k : Nat) : Cs (a.drop k) (cst (a.drop k)) := ⟨fun y hy => h y (List.mem_of_mem_drop hy), Nat.le_refl _⟩
theorem Cs.one {y : Str} {n : Nat} (h : TO y n) : Cs [y] (n + 1) := ⟨fun z hz => by rw [List.mem_singleton.mp hz]; exact h.ok, by unfold cst; simp only [List.map_cons, List.map_nil, List.sum_cons, List.sum_nil, List.length_cons, List.length_nil]; have := h.le; omega⟩
theorem join_mem {sep : Str} {c : Nat} : ∀ {ys : List Str}, c ∈ (Str.join sep ys).cps.toList → c ∈ sep.cps.toList ∨ ∃ y ∈ ys, c ∈ y.cps.toList
  | [], h => by simp [Str.join, Str.empty] at h
  | [x], h => .inr ⟨x, List.mem_singleton.mpr rfl, h⟩
  | x :: y :: r, h => by
    have h : c ∈ (x ++ sep ++ Str.join sep (y :: r)).cps.toList := h
    rw [cps_app, cps_app] at h
    rcases List.mem_append.mp h with h | h
    · rcases List.mem_append.mp h with h | h
      · exact .inr ⟨x, List.mem_cons_self .., h⟩
      · exact .inl h
    · rcases join_mem h with h | ⟨z, hz, hc⟩
      · exact .inl h
      · exact .inr ⟨z, List.mem_cons_of_mem _ hz, hc⟩
theorem Cs.join {sep : Str} {ys : List Str} {m : Nat} (h : Cs ys m) (s1 : sep.length ≤ 1) (s2 : PyData.strOk sep = true) : TO (Txt.join sep ys) m := by
  refine ⟨to_of fun c hc => ?_, Nat.le_trans (join_len sep ys) (Nat.le_trans ?_ h.le)⟩
  · rw [TL.join_eq] at hc
    rcases join_mem hc with h2 | ⟨y, hy, h2⟩
    · exact to_mem s2 h2
    · exact to_mem (h.ok y hy) h2
  · unfold cst
    have := Nat.mul_le_mul_left ys.length s1
    omega
theorem Cs.spl {s : Str} {ys : List Str} {n : Nat} (h : Spl s ys n) : Cs ys (s.length + 1) := ⟨fun y hy => (h.each y hy).ok, Nat.le_of_eq h.sum⟩
theorem cst_at {ys : List Str} {k : Nat} {y : Str} (e : ys[k]? = some y) : cst (ys.take k) + (y.length + 1) + cst (ys.drop (k + 1)) = cst ys := by
  obtain ⟨h1, h2⟩ := List.getElem?_eq_some_iff.mp e
  have := cst_split ys k
  rw [List.drop_eq_getElem_cons h1, h2] at this
  rw [← this]
  unfold cst
  simp only [List.map_cons, List.sum_cons, List.length_cons]
  omega

/-! ### a text spoilt: walked -/
/-- the signs, where the law's text has them -/
def sgnOf : List Stmt → Str
  | .Assign _ (.Constant (.str z) _ _) _ :: _ => z
  | _ :: r => sgnOf r
  | [] => ""
def sgn : Str := sgnOf (defBody s_law_spoilt)
theorem sgn_at {r : Int} (r0 : 0 ≤ r) (r1 : r < 92) : ∃ c, atI sgn.cps.toList r = some c ∧ TO ⟨#[c]⟩ 1 := by
  have hl : sgn.cps.toList.length = 92 := by decide +kernel
  have all : (sgn.cps.toList.all fun c => decide (c < 128)) = true := by decide +kernel
  have hr : r.toNat < sgn.cps.toList.length := by omega
  refine ⟨sgn.cps.toList[r.toNat], ?_, ?_, Nat.le_refl _⟩
  · show ((ixN sgn.cps.toList.length r).bind fun j => sgn.cps.toList[j]?) = _
    rw [show ixN sgn.cps.toList.length r = some r.toNat from ixN_nat (by omega) hr]
    exact List.getElem?_eq_getElem hr
  · refine to_of fun d hd => ?_
    have hd : d = sgn.cps.toList[r.toNat] := by simpa using hd
    have := of_decide_eq_true (List.all_eq_true.mp all _ (List.getElem_mem hr))
    omega
theorem iSlS {K : PySem.W.Frag} {H : Hp} {p : Addr} {rows rs : List Str} {lo hi : Option Int} {Q : VK} (hp : H p = some (.lst (rows.map V.str))) (e : cutV (rows.map V.str) lo hi = rs.map V.str)
    (q : ∀ H' p', H p' = none → Same H H' → H' p' = some (.lst (rs.map V.str)) → Q (.ref p') H') : rSlL K (.ref p) lo hi H Q :=
  iSlL (SqL.of hp) fun p' np => by rw [e]; exact q _ p' np (same_new np) upd_same
theorem iCatS {H : Hp} {p1 p2 : Addr} {a b : List Str} {Q : VK} (h1 : H p1 = some (.lst (a.map V.str))) (h2 : H p2 = some (.lst (b.map V.str))) (l : a.length + b.length ≤ 900000)
    (q : ∀ H' p', H p' = none → Same H H' → H' p' = some (.lst ((a ++ b).map V.str)) → Q (.ref p') H') : rCat (.ref p1) (.ref p2) H Q :=
  gCat ⟨_, h1, _, h2, by rw [List.length_map, List.length_map]; exact Nat.le_trans l (by decide), fun p' np => q _ p' np (same_new np) (by rw [upd_same, List.map_append])⟩
theorem cutTo {rows : List Str} {k : Nat} : cutV (rows.map V.str) none (some (k : Int)) = (rows.take k).map V.str := by rw [cut_to, List.map_take]
theorem cutTo1 {rows : List Str} {k : Nat} : cutV (rows.map V.str) none (some ((k : Int) + 1)) = (rows.take (k + 1)).map V.str := cutTo (k := k + 1)
theorem cutFr {rows : List Str} {k : Nat} : cutV (rows.map V.str) (some (k : Int)) none = (rows.drop k).map V.str := by rw [cut_from, List.map_drop]
theorem cutFr1 {rows : List Str} {k : Nat} : cutV (rows.map V.str) (some ((k : Int) + 1)) none = (rows.drop (k + 1)).map V.str := cutFr (k := k + 1)
abbrev odd1 : List Str := ["", "0", "00", "07", "-0", "-1", "-20", "-21", "20", "21", "12", "13", "8", "9", "10", "4", "5", "100", "-"]
abbrev odd2 : List Str := ["make", "let", "show", "Show", "tie"]
abbrev odd1V : List V := [V.str "", V.str "0", V.str "00", V.str "07", V.str "-0", V.str "-1", V.str "-20", V.str "-21", V.str "20", V.str "21", V.str "12", V.str "13", V.str "8", V.str "9", V.str "10", V.str "4", V.str "5", V.str "100", V.str "-"]
abbrev odd2V : List V := [V.str "make", V.str "let", V.str "show", V.str "Show", V.str "tie"]
theorem odd_at {r : Int} (r0 : 0 ≤ r) (r1 : r < 24) : ∃ y : Str, atI ((odd1 ++ odd2).map V.str) r = some (.str y) ∧ TO y 4 := by
  have hr : r.toNat < (odd1 ++ odd2).length := by show r.toNat < 24; omega
  have all : ((odd1 ++ odd2).all fun y => PyData.strOk y && decide (y.length ≤ 4)) = true := by decide +kernel
  have := List.all_eq_true.mp all _ (List.getElem_mem hr)
  rw [Bool.and_eq_true, decide_eq_true_eq] at this
  exact ⟨(odd1 ++ odd2)[r.toNat], at_of (j := r.toNat) (by omega) (by rw [List.getElem?_map, List.getElem?_eq_getElem hr]; rfl), this.1, this.2⟩
def spSpoilt : Sp := fun vs H Q _ => ∃ (ph pl : Addr) (s : Str) (n : Nat), vs = [.ref ph, .str s] ∧ Drw H ph pl ∧ TO s n ∧ n ≤ 30000 ∧ ∀ H' s', Drw H' ph pl → Fr [ph, pl] H H' → TO s' (2 * n + 20) → Q (.str s') H'
section
variable {P : Program} {w : World} {K : PySem.W.Frag} {mg : Str → Option Value} {base : Heap}
theorem ok_law_spoilt (T : Tx w K mg) : Cal P w K mg base 2 "_law_spoilt" spSpoilt [] := by
  refine mk_law_spoilt T (fun vs H Q E h => ?_) (fun cdv A outer s H vs Q E hr h => ?_)
  · obtain ⟨ph, pl, s, n, rfl, _⟩ := h
    rfl
  · obtain ⟨ph, pl, sx, n, rfl, d0, ht, hn, q⟩ := h
    refine ⟨_, (pss_cons (ps_set (i := 2) sc_law_spoilt.nd rfl (.inl rfl) (pe_c (ok_law_next T) hr (by omega) rfl (pa_cons (pv 0) (pa_cons pe_int pa_nil))))
  (pss_cons (ps_set (i := 3) sc_law_spoilt.nd rfl (.inl rfl) (pe_c (ok_law_next T) hr (by omega) rfl (pa_cons (pv 0) (pa_cons (pe_op op_add (pe_callB c_lenS (by rfl) (f_len T) (by decide +kernel) (pa_cons (pv 1) pa_nil)) pe_int) pa_nil))))
  (pss_cons (ps_set (i := 4) sc_law_spoilt.nd rfl (.inl rfl) pe_str)
  (pss_cons (ps_set (i := 5) sc_law_spoilt.nd rfl (.inl rfl) (pe_ix ix_str (pv 4) (pe_c (ok_law_next T) hr (by omega) rfl (pa_cons (pv 0) (pa_cons (pe_ix ix_list (pe_lst (pa_cons pe_int (pa_cons (pe_callB c_lenS (by rfl) (f_len T) (by decide +kernel) (pa_cons (pv 4) pa_nil)) pa_nil))) (pe_c (ok_law_next T) hr (by omega) rfl (pa_cons (pv 0) (pa_cons pe_int pa_nil))) (fun _ _ => rfl)) pa_nil))) (fun _ _ => rfl)))
  (pss_cons (ps_if (pt_cmpR op_lt (pv 2) pe_int (nomark _)) (pss_one (ps_ret (pe_op o_addS (pe_op o_addS (pe_slice sl_txt (pv 1) po_none (po_some (pv 3))) (pe_ix ix_list (pe_lst (pa_cons (pv 5) (pa_cons pe_str (pa_cons (pv 5) pa_nil)))) (pv 2) (fun _ _ => rfl))) (pe_slice sl_txt (pv 1) (po_some (pe_op op_add (pv 3) (pe_callTy call_int1 (by rfl) (f_int T) (by decide +kernel) (pa_cons (pe_cmpR op_gt (pv 2) pe_int (nomark _)) pa_nil)))) po_none)))) pss_nil)
  (pss_cons (ps_set (i := 6) sc_law_spoilt.nd rfl (.inl rfl) (pe_split (pv 1) pe_str))
  (pss_cons (ps_set (i := 7) sc_law_spoilt.nd rfl (.inl rfl) (pe_c (ok_law_next T) hr (by omega) rfl (pa_cons (pv 0) (pa_cons (pe_callB c_len (by rfl) (f_len T) (by decide +kernel) (pa_cons (pv 6) pa_nil)) pa_nil))))
  (pss_cons (ps_if (pt_cmpR op_lt (pv 2) pe_int (nomark _)) (pss_one (ps_ret (pe_join pe_str (pe_ix ix_list (pe_lst (pa_cons (pe_op op_cat (pe_slice sl_list (pv 6) po_none (po_some (pv 7))) (pe_slice sl_list (pv 6) (po_some (pe_op op_add (pv 7) pe_int)) po_none)) (pa_cons (pe_op op_cat (pe_slice sl_list (pv 6) po_none (po_some (pe_op op_add (pv 7) pe_int))) (pe_slice sl_list (pv 6) (po_some (pv 7)) po_none)) (pa_cons (pe_op op_cat (pe_slice sl_list (pv 6) (po_some (pv 7)) po_none) (pe_slice sl_list (pv 6) po_none (po_some (pv 7)))) pa_nil)))) (pe_op op_sub (pv 2) pe_int) (fun _ _ => rfl))))) pss_nil)
  (pss_cons (ps_set (i := 8) sc_law_spoilt.nd rfl (.inl rfl) (pe_split (pe_ix ix_list (pv 6) (pv 7) (fun _ _ => rfl)) pe_str))
  (pss_cons (ps_set (i := 9) sc_law_spoilt.nd rfl (.inl rfl) (pe_c (ok_law_next T) hr (by omega) rfl (pa_cons (pv 0) (pa_cons (pe_callB c_len (by rfl) (f_len T) (by decide +kernel) (pa_cons (pv 8) pa_nil)) pa_nil))))
  (pss_cons (ps_set (i := 10) sc_law_spoilt.nd rfl (.inl rfl) (pe_lst (pa_cons pe_str (pa_cons pe_str (pa_cons pe_str (pa_cons pe_str (pa_cons pe_str (pa_cons pe_str (pa_cons pe_str (pa_cons pe_str (pa_cons pe_str (pa_cons pe_str (pa_cons pe_str (pa_cons pe_str (pa_cons pe_str (pa_cons pe_str (pa_cons pe_str (pa_cons pe_str (pa_cons pe_str (pa_cons pe_str (pa_cons pe_str pa_nil)))))))))))))))))))))
  (pss_cons (ps_set (i := 10) sc_law_spoilt.nd rfl (.inl rfl) (pe_op op_cat (pv 10) (pe_lst (pa_cons pe_str (pa_cons pe_str (pa_cons pe_str (pa_cons pe_str (pa_cons pe_str pa_nil))))))))
  (pss_cons (ps_set (i := 8) sc_law_spoilt.nd rfl (.inl rfl) (pe_op op_cat (pe_op op_cat (pe_slice sl_list (pv 8) po_none (po_some (pv 9))) (pe_ix ix_list (pe_lst (pa_cons (pe_lst pa_nil) (pa_cons (pe_op op_rep (pe_lst (pa_cons (pe_ix ix_list (pv 8) (pv 9) (fun _ _ => rfl)) pa_nil)) pe_int) (pa_cons (pe_lst (pa_cons (pe_ix ix_list (pv 10) (pe_c (ok_law_next T) hr (by omega) rfl (pa_cons (pv 0) (pa_cons pe_int pa_nil))) (fun _ _ => rfl)) pa_nil)) pa_nil)))) (pe_op op_sub (pv 2) pe_int) (fun _ _ => rfl))) (pe_slice sl_list (pv 8) (po_some (pe_op op_add (pv 9) pe_int)) po_none)))
  (pss_one (ps_ret (pe_join pe_str (pe_op op_cat (pe_op op_cat (pe_slice sl_list (pv 6) po_none (po_some (pv 7))) (pe_lst (pa_cons (pe_join pe_str (pv 8)) pa_nil))) (pe_slice sl_list (pv 6) (po_some (pe_op op_add (pv 7) pe_int)) po_none)))))))))))))))))), ?_⟩
    rw [st_law_spoilt]
    have hz : sx.length ≤ sizeLine := Nat.le_trans ht.le (Nat.le_trans hn (by decide))
    wtm_at "go"
    refine iNx d0 (by omega) (by omega) fun H1 turn d1 f1 t0 t1 => ?_
    wtm_at "go"
    refine iLenS hz ?_
    wtm_at "go"
    have hln : (sx.length : Int) ≤ 30000 := by have := ht.le; omega
    refine iNx d1 (by omega) (by omega) fun H2 at_ d2 f2 a0 a1 => ?_
    wtm_at "go"
    refine iLenS (z := sgn) (show sgn.length ≤ sizeLine by decide +kernel) ?_
    rw [show (Str.length sgn) = 92 by decide +kernel]
    wtm_at "go"
    refine iPick [13, 92] rfl d2 rfl (by simp) (by simp) fun H3 c d3 f3 hc => ?_
    have hc : 13 ≤ c ∧ c ≤ 92 := by simp at hc; omega
    wtm_at "go"
    refine iNx d3 (by omega) (by omega) fun H4 r d4 f4 r0 r1 => ?_
    wtm_at "go"
    obtain ⟨sc, es, hts⟩ := sgn_at r0 (by omega)
    refine iIxS (show sgn.length ≤ sizeLine by decide +kernel) es ?_
    have f04 := f1.trans (f2.trans (f3.trans f4))
    clear f1 f2 f3 f4 d0 d1 d2 d3 es hc r1
    generalize (⟨#[sc]⟩ : Str) = sg at hts
    generalize sgn = sgg
    wtm_at "go"
    first | refine iteD (fun c1 => ?_) (fun c1 => ?_) | refine iteN (fun c1 => ?_) (fun c1 => ?_) | refine ite2 (fun c1 => ?_) (fun c1 => ?_)
    · wtm_at "go"
      refine iSlX hz ?_
      wtm_at "go"
      intro p np
      have s5 := same_new (o := .lst [.str sg, .str "", .str sg]) np
      have hp : upd H4 p (.lst [.str sg, .str "", .str sg]) p = some (.lst [.str sg, .str "", .str sg]) := upd_same
      generalize upd H4 p (.lst [.str sg, .str "", .str sg]) = H5 at s5 hp
      wtm_at "go"
      obtain ⟨x, ex, hx⟩ : ∃ x : Str, atI [V.str sg, .str "", .str sg] turn = some (.str x) ∧ TO x 1 := by
        have hh : turn = 0 ∨ turn = 1 ∨ turn = 2 := by omega
        rcases hh with rfl | rfl | rfl
        · exact ⟨sg, at_of (j := 0) rfl rfl, hts⟩
        · exact ⟨"", at_of (j := 1) rfl rfl, by decide +kernel, by decide +kernel⟩
        · exact ⟨sg, at_of (j := 2) rfl rfl, hts⟩
      refine iIxL (SqL.of hp) ex ?_
      have hpre := ht.pre a0
      have h1 := hpre.app hx
      refine iAddS (by rw [← Str.length_append]; exact Nat.le_trans h1.le (Nat.le_trans (show _ ≤ 30001 by omega) (by decide))) ?_
      wtm_at "go"
      refine .inr ⟨_, rfl, ?_⟩
      wtm_at "go"
      refine iSlX hz ?_
      have h2 := h1.app (ht.suf (i := at_ + if decide (0 < turn) = true then 1 else 0) (by split <;> omega))
      refine iAddS (by rw [← Str.length_append]; exact Nat.le_trans h2.le (Nat.le_trans (show _ ≤ 60001 by omega) (by decide))) ?_
      exact q _ _ (d4.same s5) (f04.trans (Fr.same s5)) (h2.mono (by omega))
    · wtm_at "go"
      refine iM1 ?_
      wtm_at "go"
      refine gM1 ?_
      wtm_at "go"
      refine ⟨_, _, rfl, rfl, by decide, Nat.le_trans (Nat.add_le_add_right ht.le 2) (Nat.le_trans (show _ ≤ 30002 by omega) (by decide)), fun p np => ?_⟩
      have hS : Spl sx (Txt.split sx "\n") n := split1 (c := 10) (by decide) ht
      generalize Txt.split sx "\n" = rows at hS
      have hC := Cs.spl hS
      have hc1 : cst rows = sx.length + 1 := hS.sum
      have hne := hS.ne
      have hrl : rows.length ≤ 30001 := by have := hS.le; omega
      have hr0 : 0 < rows.length := List.length_pos_iff.mpr hne
      have hp : upd H4 p (.lst (rows.map V.str)) p = some (.lst (rows.map V.str)) := upd_same
      have s5 := same_new (o := .lst (rows.map V.str)) np
      have f5 := f04.trans (Fr.same s5)
      have d5 := d4.same s5
      have npS := d4.ne np
      generalize upd H4 p (.lst (rows.map V.str)) = H5 at s5 hp f5 d5
      wtm_at "go"
      rw [List.length_map]
      refine iNx d5 (by omega) (by omega) fun H6 k d6 f6 k0 k1 => ?_
      have hp6 := f6.at_ _ _ hp npS
      have f06 := f5.trans f6
      obtain ⟨k, rfl⟩ := Int.eq_ofNat_of_zero_le k0
      obtain ⟨row, er⟩ : ∃ row, rows[k]? = some row := ⟨_, List.getElem?_eq_getElem (by omega)⟩
      have hca := cst_at er
      have hcs := cst_split rows k
      have hcs1 := cst_split rows (k + 1)
      have hsn := ht.le
      wtm_at "go"
      first | refine iteD (fun c2 => ?_) (fun c2 => ?_) | refine iteN (fun c2 => ?_) (fun c2 => ?_) | refine ite2 (fun c2 => ?_) (fun c2 => ?_)
      · wtm_at "go"
        refine iM1 ?_
        wtm_at "go"
        refine gM1 ?_
        wtm_at "go"
        refine iSlS hp6 cutTo fun H7 p7 np7 s7 h7 => ?_
        have hp7 := s7 _ _ hp6
        wtm_at "go"
        refine iSlS hp7 cutFr1 fun H8 p8 np8 s8 h8 => ?_
        have hp8 := s8 _ _ hp7
        have h7 := s8 _ _ h7
        refine iCatS h7 h8 (by simp only [List.length_take, List.length_drop]; omega) fun H9 pA npA s9 hA => ?_
        have hp9 := s9 _ _ hp8
        clear h7 h8
        wtm_at "go"
        refine iSlS hp9 cutTo1 fun HA p7 np7 sA h7 => ?_
        have hpA := sA _ _ hp9
        have hA := sA _ _ hA
        wtm_at "go"
        refine iSlS hpA cutFr fun HB p8 np8 sB h8 => ?_
        have hpB := sB _ _ hpA
        have hA := sB _ _ hA
        have h7 := sB _ _ h7
        refine iCatS h7 h8 (by simp only [List.length_take, List.length_drop]; omega) fun HC pB npB sC hB => ?_
        have hpC := sC _ _ hpB
        have hA := sC _ _ hA
        clear h7 h8
        wtm_at "go"
        refine iSlS hpC cutFr fun HD p7 np7 sD h7 => ?_
        have hpD := sD _ _ hpC
        have hA := sD _ _ hA
        have hB := sD _ _ hB
        wtm_at "go"
        refine iSlS hpD cutTo fun HE p8 np8 sE h8 => ?_
        have hA := sE _ _ hA
        have hB := sE _ _ hB
        have h7 := sE _ _ h7
        refine iCatS h7 h8 (by simp only [List.length_take, List.length_drop]; omega) fun HF pC npC sF hCC => ?_
        have hA := sF _ _ hA
        have hB := sF _ _ hB
        clear h7 h8
        have s6F := s7.trans (s8.trans (s9.trans (sA.trans (sB.trans (sC.trans (sD.trans (sE.trans sF)))))))
        wtm_at "go"
        intro pL nL
        have sL := same_new (o := .lst [.ref pA, .ref pB, .ref pC]) nL
        have hL : upd HF pL (.lst [.ref pA, .ref pB, .ref pC]) pL = some (.lst [.ref pA, .ref pB, .ref pC]) := upd_same
        have hA := sL _ _ hA
        have hB := sL _ _ hB
        have hCC := sL _ _ hCC
        have s6L := s6F.trans sL
        generalize upd HF pL (.lst [.ref pA, .ref pB, .ref pC]) = HL at hL hA hB hCC s6L
        wtm_at "go"
        have tk := fun i => Cs.take hC.ok i
        have dk := fun i => Cs.drop hC.ok i
        obtain ⟨pX, ys, ex, hX, hY⟩ : ∃ (pX : Addr) (ys : List Str), atI [V.ref pA, .ref pB, .ref pC] (turn - 3) = some (.ref pX) ∧ HL pX = some (.lst (ys.map V.str)) ∧ Cs ys (2 * n + 20) := by
          have hh : turn - 3 = 0 ∨ turn - 3 = 1 ∨ turn - 3 = 2 := by omega
          rcases hh with e | e | e
          · exact ⟨pA, _, by rw [e]; exact at_of (j := 0) rfl rfl, hA, ((tk k).app (dk (k + 1))).mono (by omega)⟩
          · exact ⟨pB, _, by rw [e]; exact at_of (j := 1) rfl rfl, hB, ((tk (k + 1)).app (dk k)).mono (by omega)⟩
          · exact ⟨pC, _, by rw [e]; exact at_of (j := 2) rfl rfl, hCC, ((dk k).app (tk k)).mono (by omega)⟩
        refine iIxL (SqL.of hL) ex ?_
        wtm_at "go"
        have hn1 : ((Str.ofString "\n").length) = 1 := by decide
        refine ⟨"\n", pX, ys, rfl, rfl, .inl (SqL.of hX), ?_, ?_⟩
        · have h1 := hY.le
          rw [hn1]
          unfold cst at h1
          omega
        · exact q _ _ (d6.same s6L) (f06.trans (Fr.same s6L)) (hY.join (by decide) (by decide +kernel))
      · wtm_at "go"
        refine iM1 ?_
        wtm_at "go"
        refine iIxL (v := .str row) (SqL.of hp6) (at_of (j := k) rfl (by rw [List.getElem?_map, er]; rfl)) ?_
        refine gM1 ?_
        wtm_at "go"
        have hrow : TO row n := hS.each row (List.mem_of_getElem? er)
        have hrn := hrow.le
        refine ⟨_, _, rfl, rfl, by decide, Nat.le_trans (Nat.add_le_add_right hrow.le 2) (Nat.le_trans (show _ ≤ 30002 by omega) (by decide)), fun p7 np7 => ?_⟩
        have hW : Spl row (Txt.split row " ") n := split1 (c := 32) (by decide) hrow
        generalize Txt.split row " " = wds at hW
        have hCw := Cs.spl hW
        have hcw : cst wds = row.length + 1 := hW.sum
        have hwl : wds.length ≤ 30001 := by have := hW.le; omega
        have hw0 : 0 < wds.length := List.length_pos_iff.mpr hW.ne
        have s7 := same_new (o := .lst (wds.map V.str)) np7
        have hw7 : upd H6 p7 (.lst (wds.map V.str)) p7 = some (.lst (wds.map V.str)) := upd_same
        have hp7 := s7 _ _ hp6
        have f07 := f06.trans (Fr.same s7)
        have d7 := d6.same s7
        have nS7 := d6.ne np7
        generalize upd H6 p7 (.lst (wds.map V.str)) = H7 at hw7 hp7 f07 d7
        clear s7
        wtm_at "go"
        rw [List.length_map]
        refine iNx d7 (by omega) (by omega) fun H8 j d8 f8 j0 j1 => ?_
        have hw8 := f8.at_ _ _ hw7 nS7
        have hp8 := f8.at_ _ _ hp7 npS
        have f08 := f07.trans f8
        obtain ⟨j, rfl⟩ := Int.eq_ofNat_of_zero_le j0
        obtain ⟨wj, ej⟩ : ∃ wj, wds[j]? = some wj := ⟨_, List.getElem?_eq_getElem (by omega)⟩
        have hcj := cst_at ej
        wtm_at "go"
        intro pa npa
        have sa := same_new (o := .lst odd1V) npa
        have ha : upd H8 pa (.lst odd1V) pa = some (.lst (odd1.map V.str)) := upd_same
        have hwa := sa _ _ hw8
        have hpa := sa _ _ hp8
        have f0a := f08.trans (Fr.same sa)
        have da := d8.same sa
        generalize upd H8 pa (.lst odd1V) = Ha at ha hwa hpa f0a da
        clear sa
        wtm_at "go"
        intro pb npb
        have sb := same_new (o := .lst odd2V) npb
        have hb : upd Ha pb (.lst odd2V) pb = some (.lst (odd2.map V.str)) := upd_same
        have hab := sb _ _ ha
        have hwb := sb _ _ hwa
        have hpb := sb _ _ hpa
        have f0b := f0a.trans (Fr.same sb)
        have db := da.same sb
        generalize upd Ha pb (.lst odd2V) = Hb at hb hab hwb hpb f0b db
        clear sb
        refine iCatS hab hb (by decide) fun Hc po npo sc ho => ?_
        have npoS := db.ne npo
        have hwc := sc _ _ hwb
        have hpc := sc _ _ hpb
        have f0c := f0b.trans (Fr.same sc)
        have dc := db.same sc
        clear hab hb ha hwb hpb hwa hpa hw8 hp8 sc
        wtm_at "go"
        refine iSlS hwc cutTo fun Hd pt npt sd htk => ?_
        have nptS := dc.ne npt
        have hwd := sd _ _ hwc
        have hpd := sd _ _ hpc
        have hod := sd _ _ ho
        have f0d := f0c.trans (Fr.same sd)
        have dd := dc.same sd
        clear hwc hpc ho sd
        wtm_at "go"
        intro pe npe
        have npeS := dd.ne npe
        have se := same_new (o := .lst []) npe
        have hpe' : upd Hd pe (.lst []) pe = some (.lst (([] : List Str).map V.str)) := upd_same
        have hwe := se _ _ hwd
        have hpe := se _ _ hpd
        have hoe := se _ _ hod
        have hte := se _ _ htk
        have f0e := f0d.trans (Fr.same se)
        have de := dd.same se
        generalize upd Hd pe (.lst []) = Hq0 at hpe' hwe hpe hoe hte f0e de
        clear hwd hpd hod htk se
        wtm_at "go"
        refine iIxL (v := .str wj) (SqL.of hwe) (at_of (j := j) rfl (by rw [List.getElem?_map, ej]; rfl)) ?_
        wtm_at "go"
        intro p1 np1
        have np1S := de.ne np1
        have sq := same_new (o := .lst [.str wj]) np1
        have hr1 : upd Hq0 p1 (.lst [.str wj]) p1 = some (.lst ([wj].map V.str)) := upd_same
        have hwe := sq _ _ hwe
        have hpe := sq _ _ hpe
        have hoe := sq _ _ hoe
        have hte := sq _ _ hte
        have hpe' := sq _ _ hpe'
        have fq := f0e.trans (Fr.same sq)
        have dq := de.same sq
        generalize upd Hq0 p1 (.lst [.str wj]) = Hq1 at hr1 hwe hpe hoe hte hpe' fq dq
        clear sq
        wtm_at "go"
        refine gRepL hr1 (by decide) (by decide) (show 1 ≤ 1000 by decide) ?_
        intro p2 np2
        have np2S := dq.ne np2
        have sq := same_new (o := .lst (List.replicate (2 : Int).toNat ([wj].map V.str)).flatten) np2
        have hr2 : upd Hq1 p2 (.lst (List.replicate (2 : Int).toNat ([wj].map V.str)).flatten) p2 = some (.lst ([wj, wj].map V.str)) := upd_same
        have hwe := sq _ _ hwe
        have hpe := sq _ _ hpe
        have hoe := sq _ _ hoe
        have hte := sq _ _ hte
        have hpe' := sq _ _ hpe'
        have hr1 := sq _ _ hr1
        have fq := fq.trans (Fr.same sq)
        have dq := dq.same sq
        generalize upd Hq1 p2 (.lst (List.replicate (2 : Int).toNat ([wj].map V.str)).flatten) = Hq2 at hr2 hwe hpe hoe hte hpe' hr1 fq dq
        clear sq
        wtm_at "go"
        refine iNx dq (by omega) (by omega) fun Hz z dz fz z0 z1 => ?_
        have hwz := fz.at_ _ _ hwe nS7
        have hpz := fz.at_ _ _ hpe npS
        have hoz := fz.at_ _ _ hoe npoS
        have htz := fz.at_ _ _ hte nptS
        have hez := fz.at_ _ _ hpe' npeS
        have h2z := fz.at_ _ _ hr2 np2S
        have f0z := fq.trans fz
        clear hwe hpe hoe hte hpe' hr2 hr1 fq dq
        obtain ⟨ow, eo, hto⟩ := odd_at z0 z1
        refine iIxL (SqL.of hoz) eo ?_
        wtm_at "go"
        clear hoz
        intro p3 np3
        have sq := same_new (o := .lst [.str ow]) np3
        have h3 : upd Hz p3 (.lst [.str ow]) p3 = some (.lst ([ow].map V.str)) := upd_same
        have hwz := sq _ _ hwz
        have hpz := sq _ _ hpz
        have htz := sq _ _ htz
        have hez := sq _ _ hez
        have h2z := sq _ _ h2z
        have fq := f0z.trans (Fr.same sq)
        have dq := dz.same sq
        generalize upd Hz p3 (.lst [.str ow]) = Hq11 at h3 hwz hpz htz hez h2z fq dq
        clear sq
        wtm_at "go"
        intro p4 np4
        have sq := same_new (o := .lst [.ref pe, .ref p2, .ref p3]) np4
        have h4 : upd Hq11 p4 (.lst [.ref pe, .ref p2, .ref p3]) p4 = some (.lst [.ref pe, .ref p2, .ref p3]) := upd_same
        have hwz := sq _ _ hwz
        have hpz := sq _ _ hpz
        have htz := sq _ _ htz
        have hez := sq _ _ hez
        have h2z := sq _ _ h2z
        have h3 := sq _ _ h3
        have fq := fq.trans (Fr.same sq)
        have dq := dq.same sq
        generalize upd Hq11 p4 (.lst [.ref pe, .ref p2, .ref p3]) = Hq12 at h4 hwz hpz htz hez h2z h3 fq dq
        clear sq
        wtm_at "go"
        have tkw := fun i => Cs.take hCw.ok i
        have dkw := fun i => Cs.drop hCw.ok i
        have hwjok : TO wj n := hW.each wj (List.mem_of_getElem? ej)
        have c1w : Cs [wj] (wj.length + 1) := Cs.one ⟨hwjok.ok, Nat.le_refl _⟩
        obtain ⟨pX, mid, exm, hX, hml, hM⟩ : ∃ (pX : Addr) (ys : List Str), atI [V.ref pe, .ref p2, .ref p3] (turn - 6) = some (.ref pX) ∧ Hq12 pX = some (.lst (ys.map V.str)) ∧ ys.length ≤ 2 ∧ Cs ys (2 * (wj.length + 1) + 5) := by
          have hh : turn - 6 = 0 ∨ turn - 6 = 1 ∨ turn - 6 = 2 := by omega
          rcases hh with e | e | e
          · exact ⟨pe, [], by rw [e]; exact at_of (j := 0) rfl rfl, hez, Nat.zero_le _, ⟨(fun _ h => nomatch h), Nat.zero_le _⟩⟩
          · exact ⟨p2, [wj, wj], by rw [e]; exact at_of (j := 1) rfl rfl, h2z, Nat.le_refl _, (c1w.app c1w).mono (by omega)⟩
          · exact ⟨p3, [ow], by rw [e]; exact at_of (j := 2) rfl rfl, h3, (show 1 ≤ 2 by decide), (Cs.one hto).mono (by omega)⟩
        refine iIxL (SqL.of h4) exm ?_
        clear h4 h3 h2z hez
        refine iCatS htz hX (by have := List.length_take (i := j) (l := wds); omega) fun Hu pu npu sq hu => ?_
        have hwz := sq _ _ hwz
        have hpz := sq _ _ hpz
        have htz := sq _ _ htz
        have hX := sq _ _ hX
        have fq := fq.trans (Fr.same sq)
        have dq := dq.same sq
        clear sq
        wtm_at "go"
        refine iSlS hwz cutFr1 fun Hv pv npv sq hv => ?_
        have hwz := sq _ _ hwz
        have hpz := sq _ _ hpz
        have hu := sq _ _ hu
        have fq := fq.trans (Fr.same sq)
        have dq := dq.same sq
        clear sq
        refine iCatS hu hv (by simp only [List.length_append, List.length_take, List.length_drop]; omega) fun Hx px npx sq hx => ?_
        have hwz := sq _ _ hwz
        have hpz := sq _ _ hpz
        have hu := sq _ _ hu
        have hv := sq _ _ hv
        have fq := fq.trans (Fr.same sq)
        have dq := dq.same sq
        clear sq
        have hnw : Cs (wds.take j ++ mid ++ wds.drop (j + 1)) (2 * row.length + 8) := (((tkw j).app hM).app (dkw (j + 1))).mono (by omega)
        have hnl := hnw.le
        generalize wds.take j ++ mid ++ wds.drop (j + 1) = nw at hx hnw hnl
        wtm_at "go"
        refine iM1 ?_
        wtm_at "go"
        refine gM1 ?_
        wtm_at "go"
        refine iSlS hpz cutTo fun Hr1 pr1 npr1 sq hk1 => ?_
        have hpz := sq _ _ hpz
        have hx := sq _ _ hx
        have fq := fq.trans (Fr.same sq)
        have dq := dq.same sq
        clear sq
        wtm_at "go"
        refine iM1 ?_
        wtm_at "go"
        refine gM1 ?_
        wtm_at "go"
        have hj1 : ((Str.ofString " ").length) = 1 := by decide
        have hn1 : ((Str.ofString "\n").length) = 1 := by decide
        refine ⟨" ", px, nw, rfl, rfl, .inl (SqL.of hx), ?_, ?_⟩
        · rw [hj1]; unfold cst at hnl; omega
        have hln : TO (Txt.join " " nw) (2 * row.length + 8) := hnw.join (by decide) (by decide +kernel)
        generalize Txt.join " " nw = ln at hln
        wtm_at "go"
        intro pr2 npr2
        have sq := same_new (o := .lst [.str ln]) npr2
        have hk2 : upd Hr1 pr2 (.lst [.str ln]) pr2 = some (.lst ([ln].map V.str)) := upd_same
        have hpz := sq _ _ hpz
        have hx := sq _ _ hx
        have hk1 := sq _ _ hk1
        have fq := fq.trans (Fr.same sq)
        have dq := dq.same sq
        generalize upd Hr1 pr2 (.lst [.str ln]) = Hq21 at hk2 hpz hx hk1 fq dq
        clear sq
        refine iCatS hk1 hk2 (by simp only [List.length_take, List.length_cons, List.length_nil]; omega) fun Hr3 pr3 npr3 sq hk3 => ?_
        have hpz := sq _ _ hpz
        have hx := sq _ _ hx
        have hk1 := sq _ _ hk1
        have hk2 := sq _ _ hk2
        have fq := fq.trans (Fr.same sq)
        have dq := dq.same sq
        clear sq
        wtm_at "go"
        refine iSlS hpz cutFr1 fun Hr4 pr4 npr4 sq hk4 => ?_
        have hpz := sq _ _ hpz
        have hx := sq _ _ hx
        have hk1 := sq _ _ hk1
        have hk2 := sq _ _ hk2
        have hk3 := sq _ _ hk3
        have fq := fq.trans (Fr.same sq)
        have dq := dq.same sq
        clear sq
        refine iCatS hk3 hk4 (by simp only [List.length_append, List.length_take, List.length_drop, List.length_cons, List.length_nil]; omega) fun Hr5 pr5 npr5 sq hk5 => ?_
        have hpz := sq _ _ hpz
        have hx := sq _ _ hx
        have hk1 := sq _ _ hk1
        have hk2 := sq _ _ hk2
        have hk3 := sq _ _ hk3
        have hk4 := sq _ _ hk4
        have fq := fq.trans (Fr.same sq)
        have dq := dq.same sq
        clear sq
        have tk := fun i => Cs.take hC.ok i
        have dk := fun i => Cs.drop hC.ok i
        have hY : Cs (rows.take k ++ [ln] ++ rows.drop (k + 1)) (2 * n + 20) := (((tk k).app (Cs.one hln)).app (dk (k + 1))).mono (by omega)
        refine ⟨"\n", pr5, _, rfl, rfl, .inl (SqL.of hk5), ?_, ?_⟩
        · have h1 := hY.le
          rw [hn1]
          unfold cst at h1
          omega
        · exact q _ _ dq fq (hY.join (by decide) (by decide +kernel))
end

/-! ### alike: the same data -/
def rIxX (K : PySem.W.Frag) : R2 := fun x y H Q => rIxL K x y H Q ∨ rIxT K x y H Q
theorem ixX {X : Cx} {K : PySem.W.Frag} (e : X.K = K := by rfl) : IxR X (rIxX K) := e ▸ ix_list.or ix_tup
theorem kitA2 {K : PySem.W.Frag} {t a b : String} {r1 r2 : Bool} (h1 : kitB t a = some r1) (h2 : kitB t b = some r2) : PySem.W.kitAny K (.type t) [.type a, .type b] = some (r1 || r2) := by
  have e1 := kit_ty (K := K) h1
  have e2 := kit_ty (K := K) h2
  unfold PySem.W.kitAny
  rw [e1]
  cases r1 with
  | true => rfl
  | false =>
    dsimp only
    unfold PySem.W.kitAny
    rw [e2]
    cases r2 <;> rfl
theorem iIsiT {K : PySem.W.Frag} {H : Hp} {Q : VK} {x : V} {tp : Addr} {t a b : String} {r1 r2 : Bool} (hT : H tp = some (.tup [.ty a, .ty b])) (ty : TyX K H x (.type t)) (h1 : kitB t a = some r1) (h2 : kitB t b = some r2) (q : Q (.bl (r1 || r2)) H) : rIsiT K [x, .ref tp] H Q :=
  ⟨x, tp, [.ty a, .ty b], .type t, [.type a, .type b], r1 || r2, rfl, hT, .cons (.ty a) (.cons (.ty b) .nil), ty, kitA2 h1 h2, q⟩
theorem iIsiTN {K : PySem.W.Frag} {H : Hp} {Q : VK} {x : V} {tp : Addr} {t a b : String} (hT : H tp = some (.tup [.ty a, .ty b])) (ty : TyX K H x (.type t)) (h1 : kitB t a = some false) (h2 : kitB t b = some false) (q : Q (.bl false) H) : rIsiT K [x, .ref tp] H Q := iIsiT hT ty h1 h2 q
theorem iIsiTY {K : PySem.W.Frag} {H : Hp} {Q : VK} {x : V} {tp : Addr} {t a b : String} {r1 r2 : Bool} (hT : H tp = some (.tup [.ty a, .ty b])) (ty : TyX K H x (.type t)) (h1 : kitB t a = some r1) (h2 : kitB t b = some r2) (e : (r1 || r2) = true) (q : Q (.bl true) H) : rIsiT K [x, .ref tp] H Q := iIsiT hT ty h1 h2 (by rw [e]; exact q)
theorem iIxXL {K : PySem.W.Frag} {H : Hp} {Q : VK} {p : Addr} {xs : List V} {i : Int} {v : V} (h : SqL K H p xs) (e : atI xs i = some v) (q : Q v H) : rIxX K (.ref p) (.int i) H Q := .inl (iIxL h e q)
theorem iIxXT {K : PySem.W.Frag} {H : Hp} {Q : VK} {p : Addr} {xs : List V} {i : Int} {v : V} (h : SqT K H p xs) (e : atI xs i = some v) (q : Q v H) : rIxX K (.ref p) (.int i) H Q := .inr (iIxT h e q)
theorem iIsNB {i : Bool} {H : Hp} {Q : VK} (q : Q (.bl false) H) : rIsNon (.bl i) .non H Q := ⟨rfl, q⟩
inductive Alk : Nat → PyData → Prop
  | non (n : Nat) : Alk (n + 1) .none
  | int (n : Nat) (i : Int) : Alk (n + 1) (.int i)
  | str (n : Nat) (i : Str) : Alk (n + 1) (.str i)
  | bl (n : Nat) (i : Bool) : Alk (n + 1) (.bool i)
  | lst {n : Nat} {xs : List PyData} (l : xs.length ≤ 1000000) (h : ∀ x ∈ xs, Alk n x) : Alk (n + 1) (.list xs)
  | tup {n : Nat} {xs : List PyData} (l : xs.length ≤ 1000000) (h : ∀ x ∈ xs, Alk n x) : Alk (n + 1) (.tuple xs)
mutual
theorem dpSame {K : PySem.W.Frag} {H H' : Hp} (s : Same H H') : ∀ (d : PyData) (x : V), Dp K H x d → Dp K H' x d
  | .none, _, h => by cases h; exact .non
  | .bool b, _, h => by cases h; exact .bl b
  | .int b, _, h => by cases h; exact .int b
  | .str b, _, h => by cases h; exact .str b
  | .list ds, _, h => by
    cases h with
    | lst a b => exact .lst ((Fr.same (S := []) s).sqL a (by simp)) (dpSameAll s ds _ b)
  | .tuple ds, _, h => by
    cases h with
    | tup a b => exact .tup (sqT_same s a) (dpSameAll s ds _ b)
  | .dict ds, _, h => by cases h
theorem dpSameAll {K : PySem.W.Frag} {H H' : Hp} (s : Same H H') : ∀ (ds : List PyData) (xs : List V), DpAll K H xs ds → DpAll K H' xs ds
  | [], _, h => by cases h; exact .nil
  | d :: ds, _, h => by
    cases h with
    | cons a b => exact .cons (dpSame s d _ a) (dpSameAll s ds _ b)
end
theorem dpAll_len {K : PySem.W.Frag} {H : Hp} : ∀ {ds : List PyData} {xs : List V}, DpAll K H xs ds → xs.length = ds.length
  | [], _, h => by cases h; rfl
  | d :: ds, _, h => by
    cases h with
    | cons a b => rw [List.length_cons, List.length_cons, dpAll_len b]
theorem dpAll_get {K : PySem.W.Frag} {H : Hp} : ∀ {ds : List PyData} {xs : List V} {i : Nat} {d : PyData}, DpAll K H xs ds → ds[i]? = some d → ∃ x, xs[i]? = some x ∧ Dp K H x d
  | [], _, _, _, h, e => by simp at e
  | d :: ds, _, i, _, h, e => by
    cases h with
    | cons a b =>
      cases i with
      | zero => simp at e; subst e; exact ⟨_, rfl, a⟩
      | succ i =>
        obtain ⟨x, h1, h2⟩ := dpAll_get b (by simpa using e)
        exact ⟨x, by simpa using h1, h2⟩
def spAlike (K : PySem.W.Frag) (n : Nat) : Sp := fun vs H Q _ => ∃ x y d, vs = [x, y] ∧ Dp K H x d ∧ Dp K H y d ∧ Alk n d ∧ ∀ H', Same H H' → Q (.bl true) H'
section
variable {P : Program} {w : World} {K : PySem.W.Frag} {mg : Str → Option Value} {base : Heap}
theorem ok_law_alikeF (T : Tx w K mg) : ∀ n, Cal P w K mg base (n + 1) "_law_alike" (spAlike K n) []
  | 0 => mk_law_alike T (fun vs H Q E h => by obtain ⟨x, y, d, rfl, _⟩ := h; rfl) (fun cdv A outer s H vs Q E hr h => by obtain ⟨_, _, _, _, _, _, z, _⟩ := h; cases z)
  | f + 1 => by
    have ih := ok_law_alikeF T f
    refine mk_law_alike T (fun vs H Q E h => ?_) (fun cdv A outer s H vs Q E hr h => ?_)
    · obtain ⟨x, y, d, rfl, _⟩ := h
      rfl
    · obtain ⟨x, y, d, rfl, hx, hy, hd, q⟩ := h
      refine ⟨_, (pss_cons (ps_if (pt_val (pe_callB call_isiT (by rfl) (f_isinstance T) (by decide +kernel) (pa_cons (pv 1) (pa_cons (pe_tup (pa_cons (pe_bltn (v := .ty "tuple") (u := .type "tuple") (by rfl) (f_tuple T) (by decide +kernel) rfl) (pa_cons (pe_bltn (v := .ty "list") (u := .type "list") (by rfl) (f_list T) (by decide +kernel) rfl) pa_nil))) pa_nil)))) (pss_cons (ps_if (PW.pt (pw_or (pt_not (pt_val (pe_callB call_isiT (by rfl) (f_isinstance T) (by decide +kernel) (pa_cons (pv 0) (pa_cons (pe_tup (pa_cons (pe_bltn (v := .ty "tuple") (u := .type "tuple") (by rfl) (f_tuple T) (by decide +kernel) rfl) (pa_cons (pe_bltn (v := .ty "list") (u := .type "list") (by rfl) (f_list T) (by decide +kernel) rfl) pa_nil))) pa_nil))))) (pw_or1 (pt_cmpR op_ne (pe_callB call_isi (by rfl) (f_isinstance T) (by decide +kernel) (pa_cons (pv 0) (pa_cons (pe_bltn (v := .ty "list") (u := .type "list") (by rfl) (f_list T) (by decide +kernel) rfl) pa_nil))) (pe_callB call_isi (by rfl) (f_isinstance T) (by decide +kernel) (pa_cons (pv 1) (pa_cons (pe_bltn (v := .ty "list") (u := .type "list") (by rfl) (f_list T) (by decide +kernel) rfl) pa_nil))) (nomark _))))) (pss_one (ps_ret pe_bl)) pss_nil)
  (pss_cons (ps_if (pt_cmpR op_ne (pe_callB (lenK (K := K)) (by rfl) (f_len T) (by decide +kernel) (pa_cons (pv 0) pa_nil)) (pe_callB (lenK (K := K)) (by rfl) (f_len T) (by decide +kernel) (pa_cons (pv 1) pa_nil)) (nomark _)) (pss_one (ps_ret pe_bl)) pss_nil)
  (pss_one (ps_ret (pe_cmpR (op_eqD hr.units) (pe_lc (own := [("_law_k", 2)]) rfl sc_law_alike.nd (pi_range1 rfl (f_range T) (pa_cons (pe_callB (lenK (K := K)) (by rfl) (f_len T) (by decide +kernel) (pa_cons (pv 1) pa_nil)) pa_nil)) (blkOk_by (N := N_law_alike) (sc := defScope s_law_alike) (by decide +kernel)) (fun _ _ _ _ _ => (pg_name (i := 2) sc_law_alike.nd rfl (.inl rfl))) (fun _ _ _ _ _ => pts_one (pt_not (pt_val (pe_c ih hr (by omega) rfl (pa_cons (pe_ix (ixX (K := K)) (pv 0) (pv 2) (fun _ _ => rfl)) (pa_cons (pe_ix (ixX (K := K)) (pv 1) (pv 2) (fun _ _ => rfl)) pa_nil)))))) (fun _ _ _ _ _ => (pv 2))) (pe_lst pa_nil) (nomark _)))))) pss_nil)
  (pss_cons (ps_if (pt_cmpR o_isN (pv 1) pe_non (nomark _)) (pss_one (ps_ret (pe_cmpR o_isN (pv 0) pe_non (nomark _)))) pss_nil)
  (pss_cons (ps_if (pt_val (pe_callB call_isi (by rfl) (f_isinstance T) (by decide +kernel) (pa_cons (pv 1) (pa_cons (pe_bltn (v := .ty "str") (u := .type "str") (by rfl) (f_str T) (by decide +kernel) rfl) pa_nil)))) (pss_one (ps_ret (pe_and (pe_callB call_isi (by rfl) (f_isinstance T) (by decide +kernel) (pa_cons (pv 0) (pa_cons (pe_bltn (v := .ty "str") (u := .type "str") (by rfl) (f_str T) (by decide +kernel) rfl) pa_nil))) (pe_one (pe_cmpR op_eq (pv 0) (pv 1) (nomark _)))))) pss_nil)
  (pss_cons (ps_if (PW.pt (pw_or (pt_val (pe_callB call_isi (by rfl) (f_isinstance T) (by decide +kernel) (pa_cons (pv 1) (pa_cons (pe_bltn (v := .ty "bool") (u := .type "bool") (by rfl) (f_bool T) (by decide +kernel) rfl) pa_nil)))) (pw_or1 (pt_val (pe_callB call_isi (by rfl) (f_isinstance T) (by decide +kernel) (pa_cons (pv 0) (pa_cons (pe_bltn (v := .ty "bool") (u := .type "bool") (by rfl) (f_bool T) (by decide +kernel) rfl) pa_nil))))))) (pss_one (ps_ret (pe_and (pe_callB call_isi (by rfl) (f_isinstance T) (by decide +kernel) (pa_cons (pv 1) (pa_cons (pe_bltn (v := .ty "bool") (u := .type "bool") (by rfl) (f_bool T) (by decide +kernel) rfl) pa_nil))) (pe_and (pe_callB call_isi (by rfl) (f_isinstance T) (by decide +kernel) (pa_cons (pv 0) (pa_cons (pe_bltn (v := .ty "bool") (u := .type "bool") (by rfl) (f_bool T) (by decide +kernel) rfl) pa_nil))) (pe_one (pe_cmpR op_eq (pv 0) (pv 1) (nomark _))))))) pss_nil)
  (pss_one (ps_ret (pe_and (pe_callB call_isi (by rfl) (f_isinstance T) (by decide +kernel) (pa_cons (pv 0) (pa_cons (pe_bltn (v := .ty "int") (u := .type "int") (by rfl) (f_int T) (by decide +kernel) rfl) pa_nil))) (pe_one (pe_cmpR op_eq (pv 0) (pv 1) (nomark _)))))))))), ?_⟩
      rw [st_law_alike]
      wtm_at "go"
      intro tp ntp
      have htp : upd H tp (.tup [.ty "tuple", .ty "list"]) tp = some (.tup [.ty "tuple", .ty "list"]) := upd_same
      have s1 := same_new (o := .tup [.ty "tuple", .ty "list"]) ntp
      show tNil _ (upd H tp (.tup [.ty "tuple", .ty "list"])) _
      generalize upd H tp (.tup [.ty "tuple", .ty "list"]) = H1 at htp s1
      cases hd with
      | non =>
        cases hx
        cases hy
        wtm_at "go"
        refine iIsiTN htp (.base .non) (by decide +kernel) (by decide +kernel) ?_
        wtm_at "go"
        exact q _ s1
      | str _ i =>
        cases hx
        cases hy
        wtm_at "go"
        refine iIsiTN htp (.base (.str i)) (by decide +kernel) (by decide +kernel) ?_
        wtm_at "go"
        wtm_at "ii"
        wtm_at "go"
        wtm_at "ii"
        wtm_at "go"
        rw [decide_eq_true rfl]
        exact q _ s1
      | int _ i =>
        cases hx
        cases hy
        wtm_at "go"
        refine iIsiTN htp (.base (.int i)) (by decide +kernel) (by decide +kernel) ?_
        wtm_at "go"
        wtm_at "ii"
        wtm_at "go"
        wtm_at "ii"
        wtm_at "go"
        wtm_at "ii"
        wtm_at "go"
        wtm_at "ii"
        wtm_at "go"
        rw [decide_eq_true rfl]
        exact q _ s1
      | bl _ i =>
        cases hx
        cases hy
        wtm_at "go"
        refine iIsiTN htp (.base (.bl i)) (by decide +kernel) (by decide +kernel) ?_
        wtm_at "go"
        refine iIsNB ?_
        wtm_at "go"
        wtm_at "ii"
        wtm_at "go"
        wtm_at "ii"
        wtm_at "go"
        wtm_at "ii"
        wtm_at "go"
        wtm_at "ii"
        wtm_at "go"
        rw [decide_eq_true rfl]
        exact q _ s1
      | @lst _ ds l h =>
        cases hx with
        | @lst a xs _ ha has =>
        cases hy with
        | @lst b ys _ hb hbs =>
        have hla := dpAll_len has
        have hlb := dpAll_len hbs
        have ha1 : SqL K H1 a xs := (Fr.same (S := []) s1).sqL ha (by simp)
        have hb1 : SqL K H1 b ys := (Fr.same (S := []) s1).sqL hb (by simp)
        wtm_at "go"
        refine iIsiTY htp (tyL hb1) (r1 := false) (r2 := true) (by decide +kernel) (by decide +kernel) rfl ?_
        wtm_at "go"
        intro tq ntq
        have htq : upd H1 tq (.tup [.ty "tuple", .ty "list"]) tq = some (.tup [.ty "tuple", .ty "list"]) := upd_same
        have s2 := same_new (o := .tup [.ty "tuple", .ty "list"]) ntq
        show tNil _ (upd H1 tq (.tup [.ty "tuple", .ty "list"])) _
        generalize upd H1 tq (.tup [.ty "tuple", .ty "list"]) = H2 at htq s2
        have ha2 : SqL K H2 a xs := (Fr.same (S := []) s2).sqL ha1 (by simp)
        have hb2 : SqL K H2 b ys := (Fr.same (S := []) s2).sqL hb1 (by simp)
        wtm_at "go"
        refine iIsiTY htq (tyL ha2) (r1 := false) (r2 := true) (by decide +kernel) (by decide +kernel) rfl ?_
        wtm_at "go"
        refine iIsi (r := true) (tyL ha2) (by decide +kernel) ?_
        wtm_at "go"
        refine iIsi (r := true) (tyL hb2) (by decide +kernel) ?_
        wtm_at "go"
        refine iteNNo (by rw [hla, hlb]) ?_
        have hl3 : ys.length ≤ 1000000 := by omega
        wtm_at "go"
        intro D nD
        have sD : Same H (upd H2 D (.lst [])) := (s1.trans s2).trans (same_new nD)
        have haD : SqL K (upd H2 D (.lst [])) a xs := (Fr.same (S := []) (same_new nD)).sqL ha2 (by simp)
        have hbD : SqL K (upd H2 D (.lst [])) b ys := (Fr.same (S := []) (same_new nD)).sqL hb2 (by simp)
        refine eLcR (lo := 0) (n := (ys.length : Int).toNat) (fun i H' => Same H H' ∧ SqL K H' a xs ∧ SqL K H' b ys ∧ H' D = some (.lst [])) ⟨sD, haD, hbD, upd_same⟩ ?_ ?_
        · rintro i H3 hi ⟨s3, ha3, hb3, hD3⟩
          have hi : i < ds.length := by omega
          obtain ⟨d, ed⟩ : ∃ d, ds[i]? = some d := ⟨_, List.getElem?_eq_getElem hi⟩
          obtain ⟨x, ex, hx⟩ := dpAll_get has ed
          obtain ⟨y, ey, hy⟩ := dpAll_get hbs ed
          wtm_at "go"
          refine iIxXL ha3 (at_of (j := i) (by omega) ex) ?_
          wtm_at "go"
          refine iIxXL hb3 (at_of (j := i) (by omega) ey) ?_
          wtm_at "go"
          refine ⟨x, y, d, rfl, dpSame s3 _ _ hx, dpSame s3 _ _ hy, h d (List.mem_of_getElem? ed), fun H4 s4 => ?_⟩
          wtm_at "go"
          exact ⟨s3.trans s4, (Fr.same (S := []) s4).sqL ha3 (by simp), (Fr.same (S := []) s4).sqL hb3 (by simp), s4 _ _ hD3⟩
        · rintro H3 ⟨s3, ha3, hb3, hD3⟩
          wtm_at "go"
          intro e ne
          refine iEqDI (ns := []) (ms := []) (SqL.of (same_new ne _ _ hD3)) (SqL.of upd_same) ?_
          exact q _ (s3.trans (same_new ne))
      | @tup _ ds l h =>
        cases hx with
        | @tup a xs _ ha has =>
        cases hy with
        | @tup b ys _ hb hbs =>
        have hla := dpAll_len has
        have hlb := dpAll_len hbs
        have ha1 : SqT K H1 a xs := sqT_same s1 ha
        have hb1 : SqT K H1 b ys := sqT_same s1 hb
        wtm_at "go"
        refine iIsiTY htp (tyT hb1) (r1 := true) (r2 := false) (by decide +kernel) (by decide +kernel) rfl ?_
        wtm_at "go"
        intro tq ntq
        have htq : upd H1 tq (.tup [.ty "tuple", .ty "list"]) tq = some (.tup [.ty "tuple", .ty "list"]) := upd_same
        have s2 := same_new (o := .tup [.ty "tuple", .ty "list"]) ntq
        show tNil _ (upd H1 tq (.tup [.ty "tuple", .ty "list"])) _
        generalize upd H1 tq (.tup [.ty "tuple", .ty "list"]) = H2 at htq s2
        have ha2 : SqT K H2 a xs := sqT_same s2 ha1
        have hb2 : SqT K H2 b ys := sqT_same s2 hb1
        wtm_at "go"
        refine iIsiTY htq (tyT ha2) (r1 := true) (r2 := false) (by decide +kernel) (by decide +kernel) rfl ?_
        wtm_at "go"
        refine iIsi (r := false) (tyT ha2) (by decide +kernel) ?_
        wtm_at "go"
        refine iIsi (r := false) (tyT hb2) (by decide +kernel) ?_
        wtm_at "go"
        refine iteNNo (by rw [hla, hlb]) ?_
        have hl3 : ys.length ≤ 1000000 := by omega
        wtm_at "go"
        intro D nD
        have sD : Same H (upd H2 D (.lst [])) := (s1.trans s2).trans (same_new nD)
        have haD : SqT K (upd H2 D (.lst [])) a xs := sqT_same (same_new nD) ha2
        have hbD : SqT K (upd H2 D (.lst [])) b ys := sqT_same (same_new nD) hb2
        refine eLcR (lo := 0) (n := (ys.length : Int).toNat) (fun i H' => Same H H' ∧ SqT K H' a xs ∧ SqT K H' b ys ∧ H' D = some (.lst [])) ⟨sD, haD, hbD, upd_same⟩ ?_ ?_
        · rintro i H3 hi ⟨s3, ha3, hb3, hD3⟩
          have hi : i < ds.length := by omega
          obtain ⟨d, ed⟩ : ∃ d, ds[i]? = some d := ⟨_, List.getElem?_eq_getElem hi⟩
          obtain ⟨x, ex, hx⟩ := dpAll_get has ed
          obtain ⟨y, ey, hy⟩ := dpAll_get hbs ed
          wtm_at "go"
          refine iIxXT ha3 (at_of (j := i) (by omega) ex) ?_
          wtm_at "go"
          refine iIxXT hb3 (at_of (j := i) (by omega) ey) ?_
          wtm_at "go"
          refine ⟨x, y, d, rfl, dpSame s3 _ _ hx, dpSame s3 _ _ hy, h d (List.mem_of_getElem? ed), fun H4 s4 => ?_⟩
          wtm_at "go"
          exact ⟨s3.trans s4, sqT_same s4 ha3, sqT_same s4 hb3, s4 _ _ hD3⟩
        · rintro H3 ⟨s3, ha3, hb3, hD3⟩
          wtm_at "go"
          intro e ne
          refine iEqDI (ns := []) (ms := []) (SqL.of (same_new ne _ _ hD3)) (SqL.of upd_same) ?_
          exact q _ (s3.trans (same_new ne))
end

theorem BkT.same {K : PySem.W.Frag} {H H' : Hp} {v : V} {ls : List Lt} (s : Same H H') (h : BkT K H v ls) : BkT K H' v ls := let ⟨b, xs, e, h1, h2⟩ := h; ⟨b, xs, e, s _ _ h1, pMap h2 fun _ _ z => z.fr (Fr.same (S := []) s)⟩
def spWritten (K : PySem.W.Frag) : Sp := fun vs H Q _ => ∃ a xs bs, vs = [.ref a] ∧ H a = some (.lst xs) ∧ Paired (BkT K H) xs bs ∧ BkOk bs ∧ ∀ H', Same H H' → Q (.str (text bs)) H'
section
variable {P : Program} {w : World} {K : PySem.W.Frag} {mg : Str → Option Value} {base : Heap}
theorem ok_written (T : Tx w K mg) : Cal P w K mg base 4 "written" (spWritten K) [] := by
  refine mk_written T (fun vs H Q E h => ?_) (fun cdv A outer s H vs Q E hr h => ?_)
  · obtain ⟨a, xs, bs, rfl, _⟩ := h
    rfl
  · obtain ⟨a, xs, bs, rfl, ha, hb, hok, q⟩ := h
    refine ⟨_, (pss_cons (ps_if (pt_cmpR op_gt (pe_callB c_len (by rfl) (f_len T) (by decide +kernel) (pa_cons (pv 0) pa_nil)) (pe_gc rfl (int_MOST_CLIENTS T)) (nomark _)) (pss_one ps_never) pss_nil)
  (pss_cons (ps_set (i := 1) sc_written.nd rfl (.inl rfl) (pe_lst pa_nil))
  (pss_cons (ps_for PassesOwn.never rfl (pi_enum (by rfl) (f_enumerate T) (pa_cons (pv 0) pa_nil)) (pg_tup (n := 2) rfl (pgs_cons (pg_name (i := 2) sc_written.nd rfl (.inl rfl)) (pgs_cons (pg_name (i := 3) sc_written.nd rfl (.inl rfl)) pgs_nil))) (pss_one (ps_for PassesOwn.never rfl (pi_list (pv 3)) (pg_name (i := 4) sc_written.nd rfl (.inl rfl)) (pss_cons (ps_expr (pe_c (ok_need_letter T) hr (by omega) rfl (pa_cons (pv 4) pa_nil)))
  (pss_one (ps_expr (pe_bm PySem.F.plainAttrs_list PySem.F.slot_list_append PySem.F.type_list_append mt_append (pv 1) (pa_cons (pe_join pe_str (pe_op op_cat (pe_lst (pa_cons (pe_callTy c_str (by rfl) (f_str T) (by decide +kernel) (pa_cons (pv 2) pa_nil)) (pa_cons (pe_ix ix_tup (pv 4) pe_int (fun _ _ => rfl)) pa_nil))) (pe_lc (own := [("part", 5)]) rfl sc_written.nd (pi_tup (pe_slice sl_tupA (pv 4) (po_some pe_int) po_none)) (blkOk_by (N := N_written) (sc := defScope s_written) (by decide +kernel)) (fun _ _ _ _ _ => (pg_name (i := 5) sc_written.nd rfl (.inl rfl))) (fun _ _ _ _ _ => pts_nil) (fun _ _ _ _ _ => (pe_callTy c_str (by rfl) (f_str T) (by decide +kernel) (pa_cons (pv 5) pa_nil)))))) pa_nil))))))))
  (pss_one (ps_ret (pe_join pe_str (pv 1))))))), ?_⟩
    rw [st_written]
    have hl : xs.length = bs.length := pLen hb
    have hl5 := hok.le
    wtm_at "go"
    refine iteNo (by omega) ?_
    wtm_at "go"
    intro p np
    wtm_at "go"
    have hpa : a ≠ p := ne_of_none ha np
    refine eForE (xs := xs) (fun i σ H' => ∃ y2 y3 y4 y5, σ = [some (.ref a), some (.ref p), y2, y3, y4, y5] ∧ Same H H' ∧ H p = none ∧ H' p = some (.lst ((linesTo bs i).map V.str)))
      ⟨_, _, _, _, rfl, same_new np, np, upd_same⟩ (fun i σ H' _ ⟨_, _, _, _, _, s, _⟩ => SqL.of (s _ _ ha)) ?_ ?_
    · rintro i x σ H1 Tt ex ⟨y2, y3, y4, y5, rfl, s1, _, hp⟩ nT
      obtain ⟨b, eb, bb, ys, rfl, hbb, hys⟩ := pGetL hb ex
      have hi : i < bs.length := (List.getElem?_eq_some_iff.mp eb).1
      have hT : upd H1 Tt (.tup [.int (i : Nat), .ref bb]) Tt = some (.tup [.int (i : Nat), .ref bb]) := upd_same
      have s2 := same_new (o := .tup [.int (i : Nat), .ref bb]) nT
      generalize upd H1 Tt (.tup [.int (i : Nat), .ref bb]) = H2 at hT s2
      have hb2 := s2 _ _ (s1 _ _ hbb)
      have hbl : ys.length ≤ 40 := by rw [pLen hys]; exact hok.each b (List.mem_of_getElem? eb)
      have hcnt := lines_cnt hok.each i
      have egd : bs.getD i [] = b := by rw [List.getD_eq_getElem?_getD, eb]; rfl
      wtm_at "go"
      refine eForL (xs := ys) (fun j σ H' => ∃ y4 y5, σ = [some (.ref a), some (.ref p), some (.int (i : Nat)), some (.ref bb), y4, y5] ∧ Same H H' ∧ H' p = some (.lst ((linesTo bs i ++ (b.take j).map (line i)).map V.str)))
        ⟨_, _, rfl, s1.trans s2, by rw [List.take_zero, List.map_nil, List.append_nil]; exact s2 _ _ hp⟩ (fun j σ H' _ ⟨_, _, _, s, _⟩ => SqL.of (s _ _ hbb)) ?_ ?_
      · rintro j x σ H3 ex2 ⟨y4, y5, rfl, s3, hp3⟩
        obtain ⟨l, el, t, rfl, ht⟩ := pGetL hys ex2
        have hlok : l.ok := hok.ok b (List.mem_of_getElem? eb) l (List.mem_of_getElem? el)
        have ht3 := sqT_same s3 ht
        wtm_at "go"
        refine ⟨t, l, rfl, ht3, hlok, fun H4 s4 => ?_⟩
        have ht4 := sqT_same s4 ht3
        have hp4 := s4 _ _ hp3
        wtm_at "go"
        refine iM1 ?_
        wtm_at "go"
        refine gM1 ?_
        wtm_at "go"
        refine iStrI (Nat.lt_of_le_of_lt (Nat.log2_le_self _) (show i < 1920 by omega)) ?_
        wtm_at "go"
        refine iIxT ht4 (at_of (j := 0) rfl rfl) ?_
        wtm_at "go"
        intro p1 np1
        have hp1 : upd H4 p1 (.lst [.str (sx i), .str l.word]) p1 = some (.lst [.str (sx i), .str l.word]) := upd_same
        have s5 := same_new (o := .lst [.str (sx i), .str l.word]) np1
        show tLc _ _ _ _ _ _ (upd H4 p1 (.lst [.str (sx i), .str l.word])) _
        generalize upd H4 p1 (.lst [.str (sx i), .str l.word]) = H5 at hp1 s5
        have ht5 := sqT_same s5 ht4
        wtm_at "go"
        refine iSlA ht5 fun c H6 s6 hc => ?_
        rw [show cutV (Lt.vs l) (some 1) none = l.nums.map V.int from cut_from (n := 1)] at hc
        wtm_at "go"
        intro D nD
        refine eLcT (xs := l.nums.map V.int) (fun j H' => Fr [D] H6 H' ∧ H' D = some (.lst (((l.nums.take j).map sx).map V.str))) ⟨Fr.new nD, upd_same⟩ (fun j H' _ h => h.1.sqT hc) ?_ ?_
        · rintro j2 x H7 ex3 ⟨f7, hD⟩
          rw [List.getElem?_map] at ex3
          obtain ⟨m, em, rfl⟩ := Option.map_eq_some_iff.mp ex3
          have hm := nums_ok hlok m (List.mem_of_getElem? em)
          wtm_at "go"
          refine iStrI (Nat.lt_of_le_of_lt (Nat.log2_le_self _) (by omega)) ?_
          refine ⟨_, hD, ?_, f7.trans (Fr.set hD rfl (by simp)), ?_⟩
          · rw [List.length_map, List.length_map]
            exact Nat.lt_of_le_of_lt (Nat.le_trans (List.length_take_le' ..) (nums_len l)) (by decide)
          · rw [upd_same, take_succ em, List.map_append, List.map_append]
            rfl
        · rintro H7 ⟨f7, hD⟩
          rw [List.length_map, List.take_of_length_le (Nat.le_refl _)] at hD
          have nlen := nums_len l
          refine gCat ⟨_, f7.at_ _ _ (s6 _ _ hp1) (by simpa using ne_of_none (s6 _ _ hp1) nD), _, hD, Nat.le_trans (show _ ≤ 8 by simp; omega) (by decide), fun p2 np2 => ?_⟩
          have h2 : upd H7 p2 (.lst ([.str (sx i), .str l.word] ++ (l.nums.map sx).map V.str)) p2 = some (.lst ((toks i l).map V.str)) := upd_same
          refine ⟨" ", p2, toks i l, rfl, rfl, .inl (SqL.of h2), Nat.le_trans (toks_sum (k := i) (by omega) hlok) (by decide), ?_⟩
          have hpp : upd H7 p2 (.lst ([.str (sx i), .str l.word] ++ (l.nums.map sx).map V.str)) p = _ := (Fr.new (S := [D]) np2).at_ _ _ (f7.at_ _ _ (s6 _ _ (s5 _ _ hp4)) (by simpa using ne_of_none (s6 _ _ (s5 _ _ hp4)) nD)) (by simpa using ne_of_none (s6 _ _ (s5 _ _ hp4)) nD)
          have nDH : H D = none := (s3.trans (s4.trans (s5.trans s6))).free nD
          have sA : Same H (upd H7 p2 (.lst ([.str (sx i), .str l.word] ++ (l.nums.map sx).map V.str))) := fun x o e => (same_new np2) _ _ (f7.at_ _ _ (s6 _ _ (s5 _ _ (s4 _ _ (s3 _ _ e)))) (by simpa using ne_of_none e nDH))
          generalize upd H7 p2 (.lst ([.str (sx i), .str l.word] ++ (l.nums.map sx).map V.str)) = H8 at hpp sA
          wtm_at "go"
          refine gAppend ⟨_, hpp, ?_, _, _, rfl, fun x o e => ?_, ?_⟩
          · rw [List.length_map, List.length_append, List.length_map]
            have : (b.take j).length ≤ 40 := Nat.le_trans (List.length_take_le' ..) (hok.each b (List.mem_of_getElem? eb))
            exact Nat.lt_of_le_of_lt (show _ ≤ 240 by omega) (by decide)
          · rw [upd_ne (ne_of_none e np)]
            exact sA _ _ e
          · rw [upd_same, take_succ el]
            simp [line]
      · rintro σ H3 ⟨y4, y5, rfl, s3, hp3⟩
        wtm_at "go"
        refine ⟨_, _, _, _, rfl, s3, np, ?_⟩
        rw [hp3, linesTo_succ, egd, List.take_of_length_le (by rw [pLen hys]; exact Nat.le_refl _)]
    · rintro σ H1 ⟨y2, y3, y4, y5, rfl, s1, _, hp⟩
      wtm_at "go"
      refine iM1 ?_
      wtm_at "go"
      refine gM1 ?_
      wtm_at "go"
      rw [hl] at hp
      refine ⟨"\n", p, linesTo bs bs.length, rfl, rfl, .inl (SqL.of hp), Nat.le_trans (lines_sum hok) (by decide), ?_⟩
      exact q _ s1
end

/-! ### letters, books as data -/
def ltD (l : Lt) : PyData := .tuple (.str l.word :: l.nums.map .int)
def bkD (b : List Lt) : PyData := .list (b.map ltD)
def bksD (bs : List (List Lt)) : PyData := .list (bs.map bkD)
theorem lay_lt (l : Lt) : PyData.canLay0 (ltD l) = true := by simp [ltD, PyData.canLay0, PyData.canLayAll0, canLay_ints, word_ok]
theorem lay_all {α : Type} (f : α → PyData) (h : ∀ x, PyData.canLay0 (f x) = true) : ∀ xs : List α, PyData.canLayAll0 (xs.map f) = true
  | [] => by simp [PyData.canLayAll0]
  | x :: xs => by simp [PyData.canLayAll0, h, lay_all f h xs]
theorem dep_all {α : Type} (f : α → PyData) {n : Nat} (h : ∀ x, PyData.depth (f x) ≤ n) : ∀ xs : List α, PyData.depthAll (xs.map f) ≤ n
  | [] => by simp [PyData.depthAll]
  | x :: xs => by
    have a := h x
    have b := dep_all f h xs
    simp only [List.map_cons, PyData.depthAll]
    omega
theorem dep_lt (l : Lt) : PyData.depth (ltD l) ≤ 1 := by simp [ltD, PyData.depth, PyData.depthAll, depth_ints]
theorem dep_bk (b : List Lt) : PyData.depth (bkD b) ≤ 2 := by
  have := dep_all ltD dep_lt b
  simp only [bkD, PyData.depth]
  omega
theorem lay_bk (b : List Lt) : PyData.canLay0 (bkD b) = true := by simp [bkD, PyData.canLay0, lay_all ltD lay_lt]
theorem shaped_bk (b : List Lt) : SeqAt.shaped (bkD b) = true := by
  unfold SeqAt.shaped
  rw [lay_bk, decide_eq_true (Nat.le_trans (dep_bk b) (by decide))]
  rfl
theorem shaped_bks (bs : List (List Lt)) : SeqAt.shaped (bksD bs) = true := by
  unfold SeqAt.shaped
  have := dep_all bkD dep_bk bs
  rw [show PyData.canLay0 (bksD bs) = true by simp [bksD, PyData.canLay0, lay_all bkD lay_bk], decide_eq_true (show PyData.depth (bksD bs) ≤ 64 by simp only [bksD, PyData.depth]; omega)]
  rfl
theorem eqv_bk_nil (b : List Lt) : PyData.eqv (bkD b) (.list []) = decide (b = []) := by
  cases b with
  | nil => simp [bkD, PyData.eqv, PyData.eqvAll]
  | cons l b => simp [bkD, PyData.eqv, PyData.eqvAll]
section
variable {K : PySem.W.Frag} {H : Hp}
theorem dp_lt {v : V} {l : Lt} (h : LtT K H v l) : Dp K H v (ltD l) := by
  obtain ⟨t, rfl, h⟩ := h
  exact .tup h (.cons (.str _) (dp_ints _))
theorem dp_all {α : Type} {R : V → α → Prop} (f : α → PyData) (h : ∀ v x, R v x → Dp K H v (f x)) : ∀ {vs : List V} {xs : List α}, Paired R vs xs → DpAll K H vs (xs.map f)
  | _, _, .nil => .nil
  | _, _, .cons r t => .cons (h _ _ r) (dp_all f h t)
theorem dp_bk {v : V} {b : List Lt} (h : BkT K H v b) : Dp K H v (bkD b) := by
  obtain ⟨a, xs, rfl, h1, h2⟩ := h
  exact .lst (SqL.of h1) (dp_all ltD (fun _ _ z => dp_lt z) h2)
theorem dp_bks {a : Addr} {xs : List V} {bs : List (List Lt)} (h : H a = some (.lst xs)) (p : Paired (BkT K H) xs bs) : Dp K H (.ref a) (bksD bs) := .lst (SqL.of h) (dp_all bkD (fun _ _ z => dp_bk z) p)
theorem alk_lt (n : Nat) (l : Lt) : Alk (n + 2) (ltD l) := by
  refine .tup ?_ fun x hx => ?_
  · have := nums_len l
    rw [List.length_cons, List.length_map]
    omega
  · rcases List.mem_cons.mp hx with e | hx
    · rw [e]; exact .str _ _
    · obtain ⟨i, _, rfl⟩ := List.mem_map.mp hx
      exact .int _ _
theorem alk_bks {bs : List (List Lt)} (h : bs.length ≤ 1000) (h2 : ∀ b ∈ bs, b.length ≤ 1000) : Alk 4 (bksD bs) := by
  refine .lst (by rw [List.length_map]; omega) fun x hx => ?_
  obtain ⟨b, hb, rfl⟩ := List.mem_map.mp hx
  refine .lst (by rw [List.length_map]; have := h2 b hb; omega) fun y hy => ?_
  obtain ⟨l, _, rfl⟩ := List.mem_map.mp hy
  exact alk_lt 0 l
theorem iNeBk {p q : Addr} {xs : List V} {b : List Lt} {Q : VK} (h : H p = some (.lst xs)) (h2 : Paired (LtT K H) xs b) (h3 : H q = some (.lst [])) (k : Q (.bl (!decide (b = []))) H) : rNeD K (.ref p) (.ref q) H Q :=
  ⟨bkD b, .list [], dp_bk ⟨p, xs, rfl, h, h2⟩, .lst (SqL.of h3) .nil, shaped_bk b, by decide, by rw [eqv_bk_nil]; exact k⟩
end

/-! ### the law -/
theorem tabs_fr {T : List (Addr × Str)} {H H' : Hp} {S : List Addr} (t : LamX.Tabs T H) (f : Fr S H H') (n : ∀ a ∈ S, ∀ o, H a = some o → ∃ xs, o = .lst xs) : LamX.Tabs T H' := fun p hp => by
  obtain ⟨ps, h1, h2, h3⟩ := t p hp
  refine ⟨ps, f.at_ _ _ h1 (fun z => by obtain ⟨_, e⟩ := n _ z _ h1; cases e), h2, fun pos cv hc => ?_⟩
  obtain ⟨c, e1, e2⟩ := h3 pos cv hc
  exact ⟨c, e1, f.at_ _ _ e2 (fun z => by obtain ⟨_, e⟩ := n _ z _ e2; cases e)⟩
theorem tabs_same {T : List (Addr × Str)} {H H' : Hp} (t : LamX.Tabs T H) (s : Same H H') : LamX.Tabs T H' := tabs_fr t (Fr.same (S := []) s) fun _ h => nomatch h
theorem tabs_draw {T : List (Addr × Str)} {H H' : Hp} {ph pl : Addr} (t : LamX.Tabs T H) (d : Drw H ph pl) (f : Fr [ph, pl] H H') : LamX.Tabs T H' := tabs_fr t f fun a ha o e => by
  obtain ⟨m, cs, k, a1, b1, _⟩ := d
  simp only [List.mem_cons, List.not_mem_nil, or_false] at ha
  rcases ha with z | z
  · rw [z, a1] at e; exact ⟨_, (Option.some.inj e).symm⟩
  · rw [z, b1] at e; exact ⟨_, (Option.some.inj e).symm⟩
theorem tabs_lst {T : List (Addr × Str)} {H : Hp} {p : Addr} {xs : List V} {o : HO} (t : LamX.Tabs T H) (e : H p = some (.lst xs)) : LamX.Tabs T (upd H p o) := tabs_fr t (Fr.set (S := [p]) e rfl (by simp)) fun a ha u eu => by
  rw [List.mem_singleton.mp ha, e] at eu
  exact ⟨_, (Option.some.inj eu).symm⟩
theorem Drw.ext {H H' : Hp} {ph pl : Addr} (d : Drw H ph pl) (x : LamX.ExtN H H') : Drw H' ph pl := let ⟨m, cs, k, a, b, c⟩ := d; ⟨m, cs, k, x _ _ a (fun _ => nofun), x _ _ b (fun _ => nofun), c⟩
abbrev sm1 : List Str := ["", "\n", "0", "0 let", "0 let\n", "4 let", "5 let", "1 let\n0 let", "0 let\n0 let", "0  let", " 0 let"]
abbrev sm2 : List Str := ["0 let ", "-1 let", "00 let", "4 place 0 -20 20", "0 place 0 -21 0", "0 paint 0 11 7 12 8 9", "let"]
abbrev sm1V : List V := [V.str "", V.str "\n", V.str "0", V.str "0 let", V.str "0 let\n", V.str "4 let", V.str "5 let", V.str "1 let\n0 let", V.str "0 let\n0 let", V.str "0  let", V.str " 0 let"]
abbrev sm2V : List V := [V.str "0 let ", V.str "-1 let", V.str "00 let", V.str "4 place 0 -20 20", V.str "0 place 0 -21 0", V.str "0 paint 0 11 7 12 8 9", V.str "let"]
theorem sm_at {r : Int} (r0 : 0 ≤ r) (r1 : r < 18) : ∃ y : Str, atI ((sm1 ++ sm2).map V.str) r = some (.str y) ∧ TO y 80000 := by
  have hr : r.toNat < (sm1 ++ sm2).length := by show r.toNat < 18; omega
  have all : ((sm1 ++ sm2).all fun y => PyData.strOk y && decide (y.length ≤ 80000)) = true := by decide +kernel
  have := List.all_eq_true.mp all _ (List.getElem_mem hr)
  rw [Bool.and_eq_true, decide_eq_true_eq] at this
  exact ⟨(sm1 ++ sm2)[r.toNat], at_of (j := r.toNat) (by omega) (by rw [List.getElem?_map, List.getElem?_eq_getElem hr]; rfl), this.1, this.2⟩
def BkS (K : PySem.W.Frag) (S : List Addr) (H : Hp) (v : V) (ls : List Lt) : Prop := ∃ b xs, v = .ref b ∧ H b = some (.lst xs) ∧ Paired (LtT K H) xs ls ∧ b ∉ S
theorem BkS.fr {K : PySem.W.Frag} {S : List Addr} {H H' : Hp} {v : V} {ls : List Lt} (f : Fr S H H') (h : BkS K S H v ls) : BkS K S H' v ls := let ⟨b, xs, e, h1, h2, h3⟩ := h; ⟨b, xs, e, f.at_ _ _ h1 h3, pMap h2 fun _ _ z => z.fr f, h3⟩
theorem BkS.t {K : PySem.W.Frag} {S : List Addr} {H : Hp} {v : V} {ls : List Lt} (h : BkS K S H v ls) : BkT K H v ls := let ⟨b, xs, e, h1, h2, _⟩ := h; ⟨b, xs, e, h1, h2⟩
theorem bks_pair {K : PySem.W.Frag} {H : Hp} : ∀ {B : BL}, (∀ e ∈ B, ∃ xs, H e.1 = some (.lst xs) ∧ Paired (LtT K H) xs e.2) → Paired (BkT K H) (B.map fun e => V.ref e.1) (B.map fun e => e.2)
  | [], _ => .nil
  | e :: B, h => by
    obtain ⟨xs, a, b⟩ := h e (List.mem_cons_self ..)
    exact .cons ⟨e.1, xs, rfl, a, b⟩ (bks_pair fun x hx => h x (List.mem_cons_of_mem _ hx))
theorem sx_ok {n : Int} (h1 : -99 ≤ n) (h2 : n ≤ 99) : PyData.strOk (sx n) = true := rng99 (p := fun n => PyData.strOk (sx n)) (by decide +kernel) h1 h2
theorem text_to {bs : List (List Lt)} (h : BkOk bs) : TO (text bs) 7200 := by
  refine ⟨(Cs.join (sep := "\n") (ys := linesTo bs bs.length) (m := _) ⟨fun y hy => ?_, Nat.le_refl _⟩ (by decide) (by decide +kernel)).ok, text_len h⟩
  obtain ⟨k, l, hk, hl, rfl⟩ := lines_mem hy
  have hb := h.le
  have hlok := h.at hl
  refine (Cs.join (sep := " ") (ys := toks k l) (m := _) ⟨fun y hy => ?_, Nat.le_refl _⟩ (by decide) (by decide +kernel)).ok
  rcases List.mem_cons.mp hy with rfl | hy
  · exact sx_ok (by omega) (by omega)
  · rcases List.mem_cons.mp hy with rfl | hy
    · exact word_ok l
    · obtain ⟨n, hn, rfl⟩ := List.mem_map.mp hy
      have := nums_ok hlok n hn
      exact sx_ok (by omega) (by omega)
theorem goT_len : ∀ {rs : List (List Str)} {n : Nat} {B bs : List (List Lt)}, goT rs n B = .ok bs → B.length ≤ 5 → (∀ b ∈ B, b.length ≤ n) → bs.length ≤ 5 ∧ ∀ b ∈ bs, b.length ≤ n + rs.length
  | [], n, B, bs, h, h1, h2 => by
    unfold goT at h
    cases h
    exact ⟨h1, h2⟩
  | ws :: r, n, B, bs, h, h1, h2 => by
    unfold goT at h
    cases e : rowT ws with
    | none => rw [e] at h; cases h
    | some p =>
      rw [e] at h
      have h : (if B.length ≤ p.1 + 1 then goT r (n + 1) (step B p) else .error n) = .ok bs := h
      split at h
      · have hk := rowT_lt (k := p.1) (l := p.2) e
        have a := goT_len h (by rw [step_len]; omega) (fun b hb => by
          have := fold_each [p] B n h2 b hb
          simpa using this)
        refine ⟨a.1, fun b hb => ?_⟩
        have := a.2 b hb
        rw [List.length_cons]
        omega
      · cases h
theorem readT_len {s : Str} {n : Nat} {bs : List (List Lt)} (ht : TO s n) (h : readT s = .ok bs) : bs.length ≤ 5 ∧ ∀ b ∈ bs, b.length ≤ n + 1 := by
  unfold readT at h
  split at h
  · cases h; exact ⟨Nat.zero_le _, fun _ h => nomatch h⟩
  · have a := goT_len h (Nat.zero_le _) (fun _ h => nomatch h)
    refine ⟨a.1, fun b hb => ?_⟩
    have := a.2 b hb
    rw [List.length_map] at this
    have := (split1 (c := 10) (by decide) ht).le
    have e : Txt.split s "\n" = Txt.split s ⟨#[10]⟩ := rfl
    rw [← e] at this
    omega
theorem alk_bksG {bs : List (List Lt)} (h : bs.length ≤ 5) (h2 : ∀ b ∈ bs, b.length ≤ 80001) : Alk 4 (bksD bs) := by
  refine .lst (by rw [List.length_map]; omega) fun x hx => ?_
  obtain ⟨b, hb, rfl⟩ := List.mem_map.mp hx
  refine .lst (by rw [List.length_map]; have := h2 b hb; omega) fun y hy => ?_
  obtain ⟨l, _, rfl⟩ := List.mem_map.mp hy
  exact alk_lt 0 l
def bndT : Nat → Nat
  | 0 => 7200
  | i + 1 => 2 * bndT i + 20
theorem bnd_le : ∀ {i : Nat}, i < 3 → bndT i ≤ 30000
  | 0, _ => by decide
  | 1, _ => by decide
  | 2, _ => by decide
theorem bnd_le3 : ∀ {i : Nat}, i ≤ 3 → bndT i ≤ 80000
  | 0, _ => by decide
  | 1, _ => by decide
  | 2, _ => by decide
  | 3, _ => by decide
theorem iCallS {sp : Sp} {E : L2.St → XK} {t : TA} {σ : L2.St} {H : Hp} {Q : VK} (h : t σ H fun vs H1 => sp vs H1 Q (E σ)) : tCallS sp E t σ H Q := h
def spLawT (K : PySem.W.Frag) : Sp := fun vs H Q _ => ∃ (a : Addr) (ns : List Int), vs = [.ref a] ∧ SqL K H a (ns.map V.int) ∧ ns.length ≤ 63 ∧ LamX.Tabs (Ts K) H ∧ ∀ H', Q (.bl true) H'
section
variable {P : Program} {w : World} {K : PySem.W.Frag} {mg : Str → Option Value} {base : Heap}
theorem ok_read (T : Tx w K mg) : CalX P w K mg base 5 "read" (spReadG K) := okg_read T
theorem ok_law_alike (T : Tx w K mg) : Cal P w K mg base 5 "_law_alike" (spAlike K 4) [] := ok_law_alikeF T 4
theorem ok_law (T : Tx w K mg) (B : Tb base K mg) {fd : FuncData} (F : FunLaw K fd) : FnOk P w K mg base CX0 20 (He.fAd K ("law", none)) fd ["_law_script"] (spLawT K) := by
  refine mk_law F (fun vs H Q E h => ?_) (fun cdv hcd A outer s H vs Q E hr h => ?_)
  · obtain ⟨a, ns, rfl, _⟩ := h
    rfl
  · obtain ⟨a, ns, rfl, hS, hl, hT, q⟩ := h
    refine ⟨_, (pss_cons (ps_set (i := 1) sc_law.nd rfl (.inr rfl) (pe_c (ok_law_mix T) hr (by omega) rfl (pa_cons (pv 0) (pa_cons pe_int pa_nil))))
  (pss_cons (ps_set (i := 2) sc_law.nd rfl (.inl rfl) (pe_lst (pa_cons pe_str (pa_cons pe_str (pa_cons pe_str (pa_cons pe_str (pa_cons pe_str (pa_cons pe_str (pa_cons pe_str (pa_cons pe_str (pa_cons pe_str (pa_cons pe_str (pa_cons pe_str pa_nil)))))))))))))
  (pss_cons (ps_set (i := 2) sc_law.nd rfl (.inl rfl) (pe_op op_cat (pv 2) (pe_lst (pa_cons pe_str (pa_cons pe_str (pa_cons pe_str (pa_cons pe_str (pa_cons pe_str (pa_cons pe_str (pa_cons pe_str pa_nil))))))))))
  (pss_cons (ps_for PassesOwn.never rfl (pi_range1 rfl (f_range T) (pa_cons pe_int pa_nil)) (pg_name (i := 3) sc_law.nd rfl (.inl rfl)) (pss_cons (ps_set (i := 4) sc_law.nd rfl (.inl rfl) (pe_c (ok_written T) hr (by omega) rfl (pa_cons (pe_lc (own := [("_law_k", 5)]) rfl sc_law.nd (pi_range1 rfl (f_range T) (pa_cons (pe_c (ok_law_next T) hr (by omega) rfl (pa_cons (pv 1) (pa_cons pe_int pa_nil))) pa_nil)) (blkOk_by (N := N_law) (sc := defScope s_law) (by decide +kernel)) (fun _ _ _ _ _ => (pg_name (i := 5) sc_law.nd rfl (.inl rfl))) (fun _ _ _ _ _ => pts_nil) (fun _ _ _ _ _ => (pe_c (ok_law_book T) hr (by omega) rfl (pa_cons (pv 1) (pa_cons pe_int pa_nil))))) pa_nil)))
  (pss_cons (ps_for PassesOwn.never rfl (pi_range1 rfl (f_range T) (pa_cons (pe_c (ok_law_next T) hr (by omega) rfl (pa_cons (pv 1) (pa_cons pe_int pa_nil))) pa_nil)) (pg_name (i := 6) sc_law.nd rfl (.inl rfl)) (pss_one (ps_set (i := 4) sc_law.nd rfl (.inl rfl) (pe_c (ok_law_spoilt T) hr (by omega) rfl (pa_cons (pv 1) (pa_cons (pv 4) pa_nil))))))
  (pss_one (ps_for PassesOwn.never rfl (pi_list (pe_lst (pa_cons (pv 4) (pa_cons (pe_ix ix_list (pv 2) (pe_c (ok_law_next T) hr (by omega) rfl (pa_cons (pv 1) (pa_cons pe_int pa_nil))) (fun _ _ => rfl)) pa_nil)))) (pg_name (i := 7) sc_law.nd rfl (.inr rfl)) (pss_cons (ps_set (i := 8) sc_law.nd rfl (.inl rfl) (pe_c (ok_law_due T) hr (by omega) rfl (pa_cons (pv 7) pa_nil)))
  (pss_one (ps_if (pt_val (pe_callB call_isi (by rfl) (f_isinstance T) (by decide +kernel) (pa_cons (pv 8) (pa_cons (pe_bltn (v := .ty "tuple") (u := .type "tuple") (by rfl) (f_tuple T) (by decide +kernel) rfl) pa_nil)))) (pss_one (ps_if (pt_cmpR (op_neD hr.units) (pe_lamD (T := Ts K) (c := He.codeOf K ("law", none)) (P := He.tabOf K (He.codeOf K ("law", none))) (k := 12) (TT := TTKind K) (fun_law_kind T) (by rfl) (g__law_kind T) (fun _ _ _ _ _ _ us hl => match us, hl with | [_], _ => rfl) sc_law_kind rfl (.inl rfl) (fun cdv => kind_gives T) (B.tb _ (by decide)) (by rw [hcd] <;> rfl) (ts_mem K) (ts_one K) (hr.mono (by omega)) (show LamX.LamS (defScope s_law) _ from LamX.lamS_by (by decide +kernel)) rfl (fun _ _ _ _ _ => rfl) (fun A2 outer2 s2 H2 E2 f2 c2 hr2 => (pe_cX (W := (fun cls d _ H => E2 cls d H)) (ok_read T) hr2 (by omega) (L2.takes_of rfl rfl rfl rfl) (by rfl) (pa_cons (pv 7) pa_nil)))) (pv 8) (nomark _)) (pss_one (ps_ret pe_bl)) pss_nil)) (pss_one (ps_if (pt_not (pt_val (pe_c (ok_law_alike T) hr (by omega) rfl (pa_cons (pe_cX (W := (fun _ _ _ _ => False)) (ok_read T) hr (by omega) LamX.takes0 (by rfl) (pa_cons (pv 7) pa_nil)) (pa_cons (pv 8) pa_nil))))) (pss_one (ps_ret pe_bl)) pss_nil))))))))))
  (pss_one (ps_ret pe_bl)))))), ?_⟩
    rw [st_law]
    wtm_at "go"
    refine ⟨a, ns, 67, rfl, hS, hl, by omega, by omega, fun H1 ph pl d1 s1 n1 n2 => ?_⟩
    wtm_at "go"
    have hT1 := tabs_same hT s1
    intro p1 np1
    have sq := same_new (o := .lst sm1V) np1
    have h1 : upd H1 p1 (.lst sm1V) p1 = some (.lst (sm1.map V.str)) := upd_same
    have d2 := d1.same sq
    have hT2 := tabs_same hT1 sq
    show gName _ _ _ (upd H1 p1 (.lst sm1V)) _
    generalize upd H1 p1 (.lst sm1V) = H2 at h1 d2 hT2
    clear sq
    wtm_at "go"
    intro p2 np2
    have sq := same_new (o := .lst sm2V) np2
    have h2 : upd H2 p2 (.lst sm2V) p2 = some (.lst (sm2.map V.str)) := upd_same
    have h1 := sq _ _ h1
    have d3 := d2.same sq
    have hT3 := tabs_same hT2 sq
    generalize upd H2 p2 (.lst sm2V) = H3 at h1 h2 d3 hT3
    clear sq
    refine iCatS h1 h2 (by decide) fun H4 po npo sq ho => ?_
    have d4 := d3.same sq
    have hT4 := tabs_same hT3 sq
    have npoS := d3.ne npo
    clear sq h1 h2
    wtm_at "go"
    refine eForR (lo := 0) (n := 5) (fun i σ H' => ∃ y3 y4 y5 y6 y7 y8, σ = [some (.ref a), some (.ref ph), some (.ref po), y3, y4, y5, y6, y7, y8] ∧ Drw H' ph pl ∧ LamX.Tabs (Ts K) H' ∧ H' po = some (.lst ((sm1 ++ sm2).map V.str))) ?_ ?_ ?_
    · exact ⟨_, _, _, _, _, _, rfl, d4, hT4, ho⟩
    · clear ho d4 hT4 hT3 hT2 hT1 d3 d2 d1
      rintro i σ H5 hi ⟨y3, y4, y5, y6, y7, y8, rfl, d5, hT5, ho5⟩
      wtm_at "go"
      refine iNx d5 (by omega) (by omega) fun H6 nb d6 f6 nb0 nb1 => ?_
      have hT6 := tabs_draw hT5 d5 f6
      have ho6 := f6.at_ _ _ ho5 npoS
      wtm_at "go"
      intro D nD
      have hDS := d6.ne nD
      have hDp : ph ≠ D := fun z => hDS (by rw [z]; simp)
      have hDl : pl ≠ D := fun z => hDS (by rw [z]; simp)
      have hDo : po ≠ D := ne_of_none ho6 nD
      refine eLcR (lo := 0) (n := nb.toNat) (fun i H' => ∃ xs bs, H' D = some (.lst xs) ∧ Paired (BkS K [ph, pl, D] H') xs bs ∧ bs.length = i ∧ (∀ b ∈ bs, b.length ≤ 40) ∧ (∀ b ∈ bs, ∀ l ∈ b, Lt.ok l) ∧ Drw H' ph pl ∧ LamX.Tabs (Ts K) H' ∧ H' po = some (.lst ((sm1 ++ sm2).map V.str))) ?_ ?_ ?_
      · exact ⟨[], [], upd_same, .nil, rfl, (fun _ h => nomatch h), (fun _ h => nomatch h), d6.same (same_new nD), tabs_same hT6 (same_new nD), same_new nD _ _ ho6⟩
      · rintro i H7 hi ⟨xs, bs, hD, hps, hbl, hb40, hbok, d7, hT7, ho7⟩
        wtm_at "go"
        refine ⟨ph, pl, 12, rfl, d7, by omega, by omega, fun H8 b ys ls hb nb8 hps8 hok8 hle8 d8 f8 => ?_⟩
        have hT8 := tabs_draw hT7 d7 f8
        have ho8 := f8.at_ _ _ ho7 npoS
        have hD8 := f8.at_ _ _ hD hDS
        have f9 : Fr [D] H8 (upd H8 D (.lst (xs ++ [.ref b]))) := Fr.set hD8 rfl (by simp)
        have hbD : b ≠ D := fun z => by rw [← z, nb8] at hD; cases hD
        have hbp := d7.ne nb8
        refine ⟨xs, hD8, ?_, xs ++ [.ref b], bs ++ [ls], upd_same, pSnoc (pMap hps fun _ _ z => (z.fr (f8.mono (by simp))).fr (f9.mono (by simp))) ⟨b, ys, rfl, f9.at_ _ _ hb (by simpa using hbD), pMap hps8 fun _ _ z => z.fr f9, ?_⟩, by rw [List.length_append, hbl]; rfl, fun x hx => ?_, fun x hx => ?_, d8.fr f9 (by simpa using hDp) (by simpa using hDl), tabs_lst hT8 hD8, f9.at_ _ _ ho8 (by simpa using hDo)⟩
        · rw [pLen hps, hbl]
          exact Nat.lt_of_lt_of_le hi (Nat.le_trans (show _ ≤ 10 by omega) (by decide))
        · simp only [List.mem_cons, List.not_mem_nil, or_false] at hbp ⊢
          rintro (z | z | z)
          · exact hbp (.inl z)
          · exact hbp (.inr z)
          · exact hbD z
        · rcases List.mem_append.mp hx with h | h
          · exact hb40 x h
          · rw [List.mem_singleton.mp h]; omega
        · rcases List.mem_append.mp hx with h | h
          · exact hbok x h
          · rw [List.mem_singleton.mp h]; exact hok8
      · rintro H7 ⟨xs, bs, hD, hps, hbl, hb40, hbok, d7, hT7, ho7⟩
        have hBk : BkOk bs := ⟨by omega, hb40, hbok⟩
        have hps := pMap hps fun _ _ z => z.t
        wtm_at "go"
        refine ⟨D, xs, bs, rfl, hD, hps, hBk, fun H8 s8 => ?_⟩
        have d8 := d7.same s8
        have hT8 := tabs_same hT7 s8
        have ho8 := s8 _ _ ho7
        have htx := text_to hBk
        generalize text bs = tx at htx
        clear hps hD hBk
        wtm_at "go"
        refine iNx d8 (by omega) (by omega) fun H9 nc d9 f9 nc0 nc1 => ?_
        have hT9 := tabs_draw hT8 d8 f9
        have ho9 := f9.at_ _ _ ho8 npoS
        wtm_at "go"
        refine eForR (lo := 0) (n := nc.toNat) (fun j σ H' => ∃ tx y6, σ = [some (.ref a), some (.ref ph), some (.ref po), some (.int (0 + (i : Int))), some (.str tx), y5, y6, y7, y8] ∧ TO tx (bndT j) ∧ Drw H' ph pl ∧ LamX.Tabs (Ts K) H' ∧ H' po = some (.lst ((sm1 ++ sm2).map V.str))) ?_ ?_ ?_
        · exact ⟨_, _, rfl, htx, d9, hT9, ho9⟩
        · rintro j σ HA hj ⟨tx, y6, rfl, htx, dA, hTA, hoA⟩
          wtm_at "go"
          refine ⟨ph, pl, tx, bndT j, rfl, dA, htx, bnd_le (by omega), fun HB t2 dB fB h2 => ?_⟩
          wtm_at "go"
          exact ⟨_, _, rfl, h2, dB, tabs_draw hTA dA fB, fB.at_ _ _ hoA npoS⟩
        · rintro σ HA ⟨tx, y6, rfl, htx, dA, hTA, hoA⟩
          have htx : TO tx 80000 := htx.mono (bnd_le3 (by omega))
          wtm_at "go"
          refine iNx dA (by omega) (by omega) fun HB r dB fB r0 r1 => ?_
          have hTB := tabs_draw hTA dA fB
          have hoB := fB.at_ _ _ hoA npoS
          obtain ⟨ox, eox, hox⟩ := sm_at r0 r1
          refine iIxL (SqL.of hoB) eox ?_
          wtm_at "go"
          intro p np
          have sq := same_new (o := .lst [.str tx, .str ox]) np
          have hp : upd HB p (.lst [.str tx, .str ox]) p = some (.lst ([tx, ox].map V.str)) := upd_same
          have dC := dB.same sq
          have hTC := tabs_same hTB sq
          have hoC := sq _ _ hoB
          have npS := dB.ne np
          generalize upd HB p (.lst [.str tx, .str ox]) = HC at hp dC hTC hoC
          clear sq hTB hoB dB hTA hoA dA
          refine gWL ⟨[tx, ox].map V.str, SqL.of hp, ?_⟩
          have hall : ∀ x ∈ [tx, ox], TO x 80000 := fun x hx => by
            simp only [List.mem_cons, List.not_mem_nil, or_false] at hx
            rcases hx with rfl | rfl
            · exact htx
            · exact hox
          generalize [tx, ox] = two at hp hall
          refine eForL (xs := two.map V.str) (fun j σ H' => ∃ y7 y8, σ = [some (.ref a), some (.ref ph), some (.ref po), some (.int (0 + (i : Int))), some (.str tx), y5, y6, y7, y8] ∧ Drw H' ph pl ∧ LamX.Tabs (Ts K) H' ∧ H' po = some (.lst ((sm1 ++ sm2).map V.str)) ∧ H' p = some (.lst (two.map V.str))) ?_ ?_ ?_ ?_
          · exact ⟨_, _, rfl, dC, hTC, hoC, hp⟩
          · exact fun j σ H' _ ⟨_, _, _, _, _, _, h⟩ => SqL.of h
          · clear hp dC hTC hoC
            rintro j x σ HD ex ⟨y7, y8, rfl, dD, hTD, hoD, hpD⟩
            rw [List.getElem?_map] at ex
            obtain ⟨one, em, rfl⟩ := Option.map_eq_some_iff.mp ex
            have h1 : TO one 80000 := hall one (List.mem_of_getElem? em)
            wtm_at "go"
            refine ⟨one, rfl, h1, fun bs eb HE pb B sE IB hB => ?_, fun n en HE pe sE he => ?_⟩
            · have dE := dD.same sE
              have hTE := tabs_same hTD sE
              have hoE := sE _ _ hoD
              have hpE := sE _ _ hpD
              wtm_at "go"
              refine iIsi (r := false) (tyL (SqL.of IB.at_)) (by decide +kernel) ?_
              wtm_at "go"
              refine iCallS ?_
              wtm_at "go"
              refine ⟨one, rfl, h1, fun bs2 e2 HF pb2 B2 sF IF hB2 => ?_, fun n e2 => by rw [eb] at e2; cases e2⟩
              have e3 : bs2 = bs := by rw [eb] at e2; cases e2; rfl
              subst e3
              have hlen := readT_len h1 eb
              have dF := dE.same sF
              have hTF := tabs_same hTE sF
              have hoF := sF _ _ hoE
              have hpF := sF _ _ hpE
              have IB2 := IB.same sF
              wtm_at "go"
              refine ⟨.ref pb2, .ref pb, bksD bs2, rfl, dp_bks IF.at_ (by rw [← hB2]; exact bks_pair IF.each), dp_bks IB2.at_ (by rw [← hB]; exact bks_pair IB2.each), alk_bksG hlen.1 hlen.2, fun HG sG => ?_⟩
              wtm_at "go"
              exact ⟨_, _, rfl, dF.same sG, tabs_same hTF sG, sG _ _ hoF, sG _ _ hpF⟩
            · have dE := dD.same sE
              have hTE := tabs_same hTD sE
              have hoE := sE _ _ hoD
              have hpE := sE _ _ hpD
              wtm_at "go"
              refine iIsi (r := true) (tyT (SqT.of he)) (by decide +kernel) ?_
              wtm_at "go"
              refine ⟨hTE, fun HF xF hTF => ?_⟩
              have dF := dE.ext xF
              have hoF := xF _ _ hoE (fun _ => nofun)
              have hpF := xF _ _ hpE (fun _ => nofun)
              have heF := xF _ _ he (fun _ => nofun)
              unfold TTKind
              refine iCallS ?_
              wtm_at "go"
              refine ⟨one, rfl, h1, fun bs e2 => (by rw [en] at e2; cases e2), fun n2 e2 HG dd sG hdd => ?_⟩
              have e3 : n2 = n := by rw [en] at e2; cases e2; rfl
              subst e3
              refine ⟨n2, dd, rfl, rfl, hdd, fun HH p2 sH hp2 => ?_⟩
              have sFH := sG.trans sH
              have heH := sFH _ _ heF
              wtm_at "go"
              have hsh : SeqAt.shaped (.tuple [.str "BadText", .int (n2 : Int)]) = true := by
                simp [SeqAt.shaped, PyData.canLay0, PyData.canLayAll0, PyData.depth, PyData.depthAll]
                decide +kernel
              refine ⟨.tuple [.str "BadText", .int (n2 : Int)], .tuple [.str "BadText", .int (n2 : Int)], .tup (SqT.of hp2) (.cons (.str _) (.cons (.int _) .nil)), .tup (SqT.of heH) (.cons (.str _) (.cons (.int _) .nil)), hsh, hsh, ?_⟩
              rw [eqv_yes hsh]
              wtm_at "go"
              exact ⟨_, _, rfl, dF.same sFH, tabs_same hTF sFH, sFH _ _ hoF, sFH _ _ hpF⟩
          · rintro σ HD ⟨y7, y8, rfl, dD, hTD, hoD, hpD⟩
            exact ⟨_, _, _, _, _, _, rfl, dD, hTD, hoD⟩
    · rintro σ H5 ⟨y3, y4, y5, y6, y7, y8, rfl, d5, hT5, ho5⟩
      wtm_at "go"
      exact q _
end

end U


theorem PySem.Challenge.cw_surfacehall_k18_texts_refused_holds : PySem.Challenge.rw_surfacehall_k18_texts_refused.Holds := by
  exact U.top (fun _ _ _ _ _ T B _ F => U.ok_law T B F)
