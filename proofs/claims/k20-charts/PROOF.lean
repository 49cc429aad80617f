import PyProof.Rows.All
import Wide.All
import OpenK.AllK
import Wide.FinOn
import HandS.ForMost
import HandS.Wide
import HandS.Evl
import HandS.IsInst
import HandS.Steps
import HandS.Flow
import HandS.Conv
import HandS.Codes
import HandS.More
import HandS.Replace

import HandS.ForExc
import HandS.ExcInit
import HandS.ExcIs
import HandS.ExcField
import HandS.ClsMeth
import HandS.TryOnly
import KE.KExcIs
import HandS.HotCalls
import HandS.FStr
import HandS.Style
import HandS.WordsDict
import HandS.SetBool
import PyProof.Rows.TupDisplay
import KE.DataCmp
import PySem.Challenge.RW_surebridge_k20_charts
set_option Elab.async false
set_option linter.all false
set_option maxRecDepth 100000
set_option maxHeartbeats 4000000
/-! a list of ints whose content is not told: the law's deck -/
namespace Dk
open PySem PySem.Spec PyProof.Rows L2

def Ints (l : Addr) (h : Heap) : Prop := ∃ ns : List Int, ns.length ≤ 100000 ∧ ∃ (its : List Value) (n : Nat), Vals (ns.map V.int) its ∧ h.get? l = some { cls := .type "list", data := .seq its.toArray n }
def DkO (l : Addr) : HO := .ext (Ints l)
theorem sz5 {n : Nat} (h : n ≤ 100000) : n ≤ sizeLine := Nat.le_trans h (by decide)
section
variable {P : Program} {w : World} {H H' : Hp} {h h' : Heap} {l : Addr} {o o' : HO} {fs ex : List Addr}
/-- another word for what stands at x -/
theorem retag (ok : HOk P w H h) (hx : H l = some o) (n1 : ∀ y, o ≠ .own y) (n2 : ∀ xs, o ≠ .tup xs) (new : ObjOk P w (upd H l o') h l o') : HOk P w (upd H l o') h := fun b u e => by
  by_cases hb : b = l
  · subst hb; rw [upd_same] at e; cases e; exact new
  · rw [upd_ne hb] at e
    refine (ok b u e).stay (fun c v _ q => q) (fun c q => ?_) fun c xs q => ?_
    · rw [upd_ne (fun z => by subst z; rw [hx] at q; exact n1 _ (Option.some.inj q))]; exact q
    · rw [upd_ne (fun z => by subst z; rw [hx] at q; exact n2 _ (Option.some.inj q))]; exact q
theorem upd_id (hx : H l = some o) : upd H l o = H := by
  funext b
  by_cases hb : b = l
  · rw [hb, upd_same, hx]
  · rw [upd_ne hb]
theorem dk_open (ok : HOk P w H h) (hx : H l = some (DkO l)) : ∃ ns : List Int, ns.length ≤ 100000 ∧ HOk P w (upd H l (.lst (ns.map V.int))) h := by
  have x : ObjOk P w H h l (.ext (Ints l)) := ok l _ hx
  obtain ⟨⟨ns, hn, its, n, r, e⟩, _, _⟩ := x
  refine ⟨ns, hn, retag ok hx (fun y z => by cases z) (fun y z => by cases z) ?_⟩
  exact ⟨by rw [List.length_map]; exact sz5 hn, its, n, r, e⟩
theorem dk_close {ns : List Int} (ok : HOk P w H h) (hx : H l = some (.lst (ns.map V.int))) (hn : ns.length ≤ 100000) : HOk P w (upd H l (DkO l)) h := by
  have x : ObjOk P w H h l (.lst (ns.map V.int)) := ok l _ hx
  obtain ⟨_, its, n, r, e⟩ := x
  refine retag ok hx (fun y z => by cases z) (fun y z => by cases z) ?_
  exact ⟨⟨ns, hn, its, n, r, e⟩, ⟨_, e⟩, fun h1 h2 z k => by
    obtain ⟨ms, hm, its', n', r', e'⟩ := z
    exact ⟨ms, hm, its', n', r', k _ e'⟩⟩
/-- untouched: another word at l on either side -/
theorem un_left {o1 : HO} (u : Un fs ex (upd H l o1) H' h h') (hx : H l = some o) (n2 : ∀ xs, o ≠ .tup xs) (n3 : ∀ o' v, o ≠ .frz o' v) (n4 : ∀ ps, o ≠ .tbl ps) : Un fs ex H H' h h' where
  keep := fun b q e n hb he => u.keep b q e (by rw [upd_ne (fun z => by subst z; rw [hx] at n; cases n)]; exact n) hb he
  slot := fun b q e n hb he => u.slot b q e (by rw [upd_ne (fun z => by subst z; rw [hx] at n; cases n)]; exact n) hb he
  free := fun b q e n he => u.free b q e (by rw [upd_ne (fun z => by subst z; rw [hx] at n; cases n)]; exact n) he
  there := u.there
  tups := fun b xs q => u.tups b xs (by rw [upd_ne (fun z => by subst z; rw [hx] at q; exact n2 _ (Option.some.inj q))]; exact q)
  frzs := fun b o v q => u.frzs b o v (by rw [upd_ne (fun z => by subst z; rw [hx] at q; exact n3 _ _ (Option.some.inj q))]; exact q)
  tbls := fun b ps q => u.tbls b ps (by rw [upd_ne (fun z => by subst z; rw [hx] at q; exact n4 _ (Option.some.inj q))]; exact q)
theorem un_right {o1 : HO} (u : Un fs ex H H' h h') (hx : H' l = some o) (n2 : ∀ xs, o ≠ .tup xs) (n3 : ∀ o' v, o ≠ .frz o' v) (n4 : ∀ ps, o ≠ .tbl ps) : Un fs ex H (upd H' l o1) h h' where
  keep := u.keep
  slot := u.slot
  free := fun b q e n he => by
    have z := u.free b q e n he
    rw [upd_ne (fun y => by subst y; rw [hx] at z; cases z)]; exact z
  there := u.there
  tups := fun b xs q => by
    have z := u.tups b xs q
    rw [upd_ne (fun y => by subst y; rw [hx] at z; exact n2 _ (Option.some.inj z))]; exact z
  frzs := fun b o v q => by
    have z := u.frzs b o v q
    rw [upd_ne (fun y => by subst y; rw [hx] at z; exact n3 _ _ (Option.some.inj z))]; exact z
  tbls := fun b ps q => by
    obtain ⟨m, z⟩ := u.tbls b ps q
    exact ⟨m, by rw [upd_ne (fun y => by subst y; rw [hx] at z; exact n4 _ (Option.some.inj z))]; exact z⟩
end
/-- take(deck, many), told of the list | of a deck -/
def spTakeC : Sp := fun vs H Q _ => ∃ (l : Addr) (ns : List Int) (m : Int), vs = [.ref l, .int m] ∧ H l = some (.lst (ns.map V.int)) ∧ ns.length ≤ 100000 ∧ 0 < m ∧
  ∀ (k : Int) (ns' : List Int), 0 ≤ k → k < m → ns'.length ≤ 100000 → Q (.int k) (upd H l (.lst (ns'.map V.int)))
def spTake : Sp := fun vs H Q _ => ∃ (l : Addr) (m : Int), vs = [.ref l, .int m] ∧ H l = some (DkO l) ∧ 0 < m ∧ ∀ k : Int, 0 ≤ k → k < m → Q (.int k) H
/-- deck(script, cells, each), told of the list | of a deck -/
def spDeckC (K : PySem.W.Frag) : Sp := fun vs H Q _ => ∃ (a : Addr) (ns : List Int) (c e : Int), vs = [.ref a, .int c, .int e] ∧ SqL K H a (ns.map V.int) ∧ ns.length ≤ 63 ∧ 0 ≤ c ∧ 0 ≤ e ∧ c ≤ 64 ∧ e ≤ 64 ∧
  ∀ (l : Addr) (ms : List Int) (H' : Hp), H l = none → H' = upd H l (.lst (ms.map V.int)) → ms.length ≤ 100000 → Q (.ref l) H'
def spDeck (K : PySem.W.Frag) : Sp := fun vs H Q _ => ∃ (a : Addr) (ns : List Int) (c e : Int), vs = [.ref a, .int c, .int e] ∧ SqL K H a (ns.map V.int) ∧ ns.length ≤ 63 ∧ 0 ≤ c ∧ 0 ≤ e ∧ c ≤ 64 ∧ e ≤ 64 ∧
  ∀ (l : Addr), H l = none → Q (.ref l) (upd H l (DkO l))
section
variable {P : Program} {w : World} {K : PySem.W.Frag} {mg : Str → Option Value} {base : Heap} {k : Nat} {f : Addr} {fd : FuncData} {ps : List Str}
theorem dk_tup {l : Addr} (xs : List V) : DkO l ≠ .tup xs := fun z => by
  have z' : HO.ext _ = HO.tup xs := z
  cases z'
theorem dk_frz {l : Addr} (o : Obj) (v : HO) : DkO l ≠ .frz o v := fun z => by
  have z' : HO.ext _ = HO.frz o v := z
  cases z'
theorem dk_tbl {l : Addr} (xs : Array Value) : DkO l ≠ .tbl xs := fun z => by
  have z' : HO.ext _ = HO.tbl xs := z
  cases z'
theorem ok_take (F : FnOk P w K mg base CX0 k f fd ps spTakeC) : FnOk P w K mg base CX0 k f fd ps spTake where
  len := fun vs H Q E h => by
    obtain ⟨l, m, e, h1, h2, h3⟩ := h
    exact F.len vs (upd H l (.lst (([] : List Int).map V.int))) (fun _ _ => True) E ⟨l, [], m, e, upd_same, by decide, h2, fun _ _ _ _ _ => trivial⟩
  run := fun A outer s H args us vs Q E hr he hb hv h => by
    obtain ⟨l, m, e, h1, h2, h3⟩ := h
    obtain ⟨ns, hn, ok⟩ := dk_open he.hok h1
    have nb : ∀ b, H b = none → b ≠ l := fun b n z => by rw [z, h1] at n; cases n
    have he1 : Env0 P w K mg base A outer s (upd H l (.lst (ns.map V.int))) := ⟨he.frames, he.mod, fun b o q => ⟨(he.bs b o q).1, by rw [upd_ne (nb b (he.bs b o q).2)]; exact (he.bs b o q).2⟩, he.bsz, he.funs, fun b q => by rw [upd_ne (nb b (he.frf b q))]; exact he.frf b q, ok, he.bare⟩
    refine codeAny_mono (F.run A outer s _ args us vs (fun v H1 => ∃ ns' : List Int, ns'.length ≤ 100000 ∧ H1 = upd H l (.lst (ns'.map V.int)) ∧ Q v H) E hr he1 hb hv ⟨l, ns, m, e, upd_same, hn, h2, fun k ns' k0 k1 hl => ⟨ns', hl, by rw [upd_upd], h3 k k0 k1⟩⟩) fun r s' q => ?_
    cases r with
    | error e => exact q
    | ok fl =>
      cases fl with
      | ret u =>
        obtain ⟨v, H1, os, bare, un, hok, rv, ns', hl, e1, q⟩ := q
        subst e1
        have g : upd (upd H l (.lst (ns'.map V.int))) l (DkO l) = H := by rw [upd_upd]; exact upd_id h1
        have hok' := dk_close hok upd_same hl
        have un1 := un_left un h1 dk_tup dk_frz dk_tbl
        have un2 := un_right (o1 := DkO l) un1 upd_same (fun _ z => by cases z) (fun _ _ z => by cases z) (fun _ z => by cases z)
        rw [g] at hok' un2
        exact ⟨v, H, os, bare, un2, hok', rv, q⟩
      | next => exact q
      | brk => exact q
      | cont => exact q
theorem ok_deck (F : FnOk P w K mg base CX0 k f fd ps (spDeckC K)) : FnOk P w K mg base CX0 k f fd ps (spDeck K) where
  len := fun vs H Q E h => by
    obtain ⟨a, ns, c, e, h1, h2, h3, h4, h5, h6, h7, h8⟩ := h
    exact F.len vs H (fun _ _ => True) E ⟨a, ns, c, e, h1, h2, h3, h4, h5, h6, h7, fun _ _ _ _ _ _ => trivial⟩
  run := fun A outer s H args us vs Q E hr he hb hv h => by
    obtain ⟨a, ns, c, e, h1, h2, h3, h4, h5, h6, h7, h8⟩ := h
    refine codeAny_mono (F.run A outer s _ args us vs (fun v H1 => ∃ (l : Addr) (ms : List Int), ms.length ≤ 100000 ∧ H l = none ∧ H1 = upd H l (.lst (ms.map V.int)) ∧ v = .ref l) E hr he hb hv ⟨a, ns, c, e, h1, h2, h3, h4, h5, h6, h7, fun l ms H' n e q => ⟨l, ms, q, n, e, rfl⟩⟩) fun r s' q => ?_
    cases r with
    | error e => exact q
    | ok fl =>
      cases fl with
      | ret u =>
        obtain ⟨v, H1, os, bare, un, hok, rv, l, ms, hl, n, e1, ev⟩ := q
        subst e1
        subst ev
        have hok' := dk_close hok upd_same hl
        have un2 := un_right (o1 := DkO l) un upd_same (fun _ z => by cases z) (fun _ _ z => by cases z) (fun _ z => by cases z)
        rw [upd_upd] at hok' un2
        exact ⟨.ref l, _, os, bare, un2, hok', rv, h8 l n⟩
      | next => exact q
      | brk => exact q
      | cont => exact q
end
end Dk

/-! readings, one rule a construct, for a walk by `first` -/
namespace Rd
open PySem PySem.Spec PyProof.Rows L2 Evl Dk
section
variable {σ σ' : L2.St} {H H' H1 : Hp} {Q : VK} {v x y z : V} {ta tb te tc : TE} {K : PySem.W.Frag} {i j : Int} {D : Ends} {t u : TS} {ct cu : TT} {QB : Bool → Hp → Prop} {QA : List V → Hp → Prop} {al bl : TA} {xs ys : List V} {a l C dx : Addr} {fs : List (Str × V)} {A B : Prop} {r : R2}
theorem var {n : Nat} (h : σ[n]? = some (some v)) (q : Q v H) : tVar n σ H Q := ⟨v, h, q⟩
theorem c (q : Q v H) : tC v σ H Q := q
theorem op (h : ta σ H fun x H1 => tb σ H1 fun y H2 => r x y H2 Q) : tOp r ta tb σ H Q := h
theorem un {r : V → Hp → VK → Prop} (h : ta σ H fun x H1 => r x H1 Q) : tUn r ta σ H Q := h
theorem i0 {g : Int → Int → V} (q : Q (g i j) H) : rI0 g (.int i) (.int j) H Q := ⟨i, j, rfl, rfl, q⟩
theorem i1 {C : Int → Int → Prop} {g : Int → Int → V} (c : C i j) (q : Q (g i j) H) : rI C g (.int i) (.int j) H Q := ⟨i, j, rfl, rfl, c, q⟩
theorem u0 {g : Int → V} (q : Q (g i) H) : rU g (.int i) H Q := ⟨i, rfl, q⟩
theorem dI : decide (V.int i = V.int j) = decide (i = j) := decide_eq_decide.mpr ⟨V.int.inj, congrArg V.int⟩
theorem dS {s t : Str} : decide (V.str s = V.str t) = decide (s = t) := decide_eq_decide.mpr ⟨V.str.inj, congrArg V.str⟩
theorem dB {s t : Bool} : decide (V.bl s = V.bl t) = decide (s = t) := decide_eq_decide.mpr ⟨V.bl.inj, congrArg V.bl⟩
theorem eqI (q : Q (.bl (decide (i = j))) H) : rEq (.int i) (.int j) H Q := ⟨rfl, by rw [dI]; exact q⟩
theorem neI (q : Q (.bl (!decide (i = j))) H) : rNe (.int i) (.int j) H Q := ⟨rfl, by rw [dI]; exact q⟩
theorem eqS {s t : Str} (q : Q (.bl (decide (s = t))) H) : rEq (.str s) (.str t) H Q := ⟨rfl, by rw [dS]; exact q⟩
theorem neS {s t : Str} (q : Q (.bl (!decide (s = t))) H) : rNe (.str s) (.str t) H Q := ⟨rfl, by rw [dS]; exact q⟩
theorem eqX (h : scal x y = true) (q : Q (.bl (decide (x = y))) H) : rEq x y H Q := ⟨h, q⟩
theorem neX (h : scal x y = true) (q : Q (.bl (!decide (x = y))) H) : rNe x y H Q := ⟨h, q⟩
theorem isN (q : Q (.bl (decide (x = .non))) H) : rIsN x .non H Q := ⟨rfl, q⟩
theorem notN (q : Q (.bl (!decide (x = .non))) H) : rNotN x .non H Q := ⟨rfl, q⟩
theorem isN_non (q : Q (.bl true) H) : rIsN .non .non H Q := ⟨rfl, q⟩
theorem notN_non (q : Q (.bl false) H) : rNotN .non .non H Q := ⟨rfl, q⟩
theorem isN_int (q : Q (.bl false) H) : rIsN (.int i) .non H Q := ⟨rfl, q⟩
theorem notN_int (q : Q (.bl true) H) : rNotN (.int i) .non H Q := ⟨rfl, q⟩
theorem isN_ref (q : Q (.bl false) H) : rIsN (.ref a) .non H Q := ⟨rfl, q⟩
theorem notN_ref (q : Q (.bl true) H) : rNotN (.ref a) .non H Q := ⟨rfl, q⟩
theorem isN_str {s : Str} (q : Q (.bl false) H) : rIsN (.str s) .non H Q := ⟨rfl, q⟩
theorem notN_str {s : Str} (q : Q (.bl true) H) : rNotN (.str s) .non H Q := ⟨rfl, q⟩
/-- a value that must be a truth value -/
def xT (x : V) (H : Hp) (Q : Bool → Hp → Prop) : Prop := ∃ k, x = .bl k ∧ Q k H
theorem xt {b : Bool} (q : QB b H) : xT (.bl b) H QB := ⟨b, rfl, q⟩
theorem test (h : te σ H fun x H' => xT x H' QB) : tTest te σ H QB := h
theorem tbv (h : te σ H fun x H' => xT x H' QB) : tB te σ H QB := h
theorem andT (h : ct σ H fun c H1 => if c = true then cu σ H1 QB else QB false H1) : tAnd ct cu σ H QB := h
theorem orT (h : ct σ H fun c H1 => if c = true then QB true H1 else cu σ H1 QB) : tOr ct cu σ H QB := h
theorem notT (h : ct σ H fun c H1 => QB (!c) H1) : tNot ct σ H QB := h
theorem andV (h : ta σ H fun x H1 => xT x H1 fun c H1 => if c = true then te σ H1 Q else Q (.bl false) H1) : tAndV ta te σ H Q := h
theorem orV (h : ta σ H fun x H1 => xT x H1 fun c H1 => if c = true then Q (.bl true) H1 else te σ H1 Q) : tOrV ta te σ H Q := h
theorem notV (h : ta σ H fun x H1 => xT x H1 fun c H1 => Q (.bl (!c)) H1) : tNotV ta σ H Q := h
theorem ifE (h : ct σ H fun c H1 => if c = true then ta σ H1 Q else tb σ H1 Q) : tIf ct ta tb σ H Q := h
theorem chain {r r' : R2} (h : ta σ H fun x H1 => tb σ H1 fun y H2 => r x y H2 fun z H3 => xT z H3 fun k H3 => if k = true then tc σ H3 fun w H4 => r' y w H4 Q else Q (.bl false) H3) : tChain r r' ta tb tc σ H Q := h
theorem ifT {p : Prop} [Decidable p] (hp : p) (h : A) : if decide p = true then A else B := by rw [if_pos (decide_eq_true hp)]; exact h
theorem ifF {p : Prop} [Decidable p] (hp : ¬ p) (h : B) : if decide p = true then A else B := by rw [decide_eq_false hp, if_neg Bool.false_ne_true]; exact h
theorem ifd {p : Prop} [Decidable p] (h1 : p → A) (h2 : ¬ p → B) : if decide p = true then A else B := by
  by_cases hp : p
  · exact ifT hp (h1 hp)
  · exact ifF hp (h2 hp)
theorem ifNT {p : Prop} [Decidable p] (hp : ¬ p) (h : A) : if (!decide p) = true then A else B := by rw [decide_eq_false hp]; exact iteT h
theorem ifNF {p : Prop} [Decidable p] (hp : p) (h : B) : if (!decide p) = true then A else B := by rw [decide_eq_true hp]; exact iteF h
theorem ifNd {p : Prop} [Decidable p] (h1 : ¬ p → A) (h2 : p → B) : if (!decide p) = true then A else B := by
  by_cases hp : p
  · exact ifNF hp (h2 hp)
  · exact ifNT hp (h1 hp)
theorem ifTT (h : A) : if true = true then A else B := iteT h
theorem ifFF (h : B) : if false = true then A else B := iteF h
theorem ifNTT (h : A) : if (!false) = true then A else B := iteT h
theorem ifNFF (h : B) : if (!true) = true then A else B := iteF h
theorem ifNN {b : Bool} (h : if b = true then A else B) : if (!!b) = true then A else B := by rw [Bool.not_not]; exact h
theorem ifb {b : Bool} (h1 : b = true → A) (h2 : b = false → B) : if b = true then A else B := by
  cases b with
  | true => exact iteT (h1 rfl)
  | false => exact iteF (h2 rfl)
theorem ifbT {b : Bool} (hb : b = true) (h : A) : if b = true then A else B := by rw [hb]; exact iteT h
theorem ifbF {b : Bool} (hb : b = false) (h : B) : if b = true then A else B := by rw [hb]; exact iteF h
theorem ifNbT {b : Bool} (hb : b = false) (h : A) : if (!b) = true then A else B := by rw [hb]; exact iteT h
theorem ifNbF {b : Bool} (hb : b = true) (h : B) : if (!b) = true then A else B := by rw [hb]; exact iteF h
-- statements
theorem seq (h : t { D with nx := u D } σ H) : tSeq t u D σ H := h
theorem ifS (h : ct σ H fun b H1 => if b = true then t D σ H1 else u D σ H1) : tIfS ct t u D σ H := h
theorem asg {g : TG} (h : te σ H fun x H1 => g x σ H1 D.nx) : tAsg te g D σ H := h
theorem gnm {n : Nat} {Q : L2.St → Hp → Prop} (h : Q (σ.set n (some v)) H) : gName n v σ H Q := h
theorem ret (h : te σ H D.rt) : tRet te D σ H := h
theorem retN (h : D.rt .non H) : tRetN D σ H := h
theorem drop (h : te σ H fun _ H1 => D.nx σ H1) : tDrop te D σ H := h
theorem nxt (h : D.nx σ H) : tNext D σ H := h
theorem brk (h : D.bk σ H) : tBreak D σ H := h
theorem cnt (h : D.ct σ H) : tCont D σ H := h
theorem aug {n : Nat} {ti : TIp} (hx : σ[n]? = some (some x)) (h : te σ H fun y H1 => ti x y H1 fun z H2 => D.nx (σ.set n (some z)) H2) : tAug n te ti D σ H := ⟨x, hx, h⟩
theorem ipi {f : Int → Int → Int} (q : Q (.int (f i j)) H) : ipI f (.int i) (.int j) H Q := ⟨i, j, rfl, rfl, q⟩
theorem par {n m : Nat} (h : al σ H fun vs H1 => ∃ v w, vs = [v, w] ∧ D.nx ((σ.set n (some v)).set m (some w)) H1) : tPar n m al D σ H := h
theorem par2 {N : V → V → Prop} {w : V} (h : N v w) : ∃ v' w', [v, w] = [v', w'] ∧ N v' w' := ⟨v, w, rfl, h⟩
/-- targets: a tuple to names -/
theorem gtup {n : Nat} {g : TGs} {Q : L2.St → Hp → Prop} (h : SqT K H a xs) (hn : xs.length = n) (q : g xs σ H Q) : gTup K n g (.ref a) σ H Q := ⟨a, xs, rfl, h, hn, q⟩
theorem gcons {g : TG} {gs : TGs} {Q : L2.St → Hp → Prop} (q : g v σ H fun σ' H' => gs xs σ' H' Q) : gCons g gs (v :: xs) σ H Q := ⟨v, xs, rfl, q⟩
theorem gnil {Q : L2.St → Hp → Prop} (q : Q σ H) : gNil [] σ H Q := ⟨rfl, q⟩
theorem gsub {te2 : TE} {ts : TSet} {Q : L2.St → Hp → Prop} (h : te σ H fun o H1 => te2 σ H1 fun i H2 => ts o i v H2 fun H3 => Q σ H3) : gSub te te2 ts v σ H Q := h
theorem setL {R : Hp → Prop} {n : Nat} (h : H l = some (.lst xs)) (hi : ixN xs.length i = some n) (q : R (upd H l (.lst (xs.set n v)))) : rSetL (.ref l) (.int i) v H R := ⟨l, xs, i, n, rfl, rfl, h, hi, q⟩
-- arguments
theorem nil (q : QA [] H) : tNil σ H QA := q
theorem cons (h : ta σ H fun x H1 => al σ H1 fun xs H2 => QA (x :: xs) H2) : tCons ta al σ H QA := h
theorem cb {r : List V → Hp → VK → Prop} (h : al σ H fun vs H1 => r vs H1 Q) : tCB r al σ H Q := h
theorem call {sp : Sp} {dvs : List V} {E : XK} (h : al σ H fun vs H1 => sp (vs ++ dvs) H1 Q E) : tCall sp dvs E al σ H Q := h
-- displays
def xTup (xs : List V) (H : Hp) (Q : VK) : Prop := xs.length ≤ sizeLine ∧ ∀ p, H p = none → Q (.ref p) (upd H p (.tup xs))
def xLst (xs : List V) (H : Hp) (Q : VK) : Prop := xs.length ≤ sizeLine ∧ ∀ p, H p = none → Q (.ref p) (upd H p (.lst xs))
theorem tup (h : al σ H fun xs H1 => xTup xs H1 Q) : tTup al σ H Q := h
theorem lst (h : al σ H fun xs H1 => xLst xs H1 Q) : tLst al σ H Q := h
theorem sz_le {n : Nat} (h : Nat.ble n 100000 = true) : n ≤ sizeLine := Dk.sz5 (Nat.le_of_ble_eq_true h)
theorem xtup (n : Nat.ble xs.length 100000 = true) (q : ∀ p H', H p = none → Ex H H' → H' p = some (.tup xs) → Q (.ref p) H') : xTup xs H Q := ⟨sz_le n, fun p hp => q p _ hp (Ex.new hp) upd_same⟩
theorem xlst (n : Nat.ble xs.length 100000 = true) (q : ∀ p H', H p = none → Ex H H' → H' p = some (.lst xs) → Q (.ref p) H') : xLst xs H Q := ⟨sz_le n, fun p hp => q p _ hp (Ex.new hp) upd_same⟩
theorem xlstU (n : Nat.ble xs.length 100000 = true) (q : ∀ p, H p = none → Q (.ref p) (upd H p (.lst xs))) : xLst xs H Q := ⟨sz_le n, q⟩
-- subscripts
theorem ixL (h : SqL K H l xs) (ha : atI xs i = some v) (q : Q v H) : rIxL K (.ref l) (.int i) H Q := ⟨l, xs, i, v, rfl, rfl, h, ha, q⟩
theorem ixT (h : SqT K H l xs) (ha : atI xs i = some v) (q : Q v H) : rIxT K (.ref l) (.int i) H Q := ⟨l, xs, i, v, rfl, rfl, h, ha, q⟩
-- fields
def rFld (K : PySem.W.Frag) (f : Str) (x : V) (H : Hp) (Q : VK) : Prop := ∃ a C dx fs v, x = .ref a ∧ H a = some (.ins C dx fs) ∧ Cls K C ∧ NoAttr K C f ∧ fs.lookup f = some v ∧ Q v H
theorem fld {f : Str} (h : ta σ H fun x H1 => rFld K f x H1 Q) : tFld K ta f σ H Q := h
theorem rfld {f : Str} (h : H a = some (.ins C dx fs)) (c : Cls K C) (n : NoAttr K C f) (lk : fs.lookup f = some v) (q : Q v H) : rFld K f (.ref a) H Q := ⟨a, C, dx, fs, v, rfl, h, c, n, lk, q⟩
def rSt (K : PySem.W.Frag) (f : Str) (v x : V) (H : Hp) (N : Hp → Prop) : Prop := ∃ a C dx fs, x = .ref a ∧ H a = some (.ins C dx fs) ∧ Cls K C ∧ NoAttr K C f ∧ fs.length < 1000 ∧ N (upd H a (.ins C dx (putF f v fs)))
-- methods
def xMeth (C : Addr) (m : Str) (x : V) (H : Hp) (P : Prop) : Prop := ∃ a dx fs, x = .ref a ∧ H a = some (.ins C dx fs) ∧ fs.lookup m = none ∧ P
theorem meth {m : Str} {sp : Sp} {dvs : List V} {E : XK} (h : ta σ H fun x H1 => xMeth C m x H1 (al σ H1 fun vs H2 => sp (x :: (vs ++ dvs)) H2 Q E)) : tMeth C m sp dvs E ta al σ H Q :=
  h
def xTy (K : PySem.W.Frag) (T : String) (x : V) (H : Hp) (P : Prop) : Prop := tyV K T x H ∧ P
theorem bm {T : String} {r : V → List V → Hp → VK → Prop} (h : te σ H fun x H1 => xTy K T x H1 (al σ H1 fun xs H2 => r x xs H2 Q)) : tBM K T r te al σ H Q := h
theorem bm0 {T : String} {r : V → List V → Hp → VK → Prop} (h : te σ H fun x H1 => xTy K T x H1 (r x [] H1 Q)) : tBM0 K T r te σ H Q := h
theorem xtyL {P : Prop} (h : SqL K H l xs) (p : P) : xTy K "list" (.ref l) H P := ⟨.inl ⟨rfl, _, h⟩, p⟩
theorem append (h : H l = some (.lst xs)) (n : xs.length < 100000) (q : Q .non (upd H l (.lst (xs ++ [v])))) : rAppend (.ref l) [v] H Q := ⟨l, xs, v, rfl, rfl, h, sz_lt n, q⟩
theorem reverse (h : H l = some (.lst xs)) (q : Q .non (upd H l (.lst xs.reverse))) : rReverse (.ref l) [] H Q := ⟨l, xs, rfl, rfl, h, q⟩
theorem pop (h : H l = some (.lst xs)) (hl : xs[xs.length - 1]? = some y) (q : Q y (upd H l (.lst xs.dropLast))) : rPop (.ref l) [] H Q := ⟨l, xs, y, rfl, rfl, h, hl, q⟩
end
end Rd
namespace Rd
open PySem PySem.Spec PyProof.Rows L2
section
variable {X : Cx}
def rLen (K : PySem.W.Frag) : List V → Hp → VK → Prop := fun xs H Q => ∃ p ys, xs = [.ref p] ∧ (SqL K H p ys ∨ SqT K H p ys) ∧ Q (.int ys.length) H
theorem c_len : CallR X (.builtin "len") (rLen X.K) := call_len_seq
def rLenStr : List V → Hp → VK → Prop := fun xs H Q => ∃ z, xs = [.str z] ∧ z.length ≤ sizeLine ∧ Q (.int z.length) H
theorem c_lenS : CallR X (.builtin "len") rLenStr := call_len_str
def rAbs : List V → Hp → VK → Prop := fun xs H Q => ∃ i, xs = [.int i] ∧ Q (.int (if i < 0 then -i else i)) H
theorem c_abs : CallR X (.builtin "abs") rAbs := call_abs
def rInt1 : List V → Hp → VK → Prop := fun xs H Q => (∃ i, xs = [.int i] ∧ Q (.int i) H) ∨ ∃ k, xs = [.bl k] ∧ Q (.int (if k then 1 else 0)) H
theorem c_int : CallR X (.type "int") rInt1 := call_int1
def rListOf (K : PySem.W.Frag) : List V → Hp → VK → Prop := fun xs H Q => ∃ p ys, xs = [.ref p] ∧ (SqL K H p ys ∨ SqT K H p ys) ∧ ∀ l, H l = none → Q (.ref l) (upd H l (.lst ys))
theorem c_list : CallR X (.type "list") (rListOf X.K) := call_list_of
def rMax2 : List V → Hp → VK → Prop := fun xs H Q => ∃ i j, xs = [.int i, .int j] ∧ Q (.int (if j > i then j else i)) H
theorem c_max2 (hc : X.calm = true) : CallR X (.builtin "max") rMax2 := call_max2 hc
def rMin2 : List V → Hp → VK → Prop := fun xs H Q => ∃ i j, xs = [.int i, .int j] ∧ Q (.int (if j < i then j else i)) H
theorem c_min2 (hc : X.calm = true) : CallR X (.builtin "min") rMin2 := call_min2 hc
end
end Rd
namespace Rd
open PySem PySem.Spec PyProof.Rows L2 Evl Dk
section
variable {σ : L2.St} {H : Hp} {Q : VK} {x : V} {K : PySem.W.Frag} {i j : Int} {xs : List V} {l : Addr}
theorem len (h : SqL K H l xs) (q : Q (.int xs.length) H) : Rd.rLen K [.ref l] H Q := ⟨l, xs, rfl, .inl h, q⟩
theorem lenT (h : SqT K H l xs) (q : Q (.int xs.length) H) : Rd.rLen K [.ref l] H Q := ⟨l, xs, rfl, .inr h, q⟩
theorem lenS {s : Str} (h : s.length ≤ 100000) (q : Q (.int s.length) H) : Rd.rLenStr [.str s] H Q := ⟨s, rfl, sz_of h, q⟩
theorem abs (q : Q (.int (if i < 0 then -i else i)) H)   : Rd.rAbs [.int i] H Q := ⟨i, rfl, q⟩
theorem int (q : Q (.int i) H) : Rd.rInt1 [.int i] H Q := .inl ⟨i, rfl, q⟩
theorem intB {k : Bool} (q : Q (.int (if k then 1 else 0)) H) : Rd.rInt1 [.bl k] H Q := .inr ⟨k, rfl, q⟩
theorem listOf (h : SqL K H l xs) (q : ∀ p H', H p = none → Ex H H' → H' p = some (.lst xs) → Q (.ref p) H') : Rd.rListOf K [.ref l] H Q := ⟨l, xs, rfl, .inl h, fun p hp => q p _ hp (Ex.new hp) upd_same⟩
theorem listOfU (h : SqL K H l xs) (q : ∀ p, H p = none → Q (.ref p) (upd H p (.lst xs))) : Rd.rListOf K [.ref l] H Q := ⟨l, xs, rfl, .inl h, q⟩
theorem max2 (q : Q (.int (if j > i then j else i)) H) : Rd.rMax2 [.int i, .int j] H Q := ⟨i, j, rfl, q⟩
theorem min2 (q : Q (.int (if j < i then j else i)) H) : Rd.rMin2 [.int i, .int j] H Q := ⟨i, j, rfl, q⟩
theorem take {m : Int} {E : XK} (h : H l = some (DkO l)) (hm : 0 < m) (q : ∀ k : Int, 0 ≤ k → k < m → Q (.int k) H) : spTake ([.ref l, .int m] ++ []) H Q E := ⟨l, m, rfl, h, hm, q⟩
end
end Rd
/-! ### data of any depth: what it is made of, and that it stays -/
namespace Dt
open PySem PySem.Spec PyProof.Rows L2 Evl
section
variable {K : PySem.W.Frag} {H H' : Hp} {v : V} {xs vs : List V} {d : PyData} {ds : List PyData} {a : Addr}
mutual
theorem mono (e : Ex H H') : ∀ (d : PyData) (v : V), Dp K H v d → Dp K H' v d
  | .none, _, h => by cases h; exact .non
  | .bool b, _, h => by cases h; exact .bl b
  | .int i, _, h => by cases h; exact .int i
  | .str x, _, h => by cases h; exact .str x
  | .list ds, _, h => by
    cases h with
    | lst hs ha => exact .lst (ex_l e hs) (monoAll e ds _ ha)
  | .tuple ds, _, h => by
    cases h with
    | tup hs ha => exact .tup (ex_t e hs) (monoAll e ds _ ha)
  | .dict _, _, h => by cases h
theorem monoAll (e : Ex H H') : ∀ (ds : List PyData) (vs : List V), DpAll K H vs ds → DpAll K H' vs ds
  | [], _, h => by cases h; exact .nil
  | d :: ds, _, h => by
    cases h with
    | cons h1 h2 => exact .cons (mono e d _ h1) (monoAll e ds _ h2)
end
theorem mn (h : Dp K H v d) (e : Ex H H') : Dp K H' v d := mono e d v h
theorem mnA (h : DpAll K H vs ds) (e : Ex H H') : DpAll K H' vs ds := monoAll e ds vs h
theorem inv_l (h : Dp K H v (.list ds)) : ∃ a xs, v = .ref a ∧ SqL K H a xs ∧ DpAll K H xs ds := by
  cases h with
  | lst hs ha => exact ⟨_, _, rfl, hs, ha⟩
theorem inv_t (h : Dp K H v (.tuple ds)) : ∃ a xs, v = .ref a ∧ SqT K H a xs ∧ DpAll K H xs ds := by
  cases h with
  | tup hs ha => exact ⟨_, _, rfl, hs, ha⟩
theorem inv_i {i : Int} (h : Dp K H v (.int i)) : v = .int i := by cases h; rfl
theorem inv_s {s : Str} (h : Dp K H v (.str s)) : v = .str s := by cases h; rfl
theorem inv_b {b : Bool} (h : Dp K H v (.bool b)) : v = .bl b := by cases h; rfl
theorem inv_n (h : Dp K H v .none) : v = .non := by cases h; rfl
theorem lenA : ∀ {vs : List V} {ds : List PyData}, DpAll K H vs ds → vs.length = ds.length
  | _, [], h => by cases h; rfl
  | _, d :: ds, h => by
    cases h with
    | cons _ h2 => simp [lenA h2]
theorem getA : ∀ {vs : List V} {ds : List PyData} {i : Nat} {v : V} {d : PyData}, DpAll K H vs ds → vs[i]? = some v → ds[i]? = some d → Dp K H v d
  | _, [], _, _, _, h, _, e => by simp at e
  | _, d :: ds, 0, _, _, h, e1, e2 => by
    cases h with
    | cons h1 _ =>
      simp at e1 e2
      rw [← e1, ← e2]
      exact h1
  | _, d :: ds, i + 1, _, _, h, e1, e2 => by
    cases h with
    | cons _ h2 => exact getA (i := i) h2 (by simpa using e1) (by simpa using e2)
theorem getA1 {i : Nat} (h : DpAll K H vs ds) (e : vs[i]? = some v) : ∃ d, ds[i]? = some d ∧ Dp K H v d := by
  have hl := lenA h
  have hi : i < vs.length := (List.getElem?_eq_some_iff.mp e).1
  exact ⟨ds[i]'(by omega), List.getElem?_eq_getElem (by omega), getA h e (List.getElem?_eq_getElem (by omega))⟩
theorem getA2 {i : Nat} (h : DpAll K H vs ds) (e : ds[i]? = some d) : ∃ v, vs[i]? = some v ∧ Dp K H v d := by
  have hl := lenA h
  have hi : i < ds.length := (List.getElem?_eq_some_iff.mp e).1
  exact ⟨vs[i]'(by omega), List.getElem?_eq_getElem (by omega), getA h (List.getElem?_eq_getElem (by omega)) e⟩
theorem consA (h : Dp K H v d) (hs : DpAll K H vs ds) : DpAll K H (v :: vs) (d :: ds) := .cons h hs
theorem appA : ∀ {vs ws : List V} {ds es : List PyData}, DpAll K H vs ds → DpAll K H ws es → DpAll K H (vs ++ ws) (ds ++ es)
  | _, _, [], _, h, g => by cases h; exact g
  | _, _, d :: ds, _, h, g => by
    cases h with
    | cons h1 h2 => exact .cons h1 (appA h2 g)
theorem oneA (h : Dp K H v d) : DpAll K H [v] [d] := .cons h .nil
theorem snocA (hs : DpAll K H vs ds) (h : Dp K H v d) : DpAll K H (vs ++ [v]) (ds ++ [d]) := appA hs (oneA h)
theorem takeA : ∀ {vs : List V} {ds : List PyData} (n : Nat), DpAll K H vs ds → DpAll K H (vs.take n) (ds.take n)
  | _, _, 0, _ => .nil
  | _, [], n + 1, h => by cases h; exact .nil
  | _, d :: ds, n + 1, h => by
    cases h with
    | cons h1 h2 => exact .cons h1 (takeA n h2)
theorem intsA : ∀ (ns : List Int), DpAll K H (ns.map V.int) (ns.map PyData.int)
  | [] => .nil
  | n :: ns => .cons (.int n) (intsA ns)
theorem strsA : ∀ (ns : List Str), DpAll K H (ns.map V.str) (ns.map PyData.str)
  | [] => .nil
  | n :: ns => .cons (.str n) (strsA ns)
/-- list and tuple made -/
theorem ofL (h : H a = some (.lst vs)) (hs : DpAll K H vs ds) : Dp K H (.ref a) (.list ds) := .lst (SqL.of h) hs
theorem ofT (h : H a = some (.tup vs)) (hs : DpAll K H vs ds) : Dp K H (.ref a) (.tuple ds) := .tup (SqT.of h) hs
end
end Dt
namespace Rd
open PySem PySem.Spec PyProof.Rows L2 Evl Dk
section
variable {σ σ' : L2.St} {H H' : Hp} {Q : VK} {v x y z : V} {te : TE} {K : PySem.W.Frag} {i j lo n : Int} {D : Ends} {tb : TS} {al : TA} {xs ys : List V} {a l C dx : Addr} {d e : PyData} {g : TG}
theorem eqD (h1 : Dp K H x d) (h2 : Dp K H y e) (s1 : SeqAt.shaped d = true) (s2 : SeqAt.shaped e = true) (q : Q (.bl (PyData.eqv d e)) H) : rEqD K x y H Q := ⟨d, e, h1, h2, s1, s2, q⟩
theorem neD (h1 : Dp K H x d) (h2 : Dp K H y e) (s1 : SeqAt.shaped d = true) (s2 : SeqAt.shaped e = true) (q : Q (.bl (!PyData.eqv d e)) H) : rNeD K x y H Q := ⟨d, e, h1, h2, s1, s2, q⟩
theorem eqvRefl (s : SeqAt.shaped d = true) : PyData.eqv d d = true := SeqAt.eqv_refl d (SeqAt.canLay_of_shaped s)
theorem eqDr (h1 : Dp K H x d) (h2 : Dp K H y d) (s1 : SeqAt.shaped d = true) (q : Q (.bl true) H) : rEqD K x y H Q := ⟨d, d, h1, h2, s1, s1, by rw [eqvRefl s1]; exact q⟩
theorem neDr (h1 : Dp K H x d) (h2 : Dp K H y d) (s1 : SeqAt.shaped d = true) (q : Q (.bl false) H) : rNeD K x y H Q := ⟨d, d, h1, h2, s1, s1, by rw [eqvRefl s1]; exact q⟩
/-! isinstance -/
theorem isiTy {t T : String} {b : Bool} (h : TyOf K H x (.type t)) (k : kitB t T = some b) (q : Q (.bl b) H) : rIsi K [x, .ty T] H Q := ⟨x, .ty T, .type t, .type T, b, rfl, .ty T, .base h, kit_ty k, q⟩
theorem isiInt {T : String} {b : Bool} (k : kitB "int" T = some b) (q : Q (.bl b) H) : rIsi K [.int i, .ty T] H Q := isiTy (.int i) k q
theorem isiBl {T : String} {b c : Bool} (k : kitB "bool" T = some b) (q : Q (.bl b) H) : rIsi K [.bl c, .ty T] H Q := isiTy (.bl c) k q
theorem isiStr {T : String} {b : Bool} {s : Str} (k : kitB "str" T = some b) (q : Q (.bl b) H) : rIsi K [.str s, .ty T] H Q := isiTy (.str s) k q
theorem isiNon {T : String} {b : Bool} (k : kitB "NoneType" T = some b) (q : Q (.bl b) H) : rIsi K [.non, .ty T] H Q := isiTy .non k q
theorem isiLst {T : String} {b : Bool} (h : H a = some (.lst xs)) (k : kitB "list" T = some b) (q : Q (.bl b) H) : rIsi K [.ref a, .ty T] H Q := isiTy (.lst h) k q
theorem isiTup {T : String} {b : Bool} (h : H a = some (.tup xs)) (k : kitB "tuple" T = some b) (q : Q (.bl b) H) : rIsi K [.ref a, .ty T] H Q := isiTy (.tup h) k q
/-! loops -/
def xFR1 (g : TG) (tb : TS) (D : Ends) (σ : L2.St) (vs : List V) (H1 : Hp) : Prop := ∃ j : Int, vs = [.int j] ∧ -(2 ^ 62) ≤ j ∧ j < 2 ^ 62 ∧ ∃ W : Nat → Nat → L2.St → Hp → Prop, (∃ m, W 0 m σ H1) ∧ ∀ i m σ H, W i m σ H →
      ((Itr 0 j.toNat).stop i H ∧ D.nx σ H) ∨ ((Itr 0 j.toNat).go i H ∧ ∃ N : L2.St → Hp → Prop, (∀ σ' H', N σ' H' → ∃ m', m' < m ∧ W (i + 1) m' σ' H') ∧ ∀ x H', (Itr 0 j.toNat).yld i H x H' → g x σ H' fun σ2 H2 => tb { D with nx := N, ct := N, bk := D.nx } σ2 H2)
theorem forR1 (h : al σ H fun vs H1 => xFR1 g tb D σ vs H1) : tFor (iRng1 al) g tb D σ H := h
theorem xfr1 {k : Nat} (hb : -(2 ^ 62) ≤ n ∧ n < 2 ^ 62) (Pv : Nat → L2.St → Hp → Prop) (h0 : Pv 0 σ H)
    (hs : ∀ (i : Nat) σ' H', (i : Int) < n → Pv i σ' H' → tb { D with nx := Pv (i + 1), ct := Pv (i + 1), bk := D.nx } (σ'.set k (some (.int (i : Int)))) H') (hd : ∀ σ' H', Pv n.toNat σ' H' → D.nx σ' H') : xFR1 (gName k) tb D σ [.int n] H :=
  ⟨n, rfl, hb.1, hb.2, for_range (lo := 0) (n := n.toNat) Pv h0 (fun i σ' H' hi p => by
    have e0 : (0 : Int) + (i : Int) = (i : Int) := Int.zero_add _
    show tb { D with nx := Pv (i + 1), ct := Pv (i + 1), bk := D.nx } (σ'.set k (some (.int ((0 : Int) + (i : Int))))) H'
    rw [e0]
    exact hs i σ' H' (by omega) p) hd⟩
def xFR2 (g : TG) (tb : TS) (D : Ends) (σ : L2.St) (vs : List V) (H1 : Hp) : Prop := ∃ i0 j : Int, vs = [.int i0, .int j] ∧ (-(2 ^ 62) ≤ i0 ∧ i0 < 2 ^ 62 ∧ -(2 ^ 62) ≤ j ∧ j < 2 ^ 62) ∧ ∃ W : Nat → Nat → L2.St → Hp → Prop, (∃ m, W 0 m σ H1) ∧ ∀ i m σ H, W i m σ H →
      ((Itr i0 (j - i0).toNat).stop i H ∧ D.nx σ H) ∨ ((Itr i0 (j - i0).toNat).go i H ∧ ∃ N : L2.St → Hp → Prop, (∀ σ' H', N σ' H' → ∃ m', m' < m ∧ W (i + 1) m' σ' H') ∧ ∀ x H', (Itr i0 (j - i0).toNat).yld i H x H' → g x σ H' fun σ2 H2 => tb { D with nx := N, ct := N, bk := D.nx } σ2 H2)
theorem forR2 (h : al σ H fun vs H1 => xFR2 g tb D σ vs H1) : tFor (iRng2 al) g tb D σ H := h
theorem xfr2 {k : Nat} (hb : -(2 ^ 62) ≤ lo ∧ lo < 2 ^ 62 ∧ -(2 ^ 62) ≤ n ∧ n < 2 ^ 62) (Pv : Nat → L2.St → Hp → Prop) (h0 : Pv 0 σ H)
    (hs : ∀ (i : Nat) σ' H', lo + (i : Int) < n → Pv i σ' H' → tb { D with nx := Pv (i + 1), ct := Pv (i + 1), bk := D.nx } (σ'.set k (some (.int (lo + (i : Int))))) H') (hd : ∀ σ' H', Pv (n - lo).toNat σ' H' → D.nx σ' H') : xFR2 (gName k) tb D σ [.int lo, .int n] H :=
  ⟨lo, n, rfl, hb, for_range (lo := lo) (n := (n - lo).toNat) Pv h0 (fun i σ' H' hi p => hs i σ' H' (by omega) p) hd⟩
def xFL (K : PySem.W.Frag) (g : TG) (tb : TS) (D : Ends) (σ : L2.St) (x : V) (H1 : Hp) : Prop := ∃ a, x = .ref a ∧ (∃ xs, SqL K H1 a xs) ∧ ∃ W : Nat → Nat → L2.St → Hp → Prop, (∃ m, W 0 m σ H1) ∧ ∀ i m σ H, W i m σ H →
      ((Itl K a).stop i H ∧ D.nx σ H) ∨ ((Itl K a).go i H ∧ ∃ N : L2.St → Hp → Prop, (∀ σ' H', N σ' H' → ∃ m', m' < m ∧ W (i + 1) m' σ' H') ∧ ∀ x H', (Itl K a).yld i H x H' → g x σ H' fun σ2 H2 => tb { D with nx := N, ct := N, bk := D.nx } σ2 H2)
theorem forL (h : te σ H fun x H1 => xFL K g tb D σ x H1) : tFor (iList K te) g tb D σ H := h
theorem xfl (hx : SqL K H a xs) (Pv : Nat → L2.St → Hp → Prop) (h0 : Pv 0 σ H) (hl : ∀ i σ' H', i ≤ xs.length → Pv i σ' H' → SqL K H' a xs)
    (hs : ∀ i x σ' H', xs[i]? = some x → Pv i σ' H' → g x σ' H' fun σ2 H2 => tb { D with nx := Pv (i + 1), ct := Pv (i + 1), bk := D.nx } σ2 H2) (hd : ∀ σ' H', Pv xs.length σ' H' → D.nx σ' H') : xFL K g tb D σ (.ref a) H :=
  ⟨a, rfl, ⟨xs, hx⟩, for_list Pv h0 hl hs hd⟩
def xFT (K : PySem.W.Frag) (g : TG) (tb : TS) (D : Ends) (σ : L2.St) (x : V) (H1 : Hp) : Prop := ∃ a, x = .ref a ∧ (∃ xs, SqT K H1 a xs) ∧ ∃ W : Nat → Nat → L2.St → Hp → Prop, (∃ m, W 0 m σ H1) ∧ ∀ i m σ H, W i m σ H →
      ((Itt K a).stop i H ∧ D.nx σ H) ∨ ((Itt K a).go i H ∧ ∃ N : L2.St → Hp → Prop, (∀ σ' H', N σ' H' → ∃ m', m' < m ∧ W (i + 1) m' σ' H') ∧ ∀ x H', (Itt K a).yld i H x H' → g x σ H' fun σ2 H2 => tb { D with nx := N, ct := N, bk := D.nx } σ2 H2)
theorem forT (h : te σ H fun x H1 => xFT K g tb D σ x H1) : tFor (iTup K te) g tb D σ H := h
theorem xft (hx : SqT K H a xs) (Pv : Nat → L2.St → Hp → Prop) (h0 : Pv 0 σ H) (hl : ∀ i σ' H', i ≤ xs.length → Pv i σ' H' → SqT K H' a xs)
    (hs : ∀ i x σ' H', xs[i]? = some x → Pv i σ' H' → g x σ' H' fun σ2 H2 => tb { D with nx := Pv (i + 1), ct := Pv (i + 1), bk := D.nx } σ2 H2) (hd : ∀ σ' H', Pv xs.length σ' H' → D.nx σ' H') : xFT K g tb D σ (.ref a) H :=
  ⟨a, rfl, ⟨xs, hx⟩, for_tup Pv h0 hl hs hd⟩
/-- powers of written numbers -/
theorem pw {m : Int} (c : CPow i j) (h : i ^ j.toNat = m) (q : Q (.int m) H) : rI CPow (fun i j => .int (i ^ j.toNat)) (.int i) (.int j) H Q := i1 c (by rw [h]; exact q)
theorem atI_i {α : Type} {xs : List α} {i : Int} {v : α} (h0 : 0 ≤ i) (h : xs[i.toNat]? = some v) : atI xs i = some v := by
  have e : ((i.toNat : Nat) : Int) = i := Int.toNat_of_nonneg h0
  rw [← e]
  exact atI_nat h
end
end Rd
namespace Rd
open PySem PySem.Spec PyProof.Rows L2 Evl Dk
section
variable {σ : L2.St} {H : Hp} {v x : V} {K : PySem.W.Frag} {D : Ends} {ta te : TE} {a C dx : Addr} {fs : List (Str × V)} {f : Str}
def xSt (K : PySem.W.Frag) (f : Str) (y x : V) (H2 : Hp) (N : Hp → Prop) : Prop := ∃ a C dx fs, x = .ref a ∧ H2 a = some (.ins C dx fs) ∧ Cls K C ∧ NoAttr K C f ∧ fs.length < 1000 ∧ N (upd H2 a (.ins C dx (putF f y fs)))
theorem sfld (h : te σ H fun y H1 => ta σ H1 fun x H2 => xSt K f y x H2 fun H3 => D.nx σ H3) : sFld K ta te f D σ H := h
theorem xst {N : Hp → Prop} (h : H a = some (.ins C dx fs)) (c : Cls K C) (n : NoAttr K C f) (l : Nat.blt fs.length 1000 = true) (q : N (upd H a (.ins C dx (putF f v fs)))) : xSt K f v (.ref a) H N := ⟨a, C, dx, fs, rfl, h, c, n, Nat.le_of_ble_eq_true l, q⟩
def xMk (C : Addr) (sp : V → Hp → VK → Prop) (H : Hp) (Q : VK) : Prop := ∀ x dx, H x = none → H dx = none → dx ≠ x → sp (.ref x) (upd (upd H dx (.own x)) x (.ins C dx [])) (fun v H2 => v = .non ∧ Q (.ref x) H2)
theorem make {C : Addr} {sp : Sp} {dvs : List V} {E : XK} {al : TA} {Q : VK} (h : al σ H fun vs H1 => xMk C (fun x H2 Q2 => sp (x :: (vs ++ dvs)) H2 Q2 E) H1 Q) : tMake C sp dvs E al σ H Q := h
/-- a new instance, told by one fact -/
theorem xmk {C : Addr} {sp : V → Hp → VK → Prop} {H : Hp} {Q : VK} (h : ∀ x dx H', Ex H H' → H x = none → H' x = some (.ins C dx []) → sp (.ref x) H' (fun v H2 => v = .non ∧ Q (.ref x) H2)) : xMk C sp H Q := fun x dx nx nd ne =>
  h x dx _ (fun b o e => by rw [upd_ne (ne_of_none e nx), upd_ne (ne_of_none e nd)]; exact e) nx upd_same
theorem xmeth {m : Str} {P : Prop} (h : H a = some (.ins C dx fs)) (l : fs.lookup m = none) (p : P) : xMeth C m (.ref a) H P := ⟨a, dx, fs, rfl, h, l, p⟩
end
end Rd
namespace Dt
open PySem PySem.Spec PyProof.Rows L2 Evl
/-- no list within -/
def noL : PyData → Bool
  | .list _ => false
  | .tuple ds => ds.attach.all fun ⟨d, _⟩ => noL d
  | _ => true
section
variable {K : PySem.W.Frag} {H : Hp} {l : Addr} {ws : List V} {o : HO}
theorem sqt_upd {a : Addr} {xs : List V} (h : H l = some (.lst ws)) (s : SqT K H a xs) : SqT K (upd H l o) a xs := by
  rcases s with (s | ⟨ob, s⟩) | s
  · refine .inl (.inl ?_)
    rw [upd_ne (fun z => by subst z; rw [h] at s; cases s)]; exact s
  · refine .inl (.inr ⟨ob, ?_⟩)
    rw [upd_ne (fun z => by subst z; rw [h] at s; cases s)]; exact s
  · exact .inr s
mutual
theorem updL (h : H l = some (.lst ws)) : ∀ (d : PyData) (v : V), noL d = true → Dp K H v d → Dp K (upd H l o) v d
  | .none, _, _, h1 => by cases h1; exact .non
  | .bool b, _, _, h1 => by cases h1; exact .bl b
  | .int i, _, _, h1 => by cases h1; exact .int i
  | .str x, _, _, h1 => by cases h1; exact .str x
  | .list _, _, n, _ => by simp [noL] at n
  | .tuple ds, _, n, h1 => by
    cases h1 with
    | tup hs ha => exact .tup (sqt_upd h hs) (updLA h ds _ (by simpa [noL] using n) ha)
  | .dict _, _, _, h1 => by cases h1
theorem updLA (h : H l = some (.lst ws)) : ∀ (ds : List PyData) (vs : List V), (∀ d ∈ ds, noL d = true) → DpAll K H vs ds → DpAll K (upd H l o) vs ds
  | [], _, _, h1 => by cases h1; exact .nil
  | d :: ds, _, n, h1 => by
    cases h1 with
    | cons h2 h3 => exact .cons (updL h d _ (n d List.mem_cons_self) h2) (updLA h ds _ (fun d hd => n d (List.mem_cons_of_mem _ hd)) h3)
end
end
end Dt
namespace Rd
open PySem PySem.Spec PyProof.Rows L2 Evl Dk
/-- only x has changed, which was not there -/
theorem exBut {H H2 H' : Hp} {x : Addr} (e : Ex H H2) (n : H x = none) (s : ∀ b o, b ≠ x → H2 b = some o → H' b = some o) : Ex H H' := fun b o h => s b o (ne_of_none h n) (e b o h)
end Rd
namespace Rd
open PySem PySem.Spec PyProof.Rows L2 Evl Dk
section
variable {σ : L2.St} {H : Hp} {Q : VK} {te : TE} {xs : List V} {v : V} {b : Bool} {t : TT} {QB : Bool → Hp → Prop} {K : PySem.W.Frag} {l : Addr} {a C dx : Addr} {fs : List (Str × V)}
theorem evL (h : EvL te σ H xs) (q : ∀ p H', H p = none → Ex H H' → H' p = some (.lst xs) → Q (.ref p) H') : te σ H Q := h H (Ex.refl H) Q q
theorem evV (h : Ev te σ H v) (q : ∀ H', Ex H H' → Q v H') : te σ H Q := h H (Ex.refl H) Q q
theorem evYes : EvT tYes σ H true := fun H1 _ _ q => q H1 (Ex.refl H1)
theorem given_all (n : Nat) (v : Nat → V) : given n (fun _ => true) v = (List.range n).map v := by
  unfold given
  rw [List.filter_eq_self.mpr (fun _ _ => rfl)]
theorem isiOwn {b : Bool} {D : Addr} (h : H a = some (.ins C dx fs)) (cl : Cls K C) (ha : PySem.W.findIn K (.ref C) "__class__" = some (some (.builtin "object.__class__"))) (hn : PySem.W.specialIn K (.builtin "object.__class__") "__get__" = some (some (.builtin "getset_descriptor.__get__")))
    (htk : PySem.W.takesIn K (.builtin "object.__class__") = some true) (hm : PySem.W.mroIn K C (.type "object") = some true) (k : PySem.W.kitOne K (.ref C) (.ref D) = some b) (q : Q (.bl b) H) : rIsi K [.ref a, .ref D] H Q :=
  ⟨.ref a, .ref D, .ref C, .ref D, b, rfl, .own D, .base (.ins h cl ha hn htk hm), k, q⟩
theorem cat {zs : List V} {c : Addr} (h1 : H l = some (.lst xs)) (h2 : H c = some (.lst zs)) (n : xs.length + zs.length ≤ 100000) (q : ∀ p H', H p = none → Ex H H' → H' p = some (.lst (xs ++ zs)) → Q (.ref p) H') : rCat (.ref l) (.ref c) H Q :=
  ⟨l, c, xs, zs, rfl, rfl, h1, h2, sz_of n, fun p hp => q p _ hp (Ex.new hp) upd_same⟩
theorem lstRg {a b : Int} (h : -100000 ≤ a ∧ a ≤ 100000 ∧ -100000 ≤ b ∧ b ≤ 100000) (q : ∀ p H', H p = none → Ex H H' → H' p = some (.lst (rgV a b)) → Q (.ref p) H') : RgOk a b ∧ ∀ q, H q = none → Q (.ref q) (upd H q (.lst (rgV a b))) :=
  ⟨⟨by omega, by omega, by omega, by omega, by omega⟩, fun p hp => q p _ hp (Ex.new hp) upd_same⟩
theorem pw20 {m : Int} (e : (10 : Int) ^ (20 : Int).toNat = m) (q : Q (.int m) H) : rI CPow (fun i j => .int (i ^ j.toNat)) (.int 10) (.int 20) H Q := pw ⟨by decide, by decide, by decide⟩ e q
end
end Rd
namespace Rd
open PySem PySem.Spec PyProof.Rows L2 Evl Dk
def rCatS : R2 := fun x y H Q => ∃ i j, x = .str i ∧ y = .str j ∧ i.length + j.length ≤ sizeLine ∧ Q (.str (i ++ j)) H
theorem op_addS {X : Cx} : OpR X (binaryOp .Add) rCatS := op_add_str
theorem catS {H : Hp} {Q : VK} {i j : Str} (h : i.length + j.length ≤ 100000) (q : Q (.str (i ++ j)) H) : rCatS (.str i) (.str j) H Q := ⟨i, j, rfl, rfl, sz_of h, q⟩
end Rd
namespace Rd
open PySem PySem.Spec PyProof.Rows L2 Evl Dk
section
variable {σ : L2.St} {H : Hp} {Q : VK} {te tf : TE} {x y : V} {n m : Int}
def xR1 (x : V) (H1 : Hp) (Q : VK) : Prop := ∃ n, x = .int n ∧ (RgOk 0 n ∧ ∀ q, H1 q = none → Q (.ref q) (upd H1 q (.lst (rgV 0 n))))
theorem listRg1 (h : te σ H fun x H1 => xR1 x H1 Q) : tLstRg (tRg1 te) σ H Q := h
theorem xr1 (h : -100000 ≤ n ∧ n ≤ 100000) (q : ∀ p H', H p = none → Ex H H' → H' p = some (.lst (rgV 0 n)) → Q (.ref p) H') : xR1 (.int n) H Q := ⟨n, rfl, lstRg ⟨by omega, by omega, h.1, h.2⟩ q⟩
end
end Rd
namespace Rd
open PySem PySem.Spec PyProof.Rows L2 Evl Dk
section
variable {σ : L2.St} {H : Hp} {Q : VK} {te tf : TE} {x y : V} {n m : Int} {l : Addr} {xs : List V}
def xR2 (x y : V) (H1 : Hp) (Q : VK) : Prop := ∃ i j, x = .int i ∧ y = .int j ∧ (RgOk i j ∧ ∀ q, H1 q = none → Q (.ref q) (upd H1 q (.lst (rgV i j))))
theorem listRg2 (h : te σ H fun x H1 => tf σ H1 fun y H2 => xR2 x y H2 Q) : tLstRg (tRg2 te tf) σ H Q := h
theorem xr2 (h : -100000 ≤ n ∧ n ≤ 100000 ∧ -100000 ≤ m ∧ m ≤ 100000) (q : ∀ p H', H p = none → Ex H H' → H' p = some (.lst (rgV n m)) → Q (.ref p) H') : xR2 (.int n) (.int m) H Q := ⟨n, m, rfl, rfl, lstRg h q⟩
theorem eqB {a b : Bool} (q : Q (.bl (decide (a = b))) H) : rEq (.bl a) (.bl b) H Q := ⟨rfl, by rw [dB]; exact q⟩
theorem neB {a b : Bool} (q : Q (.bl (!decide (a = b))) H) : rNe (.bl a) (.bl b) H Q := ⟨rfl, by rw [dB]; exact q⟩
def rInsert : V → List V → Hp → VK → Prop := fun x vs H Q => ∃ (l : Addr) (xs : List V) (i : Int) (y : V), x = .ref l ∧ vs = [.int i, y] ∧ H l = some (.lst xs) ∧ xs.length < sizeLine ∧ 0 ≤ i ∧ i < 2 ^ 63 ∧ Q .non (upd H l (.lst (xs.take i.toNat ++ [y] ++ xs.drop i.toNat)))
theorem mt_ins {X : Cx} : MtR X "list.insert" rInsert := mt_insert
theorem insert {i : Int} {y : V} (h : H l = some (.lst xs)) (hz : xs.length < 100000) (h0 : 0 ≤ i ∧ i ≤ 100000) (q : Q .non (upd H l (.lst (xs.take i.toNat ++ [y] ++ xs.drop i.toNat)))) : rInsert (.ref l) [.int i, y] H Q :=
  ⟨l, xs, i, y, rfl, rfl, h, sz_lt hz, h0.1, by omega, q⟩
theorem rgV_get {a b : Int} {i : Nat} {y : V} (h : (rgV a b)[i]? = some y) : y = .int (a + i) ∧ (i : Int) < b - a := by
  unfold rgV at h
  rw [List.getElem?_map] at h
  by_cases hi : i < (b - a).toNat
  · rw [List.getElem?_range hi] at h
    exact ⟨(Option.some.inj h).symm, by omega⟩
  · rw [List.getElem?_eq_none (by rw [List.length_range]; omega)] at h; cases h
end
end Rd
namespace Rd
open PySem PySem.Spec PyProof.Rows L2 Evl Dk
section
variable {σ : L2.St} {H : Hp} {Q : VK} {te tl : TE} {al : TA} {x y : V} {n m : Int} {l : Addr} {xs : List V} {g : TG} {tt : TT} {vs : List Nat} {K : PySem.W.Frag} {j : Nat}
def xLcR (g : TG) (tt : TT) (te : TE) (vs : List Nat) (σ : L2.St) (ws : List V) (H : Hp) (Q : VK) : Prop := tLc (iRng1 (fun _ H Q => Q ws H)) g tt te vs σ H Q
theorem lcR1 (h : al σ H fun ws H1 => xLcR g tt te vs σ ws H1 Q) : tLc (iRng1 al) g tt te vs σ H Q := h
theorem xlcR (f : Nat → Bool) (v : Nat → V) (hn : 0 ≤ n ∧ n ≤ 40000) (hw : ∀ x, wipe ((wipe σ vs).set j (some x)) vs = wipe σ vs)
    (ht : ∀ (i : Nat) H1, Ex H H1 → (i : Int) < n → EvT tt ((wipe σ vs).set j (some (.int (i : Int)))) H1 (f i)) (he : ∀ (i : Nat) H1, Ex H H1 → (i : Int) < n → f i = true → Ev te ((wipe σ vs).set j (some (.int (i : Int)))) H1 (v i))
    (q : ∀ p H', H p = none → Ex H H' → H' p = some (.lst (given n.toNat f v)) → Q (.ref p) H') : xLcR (gName j) tt te vs σ [.int n] H Q :=
  evL (el_lcR1 f v (fun H1 _ Q q => q H1 (Ex.refl H1)) hn hw ht he) q
def xLcL (K : PySem.W.Frag) (g : TG) (tt : TT) (te : TE) (vs : List Nat) (σ : L2.St) (x : V) (H : Hp) (Q : VK) : Prop := tLc (iList K (fun _ H Q => Q x H)) g tt te vs σ H Q
theorem lcL (h : tl σ H fun x H1 => xLcL K g tt te vs σ x H1 Q) : tLc (iList K tl) g tt te vs σ H Q := h
theorem xlcL (f : Nat → Bool) (v : Nat → V) (hx : SqL K H l xs) (hz : xs.length ≤ 40000) (hw : ∀ x, wipe ((wipe σ vs).set j (some x)) vs = wipe σ vs)
    (ht : ∀ (i : Nat) (x : V) H1, Ex H H1 → xs[i]? = some x → EvT tt ((wipe σ vs).set j (some x)) H1 (f i)) (he : ∀ (i : Nat) (x : V) H1, Ex H H1 → xs[i]? = some x → f i = true → Ev te ((wipe σ vs).set j (some x)) H1 (v i))
    (q : ∀ p H', H p = none → Ex H H' → H' p = some (.lst (given xs.length f v)) → Q (.ref p) H') : xLcL K (gName j) tt te vs σ (.ref l) H Q :=
  evL (el_lcL (a := l) f v (fun H1 _ Q q => q H1 (Ex.refl H1)) hx hz hw ht he) q
end
end Rd
namespace Rd
open PySem PySem.Spec PyProof.Rows L2 Evl Dk
section
variable {σ : L2.St} {H G H' H2 : Hp} {Q : VK} {te tl : TE} {al : TA} {x y : V} {n m : Int} {l p : Addr} {xs : List V} {tt : TT} {vs : List Nat} {K : PySem.W.Frag} {j : Nat} {o : HO}
/-- a tuple of the written part -/
theorem sqtK {k : Addr} {dd : Option Addr} {its : Array Value} {nn : Nat} {sl : Array (Option Value)} (h : K.lookup k = some ⟨.type "tuple", dd, .seq its nn, sl⟩) (v : Vals xs its.toList) (hz : xs.length ≤ 1000) : SqT K H k xs :=
  .inr ⟨_, its, nn, h, rfl, rfl, Nat.le_trans (Nat.le_of_eq (by simpa using v.length.symm)) (Nat.le_trans hz (by decide : 1000 ≤ sizeLine)), v⟩
/-- a part of the heap grows by a new object -/
theorem grow1 (e : Ex G H') (n : H' p = none) : Ex G (upd G p o) := Ex.new (fresh_back e n)
theorem grow2 (e : Ex G H') (e2 : Ex H' H2) (h : H2 p = some o) : Ex (upd G p o) H2 := fun a u ha => by
  by_cases hap : a = p
  · subst hap; rw [upd_same] at ha; rw [h]; exact ha
  · rw [upd_ne hap] at ha; exact e2 _ _ (e _ _ ha)
theorem grow3 {D : Addr} {u : HO} (g : G D = none) (n : H' p = none) (h : H' D = some u) : (upd G p o) D = none := by
  rw [upd_ne (ne_of_none h n)]; exact g
/-- a comprehension over a list; its items are data, made of what stood ahead of it and of what each turn makes -/
def Lw (K : PySem.W.Frag) (H : Hp) (R : Nat → PyData → Prop) (D : Addr) (i : Nat) (H' : Hp) : Prop := H D = none ∧ ∃ (G : Hp) (ys : List V) (ds : List PyData), Ex H G ∧ Ex G H' ∧ G D = none ∧ H' D = some (.lst ys) ∧ DpAll K G ys ds ∧ ds.length = i ∧ ∀ k d, ds[k]? = some d → R k d
theorem lw_turn {R : Nat → PyData → Prop} {D : Addr} {i : Nat} {σ2 : L2.St} (hi : i < 50000) (pw : Lw K H R D i H')
    (he : ∀ (G : Hp) (acc : List V), Ex H G → Ex G H' → G D = none → H' D = some (.lst acc) → ∀ Q' : VK, (∀ y H2 G2 d, Ex G G2 → Ex G2 H2 → G2 D = none → Ex H' H2 → Dp K G2 y d → R i d → Q' y H2) → te σ2 H' Q') :
    te σ2 H' fun y H4 => ∃ acc, H4 D = some (.lst acc) ∧ acc.length < sizeLine ∧ Lw K H R D (i + 1) (upd H4 D (.lst (acc ++ [y]))) := by
  obtain ⟨hD, G, ys, ds, e1, e2, g, hys, hd, hl, hR⟩ := pw
  refine he G ys e1 e2 g hys _ fun y H2 G2 d a1 a2 a3 a4 a5 a6 => ⟨ys, a4 _ _ hys, sz_lt (by rw [Dt.lenA hd]; omega), hD, G2, ys ++ [y], ds ++ [d], e1.trans a1, Ex.mut a2 a3, a3, upd_same, Dt.snocA (Dt.mnA hd a1) a5, by rw [List.length_append, hl]; rfl, fun k d' hk => ?_⟩
  by_cases hki : k < ds.length
  · rw [List.getElem?_append_left hki] at hk; exact hR k d' hk
  · rw [List.getElem?_append_right (by omega)] at hk
    have hk0 : k - ds.length = 0 := by
      cases e : k - ds.length with
      | zero => rfl
      | succ m => rw [e] at hk; cases hk
    rw [hk0] at hk
    have hd' : d = d' := Option.some.inj hk
    rw [← hd', show k = i from by omega]
    exact a6
theorem xlcG (R : Nat → PyData → Prop) (hx : SqL K H l xs) (hz : xs.length ≤ 40000) (hw : ∀ x, wipe ((wipe σ vs).set j (some x)) vs = wipe σ vs)
    (he : ∀ (i : Nat) (x : V) (D : Addr) (G H' : Hp) (acc : List V), xs[i]? = some x → H D = none → Ex H G → Ex G H' → G D = none → H' D = some (.lst acc) →
      ∀ Q' : VK, (∀ y H2 G2 d, Ex G G2 → Ex G2 H2 → G2 D = none → Ex H' H2 → Dp K G2 y d → R i d → Q' y H2) → te ((wipe σ vs).set j (some x)) H' Q')
    (q : ∀ p G' H' ys ds, H p = none → Ex H G' → Ex G' H' → G' p = none → H' p = some (.lst ys) → DpAll K G' ys ds → ds.length = xs.length → (∀ i d, ds[i]? = some d → R i d) → Q (.ref p) H') : xLcL K (gName j) tYes te vs σ (.ref l) H Q :=
  ⟨l, rfl, ⟨xs, hx⟩, fun D hD => lc_list (xs := xs) (Lw K H R D) ⟨hD, H, [], [], Ex.refl H, Ex.new hD, hD, upd_same, .nil, rfl, fun _ _ h => nomatch h⟩
    (fun i H' _ ⟨_, G, _, _, e1, e2, _⟩ => ex_l (e1.trans e2) hx)
    (fun i x H' hi p => ⟨hw x, iteT (B := Lw K H R D (i + 1) H') (lw_turn (by have := (List.getElem?_eq_some_iff.mp hi).1; omega) p fun G acc a1 a2 a3 a4 => he i x D G H' acc hi hD a1 a2 a3 a4)⟩)
    (fun H' ⟨_, G, ys, ds, e1, e2, g, hys, hd, hl, hR⟩ => q D G H' ys ds hD e1 e2 g hys hd hl hR)⟩
theorem xlcGR (R : Nat → PyData → Prop) (hn : 0 ≤ n ∧ n ≤ 40000) (hw : ∀ x, wipe ((wipe σ vs).set j (some x)) vs = wipe σ vs)
    (he : ∀ (i : Nat) (D : Addr) (G H' : Hp) (acc : List V), (i : Int) < n → H D = none → Ex H G → Ex G H' → G D = none → H' D = some (.lst acc) →
      ∀ Q' : VK, (∀ y H2 G2 d, Ex G G2 → Ex G2 H2 → G2 D = none → Ex H' H2 → Dp K G2 y d → R i d → Q' y H2) → te ((wipe σ vs).set j (some (.int (i : Int)))) H' Q')
    (q : ∀ p G' H' ys ds, H p = none → Ex H G' → Ex G' H' → G' p = none → H' p = some (.lst ys) → DpAll K G' ys ds → ds.length = n.toNat → (∀ i d, ds[i]? = some d → R i d) → Q (.ref p) H') : xLcR (gName j) tYes te vs σ [.int n] H Q :=
  ⟨n, rfl, by omega, by omega, fun D hD => lc_range (lo := 0) (n := n.toNat) (Lw K H R D) ⟨hD, H, [], [], Ex.refl H, Ex.new hD, hD, upd_same, .nil, rfl, fun _ _ h => nomatch h⟩
    (fun i H' hi p => by
      have e0 : (0 : Int) + (i : Int) = (i : Int) := Int.zero_add _
      show wipe ((wipe σ vs).set j (some (.int ((0 : Int) + (i : Int))))) vs = wipe σ vs ∧ _
      rw [e0]
      exact ⟨hw _, iteT (B := Lw K H R D (i + 1) H') (lw_turn (by omega) p fun G acc a1 a2 a3 a4 => he i D G H' acc (by omega) hD a1 a2 a3 a4)⟩)
    (fun H' ⟨_, G, ys, ds, e1, e2, g, hys, hd, hl, hR⟩ => q D G H' ys ds hD e1 e2 g hys hd hl hR)⟩
end
end Rd
namespace Rd
open PySem PySem.Spec PyProof.Rows L2 Evl Dk
section
variable {σ σ' : L2.St} {H H' : Hp} {Q : VK} {te tl : TE} {al : TA} {x y v : V} {n m : Int} {l p : Addr} {xs : List V} {tt : TT} {vs : List Nat} {K : PySem.W.Frag} {j : Nat} {o : HO} {g : TG} {D : Ends} {tb : TS}
/-! loops and comprehensions over a text -/
def xFS (g : TG) (tb : TS) (D : Ends) (σ : L2.St) (x : V) (H1 : Hp) : Prop := ∃ z, x = .str z ∧ ∃ W : Nat → Nat → L2.St → Hp → Prop, (∃ m, W 0 m σ H1) ∧ ∀ i m σ H, W i m σ H →
      ((Its z).stop i H ∧ D.nx σ H) ∨ ((Its z).go i H ∧ ∃ N : L2.St → Hp → Prop, (∀ σ' H', N σ' H' → ∃ m', m' < m ∧ W (i + 1) m' σ' H') ∧ ∀ x H', (Its z).yld i H x H' → g x σ H' fun σ2 H2 => tb { D with nx := N, ct := N, bk := D.nx } σ2 H2)
theorem forS (h : te σ H fun x H1 => xFS g tb D σ x H1) : tFor (iStr te) g tb D σ H := h
theorem xfs {z : Str} (Pv : Nat → L2.St → Hp → Prop) (h0 : Pv 0 σ H)
    (hs : ∀ i c σ' H', z.cps[i]? = some c → Pv i σ' H' → g (.str ⟨#[c]⟩) σ' H' fun σ2 H2 => tb { D with nx := Pv (i + 1), ct := Pv (i + 1), bk := D.nx } σ2 H2) (hd : ∀ σ' H', Pv z.cps.size σ' H' → D.nx σ' H') : xFS g tb D σ (.str z) H := by
  refine ⟨z, rfl, fun i m σ' H' => m = z.cps.size - i ∧ i ≤ z.cps.size ∧ Pv i σ' H', ⟨_, rfl, Nat.zero_le _, h0⟩, ?_⟩
  rintro i m σ' H' ⟨rfl, hi, p⟩
  by_cases hlt : i < z.cps.size
  · exact .inr ⟨hlt, Pv (i + 1), fun σ2 H2 p' => ⟨z.cps.size - (i + 1), by omega, rfl, hlt, p'⟩, fun x H2 ⟨e, c, hc, ex⟩ => by subst e; subst ex; exact hs i c σ' _ hc p⟩
  · have e : i = z.cps.size := by omega
    subst e
    exact .inl ⟨Nat.le_refl _, hd σ' H' p⟩
def xLcS (g : TG) (tt : TT) (te : TE) (vs : List Nat) (σ : L2.St) (x : V) (H : Hp) (Q : VK) : Prop := tLc (iStr (fun _ H Q => Q x H)) g tt te vs σ H Q
theorem lcS (h : tl σ H fun x H1 => xLcS g tt te vs σ x H1 Q) : tLc (iStr tl) g tt te vs σ H Q := h
theorem xlcS {z : Str} (f : Nat → Bool) (v : Nat → V) (hz : z.cps.size ≤ 40000) (hw : ∀ x, wipe ((wipe σ vs).set j (some x)) vs = wipe σ vs)
    (ht : ∀ (i c : Nat) H1, Ex H H1 → z.cps[i]? = some c → EvT tt ((wipe σ vs).set j (some (.str ⟨#[c]⟩))) H1 (f i)) (he : ∀ (i c : Nat) H1, Ex H H1 → z.cps[i]? = some c → f i = true → Ev te ((wipe σ vs).set j (some (.str ⟨#[c]⟩))) H1 (v i))
    (q : ∀ p H', H p = none → Ex H H' → H' p = some (.lst (given z.cps.size f v)) → Q (.ref p) H') : xLcS (gName j) tt te vs σ (.str z) H Q := by
  refine ⟨z, rfl, fun D hD => ⟨fun i m H' => m = z.cps.size - i ∧ i ≤ z.cps.size ∧ Cw H f v D i H', ⟨_, rfl, Nat.zero_le _, hD, Ex.new hD, upd_same⟩, ?_⟩⟩
  rintro i m H' ⟨rfl, hi, p⟩
  by_cases hlt : i < z.cps.size
  · exact .inr ⟨hlt, fun H2 => Cw H f v D (i + 1) H2, fun H2 p' => ⟨z.cps.size - (i + 1), by omega, rfl, hlt, p'⟩, fun x H2 ⟨e, c, hc, ex⟩ => by
      subst e; subst ex
      exact ⟨hw _, cw_turn p (by omega) (ht i c H (Ex.refl H) hc) fun hf => he i c H (Ex.refl H) hc hf⟩⟩
  · have e : i = z.cps.size := by omega
    subst e
    exact .inl ⟨Nat.le_refl _, q D H' p.1 p.2.1 p.2.2⟩
/-! in a tuple or a list of flat items -/
theorem inT {b : Bool} (h : SqT K H p xs) (hx : flatV x = true) (ha : xs.all flatV = true) (hb : inV x xs = b) (q : Q (.bl b) H) : rIn K false x (.ref p) H Q := ⟨p, xs, rfl, .inr h, hx, ha, by rw [hb]; exact q⟩
theorem ninT {b : Bool} (h : SqT K H p xs) (hx : flatV x = true) (ha : xs.all flatV = true) (hb : inV x xs = b) (q : Q (.bl (!b)) H) : rIn K true x (.ref p) H Q := ⟨p, xs, rfl, .inr h, hx, ha, by rw [hb]; exact q⟩
/-! texts -/
def rJoin (K : PySem.W.Frag) : V → List V → Hp → VK → Prop := fun x xs H Q => ∃ a p, ∃ ys : List Str, x = .str a ∧ xs = [.ref p] ∧ (SqL K H p (ys.map V.str) ∨ SqT K H p (ys.map V.str)) ∧ (ys.map (·.length)).sum + ys.length * a.length ≤ 16777216 ∧ Q (.str (Txt.join a ys)) H
theorem mt_jn {X : Cx} : MtR X "str.join" (rJoin X.K) := mt_join
def rFind : V → List V → Hp → VK → Prop := fun x xs H Q => ∃ a b, x = .str a ∧ xs = [.str b] ∧ Q (.int (Txt.find a b)) H
theorem mt_fd {X : Cx} : MtR X "str.find" rFind := mt_find
def rSix : V → List V → Hp → VK → Prop := fun x xs H Q => ∃ a b i rest, x = .str a ∧ xs = [.str b] ∧ Builtin.Str.occurrences a b 0 a.length 1 = i :: rest ∧ Q (.int (i : Nat)) H
theorem mt_six {X : Cx} : MtR X "str.index" rSix := mt_sindex
theorem join {a : Str} {ys : List Str} (h : SqL K H p (ys.map V.str)) (hz : (ys.map (·.length)).sum + ys.length * a.length ≤ 16777216) (q : Q (.str (Txt.join a ys)) H) : rJoin K (.str a) [.ref p] H Q := ⟨a, p, ys, rfl, rfl, .inl h, hz, q⟩
theorem find {a b : Str} (q : Q (.int (Txt.find a b)) H) : rFind (.str a) [.str b] H Q := ⟨a, b, rfl, rfl, q⟩
theorem six {a b : Str} {i : Nat} {r : List Nat} (h : Builtin.Str.occurrences a b 0 a.length 1 = i :: r) (q : Q (.int (i : Nat)) H) : rSix (.str a) [.str b] H Q := ⟨a, b, i, r, rfl, rfl, h, q⟩
def xIsS (x : V) (P : Prop) : Prop := (∃ a, x = .str a) ∧ P
theorem m1 {r : V → List V → Hp → VK → Prop} {tf : TE} (h : te σ H fun x H1 => xIsS x (tf σ H1 fun y H2 => r x [y] H2 Q)) : tM1 r te tf σ H Q := h
theorem m0 {r : V → List V → Hp → VK → Prop} (h : te σ H fun x H1 => xIsS x (r x [] H1 Q)) : tM0 r te σ H Q := h
theorem xiss {a : Str} {P : Prop} (h : P) : xIsS (.str a) P := ⟨⟨a, rfl⟩, h⟩
def rTupOf (K : PySem.W.Frag) : List V → Hp → VK → Prop := fun xs H Q => ∃ p ys, xs = [.ref p] ∧ ((SqL K H p ys ∧ ∀ l, H l = none → Q (.ref l) (upd H l (.tup ys))) ∨ (SqT K H p ys ∧ Q (.ref p) H))
theorem c_tup {X : Cx} : CallR X (.type "tuple") (rTupOf X.K) := call_tuple_of
theorem tupOfL (h : SqL K H p xs) (q : ∀ l H', H l = none → Ex H H' → H' l = some (.tup xs) → Q (.ref l) H') : rTupOf K [.ref p] H Q := ⟨p, xs, rfl, .inl ⟨h, fun l hl => q l _ hl (Ex.new hl) upd_same⟩⟩
theorem tupOfT (h : SqT K H p xs) (q : Q (.ref p) H) : rTupOf K [.ref p] H Q := ⟨p, xs, rfl, .inr ⟨h, q⟩⟩
end
end Rd
namespace Rd
open PySem PySem.Spec PyProof.Rows L2 Evl Dk
theorem ip_addS {X : Cx} : PIp X .Add rCatS := by
  rintro pins s σ H x y v u Q I r1 r2 ⟨i, j, rfl, rfl, hz, q⟩
  obtain ⟨t, rfl⟩ := r1
  obtain ⟨t', rfl⟩ := r2
  exact SB.iadd (fun _ _ => ⟨.str _, H, I.tok _, ⟨_, rfl⟩, q⟩) hz
end Rd
namespace Rd
open PySem PySem.Spec PyProof.Rows L2 Evl Dk
theorem lenSL {s : Str} {n : Nat} {H : Hp} {Q : VK} (h : s.length = n) (hn : n ≤ 100000) (q : Q (.int n) H) : Rd.rLenStr [.str s] H Q := ⟨s, rfl, sz_of (by rw [h]; exact hn), by rw [h]; exact q⟩
end Rd
namespace Dt
open PySem PySem.Spec PyProof.Rows L2 Evl
section
variable {K : PySem.W.Frag} {H : Hp} {l C dx : Addr} {fs : List (Str × V)} {o : HO}
theorem rd_ins {a : Addr} {u : HO} (h : H l = some (.ins C dx fs)) (n : ∀ C dx fs, u ≠ .ins C dx fs) (s : L2.Rd H a u) : L2.Rd (upd H l o) a u := by
  rcases s with s | ⟨ob, s⟩
  · exact .inl (by rw [upd_ne (fun z => by subst z; rw [h] at s; exact n _ _ _ (Option.some.inj s).symm)]; exact s)
  · exact .inr ⟨ob, by rw [upd_ne (fun z => by subst z; rw [h] at s; cases s)]; exact s⟩
theorem sqt_ins {a : Addr} {xs : List V} (h : H l = some (.ins C dx fs)) (s : SqT K H a xs) : SqT K (upd H l o) a xs := by
  rcases s with s | s
  · exact .inl (rd_ins h (fun _ _ _ z => by cases z) s)
  · exact .inr s
theorem sql_ins {a : Addr} {xs : List V} (h : H l = some (.ins C dx fs)) (s : SqL K H a xs) : SqL K (upd H l o) a xs := by
  rcases s with s | s
  · exact .inl (rd_ins h (fun _ _ _ z => by cases z) s)
  · exact .inr s
mutual
/-- data stays where an instance changes -/
theorem updI (h : H l = some (.ins C dx fs)) : ∀ (d : PyData) (v : V), Dp K H v d → Dp K (upd H l o) v d
  | .none, _, h1 => by cases h1; exact .non
  | .bool b, _, h1 => by cases h1; exact .bl b
  | .int i, _, h1 => by cases h1; exact .int i
  | .str x, _, h1 => by cases h1; exact .str x
  | .list ds, _, h1 => by
    cases h1 with
    | lst hs ha => exact .lst (sql_ins h hs) (updIA h ds _ ha)
  | .tuple ds, _, h1 => by
    cases h1 with
    | tup hs ha => exact .tup (sqt_ins h hs) (updIA h ds _ ha)
  | .dict _, _, h1 => by cases h1
theorem updIA (h : H l = some (.ins C dx fs)) : ∀ (ds : List PyData) (vs : List V), DpAll K H vs ds → DpAll K (upd H l o) vs ds
  | [], _, h1 => by cases h1; exact .nil
  | d :: ds, _, h1 => by
    cases h1 with
    | cons h2 h3 => exact .cons (updI h d _ h2) (updIA h ds _ h3)
end
end
end Dt
namespace Rd
open PySem PySem.Spec PyProof.Rows L2 Evl Dk
/-- what a for walks: a list or a tuple -/
def iSeq (K : PySem.W.Frag) (te : TE) : TI := fun σ H R => iList K te σ H R ∨ iTup K te σ H R
theorem pi_seq {X : Cx} {tg l : Expr} {tl : TE} (hl : PE X l tl) : PI X tg l (iSeq X.K tl) := by
  refine ⟨fun pins s σ H R I h => ?_⟩
  rcases h with h | h
  · exact (pi_list hl).run pins s σ H R I h
  · exact (pi_tup hl).run pins s σ H R I h
section
variable {σ : L2.St} {H : Hp} {Q : VK} {te tl : TE} {l : Addr} {xs : List V} {tt : TT} {vs : List Nat} {K : PySem.W.Frag} {j : Nat} {g : TG} {tb : TS} {D : Ends}
theorem lcQL (h : tLc (iList K tl) g tt te vs σ H Q) : tLc (iSeq K tl) g tt te vs σ H Q := .inl h
theorem lcQT (h : tLc (iTup K tl) g tt te vs σ H Q) : tLc (iSeq K tl) g tt te vs σ H Q := .inr h
theorem forQL (h : tFor (iList K tl) g tb D σ H) : tFor (iSeq K tl) g tb D σ H := .inl h
theorem forQT (h : tFor (iTup K tl) g tb D σ H) : tFor (iSeq K tl) g tb D σ H := .inr h
def xLcT (K : PySem.W.Frag) (g : TG) (tt : TT) (te : TE) (vs : List Nat) (σ : L2.St) (x : V) (H : Hp) (Q : VK) : Prop := tLc (iTup K (fun _ H Q => Q x H)) g tt te vs σ H Q
theorem lcT (h : tl σ H fun x H1 => xLcT K g tt te vs σ x H1 Q) : tLc (iTup K tl) g tt te vs σ H Q := h
theorem xlcT (f : Nat → Bool) (v : Nat → V) (hx : SqT K H l xs) (hz : xs.length ≤ 40000) (hw : ∀ x, wipe ((wipe σ vs).set j (some x)) vs = wipe σ vs)
    (ht : ∀ (i : Nat) (x : V) H1, Ex H H1 → xs[i]? = some x → EvT tt ((wipe σ vs).set j (some x)) H1 (f i)) (he : ∀ (i : Nat) (x : V) H1, Ex H H1 → xs[i]? = some x → f i = true → Ev te ((wipe σ vs).set j (some x)) H1 (v i))
    (q : ∀ p H', H p = none → Ex H H' → H' p = some (.lst (given xs.length f v)) → Q (.ref p) H') : xLcT K (gName j) tt te vs σ (.ref l) H Q :=
  ⟨l, rfl, ⟨xs, hx⟩, fun Dl hD => lc_tup (xs := xs) (Cw H f v Dl) ⟨hD, Ex.new hD, upd_same⟩ (fun i H' _ p => ex_t p.2.1 hx)
    (fun i x H' hi p => ⟨hw x, cw_turn p (by have := (List.getElem?_eq_some_iff.mp hi).1; omega) (ht i x H (Ex.refl H) hi) (fun hf => he i x H (Ex.refl H) hi hf)⟩) (fun H' p => q Dl H' p.1 p.2.1 p.2.2)⟩
end
end Rd
namespace Rd
open PySem PySem.Spec PyProof.Rows L2 Evl Dk
section
variable {H : Hp} {Q : VK} {K : PySem.W.Frag} {a : Addr} {xs : List V}
theorem isiSqT {T : String} {b : Bool} (h : SqT K H a xs) (k : kitB "tuple" T = some b) (q : Q (.bl b) H) : rIsi K [.ref a, .ty T] H Q := by
  have ty : TyX K H (.ref a) (.type "tuple") := by
    rcases h with (h | ⟨o, h⟩) | ⟨o, its, n, h1, h2, _⟩
    · exact .base (.tup h)
    · exact .fTuple h
    · exact .kTuple h1 h2
  exact ⟨.ref a, .ty T, .type "tuple", .type T, b, rfl, .ty T, ty, kit_ty k, q⟩
theorem isiSqL {T : String} {b : Bool} (h : SqL K H a xs) (k : kitB "list" T = some b) (q : Q (.bl b) H) : rIsi K [.ref a, .ty T] H Q := by
  have ty : TyX K H (.ref a) (.type "list") := by
    rcases h with (h | ⟨o, h⟩) | ⟨o, its, n, h1, h2, _⟩
    · exact .base (.lst h)
    · exact .base (.frz h)
    · exact .kList h1 h2
  exact ⟨.ref a, .ty T, .type "list", .type T, b, rfl, .ty T, ty, kit_ty k, q⟩
end
end Rd
namespace Rd
open PySem PySem.Spec PyProof.Rows L2 Evl Dk
section
variable {X : Cx} {σ : L2.St} {H : Hp} {Q : VK} {te : TE} {tl th : TO} {x : V} {i j z : Str} {n : Int} {c : Nat} {QO : Option Int → Hp → Prop}
/-! texts: an index, a slice, a part of another -/
def rInS : R2 := fun x y H Q => ∃ i j, x = .str i ∧ y = .str j ∧ Q (.bl (!(Builtin.Str.occurrences j i 0 j.length 1).isEmpty)) H
theorem op_inS : OpR X (compareOp .In) rInS := op_in_str
theorem inS {b : Bool} (h : (!(Builtin.Str.occurrences j i 0 j.length 1).isEmpty) = b) (q : Q (.bl b) H) : rInS (.str i) (.str j) H Q := ⟨i, j, rfl, rfl, by rw [h]; exact q⟩
def rNotInS : R2 := fun x y H Q => ∃ i j, x = .str i ∧ y = .str j ∧ Q (.bl (!(!(Builtin.Str.occurrences j i 0 j.length 1).isEmpty))) H
theorem op_notInS : OpR X (compareOp .NotIn) rNotInS := op_notIn_str
theorem ninS {b : Bool} (h : (!(Builtin.Str.occurrences j i 0 j.length 1).isEmpty) = b) (q : Q (.bl (!b)) H) : rNotInS (.str i) (.str j) H Q := ⟨i, j, rfl, rfl, by rw [h]; exact q⟩
theorem ixS (hz : z.length ≤ 100000) (ha : atI z.cps.toList n = some c) (q : Q (.str ⟨#[c]⟩) H) : rIxS (.str z) (.int n) H Q := ⟨z, n, c, rfl, rfl, sz_of hz, ha, q⟩
theorem slX {lo hi : Option Int} (hz : z.length ≤ 100000) (q : Q (.str (Txt.slice z lo hi)) H) : C8.rSlX (.str z) lo hi H Q := ⟨z, rfl, sz_of hz, q⟩
theorem sl {r : V → Option Int → Option Int → Hp → VK → Prop} (h : te σ H fun x H1 => tl σ H1 fun l H2 => th σ H2 fun u H3 => r x l u H3 Q) : tSl r te tl th σ H Q := h
theorem poN (q : QO none H) : tNoPart σ H QO := q
def xPart (x : V) (H1 : Hp) (Q : Option Int → Hp → Prop) : Prop := ∃ i, x = .int i ∧ Q (some i) H1
theorem poS (h : te σ H fun x H1 => xPart x H1 QO) : tPart te σ H QO := h
theorem xpart (q : QO (some n) H) : xPart (.int n) H QO := ⟨n, rfl, q⟩
end
end Rd

/-! exceptions: an own base's __init__, isinstance of an error that has a dict, an object made where its making may raise -/
namespace L2
open PySem PySem.Spec PyProof.Rows
section
variable {X : Cx} {e : Expr} {es : List Expr} {ta : TA} {p1 p2 pos : Pos} {x : Str}
/-- what the own base class at B says of its __init__ -/
structure OvB (K : PySem.W.Frag) (B : Addr) : Prop where
  ga : PySem.W.specialIn K (.ref B) "__getattribute__" = some (some (.builtin "type.__getattribute__"))
  rd : PySem.W.readsIn K B (.type "type") = true
  at_ : PySem.W.findCls K (.ref B) (.type "type") "__init__" = some (.val (.builtin "ValueError.__init__"))
/-- B.__init__(self, ..), B an own class over ValueError without an __init__ of its own -/
theorem pe_ovinit {pl : Sem Bool} {B : Addr} (hg : Gl X x) (hm : X.mg x = some (.ref B)) (T : OvB X.K B) (ha : PA X (e :: es) ta)
    (hdb : (x == ("__debug__" : Str)) = false := by decide)
    (hc : eval (.Call (.Attribute (.Name x p1) "__init__" p2) (e :: es) [] pos) X.env = (do
      let ov ← eval (.Name x p1) X.env
      standAt p2.atName
      let (f, first) ← holding [ov] (getMethod ov "__init__" pl)
      callWith pos f first (backTo pos (starEach (e :: es) X.env)) (backToKw pos (keywordEach [] X.env))) := by rfl)
    (he : starEach (e :: es) X.env = (false, eval e X.env) :: starEach es X.env := by rfl) (hpl : (backTo pos (starEach es X.env)).any (·.1) = false := by rfl) :
    PE X (.Call (.Attribute (.Name x p1) "__init__" p2) (e :: es) [] pos) (tVeI X.K ta) := by
  refine ⟨fun pins s σ H Q I h => ?_⟩
  refine PySem.W.methodCall_KW (ld_glob I hg hm ?_ hdb) hc
  refine PySem.W.method_cls I.kIn T.ga (PySem.W.cls_value I.kIn T.rd T.at_ (by decide +kernel) ?_)
  show wpAny _ _ (callWith pos (Value.builtin "ValueError.__init__") [] (backTo pos (starEach (e :: es) X.env)) []) _ _ _
  refine PyProof.Rows.callWith_method1 (thn (ha.run pos pins _ σ H _ (I.tok _) h) fun us s1 ⟨vs, H1, I1, r1, a, C, ws, ev, hl, T, ea, q⟩ => ?_) he hpl
  subst ev
  cases r1 with
  | @cons _ u0 _ ur ra rw' =>
    obtain rfl : u0 = Value.ref a := ra
    have hlen : ur.length ≤ sizeLine := by
      rw [← Paired.length rw', sizeLine_eq]
      omega
    exact oinit_ok T I1 ea hlen fun s' J => ⟨.non, H1, J, rfl, q⟩
end
/-- what isinstance and a field's reading ask of an own exception class -/
structure ExD (K : PySem.W.Frag) (C : Addr) : Prop where
  cl : (PySem.W.clsIn K C).isSome = true
  ga : PySem.W.findIn K (.ref C) "__getattribute__" = some (some (.builtin "BaseException.__getattribute__"))
  gg : PySem.W.findIn K (.ref C) "__getattr__" = some none
  ex : PySem.W.subIn K (.ref C) (.type "BaseException") = some true
  dc : PySem.W.hasDictIn K C = true
  at_ : PySem.W.findIn K (.ref C) "__class__" = some (some (.builtin "object.__class__"))
  gt : PySem.W.specialIn K (.builtin "object.__class__") "__get__" = some (some (.builtin "getset_descriptor.__get__"))
  tk : PySem.W.takesIn K (.builtin "object.__class__") = some true
  ob : PySem.W.mroIn K C (.type "object") = some true
theorem ExD.xf {K : PySem.W.Frag} {C : Addr} (T : ExD K C) : XfC K C := ⟨T.ga, T.gg, T.ex, T.dc⟩
/-- isinstance(e, c), e the exception of the class D that the suite holds, its dict at dd -/
def rIsD (K : PySem.W.Frag) (cls : Value) (d : Option Addr) (a : Addr) : List V → Hp → VK → Prop := fun xs H Q => ∃ (D : Addr) (dd : Addr) (fs : List (Str × V)) (c : V) (cv : Value) (b : Bool), xs = [.ref a, c] ∧ cls = .ref D ∧ d = some dd ∧ ExD K D ∧ H dd = some (.xd fs) ∧ ClsV c cv ∧ PySem.W.kitOne K (.ref D) cv = some b ∧ Q (.bl b) H
theorem call_isD {X : Cx} {a : Addr} {cls : Value} {d : Option Addr} {oe : Obj} {pn : List (Addr × Obj)} (hz : Zc cls d oe) (hf : ∃ vs, oe.data = .fields vs) : CallR (X.suite a ((a, oe) :: pn)) (.builtin "isinstance") (rIsD X.K cls d a) := by
  rintro pins s σ H xs us Q I r ⟨D, dd, fs, c, cv, b, rfl, rfl, rfl, T, hdd, hcv, e, q⟩
  obtain ⟨fv, hv⟩ := hf
  cases r with
  | cons rx r => cases r with
    | cons rt r =>
      cases r
      cases rx
      obtain rfl := hcv.eq rt
      have hx : ObjOk X.prog X.w H s.heap dd (.xd fs) := I.hok dd _ hdd
      obtain ⟨mA, hns, _⟩ := hx
      obtain ⟨od, ho, _⟩ := lookIn_ns hns
      have J : PySem.W.InstAt s.heap a oe D (some od) := ⟨(I.pin (a, oe) (List.mem_append.mpr (.inl List.mem_cons_self))).1, hz.1, by unfold PySem.W.notCls; rw [hv] <;> rfl, by rw [hz.2]; exact ho⟩
      refine PySem.W.kia_one (PySem.W.kitx_exc T.cl T.ga T.gg T.ex T.at_ T.gt T.tk T.ob) I.kIn J e (fun z => by cases z) fun t2 => ?_
      exact ⟨.bl b, H, I.kept (t' := t2) fun _ _ z => z, rfl, q⟩
section
variable {X : Cx} {CX : CXT} {k : Nat} {f C : Addr} {fd : FuncData} {ps : List Str} {sp : Sp} {E : L2.St → XK} {x m : Str} {p pos apos : Pos} {e o : Expr} {es : List Expr} {ta : TE} {t : TA}
theorem run_makeS {pins : List (Addr × Obj)} {σ : L2.St} {H : Hp} {s : Shared} {Q : VK} {us : List Value} {vs : List V} (M : Mk X.K C f) (F : FnOk X.prog X.w X.K X.mg X.base CX k f fd ps sp) (hr : Room (k + 1) X.A) (hb : Binds X.K fd ps [])
    (hx : PassesAt CX X σ (E σ)) (I : Inv X pins σ H s) (r : Vals vs us)
    (h : ∀ x dx, H x = none → H dx = none → dx ≠ x → sp (.ref x :: vs) (upd (upd H dx (.own x)) x (.ins C dx [])) (fun v H2 => v = .non ∧ Q (.ref x) H2) (E σ)) :
    wpAny (model X.prog X.w) X.A (call (.ref C) us) (EP X pins σ Q) X.xe s := by
  have hq := h (s.heap.objs.size + 1) s.heap.objs.size (I.hok.fresh (Nat.le_succ _)) (I.hok.fresh (Nat.le_refl _)) (Nat.ne_of_lt (Nat.lt_succ_self _))
  have I2 := Inv.made (C := C) I
  have r2 : Vals (V.ref (s.heap.objs.size + 1) :: vs) (Value.ref (s.heap.objs.size + 1) :: us) := .cons rfl r
  have hl : (Value.ref (s.heap.objs.size + 1) :: us).length = ps.length := by
    have e := r2.length
    rw [F.len _ _ _ _ hq] at e
    exact e.symm
  have b := hb _ (Value.ref (s.heap.objs.size + 1) :: us) I2.kIn (by rw [List.append_nil]; exact hl)
  rw [List.append_nil] at b
  refine wpAny_call (make_map (f := f) I.kIn M.makes M.init (beq_iff_eq.mp M.fn) (codeAny_mono (F.run _ X.stack _ _ ⟨Value.ref (s.heap.objs.size + 1) :: us, []⟩ (Value.ref (s.heap.objs.size + 1) :: us) _ _ (E σ) (hr.make C us [])
    (I2.env0.make C us []) b r2 hq) fun r s' hq' => ?_))
  cases r with
  | error e => exact hx pins _ _ e s' I2 hq'
  | ok fl =>
    cases fl with
    | ret u =>
      obtain ⟨v, H', I3, rv, ev, q3⟩ := I2.after hq'
      subst ev
      exact ⟨rv, ⟨V.ref (s.heap.objs.size + 1), H', I3, rfl, q3⟩⟩
    | next => exact False.elim hq'
    | brk => exact False.elim hq'
    | cont => exact False.elim hq'
/-- C(..) whose __init__ may raise: what is raised is wished for at the slots -/
def tMakeS (C : Addr) (sp : Sp) (E : L2.St → XK) (t : TA) : TE := fun σ H Q => t σ H fun vs H1 => ∀ x dx, H1 x = none → H1 dx = none → dx ≠ x → sp (.ref x :: vs) (upd (upd H1 dx (.own x)) x (.ins C dx [])) (fun v H2 => v = .non ∧ Q (.ref x) H2) (E σ)
theorem pe_makeS (M : Mk X.K C f) (F : FnOk X.prog X.w X.K X.mg X.base CX k f fd ps sp) (hr : Room (k + 1) X.A) (hg : Gl X x) (hm : X.mg x = some (.ref C)) (hb : Binds X.K fd ps []) (hx : ∀ σ, PassesAt CX X σ (E σ))
    (ha : PA X (e :: es) t) (hdb : (x == ("__debug__" : Str)) = false := by decide) (he : starEach (e :: es) X.env = (false, eval e X.env) :: starEach es X.env := by rfl) (hpl : (backTo pos (starEach es X.env)).any (·.1) = false := by rfl) :
    PE X (.Call (.Name x p) (e :: es) [] pos) (tMakeS C sp E t) := by
  refine ⟨fun pins s σ H Q I h => ?_⟩
  refine wpAny_Call_Name_kw (ld_glob I hg hm ?_ hdb)
  refine PySem.W.callWith_K (h₀ := X.base) I.ok.mod.kin M.kp (thn (ha.run pos pins s σ H _ I h) fun us s1 ⟨vs, H1, I1, r, q⟩ => ⟨I1.kIn, ?_⟩) he hpl
  exact run_makeS M F hr hb (hx σ) I1 r q
end
end L2
namespace Rd
open PySem PySem.Spec PyProof.Rows L2 Evl Dk
section
variable {σ : L2.St} {H : Hp} {Q : VK} {K : PySem.W.Frag} {D : Ends} {al : TA} {te : TE} {a C : Addr} {v x : V} {f : Str}
def xVeI (K : PySem.W.Frag) (vs : List V) (H1 : Hp) (Q : VK) : Prop := ∃ (a C : Addr) (ws : List V), vs = .ref a :: ws ∧ ws.length ≤ 1000 ∧ OexC K C ∧ H1 a = some (exo a C none) ∧ Q .non H1
theorem vei (h : al σ H fun vs H1 => xVeI K vs H1 Q) : tVeI K al σ H Q := h
theorem xvei {ws : List V} (T : OexC K C) (h : H a = some (exo a C none)) (n : Nat.ble ws.length 1000 = true) (q : Q .non H) : xVeI K (.ref a :: ws) H Q := ⟨a, C, ws, rfl, Nat.le_of_ble_eq_true n, T, h, q⟩
def xOst (K : PySem.W.Frag) (f : Str) (y x : V) (H2 : Hp) (N : Hp → Prop) : Prop := ∃ a C : Addr, x = .ref a ∧ OexC K C ∧ PySem.W.findIn K (.ref C) f = some none ∧
  ((H2 a = some (exo a C none) ∧ ∀ dx, H2 dx = none → dx ≠ a → N (upd (upd H2 dx (exd dx [(f, y)])) a (exo a C (some dx)))) ∨
    ∃ (dx : Addr) (fs : List (Str × V)), H2 a = some (exo a C (some dx)) ∧ H2 dx = some (exd dx fs) ∧ fs.length ≤ 900 ∧ N (upd H2 dx (exd dx ((f, y) :: fs))))
theorem ost {to : TE} (h : te σ H fun y H1 => to σ H1 fun x H2 => xOst K f y x H2 fun H3 => D.nx σ H3) : tOst K f to te D σ H := h
theorem xost {N : Hp → Prop} (T : OexC K C) (n : PySem.W.findIn K (.ref C) f = some none) (h : H a = some (exo a C none)) (q : ∀ dx, H dx = none → dx ≠ a → N (upd (upd H dx (exd dx [(f, v)])) a (exo a C (some dx)))) : xOst K f v (.ref a) H N := ⟨a, C, rfl, T, n, .inl ⟨h, q⟩⟩
/-- an exception with one field: its __init__'s promise, and the raise of it -/
def spEx1 (C : Addr) (f : Str) : Sp := fun vs H Q _ => ∃ (a : Addr) (s : Str), vs = [.ref a, .str s] ∧ s.length ≤ 1000 ∧ H a = some (exo a C none) ∧ ∀ dx, H dx = none → dx ≠ a → Q .non (upd (upd H dx (exd dx [(f, .str s)])) a (exo a C (some dx)))
def xMkO (C : Addr) (sp : Sp) (dvs vs : List V) (H1 : Hp) (Q : XK) : Prop := vs.length ≤ 1000 ∧ ∀ a, H1 a = none → sp (.ref a :: (vs ++ dvs)) (upd H1 a (exo a C none))
  (fun v H2 => v = .non ∧ ∃ (d : Addr) (fs : List (Str × V)), H2 a = some (exo a C (some d)) ∧ H2 d = some (exd d fs) ∧ H1 d = none ∧ Q (.ref C) (some d) (upd (del H2 a) d (.xd fs))) (fun _ _ _ => False)
theorem xmko1 {s : Str} {Q : XK} (hs : s.length ≤ 1000) (q : ∀ d H', H d = none → Ex H H' → H' d = some (.xd [(f, .str s)]) → Q (.ref C) (some d) H') : xMkO C (spEx1 C f) [] [.str s] H Q := by
  refine ⟨Nat.le_of_ble_eq_true rfl, fun a na => ⟨a, s, rfl, hs, upd_same, fun dx nx ne => ⟨rfl, dx, [(f, .str s)], upd_same, by rw [upd_ne ne]; exact upd_same, ?_, ?_⟩⟩⟩
  · rw [upd_ne ne] at nx; exact nx
  · have nx' : H dx = none := by rw [upd_ne ne] at nx; exact nx
    refine q dx _ nx' (fun b o hb => ?_) upd_same
    have h1 : b ≠ dx := ne_of_none hb nx'
    have h2 : b ≠ a := ne_of_none hb na
    rw [upd_ne h1, del_ne h2, upd_ne h2, upd_ne h1, upd_ne h2]
    exact hb
theorem makeS {C : Addr} {sp : Sp} {E : L2.St → XK} (h : al σ H fun vs H1 => xMk C (fun x H2 Q2 => sp (x :: vs) H2 Q2 (E σ)) H1 Q) : tMakeS C sp E al σ H Q := h
theorem callS {sp : Sp} {E : L2.St → XK} (h : al σ H fun vs H1 => sp vs H1 Q (E σ)) : tCallS sp E al σ H Q := h
end
end Rd
namespace Rd
open PySem PySem.Spec PyProof.Rows L2 Evl Dk
section
variable {H : Hp} {Q : VK} {K : PySem.W.Frag} {D dd a : Addr} {fs : List (Str × V)} {c : V} {cv : Value} {b : Bool}
theorem isD (T : ExD K D) (h : H dd = some (.xd fs)) (hc : ClsV c cv) (k : PySem.W.kitOne K (.ref D) cv = some b) (q : Q (.bl b) H) : rIsD K (.ref D) (some dd) a [.ref a, c] H Q := ⟨D, dd, fs, c, cv, b, rfl, rfl, rfl, T, h, hc, k, q⟩
/-- e.f, e the exception of the suite -/
def xXf (a : Addr) (cls : Value) (d : Option Addr) (C : Addr) (f : Str) (x : V) (H1 : Hp) (Q : VK) : Prop := x = .ref a ∧ cls = .ref C ∧ ∃ (dd : Addr) (fs : List (Str × V)) (v : V), d = some dd ∧ H1 dd = some (.xd fs) ∧ fs.lookup f = some v ∧ Q v H1
theorem xf {σ : L2.St} {te : TE} {cls : Value} {d : Option Addr} {C : Addr} {f : Str} (h : te σ H fun x H1 => xXf a cls d C f x H1 Q) : tXf a cls d C f te σ H Q := h
theorem xxf {C : Addr} {f : Str} {v : V} (h : H dd = some (.xd fs)) (l : fs.lookup f = some v) (q : Q v H) : xXf a (.ref C) (some dd) C f (.ref a) H Q := ⟨rfl, rfl, dd, fs, v, rfl, h, l, q⟩
end
end Rd
namespace Rd
open PySem PySem.Spec PyProof.Rows L2 Evl Dk
section
variable {X : Cx} {σ : L2.St} {H H1 : Hp} {Q : VK} {te : TE} {ts : List TE} {acc y : Str} {i : Int} {K : PySem.W.Frag} {a C : Addr} {f : Str}
/-! f-strings -/
def tJoin (ts : List TE) : TE := fun σ H Q => tJs ts Str.empty σ H fun out H1 => Q (.str out) H1
theorem pe_joinN {v1 v2 : Expr} {rest : List Expr} {pos : Pos} (h : PJ X (v1 :: v2 :: rest) ts) : PE X (.JoinedStr (v1 :: v2 :: rest) pos) (tJoin ts) := pe_joined h
theorem jn (h : tJs ts Str.empty σ H fun out H1 => Q (.str out) H1) : tJoin ts σ H Q := h
def xJs (ts : List TE) (acc : Str) (σ : L2.St) (x : V) (H1 : Hp) (R : Str → Hp → Prop) : Prop := ∃ y : Str, x = .str y ∧ (acc ++ y).length ≤ sizeLine ∧ tJs ts (acc ++ y) σ H1 R
theorem jsC {R : Str → Hp → Prop} (h : te σ H fun x H1 => xJs ts acc σ x H1 R) : tJs (te :: ts) acc σ H R := h
theorem jsN {R : Str → Hp → Prop} (q : R acc H) : tJs [] acc σ H R := q
theorem xjs {R : Str → Hp → Prop} (n : (acc ++ y).length ≤ 100000) (q : tJs ts (acc ++ y) σ H R) : xJs ts acc σ (.str y) H R := ⟨y, rfl, Dk.sz5 n, q⟩
def xFmt (x : V) (H1 : Hp) (Q : VK) : Prop := (∃ y : Str, x = .str y ∧ y.length ≤ sizeLine ∧ Q (.str y) H1) ∨ ∃ i : Int, x = .int i ∧ i.natAbs.log2 < 1920 ∧ Q (.str (toString i)) H1
theorem fmt (h : te σ H fun x H1 => xFmt x H1 Q) : tFmt te σ H Q := h
theorem xfmtS (n : y.length ≤ 100000) (q : Q (.str y) H) : xFmt (.str y) H Q := .inl ⟨y, rfl, Dk.sz5 n, q⟩
theorem xfmtI (n : i.natAbs.log2 < 1920) (q : Q (.str (toString i)) H) : xFmt (.int i) H Q := .inr ⟨i, rfl, n, q⟩
theorem len_app (a b : Str) : (a ++ b).length = a.length + b.length := by show (a.cps ++ b.cps).size = _; rw [Array.size_append]; rfl
theorem len_num : ∀ n : Nat, n < 64 → (toString (n : Int) : Str).length ≤ 10 ∧ (n : Int).natAbs.log2 < 1920 := by decide +kernel
/-- an exception with one small whole number -/
def spExI (C : Addr) (f : Str) : Sp := fun vs H Q _ => ∃ (a : Addr) (n : Nat), vs = [.ref a, .int n] ∧ n < 64 ∧ H a = some (exo a C none) ∧ ∀ dx, H dx = none → dx ≠ a → Q .non (upd (upd H dx (exd dx [(f, .int n)])) a (exo a C (some dx)))
theorem xmkoI {n : Nat} {Q : XK} (hs : n < 64) (q : ∀ d H', H d = none → Ex H H' → H' d = some (.xd [(f, .int n)]) → Q (.ref C) (some d) H') : xMkO C (spExI C f) [] [.int n] H Q := by
  refine ⟨Nat.le_of_ble_eq_true rfl, fun a na => ⟨a, n, rfl, hs, upd_same, fun dx nx ne => ⟨rfl, dx, [(f, .int n)], upd_same, by rw [upd_ne ne]; exact upd_same, ?_, ?_⟩⟩⟩
  · rw [upd_ne ne] at nx; exact nx
  · have nx' : H dx = none := by rw [upd_ne ne] at nx; exact nx
    refine q dx _ nx' (fun b o hb => ?_) upd_same
    have h1 : b ≠ dx := ne_of_none hb nx'
    have h2 : b ≠ a := ne_of_none hb na
    rw [upd_ne h1, del_ne h2, upd_ne h2, upd_ne h1, upd_ne h2]
    exact hb
end
end Rd
namespace Rd
open PySem PySem.Spec PyProof.Rows L2 Evl Dk
theorem mkO {σ : L2.St} {H : Hp} {C : Addr} {sp : Sp} {dvs : List V} {al : TA} {Q : XK} (h : al σ H fun vs H1 => xMkO C sp dvs vs H1 Q) : tMkO C sp dvs al σ H Q := h
end Rd

/-! objects that change: dicts, fields, what stays -/
namespace Rd
open PySem PySem.Spec PyProof.Rows L2 Evl Dk
section
variable {X : Cx} {σ : L2.St} {H H' : Hp} {Q : VK} {td ty tv te : TE} {x y v : V} {a : Addr} {kvs : List (Key × V)} {i : Int} {z : Str} {D : Ends} {K : PySem.W.Frag} {o : Option V} {b : Bool}
def xDGet (x y : V) (H : Hp) (Q : VK) : Prop := ∃ a v, x = .ref a ∧ DGet H a y (some v) ∧ Q v H
theorem dget (h : td σ H fun x H1 => ty σ H1 fun y H2 => xDGet x y H2 Q) : tDGet td ty σ H Q := h
theorem dgetI (h : H a = some (.dK kvs)) : DGet H a (.int i) (valV kvs (.inl i)) := DGet.k (k := .inl i) h
theorem dgetS (h : H a = some (.dK kvs)) : DGet H a (.str z) (valV kvs (.inr z)) := DGet.k (k := .inr z) h
theorem xdget (h : H a = some (.dK kvs)) (e : valV kvs (.inl i) = some v) (q : Q v H) : xDGet (.ref a) (.int i) H Q := ⟨a, v, rfl, by have g := dgetI (i := i) h; rw [e] at g; exact g, q⟩
theorem xdgetS (h : H a = some (.dK kvs)) (e : valV kvs (.inr z) = some v) (q : Q v H) : xDGet (.ref a) (.str z) H Q := ⟨a, v, rfl, by have g := dgetS (z := z) h; rw [e] at g; exact g, q⟩
def xIsD (x : V) (H : Hp) (P : Addr → Prop) : Prop := ∃ a, x = .ref a ∧ IsD H a ∧ P a
def xDO (a : Addr) (y : V) (H : Hp) (Q : VK) : Prop := ∃ o, DGet H a y o ∧ Q (o.getD .non) H
theorem dget1 (h : td σ H fun x H1 => xIsD x H1 fun a => ty σ H1 fun y H2 => xDO a y H2 Q) : tDGet1 td ty σ H Q := h
theorem xisd {P : Addr → Prop} (h : H a = some (.dK kvs)) (p : P a) : xIsD (.ref a) H P := ⟨a, rfl, .inl ⟨kvs, .inl h⟩, p⟩
theorem xdo (h : H a = some (.dK kvs)) (e : valV kvs (.inl i) = o) (q : Q (o.getD .non) H) : xDO a (.int i) H Q := ⟨_, dgetI h, by rw [e]; exact q⟩
def xDIn (x y : V) (H : Hp) (Q : VK) : Prop := ∃ a o, x = .ref a ∧ DGet H a y o ∧ Q (.bl o.isSome) H
theorem din (h : ty σ H fun y H1 => td σ H1 fun x H2 => xDIn x y H2 Q) : tDIn ty td σ H Q := h
theorem xdin (h : H a = some (.dK kvs)) (e : (valV kvs (.inl i)).isSome = b) (q : Q (.bl b) H) : xDIn (.ref a) (.int i) H Q := ⟨a, _, rfl, dgetI h, by rw [e]; exact q⟩
def xDPut (x y v : V) (H : Hp) (N : Hp → Prop) : Prop := ∃ a H4, x = .ref a ∧ DPut H a y v H4 ∧ N H4
theorem dput (h : tv σ H fun v H1 => td σ H1 fun x H2 => ty σ H2 fun y H3 => xDPut x y v H3 fun H4 => D.nx σ H4) : sDPut td ty tv D σ H := h
theorem small {n : Nat} (h : n ≤ 10000) : n < sizeLine := Nat.lt_of_le_of_lt h (by decide)
theorem xdput {N : Hp → Prop} (h : H a = some (.dK kvs)) (l : kvs.length ≤ 10000) (q : N (upd H a (.dK (putK kvs (.inl i) v)))) : xDPut (.ref a) (.int i) v H N := ⟨a, _, rfl, DPut.k (k := .inl i) h (small l), q⟩
theorem dnewE (q : ∀ p H', H p = none → Ex H H' → H' p = some (.dK []) → Q (.ref p) H') : tDNewK σ H Q := fun p hp => q p _ hp (Ex.new hp) upd_same
theorem dnew (q : ∀ p, H p = none → Q (.ref p) (upd H p (.dK []))) : tDNewK σ H Q := q
def rLenD : List V → Hp → VK → Prop := fun xs H Q => ∃ a kvs, xs = [.ref a] ∧ H a = some (.dK kvs) ∧ Q (.int kvs.length) H
theorem c_lenD : CallR X (.builtin "len") rLenD := call_lenD
theorem lenD (h : H a = some (.dK kvs)) (q : Q (.int kvs.length) H) : rLenD [.ref a] H Q := ⟨a, kvs, rfl, h, q⟩
theorem isB {a b : Bool} (q : Q (.bl (decide (a = b))) H) : rIsB (.bl a) (.bl b) H Q := ⟨a, b, rfl, rfl, q⟩
theorem notB {a b : Bool} (q : Q (.bl (!decide (a = b))) H) : rNotB (.bl a) (.bl b) H Q := ⟨a, b, rfl, rfl, q⟩
def xFA (K : PySem.W.Frag) (f : Str) (x : V) (H : Hp) (N : V → Addr → Addr → Prop) : Prop := ∃ (a C : Addr) (dx : Addr) (fs : List (Str × V)) (v : V), x = .ref a ∧ H a = some (.ins C dx fs) ∧ Cls K C ∧ NoAttr K C f ∧ fs.lookup f = some v ∧ N v a C
def xFB (f : Str) (a C : Addr) (z : V) (H : Hp) (N : Hp → Prop) : Prop := ∃ dx' fs', H a = some (.ins C dx' fs') ∧ fs'.length < 1000 ∧ N (upd H a (.ins C dx' (putF f z fs')))
theorem fldaug {rd : V → V → Hp → VK → Prop} {f : Str} (h : te σ H fun x H1 => xFA K f x H1 fun v a C => tv σ H1 fun y H2 => rd v y H2 fun z H3 => xFB f a C z H3 fun H4 => D.nx σ H4) : sFldAug K te tv rd f D σ H := h
theorem xfa {N : V → Addr → Addr → Prop} {f : Str} {C dx : Addr} {fs : List (Str × V)} (h : H a = some (.ins C dx fs)) (c : Cls K C) (n : NoAttr K C f) (l : fs.lookup f = some v) (q : N v a C) : xFA K f (.ref a) H N := ⟨a, C, dx, fs, v, rfl, h, c, n, l, q⟩
theorem xfb {N : Hp → Prop} {f : Str} {C dx : Addr} {fs : List (Str × V)} (h : H a = some (.ins C dx fs)) (l : fs.length < 1000) (q : N (upd H a (.ins C dx (putF f v fs)))) : xFB f a C v H N := ⟨dx, fs, h, l, q⟩
theorem radd {j : Int} (q : Q (.int (i + j)) H) : rAdd (.int i) (.int j) H Q := ⟨i, j, rfl, rfl, q⟩
theorem whl {c : TT} {tb : TS} (h : ∃ W : Nat → L2.St → Hp → Prop, (∃ m, W m σ H) ∧ ∀ m σ H, W m σ H →
  c σ H fun b H1 => if b = true then ∃ N : L2.St → Hp → Prop, (∀ σ' H', N σ' H' → ∃ m', m' < m ∧ W m' σ' H') ∧ tb { D with nx := N, ct := N, bk := D.nx } σ H1 else D.nx σ H1) : tWhile c tb D σ H := h
theorem pe_or {e : Expr} {t1 t2 : TE} (h1 : PE X e t1) (h2 : PE X e t2) : PE X e (fun σ H Q => t1 σ H Q ∨ t2 σ H Q) := ⟨fun pins s σ H Q I h => h.elim (h1.run pins s σ H Q I) (h2.run pins s σ H Q I)⟩
end
end Rd

/-! dicts whose keys are tuples of ints, truth values and texts -/
namespace Nk
open PySem PySem.Spec PyProof.Rows L2
def bkIs : Key → Value → Bool
  | .inl k, .bool b => decide (k = PpSet.b2 b)
  | k, v => keyIs k v
theorem bk_shape {k : Key} {v : Value} (h : bkIs k v = true) : (∃ i t, k = Sum.inl i ∧ v = Value.int i t) ∨ (∃ x t, k = Sum.inr x ∧ v = Value.str x t) ∨ ∃ b, k = Sum.inl (PpSet.b2 b) ∧ v = Value.bool b := by
  cases k with
  | inl i =>
    by_cases hb : ∃ b, v = Value.bool b
    · obtain ⟨b, rfl⟩ := hb
      exact .inr (.inr ⟨b, by rw [show i = PpSet.b2 b from of_decide_eq_true h], rfl⟩)
    · have h2 : keyIs (.inl i) v = true := by
        cases v <;> first | exact h | exact absurd ⟨_, rfl⟩ hb
      rcases keyIs_shape h2 with h | h
      · exact .inl h
      · exact .inr (.inl h)
  | inr x =>
    have h2 : keyIs (.inr x) v = true := by cases v <;> exact h
    rcases keyIs_shape h2 with h | h
    · exact .inl h
    · exact .inr (.inl h)
theorem bk_bool (b : Bool) : bkIs (.inl (PpSet.b2 b)) (.bool b) = true := decide_eq_true rfl
theorem bk_int (i : Int) (t : Tok) : bkIs (.inl i) (.int i t) = true := keyIs_int i t
theorem bk_str (x : Str) (t : Tok) : bkIs (.inr x) (.str x t) = true := keyIs_str x t
theorem b2_inj {a b : Bool} (h : PpSet.b2 a = PpSet.b2 b) : a = b := by
  cases a <;> cases b <;> first | rfl | exact absurd h (by decide)
def bkKind (prog : Program) (w : World) : PySem.KeyKind prog w Key where
  is := bkIs
  hash := keyH w
  inj := fun v a b ha hb => by
    rcases bk_shape ha with ⟨i, t, rfl, rfl⟩ | ⟨x, t, rfl, rfl⟩ | ⟨c, rfl, rfl⟩
    · rcases bk_shape hb with ⟨j, u, rfl, e⟩ | ⟨y, u, rfl, e⟩ | ⟨d, rfl, e⟩
      · injection e with e1 _; rw [e1]
      · exact nomatch e
      · exact nomatch e
    · rcases bk_shape hb with ⟨j, u, rfl, e⟩ | ⟨y, u, rfl, e⟩ | ⟨d, rfl, e⟩
      · exact nomatch e
      · injection e with e1 _; rw [e1]
      · exact nomatch e
    · rcases bk_shape hb with ⟨j, u, rfl, e⟩ | ⟨y, u, rfl, e⟩ | ⟨d, rfl, e⟩
      · exact nomatch e
      · exact nomatch e
      · injection e with e1; rw [e1]
  byValue := fun k v h => by
    rcases bk_shape h with ⟨i, t, rfl, rfl⟩ | ⟨x, t, rfl, rfl⟩ | ⟨c, rfl, rfl⟩ <;> rfl
  pyHash := fun hv h => by
    rcases bk_shape hv with ⟨i, t, rfl, rfl⟩ | ⟨x, t, rfl, rfl⟩ | ⟨c, rfl, rfl⟩
    · exact wpAny_pyHash_int h
    · exact wpAny_pyHash_str h
    · exact PpSet.pyHash_bool h
  eqBool := fun hu hv h => by
    rcases bk_shape hu with ⟨i, t, rfl, rfl⟩ | ⟨x, t, rfl, rfl⟩ | ⟨c, rfl, rfl⟩
    · rcases bk_shape hv with ⟨j, u, rfl, rfl⟩ | ⟨y, u, rfl, rfl⟩ | ⟨d, rfl, rfl⟩
      · rw [key_ll] at h; exact wpAny_eqBool_int h
      · rw [key_lr] at h; exact SeqAt.EqAt.int_str i t y u _ _ _ _ h
      · rw [key_ll] at h; exact SeqAt.EqAt.int_bool i t d _ _ _ _ h
    · rcases bk_shape hv with ⟨j, u, rfl, rfl⟩ | ⟨y, u, rfl, rfl⟩ | ⟨d, rfl, rfl⟩
      · rw [key_rl] at h; exact SeqAt.EqAt.str_int x t j u _ _ _ _ h
      · rw [key_rr] at h; exact wpAny_eqBool_str h
      · rw [key_rl] at h; exact SeqAt.EqAt.str_bool x t d _ _ _ _ h
    · rcases bk_shape hv with ⟨j, u, rfl, rfl⟩ | ⟨y, u, rfl, rfl⟩ | ⟨d, rfl, rfl⟩
      · rw [key_ll] at h; exact SeqAt.EqAt.bool_int c j u _ _ _ _ h
      · rw [key_lr] at h; exact SeqAt.EqAt.bool_str c y u _ _ _ _ h
      · refine SeqAt.EqAt.bool_bool c d _ _ _ _ ?_
        have e : decide ((Sum.inl (PpSet.b2 c) : Key) = Sum.inl (PpSet.b2 d)) = (c == d) := by
          rw [PpSet.beq_dec]
          exact decide_eq_decide.mpr ⟨fun z => b2_inj (Sum.inl.inj z), fun z => by rw [z]⟩
        rw [e] at h; exact h
  «strs» := fun k x t v h => by
    rcases bk_shape h with ⟨i, u, rfl, e⟩ | ⟨y, u, rfl, e⟩ | ⟨d, rfl, e⟩
    · exact nomatch e
    · injection e with e1 _
      subst e1
      cases v <;> rfl
    · exact nomatch e
def kOf : V → Option Key
  | .int i => some (.inl i)
  | .bl b => some (.inl (PpSet.b2 b))
  | .str x => some (.inr x)
  | _ => none
theorem bk_of {P : Program} {w : World} {v : V} {u : Value} {k : Key} (r : RelV v u) (e : kOf v = some k) : (bkKind P w).is k u = true := by
  cases v with
  | int i => obtain ⟨t, q⟩ := (show ∃ t, u = Value.int i t from r); subst q; cases e; exact bk_int i t
  | bl b => cases (show u = Value.bool b from r); cases e; exact bk_bool b
  | str x => obtain ⟨t, q⟩ := (show ∃ t, u = Value.str x t from r); subst q; cases e; exact bk_str x t
  | _ => cases e
theorem items_bk {P : Program} {w : World} : ∀ {xs : List V} {us : List Value} {ks : List Key}, Vals xs us → xs.map kOf = ks.map some → ItemsAre (bkKind P w) ks us
  | [], us, ks, r, e => by
    cases r
    cases ks with
    | nil => exact .nil
    | cons k ks => cases e
  | x :: xs, us, ks, r, e => by
    cases r with
    | cons h t =>
      cases ks with
      | nil => cases e
      | cons k ks =>
        rw [List.map_cons, List.map_cons] at e
        injection e with e1 e2
        exact .cons (bk_of h e1) (items_bk t e2)
abbrev Row3 := List Key × Addr × V
def valN (ps : List Row3) (k : List Key) : Option V := (ps.find? fun p => decide (p.1 = k)).map (·.2.2)
abbrev RelN : List Row3 → List (List Key × Addr × Value) → Prop := Paired fun p q => p.1 = q.1 ∧ p.2.1 = q.2.1 ∧ RelV p.2.2 q.2.2
/-- the dict's table, told of its own object -/
def TabN (P : Program) (w : World) (a : Addr) (ps : List Row3) (h : Heap) : Prop := ps.length ≤ 100000 ∧ (a == sysModules) = false ∧ ∃ xs : List (List Key × Addr × Value), RelN ps xs ∧
  ∃ o es ep, h.get? a = some o ∧ o.ExactDict ∧ o.data = .dict es ep ∧ es.toList = xs.map (entryOfKey (tupleKind (bkKind P w))) ∧ (xs.map (·.1)).Nodup
def DN (P : Program) (w : World) (a : Addr) (ps : List Row3) : HO := .ext (TabN P w a ps)
theorem dn_ok {P : Program} {w : World} {H : Hp} {h : Heap} {a : Addr} {ps : List Row3} (t : TabN P w a ps h) : ObjOk P w H h a (DN P w a ps) := by
  obtain ⟨z, hd, xs, r, o, es, ep, h1, h2⟩ := id t
  refine ⟨t, ⟨o, h1⟩, fun g1 g2 ⟨z', hd', xs', r', o', es', ep', q1, q2⟩ k => ⟨z', hd', xs', r', o', es', ep', k _ q1, q2⟩⟩
theorem RelN.val {ps : List Row3} {xs : List (List Key × Addr × Value)} (r : RelN ps xs) (k : List Key) : RelO (valN ps k) ((atKey xs k).map (·.2)) := by
  unfold RelN at r
  induction r with
  | nil => exact True.intro
  | @cons p q ps qs h t ih =>
    obtain ⟨h1, _, h2⟩ := h
    by_cases e : p.1 = k
    · have e' : q.1 = k := h1.symm.trans e
      have a : valN (p :: ps) k = some p.2.2 := by simp [valN, List.find?_cons, e]
      have b : atKey (q :: qs) k = some q.2 := by simp [atKey, List.find?_cons, e']
      rw [a, b]; exact h2
    · have e' : ¬ q.1 = k := fun z => e (h1.trans z)
      have a : valN (p :: ps) k = valN ps k := by simp [valN, List.find?_cons, e]
      have b : atKey (q :: qs) k = atKey qs k := by simp [atKey, List.find?_cons, e']
      rw [a, b]; exact ih
/-- the keys stand as tuples -/
def KeysIn (K : PySem.W.Frag) (H : Hp) (ps : List Row3) : Prop := ∀ p ∈ ps, ∃ xs, SqT K H p.2.1 xs ∧ xs.map kOf = p.1.map some
theorem KeysIn.nil {K : PySem.W.Frag} {H : Hp} : KeysIn K H [] := fun p hp => by cases hp
theorem KeysIn.snoc {K : PySem.W.Frag} {H : Hp} {ps : List Row3} {k : List Key} {b : Addr} {v : V} {xs : List V} (h : KeysIn K H ps) (hb : SqT K H b xs) (e : xs.map kOf = k.map some) : KeysIn K H (ps ++ [(k, b, v)]) := fun p hp => by
  rcases List.mem_append.mp hp with hp | hp
  · exact h p hp
  · cases List.mem_singleton.mp hp; exact ⟨xs, hb, e⟩
theorem KeysIn.mono {K : PySem.W.Frag} {H H' : Hp} {ps : List Row3} (h : KeysIn K H ps) (e : Evl.Ex H H') : KeysIn K H' ps := fun p hp => by
  obtain ⟨xs, h1, h2⟩ := h p hp
  exact ⟨xs, Evl.ex_t e h1, h2⟩
theorem valN_snoc {ps : List Row3} {k : List Key} {b : Addr} {v : V} (j : List Key) (h : valN ps k = none) : valN (ps ++ [(k, b, v)]) j = if j = k then some v else valN ps j := by
  unfold valN at *
  rw [List.find?_append]
  by_cases e : j = k
  · subst e
    rw [if_pos rfl]
    have h' : ps.find? (fun p => decide (p.1 = j)) = none := by
      cases q : ps.find? (fun p => decide (p.1 = j)) with
      | none => rfl
      | some x => rw [q] at h; cases h
    rw [h']
    simp
  · rw [if_neg e]
    have e' : ¬ k = j := fun z => e z.symm
    cases q : ps.find? (fun p => decide (p.1 = j)) with
    | none => simp [e']
    | some x => simp
section
variable {X : Cx} {pins : List (Addr × Obj)} {σ : L2.St} {H : Hp} {s : Shared} {a b : Addr} {ps : List Row3} {xs : List V} {k : List Key} {v : V} {u r : Value} {A : Around} {E : Value → Shared → Prop}
theorem key_bk (I : Inv X pins σ H s) (h : SqT X.K H b xs) (e : xs.map kOf = k.map some) : (tupleKind (bkKind X.prog X.w)).is s.heap k b := by
  obtain ⟨its, r, ⟨o, h1, h2, n, h3⟩, _⟩ := I.tuple h
  exact ⟨o, its.toArray, n, h1, h2, h3, by simpa using items_bk r e⟩
theorem tabH (I : Inv X pins σ H s) (ha : H a = some (DN X.prog X.w a ps)) (hk : KeysIn X.K H ps) : ps.length ≤ 100000 ∧ (a == sysModules) = false ∧ ∃ zs, RelN ps zs ∧ s.heap.DictOfH (tupleKind (bkKind X.prog X.w)) a zs := by
  have x : ObjOk X.prog X.w H s.heap a (.ext (TabN X.prog X.w a ps)) := I.hok a _ ha
  obtain ⟨⟨z, hd, zs, rel, o, es, ep, h1, h2, h3, h4, h5⟩, _, _⟩ := x
  refine ⟨z, hd, zs, rel, o, es, ep, h1, h2, h3, h4, fun q hq => ?_, h5⟩
  have all : ∀ {l : List Row3} {m : List (List Key × Addr × Value)}, RelN l m → (∀ p ∈ l, ∃ xs, SqT X.K H p.2.1 xs ∧ xs.map kOf = p.1.map some) → ∀ q ∈ m, (tupleKind (bkKind X.prog X.w)).is s.heap q.1 q.2.1 := by
    intro l m rl
    induction rl with
    | nil => intro _ q hq; exact nomatch hq
    | @cons p q ps qs hq t ih =>
      intro hl q' hq'
      rcases List.mem_cons.mp hq' with e | hq'
      · subst e
        obtain ⟨xs, h1, h2⟩ := hl p List.mem_cons_self
        rw [← hq.1, ← hq.2.1]
        exact key_bk I h1 h2
      · exact ih (fun p hp => hl p (List.mem_cons_of_mem _ hp)) q' hq'
  exact all rel hk q hq
theorem n_in {Q : Value → Shared → Prop} (hu : A.units + 1 < cLine) (I : Inv X pins σ H s) (ha : H a = some (DN X.prog X.w a ps)) (hk : KeysIn X.K H ps) (hb : SqT X.K H b xs) (e : xs.map kOf = k.map some) (h : ∀ s', Inv X pins σ H s' → Q (.bool (valN ps k).isSome) s') :
    wpAny (model X.prog X.w) A (compareOp .In (.ref b) (.ref a)) Q E s := by
  obtain ⟨z, hd, zs, rel, dd⟩ := tabH I ha hk
  refine wpAny_in_heap (tupleKind_room_in1 hu) (key_bk I hb e) hd dd ?_
  have q := (rel.val k).isSome_eq
  rw [Option.isSome_map] at q
  rw [← q]
  exact h _ (I.tok _)
theorem n_notIn {Q : Value → Shared → Prop} (hu : A.units + 1 < cLine) (I : Inv X pins σ H s) (ha : H a = some (DN X.prog X.w a ps)) (hk : KeysIn X.K H ps) (hb : SqT X.K H b xs) (e : xs.map kOf = k.map some) (h : ∀ s', Inv X pins σ H s' → Q (.bool (!(valN ps k).isSome)) s') :
    wpAny (model X.prog X.w) A (compareOp .NotIn (.ref b) (.ref a)) Q E s := by
  obtain ⟨z, hd, zs, rel, dd⟩ := tabH I ha hk
  refine wpAny_notIn_heap (tupleKind_room_in1 hu) (key_bk I hb e) hd dd ?_
  have q := (rel.val k).isSome_eq
  rw [Option.isSome_map] at q
  rw [← q]
  exact h _ (I.tok _)
theorem n_getItem {Q : Value → Shared → Prop} (hu : A.units + 1 < cLine) (I : Inv X pins σ H s) (ha : H a = some (DN X.prog X.w a ps)) (hk : KeysIn X.K H ps) (hb : SqT X.K H b xs) (e : xs.map kOf = k.map some) (hv : valN ps k = some v) (h : ∀ w' s', Inv X pins σ H s' → RelV v w' → Q w' s') :
    wpAny (model X.prog X.w) A (getItem (.ref a) (.ref b)) Q E s := by
  obtain ⟨z, hd, zs, rel, dd⟩ := tabH I ha hk
  obtain ⟨w', hw, rw'⟩ := RelO.some_of (v := v) (o := (atKey zs k).map (·.2)) (by rw [← hv]; exact rel.val k)
  obtain ⟨p, hp, hp2⟩ := Option.map_eq_some_iff.mp hw
  refine wpAny_getItem_heap (tupleKind_room_in1 hu) (key_bk I hb e) dd hp ?_
  rw [hp2]
  exact h w' _ (I.tok _) rw'
theorem tab_new {h' : Heap} {zs : List (List Key × Addr × Value)} (z : ps.length < 100000) (hd : (a == sysModules) = false) (rel : RelN ps zs) (hv : valN ps k = none) (rv : RelV v r) (dd : h'.DictOfH (tupleKind (bkKind X.prog X.w)) a (storedH zs k b r)) : TabN X.prog X.w a (ps ++ [(k, b, v)]) h' := by
  have hn : atKey zs k = none := by
    have q := rel.val k
    rw [hv] at q
    cases e : atKey zs k with
    | none => rfl
    | some x => rw [e] at q; exact q.elim
  rw [storedH_new hn] at dd
  obtain ⟨o, es, ep, h1, h2, h3, h4, _, h5⟩ := dd
  exact ⟨by rw [List.length_append]; exact z, hd, _, Paired.snoc rel ⟨rfl, rfl, rv⟩, o, es, ep, h1, h2, h3, h4, h5⟩
theorem rel_len {ps : List Row3} {zs : List (List Key × Addr × Value)} (r : RelN ps zs) : ps.length = zs.length := Paired.length r
theorem n_setItem {Q : Unit → Shared → Prop} (hu : A.units + 1 < cLine) (I : Inv X pins σ H s) (ha : H a = some (DN X.prog X.w a ps)) (hk : KeysIn X.K H ps) (hb : SqT X.K H b xs) (e : xs.map kOf = k.map some) (hv : valN ps k = none) (hz : ps.length < 100000) (rv : RelV v r)
    (h : ∀ s', Inv X pins σ (upd H a (DN X.prog X.w a (ps ++ [(k, b, v)]))) s' → Q () s') : wpAny (model X.prog X.w) A (setItem (.ref a) (.ref b) r) Q E s := by
  obtain ⟨z, hd, zs, rel, dd⟩ := tabH I ha hk
  have hl := rel_len rel
  refine wpAny_setItem_heap (hsz := Dk.sz5 (by omega)) (tupleKind_room_in1 hu) (key_bk I hb e) dd fun h' dd' hs => h _ ?_
  have he : ∃ q, h'.get? a = some q := by
    obtain ⟨q, _, _, hq, _⟩ := dd'
    exact ⟨q, hq⟩
  exact d_write I (by rw [ha]; exact True.intro) hs he (dn_ok (tab_new hz hd rel hv rv dd'))
end
/-- what the dict at a holds at the key y -/
def NGet (P : Program) (w : World) (K : PySem.W.Frag) (H : Hp) (a : Addr) (y : V) (o : Option V) : Prop := ∃ (ps : List Row3) (b : Addr) (xs : List V) (k : List Key), H a = some (DN P w a ps) ∧ KeysIn K H ps ∧ y = .ref b ∧ SqT K H b xs ∧ xs.map kOf = k.map some ∧ o = valN ps k
/-- a new key -/
def NPut (P : Program) (w : World) (K : PySem.W.Frag) (H : Hp) (a : Addr) (y v : V) (H' : Hp) : Prop := ∃ (ps : List Row3) (b : Addr) (xs : List V) (k : List Key), H a = some (DN P w a ps) ∧ KeysIn K H ps ∧ y = .ref b ∧ SqT K H b xs ∧ xs.map kOf = k.map some ∧ valN ps k = none ∧ ps.length < 100000 ∧ H' = upd H a (DN P w a (ps ++ [(k, b, v)]))
def xNGet (P : Program) (w : World) (K : PySem.W.Frag) (x y : V) (H : Hp) (Q : VK) : Prop := ∃ a v, x = .ref a ∧ NGet P w K H a y (some v) ∧ Q v H
def xNIn (P : Program) (w : World) (K : PySem.W.Frag) (neg : Bool) (x y : V) (H : Hp) (Q : VK) : Prop := ∃ a o, x = .ref a ∧ NGet P w K H a y o ∧ Q (.bl (if neg then !o.isSome else o.isSome)) H
def xNPut (P : Program) (w : World) (K : PySem.W.Frag) (x y v : V) (H : Hp) (N : Hp → Prop) : Prop := ∃ a H4, x = .ref a ∧ NPut P w K H a y v H4 ∧ N H4
def tNGet (P : Program) (w : World) (K : PySem.W.Frag) (td ty : TE) : TE := fun σ H Q => td σ H fun x H1 => ty σ H1 fun y H2 => xNGet P w K x y H2 Q
def tNIn (P : Program) (w : World) (K : PySem.W.Frag) (neg : Bool) (ty td : TE) : TE := fun σ H Q => ty σ H fun y H1 => td σ H1 fun x H2 => xNIn P w K neg x y H2 Q
def sNPut (P : Program) (w : World) (K : PySem.W.Frag) (td ty tv : TE) : TS := fun D σ H => tv σ H fun v H1 => td σ H1 fun x H2 => ty σ H2 fun y H3 => xNPut P w K x y v H3 fun H4 => D.nx σ H4
def tNNew (P : Program) (w : World) : TE := fun _ H Q => ∀ p, H p = none → Q (.ref p) (upd H p (DN P w p []))
def xNDisp (P : Program) (w : World) (K : PySem.W.Frag) (p : Addr) (x y : V) (H2 : Hp) (Q : VK) : Prop := H2 p = some (DN P w p []) ∧ ∃ (b : Addr) (xs : List V) (k : List Key), x = .ref b ∧ SqT K H2 b xs ∧ xs.map kOf = k.map some ∧ Q (.ref p) (upd H2 p (DN P w p [(k, b, y)]))
def tNDisp (P : Program) (w : World) (K : PySem.W.Frag) (tk tv : TE) : TE := fun σ H Q => ∀ p, H p = none → tk σ (upd H p (DN P w p [])) fun x H1 => tv σ H1 fun y H2 => xNDisp P w K p x y H2 Q
section
variable {X : Cx} {o i value kx : Expr} {pos pos' : Pos} {td ty tv tk : TE}
theorem pe_nget (hu : X.A.units + 1 < cLine) (ho : PE X o td) (hi : PE X i ty) (hs : NoSl i) : PE X (.Subscript o i pos) (tNGet X.prog X.w X.K td ty) := by
  refine ⟨fun pins s σ H Q I h => ?_⟩
  refine subD_of PySem.F.slot_dict_getitem.lookup hs (thn (ho.run pins s σ H _ I h) fun u s1 ⟨x, H1, I1, rx, q1⟩ => thn (hi.run pins s1 σ H1 _ I1 q1) fun iv s2 hq => ?_)
  obtain ⟨y, H2, I2, ry, a, v, ex, ⟨ps, b, xs, k, g1, g2, g3, g4, g5, g6⟩, q2⟩ := hq
  subst ex
  subst g3
  obtain rfl : u = Value.ref a := rx
  obtain rfl : iv = Value.ref b := ry
  obtain ⟨_, _, zs, _, dd⟩ := tabH I2 g1 g2
  exact ⟨dd.typeIs, n_getItem hu I2 g1 g2 g4 g5 g6.symm fun w' s3 I3 rw' => ⟨v, H2, I3, rw', q2⟩⟩
theorem pc_nin (hu : X.A.units + 1 < cLine) (hi : PE X i ty) (ho : PE X o td) : PC X .In i o (tNIn X.prog X.w X.K false ty td) := by
  refine ⟨fun pins s σ H Q I h => ?_⟩
  refine thn (hi.run pins s σ H _ I h) fun iv s1 ⟨y, H1, I1, ry, q1⟩ => thn (ho.run pins s1 σ H1 _ I1 q1) fun u s2 hq => ?_
  obtain ⟨x, H2, I2, rx, a, ov, ex, ⟨ps, b, xs, k, g1, g2, g3, g4, g5, g6⟩, q2⟩ := hq
  subst ex
  subst g3
  subst g6
  obtain rfl : u = Value.ref a := rx
  obtain rfl : iv = Value.ref b := ry
  exact n_in hu I2 g1 g2 g4 g5 fun s3 I3 => ⟨.bl (valN ps k).isSome, H2, I3, rfl, q2⟩
theorem pc_nnotin (hu : X.A.units + 1 < cLine) (hi : PE X i ty) (ho : PE X o td) : PC X .NotIn i o (tNIn X.prog X.w X.K true ty td) := by
  refine ⟨fun pins s σ H Q I h => ?_⟩
  refine thn (hi.run pins s σ H _ I h) fun iv s1 ⟨y, H1, I1, ry, q1⟩ => thn (ho.run pins s1 σ H1 _ I1 q1) fun u s2 hq => ?_
  obtain ⟨x, H2, I2, rx, a, ov, ex, ⟨ps, b, xs, k, g1, g2, g3, g4, g5, g6⟩, q2⟩ := hq
  subst ex
  subst g3
  subst g6
  obtain rfl : u = Value.ref a := rx
  obtain rfl : iv = Value.ref b := ry
  exact n_notIn hu I2 g1 g2 g4 g5 fun s3 I3 => ⟨.bl (!(valN ps k).isSome), H2, I3, rfl, q2⟩
theorem ps_nput (hu : X.A.units + 1 < cLine) (ho : PE X o td) (hi : PE X i ty) (hv : PE X value tv) (hs : swapsWith value (some (.Subscript o i pos')) pos.line X.env = pure false) :
    PS X (.Assign [.Subscript o i pos'] value pos) (sNPut X.prog X.w X.K td ty tv) := by
  refine ⟨fun pins s σ H D I h => ?_⟩
  refine wpAny_Assign_Subscript (thn (hv.run pins s σ H _ I h) fun r s1 ⟨v, H1, I1, rv, q1⟩ => thn (ho.run pins s1 σ H1 _ I1 q1) fun u s2 ⟨x, H2, I2, rx, q2⟩ => thn (hi.run pins s2 σ H2 _ I2 q2) fun iv s3 hq => ?_) hs
  obtain ⟨y, H3, I3, ry, a, H4, ex, ⟨ps, b, xs, k, g1, g2, g3, g4, g5, g6, g7, g8⟩, q3⟩ := hq
  subst ex
  subst g3
  subst g8
  obtain rfl : u = Value.ref a := rx
  obtain rfl : iv = Value.ref b := ry
  exact n_setItem hu I3 g1 g2 g4 g5 g6 g7 rv fun s4 I4 => ⟨σ, _, I4, q3⟩
theorem tab_empty (P : Program) (w : World) (h : Heap) (hb : sysModules < h.objs.size) : TabN P w h.objs.size [] (h.push { cls := .type "dict", data := .dict #[] }) :=
  ⟨Nat.zero_le _, beq_eq_false_iff_ne.mpr (Ne.symm (Nat.ne_of_lt hb)), [], .nil, _, #[], 0, Heap.get?_push_size _ rfl, ⟨rfl, rfl, rfl⟩, rfl, rfl, List.nodup_nil⟩
theorem pe_nnew : PE X (.Dict [] [] pos) (tNNew X.prog X.w) := ⟨fun pins s σ H Q I h =>
  wpAny_Dict_empty ⟨.ref s.heap.objs.size, _, I.laid (a := s.heap.objs.size) (o := DN X.prog X.w s.heap.objs.size []) (t' := s.toks) (fun _ _ q => Heap.get?_push_of_some _ q) (Nat.le_refl _) (dn_ok (tab_empty _ _ s.heap I.big)), rfl, h _ (I.hok.fresh (Nat.le_refl _))⟩⟩
theorem pe_ndisp (hu : X.A.units + 1 < cLine) (hk : PE X kx tk) (hv : PE X value tv) : PE X (.Dict [some kx] [value] pos) (tNDisp X.prog X.w X.K tk tv) := by
  refine ⟨fun pins s σ H Q I q => ?_⟩
  have hn := I.hok.fresh (Nat.le_refl s.heap.objs.size)
  have I1 := I.laid (a := s.heap.objs.size) (o := DN X.prog X.w s.heap.objs.size []) (h' := s.heap.push { cls := .type "dict", data := .dict #[] }) (t' := s.toks) (fun _ _ q => Heap.get?_push_of_some _ q) (Nat.le_refl _) (dn_ok (tab_empty _ _ s.heap I.big))
  refine wpAny_Dict_any rfl rfl (by simp) (by simp) (thn ((pps_cons (pos := pos) hk hv pps_nil).run pins _ σ _ (fun ps H2 => match ps with | [(x, y)] => xNDisp X.prog X.w X.K s.heap.objs.size x y H2 Q | _ => False) I1 (q _ hn)) fun ws s2 hq => ?_)
  obtain ⟨ps, H2, I2, rel, hps⟩ := hq
  match ps, rel, hps with
  | [(x, y)], .cons (b := (w1a, w1b)) ⟨r1a, r1b⟩ .nil, ⟨e, b, xs, k, ex, hb, ek, q2⟩ =>
      subst ex
      obtain rfl : w1a = Value.ref b := r1a
      obtain ⟨z, hd, zs, rel0, dd⟩ := tabH I2 e KeysIn.nil
      unfold storeAll
      rw [List.forIn_cons]
      refine wpAny_bind (wpAny_bind (wpAny_dictSet_heap (hsz := Dk.sz5 (by have := rel_len rel0; simp at this; omega)) (show X.A.units < cLine by omega) (key_bk I2 hb ek) dd fun h' dd' hs => wpAny_pure ?_))
      refine (show wpAny (model X.prog X.w) X.A (storeAll s.heap.objs.size []) _ _ _ from ?_)
      unfold storeAll
      rw [List.forIn_nil]
      refine wpAny_pure ?_
      have he : ∃ q, h'.get? s.heap.objs.size = some q := by
        obtain ⟨q, _, _, hq, _⟩ := dd'
        exact ⟨q, hq⟩
      exact ⟨.ref s.heap.objs.size, _, d_write I2 (by rw [e]; exact True.intro) hs he (dn_ok (tab_new (ps := []) (by simp) hd rel0 rfl r1b dd')), rfl, q2⟩
end
/-! order of lists of ints -/
def LtI (ns ms : List Int) : Prop := ∃ (j : Nat) (x y : Int), ns[j]? = some x ∧ ms[j]? = some y ∧ x < y ∧ ∀ i, i < j → ns[i]? = ms[i]?
theorem LtI.trans {a b c : List Int} (h : LtI a b) (g : LtI b c) : LtI a c := by
  obtain ⟨j, x, y, h1, h2, h3, h4⟩ := h
  obtain ⟨k, u, v, g1, g2, g3, g4⟩ := g
  rcases Nat.lt_trichotomy j k with e | e | e
  · exact ⟨j, x, y, h1, by rw [← g4 j e]; exact h2, h3, fun i hi => (h4 i hi).trans (g4 i (by omega))⟩
  · subst e
    rw [h2] at g1
    cases g1
    exact ⟨j, x, v, h1, g2, by omega, fun i hi => (h4 i hi).trans (g4 i hi)⟩
  · exact ⟨k, u, v, by rw [h4 k e]; exact g1, g2, g3, fun i hi => (h4 i (by omega)).trans (g4 i hi)⟩
def eI (ns ms : List Int) (j : Nat) : Bool := decide (ns.getD j 0 = ms.getD j 0)
def ltI (ns ms : List Int) : Bool := PySem.SeqAt.firstLt (eI ns ms) (fun j => decide (ns.getD j 0 < ms.getD j 0)) (decide (ns.length < ms.length)) (List.range (min ns.length ms.length))
def leI (ns ms : List Int) : Bool := PySem.SeqAt.firstLt (eI ns ms) (fun j => decide (ns.getD j 0 ≤ ms.getD j 0)) (decide (ns.length ≤ ms.length)) (List.range (min ns.length ms.length))
def rOrdL (K : PySem.W.Frag) (f : List Int → List Int → Bool) : R2 := fun x y H Q => ∃ (a b : Addr) (ns ms : List Int), x = .ref a ∧ y = .ref b ∧ SqL K H a (ns.map V.int) ∧ SqL K H b (ms.map V.int) ∧ Q (.bl (f ns ms)) H
section
variable {X : Cx}
theorem op_ltL (hu : X.A.units < cLine) : OpR X (compareOp .Lt) (rOrdL X.K ltI) := by
  intro pins s σ H x y v u Q I rx ry h
  obtain ⟨a, b, ns, ms, rfl, rfl, ha, hb, q⟩ := h
  cases rx
  cases ry
  obtain ⟨its, r1, p1, _⟩ := I.list ha
  obtain ⟨its2, r2, p2, _⟩ := I.list hb
  have i1 : IntsAre its ns := Vals.ints r1
  have i2 : IntsAre its2 ms := Vals.ints r2
  have e1 : its.toArray.size = ns.length := by rw [List.size_toArray]; exact i1.length
  have e2 : its2.toArray.size = ms.length := by rw [List.size_toArray]; exact i2.length
  have at1 : ∀ j (h1 : j < its.toArray.size), ∃ t, its.toArray[j] = .int (ns.getD j 0) t := fun j h1 => PyProof.Rows.IntsAre.int_at i1 _ _ (by simp at h1; simp [h1])
  have at2 : ∀ j (h1 : j < its2.toArray.size), ∃ t, its2.toArray[j] = .int (ms.getD j 0) t := fun j h1 => PyProof.Rows.IntsAre.int_at i2 _ _ (by simp at h1; simp [h1])
  have R := PySem.SeqAt.RcLt.lists (A := X.A) (s := s) (e := eI ns ms) (r := fun j => decide (ns.getD j 0 < ms.getD j 0)) p1.isList p2.isList hu (fun j h1 h2 => by
    obtain ⟨t, et⟩ := at1 j h1
    obtain ⟨t', et'⟩ := at2 j h2
    rw [et, et']
    have z : (ns.getD j 0 == ms.getD j 0) = eI ns ms j := by
      unfold eI
      by_cases q : ns.getD j 0 = ms.getD j 0
      · rw [decide_eq_true q]; exact beq_iff_eq.mpr q
      · rw [decide_eq_false q]; exact beq_eq_false_iff_ne.mpr q
    rw [← z]
    exact SeqAt.EqAt.int_int _ _ _ _) (fun j h1 h2 _ => by
    obtain ⟨t, et⟩ := at1 j h1
    obtain ⟨t', et'⟩ := at2 j h2
    rw [et, et']
    exact fun _ _ _ _ h => PyProof.Rows.lt_int h)
  rw [e1, e2] at R
  have z : wpAny (model X.prog X.w) X.A (compareOp .Lt (.ref a) (.ref b)) (EP X pins σ Q) X.xe s := R X.prog X.w X.xe (EP X pins σ Q) ⟨.bl (ltI ns ms), H, I, rfl, q⟩
  exact z
theorem op_leL (hu : X.A.units < cLine) : OpR X (compareOp .LtE) (rOrdL X.K leI) := by
  intro pins s σ H x y v u Q I rx ry h
  obtain ⟨a, b, ns, ms, rfl, rfl, ha, hb, q⟩ := h
  cases rx
  cases ry
  obtain ⟨its, r1, p1, _⟩ := I.list ha
  obtain ⟨its2, r2, p2, _⟩ := I.list hb
  have i1 : IntsAre its ns := Vals.ints r1
  have i2 : IntsAre its2 ms := Vals.ints r2
  have e1 : its.toArray.size = ns.length := by rw [List.size_toArray]; exact i1.length
  have e2 : its2.toArray.size = ms.length := by rw [List.size_toArray]; exact i2.length
  have at1 : ∀ j (h1 : j < its.toArray.size), ∃ t, its.toArray[j] = .int (ns.getD j 0) t := fun j h1 => PyProof.Rows.IntsAre.int_at i1 _ _ (by simp at h1; simp [h1])
  have at2 : ∀ j (h1 : j < its2.toArray.size), ∃ t, its2.toArray[j] = .int (ms.getD j 0) t := fun j h1 => PyProof.Rows.IntsAre.int_at i2 _ _ (by simp at h1; simp [h1])
  have R := PySem.SeqAt.RcOp.lists_le (A := X.A) (s := s) (e := eI ns ms) (r := fun j => decide (ns.getD j 0 ≤ ms.getD j 0)) p1.isList p2.isList hu (fun j h1 h2 => by
    obtain ⟨t, et⟩ := at1 j h1
    obtain ⟨t', et'⟩ := at2 j h2
    rw [et, et']
    have z : (ns.getD j 0 == ms.getD j 0) = eI ns ms j := by
      unfold eI
      by_cases q : ns.getD j 0 = ms.getD j 0
      · rw [decide_eq_true q]; exact beq_iff_eq.mpr q
      · rw [decide_eq_false q]; exact beq_eq_false_iff_ne.mpr q
    rw [← z]
    exact SeqAt.EqAt.int_int _ _ _ _) (fun j h1 h2 _ => by
    obtain ⟨t, et⟩ := at1 j h1
    obtain ⟨t', et'⟩ := at2 j h2
    rw [et, et']
    exact fun _ _ _ _ h => PyProof.Rows.le_int h)
  rw [e1, e2] at R
  have z : wpAny (model X.prog X.w) X.A (compareOp .LtE (.ref a) (.ref b)) (EP X pins σ Q) X.xe s := R X.prog X.w X.xe (EP X pins σ Q) ⟨.bl (leI ns ms), H, I, rfl, q⟩
  exact z
end
theorem first_hit {e r : Nat → Bool} {z : Bool} : ∀ (l : List Nat) (j : Nat), (∃ p q, l = p ++ j :: q ∧ ∀ i ∈ p, e i = true) → e j = false → PySem.SeqAt.firstLt e r z l = r j
  | [], j, ⟨p, q, h, _⟩, _ => by cases p <;> cases h
  | i :: l, j, ⟨p, q, h, hp⟩, hj => by
    cases p with
    | nil =>
      injection h with h1 h2
      subst h1
      simp [PySem.SeqAt.firstLt, hj]
    | cons p0 ps =>
      injection h with h1 h2
      subst h1
      have h0 := hp i List.mem_cons_self
      simp only [PySem.SeqAt.firstLt, h0, if_true]
      exact first_hit l j ⟨ps, q, h2, fun x hx => hp x (List.mem_cons_of_mem _ hx)⟩ hj
theorem first_all {e r : Nat → Bool} {z : Bool} : ∀ (l : List Nat), (∀ i ∈ l, e i = true) → PySem.SeqAt.firstLt e r z l = z
  | [], _ => rfl
  | i :: l, h => by
    simp only [PySem.SeqAt.firstLt, h i List.mem_cons_self, if_true]
    exact first_all l fun x hx => h x (List.mem_cons_of_mem _ hx)
theorem range_cut {n j : Nat} (h : j < n) : ∃ p q, List.range n = p ++ j :: q ∧ ∀ i ∈ p, i < j := by
  refine ⟨List.range j, (List.range n).drop (j + 1), ?_, fun i hi => List.mem_range.mp hi⟩
  have e : List.range n = (List.range n).take j ++ (List.range n).drop j := (List.take_append_drop j _).symm
  rw [List.drop_eq_getElem_cons (by rw [List.length_range]; exact h), List.getElem_range] at e
  have t : (List.range n).take j = List.range j := by rw [List.take_range]; congr 1; omega
  rw [t] at e
  exact e
theorem getD_of {ns : List Int} {j : Nat} {x : Int} (h : ns[j]? = some x) : ns.getD j 0 = x := by rw [List.getD_eq_getElem?_getD, h]; rfl
theorem LtI.ord {ns ms : List Int} (h : LtI ns ms) : ltI ns ms = true ∧ leI ns ms = true := by
  obtain ⟨j, x, y, h1, h2, h3, h4⟩ := h
  have j1 := (List.getElem?_eq_some_iff.mp h1).1
  have j2 := (List.getElem?_eq_some_iff.mp h2).1
  obtain ⟨p, q, hp, hq⟩ := range_cut (show j < min ns.length ms.length by omega)
  have ej : eI ns ms j = false := by unfold eI; rw [getD_of h1, getD_of h2]; exact decide_eq_false (by omega)
  have eq : ∀ i ∈ p, eI ns ms i = true := fun i hi => by
    unfold eI
    refine decide_eq_true ?_
    rw [List.getD_eq_getElem?_getD, List.getD_eq_getElem?_getD, h4 i (hq i hi)]
  unfold ltI leI
  rw [first_hit _ j ⟨p, q, hp, eq⟩ ej, first_hit _ j ⟨p, q, hp, eq⟩ ej, getD_of h1, getD_of h2]
  exact ⟨decide_eq_true h3, decide_eq_true (by omega)⟩
theorem le_refl (ns : List Int) : leI ns ns = true := by
  unfold leI
  rw [first_all _ fun i _ => by unfold eI; exact decide_eq_true rfl]
  exact decide_eq_true (Nat.le_refl _)
section
variable {P : Program} {w : World} {K : PySem.W.Frag} {σ : L2.St} {H : Hp} {Q : VK} {td ty tv tk : TE} {D : Ends} {neg : Bool} {a b : Addr} {ps : List Row3} {xs : List V} {k : List Key} {v : V} {o : Option V}
theorem nget (h : td σ H fun x H1 => ty σ H1 fun y H2 => xNGet P w K x y H2 Q) : tNGet P w K td ty σ H Q := h
theorem nin (h : ty σ H fun y H1 => td σ H1 fun x H2 => xNIn P w K neg x y H2 Q) : tNIn P w K neg ty td σ H Q := h
theorem nput (h : tv σ H fun v H1 => td σ H1 fun x H2 => ty σ H2 fun y H3 => xNPut P w K x y v H3 fun H4 => D.nx σ H4) : sNPut P w K td ty tv D σ H := h
theorem nnew (h : ∀ p, H p = none → Q (.ref p) (upd H p (DN P w p []))) : tNNew P w σ H Q := h
theorem ndisp (h : ∀ p, H p = none → tk σ (upd H p (DN P w p [])) fun x H1 => tv σ H1 fun y H2 => xNDisp P w K p x y H2 Q) : tNDisp P w K tk tv σ H Q := h
theorem xnget (ha : H a = some (DN P w a ps)) (hk : KeysIn K H ps) (hb : SqT K H b xs) (e : xs.map kOf = k.map some) (hv : valN ps k = some v) (q : Q v H) : xNGet P w K (.ref a) (.ref b) H Q := ⟨a, v, rfl, ⟨ps, b, xs, k, ha, hk, rfl, hb, e, hv.symm⟩, q⟩
theorem xnin {o : Option V} (ha : H a = some (DN P w a ps)) (hk : KeysIn K H ps) (hb : SqT K H b xs) (e : xs.map kOf = k.map some) (hv : valN ps k = o) (q : Q (.bl o.isSome) H) : xNIn P w K false (.ref a) (.ref b) H Q := ⟨a, o, rfl, ⟨ps, b, xs, k, ha, hk, rfl, hb, e, hv.symm⟩, q⟩
theorem xnnotin {o : Option V} (ha : H a = some (DN P w a ps)) (hk : KeysIn K H ps) (hb : SqT K H b xs) (e : xs.map kOf = k.map some) (hv : valN ps k = o) (q : Q (.bl (!o.isSome)) H) : xNIn P w K true (.ref a) (.ref b) H Q := ⟨a, o, rfl, ⟨ps, b, xs, k, ha, hk, rfl, hb, e, hv.symm⟩, q⟩
theorem xnput {N : Hp → Prop} (ha : H a = some (DN P w a ps)) (hk : KeysIn K H ps) (hb : SqT K H b xs) (e : xs.map kOf = k.map some) (hv : valN ps k = none) (hz : ps.length < 100000) (q : N (upd H a (DN P w a (ps ++ [(k, b, v)])))) : xNPut P w K (.ref a) (.ref b) v H N := ⟨a, _, rfl, ⟨ps, b, xs, k, ha, hk, rfl, hb, e, hv, hz, rfl⟩, q⟩
/-- a dict of this kind changes: tuples and lists stay -/
theorem dn_tup {xs : List V} : DN P w a ps ≠ .tup xs := fun z => by
  have z' : HO.ext _ = HO.tup xs := z
  cases z'
theorem dn_lst {xs : List V} : DN P w a ps ≠ .lst xs := fun z => by
  have z' : HO.ext _ = HO.lst xs := z
  cases z'
theorem dn_frz {u : Obj} {y : HO} : DN P w a ps ≠ .frz u y := fun z => by
  have z' : HO.ext _ = HO.frz u y := z
  cases z'
theorem sqt_dn {u : HO} (h : H a = some (DN P w a ps)) (s : SqT K H b xs) : SqT K (upd H a u) b xs := by
  rcases s with (s | ⟨ob, s⟩) | s
  · exact .inl (.inl (by rw [upd_ne (fun z => by subst z; rw [h] at s; exact dn_tup (Option.some.inj s))]; exact s))
  · exact .inl (.inr ⟨ob, by rw [upd_ne (fun z => by subst z; rw [h] at s; exact dn_frz (Option.some.inj s))]; exact s⟩)
  · exact .inr s
theorem sql_dn {u : HO} (h : H a = some (DN P w a ps)) (s : SqL K H b xs) : SqL K (upd H a u) b xs := by
  rcases s with (s | ⟨ob, s⟩) | s
  · exact .inl (.inl (by rw [upd_ne (fun z => by subst z; rw [h] at s; exact dn_lst (Option.some.inj s))]; exact s))
  · exact .inl (.inr ⟨ob, by rw [upd_ne (fun z => by subst z; rw [h] at s; exact dn_frz (Option.some.inj s))]; exact s⟩)
  · exact .inr s
mutual
theorem dp_dn {u : HO} (h : H a = some (DN P w a ps)) : ∀ (d : PyData) (v : V), Dp K H v d → Dp K (upd H a u) v d
  | .none, _, h1 => by cases h1; exact .non
  | .bool b, _, h1 => by cases h1; exact .bl b
  | .int i, _, h1 => by cases h1; exact .int i
  | .str x, _, h1 => by cases h1; exact .str x
  | .list ds, _, h1 => by
    cases h1 with
    | lst hs ha => exact .lst (sql_dn h hs) (dpA_dn h ds _ ha)
  | .tuple ds, _, h1 => by
    cases h1 with
    | tup hs ha => exact .tup (sqt_dn h hs) (dpA_dn h ds _ ha)
  | .dict _, _, h1 => by cases h1
theorem dpA_dn {u : HO} (h : H a = some (DN P w a ps)) : ∀ (ds : List PyData) (vs : List V), DpAll K H vs ds → DpAll K (upd H a u) vs ds
  | [], _, h1 => by cases h1; exact .nil
  | d :: ds, _, h1 => by
    cases h1 with
    | cons h2 h3 => exact .cons (dp_dn h d _ h2) (dpA_dn h ds _ h3)
end
theorem KeysIn.dn {qs : List Row3} {u : HO} (h : H a = some (DN P w a ps)) (k : KeysIn K H qs) : KeysIn K (upd H a u) qs := fun p hp => by
  obtain ⟨xs, h1, h2⟩ := k p hp
  exact ⟨xs, sqt_dn h h1, h2⟩
theorem KeysIn.lst {l : Addr} {ws : List V} {qs : List Row3} {u : HO} (h : H l = some (.lst ws)) (k : KeysIn K H qs) : KeysIn K (upd H l u) qs := fun p hp => by
  obtain ⟨xs, h1, h2⟩ := k p hp
  exact ⟨xs, Dt.sqt_upd h h1, h2⟩
end
end Nk


local macro_rules | `(tactic| walk_at "hp") => `(tactic| first
  | assumption | exact L2.upd_same | (refine (by assumption : Evl.Ex _ _) _ _ ?_; walk_at "hp")
  | (refine (L2.upd_ne (by assumption)).trans ?_; walk_at "hp") | (refine (L2.upd_ne (Ne.symm (by assumption))).trans ?_; walk_at "hp") | (refine (L2.upd_ne (L2.ne_of (by assumption) (by assumption) (by intro z; cases z))).trans ?_; walk_at "hp"))
local macro_rules | `(tactic| walk_at "sq") => `(tactic| first | assumption | exact L2.SqL.of (by walk_at "hp") | exact L2.SqT.of (by walk_at "hp"))
local macro_rules | `(tactic| walk_at "rd1") => `(tactic| with_reducible first
  | refine Rd.seq ?_ | refine Rd.asg ?_ | refine Rd.gnm ?_ | refine Rd.ifS ?_ | refine Rd.ret ?_ | refine Rd.retN ?_ | refine Rd.drop ?_ | refine Rd.nxt ?_ | refine Rd.brk ?_ | refine Rd.cnt ?_
  | refine Rd.var rfl ?_ | refine Rd.c ?_ | refine Rd.op ?_ | refine Rd.i0 ?_ | refine Rd.un ?_ | refine Rd.u0 ?_
  | refine Rd.test ?_ | refine Rd.tbv ?_ | refine Rd.xt ?_ | refine Rd.andT ?_ | refine Rd.orT ?_ | refine Rd.notT ?_ | refine Rd.andV ?_ | refine Rd.orV ?_ | refine Rd.notV ?_ | refine Rd.ifE ?_ | refine Rd.chain ?_
  | refine Rd.nil ?_ | refine Rd.cons ?_ | refine Rd.cb ?_ | refine Rd.call ?_ | refine Rd.tup ?_ | refine Rd.lst ?_ | refine Rd.fld ?_ | refine Rd.meth ?_ | refine Rd.bm ?_ | refine Rd.bm0 ?_
  | refine Rd.eqI ?_ | refine Rd.neI ?_ | refine Rd.eqS ?_ | refine Rd.neS ?_ | refine Rd.isN_non ?_ | refine Rd.isN_int ?_ | refine Rd.isN_ref ?_ | refine Rd.isN_str ?_ | refine Rd.notN_non ?_ | refine Rd.notN_int ?_ | refine Rd.notN_ref ?_ | refine Rd.notN_str ?_
  | refine Rd.mkO ?_ | refine Rd.jn ?_ | refine Rd.jsC ?_ | refine Rd.jsN ?_ | refine Rd.fmt ?_ | refine Rd.sl ?_ | refine Rd.poN ?_ | refine Rd.poS ?_ | refine Rd.xpart ?_ | refine Rd.ifTT ?_ | refine Rd.ifFF ?_ | refine Rd.ifNTT ?_ | refine Rd.ifNFF ?_
  | refine Rd.int ?_ | refine Rd.intB ?_ | refine Rd.abs ?_ | refine Rd.max2 ?_ | refine Rd.min2 ?_
  | refine Rd.sfld ?_ | refine Rd.forS ?_ | refine Rd.lcS ?_ | refine Rd.lcT ?_ | refine Rd.m1 ?_ | refine Rd.m0 ?_ | refine Rd.xiss ?_ | refine Rd.find ?_ | refine Rd.listRg1 ?_ | refine Rd.lcR1 ?_ | refine Rd.lcL ?_ | refine Rd.listRg2 ?_ | refine Rd.eqB ?_ | refine Rd.neB ?_ | refine Rd.xf ?_ | refine Rd.vei ?_ | refine Rd.ost ?_ | refine Rd.makeS ?_ | refine Rd.callS ?_ | refine Rd.make ?_ | refine Rd.forR1 ?_ | refine Rd.forR2 ?_ | refine Rd.forL ?_ | refine Rd.forT ?_ | refine Rd.par ?_ | refine Rd.par2 ?_ | refine Rd.gcons ?_ | refine Rd.gnil ?_ | refine Rd.gsub ?_ | refine Rd.ipi ?_ | refine Rd.aug rfl ?_)
local macro_rules | `(tactic| walk_at "rd2") => `(tactic| first
  | ((with_reducible refine' Rd.pw (m := 1000000) (i := 10) (j := 6) ?c1 ?e1 ?_); (case c1 => exact ⟨by decide, by decide, by decide⟩); (case e1 => decide)) | ((with_reducible refine' Rd.pw (m := 1000000000000) (i := 10) (j := 12) ?c1 ?e1 ?_); (case c1 => exact ⟨by decide, by decide, by decide⟩); (case e1 => decide)) | ((with_reducible refine' Rd.pw (m := 1000000000000000000000000000000) (i := 10) (j := 30) ?c1 ?e1 ?_); (case c1 => exact ⟨by decide, by decide, by decide⟩); (case e1 => decide))
  | ((with_reducible refine' Rd.pw (m := 10000000000000000000000000000000) (i := 10) (j := 31) ?c1 ?e1 ?_); (case c1 => exact ⟨by decide, by decide, by decide⟩); (case e1 => decide)) | ((with_reducible refine' Rd.pw (m := 10000000000000000000000000000000000000000) (i := 10) (j := 40) ?c1 ?e1 ?_); (case c1 => exact ⟨by decide, by decide, by decide⟩); (case e1 => decide)) | ((with_reducible refine' Rd.pw (m := 100000000000000000000) (i := 10) (j := 20) ?c1 ?e1 ?_); (case c1 => exact ⟨by decide, by decide, by decide⟩); (case e1 => decide)) | ((with_reducible refine' Rd.pw (m := 10000000000000000000000000000000000000000000000000000000000000000) (i := 10) (j := 64) ?c1 ?e1 ?_); (case c1 => exact ⟨by decide, by decide, by decide⟩); (case e1 => decide)) | ((with_reducible refine' Rd.pw (m := 10000) (i := 10) (j := 4) ?c1 ?e1 ?_); (case c1 => exact ⟨by decide, by decide, by decide⟩); (case e1 => decide)) | ((with_reducible refine' Rd.pw (m := 100) (i := 10) (j := 2) ?c1 ?e1 ?_); (case c1 => exact ⟨by decide, by decide, by decide⟩); (case e1 => decide))
  | (with_reducible refine' Rd.isiInt (b := true) ?k1 ?_); (case k1 => rfl)
  | (with_reducible refine' Rd.isiInt (b := false) ?k1 ?_); (case k1 => rfl)
  | (with_reducible refine' Rd.isiBl (b := true) ?k1 ?_); (case k1 => rfl)
  | (with_reducible refine' Rd.isiBl (b := false) ?k1 ?_); (case k1 => rfl)
  | (with_reducible refine' Rd.isiStr (b := true) ?k1 ?_); (case k1 => rfl)
  | (with_reducible refine' Rd.isiStr (b := false) ?k1 ?_); (case k1 => rfl)
  | (with_reducible refine' Rd.isiNon (b := true) ?k1 ?_); (case k1 => rfl)
  | (with_reducible refine' Rd.isiNon (b := false) ?k1 ?_); (case k1 => rfl)
  | (with_reducible refine' Rd.isiLst (b := true) ?h1 ?k1 ?_); (case h1 => walk_at "hp"); (case k1 => rfl)
  | (with_reducible refine' Rd.isiLst (b := false) ?h1 ?k1 ?_); (case h1 => walk_at "hp"); (case k1 => rfl)
  | (with_reducible refine' Rd.isiTup (b := true) ?h1 ?k1 ?_); (case h1 => walk_at "hp"); (case k1 => rfl)
  | (with_reducible refine' Rd.isiTup (b := false) ?h1 ?k1 ?_); (case h1 => walk_at "hp"); (case k1 => rfl)
  | (with_reducible refine' Rd.isiSqT (b := true) ?s1 ?k1 ?_); (case s1 => walk_at "sq"); (case k1 => rfl)
  | (with_reducible refine' Rd.isiSqT (b := false) ?s1 ?k1 ?_); (case s1 => walk_at "sq"); (case k1 => rfl)
  | (with_reducible refine' Rd.isiSqL (b := true) ?s1 ?k1 ?_); (case s1 => walk_at "sq"); (case k1 => rfl)
  | (with_reducible refine' Rd.isiSqL (b := false) ?s1 ?k1 ?_); (case s1 => walk_at "sq"); (case k1 => rfl)
  | (with_reducible refine' Rd.i1 ?c1 ?_); (case c1 => first | assumption | (show (0 : Int) < _; omega) | decide | exact .inl (by decide) | exact .inr (by decide) | exact .inr ⟨by omega, by omega⟩ | exact .inl ⟨by omega, by omega⟩ | exact ⟨by decide, by decide⟩)
  | (with_reducible refine' Rd.len ?s1 ?_); (case s1 => walk_at "sq")
  | (with_reducible refine' Rd.lenT ?s1 ?_); (case s1 => walk_at "sq")
  | (with_reducible refine' Rd.xtyL ?s1 ?_); (case s1 => walk_at "sq")
  | (with_reducible refine' Rd.ixL ?s1 ?a1 ?_); (case s1 => walk_at "sq"); (case a1 => rfl)
  | (with_reducible refine' Rd.ixT ?s1 ?a1 ?_); (case s1 => walk_at "sq"); (case a1 => rfl)
  | (with_reducible refine' Rd.gtup ?s1 ?n1 ?_); (case s1 => walk_at "sq"); (case n1 => rfl)
  | (with_reducible refine' Rd.rfld ?h1 ?c1 ?n1 ?l1 ?_); (case h1 => walk_at "hp"); (case c1 => assumption); (case n1 => assumption); (case l1 => walk_at "lk")
  | (with_reducible refine' Rd.xmeth ?h1 ?l1 ?_); (case h1 => walk_at "hp"); (case l1 => walk_at "lk")
  | (with_reducible refine' Rd.xst ?h1 ?c1 ?n1 ?l1 ?_); (case h1 => walk_at "hp"); (case c1 => assumption); (case n1 => assumption); (case l1 => rfl)
  | (with_reducible refine' Rd.take ?h1 ?m1 ?_); (case h1 => walk_at "hp"); (case m1 => omega)
  | ((with_reducible refine' Rd.tupOfL ?s1 ?_); (case s1 => walk_at "sq")) | ((with_reducible refine' Rd.tupOfT ?s1 ?_); (case s1 => walk_at "sq"))
  | (with_reducible refine Rd.ifT (by assumption) ?_) | (with_reducible refine Rd.ifF (by assumption) ?_) | (with_reducible refine Rd.ifNT (by assumption) ?_) | (with_reducible refine Rd.ifNF (by assumption) ?_)
  | (with_reducible refine Rd.ifT rfl ?_) | (with_reducible refine Rd.ifNF rfl ?_)
  | (with_reducible refine Rd.ifT (by omega) ?_) | (with_reducible refine Rd.ifF (by omega) ?_) | (with_reducible refine Rd.ifNT (by omega) ?_) | (with_reducible refine Rd.ifNF (by omega) ?_)
  | ((with_reducible refine Rd.ifT ?p1 ?_); (case p1 => decide +kernel)) | ((with_reducible refine Rd.ifF ?p1 ?_); (case p1 => decide +kernel)) | ((with_reducible refine Rd.ifNT ?p1 ?_); (case p1 => decide +kernel)) | ((with_reducible refine Rd.ifNF ?p1 ?_); (case p1 => decide +kernel)))
local macro_rules | `(tactic| walk_at "rd") => `(tactic| repeat (first | walk_at "rd1" | walk_at "rd2"))

local macro_rules | `(tactic| walk_at "rd1") => `(tactic| with_reducible first
  | refine Rd.dget ?_ | refine Rd.dget1 ?_ | refine Rd.din ?_ | refine Rd.dput ?_ | refine Rd.isB ?_ | refine Rd.notB ?_ | refine Rd.fldaug ?_ | refine Rd.radd ?_)
local macro_rules | `(tactic| walk_at "rd2") => `(tactic| first
  | ((with_reducible refine' Rd.lenD ?h1 ?_); (case h1 => walk_at "hp")) | ((with_reducible refine' Rd.xisd ?h1 ?_); (case h1 => walk_at "hp"))
  | ((with_reducible refine' Rd.xfa ?h1 ?c1 ?n1 ?l1 ?_); (case h1 => walk_at "hp"); (case c1 => assumption); (case n1 => assumption); (case l1 => walk_at "lk")))

local macro_rules | `(tactic| walk_at "rd1") => `(tactic| with_reducible first
  | refine Nk.nget ?_ | refine Nk.nin ?_ | refine Nk.nput ?_)

namespace Toy
open PySem L2
def top (i : Nat) : Stmt := PySem.Challenge.pw_surebridge_k20_charts.main.body.getD i (.Pass ⟨0, 0, 0, 0⟩)
abbrev s_law_take : Stmt := top 25
theorem sc_law_take : FnScope ["deck", "many"] ["deck", "many"] (defScope s_law_take) := ⟨rfl, rfl, rfl, by decide +kernel, rfl, by decide +kernel, by decide +kernel⟩
abbrev s_law_deck : Stmt := top 24
theorem sc_law_deck : FnScope ["script", "cells", "each", "deck", "seed", "k", "cell", "rest", "at"] ["script", "cells", "each"] (defScope s_law_deck) := ⟨rfl, rfl, rfl, by decide +kernel, rfl, by decide +kernel, by decide +kernel⟩
abbrev s_is_mark : Stmt := top 12
theorem sc_is_mark : FnScope ["mark", "marks", "follow", "change"] ["mark", "marks"] (defScope s_is_mark) := ⟨rfl, rfl, rfl, by decide +kernel, rfl, by decide +kernel, by decide +kernel⟩
abbrev s_is_rule : Stmt := top 13
theorem sc_is_rule : FnScope ["rule", "mark"] ["rule"] (defScope s_is_rule) := ⟨rfl, rfl, rfl, by decide +kernel, rfl, by decide +kernel, by decide +kernel⟩
abbrev s_Row_init_ : Stmt := inClass (top 14) 0
theorem sc_Row_init_ : FnScope ["self", "mode", "sharing", "lease", "grip", "rule", "held", "marks", "mark", "pair"] ["self", "mode", "sharing", "lease", "grip", "rule"] (defScope s_Row_init_) := ⟨rfl, rfl, rfl, by decide +kernel, rfl, by decide +kernel, by decide +kernel⟩
abbrev s_plain_row : Stmt := top 15
theorem sc_plain_row : FnScope ["mode"] ["mode"] (defScope s_plain_row) := ⟨rfl, rfl, rfl, by decide +kernel, rfl, by decide +kernel, by decide +kernel⟩
abbrev s_law_wild_rule : Stmt := top 28
theorem sc_law_wild_rule : FnScope ["deck", "size", "rule", "mark", "pairs", "event", "change"] ["deck"] (defScope s_law_wild_rule) := ⟨rfl, rfl, rfl, by decide +kernel, rfl, by decide +kernel, by decide +kernel⟩
abbrev s_law_living_rule : Stmt := top 26
theorem sc_law_living_rule : FnScope ["deck", "size", "sure", "holds", "mark", "living", "dead", "rule", "pairs", "event", "pool", "goal"] ["deck"] (defScope s_law_living_rule) := ⟨rfl, rfl, rfl, by decide +kernel, rfl, by decide +kernel, by decide +kernel⟩
abbrev s_law_call_rule : Stmt := top 27
theorem sc_law_call_rule : FnScope ["deck", "lent", "given", "idle", "lending", "free", "gone"] ["deck"] (defScope s_law_call_rule) := ⟨rfl, rfl, rfl, by decide +kernel, rfl, by decide +kernel, by decide +kernel⟩
abbrev s_law_spoil : Stmt := top 29
theorem sc_law_spoil : FnScope ["deck", "rule", "mark", "event", "pair", "kind"] ["deck", "rule"] (defScope s_law_spoil) := ⟨rfl, rfl, rfl, by decide +kernel, rfl, by decide +kernel, by decide +kernel⟩
abbrev s_law_spec : Stmt := top 30
theorem sc_law_spec : FnScope ["deck", "sharing", "lease", "grip", "kind", "rule", "hold", "turn"] ["deck"] (defScope s_law_spec) := ⟨rfl, rfl, rfl, by decide +kernel, rfl, by decide +kernel, by decide +kernel⟩
abbrev s_law_row : Stmt := top 34
theorem sc_law_row : FnScope ["spec", "mark"] ["spec"] (defScope s_law_row) := ⟨rfl, rfl, rfl, by decide +kernel, rfl, by decide +kernel, by decide +kernel⟩
abbrev s_is_usable : Stmt := top 18
theorem sc_is_usable : FnScope ["row", "node"] ["row", "node"] (defScope s_is_usable) := ⟨rfl, rfl, rfl, by decide +kernel, rfl, by decide +kernel, by decide +kernel⟩
abbrev s_can_happen : Stmt := top 19
theorem sc_can_happen : FnScope ["row", "node", "event", "first"] ["row", "node", "event", "first"] (defScope s_can_happen) := ⟨rfl, rfl, rfl, by decide +kernel, rfl, by decide +kernel, by decide +kernel⟩
abbrev s_possible : Stmt := top 20
theorem sc_possible : FnScope ["row", "node", "first", "event"] ["row", "node", "first"] (defScope s_possible) := ⟨rfl, rfl, rfl, by decide +kernel, rfl, by decide +kernel, by decide +kernel⟩
abbrev s_step : Stmt := top 21
theorem sc_step : FnScope ["row", "node", "event", "mark", "alive", "status", "follow", "change"] ["row", "node", "event"] (defScope s_step) := ⟨rfl, rfl, rfl, by decide +kernel, rfl, by decide +kernel, by decide +kernel⟩
abbrev s_law_usable : Stmt := top 31
theorem sc_law_usable : FnScope ["spec", "node"] ["spec", "node"] (defScope s_law_usable) := ⟨rfl, rfl, rfl, by decide +kernel, rfl, by decide +kernel, by decide +kernel⟩
abbrev s_law_events : Stmt := top 32
theorem sc_law_events : FnScope ["spec", "node", "first", "found"] ["spec", "node", "first"] (defScope s_law_events) := ⟨rfl, rfl, rfl, by decide +kernel, rfl, by decide +kernel, by decide +kernel⟩
abbrev s_law_next : Stmt := top 33
theorem sc_law_next : FnScope ["spec", "node", "event", "pair", "alive", "status"] ["spec", "node", "event"] (defScope s_law_next) := ⟨rfl, rfl, rfl, by decide +kernel, rfl, by decide +kernel, by decide +kernel⟩
abbrev s_law_whole : Stmt := top 35
theorem sc_law_whole : FnScope ["value"] ["value"] (defScope s_law_whole) := ⟨rfl, rfl, rfl, by decide +kernel, rfl, by decide +kernel, by decide +kernel⟩
abbrev s_law_same_node : Stmt := top 36
theorem sc_law_same_node : FnScope ["actual", "node"] ["actual", "node"] (defScope s_law_same_node) := ⟨rfl, rfl, rfl, by decide +kernel, rfl, by decide +kernel, by decide +kernel⟩
abbrev s_law_path : Stmt := top 37
theorem sc_law_path : FnScope ["spec", "life", "node", "hold", "path", "at", "follow"] ["spec", "life"] (defScope s_law_path) := ⟨rfl, rfl, rfl, by decide +kernel, rfl, by decide +kernel, by decide +kernel⟩
abbrev s_chart : Stmt := top 22
theorem sc_chart : FnScope ["row", "found", "known", "at", "node", "life", "event", "follow"] ["row"] (defScope s_chart) := ⟨rfl, rfl, rfl, by decide +kernel, rfl, by decide +kernel, by decide +kernel⟩
abbrev s_law_rank : Stmt := top 38
theorem sc_law_rank : FnScope ["life", "event"] ["life"] (defScope s_law_rank) := ⟨rfl, rfl, rfl, by decide +kernel, rfl, by decide +kernel, by decide +kernel⟩
abbrev s_law_pairs : Stmt := top 39
theorem sc_law_pairs : FnScope ["spec", "answer", "at", "pair", "due"] ["spec", "answer"] (defScope s_law_pairs) := ⟨rfl, rfl, rfl, by decide +kernel, rfl, by decide +kernel, by decide +kernel⟩
abbrev s_law_closed : Stmt := top 40
theorem sc_law_closed : FnScope ["spec", "answer", "known", "pair", "event", "follow"] ["spec", "answer"] (defScope s_law_closed) := ⟨rfl, rfl, rfl, by decide +kernel, rfl, by decide +kernel, by decide +kernel⟩
abbrev s_law_charted : Stmt := top 41
theorem sc_law_charted : FnScope ["row", "spec", "answer", "first", "pair"] ["row", "spec"] (defScope s_law_charted) := ⟨rfl, rfl, rfl, by decide +kernel, rfl, by decide +kernel, by decide +kernel⟩
abbrev s_law : Stmt := top 42
theorem sc_law : FnScope ["script", "deck", "turn", "spec", "mode"] ["script"] (defScope s_law) := ⟨rfl, rfl, rfl, by decide +kernel, rfl, by decide +kernel, by decide +kernel⟩
/-- where things stand -/
structure Ad where
  a_law_take : Addr
  d_law_take : FuncData
  a_law_deck : Addr
  d_law_deck : FuncData
  a_is_mark : Addr
  d_is_mark : FuncData
  a_is_rule : Addr
  d_is_rule : FuncData
  a_Row_init_ : Addr
  d_Row_init_ : FuncData
  a_plain_row : Addr
  d_plain_row : FuncData
  a_law_wild_rule : Addr
  d_law_wild_rule : FuncData
  a_law_living_rule : Addr
  d_law_living_rule : FuncData
  a_law_call_rule : Addr
  d_law_call_rule : FuncData
  a_law_spoil : Addr
  d_law_spoil : FuncData
  a_law_spec : Addr
  d_law_spec : FuncData
  a_law_row : Addr
  d_law_row : FuncData
  a_is_usable : Addr
  d_is_usable : FuncData
  a_can_happen : Addr
  d_can_happen : FuncData
  a_possible : Addr
  d_possible : FuncData
  a_step : Addr
  d_step : FuncData
  a_law_usable : Addr
  d_law_usable : FuncData
  a_law_events : Addr
  d_law_events : FuncData
  a_law_next : Addr
  d_law_next : FuncData
  a_law_whole : Addr
  d_law_whole : FuncData
  a_law_same_node : Addr
  d_law_same_node : FuncData
  a_law_path : Addr
  d_law_path : FuncData
  a_chart : Addr
  d_chart : FuncData
  a_law_rank : Addr
  d_law_rank : FuncData
  a_law_pairs : Addr
  d_law_pairs : FuncData
  a_law_closed : Addr
  d_law_closed : FuncData
  a_law_charted : Addr
  d_law_charted : FuncData
  a_law : Addr
  d_law : FuncData
  c_Row : Addr
  k_GRIPS : Addr
  k_LEASES : Addr
  k_MODES : Addr
  k_SHARINGS : Addr
  k_START : Addr
  k_STILL : Addr
/-- what the top has written -/
structure Txt (K : PySem.W.Frag) (mg : Str → Option Value) (ad : Ad) : Prop where
  F_law_take : Fun K "_law_take" "_law_take" s_law_take ad.a_law_take ad.d_law_take
  b_law_take : Binds K ad.d_law_take ["deck", "many"] []
  m_law_take : mg "_law_take" = some (.ref ad.a_law_take)
  F_law_deck : Fun K "_law_deck" "_law_deck" s_law_deck ad.a_law_deck ad.d_law_deck
  b_law_deck : Binds K ad.d_law_deck ["script", "cells", "each"] []
  m_law_deck : mg "_law_deck" = some (.ref ad.a_law_deck)
  F_is_mark : Fun K "is_mark" "is_mark" s_is_mark ad.a_is_mark ad.d_is_mark
  b_is_mark : Binds K ad.d_is_mark ["mark", "marks"] []
  m_is_mark : mg "is_mark" = some (.ref ad.a_is_mark)
  F_is_rule : Fun K "is_rule" "is_rule" s_is_rule ad.a_is_rule ad.d_is_rule
  b_is_rule : Binds K ad.d_is_rule ["rule"] []
  m_is_rule : mg "is_rule" = some (.ref ad.a_is_rule)
  F_Row_init_ : Fun K "__init__" "Row.__init__" s_Row_init_ ad.a_Row_init_ ad.d_Row_init_
  b_Row_init_ : Binds K ad.d_Row_init_ ["self", "mode", "sharing", "lease", "grip", "rule"] []
  F_plain_row : Fun K "plain_row" "plain_row" s_plain_row ad.a_plain_row ad.d_plain_row
  b_plain_row : Binds K ad.d_plain_row ["mode"] []
  m_plain_row : mg "plain_row" = some (.ref ad.a_plain_row)
  F_law_wild_rule : Fun K "_law_wild_rule" "_law_wild_rule" s_law_wild_rule ad.a_law_wild_rule ad.d_law_wild_rule
  b_law_wild_rule : Binds K ad.d_law_wild_rule ["deck"] []
  m_law_wild_rule : mg "_law_wild_rule" = some (.ref ad.a_law_wild_rule)
  F_law_living_rule : Fun K "_law_living_rule" "_law_living_rule" s_law_living_rule ad.a_law_living_rule ad.d_law_living_rule
  b_law_living_rule : Binds K ad.d_law_living_rule ["deck"] []
  m_law_living_rule : mg "_law_living_rule" = some (.ref ad.a_law_living_rule)
  F_law_call_rule : Fun K "_law_call_rule" "_law_call_rule" s_law_call_rule ad.a_law_call_rule ad.d_law_call_rule
  b_law_call_rule : Binds K ad.d_law_call_rule ["deck"] []
  m_law_call_rule : mg "_law_call_rule" = some (.ref ad.a_law_call_rule)
  F_law_spoil : Fun K "_law_spoil" "_law_spoil" s_law_spoil ad.a_law_spoil ad.d_law_spoil
  b_law_spoil : Binds K ad.d_law_spoil ["deck", "rule"] []
  m_law_spoil : mg "_law_spoil" = some (.ref ad.a_law_spoil)
  F_law_spec : Fun K "_law_spec" "_law_spec" s_law_spec ad.a_law_spec ad.d_law_spec
  b_law_spec : Binds K ad.d_law_spec ["deck"] []
  m_law_spec : mg "_law_spec" = some (.ref ad.a_law_spec)
  F_law_row : Fun K "_law_row" "_law_row" s_law_row ad.a_law_row ad.d_law_row
  b_law_row : Binds K ad.d_law_row ["spec"] []
  m_law_row : mg "_law_row" = some (.ref ad.a_law_row)
  F_is_usable : Fun K "is_usable" "is_usable" s_is_usable ad.a_is_usable ad.d_is_usable
  b_is_usable : Binds K ad.d_is_usable ["row", "node"] []
  m_is_usable : mg "is_usable" = some (.ref ad.a_is_usable)
  F_can_happen : Fun K "can_happen" "can_happen" s_can_happen ad.a_can_happen ad.d_can_happen
  b_can_happen : Binds K ad.d_can_happen ["row", "node", "event", "first"] []
  m_can_happen : mg "can_happen" = some (.ref ad.a_can_happen)
  F_possible : Fun K "possible" "possible" s_possible ad.a_possible ad.d_possible
  b_possible : Binds K ad.d_possible ["row", "node", "first"] []
  m_possible : mg "possible" = some (.ref ad.a_possible)
  F_step : Fun K "step" "step" s_step ad.a_step ad.d_step
  b_step : Binds K ad.d_step ["row", "node", "event"] []
  m_step : mg "step" = some (.ref ad.a_step)
  F_law_usable : Fun K "_law_usable" "_law_usable" s_law_usable ad.a_law_usable ad.d_law_usable
  b_law_usable : Binds K ad.d_law_usable ["spec", "node"] []
  m_law_usable : mg "_law_usable" = some (.ref ad.a_law_usable)
  F_law_events : Fun K "_law_events" "_law_events" s_law_events ad.a_law_events ad.d_law_events
  b_law_events : Binds K ad.d_law_events ["spec", "node", "first"] []
  m_law_events : mg "_law_events" = some (.ref ad.a_law_events)
  F_law_next : Fun K "_law_next" "_law_next" s_law_next ad.a_law_next ad.d_law_next
  b_law_next : Binds K ad.d_law_next ["spec", "node", "event"] []
  m_law_next : mg "_law_next" = some (.ref ad.a_law_next)
  F_law_whole : Fun K "_law_whole" "_law_whole" s_law_whole ad.a_law_whole ad.d_law_whole
  b_law_whole : Binds K ad.d_law_whole ["value"] []
  m_law_whole : mg "_law_whole" = some (.ref ad.a_law_whole)
  F_law_same_node : Fun K "_law_same_node" "_law_same_node" s_law_same_node ad.a_law_same_node ad.d_law_same_node
  b_law_same_node : Binds K ad.d_law_same_node ["actual", "node"] []
  m_law_same_node : mg "_law_same_node" = some (.ref ad.a_law_same_node)
  F_law_path : Fun K "_law_path" "_law_path" s_law_path ad.a_law_path ad.d_law_path
  b_law_path : Binds K ad.d_law_path ["spec", "life"] []
  m_law_path : mg "_law_path" = some (.ref ad.a_law_path)
  F_chart : Fun K "chart" "chart" s_chart ad.a_chart ad.d_chart
  b_chart : Binds K ad.d_chart ["row"] []
  m_chart : mg "chart" = some (.ref ad.a_chart)
  F_law_rank : Fun K "_law_rank" "_law_rank" s_law_rank ad.a_law_rank ad.d_law_rank
  b_law_rank : Binds K ad.d_law_rank ["life"] []
  m_law_rank : mg "_law_rank" = some (.ref ad.a_law_rank)
  F_law_pairs : Fun K "_law_pairs" "_law_pairs" s_law_pairs ad.a_law_pairs ad.d_law_pairs
  b_law_pairs : Binds K ad.d_law_pairs ["spec", "answer"] []
  m_law_pairs : mg "_law_pairs" = some (.ref ad.a_law_pairs)
  F_law_closed : Fun K "_law_closed" "_law_closed" s_law_closed ad.a_law_closed ad.d_law_closed
  b_law_closed : Binds K ad.d_law_closed ["spec", "answer"] []
  m_law_closed : mg "_law_closed" = some (.ref ad.a_law_closed)
  F_law_charted : Fun K "_law_charted" "_law_charted" s_law_charted ad.a_law_charted ad.d_law_charted
  b_law_charted : Binds K ad.d_law_charted ["row", "spec"] []
  m_law_charted : mg "_law_charted" = some (.ref ad.a_law_charted)
  F_law : Fun K "law" "law" s_law ad.a_law ad.d_law
  b_law : Binds K ad.d_law ["script"] []
  m_law : mg "law" = some (.ref ad.a_law)
  cl_Row : Cls K ad.c_Row
  mg_Row : mg "Row" = some (.ref ad.c_Row)
  mk_Row : Mk K ad.c_Row ad.a_Row_init_
  n_Row_grip : NoAttr K ad.c_Row "grip"
  n_Row_lease : NoAttr K ad.c_Row "lease"
  n_Row_mode : NoAttr K ad.c_Row "mode"
  n_Row_rule : NoAttr K ad.c_Row "rule"
  n_Row_sharing : NoAttr K ad.c_Row "sharing"
  mc_EVENTS : ∃ u, mg "EVENTS" = some u ∧ RelV (.str "LGHRFD") u
  mc_GRIPS : mg "GRIPS" = some (.ref ad.k_GRIPS)
  tv_GRIPS : ∀ H : Hp, SqT K H ad.k_GRIPS [V.str "slot", V.str "place", V.str "pin"]
  mc_LEASES : mg "LEASES" = some (.ref ad.k_LEASES)
  tv_LEASES : ∀ H : Hp, SqT K H ad.k_LEASES [V.str "always", V.str "call"]
  mc_MODES : mg "MODES" = some (.ref ad.k_MODES)
  tv_MODES : ∀ H : Hp, SqT K H ad.k_MODES [V.str "held", V.str "copied", V.str "refused"]
  mc_MOST_CHANGE : ∃ u, mg "MOST_CHANGE" = some u ∧ RelV (.int 3) u
  mc_MOST_MARKS : ∃ u, mg "MOST_MARKS" = some u ∧ RelV (.int 4) u
  mc_SHARINGS : mg "SHARINGS" = some (.ref ad.k_SHARINGS)
  tv_SHARINGS : ∀ H : Hp, SqT K H ad.k_SHARINGS [V.str "one", V.str "each"]
  mc_START : mg "START" = some (.ref ad.k_START)
  tv_START : ∀ H : Hp, SqT K H ad.k_START [V.int 0, V.bl false, V.str "shut"]
  mc_STILL : mg "STILL" = some (.ref ad.k_STILL)
  tv_STILL : ∀ H : Hp, Dp K H (.ref ad.k_STILL) (.tuple [(.tuple [(.int (0)), (.int (0))]), (.tuple [(.int (0)), (.int (0))]), (.tuple [(.int (0)), (.int (0))]), (.tuple [(.int (0)), (.int (0))]), (.tuple [(.int (0)), (.int (0))]), (.tuple [(.int (0)), (.int (0))])])
  z_abs : mg "abs" = none
  z_bool : mg "bool" = none
  z_int : mg "int" = none
  z_isinstance : mg "isinstance" = none
  z_len : mg "len" = none
  z_list : mg "list" = none
  z_max : mg "max" = none
  z_min : mg "min" = none
  z_range : mg "range" = none
  z_str : mg "str" = none
  z_tuple : mg "tuple" = none
/-- the fields of Row, in order -/
def fs_Row (v_mode v_sharing v_lease v_grip v_rule : V) : List (Str × V) := [("mode", v_mode), ("sharing", v_sharing), ("lease", v_lease), ("grip", v_grip), ("rule", v_rule)]
theorem lk_Row_mode (v_mode v_sharing v_lease v_grip v_rule : V) : (fs_Row v_mode v_sharing v_lease v_grip v_rule).lookup ("mode" : Str) = some v_mode := by rfl
theorem lk_Row_sharing (v_mode v_sharing v_lease v_grip v_rule : V) : (fs_Row v_mode v_sharing v_lease v_grip v_rule).lookup ("sharing" : Str) = some v_sharing := by rfl
theorem lk_Row_lease (v_mode v_sharing v_lease v_grip v_rule : V) : (fs_Row v_mode v_sharing v_lease v_grip v_rule).lookup ("lease" : Str) = some v_lease := by rfl
theorem lk_Row_grip (v_mode v_sharing v_lease v_grip v_rule : V) : (fs_Row v_mode v_sharing v_lease v_grip v_rule).lookup ("grip" : Str) = some v_grip := by rfl
theorem lk_Row_rule (v_mode v_sharing v_lease v_grip v_rule : V) : (fs_Row v_mode v_sharing v_lease v_grip v_rule).lookup ("rule" : Str) = some v_rule := by rfl
theorem pf_Row_mode (v_mode : V) : putF "mode" v_mode ([] : List (Str × V)) = [(("mode" : Str), v_mode)] := by rfl
theorem pf_Row_sharing (v_mode v_sharing : V) : putF "sharing" v_sharing ([(("mode" : Str), v_mode)] : List (Str × V)) = [(("mode" : Str), v_mode), (("sharing" : Str), v_sharing)] := by rfl
theorem pf_Row_lease (v_mode v_sharing v_lease : V) : putF "lease" v_lease ([(("mode" : Str), v_mode), (("sharing" : Str), v_sharing)] : List (Str × V)) = [(("mode" : Str), v_mode), (("sharing" : Str), v_sharing), (("lease" : Str), v_lease)] := by rfl
theorem pf_Row_grip (v_mode v_sharing v_lease v_grip : V) : putF "grip" v_grip ([(("mode" : Str), v_mode), (("sharing" : Str), v_sharing), (("lease" : Str), v_lease)] : List (Str × V)) = [(("mode" : Str), v_mode), (("sharing" : Str), v_sharing), (("lease" : Str), v_lease), (("grip" : Str), v_grip)] := by rfl
theorem pf_Row_rule (v_mode v_sharing v_lease v_grip v_rule : V) : putF "rule" v_rule ([(("mode" : Str), v_mode), (("sharing" : Str), v_sharing), (("lease" : Str), v_lease), (("grip" : Str), v_grip)] : List (Str × V)) = fs_Row v_mode v_sharing v_lease v_grip v_rule := by rfl
theorem st_Row_mode (v_mode v_sharing v_lease v_grip v_rule w : V) : putF "mode" w (fs_Row v_mode v_sharing v_lease v_grip v_rule) = fs_Row w v_sharing v_lease v_grip v_rule := by rfl
theorem st_Row_sharing (v_mode v_sharing v_lease v_grip v_rule w : V) : putF "sharing" w (fs_Row v_mode v_sharing v_lease v_grip v_rule) = fs_Row v_mode w v_lease v_grip v_rule := by rfl
theorem st_Row_lease (v_mode v_sharing v_lease v_grip v_rule w : V) : putF "lease" w (fs_Row v_mode v_sharing v_lease v_grip v_rule) = fs_Row v_mode v_sharing w v_grip v_rule := by rfl
theorem st_Row_grip (v_mode v_sharing v_lease v_grip v_rule w : V) : putF "grip" w (fs_Row v_mode v_sharing v_lease v_grip v_rule) = fs_Row v_mode v_sharing v_lease w v_rule := by rfl
theorem st_Row_rule (v_mode v_sharing v_lease v_grip v_rule w : V) : putF "rule" w (fs_Row v_mode v_sharing v_lease v_grip v_rule) = fs_Row v_mode v_sharing v_lease v_grip w := by rfl
local macro_rules | `(tactic| walk_at "lk") => `(tactic| first | exact Toy.lk_Row_mode _ _ _ _ _ | exact Toy.lk_Row_sharing _ _ _ _ _ | exact Toy.lk_Row_lease _ _ _ _ _ | exact Toy.lk_Row_grip _ _ _ _ _ | exact Toy.lk_Row_rule _ _ _ _ _)
section
variable {P : Program} {w : World} {K : PySem.W.Frag} {mg : Str → Option Value} {base : Heap}
/-! ### the deck and its draws -/
theorem ok_law_takeC {ad : Ad} (T : Txt K mg ad) : FnOk P w K mg base CX0 1 ad.a_law_take ad.d_law_take ["deck", "many"] (Dk.spTakeC) := by
  refine T.F_law_take.ok sc_law_take (fun vs H Q E h => ?_) (fun cdv A outer s H vs Q E hr h => ?_)
  · obtain ⟨l, ns, m, rfl, h1, h2, h3, k⟩ := h
    rfl
  · obtain ⟨l, ns, m, rfl, h1, h2, h3, k⟩ := h
    refine ⟨_, (pss_cons (ps_if (pt_cmpR op_eq (pe_callB (id := "len") Rd.c_len (by rfl) T.z_len (by decide +kernel) (pa_cons (pv 0) pa_nil)) pe_int (nomark _)) (pss_one (ps_ret pe_int)) pss_nil)
      (pss_one (ps_ret (pe_op op_mod (pe_callTy (T := "int") Rd.c_int (by rfl) T.z_int (by decide +kernel) (pa_cons (pe_bm0 PySem.F.plainAttrs_list PySem.F.slot_list_pop PySem.F.type_list_pop mt_pop (pv 0)) pa_nil)) (pv 1))))), ?_⟩
    try dsimp only [L2.cxOf, L2.Cx.nox, L2.Cx.wish]
    change (_ : TS) _ ([some (.ref l), some (.int m)] : St) _
    have cl_Row := T.cl_Row
    have n_Row_grip := T.n_Row_grip
    have n_Row_lease := T.n_Row_lease
    have n_Row_mode := T.n_Row_mode
    have n_Row_rule := T.n_Row_rule
    have n_Row_sharing := T.n_Row_sharing
    have hd : L2.Same H H := Same.refl H
    walk_at "rd"
    refine Rd.ifd (fun c => ?_) (fun c => ?_)
    · walk_at "rd"
      have q := k 0 ns (by omega) h3 h2
      rw [Dk.upd_id h1] at q
      exact q
    · walk_at "rd"
      have hl : (ns.map V.int).length = ns.length := List.length_map ..
      have hp : 0 < ns.length := by
        rw [hl] at c
        omega
      have hz : (ns.map V.int)[(ns.map V.int).length - 1]? = some (V.int (ns[ns.length - 1]'(by omega))) := by
        rw [hl, List.getElem?_map, List.getElem?_eq_getElem (by omega)]
        rfl
      refine Rd.pop h1 hz ?_
      walk_at "rd"
      rw [← List.map_dropLast]
      exact k _ _ (Int.emod_nonneg _ (by omega)) (Int.emod_lt_of_pos _ h3) (by rw [List.length_dropLast]; omega)
theorem ok_law_take {ad : Ad} (T : Txt K mg ad) : FnOk P w K mg base CX0 1 ad.a_law_take ad.d_law_take ["deck", "many"] Dk.spTake := Dk.ok_take (ok_law_takeC T)
theorem ok_law_deckC {ad : Ad} (T : Txt K mg ad) : FnOk P w K mg base CX0 1 ad.a_law_deck ad.d_law_deck ["script", "cells", "each"] (Dk.spDeckC K) := by
  refine T.F_law_deck.ok sc_law_deck (fun vs H Q E h => ?_) (fun cdv A outer s H vs Q E hr h => ?_)
  · obtain ⟨a, ns, c, e, rfl, hS, hn, hc0, he0, hc1, he1, k⟩ := h
    rfl
  · obtain ⟨a, ns, c, e, rfl, hS, hn, hc0, he0, hc1, he1, k⟩ := h
    refine ⟨_, (pss_cons (ps_set (i := 3) sc_law_deck.nd rfl (Or.inl rfl) (pe_lst pa_nil))
      (pss_cons (ps_set (i := 4) sc_law_deck.nd rfl (Or.inl rfl) (pe_op op_add pe_int (pe_callB (id := "len") Rd.c_len (by rfl) T.z_len (by decide +kernel) (pa_cons (pv 0) pa_nil))))
      (pss_cons (ps_for PassesOwn.never rfl (pi_range1 rfl T.z_range (pa_cons (pv 1) pa_nil)) (pg_name (i := 5) sc_law_deck.nd rfl (Or.inl rfl)) (pss_cons (ps_set (i := 6) sc_law_deck.nd rfl (Or.inl rfl) pe_int)
      (Evl.pss_cut (ps_if (pt_cmpR op_lt (pv 5) (pe_callB (id := "len") Rd.c_len (by rfl) T.z_len (by decide +kernel) (pa_cons (pv 0) pa_nil)) (nomark _)) (pss_one (ps_set (i := 6) sc_law_deck.nd rfl (Or.inl rfl) (pe_ix ix_list (pv 0) (pv 5) (fun _ _ => rfl)))) pss_nil)
      (pss_cons (ps_set (i := 7) sc_law_deck.nd rfl (Or.inl rfl) (pe_callB (id := "abs") Rd.c_abs (by rfl) T.z_abs (by decide +kernel) (pa_cons (pv 6) pa_nil)))
      (pss_one (ps_if (pt_cmpR op_ge (pv 7) (pe_op op_pow pe_int pe_int) (nomark _)) (pss_one (ps_for PassesOwn.never rfl (pi_range1 rfl T.z_range (pa_cons (pv 2) pa_nil)) (pg_name (i := 8) sc_law_deck.nd rfl (Or.inl rfl)) (pss_cons (ps_expr (pe_bm PySem.F.plainAttrs_list PySem.F.slot_list_append PySem.F.type_list_append mt_append (pv 3) (pa_cons (pe_op op_mod (pe_callTy (T := "int") Rd.c_int (by rfl) T.z_int (by decide +kernel) (pa_cons (pv 7) pa_nil)) pe_int) pa_nil)))
      (pss_one (ps_set (i := 7) sc_law_deck.nd rfl (Or.inl rfl) (pe_op op_fdiv (pv 7) pe_int)))))) (pss_cons (ps_set (i := 4) sc_law_deck.nd rfl (Or.inl rfl) (pe_op op_mod (pe_callTy (T := "int") Rd.c_int (by rfl) T.z_int (by decide +kernel) (pa_cons (pe_op op_add (pe_op op_add (pe_op op_add (pe_op op_mul (pv 4) pe_int) (pe_op op_mul pe_int (pv 7))) (pe_callTy (T := "int") Rd.c_int (by rfl) T.z_int (by decide +kernel) (pa_cons (pe_cmpR op_lt (pv 6) pe_int (nomark _)) pa_nil))) (pv 5)) pa_nil)) pe_int))
      (pss_one (ps_for PassesOwn.never rfl (pi_range1 rfl T.z_range (pa_cons (pv 2) pa_nil)) (pg_name (i := 8) sc_law_deck.nd rfl (Or.inl rfl)) (pss_cons (ps_set (i := 4) sc_law_deck.nd rfl (Or.inl rfl) (pe_op op_mod (pe_callTy (T := "int") Rd.c_int (by rfl) T.z_int (by decide +kernel) (pa_cons (pe_op op_add (pe_op op_add (pe_op op_mul (pv 4) pe_int) (pv 8)) pe_int) pa_nil)) pe_int))
      (pss_one (ps_expr (pe_bm PySem.F.plainAttrs_list PySem.F.slot_list_append PySem.F.type_list_append mt_append (pv 3) (pa_cons (pe_op op_mod (pe_callTy (T := "int") Rd.c_int (by rfl) T.z_int (by decide +kernel) (pa_cons (pe_op op_fdiv (pv 4) pe_int) pa_nil)) pe_int) pa_nil))))))))))))))
      (pss_cons (ps_expr (pe_bm0 PySem.F.plainAttrs_list PySem.F.slot_list_reverse PySem.F.type_list_reverse mt_reverse (pv 3)))
      (pss_one (ps_ret (pv 3))))))), ?_⟩
    try dsimp only [L2.cxOf, L2.Cx.nox, L2.Cx.wish]
    change (_ : TS) _ ([some (.ref a), some (.int c), some (.int e), none, none, none, none, none, none] : St) _
    have cl_Row := T.cl_Row
    have n_Row_grip := T.n_Row_grip
    have n_Row_lease := T.n_Row_lease
    have n_Row_mode := T.n_Row_mode
    have n_Row_rule := T.n_Row_rule
    have n_Row_sharing := T.n_Row_sharing
    walk_at "rd"
    refine Rd.xlstU rfl fun l hl => ?_
    have hS1 : SqL K (upd H l (.lst [])) a (ns.map V.int) := Evl.ex_l (Evl.Ex.new hl) hS
    walk_at "rd"
    refine Rd.xfr1 ⟨by omega, by omega⟩ (fun i σ H' => ∃ (ms : List Int) (sd : Int) (v5 v6 v7 v8 : Option V), σ = [some (.ref a), some (.int c), some (.int e), some (.ref l), some (.int sd), v5, v6, v7, v8] ∧ H' = upd H l (.lst (ms.map V.int)) ∧ ms.length ≤ i * 64)
      ⟨[], _, none, none, none, none, rfl, rfl, Nat.zero_le _⟩ ?_ ?_
    · rintro i σ H' hi ⟨ms, sd, v5, v6, v7, v8, rfl, rfl, hm⟩
      have hS2 : SqL K (upd H l (.lst (ms.map V.int))) a (ns.map V.int) := Evl.ex_l (Evl.Ex.new hl) hS
      walk_at "rd"
      refine ⟨fun σ H' => ∃ cell : Int, σ = [some (.ref a), some (.int c), some (.int e), some (.ref l), some (.int sd), some (.int i), some (.int cell), v7, v8] ∧ H' = upd H l (.lst (ms.map V.int)), ?_, ?_⟩
      · walk_at "rd"
        refine Rd.ifd (fun h1 => ?_) (fun h1 => ?_)
        · walk_at "rd"
          rw [List.length_map] at h1
          refine Rd.ixL hS2 (atI_nat (j := i) (v := V.int (ns[i]'(by omega))) (by rw [List.getElem?_map, List.getElem?_eq_getElem (by omega)]; rfl)) ?_
          walk_at "rd"
          exact ⟨_, rfl, rfl⟩
        · walk_at "rd"
          exact ⟨_, rfl, rfl⟩
      · rintro σ H' ⟨cell, rfl, rfl⟩
        walk_at "rd"
        generalize hrest : (if cell < 0 then -cell else cell) = rest0
        refine Rd.ifd (fun h1 => ?_) (fun h1 => ?_)
        · walk_at "rd"
          refine Rd.xfr1 ⟨by omega, by omega⟩ (fun j σ H' => ∃ (ms' : List Int) (rest : Int) (v8 : Option V), σ = [some (.ref a), some (.int c), some (.int e), some (.ref l), some (.int sd), some (.int i), some (.int cell), some (.int rest), v8] ∧ H' = upd H l (.lst (ms'.map V.int)) ∧ ms'.length ≤ i * 64 + j)
            ⟨ms, _, _, rfl, rfl, hm⟩ ?_ ?_
          · rintro j σ H' hj ⟨ms', rest, v8, rfl, rfl, hm'⟩
            walk_at "rd"
            refine Rd.append upd_same (by rw [List.length_map]; omega) ?_
            walk_at "rd"
            exact ⟨ms' ++ [rest % 1000003], rest / 1000003, _, rfl, by rw [upd_upd, List.map_append]; rfl, by rw [List.length_append]; simp; omega⟩
          · rintro σ H' ⟨ms', rest, v8, rfl, rfl, hm'⟩
            exact ⟨ms', sd, _, _, _, _, rfl, rfl, by omega⟩
        · walk_at "rd"
          refine Rd.xfr1 ⟨by omega, by omega⟩ (fun j σ H' => ∃ (ms' : List Int) (sd : Int) (v8 : Option V), σ = [some (.ref a), some (.int c), some (.int e), some (.ref l), some (.int sd), some (.int i), some (.int cell), some (.int rest0), v8] ∧ H' = upd H l (.lst (ms'.map V.int)) ∧ ms'.length ≤ i * 64 + j)
            ⟨ms, _, _, rfl, rfl, hm⟩ ?_ ?_
          · rintro j σ H' hj ⟨ms', sd, v8, rfl, rfl, hm'⟩
            walk_at "rd"
            refine Rd.append upd_same (by rw [List.length_map]; omega) ?_
            walk_at "rd"
            exact ⟨ms' ++ [_], _, _, rfl, by rw [upd_upd, List.map_append]; rfl, by rw [List.length_append]; simp; omega⟩
          · rintro σ H' ⟨ms', sd, v8, rfl, rfl, hm'⟩
            exact ⟨ms', sd, _, _, _, _, rfl, rfl, by omega⟩
    · rintro σ H' ⟨ms, sd, v5, v6, v7, v8, rfl, rfl, hm⟩
      walk_at "rd"
      refine Rd.reverse upd_same ?_
      walk_at "rd"
      rw [upd_upd, ← List.map_reverse]
      exact k l ms.reverse _ hl rfl (by rw [List.length_reverse]; have := Int.toNat_of_nonneg hc0; omega)
theorem ok_law_deck {ad : Ad} (T : Txt K mg ad) : FnOk P w K mg base CX0 1 ad.a_law_deck ad.d_law_deck ["script", "cells", "each"] (Dk.spDeck K) := Dk.ok_deck (ok_law_deckC T)

/-! ### rules and rows -/
abbrev Rule := List (List (Int × Int))
def pairD (p : Int × Int) : PyData := .tuple [.int p.1, .int p.2]
def markL (m : List (Int × Int)) : PyData := .list (m.map pairD)
def markT (m : List (Int × Int)) : PyData := .tuple (m.map pairD)
def ruleL (R : Rule) : PyData := .list (R.map markL)
def ruleT (R : Rule) : PyData := .tuple (R.map markT)
theorem noL_pair (p : Int × Int) : Dt.noL (pairD p) = true := by simp [pairD, Dt.noL]
theorem noL_markT (m : List (Int × Int)) : Dt.noL (markT m) = true := by
  unfold markT Dt.noL
  rw [List.all_eq_true]
  rintro ⟨d, hd⟩ _
  obtain ⟨p, _, rfl⟩ := List.mem_map.mp hd
  exact noL_pair p
theorem noL_ruleT (R : Rule) : Dt.noL (ruleT R) = true := by
  unfold ruleT Dt.noL
  rw [List.all_eq_true]
  rintro ⟨d, hd⟩ _
  obtain ⟨p, _, rfl⟩ := List.mem_map.mp hd
  exact noL_markT p
theorem pair_inv {K : PySem.W.Frag} {H : Hp} {v : V} {p : Int × Int} (h : Dp K H v (pairD p)) : ∃ q, v = .ref q ∧ SqT K H q [.int p.1, .int p.2] := by
  obtain ⟨q, xs, e, hs, hA⟩ := Dt.inv_t h
  refine ⟨q, e, ?_⟩
  cases hA with
  | cons h1 hA => cases h1; cases hA with
    | cons h1 hA => cases h1; cases hA; exact hs
def markB (n : Int) (m : List (Int × Int)) : Bool := decide (m.length = 6) && m.all fun p => decide (0 ≤ p.1) && decide (p.1 < n) && decide (p.2.natAbs ≤ 3)
def ruleB (R : Rule) : Bool := decide (1 ≤ R.length) && decide (R.length ≤ 4) && R.all (markB R.length)
/-- what is drawn as a rule -/
def WF (R : Rule) : Prop := 1 ≤ R.length ∧ R.length ≤ 4 ∧ ∀ m ∈ R, m.length = 6 ∧ ∀ p ∈ m, 0 ≤ p.1 ∧ p.1 < R.length ∧ -3 ≤ p.2 ∧ p.2 ≤ 3
theorem wf_ruleB {R : Rule} (h : WF R) : ruleB R = true := by
  obtain ⟨h1, h2, h3⟩ := h
  unfold ruleB
  rw [decide_eq_true h1, decide_eq_true h2, Bool.true_and, Bool.true_and, List.all_eq_true]
  intro m hm
  obtain ⟨h4, h5⟩ := h3 m hm
  unfold markB
  rw [decide_eq_true h4, Bool.true_and, List.all_eq_true]
  intro p hp
  obtain ⟨h6, h7, h8, h9⟩ := h5 p hp
  rw [decide_eq_true h6, decide_eq_true h7, decide_eq_true (by omega)]
  rfl
theorem mem_get {α : Type} {l : List α} {i : Nat} {x : α} (h : l[i]? = some x) : x ∈ l := List.mem_of_getElem? h
theorem mapA {K : PySem.W.Frag} {H : Hp} {α : Type} {f : α → PyData} {vs : List V} {ms : List α} {i : Nat} {v : V} (h : DpAll K H vs (ms.map f)) (hi : vs[i]? = some v) : ∃ m, ms[i]? = some m ∧ Dp K H v (f m) := by
  obtain ⟨d, hd, hv⟩ := Dt.getA1 h hi
  rw [List.getElem?_map] at hd
  cases e : ms[i]? with
  | none => rw [e] at hd; cases hd
  | some m => rw [e] at hd; cases hd; exact ⟨m, rfl, hv⟩
theorem mapA2 {K : PySem.W.Frag} {H : Hp} {α : Type} {f : α → PyData} {vs : List V} {ms : List α} {i : Nat} {m : α} (h : DpAll K H vs (ms.map f)) (hi : ms[i]? = some m) : ∃ v, vs[i]? = some v ∧ Dp K H v (f m) :=
  Dt.getA2 h (by rw [List.getElem?_map, hi]; rfl)
theorem lenMap {K : PySem.W.Frag} {H : Hp} {α : Type} {f : α → PyData} {vs : List V} {ms : List α} (h : DpAll K H vs (ms.map f)) : vs.length = ms.length := by rw [Dt.lenA h, List.length_map]
def spMark (K : PySem.W.Frag) : Sp := fun vs H Q _ => ∃ (a : Addr) (m : List (Int × Int)) (n : Int), vs = [.ref a, .int n] ∧ Dp K H (.ref a) (markT m) ∧ Q (.bl (markB n m)) H
theorem ok_is_mark {ad : Ad} (T : Txt K mg ad) : FnOk P w K mg base CX0 1 ad.a_is_mark ad.d_is_mark ["mark", "marks"] (spMark K) := by
  refine T.F_is_mark.ok sc_is_mark (fun vs H Q E h => ?_) (fun cdv A outer s H vs Q E hr h => ?_)
  · obtain ⟨a, m, n, rfl, hm, k⟩ := h
    rfl
  · obtain ⟨a, m, n, rfl, hm, k⟩ := h
    refine ⟨_, (pss_cons (ps_if (pt_cmpR op_ne (pe_callB (id := "len") Rd.c_len (by rfl) T.z_len (by decide +kernel) (pa_cons (pv 0) pa_nil)) (pe_callB (id := "len") Rd.c_lenS (by rfl) T.z_len (by decide +kernel) (pa_cons (C8.pe_gc (v := .str "LGHRFD") rfl T.mc_EVENTS) pa_nil)) (nomark _)) (pss_one (ps_ret pe_bl)) pss_nil)
      (pss_cons (ps_for PassesOwn.never rfl (pi_tup (pv 0)) (pg_tup rfl (pgs_cons (pg_name (i := 2) sc_is_mark.nd rfl (Or.inl rfl)) (pgs_cons (pg_name (i := 3) sc_is_mark.nd rfl (Or.inl rfl)) pgs_nil))) (pss_one (ps_if (PW.pt (pw_or (pt_not (pt_chain op_le op_lt pe_int (pv 2) (pv 1))) (pw_or1 (pt_cmpR op_gt (pe_callB (id := "abs") Rd.c_abs (by rfl) T.z_abs (by decide +kernel) (pa_cons (pv 3) pa_nil)) (C8.pe_gc (v := .int 3) rfl T.mc_MOST_CHANGE) (nomark _))))) (pss_one (ps_ret pe_bl)) pss_nil)))
      (pss_one (ps_ret pe_bl)))), ?_⟩
    try dsimp only [L2.cxOf, L2.Cx.nox, L2.Cx.wish]
    change (_ : TS) _ ([some (.ref a), some (.int n), none, none] : St) _
    obtain ⟨a', vs, e, hs, hA⟩ := Dt.inv_t hm
    cases e
    have hl := lenMap hA
    walk_at "rd"
    refine Rd.lenSL (n := 6) rfl (by decide) ?_
    walk_at "rd"
    refine Rd.ifNd (fun c => ?_) (fun c => ?_)
    · walk_at "rd"
      have e : markB n m = false := by unfold markB; rw [decide_eq_false (by omega)]; rfl
      rw [e] at k
      exact k
    · walk_at "rd"
      have h6 : m.length = 6 := by omega
      refine Rd.xft hs (fun i σ H' => ∃ v2 v3, σ = [some (.ref a), some (.int n), v2, v3] ∧ H' = H ∧ (m.take i).all (fun p => decide (0 ≤ p.1) && decide (p.1 < n) && decide (p.2.natAbs ≤ 3)) = true) ⟨_, _, rfl, rfl, rfl⟩ (fun i σ H' _ ⟨_, _, _, e, _⟩ => by rw [e]; exact hs) ?_ ?_
      · rintro i y σ Hc hi ⟨v2, v3, rfl, rfl, hal⟩
        obtain ⟨p, hp, hv⟩ := mapA hA hi
        obtain ⟨q, rfl, hq⟩ := pair_inv hv
        have bad : ¬ (0 ≤ p.1 ∧ p.1 < n ∧ p.2.natAbs ≤ 3) → markB n m = false := fun hb => by
          unfold markB
          rw [Bool.and_eq_false_iff]
          right
          rw [List.all_eq_false]
          refine ⟨p, mem_get hp, ?_⟩
          simp
          omega
        have good : 0 ≤ p.1 ∧ p.1 < n ∧ p.2.natAbs ≤ 3 → (m.take (i + 1)).all (fun p => decide (0 ≤ p.1) && decide (p.1 < n) && decide (p.2.natAbs ≤ 3)) = true := fun ⟨g1, g2, g3⟩ => by
          rw [List.take_add_one, hp, List.all_append, hal]
          simp [g1, g2, g3]
        walk_at "rd"
        refine Rd.ifd (fun c1 => ?_) (fun c1 => ?_)
        · walk_at "rd"
          refine Rd.ifNd (fun c2 => ?_) (fun c2 => ?_)
          · walk_at "rd"
            rw [bad (by omega)] at k
            exact k
          · walk_at "rd"
            refine Rd.ifd (fun c3 => ?_) (fun c3 => ?_)
            · walk_at "rd"
              rw [bad (by omega)] at k
              exact k
            · walk_at "rd"
              exact ⟨_, _, rfl, rfl, good (by omega)⟩
        · walk_at "rd"
          rw [bad (by omega)] at k
          exact k
      · rintro σ Hc ⟨v2, v3, rfl, rfl, hal⟩
        walk_at "rd"
        have e : markB n m = true := by
          unfold markB
          rw [decide_eq_true h6, Bool.true_and]
          rw [hl, List.take_length] at hal
          exact hal
        rw [e] at k
        exact k
def spRule (K : PySem.W.Frag) : Sp := fun vs H Q _ => ∃ (a : Addr) (R : Rule), vs = [.ref a] ∧ Dp K H (.ref a) (.list (R.map markT)) ∧ Q (.bl (ruleB R)) H
theorem ok_is_rule {ad : Ad} (T : Txt K mg ad) : FnOk P w K mg base CX0 2 ad.a_is_rule ad.d_is_rule ["rule"] (spRule K) := by
  refine T.F_is_rule.ok sc_is_rule (fun vs H Q E h => ?_) (fun cdv A outer s H vs Q E hr h => ?_)
  · obtain ⟨a, R, rfl, hR, k⟩ := h
    rfl
  · obtain ⟨a, R, rfl, hR, k⟩ := h
    refine ⟨_, (pss_cons (ps_if (pt_not (pt_chain op_le op_le pe_int (pe_callB (id := "len") Rd.c_len (by rfl) T.z_len (by decide +kernel) (pa_cons (pv 0) pa_nil)) (C8.pe_gc (v := .int 4) rfl T.mc_MOST_MARKS))) (pss_one (ps_ret pe_bl)) pss_nil)
      (pss_cons (ps_for PassesOwn.never rfl (pi_list (pv 0)) (pg_name (i := 1) sc_is_rule.nd rfl (Or.inl rfl)) (pss_one (ps_if (pt_not (pt_val (pe_call (ok_is_mark T) (hr.mono (by decide)) rfl T.m_is_mark T.F_is_mark.kp T.b_is_mark .nil pass0 (pa_cons (pv 1) (pa_cons (pe_callB (id := "len") Rd.c_len (by rfl) T.z_len (by decide +kernel) (pa_cons (pv 0) pa_nil)) pa_nil))))) (pss_one (ps_ret pe_bl)) pss_nil)))
      (pss_one (ps_ret pe_bl)))), ?_⟩
    try dsimp only [L2.cxOf, L2.Cx.nox, L2.Cx.wish]
    change (_ : TS) _ ([some (.ref a), none] : St) _
    obtain ⟨a', vs, e, hs, hA⟩ := Dt.inv_l hR
    cases e
    have hl := lenMap hA
    obtain ⟨u, hu, ru⟩ := T.mc_MOST_MARKS
    walk_at "rd"
    refine Rd.ifd (fun c1 => ?_) (fun c1 => ?_)
    · walk_at "rd"
      refine Rd.ifNd (fun c2 => ?_) (fun c2 => ?_)
      · walk_at "rd"
        have e : ruleB R = false := by unfold ruleB; rw [decide_eq_false (p := R.length ≤ 4) (by omega)]; simp
        rw [e] at k
        exact k
      · walk_at "rd"
        refine Rd.xfl hs (fun i σ H' => ∃ v1, σ = [some (.ref a), v1] ∧ H' = H ∧ (R.take i).all (markB R.length) = true) ⟨_, rfl, rfl, rfl⟩ (fun i σ H' _ ⟨_, _, e, _⟩ => by rw [e]; exact hs) ?_ ?_
        · rintro i y σ Hc hi ⟨v1, rfl, rfl, hal⟩
          obtain ⟨m, hm, hv⟩ := mapA hA hi
          obtain ⟨am, vm, rfl, hsm, hAm⟩ := Dt.inv_t hv
          walk_at "rd"
          refine ⟨am, m, (vs.length : Int), rfl, hv, ?_⟩
          rw [hl]
          walk_at "rd"
          cases hb : markB R.length m with
          | false =>
            walk_at "rd"
            have e : ruleB R = false := by
              unfold ruleB
              rw [Bool.and_eq_false_iff]
              right
              rw [List.all_eq_false]
              exact ⟨m, mem_get hm, by rw [hb]; decide⟩
            rw [e] at k
            exact k
          | true =>
            walk_at "rd"
            refine ⟨_, rfl, rfl, ?_⟩
            rw [List.take_add_one, hm, List.all_append, hal]
            simp [hb]
        · rintro σ Hc ⟨v1, rfl, rfl, hal⟩
          walk_at "rd"
          have e : ruleB R = true := by
            unfold ruleB
            rw [decide_eq_true (p := 1 ≤ R.length) (by omega), decide_eq_true (p := R.length ≤ 4) (by omega), Bool.true_and, Bool.true_and]
            rw [hl, List.take_length] at hal
            exact hal
          rw [e] at k
          exact k
    · walk_at "rd"
      have e : ruleB R = false := by unfold ruleB; rw [decide_eq_false (p := 1 ≤ R.length) (by omega)]; rfl
      rw [e] at k
      exact k
def still6 : List (Int × Int) := [(0, 0), (0, 0), (0, 0), (0, 0), (0, 0), (0, 0)]
/-- the parts of a row, in order -/
def RowOk (mo sh le gr : Str) (R : Rule) : Prop := ruleB R = true ∧ ((mo = "held" ∧ (sh = "one" ∨ sh = "each") ∧ (le = "always" ∨ le = "call") ∧ (gr = "slot" ∨ gr = "place" ∨ gr = "pin")) ∨ ((mo = "copied" ∨ mo = "refused") ∧ sh = "one" ∧ le = "always" ∧ gr = "slot" ∧ R = [still6]))
def Marks (ds : List PyData) (R : Rule) : Prop := ds = R.map markL ∨ ds = R.map markT
theorem marks_len {ds : List PyData} {R : Rule} (h : Marks ds R) : ds.length = R.length := by rcases h with rfl | rfl <;> rw [List.length_map]
theorem marks_get {K : PySem.W.Frag} {H : Hp} {vs : List V} {ds : List PyData} {R : Rule} {i : Nat} {v : V} (h : Marks ds R) (hA : DpAll K H vs ds) (hi : vs[i]? = some v) : ∃ m am vm, R[i]? = some m ∧ v = .ref am ∧ (SqL K H am vm ∨ SqT K H am vm) ∧ DpAll K H vm (m.map pairD) := by
  rcases h with rfl | rfl
  · obtain ⟨m, hm, hv⟩ := mapA hA hi
    obtain ⟨am, vm, e, hs, hd⟩ := Dt.inv_l hv
    exact ⟨m, am, vm, hm, e, .inl hs, hd⟩
  · obtain ⟨m, hm, hv⟩ := mapA hA hi
    obtain ⟨am, vm, e, hs, hd⟩ := Dt.inv_t hv
    exact ⟨m, am, vm, hm, e, .inr hs, hd⟩
/-- a row at r -/
def RowAt (K : PySem.W.Frag) (C : Addr) (H : Hp) (r : Addr) (mo sh le gr : Str) (R : Rule) : Prop := ∃ dx tr, H r = some (.ins C dx (fs_Row (.str mo) (.str sh) (.str le) (.str gr) (.ref tr))) ∧ Dp K H (.ref tr) (ruleT R)
theorem RowAt.mono {K : PySem.W.Frag} {C : Addr} {H H' : Hp} {r : Addr} {mo sh le gr : Str} {R : Rule} (h : RowAt K C H r mo sh le gr R) (e : Evl.Ex H H') : RowAt K C H' r mo sh le gr R := by
  obtain ⟨dx, tr, h1, h2⟩ := h
  exact ⟨dx, tr, e _ _ h1, Dt.mn h2 e⟩

def spRowI (C : Addr) (K : PySem.W.Frag) : Sp := fun vs H Q _ => ∃ (x dx rl : Addr) (mo sh le gr : Str) (R : Rule) (ds : List PyData), vs = [.ref x, .str mo, .str sh, .str le, .str gr, .ref rl] ∧ H x = some (.ins C dx []) ∧ Dp K H (.ref rl) (.list ds) ∧ Marks ds R ∧ R.length ≤ 100 ∧ RowOk mo sh le gr R ∧
  ∀ (tr : Addr) (H' : Hp), H' x = some (.ins C dx (fs_Row (.str mo) (.str sh) (.str le) (.str gr) (.ref tr))) → Dp K H' (.ref tr) (ruleT R) → (∀ b o, b ≠ x → H b = some o → H' b = some o) → Q .non H'
theorem exBut2 {H H1 H2 : Hp} {x : Addr} {o : HO} (e : Evl.Ex H H1) (h : ∀ b o, b ≠ x → H1 b = some o → H2 b = some o) : ∀ b o, b ≠ x → H b = some o → H2 b = some o := fun b o hb hbo => h b o hb (e b o hbo)
theorem ok_Row_init_ {ad : Ad} (T : Txt K mg ad) : FnOk P w K mg base CX0 3 ad.a_Row_init_ ad.d_Row_init_ ["self", "mode", "sharing", "lease", "grip", "rule"] (spRowI ad.c_Row K) := by
  refine T.F_Row_init_.ok sc_Row_init_ (fun vs H Q E h => ?_) (fun cdv A outer s H vs Q E hr h => ?_)
  · obtain ⟨x, dx, rl, mo, sh, le, gr, R, ds, rfl, hx, hR, hds, hR100, ⟨hrule, hok⟩, k⟩ := h
    rfl
  · obtain ⟨x, dx, rl, mo, sh, le, gr, R, ds, rfl, hx, hR, hds, hR100, ⟨hrule, hok⟩, k⟩ := h
    refine ⟨_, (Evl.pss_cut (ps_if (pt_cmpR op_notIn_seq (pv 1) (pe_glob (v := .ref ad.k_MODES) rfl T.mc_MODES rfl) (by with_unfolding_all rfl)) (pss_one ps_never) pss_nil)
      (pss_cons (ps_set (i := 6) sc_Row_init_.nd rfl (Or.inl rfl) (pe_cmpR op_eq (pv 1) pe_str (nomark _)))
      (Evl.pss_cut (ps_if (PW.pt (pw_or (pt_cmpR op_notIn_seq (pv 2) (pe_glob (v := .ref ad.k_SHARINGS) rfl T.mc_SHARINGS rfl) (by with_unfolding_all rfl)) (pw_or1 (PW.pt (pw_and (pt_not (pt_val (pv 6))) (pw_and1 (pt_cmpR op_ne (pv 2) pe_str (nomark _)))))))) (pss_one ps_never) pss_nil)
      (Evl.pss_cut (ps_if (PW.pt (pw_or (pt_cmpR op_notIn_seq (pv 3) (pe_glob (v := .ref ad.k_LEASES) rfl T.mc_LEASES rfl) (by with_unfolding_all rfl)) (pw_or1 (PW.pt (pw_and (pt_not (pt_val (pv 6))) (pw_and1 (pt_cmpR op_ne (pv 3) pe_str (nomark _)))))))) (pss_one ps_never) pss_nil)
      (Evl.pss_cut (ps_if (PW.pt (pw_or (pt_cmpR op_notIn_seq (pv 4) (pe_glob (v := .ref ad.k_GRIPS) rfl T.mc_GRIPS rfl) (by with_unfolding_all rfl)) (pw_or1 (PW.pt (pw_and (pt_not (pt_val (pv 6))) (pw_and1 (pt_cmpR op_ne (pv 4) pe_str (nomark _)))))))) (pss_one ps_never) pss_nil)
      (pss_cons (ps_set (i := 7) sc_Row_init_.nd rfl (Or.inl rfl) (pe_lst pa_nil))
      (pss_cons (ps_for PassesOwn.never rfl (pi_list (pv 5)) (pg_name (i := 8) sc_Row_init_.nd rfl (Or.inl rfl)) (pss_one (ps_expr (pe_bm PySem.F.plainAttrs_list PySem.F.slot_list_append PySem.F.type_list_append mt_append (pv 7) (pa_cons (pe_callTy (T := "tuple") Rd.c_tup (by rfl) T.z_tuple (by decide +kernel) (pa_cons (pe_lc (own := [("pair", 9)]) (g := gName 9) (tt := tYes) rfl sc_Row_init_.nd (Rd.pi_seq (pv 8)) (blkOk_by (N := ["self", "mode", "sharing", "lease", "grip", "rule", "held", "marks", "mark", "pair"]) (sc := defScope s_Row_init_) (by decide +kernel)) (fun _ _ _ _ _ => (pg_name (i := 9) sc_Row_init_.nd rfl (Or.inl rfl))) (fun _ _ _ _ _ => pts_nil) (fun _ _ _ _ _ => (pe_callTy (T := "tuple") (Rd.c_tup : CallR _ _ (Rd.rTupOf K)) (by rfl) T.z_tuple (by decide +kernel) (pa_cons (pv 9) pa_nil)))) pa_nil)) pa_nil)))))
      (Evl.pss_cut (ps_if (PW.pt (pw_or (pt_not (pt_val (pe_call (ok_is_rule T) (hr.mono (by decide)) rfl T.m_is_rule T.F_is_rule.kp T.b_is_rule .nil pass0 (pa_cons (pv 7) pa_nil)))) (pw_or1 (PW.pt (pw_and (pt_not (pt_val (pv 6))) (pw_and1 (pt_cmpR (op_neD hr.units) (pv 7) (pe_lst (pa_cons (pe_glob (v := .ref ad.k_STILL) rfl T.mc_STILL rfl) pa_nil)) (nomark _)))))))) (pss_one ps_never) pss_nil)
      (pss_cons (ps_fld (pv 0) (pv 1) rfl)
      (pss_cons (ps_fld (pv 0) (pv 2) rfl)
      (pss_cons (ps_fld (pv 0) (pv 3) rfl)
      (pss_cons (ps_fld (pv 0) (pv 4) rfl)
      (pss_one (ps_fld (pv 0) (pe_callTy (T := "tuple") Rd.c_tup (by rfl) T.z_tuple (by decide +kernel) (pa_cons (pv 7) pa_nil)) rfl)))))))))))))), ?_⟩
    try dsimp only [L2.cxOf, L2.Cx.nox, L2.Cx.wish]
    change (_ : TS) _ ([some (.ref x), some (.str mo), some (.str sh), some (.str le), some (.str gr), some (.ref rl), none, none, none, none] : St) _
    have cl_Row := T.cl_Row
    have n_Row_grip := T.n_Row_grip
    have n_Row_lease := T.n_Row_lease
    have n_Row_mode := T.n_Row_mode
    have n_Row_rule := T.n_Row_rule
    have n_Row_sharing := T.n_Row_sharing
    have hmo : inV (.str mo) [V.str "held", V.str "copied", V.str "refused"] = true := by
      rcases hok with ⟨rfl, _⟩ | ⟨rfl | rfl, _⟩ <;> decide +kernel
    have hsh : inV (.str sh) [V.str "one", V.str "each"] = true := by
      rcases hok with ⟨_, rfl | rfl, _⟩ | ⟨_, rfl, _⟩ <;> decide +kernel
    have hle : inV (.str le) [V.str "always", V.str "call"] = true := by
      rcases hok with ⟨_, _, rfl | rfl, _⟩ | ⟨_, _, rfl, _⟩ <;> decide +kernel
    have hgr : inV (.str gr) [V.str "slot", V.str "place", V.str "pin"] = true := by
      rcases hok with ⟨_, _, _, rfl | rfl | rfl⟩ | ⟨_, _, _, rfl, _⟩ <;> decide +kernel
    have hcase : mo = "held" ∨ (¬ mo = "held" ∧ sh = "one" ∧ le = "always" ∧ gr = "slot" ∧ R = [still6]) := by
      rcases hok with ⟨h, _⟩ | ⟨h, h1, h2, h3, h4⟩
      · exact .inl h
      · refine .inr ⟨?_, h1, h2, h3, h4⟩
        rcases h with rfl | rfl <;> decide +kernel
    obtain ⟨al, vs, eal, hs, hA⟩ := Dt.inv_l hR
    cases eal
    have hl : vs.length = R.length := by rw [Dt.lenA hA, marks_len hds]
    walk_at "rd"
    refine ⟨fun σ H' => σ = [some (.ref x), some (.str mo), some (.str sh), some (.str le), some (.str gr), some (.ref rl), none, none, none, none] ∧ H' = H, ?_, ?_⟩
    · walk_at "rd"
      refine Rd.ninT (T.tv_MODES H) rfl rfl hmo ?_
      walk_at "rd"
      exact ⟨rfl, rfl⟩
    rintro σ Hc ⟨rfl, rfl⟩
    walk_at "rd"
    refine ⟨fun σ H' => σ = [some (.ref x), some (.str mo), some (.str sh), some (.str le), some (.str gr), some (.ref rl), some (.bl (decide (mo = "held"))), none, none, none] ∧ H' = Hc, ?_, ?_⟩
    · walk_at "rd"
      refine Rd.ninT (T.tv_SHARINGS _) rfl rfl hsh ?_
      walk_at "rd"
      rcases hcase with h | ⟨h, h1, _⟩
      · walk_at "rd"
        exact ⟨rfl, rfl⟩
      · subst h1
        walk_at "rd"
        exact ⟨rfl, rfl⟩
    rintro σ Hd ⟨rfl, rfl⟩
    walk_at "rd"
    refine ⟨fun σ H' => σ = [some (.ref x), some (.str mo), some (.str sh), some (.str le), some (.str gr), some (.ref rl), some (.bl (decide (mo = "held"))), none, none, none] ∧ H' = Hd, ?_, ?_⟩
    · walk_at "rd"
      refine Rd.ninT (T.tv_LEASES _) rfl rfl hle ?_
      walk_at "rd"
      rcases hcase with h | ⟨h, _, h1, _⟩
      · walk_at "rd"
        exact ⟨rfl, rfl⟩
      · subst h1
        walk_at "rd"
        exact ⟨rfl, rfl⟩
    rintro σ He ⟨rfl, rfl⟩
    walk_at "rd"
    refine ⟨fun σ H' => σ = [some (.ref x), some (.str mo), some (.str sh), some (.str le), some (.str gr), some (.ref rl), some (.bl (decide (mo = "held"))), none, none, none] ∧ H' = He, ?_, ?_⟩
    · walk_at "rd"
      refine Rd.ninT (T.tv_GRIPS _) rfl rfl hgr ?_
      walk_at "rd"
      rcases hcase with h | ⟨h, _, _, h1, _⟩
      · walk_at "rd"
        exact ⟨rfl, rfl⟩
      · subst h1
        walk_at "rd"
        exact ⟨rfl, rfl⟩
    rintro σ Hf ⟨rfl, rfl⟩
    walk_at "rd"
    refine Rd.xlst rfl fun lm H1 nm e1 hlm => ?_
    walk_at "rd"
    refine Rd.xfl (K := K) (xs := vs) (Evl.ex_l e1 hs) (fun i σ H' => ∃ v8, σ = [some (.ref x), some (.str mo), some (.str sh), some (.str le), some (.str gr), some (.ref rl), some (.bl (decide (mo = "held"))), some (.ref lm), v8, none] ∧ Evl.Ex Hf H' ∧ ∃ ws, H' lm = some (.lst ws) ∧ DpAll K H' ws ((R.take i).map markT)) ⟨_, rfl, e1, [], hlm, .nil⟩ (fun i σ H' _ ⟨_, _, e, _⟩ => Evl.ex_l e hs) ?_ ?_
    · rintro i y σ H2 hi ⟨v8, rfl, e2, ws, hw, hwA⟩
      obtain ⟨m, am, vm, hm, rfl, hsm0, hAm0⟩ := marks_get hds hA hi
      have hAm := Dt.mnA hAm0 e2
      have hwl := lenMap hwA
      have hm100 : vm.length ≤ 40000 := by
        have h1 := lenMap hAm
        have h2 : markB R.length m = true := by
          unfold ruleB at hrule
          rw [Bool.and_eq_true, List.all_eq_true] at hrule
          exact hrule.2 m (mem_get hm)
        unfold markB at h2
        rw [Bool.and_eq_true, decide_eq_true_eq] at h2
        omega
      walk_at "rd"
      have hel : ∀ (j : Nat) (z : V) (Hz : Hp), Evl.Ex H2 Hz → vm[j]? = some z → ∀ H4, Evl.Ex Hz H4 → ∃ q, z = .ref q ∧ vm.getD j .non = .ref q ∧ ∃ a b, SqT K H4 q [.int a, .int b] := by
        intro j z Hz ez hz H4 e4
        obtain ⟨p, hp, hpv⟩ := mapA hAm hz
        obtain ⟨q, rfl, hq⟩ := pair_inv hpv
        exact ⟨q, rfl, by rw [List.getD_eq_getElem?_getD, hz]; rfl, _, _, Evl.ex_t (ez.trans e4) hq⟩
      have hgv : Evl.given vm.length (fun _ => true) (fun j => vm.getD j .non) = vm := by
        rw [Rd.given_all]
        refine List.ext_getElem? fun j => ?_
        rw [List.getElem?_map]
        by_cases hj : j < vm.length
        · rw [List.getElem?_range hj, Option.map_some, List.getD_eq_getElem?_getD, List.getElem?_eq_getElem hj]; rfl
        · rw [List.getElem?_eq_none (by rw [List.length_range]; omega), List.getElem?_eq_none (by omega)]; rfl
      rcases hsm0 with hsm0 | hsm0
      · refine Rd.lcQL ?_
        walk_at "rd"
        refine Rd.xlcL (xs := vm) (fun _ => true) (fun j => vm.getD j .non) (Evl.ex_l e2 hsm0) hm100 (fun _ => rfl) (fun _ _ _ _ _ => Rd.evYes) (fun j z Hz ez hz _ H4 e4 Q4 q4 => ?_) fun lc H3 nc e3 hc => ?_
        · obtain ⟨q, rfl, hgd, a, b, hq4⟩ := hel j z Hz ez hz H4 e4
          walk_at "rd"
          rw [hgd] at q4
          exact q4 _ (Evl.Ex.refl _)
        rw [hgv] at hc
        walk_at "rd"
        intro lt H4 nt e4 ht
        have e24 := e3.trans e4
        have hw4 := e24 _ _ hw
        walk_at "rd"
        refine Rd.append hw4 (by rw [List.length_take] at hwl; omega) ?_
        walk_at "rd"
        refine ⟨_, rfl, Evl.Ex.mut (e2.trans e24) nm, _, upd_same, ?_⟩
        have hnew : Dp K H4 (.ref lt) (markT m) := Dt.ofT ht (Dt.mnA hAm e24)
        have hall : DpAll K H4 (ws ++ [.ref lt]) ((R.take (i + 1)).map markT) := by
          rw [List.take_add_one, hm, List.map_append]
          exact Dt.snocA (Dt.mnA hwA e24) hnew
        exact Dt.updLA hw4 _ _ (fun d hd => by obtain ⟨m', _, rfl⟩ := List.mem_map.mp hd; exact noL_markT m') hall
      · refine Rd.lcQT ?_
        walk_at "rd"
        refine Rd.xlcT (xs := vm) (fun _ => true) (fun j => vm.getD j .non) (Evl.ex_t e2 hsm0) hm100 (fun _ => rfl) (fun _ _ _ _ _ => Rd.evYes) (fun j z Hz ez hz _ H4 e4 Q4 q4 => ?_) fun lc H3 nc e3 hc => ?_
        · obtain ⟨q, rfl, hgd, a, b, hq4⟩ := hel j z Hz ez hz H4 e4
          walk_at "rd"
          rw [hgd] at q4
          exact q4 _ (Evl.Ex.refl _)
        rw [hgv] at hc
        walk_at "rd"
        intro lt H4 nt e4 ht
        have e24 := e3.trans e4
        have hw4 := e24 _ _ hw
        walk_at "rd"
        refine Rd.append hw4 (by rw [List.length_take] at hwl; omega) ?_
        walk_at "rd"
        refine ⟨_, rfl, Evl.Ex.mut (e2.trans e24) nm, _, upd_same, ?_⟩
        have hnew : Dp K H4 (.ref lt) (markT m) := Dt.ofT ht (Dt.mnA hAm e24)
        have hall : DpAll K H4 (ws ++ [.ref lt]) ((R.take (i + 1)).map markT) := by
          rw [List.take_add_one, hm, List.map_append]
          exact Dt.snocA (Dt.mnA hwA e24) hnew
        exact Dt.updLA hw4 _ _ (fun d hd => by obtain ⟨m', _, rfl⟩ := List.mem_map.mp hd; exact noL_markT m') hall
    · rintro σ H2 ⟨v8, rfl, e2, ws, hw, hwA⟩
      rw [hl, List.take_length] at hwA
      walk_at "rd"
      refine ⟨fun σ H' => σ = [some (.ref x), some (.str mo), some (.str sh), some (.str le), some (.str gr), some (.ref rl), some (.bl (decide (mo = "held"))), some (.ref lm), v8, none] ∧ Evl.Ex H2 H', ?_, ?_⟩
      · walk_at "rd"
        refine ⟨lm, R, rfl, Dt.ofL hw hwA, ?_⟩
        rw [hrule]
        walk_at "rd"
        rcases hcase with h | ⟨h, _, _, _, h1⟩
        · walk_at "rd"
          exact ⟨rfl, Evl.Ex.refl _⟩
        · subst h1
          walk_at "rd"
          refine Rd.xlst rfl fun ls H3 ns e3 hls => ?_
          refine Rd.neDr (d := .list [markT still6]) (Dt.ofL (e3 _ _ hw) (Dt.mnA hwA e3)) (Dt.ofL hls (.cons (T.tv_STILL H3) .nil)) (by decide +kernel) ?_
          walk_at "rd"
          exact ⟨rfl, e3⟩
      · rintro σ H3 ⟨rfl, e3⟩
        have e23 := e2.trans e3
        have hx3 := e23 _ _ hx
        have hw3 := e3 _ _ hw
        have nlx : lm ≠ x := ne_of hw3 hx3 (by intro z; cases z)
        walk_at "rd"
        intro lt H4 nt e4 ht
        walk_at "rd"
        have hx4 := e4 _ _ upd_same
        have ntx : lt ≠ x := Ne.symm (ne_of_none upd_same nt)
        simp only [pf_Row_mode, pf_Row_sharing, pf_Row_lease, pf_Row_grip, pf_Row_rule]
        have hA3 : DpAll K H3 ws (R.map markT) := Dt.mnA hwA e3
        have hA4 : DpAll K (upd H4 x (.ins ad.c_Row dx (fs_Row (.str mo) (.str sh) (.str le) (.str gr) (.ref lt)))) ws (R.map markT) := by
          simp only [upd_upd] at e4
          exact Dt.updIA hx4 _ _ (Dt.mnA (Dt.updIA hx3 _ _ hA3) e4)
        refine k lt _ upd_same (Dt.ofT (by rw [upd_ne ntx]; exact ht) hA4) fun b o hb hbo => ?_
        rw [upd_ne hb]
        refine e4 _ _ ?_
        simp only [upd_upd]
        rw [upd_ne hb]
        exact e23 _ _ hbo
theorem x_rowI {K : PySem.W.Frag} {C : Addr} {H : Hp} {Q : VK} {E : XK} {rl : Addr} {mo sh le gr : Str} {R : Rule} {ds : List PyData} (hR : Dp K H (.ref rl) (.list ds)) (hds : Marks ds R) (h100 : R.length ≤ 100) (ok : RowOk mo sh le gr R) (q : ∀ x H', Evl.Ex H H' → H x = none → RowAt K C H' x mo sh le gr R → Q (.ref x) H') :
    Rd.xMk C (fun x H2 Q2 => spRowI C K (x :: ([.str mo, .str sh, .str le, .str gr, .ref rl] ++ [])) H2 Q2 E) H Q := Rd.xmk fun x dx H' e n hx =>
  ⟨x, dx, rl, mo, sh, le, gr, R, ds, rfl, hx, Dt.mn hR e, hds, h100, ok, fun tr H2 h2 hd same => ⟨rfl, q x H2 (Rd.exBut e n same) n ⟨dx, tr, h2, hd⟩⟩⟩
def spPlain (C : Addr) (K : PySem.W.Frag) : Sp := fun vs H Q _ => ∃ mo : Str, vs = [.str mo] ∧ (mo = "copied" ∨ mo = "refused") ∧ ∀ x H', Evl.Ex H H' → RowAt K C H' x mo "one" "always" "slot" [still6] → Q (.ref x) H'
theorem ok_plain_row {ad : Ad} (T : Txt K mg ad) : FnOk P w K mg base CX0 5 ad.a_plain_row ad.d_plain_row ["mode"] (spPlain ad.c_Row K) := by
  refine T.F_plain_row.ok sc_plain_row (fun vs H Q E h => ?_) (fun cdv A outer s H vs Q E hr h => ?_)
  · obtain ⟨mo, rfl, hmo, k⟩ := h
    rfl
  · obtain ⟨mo, rfl, hmo, k⟩ := h
    refine ⟨_, (pss_cons (ps_if (pt_cmpR op_eq (pv 0) pe_str (nomark _)) (pss_one ps_never) pss_nil)
      (pss_one (ps_ret (pe_make T.mk_Row (ok_Row_init_ T) (hr.mono (by decide)) rfl T.mg_Row T.b_Row_init_ .nil pass0 (pa_cons (pv 0) (pa_cons pe_str (pa_cons pe_str (pa_cons pe_str (pa_cons (pe_lst (pa_cons (pe_glob (v := .ref ad.k_STILL) rfl T.mc_STILL rfl) pa_nil)) pa_nil))))))))), ?_⟩
    try dsimp only [L2.cxOf, L2.Cx.nox, L2.Cx.wish]
    change (_ : TS) _ ([some (.str mo)] : St) _
    have hne : ¬ mo = "held" := by rcases hmo with rfl | rfl <;> decide +kernel
    walk_at "rd"
    refine Rd.xlst rfl fun l H1 n1 e1 hl => ?_
    walk_at "rd"
    have hD : Dp K H1 (.ref l) (.list [markT still6]) := Dt.ofL hl (.cons (T.tv_STILL H1) .nil)
    refine x_rowI hD (.inr rfl) (by decide) ⟨by decide +kernel, .inr ⟨hmo, rfl, rfl, rfl, rfl⟩⟩ fun x H2 e2 n2 h2 => ?_
    exact k x H2 (e1.trans e2) h2

/-! ### a rule under way: its marks are lists of their own -/
theorem setA {K : PySem.W.Frag} {H : Hp} {v : V} {d : PyData} (h : Dp K H v d) : ∀ (j : Nat) {vs : List V} {ds : List PyData}, DpAll K H vs ds → DpAll K H (vs.set j v) (ds.set j d)
  | _, _, [], hA => by cases hA; exact .nil
  | 0, _, d' :: ds, hA => by
    cases hA with
    | cons h1 h2 => exact .cons h h2
  | j + 1, _, d' :: ds, hA => by
    cases hA with
    | cons h1 h2 => exact .cons h1 (setA h j h2)
theorem ofGet {K : PySem.W.Frag} {H : Hp} : ∀ {vs : List V} {ds : List PyData}, vs.length = ds.length → (∀ (i : Nat) (v : V) (d : PyData), vs[i]? = some v → ds[i]? = some d → Dp K H v d) → DpAll K H vs ds
  | [], [], _, _ => .nil
  | v :: vs, d :: ds, hl, h => .cons (h 0 v d rfl rfl) (ofGet (by simpa using hl) fun i v' d' h1 h2 => h (i + 1) v' d' (by simpa using h1) (by simpa using h2))
  | [], d :: ds, hl, _ => by cases hl
  | v :: vs, [], hl, _ => by cases hl
structure MkAs (K : PySem.W.Frag) (G H : Hp) (as : List Addr) (R : Rule) : Prop where
  ex : Evl.Ex G H
  nod : as.Nodup
  len : as.length = R.length
  get : ∀ (i : Nat) (a : Addr) (m : List (Int × Int)), as[i]? = some a → R[i]? = some m → G a = none ∧ ∃ vs, H a = some (.lst vs) ∧ DpAll K H vs (m.map pairD)
theorem MkAs.nil0 {K : PySem.W.Frag} (H : Hp) : MkAs K H H [] [] := ⟨Evl.Ex.refl H, List.nodup_nil, rfl, fun i a m h => by cases h⟩
theorem MkAs.there {K : PySem.W.Frag} {G H : Hp} {as : List Addr} {R : Rule} (h : MkAs K G H as R) {a : Addr} (ha : a ∈ as) : ∃ vs, H a = some (.lst vs) := by
  obtain ⟨i, hi, e⟩ := List.getElem_of_mem ha
  obtain ⟨_, vs, h1, _⟩ := h.get i a (R[i]'(by rw [← h.len]; exact hi)) (by rw [List.getElem?_eq_getElem hi, e]) (List.getElem?_eq_getElem _)
  exact ⟨vs, h1⟩
theorem MkAs.mono {K : PySem.W.Frag} {G H H' : Hp} {as : List Addr} {R : Rule} (h : MkAs K G H as R) (e : Evl.Ex H H') : MkAs K G H' as R :=
  ⟨h.ex.trans e, h.nod, h.len, fun i a m h1 h2 => by obtain ⟨n, vs, h3, h4⟩ := h.get i a m h1 h2; exact ⟨n, vs, e _ _ h3, Dt.mnA h4 e⟩⟩
theorem MkAs.onto {K : PySem.W.Frag} {F G H : Hp} {as : List Addr} {R : Rule} (h : MkAs K G H as R) (e : Evl.Ex F G) : MkAs K F H as R :=
  ⟨e.trans h.ex, h.nod, h.len, fun i a m h1 h2 => by obtain ⟨n, vs, h3, h4⟩ := h.get i a m h1 h2; exact ⟨Evl.fresh_back e n, vs, h3, h4⟩⟩
theorem MkAs.snoc {K : PySem.W.Frag} {G H H2 : Hp} {as : List Addr} {R : Rule} {a : Addr} {vs : List V} {m : List (Int × Int)} (h : MkAs K G H as R) (e : Evl.Ex H H2) (n : H a = .none) (ha : H2 a = some (.lst vs)) (hd : DpAll K H2 vs (m.map pairD)) : MkAs K G H2 (as ++ [a]) (R ++ [m]) where
  ex := h.ex.trans e
  nod := by
    rw [List.nodup_append]
    refine ⟨h.nod, List.nodup_cons.mpr ⟨List.not_mem_nil, List.nodup_nil⟩, ?_⟩
    intro x hx y hy
    cases List.mem_singleton.mp hy
    obtain ⟨vs', hv⟩ := h.there hx
    exact ne_of_none hv n
  len := by rw [List.length_append, List.length_append, h.len]; rfl
  get := fun i a' m' h1 h2 => by
    by_cases hi : i < as.length
    · rw [List.getElem?_append_left hi] at h1
      rw [List.getElem?_append_left (by rw [← h.len]; exact hi)] at h2
      obtain ⟨n', vs', h3, h4⟩ := h.get i a' m' h1 h2
      exact ⟨n', vs', e _ _ h3, Dt.mnA h4 e⟩
    · have hi2 := (List.getElem?_eq_some_iff.mp h1).1
      rw [List.length_append] at hi2
      have e0 : i = as.length := by simp at hi2; omega
      subst e0
      rw [List.getElem?_append_right (Nat.le_refl _), Nat.sub_self] at h1
      rw [List.getElem?_append_right (by rw [h.len]; exact Nat.le_refl _), h.len, Nat.sub_self] at h2
      cases h1
      cases h2
      exact ⟨Evl.fresh_back h.ex n, vs, ha, hd⟩
theorem noL_pairs (m : List (Int × Int)) : ∀ d ∈ m.map pairD, Dt.noL d = true := fun d hd => by obtain ⟨p, _, rfl⟩ := List.mem_map.mp hd; exact noL_pair p
/-- another list changes -/
theorem MkAs.other {K : PySem.W.Frag} {G H : Hp} {as : List Addr} {R : Rule} {l : Addr} {ws : List V} {o : HO} (h : MkAs K G H as R) (hl : H l = some (.lst ws)) (n : G l = .none) (na : l ∉ as) : MkAs K G (upd H l o) as R :=
  ⟨Evl.Ex.mut h.ex n, h.nod, h.len, fun i a m h1 h2 => by
    obtain ⟨n', vs, h3, h4⟩ := h.get i a m h1 h2
    refine ⟨n', vs, ?_, Dt.updLA hl _ _ (noL_pairs m) h4⟩
    rw [upd_ne (fun z => by subst z; exact na (List.mem_of_getElem? h1))]; exact h3⟩
/-- one pair changes -/
theorem MkAs.set {K : PySem.W.Frag} {G H : Hp} {as : List Addr} {R : Rule} {a q : Addr} {i j : Nat} {vs : List V} {m : List (Int × Int)} {p : Int × Int} (h : MkAs K G H as R) (h1 : as[i]? = some a) (h2 : R[i]? = some m) (h3 : H a = some (.lst vs)) (h4 : DpAll K H vs (m.map pairD)) (hq : H q = some (.tup [.int p.1, .int p.2])) :
    MkAs K G (upd H a (.lst (vs.set j (.ref q)))) as (R.set i (m.set j p)) where
  ex := Evl.Ex.mut h.ex (h.get i a m h1 h2).1
  nod := h.nod
  len := by rw [List.length_set]; exact h.len
  get := fun i' a' m' g1 g2 => by
    have hi : i < R.length := (List.getElem?_eq_some_iff.mp h2).1
    by_cases hii : i = i'
    · subst hii
      rw [g1] at h1
      cases h1
      rw [List.getElem?_set_self hi] at g2
      cases g2
      refine ⟨(h.get i a m g1 h2).1, _, upd_same, ?_⟩
      rw [List.map_set]
      refine Dt.updLA h3 _ _ ?_ (setA (Dt.ofT hq (.cons (.int _) (.cons (.int _) .nil))) j h4)
      intro d hd
      rcases List.mem_or_eq_of_mem_set hd with hd | rfl
      · exact noL_pairs m d hd
      · exact noL_pair p
    · rw [List.getElem?_set_ne hii] at g2
      obtain ⟨n', vs', h5, h6⟩ := h.get i' a' m' g1 g2
      refine ⟨n', vs', ?_, Dt.updLA h3 _ _ (noL_pairs m') h6⟩
      have hne : a' ≠ a := fun z => by
        subst z
        have q1 := (List.getElem?_eq_some_iff.mp g1)
        have q2 := (List.getElem?_eq_some_iff.mp h1)
        obtain ⟨l1, e1⟩ := q1
        obtain ⟨l2, e2⟩ := q2
        exact hii ((List.getElem_inj h.nod).mp (e2.trans e1.symm))
      rw [upd_ne hne]; exact h5
/-- the rule itself -/
structure RuleAs (K : PySem.W.Frag) (G H : Hp) (rl : Addr) (as : List Addr) (R : Rule) : Prop where
  mks : MkAs K G H as R
  new : G rl = none
  at_ : H rl = some (.lst (as.map V.ref))
  out : rl ∉ as
theorem RuleAs.mono {K : PySem.W.Frag} {G H H' : Hp} {rl : Addr} {as : List Addr} {R : Rule} (h : RuleAs K G H rl as R) (e : Evl.Ex H H') : RuleAs K G H' rl as R := ⟨h.mks.mono e, h.new, e _ _ h.at_, h.out⟩
theorem RuleAs.onto {K : PySem.W.Frag} {F G H : Hp} {rl : Addr} {as : List Addr} {R : Rule} (h : RuleAs K G H rl as R) (e : Evl.Ex F G) : RuleAs K F H rl as R := ⟨h.mks.onto e, Evl.fresh_back e h.new, h.at_, h.out⟩
theorem RuleAs.snoc {K : PySem.W.Frag} {G H H2 : Hp} {rl : Addr} {as : List Addr} {R : Rule} {a : Addr} {vs : List V} {m : List (Int × Int)} (h : RuleAs K G H rl as R) (e : Evl.Ex H H2) (n : H a = none) (ha : H2 a = some (.lst vs)) (hd : DpAll K H2 vs (m.map pairD)) : RuleAs K G (upd H2 rl (.lst (as.map V.ref ++ [.ref a]))) rl (as ++ [a]) (R ++ [m]) := by
  have hne : rl ≠ a := ne_of_none h.at_ n
  have hout : rl ∉ as ++ [a] := fun z => by
    rcases List.mem_append.mp z with z | z
    · exact h.out z
    · exact hne (List.mem_singleton.mp z)
  exact ⟨(h.mks.snoc e n ha hd).other (e _ _ h.at_) h.new hout, h.new, by rw [upd_same, List.map_append]; rfl, hout⟩
theorem MkAs.close {K : PySem.W.Frag} {G H H' : Hp} {rl : Addr} {as : List Addr} {R : Rule} (h : MkAs K G H as R) (n : H rl = .none) (e : Evl.Ex H H') (hr : H' rl = some (.lst (as.map V.ref))) : RuleAs K G H' rl as R :=
  ⟨h.mono e, Evl.fresh_back h.ex n, hr, fun z => by obtain ⟨vs, hv⟩ := h.there z; exact ne_of_none hv n rfl⟩
theorem RuleAs.set {K : PySem.W.Frag} {G H : Hp} {rl : Addr} {as : List Addr} {R : Rule} {a q : Addr} {i j : Nat} {vs : List V} {m : List (Int × Int)} {p : Int × Int} (h : RuleAs K G H rl as R) (h1 : as[i]? = some a) (h2 : R[i]? = some m) (h3 : H a = some (.lst vs)) (h4 : DpAll K H vs (m.map pairD)) (hq : H q = some (.tup [.int p.1, .int p.2])) :
    RuleAs K G (upd H a (.lst (vs.set j (.ref q)))) rl as (R.set i (m.set j p)) :=
  ⟨h.mks.set h1 h2 h3 h4 hq, h.new, by rw [upd_ne (fun z => h.out (by rw [z]; exact List.mem_of_getElem? h1))]; exact h.at_, h.out⟩
theorem RuleAs.dp {K : PySem.W.Frag} {G H : Hp} {rl : Addr} {as : List Addr} {R : Rule} (h : RuleAs K G H rl as R) : Dp K H (.ref rl) (ruleL R) := by
  refine Dt.ofL h.at_ (ofGet (by rw [List.length_map, List.length_map, h.mks.len]) fun i v d h1 h2 => ?_)
  rw [List.getElem?_map] at h1 h2
  cases e1 : as[i]? with
  | none => rw [e1] at h1; cases h1
  | some a =>
    cases e2 : R[i]? with
    | none => rw [e2] at h2; cases h2
    | some m =>
      rw [e1] at h1
      rw [e2] at h2
      cases h1
      cases h2
      obtain ⟨_, vs, h3, h4⟩ := h.mks.get i a m e1 e2
      exact Dt.ofL h3 h4
def RuleAt (K : PySem.W.Frag) (G H : Hp) (rl : Addr) (R : Rule) : Prop := ∃ as, RuleAs K G H rl as R
def OkP (n : Nat) (p : Int × Int) : Prop := 0 ≤ p.1 ∧ p.1 < n ∧ -3 ≤ p.2 ∧ p.2 ≤ 3
def OkM (n : Nat) (m : List (Int × Int)) : Prop := m.length = 6 ∧ ∀ p ∈ m, OkP n p
theorem WF.of {R : Rule} {n : Nat} (hn : R.length = n) (h1 : 1 ≤ n) (h4 : n ≤ 4) (h : ∀ m ∈ R, OkM n m) : WF R := ⟨by omega, by omega, fun m hm => ⟨(h m hm).1, fun p hp => by rw [hn]; exact (h m hm).2 p hp⟩⟩
theorem WF.set {R : Rule} (h : WF R) {i j : Nat} {m : List (Int × Int)} {p : Int × Int} (hm : R[i]? = some m) (hp : OkP R.length p) : WF (R.set i (m.set j p)) := by
  obtain ⟨h1, h2, h3⟩ := h
  refine ⟨by rw [List.length_set]; exact h1, by rw [List.length_set]; exact h2, fun m' hm' => ?_⟩
  rw [List.length_set]
  rcases List.mem_or_eq_of_mem_set hm' with hm' | rfl
  · exact h3 m' hm'
  · obtain ⟨h4, h5⟩ := h3 m (List.mem_of_getElem? hm)
    refine ⟨by rw [List.length_set]; exact h4, fun p' hp' => ?_⟩
    rcases List.mem_or_eq_of_mem_set hp' with hp' | rfl
    · exact h5 p' hp'
    · exact hp
theorem OkM.nil_snoc {n : Nat} {m : List (Int × Int)} {p : Int × Int} (h : ∀ p ∈ m, OkP n p) (hp : OkP n p) : ∀ q ∈ m ++ [p], OkP n q := fun q hq => by
  rcases List.mem_append.mp hq with hq | hq
  · exact h q hq
  · cases List.mem_singleton.mp hq; exact hp
theorem OkR.snoc {n : Nat} {R : Rule} {m : List (Int × Int)} (h : ∀ m ∈ R, OkM n m) (hm : OkM n m) : ∀ q ∈ R ++ [m], OkM n q := fun q hq => by
  rcases List.mem_append.mp hq with hq | hq
  · exact h q hq
  · cases List.mem_singleton.mp hq; exact hm
/-- drawn from the deck: a rule -/
def spRuleOf (K : PySem.W.Frag) : Sp := fun vs H Q _ => ∃ dk : Addr, vs = [.ref dk] ∧ H dk = some (Dk.DkO dk) ∧ ∀ rl R H', WF R → RuleAt K H H' rl R → Q (.ref rl) H'
theorem ok_law_wild_rule {ad : Ad} (T : Txt K mg ad) : FnOk P w K mg base CX0 2 ad.a_law_wild_rule ad.d_law_wild_rule ["deck"] (spRuleOf K) := by
  refine T.F_law_wild_rule.ok sc_law_wild_rule (fun vs H Q E h => ?_) (fun cdv A outer s H vs Q E hr h => ?_)
  · obtain ⟨dk, rfl, hD, k⟩ := h
    rfl
  · obtain ⟨dk, rfl, hD, k⟩ := h
    refine ⟨_, (pss_cons (ps_set (i := 1) sc_law_wild_rule.nd rfl (Or.inl rfl) (pe_op op_add pe_int (pe_call (ok_law_take T) (hr.mono (by decide)) rfl T.m_law_take T.F_law_take.kp T.b_law_take .nil pass0 (pa_cons (pv 0) (pa_cons pe_int pa_nil)))))
      (pss_cons (ps_set (i := 2) sc_law_wild_rule.nd rfl (Or.inl rfl) (pe_lst pa_nil))
      (pss_cons (ps_for PassesOwn.never rfl (pi_range1 rfl T.z_range (pa_cons (pv 1) pa_nil)) (pg_name (i := 3) sc_law_wild_rule.nd rfl (Or.inl rfl)) (pss_cons (ps_set (i := 4) sc_law_wild_rule.nd rfl (Or.inl rfl) (pe_lst pa_nil))
      (pss_cons (ps_for PassesOwn.never rfl (pi_str pe_str) (pg_name (i := 5) sc_law_wild_rule.nd rfl (Or.inl rfl)) (pss_cons (ps_set (i := 6) sc_law_wild_rule.nd rfl (Or.inl rfl) (pe_op op_sub (pe_call (ok_law_take T) (hr.mono (by decide)) rfl T.m_law_take T.F_law_take.kp T.b_law_take .nil pass0 (pa_cons (pv 0) (pa_cons pe_int pa_nil))) pe_int))
      (Evl.pss_cut (ps_if (PW.pt (pw_or (pt_cmpR op_eq (pv 5) pe_str (nomark _)) (pw_or1 (pt_cmpR op_eq (pv 5) pe_str (nomark _))))) (pss_one (ps_set (i := 6) sc_law_wild_rule.nd rfl (Or.inl rfl) (pe_callB (id := "abs") Rd.c_abs (by rfl) T.z_abs (by decide +kernel) (pa_cons (pv 6) pa_nil)))) pss_nil)
      (pss_one (ps_expr (pe_bm PySem.F.plainAttrs_list PySem.F.slot_list_append PySem.F.type_list_append mt_append (pv 4) (pa_cons (pe_tup (pa_cons (pe_call (ok_law_take T) (hr.mono (by decide)) rfl T.m_law_take T.F_law_take.kp T.b_law_take .nil pass0 (pa_cons (pv 0) (pa_cons (pv 1) pa_nil))) (pa_cons (pv 6) pa_nil))) pa_nil)))))))
      (pss_one (ps_expr (pe_bm PySem.F.plainAttrs_list PySem.F.slot_list_append PySem.F.type_list_append mt_append (pv 2) (pa_cons (pv 4) pa_nil)))))))
      (pss_one (ps_ret (pv 2)))))), ?_⟩
    try dsimp only [L2.cxOf, L2.Cx.nox, L2.Cx.wish]
    change (_ : TS) _ ([some (.ref dk), none, none, none, none, none, none] : St) _
    have cl_Row := T.cl_Row
    have n_Row_grip := T.n_Row_grip
    have n_Row_lease := T.n_Row_lease
    have n_Row_mode := T.n_Row_mode
    have n_Row_rule := T.n_Row_rule
    have n_Row_sharing := T.n_Row_sharing
    walk_at "rd"
    intro z z0 z1
    walk_at "rd"
    refine Rd.xlst rfl fun rl H1 n1 e1 hl => ?_
    walk_at "rd"
    obtain ⟨n, rfl⟩ := Int.eq_ofNat_of_zero_le z0
    refine Rd.xfr1 ⟨by omega, by omega⟩ (fun i σ H' => ∃ v3 v4 v5 v6, σ = [some (.ref dk), some (.int (1 + (n : Int))), some (.ref rl), v3, v4, v5, v6] ∧ ∃ as R, RuleAs K H H' rl as R ∧ R.length = i ∧ ∀ m ∈ R, OkM (1 + n) m)
      ⟨_, _, _, _, rfl, [], [], (MkAs.nil0 H).close n1 e1 hl, rfl, fun m hm => by cases hm⟩ ?_ ?_
    · rintro i σ H2 hi ⟨v3, v4, v5, v6, rfl, as, R, hR, hRl, hRk⟩
      have hD2 := hR.mks.ex _ _ hD
      walk_at "rd"
      refine Rd.xlst rfl fun pl H3 n3 e3 hpl => ?_
      walk_at "rd"
      refine Rd.xfs (fun j σ H' => ∃ v5 v6, σ = [some (.ref dk), some (.int (1 + (n : Int))), some (.ref rl), some (.int i), some (.ref pl), v5, v6] ∧ Evl.Ex H2 H' ∧ ∃ ws ps, H' pl = some (.lst ws) ∧ DpAll K H' ws (ps.map pairD) ∧ ps.length = j ∧ ∀ p ∈ ps, OkP (1 + n) p)
        ⟨_, _, rfl, e3, [], [], hpl, .nil, rfl, fun p hp => by cases hp⟩ ?_ ?_
      · rintro j c σ H4 hc ⟨v5, v6, rfl, e4, ws, ps, hw, hwA, hpn, hpk⟩
        have hD4 := e4 _ _ hD2
        have hj : j < 6 := by
          obtain ⟨q, _⟩ := Array.getElem?_eq_some_iff.mp hc
          exact q
        have hwl := lenMap hwA
        walk_at "rd"
        intro y y0 y1
        walk_at "rd"
        refine ⟨fun σ H' => ∃ ch : Int, -3 ≤ ch ∧ ch ≤ 3 ∧ σ = [some (.ref dk), some (.int (1 + (n : Int))), some (.ref rl), some (.int i), some (.ref pl), some (.str ⟨#[c]⟩), some (.int ch)] ∧ H' = H4, ?_, ?_⟩
        · walk_at "rd"
          refine Rd.ifd (fun c1 => ?_) (fun c1 => ?_)
          · walk_at "rd"
            exact ⟨_, by split <;> omega, by split <;> omega, rfl, rfl⟩
          · walk_at "rd"
            refine Rd.ifd (fun c1 => ?_) (fun c1 => ?_)
            · walk_at "rd"
              exact ⟨_, by split <;> omega, by split <;> omega, rfl, rfl⟩
            · walk_at "rd"
              exact ⟨_, by omega, by omega, rfl, rfl⟩
        · rintro σ Hc ⟨ch, ch1, ch2, rfl, rfl⟩
          walk_at "rd"
          intro g g0 g1
          walk_at "rd"
          refine Rd.xtup rfl fun q H5 n5 e5 hq => ?_
          walk_at "rd"
          have hw5 := e5 _ _ hw
          refine Rd.append hw5 (by omega) ?_
          walk_at "rd"
          refine ⟨_, _, rfl, Evl.Ex.mut (e4.trans e5) n3, _, ps ++ [(g, ch)], upd_same, ?_, by rw [List.length_append, hpn]; rfl, OkM.nil_snoc hpk ⟨g0, by omega, ch1, ch2⟩⟩
          refine Dt.updLA hw5 _ _ (noL_pairs _) ?_
          rw [List.map_append]
          exact Dt.snocA (Dt.mnA hwA e5) (Dt.ofT hq (.cons (.int _) (.cons (.int _) .nil)))
      · rintro σ H4 ⟨v5, v6, rfl, e4, ws, ps, hw, hwA, hpn, hpk⟩
        have hr4 := e4 _ _ hR.at_
        walk_at "rd"
        refine Rd.append hr4 (by rw [List.length_map, hR.mks.len]; omega) ?_
        walk_at "rd"
        refine ⟨_, _, _, _, rfl, as ++ [pl], R ++ [ps], hR.snoc e4 n3 hw hwA, by rw [List.length_append, hRl]; rfl, OkR.snoc hRk ⟨hpn, hpk⟩⟩
    · rintro σ H2 ⟨v3, v4, v5, v6, rfl, as, R, hR, hRl, hRk⟩
      walk_at "rd"
      exact k rl R H2 (WF.of (n := 1 + n) (by omega) (by omega) (by omega) hRk) ⟨as, hR⟩

/-- a list of whole numbers below n, not empty -/
def Pool (H : Hp) (p : Addr) (n : Nat) : Prop := ∃ L : List Int, H p = some (.lst (L.map V.int)) ∧ 0 < L.length ∧ L.length ≤ 4 ∧ ∀ x ∈ L, 0 ≤ x ∧ x < n
theorem given_ints (n : Nat) (f : Nat → Bool) : Evl.given n f (fun i => .int (i : Int)) = (((List.range n).filter f).map fun (i : Nat) => (i : Int)).map V.int := by
  unfold Evl.given
  rw [List.map_map]
  rfl
theorem pool_of {H : Hp} {p : Addr} {n : Nat} {f : Nat → Bool} (hn : n ≤ 4) (h : H p = some (.lst (Evl.given n f (fun i => .int (i : Int))))) {i : Nat} (hi : i < n) (hf : f i = true) : Pool H p n := by
  rw [given_ints] at h
  refine ⟨_, h, ?_, ?_, ?_⟩
  · rw [List.length_map]
    exact List.length_pos_of_mem (List.mem_filter.mpr ⟨List.mem_range.mpr hi, hf⟩)
  · rw [List.length_map]
    have := List.length_filter_le f (List.range n)
    rw [List.length_range] at this
    omega
  · intro x hx
    obtain ⟨j, hj, rfl⟩ := List.mem_map.mp hx
    have := List.mem_range.mp (List.mem_filter.mp hj).1
    exact ⟨Int.natCast_nonneg j, by omega⟩
theorem liv1 {l n : Nat} (h : l = (2 + (n : Int) - 1).toNat + 1) : l = 2 + n := by omega
theorem liv2 {su n : Nat} (h : (su : Int) < 2 + (n : Int) - 1) : su < (2 + (n : Int) - 1).toNat := by omega
theorem ok_law_living_rule {ad : Ad} (T : Txt K mg ad) : FnOk P w K mg base CX0 2 ad.a_law_living_rule ad.d_law_living_rule ["deck"] (spRuleOf K) := by
  refine T.F_law_living_rule.ok sc_law_living_rule (fun vs H Q E h => ?_) (fun cdv A outer s H vs Q E hr h => ?_)
  · obtain ⟨dk, rfl, hD, k⟩ := h
    rfl
  · obtain ⟨dk, rfl, hD, k⟩ := h
    refine ⟨_, (pss_cons (ps_set (i := 1) sc_law_living_rule.nd rfl (Or.inl rfl) (pe_op op_add pe_int (pe_call (ok_law_take T) (hr.mono (by decide)) rfl T.m_law_take T.F_law_take.kp T.b_law_take .nil pass0 (pa_cons (pv 0) (pa_cons pe_int pa_nil)))))
      (pss_cons (ps_set (i := 2) sc_law_living_rule.nd rfl (Or.inl rfl) (pe_op op_add pe_int (pe_call (ok_law_take T) (hr.mono (by decide)) rfl T.m_law_take T.F_law_take.kp T.b_law_take .nil pass0 (pa_cons (pv 0) (pa_cons (pe_op op_sub (pv 1) pe_int) pa_nil)))))
      (pss_cons (ps_set (i := 3) sc_law_living_rule.nd rfl (Or.inr rfl) (pe_lst (pa_cons pe_int pa_nil)))
      (pss_cons (ps_for PassesOwn.never rfl (pi_range2 rfl T.z_range (pa_cons pe_int (pa_cons (pv 1) pa_nil))) (pg_name (i := 4) sc_law_living_rule.nd rfl (Or.inl rfl)) (pss_one (ps_if (PW.pt (pw_or (pt_cmpR op_eq (pv 4) (pv 2) (nomark _)) (pw_or1 (pt_cmpR op_eq (pe_call (ok_law_take T) (hr.mono (by decide)) rfl T.m_law_take T.F_law_take.kp T.b_law_take .nil pass0 (pa_cons (pv 0) (pa_cons pe_int pa_nil))) pe_int (nomark _))))) (pss_one (ps_expr (pe_bm PySem.F.plainAttrs_list PySem.F.slot_list_append PySem.F.type_list_append mt_append (pv 3) (pa_cons (pe_op op_add pe_int (pe_call (ok_law_take T) (hr.mono (by decide)) rfl T.m_law_take T.F_law_take.kp T.b_law_take .nil pass0 (pa_cons (pv 0) (pa_cons pe_int pa_nil)))) pa_nil)))) (pss_one (ps_expr (pe_bm PySem.F.plainAttrs_list PySem.F.slot_list_append PySem.F.type_list_append mt_append (pv 3) (pa_cons pe_int pa_nil)))))))
      (pss_cons (ps_setLc (i := 5) (own := [("mark", 4)]) (g := gName 4) rfl sc_law_living_rule.nd rfl rfl (sw_true rfl rfl rfl (by decide +kernel)) (pi_range1 rfl T.z_range (pa_cons (pv 1) pa_nil)) (blkOk_by (N := ["deck", "size", "sure", "holds", "mark", "living", "dead", "rule", "pairs", "event", "pool", "goal"]) (sc := defScope s_law_living_rule) (by decide +kernel)) (fun _ _ _ _ _ => (pg_name (i := 4) sc_law_living_rule.nd rfl (Or.inl rfl))) (fun _ _ _ _ _ => (pts_one (pt_cmpR op_gt (pe_ix (ix_list : IxR _ (rIxL K)) (pv 3) (pv 4) (fun _ _ => rfl)) pe_int (nomark _)))) (fun _ _ _ _ _ => (pv 4)))
      (pss_cons (ps_setLc (i := 6) (own := [("mark", 4)]) (g := gName 4) rfl sc_law_living_rule.nd rfl rfl (sw_true rfl rfl rfl (by decide +kernel)) (pi_range1 rfl T.z_range (pa_cons (pv 1) pa_nil)) (blkOk_by (N := ["deck", "size", "sure", "holds", "mark", "living", "dead", "rule", "pairs", "event", "pool", "goal"]) (sc := defScope s_law_living_rule) (by decide +kernel)) (fun _ _ _ _ _ => (pg_name (i := 4) sc_law_living_rule.nd rfl (Or.inl rfl))) (fun _ _ _ _ _ => (pts_one (pt_cmpR op_eq (pe_ix (ix_list : IxR _ (rIxL K)) (pv 3) (pv 4) (fun _ _ => rfl)) pe_int (nomark _)))) (fun _ _ _ _ _ => (pv 4)))
      (pss_cons (ps_set (i := 7) sc_law_living_rule.nd rfl (Or.inl rfl) (pe_lst pa_nil))
      (pss_cons (ps_for PassesOwn.never rfl (pi_range1 rfl T.z_range (pa_cons (pv 1) pa_nil)) (pg_name (i := 4) sc_law_living_rule.nd rfl (Or.inl rfl)) (pss_cons (ps_set (i := 8) sc_law_living_rule.nd rfl (Or.inl rfl) (pe_lst pa_nil))
      (pss_cons (ps_for PassesOwn.never rfl (pi_str pe_str) (pg_name (i := 9) sc_law_living_rule.nd rfl (Or.inl rfl)) (pss_cons (ps_set (i := 10) sc_law_living_rule.nd rfl (Or.inl rfl) (pv 6))
      (Evl.pss_cut (ps_if (PW.pt (pw_or (pt_cmpR op_eq (pv 9) pe_str (nomark _)) (pw_or (pt_cmpR op_eq (pv 9) pe_str (nomark _)) (pw_or1 (PW.pt (pw_and (pt_cmpR op_ne (pv 9) pe_str (nomark _)) (pw_and1 (pt_cmpR op_gt (pe_ix ix_list (pv 3) (pv 4) (fun _ _ => rfl)) pe_int (nomark _))))))))) (pss_one (ps_set (i := 10) sc_law_living_rule.nd rfl (Or.inl rfl) (pv 5))) pss_nil)
      (pss_cons (ps_set (i := 11) sc_law_living_rule.nd rfl (Or.inl rfl) (pe_ix ix_list (pv 10) (pe_call (ok_law_take T) (hr.mono (by decide)) rfl T.m_law_take T.F_law_take.kp T.b_law_take .nil pass0 (pa_cons (pv 0) (pa_cons (pe_callB (id := "len") Rd.c_len (by rfl) T.z_len (by decide +kernel) (pa_cons (pv 10) pa_nil)) pa_nil))) (fun _ _ => rfl)))
      (pss_one (ps_expr (pe_bm PySem.F.plainAttrs_list PySem.F.slot_list_append PySem.F.type_list_append mt_append (pv 8) (pa_cons (pe_tup (pa_cons (pv 11) (pa_cons (pe_op op_sub (pe_ix ix_list (pv 3) (pv 11) (fun _ _ => rfl)) (pe_ix ix_list (pv 3) (pv 4) (fun _ _ => rfl))) pa_nil))) pa_nil))))))))
      (pss_one (ps_expr (pe_bm PySem.F.plainAttrs_list PySem.F.slot_list_append PySem.F.type_list_append mt_append (pv 7) (pa_cons (pv 8) pa_nil)))))))
      (pss_one (ps_ret (pv 7))))))))))), ?_⟩
    try dsimp only [L2.cxOf, L2.Cx.nox, L2.Cx.wish]
    change (_ : TS) _ ([some (.ref dk), none, none, none, none, none, none, none, none, none, none, none] : St) _
    have cl_Row := T.cl_Row
    have n_Row_grip := T.n_Row_grip
    have n_Row_lease := T.n_Row_lease
    have n_Row_mode := T.n_Row_mode
    have n_Row_rule := T.n_Row_rule
    have n_Row_sharing := T.n_Row_sharing
    walk_at "rd"
    intro z z0 z1
    walk_at "rd"
    intro y y0 y1
    walk_at "rd"
    obtain ⟨n, rfl⟩ := Int.eq_ofNat_of_zero_le z0
    obtain ⟨su, rfl⟩ := Int.eq_ofNat_of_zero_le y0
    refine Rd.xlst rfl fun hl0 H1 n1 e1 hhl => ?_
    walk_at "rd"
    refine Rd.xfr2 ⟨by omega, by omega, by omega, by omega⟩ (fun i σ H' => ∃ v4, σ = [some (.ref dk), some (.int (2 + (n : Int))), some (.int (1 + (su : Int))), some (.ref hl0), v4, none, none, none, none, none, none, none] ∧ Evl.Ex H H' ∧ ∃ hs : List Int, H' hl0 = some (.lst (hs.map V.int)) ∧ hs.length = i + 1 ∧ hs[0]? = some 0 ∧ (su < i → ∃ x, hs[su + 1]? = some x ∧ 0 < x) ∧ ∀ x ∈ hs, 0 ≤ x ∧ x ≤ 3)
      ⟨_, rfl, e1, [0], hhl, rfl, rfl, fun q => by omega, fun x hx => by cases List.mem_singleton.mp hx; omega⟩ ?_ ?_
    · rintro i σ H2 hi ⟨v4, rfl, e2, hs, hhs, hln, h00, hsu, hrg⟩
      have hD2 := e2 _ _ hD
      have snoc : ∀ (x : Int), 0 ≤ x → x ≤ 3 → (su = i → 0 < x) → ∃ ks : List Int, hs.map V.int ++ [.int x] = ks.map V.int ∧ ks.length = i + 1 + 1 ∧ ks[0]? = some 0 ∧ (su < i + 1 → ∃ x, ks[su + 1]? = some x ∧ 0 < x) ∧ ∀ x ∈ ks, 0 ≤ x ∧ x ≤ 3 := fun x x0 x3 hx => by
        refine ⟨hs ++ [x], by rw [List.map_append]; rfl, by rw [List.length_append, hln]; rfl, ?_, fun q => ?_, fun y hy => ?_⟩
        · rw [List.getElem?_append_left (by omega)]; exact h00
        · by_cases hq : su = i
          · subst hq
            refine ⟨x, ?_, hx rfl⟩
            rw [List.getElem?_append_right (by omega), hln, Nat.sub_self]; rfl
          · obtain ⟨w, h1, h2⟩ := hsu (by omega)
            exact ⟨w, by rw [List.getElem?_append_left (by omega)]; exact h1, h2⟩
        · rcases List.mem_append.mp hy with hy | hy
          · exact hrg y hy
          · cases List.mem_singleton.mp hy; exact ⟨x0, x3⟩
      have hz : (hs.map V.int).length < 100000 := by rw [List.length_map]; omega
      have fin : ∀ (x : Int), 0 ≤ x → x ≤ 3 → (su = i → 0 < x) → Evl.Ex H (upd H2 hl0 (.lst (hs.map V.int ++ [.int x]))) ∧ ∃ ks : List Int, (upd H2 hl0 (.lst (hs.map V.int ++ [.int x]))) hl0 = some (.lst (ks.map V.int)) ∧ ks.length = i + 1 + 1 ∧ ks[0]? = some 0 ∧ (su < i + 1 → ∃ x, ks[su + 1]? = some x ∧ 0 < x) ∧ ∀ x ∈ ks, 0 ≤ x ∧ x ≤ 3 := fun x x0 x3 hx => by
        obtain ⟨ks, k1, k2, k3, k4, k5⟩ := snoc x x0 x3 hx
        exact ⟨Evl.Ex.mut e2 n1, ks, by rw [upd_same, k1], k2, k3, k4, k5⟩
      walk_at "rd"
      refine Rd.ifd (fun c1 => ?_) (fun c1 => ?_)
      · walk_at "rd"
        intro g g0 g1
        walk_at "rd"
        refine Rd.append hhs hz ?_
        walk_at "rd"
        exact ⟨_, rfl, fin _ (by omega) (by omega) (fun _ => by omega)⟩
      · walk_at "rd"
        intro f f0 f1
        walk_at "rd"
        refine Rd.ifd (fun c2 => ?_) (fun c2 => ?_)
        · walk_at "rd"
          intro g g0 g1
          walk_at "rd"
          refine Rd.append hhs hz ?_
          walk_at "rd"
          exact ⟨_, rfl, fin _ (by omega) (by omega) (fun _ => by omega)⟩
        · walk_at "rd"
          refine Rd.append hhs hz ?_
          walk_at "rd"
          exact ⟨_, rfl, fin _ (by omega) (by omega) (fun _ => by omega)⟩
    · rintro σ H2 ⟨v4, rfl, e2, hs, hhs, hln, h00, hsu, hrg⟩
      have hln2 : hs.length = 2 + n := liv1 hln
      have hsu1 : su < (2 + (n : Int) - 1).toNat := liv2 y1
      obtain ⟨sx, hsx, sx0⟩ := hsu hsu1
      have hat : ∀ i : Nat, i < 2 + n → ∃ x, hs[i]? = some x ∧ 0 ≤ x ∧ x ≤ 3 ∧ hs.getD i 0 = x ∧ atI (hs.map V.int) (i : Int) = some (.int x) := fun i hi => by
        have e : hs[i]? = some (hs[i]'(by omega)) := List.getElem?_eq_getElem _
        exact ⟨_, e, (hrg _ (List.getElem_mem _)).1, (hrg _ (List.getElem_mem _)).2, by rw [List.getD_eq_getElem?_getD, e]; rfl, atI_nat (by rw [List.getElem?_map, e]; rfl)⟩
      walk_at "rd"
      refine Rd.xlcR (fun i => decide (hs.getD i 0 > 0)) (fun i => .int (i : Int)) ⟨by omega, by omega⟩ (fun _ => rfl) ?_ ?_ fun pl H3 n3 e3 hp => ?_
      · intro i Hc ec hi H1 e1 Q q
        obtain ⟨x, _, _, _, h4, h5⟩ := hat i (by omega)
        rw [h4] at q
        walk_at "rd"
        refine Rd.ixL (SqL.of (e1 _ _ (ec _ _ hhs))) h5 ?_
        walk_at "rd"
        exact q _ (Evl.Ex.refl _)
      · intro i Hc ec hi _ H1 e1 Q q
        walk_at "rd"
        exact q _ (Evl.Ex.refl _)
      have hP1 := pool_of (n := 2 + n) (by omega) (by rw [show 2 + n = (2 + (n : Int)).toNat by omega]; exact hp) (i := su + 1) (by omega) (by rw [List.getD_eq_getElem?_getD, hsx]; exact decide_eq_true sx0)
      walk_at "rd"
      have hhs3 := e3 _ _ hhs
      refine Rd.xlcR (fun i => decide (hs.getD i 0 = 0)) (fun i => .int (i : Int)) ⟨by omega, by omega⟩ (fun _ => rfl) ?_ ?_ fun pd H4 n4 e4 hp4 => ?_
      · intro i Hc ec hi H1 e1 Q q
        obtain ⟨x, _, _, _, h4, h5⟩ := hat i (by omega)
        rw [h4] at q
        walk_at "rd"
        refine Rd.ixL (SqL.of (e1 _ _ (ec _ _ hhs3))) h5 ?_
        walk_at "rd"
        exact q _ (Evl.Ex.refl _)
      · intro i Hc ec hi _ H1 e1 Q q
        walk_at "rd"
        exact q _ (Evl.Ex.refl _)
      have hP2 := pool_of (n := 2 + n) (by omega) (by rw [show 2 + n = (2 + (n : Int)).toNat by omega]; exact hp4) (i := 0) (by omega) (by rw [List.getD_eq_getElem?_getD, h00]; rfl)
      walk_at "rd"
      have eH4 := e2.trans (e3.trans e4)
      refine Rd.xlst rfl fun rl H5 n5 e5 hl => ?_
      walk_at "rd"
      refine Rd.xfr1 ⟨by omega, by omega⟩ (fun i σ H' => ∃ v4 v8 v9 v10 v11, σ = [some (.ref dk), some (.int (2 + (n : Int))), some (.int (1 + (su : Int))), some (.ref hl0), v4, some (.ref pl), some (.ref pd), some (.ref rl), v8, v9, v10, v11] ∧ ∃ as R, RuleAs K H4 H' rl as R ∧ R.length = i ∧ ∀ m ∈ R, OkM (2 + n) m)
        ⟨_, _, _, _, _, rfl, [], [], (MkAs.nil0 H4).close n5 e5 hl, rfl, fun m hm => by cases hm⟩ ?_ ?_
      · rintro i σ H6 hi ⟨v4, v8, v9, v10, v11, rfl, as, R, hR, hRl, hRk⟩
        have e46 := hR.mks.ex
        walk_at "rd"
        refine Rd.xlst rfl fun ml H7 n7 e7 hml => ?_
        walk_at "rd"
        obtain ⟨hm, _, hm0, hm3, _, hmat⟩ := hat i (by omega)
        refine Rd.xfs (fun j σ H' => ∃ v9 v10 v11, σ = [some (.ref dk), some (.int (2 + (n : Int))), some (.int (1 + (su : Int))), some (.ref hl0), some (.int i), some (.ref pl), some (.ref pd), some (.ref rl), some (.ref ml), v9, v10, v11] ∧ Evl.Ex H6 H' ∧ ∃ ws ps, H' ml = some (.lst ws) ∧ DpAll K H' ws (ps.map pairD) ∧ ps.length = j ∧ ∀ p ∈ ps, OkP (2 + n) p)
          ⟨_, _, _, rfl, e7, [], [], hml, .nil, rfl, fun p hp => by cases hp⟩ ?_ ?_
        · rintro j c σ H8 hc ⟨v9, v10, v11, rfl, e8, ws, ps, hw, hwA, hpn, hpk⟩
          have e48 := e46.trans e8
          have hj : j < 6 := by
            obtain ⟨q, _⟩ := Array.getElem?_eq_some_iff.mp hc
            exact q
          have hwl := lenMap hwA
          have hhs8 := e48 _ _ (e4 _ _ hhs3)
          have hD8 := e48 _ _ (eH4 _ _ hD)
          walk_at "rd"
          refine ⟨fun σ H' => ∃ po, (po = pl ∨ po = pd) ∧ σ = [some (.ref dk), some (.int (2 + (n : Int))), some (.int (1 + (su : Int))), some (.ref hl0), some (.int i), some (.ref pl), some (.ref pd), some (.ref rl), some (.ref ml), some (.str ⟨#[c]⟩), some (.ref po), v11] ∧ H' = H8, ?_, ?_⟩
          · walk_at "rd"
            refine Rd.ifd (fun c1 => ?_) (fun c1 => ?_)
            · walk_at "rd"
              exact ⟨_, .inl rfl, rfl, rfl⟩
            · walk_at "rd"
              refine Rd.ifd (fun c1 => ?_) (fun c1 => ?_)
              · walk_at "rd"
                exact ⟨_, .inl rfl, rfl, rfl⟩
              · walk_at "rd"
                refine Rd.ifNd (fun c1 => ?_) (fun c1 => ?_)
                · walk_at "rd"
                  refine Rd.ixL (SqL.of hhs8) hmat ?_
                  walk_at "rd"
                  refine Rd.ifd (fun c1 => ?_) (fun c1 => ?_)
                  · walk_at "rd"
                    exact ⟨_, .inl rfl, rfl, rfl⟩
                  · walk_at "rd"
                    exact ⟨_, .inr rfl, rfl, rfl⟩
                · walk_at "rd"
                  exact ⟨_, .inr rfl, rfl, rfl⟩
          · rintro σ Hc ⟨po, hpo, rfl, rfl⟩
            have hpool : Pool Hc po (2 + n) := by
              rcases hpo with rfl | rfl
              · obtain ⟨L, h1, h2⟩ := hP1
                exact ⟨L, e48 _ _ (e4 _ _ h1), h2⟩
              · obtain ⟨L, h1, h2⟩ := hP2
                exact ⟨L, e48 _ _ h1, h2⟩
            obtain ⟨L, hL, hL1, hL4, hLk⟩ := hpool
            have hLl : (L.map V.int).length = L.length := List.length_map ..
            walk_at "rd"
            intro g g0 g1
            obtain ⟨gn, rfl⟩ := Int.eq_ofNat_of_zero_le g0
            have hgl : gn < L.length := by omega
            obtain ⟨gx0, gx1⟩ := hLk _ (List.getElem_mem hgl)
            refine Rd.ixL (SqL.of hL) (atI_nat (v := .int (L[gn]'hgl)) (by rw [List.getElem?_map, List.getElem?_eq_getElem hgl]; rfl)) ?_
            walk_at "rd"
            generalize hgo : L[gn]'hgl = go at gx0 gx1 ⊢
            obtain ⟨gon, rfl⟩ := Int.eq_ofNat_of_zero_le gx0
            obtain ⟨hg, _, hg0, hg3, _, hgat⟩ := hat gon (by omega)
            refine Rd.ixL (SqL.of hhs8) hgat ?_
            walk_at "rd"
            refine Rd.ixL (SqL.of hhs8) hmat ?_
            walk_at "rd"
            refine Rd.xtup rfl fun q H9 n9 e9 hq => ?_
            walk_at "rd"
            have hw9 := e9 _ _ hw
            refine Rd.append hw9 (by omega) ?_
            walk_at "rd"
            refine ⟨_, _, _, rfl, Evl.Ex.mut (e8.trans e9) n7, _, ps ++ [((gon : Int), hg - hm)], upd_same, ?_, by rw [List.length_append, hpn]; rfl, OkM.nil_snoc hpk ⟨gx0, gx1, by omega, by omega⟩⟩
            refine Dt.updLA hw9 _ _ (noL_pairs _) ?_
            rw [List.map_append]
            exact Dt.snocA (Dt.mnA hwA e9) (Dt.ofT hq (.cons (.int _) (.cons (.int _) .nil)))
        · rintro σ H8 ⟨v9, v10, v11, rfl, e8, ws, ps, hw, hwA, hpn, hpk⟩
          have hr8 := e8 _ _ hR.at_
          walk_at "rd"
          refine Rd.append hr8 (by rw [List.length_map, hR.mks.len]; omega) ?_
          walk_at "rd"
          exact ⟨_, _, _, _, _, rfl, as ++ [ml], R ++ [ps], hR.snoc e8 n7 hw hwA, by rw [List.length_append, hRl]; rfl, OkR.snoc hRk ⟨hpn, hpk⟩⟩
      · rintro σ H6 ⟨v4, v8, v9, v10, v11, rfl, as, R, hR, hRl, hRk⟩
        walk_at "rd"
        exact k rl R H6 (WF.of (n := 2 + n) (by omega) (by omega) (by omega) hRk) ⟨as, hR.onto eH4⟩

theorem ok_law_call_rule {ad : Ad} (T : Txt K mg ad) : FnOk P w K mg base CX0 2 ad.a_law_call_rule ad.d_law_call_rule ["deck"] (spRuleOf K) := by
  refine T.F_law_call_rule.ok sc_law_call_rule (fun vs H Q E h => ?_) (fun cdv A outer s H vs Q E hr h => ?_)
  · obtain ⟨dk, rfl, hD, k⟩ := h
    rfl
  · obtain ⟨dk, rfl, hD, k⟩ := h
    refine ⟨_, (pss_cons (ps_set (i := 1) sc_law_call_rule.nd rfl (Or.inl rfl) (pe_op op_add pe_int (pe_call (ok_law_take T) (hr.mono (by decide)) rfl T.m_law_take T.F_law_take.kp T.b_law_take .nil pass0 (pa_cons (pv 0) (pa_cons pe_int pa_nil)))))
      (pss_cons (ps_set (i := 2) sc_law_call_rule.nd rfl (Or.inl rfl) (pe_op op_add pe_int (pe_call (ok_law_take T) (hr.mono (by decide)) rfl T.m_law_take T.F_law_take.kp T.b_law_take .nil pass0 (pa_cons (pv 0) (pa_cons pe_int pa_nil)))))
      (pss_cons (ps_set (i := 3) sc_law_call_rule.nd rfl (Or.inl rfl) (pe_lst (pa_cons (pe_tup (pa_cons pe_int (pa_cons (pv 1) pa_nil))) (pa_cons (pe_tup (pa_cons pe_int (pa_cons (pv 2) pa_nil))) (pa_cons (pe_tup (pa_cons pe_int (pa_cons pe_int pa_nil))) (pa_cons (pe_tup (pa_cons pe_int (pa_cons pe_int pa_nil))) (pa_cons (pe_tup (pa_cons pe_int (pa_cons pe_int pa_nil))) (pa_cons (pe_tup (pa_cons pe_int (pa_cons pe_int pa_nil))) pa_nil))))))))
      (pss_cons (ps_set (i := 4) sc_law_call_rule.nd rfl (Or.inl rfl) (pe_lst (pa_cons (pe_tup (pa_cons pe_int (pa_cons pe_int pa_nil))) (pa_cons (pe_tup (pa_cons pe_int (pa_cons (pe_op op_sub (pv 2) (pv 1)) pa_nil))) (pa_cons (pe_tup (pa_cons pe_int (pa_cons pe_int pa_nil))) (pa_cons (pe_tup (pa_cons pe_int (pa_cons (pe_un un_neg (pv 1)) pa_nil))) (pa_cons (pe_tup (pa_cons pe_int (pa_cons (pe_un un_neg (pv 1)) pa_nil))) (pa_cons (pe_tup (pa_cons pe_int (pa_cons (pe_un un_neg (pv 1)) pa_nil))) pa_nil))))))))
      (pss_cons (ps_set (i := 5) sc_law_call_rule.nd rfl (Or.inl rfl) (pe_lst (pa_cons (pe_tup (pa_cons pe_int (pa_cons pe_int pa_nil))) (pa_cons (pe_tup (pa_cons pe_int (pa_cons pe_int pa_nil))) (pa_cons (pe_tup (pa_cons pe_int (pa_cons pe_int pa_nil))) (pa_cons (pe_tup (pa_cons pe_int (pa_cons (pe_un un_neg (pv 2)) pa_nil))) (pa_cons (pe_tup (pa_cons pe_int (pa_cons (pe_un un_neg (pv 2)) pa_nil))) (pa_cons (pe_tup (pa_cons pe_int (pa_cons (pe_un un_neg (pv 2)) pa_nil))) pa_nil))))))))
      (pss_cons (ps_set (i := 6) sc_law_call_rule.nd rfl (Or.inl rfl) (pe_lst (pa_cons (pe_tup (pa_cons pe_int (pa_cons (pv 1) pa_nil))) (pa_cons (pe_tup (pa_cons pe_int (pa_cons (pv 2) pa_nil))) (pa_cons (pe_tup (pa_cons pe_int (pa_cons pe_int pa_nil))) (pa_cons (pe_tup (pa_cons pe_int (pa_cons pe_int pa_nil))) (pa_cons (pe_tup (pa_cons pe_int (pa_cons pe_int pa_nil))) (pa_cons (pe_tup (pa_cons pe_int (pa_cons pe_int pa_nil))) pa_nil))))))))
      (pss_one (ps_ret (pe_lst (pa_cons (pv 3) (pa_cons (pv 4) (pa_cons (pv 5) (pa_cons (pv 6) pa_nil))))))))))))), ?_⟩
    try dsimp only [L2.cxOf, L2.Cx.nox, L2.Cx.wish]
    change (_ : TS) _ ([some (.ref dk), none, none, none, none, none, none] : St) _
    walk_at "rd"
    intro z z0 z1
    walk_at "rd"
    intro y y0 y1
    walk_at "rd"
    have base := MkAs.nil0 (K := K) H
    refine Rd.xtup rfl fun q00 H00 n00 e00 h00 => ?_
    walk_at "rd"
    refine Rd.xtup rfl fun q01 H01 n01 e01 h01 => ?_
    walk_at "rd"
    refine Rd.xtup rfl fun q02 H02 n02 e02 h02 => ?_
    walk_at "rd"
    refine Rd.xtup rfl fun q03 H03 n03 e03 h03 => ?_
    walk_at "rd"
    refine Rd.xtup rfl fun q04 H04 n04 e04 h04 => ?_
    walk_at "rd"
    refine Rd.xtup rfl fun q05 H05 n05 e05 h05 => ?_
    walk_at "rd"
    refine Rd.xlst rfl fun l0 J0 m0 f0 g0 => ?_
    walk_at "rd"
    have d0 : DpAll K J0 [.ref q00, .ref q01, .ref q02, .ref q03, .ref q04, .ref q05] (([(1, (1 + z)), (2, (1 + y)), (0, 0), (0, 0), (0, 0), (0, 0)] : List (Int × Int)).map pairD) := by
      repeat (first | exact .nil | refine .cons ?_ ?_ | (refine Dt.ofT (by walk_at "hp") ?_) | exact .int _)
    have b0 := (base.mono (((((e00.trans e01).trans e02).trans e03).trans e04).trans e05)).snoc f0 m0 g0 d0
    refine Rd.xtup rfl fun q10 H10 n10 e10 h10 => ?_
    walk_at "rd"
    refine Rd.xtup rfl fun q11 H11 n11 e11 h11 => ?_
    walk_at "rd"
    refine Rd.xtup rfl fun q12 H12 n12 e12 h12 => ?_
    walk_at "rd"
    refine Rd.xtup rfl fun q13 H13 n13 e13 h13 => ?_
    walk_at "rd"
    refine Rd.xtup rfl fun q14 H14 n14 e14 h14 => ?_
    walk_at "rd"
    refine Rd.xtup rfl fun q15 H15 n15 e15 h15 => ?_
    walk_at "rd"
    refine Rd.xlst rfl fun l1 J1 m1 f1 g1 => ?_
    walk_at "rd"
    have d1 : DpAll K J1 [.ref q10, .ref q11, .ref q12, .ref q13, .ref q14, .ref q15] (([(1, 0), (2, ((1 + y) - (1 + z))), (1, 0), (0, (-(1 + z))), (0, (-(1 + z))), (3, (-(1 + z)))] : List (Int × Int)).map pairD) := by
      repeat (first | exact .nil | refine .cons ?_ ?_ | (refine Dt.ofT (by walk_at "hp") ?_) | exact .int _)
    have b1 := (b0.mono (((((e10.trans e11).trans e12).trans e13).trans e14).trans e15)).snoc f1 m1 g1 d1
    refine Rd.xtup rfl fun q20 H20 n20 e20 h20 => ?_
    walk_at "rd"
    refine Rd.xtup rfl fun q21 H21 n21 e21 h21 => ?_
    walk_at "rd"
    refine Rd.xtup rfl fun q22 H22 n22 e22 h22 => ?_
    walk_at "rd"
    refine Rd.xtup rfl fun q23 H23 n23 e23 h23 => ?_
    walk_at "rd"
    refine Rd.xtup rfl fun q24 H24 n24 e24 h24 => ?_
    walk_at "rd"
    refine Rd.xtup rfl fun q25 H25 n25 e25 h25 => ?_
    walk_at "rd"
    refine Rd.xlst rfl fun l2 J2 m2 f2 g2 => ?_
    walk_at "rd"
    have d2 : DpAll K J2 [.ref q20, .ref q21, .ref q22, .ref q23, .ref q24, .ref q25] (([(2, 0), (2, 0), (2, 0), (0, (-(1 + y))), (0, (-(1 + y))), (0, (-(1 + y)))] : List (Int × Int)).map pairD) := by
      repeat (first | exact .nil | refine .cons ?_ ?_ | (refine Dt.ofT (by walk_at "hp") ?_) | exact .int _)
    have b2 := (b1.mono (((((e20.trans e21).trans e22).trans e23).trans e24).trans e25)).snoc f2 m2 g2 d2
    refine Rd.xtup rfl fun q30 H30 n30 e30 h30 => ?_
    walk_at "rd"
    refine Rd.xtup rfl fun q31 H31 n31 e31 h31 => ?_
    walk_at "rd"
    refine Rd.xtup rfl fun q32 H32 n32 e32 h32 => ?_
    walk_at "rd"
    refine Rd.xtup rfl fun q33 H33 n33 e33 h33 => ?_
    walk_at "rd"
    refine Rd.xtup rfl fun q34 H34 n34 e34 h34 => ?_
    walk_at "rd"
    refine Rd.xtup rfl fun q35 H35 n35 e35 h35 => ?_
    walk_at "rd"
    refine Rd.xlst rfl fun l3 J3 m3 f3 g3 => ?_
    walk_at "rd"
    have d3 : DpAll K J3 [.ref q30, .ref q31, .ref q32, .ref q33, .ref q34, .ref q35] (([(1, (1 + z)), (2, (1 + y)), (3, 0), (0, 0), (0, 0), (3, 0)] : List (Int × Int)).map pairD) := by
      repeat (first | exact .nil | refine .cons ?_ ?_ | (refine Dt.ofT (by walk_at "hp") ?_) | exact .int _)
    have b3 := (b2.mono (((((e30.trans e31).trans e32).trans e33).trans e34).trans e35)).snoc f3 m3 g3 d3
    refine Rd.xlst rfl fun rl J4 m4 f4 g4 => ?_
    walk_at "rd"
    refine k rl [[(1, (1 + z)), (2, (1 + y)), (0, 0), (0, 0), (0, 0), (0, 0)], [(1, 0), (2, ((1 + y) - (1 + z))), (1, 0), (0, (-(1 + z))), (0, (-(1 + z))), (3, (-(1 + z)))], [(2, 0), (2, 0), (2, 0), (0, (-(1 + y))), (0, (-(1 + y))), (0, (-(1 + y)))], [(1, (1 + z)), (2, (1 + y)), (3, 0), (0, 0), (0, 0), (3, 0)]] J4 (WF.of (n := 4) rfl (by decide) (by decide) ?_) ⟨_, b3.close m4 f4 g4⟩
    intro m hm
    simp only [List.mem_cons, List.not_mem_nil, or_false] at hm
    rcases hm with rfl | rfl | rfl | rfl
    all_goals
      refine ⟨rfl, fun p hp => ?_⟩
      simp only [List.mem_cons, List.not_mem_nil, or_false] at hp
      rcases hp with rfl | rfl | rfl | rfl | rfl | rfl <;> exact ⟨by dsimp only; omega, by dsimp only; omega, by dsimp only; omega, by dsimp only; omega⟩
def spSpoil (K : PySem.W.Frag) : Sp := fun vs H Q _ => ∃ (dk rl : Addr) (G : Hp) (R : Rule), vs = [.ref dk, .ref rl] ∧ G dk = some (Dk.DkO dk) ∧ RuleAt K G H rl R ∧ WF R ∧ ∀ R' H', WF R' → RuleAt K G H' rl R' → Q .non H'
theorem ok_law_spoil {ad : Ad} (T : Txt K mg ad) : FnOk P w K mg base CX0 2 ad.a_law_spoil ad.d_law_spoil ["deck", "rule"] (spSpoil K) := by
  refine T.F_law_spoil.ok sc_law_spoil (fun vs H Q E h => ?_) (fun cdv A outer s H vs Q E hr h => ?_)
  · obtain ⟨dk, rl, G, R, rfl, hDG, ⟨as, hR⟩, hWF, k⟩ := h
    rfl
  · obtain ⟨dk, rl, G, R, rfl, hDG, ⟨as, hR⟩, hWF, k⟩ := h
    refine ⟨_, (pss_cons (ps_set (i := 2) sc_law_spoil.nd rfl (Or.inl rfl) (pe_call (ok_law_take T) (hr.mono (by decide)) rfl T.m_law_take T.F_law_take.kp T.b_law_take .nil pass0 (pa_cons (pv 0) (pa_cons (pe_callB (id := "len") Rd.c_len (by rfl) T.z_len (by decide +kernel) (pa_cons (pv 1) pa_nil)) pa_nil))))
      (pss_cons (ps_set (i := 3) sc_law_spoil.nd rfl (Or.inl rfl) (pe_call (ok_law_take T) (hr.mono (by decide)) rfl T.m_law_take T.F_law_take.kp T.b_law_take .nil pass0 (pa_cons (pv 0) (pa_cons pe_int pa_nil))))
      (pss_cons (ps_set (i := 4) sc_law_spoil.nd rfl (Or.inl rfl) (pe_ix ix_list (pe_ix ix_list (pv 1) (pv 2) (fun _ _ => rfl)) (pv 3) (fun _ _ => rfl)))
      (pss_cons (ps_set (i := 5) sc_law_spoil.nd rfl (Or.inl rfl) (pe_call (ok_law_take T) (hr.mono (by decide)) rfl T.m_law_take T.F_law_take.kp T.b_law_take .nil pass0 (pa_cons (pv 0) (pa_cons pe_int pa_nil))))
      (pss_one (ps_if (pt_cmpR op_eq (pv 5) pe_int (nomark _)) (pss_one (ps_asg (pe_tup (pa_cons (pe_call (ok_law_take T) (hr.mono (by decide)) rfl T.m_law_take T.F_law_take.kp T.b_law_take .nil pass0 (pa_cons (pv 0) (pa_cons (pe_callB (id := "len") Rd.c_len (by rfl) T.z_len (by decide +kernel) (pa_cons (pv 1) pa_nil)) pa_nil))) (pa_cons (pe_ix ix_tup (pv 4) pe_int (fun _ _ => rfl)) pa_nil))) (pg_sub (pe_ix ix_list (pv 1) (pv 2) (fun _ _ => rfl)) (pv 3) set_list))) (pss_one (ps_if (pt_cmpR op_eq (pv 5) pe_int (nomark _)) (pss_one (ps_asg (pe_tup (pa_cons (pe_ix ix_tup (pv 4) pe_int (fun _ _ => rfl)) (pa_cons (pe_callB (id := "min") (Rd.c_min2 rfl) (by rfl) T.z_min (by decide +kernel) (pa_cons pe_int (pa_cons (pe_op op_add (pe_ix ix_tup (pv 4) pe_int (fun _ _ => rfl)) pe_int) pa_nil))) pa_nil))) (pg_sub (pe_ix ix_list (pv 1) (pv 2) (fun _ _ => rfl)) (pv 3) set_list))) (pss_one (ps_asg (pe_tup (pa_cons (pe_ix ix_tup (pv 4) pe_int (fun _ _ => rfl)) (pa_cons (pe_callB (id := "max") (Rd.c_max2 rfl) (by rfl) T.z_max (by decide +kernel) (pa_cons (pe_un un_neg pe_int) (pa_cons (pe_op op_sub (pe_ix ix_tup (pv 4) pe_int (fun _ _ => rfl)) pe_int) pa_nil))) pa_nil))) (pg_sub (pe_ix ix_list (pv 1) (pv 2) (fun _ _ => rfl)) (pv 3) set_list))))))))))), ?_⟩
    try dsimp only [L2.cxOf, L2.Cx.nox, L2.Cx.wish]
    change (_ : TS) _ ([some (.ref dk), some (.ref rl), none, none, none, none] : St) _
    obtain ⟨w1, w4, wm⟩ := id hWF
    have hD := hR.mks.ex _ _ hDG
    have hat := hR.at_
    have hal : (as.map V.ref).length = R.length := by rw [List.length_map, hR.mks.len]
    walk_at "rd"
    intro z z0 z1
    walk_at "rd"
    intro y y0 y1
    walk_at "rd"
    obtain ⟨i, rfl⟩ := Int.eq_ofNat_of_zero_le z0
    obtain ⟨j, rfl⟩ := Int.eq_ofNat_of_zero_le y0
    have hi : i < R.length := by omega
    have hia : i < as.length := by rw [hR.mks.len]; exact hi
    have h1 : as[i]? = some (as[i]'hia) := List.getElem?_eq_getElem hia
    have h2 : R[i]? = some (R[i]'hi) := List.getElem?_eq_getElem hi
    generalize as[i]'hia = a at h1
    generalize R[i]'hi = m at h2
    obtain ⟨na, vs, h3, h4⟩ := hR.mks.get i a m h1 h2
    obtain ⟨hm6, hmk⟩ := wm m (List.mem_of_getElem? h2)
    have hvl := lenMap h4
    have hj : j < m.length := by omega
    have h5 : m[j]? = some (m[j]'hj) := List.getElem?_eq_getElem hj
    generalize m[j]'hj = p at h5
    obtain ⟨vp, hvp, hdp⟩ := mapA2 h4 h5
    obtain ⟨tp, rfl, hsp⟩ := pair_inv hdp
    obtain ⟨p0, p1, p2, p3⟩ := hmk p (List.mem_of_getElem? h5)
    refine Rd.ixL (SqL.of hat) (atI_nat (by rw [List.getElem?_map, h1]; rfl)) ?_
    walk_at "rd"
    refine Rd.ixL (SqL.of h3) (atI_nat hvp) ?_
    walk_at "rd"
    intro x x0 x1
    walk_at "rd"
    have fin : ∀ (g c : Int) (q : Addr) (H1 : Hp), 0 ≤ g → g < R.length → -3 ≤ c → c ≤ 3 → Evl.Ex H H1 → H1 q = some (.tup [.int g, .int c]) → Q .non (upd H1 a (.lst (vs.set j (.ref q)))) := fun g c q H1 g0 g1 c0 c1 e1 hq =>
      k _ _ (WF.set (j := j) (p := (g, c)) hWF h2 ⟨g0, g1, c0, c1⟩) ⟨as, (hR.mono e1).set (p := (g, c)) h1 h2 (e1 _ _ h3) (Dt.mnA h4 e1) hq⟩
    have hix : ∀ (H1 : Hp), Evl.Ex H H1 → ixN vs.length (j : Int) = some j := fun _ _ => Evl.ixN_nat (by omega)
    refine Rd.ifd (fun c1 => ?_) (fun c1 => ?_)
    · walk_at "rd"
      intro g g0 g1
      walk_at "rd"
      refine Rd.xtup rfl fun q H1 n1 e1 hq => ?_
      walk_at "rd"
      refine Rd.ixL (SqL.of (e1 _ _ hat)) (atI_nat (by rw [List.getElem?_map, h1]; rfl)) ?_
      walk_at "rd"
      refine Rd.setL (e1 _ _ h3) (hix H1 e1) ?_
      walk_at "rd"
      exact fin _ _ q H1 g0 (by rw [hal] at g1; exact g1) p2 p3 e1 hq
    · walk_at "rd"
      refine Rd.ifd (fun c2 => ?_) (fun c2 => ?_)
      · walk_at "rd"
        refine Rd.xtup rfl fun q H1 n1 e1 hq => ?_
        walk_at "rd"
        refine Rd.ixL (SqL.of (e1 _ _ hat)) (atI_nat (by rw [List.getElem?_map, h1]; rfl)) ?_
        walk_at "rd"
        refine Rd.setL (e1 _ _ h3) (hix H1 e1) ?_
        walk_at "rd"
        exact fin _ _ q H1 p0 p1 (by split <;> omega) (by split <;> omega) e1 hq
      · walk_at "rd"
        refine Rd.xtup rfl fun q H1 n1 e1 hq => ?_
        walk_at "rd"
        refine Rd.ixL (SqL.of (e1 _ _ hat)) (atI_nat (by rw [List.getElem?_map, h1]; rfl)) ?_
        walk_at "rd"
        refine Rd.setL (e1 _ _ h3) (hix H1 e1) ?_
        walk_at "rd"
        exact fin _ _ q H1 p0 p1 (by split <;> omega) (by split <;> omega) e1 hq

/-! ### a drawn spec, and its row -/
def SpecAt (K : PySem.W.Frag) (H : Hp) (sp : Addr) (mo sh le gr : Str) (R : Rule) : Prop := ∃ rl, SqL K H sp [.str mo, .str sh, .str le, .str gr, .ref rl] ∧ Dp K H (.ref rl) (ruleL R)
theorem SpecAt.mono {K : PySem.W.Frag} {H H' : Hp} {sp : Addr} {mo sh le gr : Str} {R : Rule} (h : SpecAt K H sp mo sh le gr R) (e : Evl.Ex H H') : SpecAt K H' sp mo sh le gr R := by
  obtain ⟨rl, h1, h2⟩ := h
  exact ⟨rl, Evl.ex_l e h1, Dt.mn h2 e⟩
theorem two_at {a b : Str} {k : Int} (h0 : 0 ≤ k) (h1 : k < 2) : ∃ s : Str, (s = a ∨ s = b) ∧ atI [V.str a, V.str b] k = some (.str s) := by
  obtain rfl | rfl : k = 0 ∨ k = 1 := by omega
  · exact ⟨a, .inl rfl, rfl⟩
  · exact ⟨b, .inr rfl, rfl⟩
theorem three_at {a b c : Str} {k : Int} (h0 : 0 ≤ k) (h1 : k < 3) : ∃ s : Str, (s = a ∨ s = b ∨ s = c) ∧ atI [V.str a, V.str b, V.str c] k = some (.str s) := by
  obtain rfl | rfl | rfl : k = 0 ∨ k = 1 ∨ k = 2 := by omega
  · exact ⟨a, .inl rfl, rfl⟩
  · exact ⟨b, .inr (.inl rfl), rfl⟩
  · exact ⟨c, .inr (.inr rfl), rfl⟩
def spSpec (K : PySem.W.Frag) : Sp := fun vs H Q _ => ∃ dk : Addr, vs = [.ref dk] ∧ H dk = some (Dk.DkO dk) ∧ ∀ (sp : Addr) (sh le gr : Str) (R : Rule) (H' : Hp), Evl.Ex H H' → H' sp ≠ none → H sp = none → SpecAt K H' sp "held" sh le gr R → RowOk "held" sh le gr R → R.length ≤ 4 → Q (.ref sp) H'
theorem ok_law_spec {ad : Ad} (T : Txt K mg ad) : FnOk P w K mg base CX0 3 ad.a_law_spec ad.d_law_spec ["deck"] (spSpec K) := by
  refine T.F_law_spec.ok sc_law_spec (fun vs H Q E h => ?_) (fun cdv A outer s H vs Q E hr h => ?_)
  · obtain ⟨dk, rfl, hD, k⟩ := h
    rfl
  · obtain ⟨dk, rfl, hD, k⟩ := h
    refine ⟨_, (pss_cons (ps_set (i := 1) sc_law_spec.nd rfl (Or.inl rfl) (pe_ix ix_list (pe_lst (pa_cons pe_str (pa_cons pe_str pa_nil))) (pe_call (ok_law_take T) (hr.mono (by decide)) rfl T.m_law_take T.F_law_take.kp T.b_law_take .nil pass0 (pa_cons (pv 0) (pa_cons pe_int pa_nil))) (fun _ _ => rfl)))
      (pss_cons (ps_set (i := 2) sc_law_spec.nd rfl (Or.inl rfl) (pe_ix ix_list (pe_lst (pa_cons pe_str (pa_cons pe_str pa_nil))) (pe_call (ok_law_take T) (hr.mono (by decide)) rfl T.m_law_take T.F_law_take.kp T.b_law_take .nil pass0 (pa_cons (pv 0) (pa_cons pe_int pa_nil))) (fun _ _ => rfl)))
      (pss_cons (ps_set (i := 3) sc_law_spec.nd rfl (Or.inl rfl) (pe_ix ix_list (pe_lst (pa_cons pe_str (pa_cons pe_str (pa_cons pe_str pa_nil)))) (pe_call (ok_law_take T) (hr.mono (by decide)) rfl T.m_law_take T.F_law_take.kp T.b_law_take .nil pass0 (pa_cons (pv 0) (pa_cons pe_int pa_nil))) (fun _ _ => rfl)))
      (pss_cons (ps_set (i := 4) sc_law_spec.nd rfl (Or.inl rfl) (pe_call (ok_law_take T) (hr.mono (by decide)) rfl T.m_law_take T.F_law_take.kp T.b_law_take .nil pass0 (pa_cons (pv 0) (pa_cons pe_int pa_nil))))
      (Evl.pss_cut (ps_if (pt_cmpR op_eq (pv 4) pe_int (nomark _)) (pss_one (ps_set (i := 5) sc_law_spec.nd rfl (Or.inl rfl) (pe_call (ok_law_wild_rule T) (hr.mono (by decide)) rfl T.m_law_wild_rule T.F_law_wild_rule.kp T.b_law_wild_rule .nil pass0 (pa_cons (pv 0) pa_nil)))) (pss_one (ps_if (pt_cmpR op_eq (pv 4) pe_int (nomark _)) (pss_cons (ps_set (i := 2) sc_law_spec.nd rfl (Or.inl rfl) pe_str)
      (pss_one (ps_set (i := 5) sc_law_spec.nd rfl (Or.inl rfl) (pe_call (ok_law_call_rule T) (hr.mono (by decide)) rfl T.m_law_call_rule T.F_law_call_rule.kp T.b_law_call_rule .nil pass0 (pa_cons (pv 0) pa_nil))))) (pss_one (ps_if (pt_cmpR op_eq (pv 4) pe_int (nomark _)) (pss_cons (ps_set (i := 1) sc_law_spec.nd rfl (Or.inl rfl) pe_str)
      (pss_cons (ps_set (i := 6) sc_law_spec.nd rfl (Or.inl rfl) (pe_op op_add pe_int (pe_call (ok_law_take T) (hr.mono (by decide)) rfl T.m_law_take T.F_law_take.kp T.b_law_take .nil pass0 (pa_cons (pv 0) (pa_cons pe_int pa_nil)))))
      (pss_one (ps_set (i := 5) sc_law_spec.nd rfl (Or.inl rfl) (pe_lst (pa_cons (pe_lst (pa_cons (pe_tup (pa_cons pe_int (pa_cons (pv 6) pa_nil))) (pa_cons (pe_tup (pa_cons pe_int (pa_cons (pv 6) pa_nil))) (pa_cons (pe_tup (pa_cons pe_int (pa_cons pe_int pa_nil))) (pa_cons (pe_tup (pa_cons pe_int (pa_cons pe_int pa_nil))) (pa_cons (pe_tup (pa_cons pe_int (pa_cons pe_int pa_nil))) (pa_cons (pe_tup (pa_cons pe_int (pa_cons (pe_un un_neg (pv 6)) pa_nil))) pa_nil))))))) pa_nil)))))) (pss_one (ps_set (i := 5) sc_law_spec.nd rfl (Or.inl rfl) (pe_call (ok_law_living_rule T) (hr.mono (by decide)) rfl T.m_law_living_rule T.F_law_living_rule.kp T.b_law_living_rule .nil pass0 (pa_cons (pv 0) pa_nil)))))))))
      (pss_cons (ps_for PassesOwn.never rfl (pi_range1 rfl T.z_range (pa_cons (pe_call (ok_law_take T) (hr.mono (by decide)) rfl T.m_law_take T.F_law_take.kp T.b_law_take .nil pass0 (pa_cons (pv 0) (pa_cons pe_int pa_nil))) pa_nil)) (pg_name (i := 7) sc_law_spec.nd rfl (Or.inl rfl)) (pss_one (ps_expr (pe_call (ok_law_spoil T) (hr.mono (by decide)) rfl T.m_law_spoil T.F_law_spoil.kp T.b_law_spoil .nil pass0 (pa_cons (pv 0) (pa_cons (pv 5) pa_nil))))))
      (pss_one (ps_ret (pe_lst (pa_cons pe_str (pa_cons (pv 1) (pa_cons (pv 2) (pa_cons (pv 3) (pa_cons (pv 5) pa_nil)))))))))))))), ?_⟩
    try dsimp only [L2.cxOf, L2.Cx.nox, L2.Cx.wish]
    change (_ : TS) _ ([some (.ref dk), none, none, none, none, none, none, none] : St) _
    walk_at "rd"
    refine Rd.xlst rfl fun la H1 n1 e1 hla => ?_
    walk_at "rd"
    intro z z0 z1
    obtain ⟨sh, hsh, hat1⟩ := two_at (a := "one") (b := "each") z0 z1
    refine Rd.ixL (SqL.of hla) hat1 ?_
    walk_at "rd"
    refine Rd.xlst rfl fun lb H2 n2 e2 hlb => ?_
    walk_at "rd"
    intro y y0 y1
    obtain ⟨le, hle, hat2⟩ := two_at (a := "always") (b := "call") y0 y1
    refine Rd.ixL (SqL.of hlb) hat2 ?_
    walk_at "rd"
    refine Rd.xlst rfl fun lc H3 n3 e3 hlc => ?_
    walk_at "rd"
    intro x x0 x1
    obtain ⟨gr, hgr, hat3⟩ := three_at (a := "slot") (b := "place") (c := "pin") x0 x1
    refine Rd.ixL (SqL.of hlc) hat3 ?_
    walk_at "rd"
    intro kd kd0 kd1
    walk_at "rd"
    have e03 := (e1.trans e2).trans e3
    have hD3 := e03 _ _ hD
    refine ⟨fun σ H' => ∃ (sh' le' : Str) (rl : Addr) (v6 : Option V) (R : Rule), (sh' = "one" ∨ sh' = "each") ∧ (le' = "always" ∨ le' = "call") ∧ σ = [some (.ref dk), some (.str sh'), some (.str le'), some (.str gr), some (.int kd), some (.ref rl), v6, none] ∧ WF R ∧ RuleAt K H H' rl R, ?_, ?_⟩
    · walk_at "rd"
      refine Rd.ifd (fun c1 => ?_) (fun c1 => ?_)
      · walk_at "rd"
        refine ⟨dk, rfl, hD3, fun rl R H4 hW hR => ?_⟩
        walk_at "rd"
        obtain ⟨as, hR⟩ := hR
        exact ⟨_, _, rl, _, R, hsh, hle, rfl, hW, as, hR.onto e03⟩
      · walk_at "rd"
        refine Rd.ifd (fun c1 => ?_) (fun c1 => ?_)
        · walk_at "rd"
          refine ⟨dk, rfl, hD3, fun rl R H4 hW hR => ?_⟩
          walk_at "rd"
          obtain ⟨as, hR⟩ := hR
          exact ⟨_, _, rl, _, R, hsh, .inr rfl, rfl, hW, as, hR.onto e03⟩
        · walk_at "rd"
          refine Rd.ifd (fun c1 => ?_) (fun c1 => ?_)
          · walk_at "rd"
            intro h h0 h1
            walk_at "rd"
            refine Rd.xtup rfl fun q0 J0 m0 f0 g0 => ?_
            walk_at "rd"
            refine Rd.xtup rfl fun q1 J1 m1 f1 g1 => ?_
            walk_at "rd"
            refine Rd.xtup rfl fun q2 J2 m2 f2 g2 => ?_
            walk_at "rd"
            refine Rd.xtup rfl fun q3 J3 m3 f3 g3 => ?_
            walk_at "rd"
            refine Rd.xtup rfl fun q4 J4 m4 f4 g4 => ?_
            walk_at "rd"
            refine Rd.xtup rfl fun q5 J5 m5 f5 g5 => ?_
            walk_at "rd"
            refine Rd.xlst rfl fun ml J6 m6 f6 g6 => ?_
            walk_at "rd"
            refine Rd.xlst rfl fun rl J7 m7 f7 g7 => ?_
            walk_at "rd"
            have d0 : DpAll K J6 [.ref q0, .ref q1, .ref q2, .ref q3, .ref q4, .ref q5] (([(0, 1 + h), (0, 1 + h), (0, 0), (0, 0), (0, 0), (0, -(1 + h))] : List (Int × Int)).map pairD) := by
              repeat (first | exact .nil | refine .cons ?_ ?_ | (refine Dt.ofT (by walk_at "hp") ?_) | exact .int _)
            have b0 := ((MkAs.nil0 (K := K) H).mono (((((((e03.trans f0).trans f1).trans f2).trans f3).trans f4).trans f5))).snoc f6 m6 g6 d0
            refine ⟨_, _, rl, _, [[(0, 1 + h), (0, 1 + h), (0, 0), (0, 0), (0, 0), (0, -(1 + h))]], .inr rfl, hle, rfl, WF.of (n := 1) rfl (by decide) (by decide) ?_, _, b0.close m7 f7 g7⟩
            intro m hm
            simp only [List.mem_cons, List.not_mem_nil, or_false] at hm
            rcases hm with rfl
            refine ⟨rfl, fun p hp => ?_⟩
            simp only [List.mem_cons, List.not_mem_nil, or_false] at hp
            rcases hp with rfl | rfl | rfl | rfl | rfl | rfl <;> exact ⟨by dsimp only; omega, by dsimp only; omega, by dsimp only; omega, by dsimp only; omega⟩
          · walk_at "rd"
            refine ⟨dk, rfl, hD3, fun rl R H4 hW hR => ?_⟩
            walk_at "rd"
            obtain ⟨as, hR⟩ := hR
            exact ⟨_, _, rl, _, R, hsh, hle, rfl, hW, as, hR.onto e03⟩
    · rintro σ H4 ⟨sh', le', rl, v6, R, hsh', hle', rfl, hW, as, hR⟩
      have hD4 := hR.mks.ex _ _ hD
      walk_at "rd"
      intro t t0 t1
      refine Rd.xfr1 ⟨by omega, by omega⟩ (fun i σ H' => ∃ v7, σ = [some (.ref dk), some (.str sh'), some (.str le'), some (.str gr), some (.int kd), some (.ref rl), v6, v7] ∧ ∃ R, WF R ∧ RuleAt K H H' rl R) ⟨_, rfl, R, hW, as, hR⟩ ?_ ?_
      · rintro i σ H5 hi ⟨v7, rfl, R5, hW5, hR5⟩
        walk_at "rd"
        refine ⟨dk, rl, H, R5, rfl, hD, hR5, hW5, fun R6 H6 hW6 hR6 => ?_⟩
        walk_at "rd"
        exact ⟨_, rfl, R6, hW6, hR6⟩
      · rintro σ H5 ⟨v7, rfl, R5, hW5, as5, hR5⟩
        walk_at "rd"
        refine Rd.xlst rfl fun sp H6 n6 e6 hsp => ?_
        walk_at "rd"
        refine k sp sh' le' gr R5 H6 (hR5.mks.ex.trans e6) (by rw [hsp]; exact fun z => by cases z) (Evl.fresh_back hR5.mks.ex n6) ⟨rl, SqL.of hsp, Dt.mn hR5.dp e6⟩ ⟨wf_ruleB hW5, .inl ⟨rfl, hsh', hle', hgr⟩⟩ hW5.2.1
def spRowOf (C : Addr) (K : PySem.W.Frag) : Sp := fun vs H Q _ => ∃ (sp : Addr) (mo sh le gr : Str) (R : Rule), vs = [.ref sp] ∧ SpecAt K H sp mo sh le gr R ∧ RowOk mo sh le gr R ∧ R.length ≤ 4 ∧ ∀ x H', Evl.Ex H H' → RowAt K C H' x mo sh le gr R → Q (.ref x) H'
theorem ok_law_row {ad : Ad} (T : Txt K mg ad) : FnOk P w K mg base CX0 5 ad.a_law_row ad.d_law_row ["spec"] (spRowOf ad.c_Row K) := by
  refine T.F_law_row.ok sc_law_row (fun vs H Q E h => ?_) (fun cdv A outer s H vs Q E hr h => ?_)
  · obtain ⟨sp, mo, sh, le, gr, R, rfl, ⟨rl, hsp, hrl⟩, hok, h4, k⟩ := h
    rfl
  · obtain ⟨sp, mo, sh, le, gr, R, rfl, ⟨rl, hsp, hrl⟩, hok, h4, k⟩ := h
    refine ⟨_, (pss_one (ps_ret (pe_make T.mk_Row (ok_Row_init_ T) (hr.mono (by decide)) rfl T.mg_Row T.b_Row_init_ .nil pass0 (pa_cons (pe_ix ix_list (pv 0) pe_int (fun _ _ => rfl)) (pa_cons (pe_ix ix_list (pv 0) pe_int (fun _ _ => rfl)) (pa_cons (pe_ix ix_list (pv 0) pe_int (fun _ _ => rfl)) (pa_cons (pe_ix ix_list (pv 0) pe_int (fun _ _ => rfl)) (pa_cons (pe_lc (own := [("mark", 1)]) (g := gName 1) (tt := tYes) rfl sc_law_row.nd (pi_list (pe_ix ix_list (pv 0) pe_int (fun _ _ => rfl))) (blkOk_by (N := ["spec", "mark"]) (sc := defScope s_law_row) (by decide +kernel)) (fun _ _ _ _ _ => (pg_name (i := 1) sc_law_row.nd rfl (Or.inl rfl))) (fun _ _ _ _ _ => pts_nil) (fun _ _ _ _ _ => (pe_callTy (T := "list") (Rd.c_list : CallR _ _ (Rd.rListOf K)) (by rfl) T.z_list (by decide +kernel) (pa_cons (pv 1) pa_nil)))) pa_nil)))))))), ?_⟩
    try dsimp only [L2.cxOf, L2.Cx.nox, L2.Cx.wish]
    change (_ : TS) _ ([some (.ref sp), none] : St) _
    obtain ⟨al, vs, eal, hs, hA⟩ := Dt.inv_l hrl
    cases eal
    have hl := lenMap hA
    walk_at "rd"
    refine Rd.xlcG (K := K) (xs := vs) (fun i d => ∃ m, R[i]? = some m ∧ d = markL m) hs (by omega) (fun _ => rfl) ?_ ?_
    · intro i x D G H' acc hi hD eG eH gD hacc Q' q
      obtain ⟨m, hm, hv⟩ := mapA hA hi
      obtain ⟨am, vm, rfl, hsm, hAm⟩ := Dt.inv_l hv
      have hsm' := Evl.ex_l (eG.trans eH) hsm
      walk_at "rd"
      refine Rd.listOf hsm' fun p H2 np e2 hp => ?_
      walk_at "rd"
      refine q _ H2 (upd G p (.lst vm)) (markL m) (Rd.grow1 eH np) (Rd.grow2 eH e2 hp) (Rd.grow3 gD np hacc) e2 ?_ ⟨m, hm, rfl⟩
      exact Dt.ofL upd_same (Dt.mnA hAm (eG.trans (Rd.grow1 eH np)))
    · intro p G' H' ys ds np e1 e2 gp hp hd hdl hdR
      walk_at "rd"
      have e : ds = R.map markL := by
        refine List.ext_getElem? fun i => ?_
        rw [List.getElem?_map]
        by_cases hi : i < ds.length
        · obtain ⟨m, hm, hdm⟩ := hdR i _ (List.getElem?_eq_getElem hi)
          rw [List.getElem?_eq_getElem hi, hm, hdm]; rfl
        · rw [List.getElem?_eq_none (by omega), List.getElem?_eq_none (by omega)]; rfl
      subst e
      refine x_rowI (Dt.ofL hp (Dt.mnA hd e2)) (.inl rfl) (by omega) hok fun x H3 e3 n3 h3 => ?_
      exact k x H3 ((e1.trans e2).trans e3) h3

/-! split -/
/-! ### nodes and events -/
def usB (le s : Str) (a : Bool) : Bool := a && (decide (le = "always") || !decide (s = "shut"))
def finB (s : Str) (a : Bool) : Bool := !a && !decide (s = "open")
def canB (mo sh le : Str) (a : Bool) (s ev : Str) (first : Bool) : Bool :=
  if mo = "held" then
    if ev = "L" ∨ ev = "G" then (if sh = "each" ∧ first = false then false else (decide (ev = "L") || !decide (s = "open")))
    else if ev = "H" then usB le s a
    else if ev = "D" then a
    else decide (s = "open")
  else false
def alN (a : Bool) (ev : Str) : Bool := if ev = "L" then true else if ev = "G" then true else if ev = "R" ∨ ev = "F" then a else if ev = "D" then false else a
def stN (s ev : Str) : Str := if ev = "L" then (if s = "shut" then "open" else s) else if ev = "G" then "free" else if ev = "R" ∨ ev = "F" then "shut" else s
def evs : List Str := ["L", "G", "H", "R", "F", "D"]
def possS (mo sh le : Str) (a : Bool) (s : Str) (first : Bool) : Str := Txt.join "" (evs.filter fun e => canB mo sh le a s e first)
def closS (s : Str) (a : Bool) : Str := if s = "open" then (if a then ("" : Str) ++ "D" else "") ++ "R" else (if a then ("" : Str) ++ "D" else "")
theorem al_L (a : Bool) : alN a "L" = true := rfl
theorem al_G (a : Bool) : alN a "G" = true := rfl
theorem al_H (a : Bool) : alN a "H" = a := rfl
theorem al_R (a : Bool) : alN a "R" = a := rfl
theorem al_F (a : Bool) : alN a "F" = a := rfl
theorem al_D (a : Bool) : alN a "D" = false := rfl
theorem st_L (s : Str) : stN s "L" = (if s = "shut" then ("open" : Str) else s) := rfl
theorem st_G (s : Str) : stN s "G" = "free" := rfl
theorem st_H (s : Str) : stN s "H" = s := rfl
theorem st_R (s : Str) : stN s "R" = "shut" := rfl
theorem st_F (s : Str) : stN s "F" = "shut" := rfl
theorem st_D (s : Str) : stN s "D" = s := rfl
theorem evs_cases {i : Nat} {ev : Str} (h : evs[i]? = some ev) : (i = 0 ∧ ev = "L") ∨ (i = 1 ∧ ev = "G") ∨ (i = 2 ∧ ev = "H") ∨ (i = 3 ∧ ev = "R") ∨ (i = 4 ∧ ev = "F") ∨ (i = 5 ∧ ev = "D") := by
  match i, h with
  | 0, h => cases h; exact .inl ⟨rfl, rfl⟩
  | 1, h => cases h; exact .inr (.inl ⟨rfl, rfl⟩)
  | 2, h => cases h; exact .inr (.inr (.inl ⟨rfl, rfl⟩))
  | 3, h => cases h; exact .inr (.inr (.inr (.inl ⟨rfl, rfl⟩)))
  | 4, h => cases h; exact .inr (.inr (.inr (.inr (.inl ⟨rfl, rfl⟩))))
  | 5, h => cases h; exact .inr (.inr (.inr (.inr (.inr ⟨rfl, rfl⟩))))
  | i + 6, h => cases h
theorem six_at {i : Nat} {ev : Str} (h : evs[i]? = some ev) : ∃ r, Builtin.Str.occurrences "LGHRFD" ev 0 ("LGHRFD" : Str).length 1 = i :: r := by
  rcases evs_cases h with ⟨rfl, rfl⟩ | ⟨rfl, rfl⟩ | ⟨rfl, rfl⟩ | ⟨rfl, rfl⟩ | ⟨rfl, rfl⟩ | ⟨rfl, rfl⟩ <;> exact ⟨[], by decide +kernel⟩
theorem find_ev {i : Nat} {ev : Str} (h : evs[i]? = some ev) : Txt.find "LGHRFD" ev = (i : Int) := by
  rcases evs_cases h with ⟨rfl, rfl⟩ | ⟨rfl, rfl⟩ | ⟨rfl, rfl⟩ | ⟨rfl, rfl⟩ | ⟨rfl, rfl⟩ | ⟨rfl, rfl⟩ <;> decide +kernel
def spUs (C : Addr) (K : PySem.W.Frag) : Sp := fun vs H Q _ => ∃ (r nd : Addr) (mo sh le gr : Str) (R : Rule) (m : Int) (a : Bool) (s : Str), vs = [.ref r, .ref nd] ∧ RowAt K C H r mo sh le gr R ∧ SqT K H nd [.int m, .bl a, .str s] ∧ Q (.bl (usB le s a)) H
theorem ok_is_usable {ad : Ad} (T : Txt K mg ad) : FnOk P w K mg base CX0 1 ad.a_is_usable ad.d_is_usable ["row", "node"] (spUs ad.c_Row K) := by
  refine T.F_is_usable.ok sc_is_usable (fun vs H Q E h => ?_) (fun cdv A outer s H vs Q E hr h => ?_)
  · obtain ⟨r, nd, mo, sh, le, gr, R, m, a, st, rfl, hr0, hn, k⟩ := h
    rfl
  · obtain ⟨r, nd, mo, sh, le, gr, R, m, a, st, rfl, hr0, hn, k⟩ := h
    refine ⟨_, (pss_one (ps_ret (pe_and (pe_ix ix_tup (pv 1) pe_int (fun _ _ => rfl)) (pe_one (pe_or (pe_cmpR op_eq (pe_fld (pv 0) rfl) pe_str (nomark _)) (pe_one (pe_cmpR op_ne (pe_ix ix_tup (pv 1) pe_int (fun _ _ => rfl)) pe_str (nomark _)))))))), ?_⟩
    try dsimp only [L2.cxOf, L2.Cx.nox, L2.Cx.wish]
    change (_ : TS) _ ([some (.ref r), some (.ref nd)] : St) _
    have cl_Row := T.cl_Row
    have n_Row_grip := T.n_Row_grip
    have n_Row_lease := T.n_Row_lease
    have n_Row_mode := T.n_Row_mode
    have n_Row_rule := T.n_Row_rule
    have n_Row_sharing := T.n_Row_sharing
    obtain ⟨dx, tr, h1, h2⟩ := hr0
    walk_at "rd"
    cases a with
    | false =>
      walk_at "rd"
      exact k
    | true =>
      walk_at "rd"
      by_cases h : le = "always"
      · walk_at "rd"
        have e : usB le st true = true := by unfold usB; rw [decide_eq_true h]; rfl
        rw [e] at k
        exact k
      · walk_at "rd"
        have e : usB le st true = !decide (st = "shut") := by unfold usB; rw [decide_eq_false h]; rfl
        rw [e] at k
        exact k
def spFin (K : PySem.W.Frag) : Sp := fun vs H Q _ => ∃ (nd : Addr) (m : Int) (a : Bool) (s : Str), vs = [.ref nd] ∧ SqT K H nd [.int m, .bl a, .str s] ∧ Q (.bl (finB s a)) H
def spCan (C : Addr) (K : PySem.W.Frag) : Sp := fun vs H Q _ => ∃ (r nd : Addr) (mo sh le gr : Str) (R : Rule) (m : Int) (a : Bool) (s ev : Str) (first : Bool), vs = [.ref r, .ref nd, .str ev, .bl first] ∧ RowAt K C H r mo sh le gr R ∧ SqT K H nd [.int m, .bl a, .str s] ∧ Q (.bl (canB mo sh le a s ev first)) H
theorem ok_can_happen {ad : Ad} (T : Txt K mg ad) : FnOk P w K mg base CX0 2 ad.a_can_happen ad.d_can_happen ["row", "node", "event", "first"] (spCan ad.c_Row K) := by
  refine T.F_can_happen.ok sc_can_happen (fun vs H Q E h => ?_) (fun cdv A outer s H vs Q E hr h => ?_)
  · obtain ⟨r, nd, mo, sh, le, gr, R, m, a, st, ev, first, rfl, hr0, hn, k⟩ := h
    rfl
  · obtain ⟨r, nd, mo, sh, le, gr, R, m, a, st, ev, first, rfl, hr0, hn, k⟩ := h
    refine ⟨_, (pss_cons (ps_if (pt_cmpR op_ne (pe_fld (pv 0) rfl) pe_str (nomark _)) (pss_one (ps_ret pe_bl)) pss_nil)
      (pss_cons (ps_if (PW.pt (pw_or (pt_cmpR op_eq (pv 2) pe_str (nomark _)) (pw_or1 (pt_cmpR op_eq (pv 2) pe_str (nomark _))))) (pss_cons (ps_if (PW.pt (pw_and (pt_cmpR op_eq (pe_fld (pv 0) rfl) pe_str (nomark _)) (pw_and1 (pt_not (pt_val (pv 3)))))) (pss_one (ps_ret pe_bl)) pss_nil)
      (pss_one (ps_ret (pe_or (pe_cmpR op_eq (pv 2) pe_str (nomark _)) (pe_one (pe_cmpR op_ne (pe_ix ix_tup (pv 1) pe_int (fun _ _ => rfl)) pe_str (nomark _))))))) pss_nil)
      (pss_cons (ps_if (pt_cmpR op_eq (pv 2) pe_str (nomark _)) (pss_one (ps_ret (pe_call (ok_is_usable T) (hr.mono (by decide)) rfl T.m_is_usable T.F_is_usable.kp T.b_is_usable .nil pass0 (pa_cons (pv 0) (pa_cons (pv 1) pa_nil))))) pss_nil)
      (pss_cons (ps_if (pt_cmpR op_eq (pv 2) pe_str (nomark _)) (pss_one (ps_ret (pe_ix ix_tup (pv 1) pe_int (fun _ _ => rfl)))) pss_nil)
      (pss_one (ps_ret (pe_cmpR op_eq (pe_ix ix_tup (pv 1) pe_int (fun _ _ => rfl)) pe_str (nomark _)))))))), ?_⟩
    try dsimp only [L2.cxOf, L2.Cx.nox, L2.Cx.wish]
    change (_ : TS) _ ([some (.ref r), some (.ref nd), some (.str ev), some (.bl first)] : St) _
    have cl_Row := T.cl_Row
    have n_Row_grip := T.n_Row_grip
    have n_Row_lease := T.n_Row_lease
    have n_Row_mode := T.n_Row_mode
    have n_Row_rule := T.n_Row_rule
    have n_Row_sharing := T.n_Row_sharing
    obtain ⟨dx, tr, h1, h2⟩ := id hr0
    walk_at "rd"
    by_cases h : mo = "held"
    · have hc : canB mo sh le a st ev first = if ev = "L" ∨ ev = "G" then (if sh = "each" ∧ first = false then false else (decide (ev = "L") || !decide (st = "open")))
          else if ev = "H" then usB le st a else if ev = "D" then a else decide (st = "open") := by unfold canB; rw [if_pos h]
      rw [hc] at k
      walk_at "rd"
      have inner : ∀ (hLG : ev = "L" ∨ ev = "G"), Q (.bl (if sh = "each" ∧ first = false then false else (decide (ev = "L") || !decide (st = "open")))) H := fun hLG => by
        rw [if_pos hLG] at k; exact k
      by_cases hL : ev = "L"
      · have k1 := inner (.inl hL)
        walk_at "rd"
        by_cases hs : sh = "each"
        · walk_at "rd"
          cases first with
          | false =>
            walk_at "rd"
            rw [if_pos ⟨hs, rfl⟩] at k1
            exact k1
          | true =>
            walk_at "rd"
            rw [if_neg (fun z => by cases z.2), decide_eq_true hL] at k1
            exact k1
        · walk_at "rd"
          rw [if_neg (fun z => hs z.1), decide_eq_true hL] at k1
          exact k1
      · walk_at "rd"
        by_cases hG : ev = "G"
        · have k1 := inner (.inr hG)
          walk_at "rd"
          by_cases hs : sh = "each"
          · walk_at "rd"
            cases first with
            | false =>
              walk_at "rd"
              rw [if_pos ⟨hs, rfl⟩] at k1
              exact k1
            | true =>
              walk_at "rd"
              rw [if_neg (fun z => by cases z.2), decide_eq_false hL] at k1
              exact k1
          · walk_at "rd"
            rw [if_neg (fun z => hs z.1), decide_eq_false hL] at k1
            exact k1
        · rw [if_neg (fun z => z.elim hL hG)] at k
          walk_at "rd"
          by_cases hH : ev = "H"
          · rw [if_pos hH] at k
            walk_at "rd"
            refine ⟨r, nd, mo, sh, le, gr, R, m, a, st, rfl, hr0, hn, ?_⟩
            walk_at "rd"
            exact k
          · rw [if_neg hH] at k
            walk_at "rd"
            by_cases hDD : ev = "D"
            · rw [if_pos hDD] at k
              walk_at "rd"
              exact k
            · rw [if_neg hDD] at k
              walk_at "rd"
              exact k
    · have hc : canB mo sh le a st ev first = false := by unfold canB; rw [if_neg h]
      rw [hc] at k
      walk_at "rd"
      exact k
def spPoss (C : Addr) (K : PySem.W.Frag) : Sp := fun vs H Q _ => ∃ (r nd : Addr) (mo sh le gr : Str) (R : Rule) (m : Int) (a : Bool) (s : Str) (first : Bool), vs = [.ref r, .ref nd, .bl first] ∧ RowAt K C H r mo sh le gr R ∧ SqT K H nd [.int m, .bl a, .str s] ∧ ∀ H', Evl.Ex H H' → Q (.str (possS mo sh le a s first)) H'
theorem ev_at {i c : Nat} (h : (("LGHRFD" : Str).cps)[i]? = some c) : evs.getD i "" = ⟨#[c]⟩ ∧ i < 6 := by
  match i, h with
  | 0, h => cases h; exact ⟨rfl, by decide⟩
  | 1, h => cases h; exact ⟨rfl, by decide⟩
  | 2, h => cases h; exact ⟨rfl, by decide⟩
  | 3, h => cases h; exact ⟨rfl, by decide⟩
  | 4, h => cases h; exact ⟨rfl, by decide⟩
  | 5, h => cases h; exact ⟨rfl, by decide⟩
  | i + 6, h => cases h
theorem given_evs (f : Str → Bool) : Evl.given 6 (fun i => f (evs.getD i "")) (fun i => .str (evs.getD i "")) = (evs.filter f).map V.str := by
  have e : evs = (List.range 6).map fun i => evs.getD i "" := by decide +kernel
  unfold Evl.given
  conv => rhs; rw [e]
  rw [List.filter_map, List.map_map]
  rfl
theorem join_small (f : Str → Bool) : ((evs.filter f).map (·.length)).sum + (evs.filter f).length * ("" : Str).length ≤ 16777216 := by
  have h : ∀ l : List Str, (∀ x ∈ l, x.length = 1) → (l.map (·.length)).sum = l.length := by
    intro l
    induction l with
    | nil => intro _; rfl
    | cons x l ih => intro hx; rw [List.map_cons, List.sum_cons, hx x List.mem_cons_self, ih fun y hy => hx y (List.mem_cons_of_mem _ hy), List.length_cons]; omega
  have h1 : ∀ x ∈ evs, x.length = 1 := by decide +kernel
  have h2 := List.length_filter_le f evs
  rw [h _ fun x hx => h1 x (List.mem_filter.mp hx).1, show ("" : Str).length = 0 from rfl]
  have h3 : evs.length = 6 := rfl
  omega
theorem ok_possible {ad : Ad} (T : Txt K mg ad) : FnOk P w K mg base CX0 3 ad.a_possible ad.d_possible ["row", "node", "first"] (spPoss ad.c_Row K) := by
  refine T.F_possible.ok sc_possible (fun vs H Q E h => ?_) (fun cdv A outer s H vs Q E hr h => ?_)
  · obtain ⟨r, nd, mo, sh, le, gr, R, m, a, st, first, rfl, hr0, hn, k⟩ := h
    rfl
  · obtain ⟨r, nd, mo, sh, le, gr, R, m, a, st, first, rfl, hr0, hn, k⟩ := h
    refine ⟨_, (pss_one (ps_ret (pe_m1 PySem.F.slot_str_join PySem.F.type_str_join Rd.mt_jn pe_str (pe_lc (own := [("event", 3)]) (g := gName 3) rfl sc_possible.nd (pi_str (C8.pe_gc (v := .str "LGHRFD") rfl T.mc_EVENTS)) (blkOk_by (N := ["row", "node", "first", "event"]) (sc := defScope s_possible) (by decide +kernel)) (fun _ _ _ _ _ => (pg_name (i := 3) sc_possible.nd rfl (Or.inl rfl))) (fun _ _ _ _ _ => (pts_one (pt_val (pe_call (ok_can_happen T) (hr.mono (by decide)) rfl T.m_can_happen T.F_can_happen.kp T.b_can_happen .nil pass0 (pa_cons (pv 0) (pa_cons (pv 1) (pa_cons (pv 3) (pa_cons (pv 2) pa_nil)))))))) (fun _ _ _ _ _ => (pv 3)))))), ?_⟩
    try dsimp only [L2.cxOf, L2.Cx.nox, L2.Cx.wish]
    change (_ : TS) _ ([some (.ref r), some (.ref nd), some (.bl first), none] : St) _
    have cl_Row := T.cl_Row
    have n_Row_grip := T.n_Row_grip
    have n_Row_lease := T.n_Row_lease
    have n_Row_mode := T.n_Row_mode
    have n_Row_rule := T.n_Row_rule
    have n_Row_sharing := T.n_Row_sharing
    walk_at "rd"
    refine Rd.xlcS (fun i => canB mo sh le a st (evs.getD i "") first) (fun i => .str (evs.getD i "")) (by decide +kernel) (fun _ => rfl) ?_ ?_ fun p H1 np e1 hp => ?_
    · intro i c Hc ec hc H1 e1 Q q
      obtain ⟨h1, h2⟩ := ev_at hc
      rw [h1] at q
      walk_at "rd"
      refine ⟨r, nd, mo, sh, le, gr, R, m, a, st, ⟨#[c]⟩, first, rfl, hr0.mono (ec.trans e1), Evl.ex_t (ec.trans e1) hn, ?_⟩
      walk_at "rd"
      exact q _ (Evl.Ex.refl _)
    · intro i c Hc ec hc _ H1 e1 Q q
      obtain ⟨h1, h2⟩ := ev_at hc
      rw [h1] at q
      walk_at "rd"
      exact q _ (Evl.Ex.refl _)
    rw [show (("LGHRFD" : Str).cps).size = 6 from rfl, given_evs fun e => canB mo sh le a st e first] at hp
    refine Rd.join (SqL.of hp) (join_small _) ?_
    walk_at "rd"
    exact k _ e1
/-- what step and the law's own next give -/
def NextAt (K : PySem.W.Frag) (H' : Hp) (q1 : Addr) (p : Int × Int) (a : Bool) (s ev : Str) : Prop := ∃ q2, H' q2 = some (.tup [.int p.1, .bl (alN a ev), .str (stN s ev)]) ∧ H' q1 = some (.tup [.ref q2, .int p.2])
def spStep (C : Addr) (K : PySem.W.Frag) : Sp := fun vs H Q _ => ∃ (r nd : Addr) (mo sh le gr : Str) (R : Rule) (m i : Nat) (a : Bool) (s ev : Str) (mk : List (Int × Int)) (p : Int × Int), vs = [.ref r, .ref nd, .str ev] ∧ RowAt K C H r mo sh le gr R ∧ SqT K H nd [.int m, .bl a, .str s] ∧ evs[i]? = some ev ∧ R[m]? = some mk ∧ mk[i]? = some p ∧
  ∀ q1 H', Evl.Ex H H' → NextAt K H' q1 p a s ev → Q (.ref q1) H'
theorem ok_step {ad : Ad} (T : Txt K mg ad) : FnOk P w K mg base CX0 1 ad.a_step ad.d_step ["row", "node", "event"] (spStep ad.c_Row K) := by
  refine T.F_step.ok sc_step (fun vs H Q E h => ?_) (fun cdv A outer s H vs Q E hr h => ?_)
  · obtain ⟨r, nd, mo, sh, le, gr, R, m, i, a, st, ev, mk, p, rfl, hr0, hn, hi, hm, hp, k⟩ := h
    rfl
  · obtain ⟨r, nd, mo, sh, le, gr, R, m, i, a, st, ev, mk, p, rfl, hr0, hn, hi, hm, hp, k⟩ := h
    refine ⟨_, (pss_cons (ps_asg (pv 1) (pg_tup rfl (pgs_cons (pg_name (i := 3) sc_step.nd rfl (Or.inl rfl)) (pgs_cons (pg_name (i := 4) sc_step.nd rfl (Or.inl rfl)) (pgs_cons (pg_name (i := 5) sc_step.nd rfl (Or.inl rfl)) pgs_nil)))))
      (pss_cons (ps_asg (pe_ix ix_tup (pe_ix ix_tup (pe_fld (pv 0) rfl) (pv 3) (fun _ _ => rfl)) (pe_m1 PySem.F.slot_str_index PySem.F.type_str_index Rd.mt_six (C8.pe_gc (v := .str "LGHRFD") rfl T.mc_EVENTS) (pv 2)) (fun _ _ => rfl)) (pg_tup rfl (pgs_cons (pg_name (i := 6) sc_step.nd rfl (Or.inl rfl)) (pgs_cons (pg_name (i := 7) sc_step.nd rfl (Or.inl rfl)) pgs_nil))))
      (pss_cons (ps_if (pt_cmpR op_eq (pv 2) pe_str (nomark _)) (pss_cons (ps_set (i := 4) sc_step.nd rfl (Or.inl rfl) pe_bl)
      (pss_one (ps_if (pt_cmpR op_eq (pv 5) pe_str (nomark _)) (pss_one (ps_set (i := 5) sc_step.nd rfl (Or.inl rfl) pe_str)) pss_nil))) (pss_one (ps_if (pt_cmpR op_eq (pv 2) pe_str (nomark _)) (pss_cons (ps_set (i := 4) sc_step.nd rfl (Or.inl rfl) pe_bl)
      (pss_one (ps_set (i := 5) sc_step.nd rfl (Or.inl rfl) pe_str))) (pss_one (ps_if (PW.pt (pw_or (pt_cmpR op_eq (pv 2) pe_str (nomark _)) (pw_or1 (pt_cmpR op_eq (pv 2) pe_str (nomark _))))) (pss_one (ps_set (i := 5) sc_step.nd rfl (Or.inl rfl) pe_str)) (pss_one (ps_if (pt_cmpR op_eq (pv 2) pe_str (nomark _)) (pss_one (ps_set (i := 4) sc_step.nd rfl (Or.inl rfl) pe_bl)) pss_nil)))))))
      (pss_one (ps_ret (pe_tup (pa_cons (pe_tup (pa_cons (pv 6) (pa_cons (pv 4) (pa_cons (pv 5) pa_nil)))) (pa_cons (pv 7) pa_nil)))))))), ?_⟩
    try dsimp only [L2.cxOf, L2.Cx.nox, L2.Cx.wish]
    change (_ : TS) _ ([some (.ref r), some (.ref nd), some (.str ev), none, none, none, none, none] : St) _
    have cl_Row := T.cl_Row
    have n_Row_grip := T.n_Row_grip
    have n_Row_lease := T.n_Row_lease
    have n_Row_mode := T.n_Row_mode
    have n_Row_rule := T.n_Row_rule
    have n_Row_sharing := T.n_Row_sharing
    obtain ⟨dx, tr, h1, h2⟩ := id hr0
    obtain ⟨tr', vr, e, hsr, hrA⟩ := Dt.inv_t h2
    cases e
    obtain ⟨vm, hvm, hdm⟩ := mapA2 hrA hm
    obtain ⟨tm, wm, rfl, hsm, hmA⟩ := Dt.inv_t hdm
    obtain ⟨vp, hvp, hdp⟩ := mapA2 hmA hp
    obtain ⟨tp, rfl, hsp⟩ := pair_inv hdp
    obtain ⟨rest, h6⟩ := six_at hi
    walk_at "rd"
    refine Rd.ixT hsr (atI_nat hvm) ?_
    walk_at "rd"
    refine Rd.six h6 ?_
    refine Rd.ixT hsm (atI_nat hvp) ?_
    walk_at "rd"
    have fin : ∀ (al : Bool) (s2 : Str), alN a ev = al → stN st ev = s2 → ∀ (q2 : Addr) (H2 : Hp), Evl.Ex H H2 → H2 q2 = some (.tup [.int p.1, .bl al, .str s2]) → ∀ (q1 : Addr) (H3 : Hp), Evl.Ex H2 H3 → H3 q1 = some (.tup [.ref q2, .int p.2]) → Q (.ref q1) H3 := fun al s2 e1 e2 q2 H2 x1 hq2 q1 H3 x2 hq1 =>
      k q1 H3 (x1.trans x2) ⟨q2, by rw [e1, e2]; exact x2 _ _ hq2, hq1⟩
    have hev := evs_cases hi
    clear h6 hi k
    rcases hev with ⟨rfl, rfl⟩ | ⟨rfl, rfl⟩ | ⟨rfl, rfl⟩ | ⟨rfl, rfl⟩ | ⟨rfl, rfl⟩ | ⟨rfl, rfl⟩
    · by_cases hs : st = "shut"
      · walk_at "rd"
        refine Rd.xtup rfl fun q2 H2 n2 e2 hq2 => ?_
        walk_at "rd"
        refine Rd.xtup rfl fun q1 H3 n3 e3 hq1 => ?_
        walk_at "rd"
        exact fin _ _ (al_L _) (by rw [st_L, if_pos hs]) q2 H2 e2 hq2 q1 H3 e3 hq1
      · walk_at "rd"
        refine Rd.xtup rfl fun q2 H2 n2 e2 hq2 => ?_
        walk_at "rd"
        refine Rd.xtup rfl fun q1 H3 n3 e3 hq1 => ?_
        walk_at "rd"
        exact fin _ _ (al_L _) (by rw [st_L, if_neg hs]) q2 H2 e2 hq2 q1 H3 e3 hq1
    · walk_at "rd"
      refine Rd.xtup rfl fun q2 H2 n2 e2 hq2 => ?_
      walk_at "rd"
      refine Rd.xtup rfl fun q1 H3 n3 e3 hq1 => ?_
      walk_at "rd"
      exact fin _ _ (al_G _) (st_G _) q2 H2 e2 hq2 q1 H3 e3 hq1
    · walk_at "rd"
      refine Rd.xtup rfl fun q2 H2 n2 e2 hq2 => ?_
      walk_at "rd"
      refine Rd.xtup rfl fun q1 H3 n3 e3 hq1 => ?_
      walk_at "rd"
      exact fin _ _ (al_H _) (st_H _) q2 H2 e2 hq2 q1 H3 e3 hq1
    · walk_at "rd"
      refine Rd.xtup rfl fun q2 H2 n2 e2 hq2 => ?_
      walk_at "rd"
      refine Rd.xtup rfl fun q1 H3 n3 e3 hq1 => ?_
      walk_at "rd"
      exact fin _ _ (al_R _) (st_R _) q2 H2 e2 hq2 q1 H3 e3 hq1
    · walk_at "rd"
      refine Rd.xtup rfl fun q2 H2 n2 e2 hq2 => ?_
      walk_at "rd"
      refine Rd.xtup rfl fun q1 H3 n3 e3 hq1 => ?_
      walk_at "rd"
      exact fin _ _ (al_F _) (st_F _) q2 H2 e2 hq2 q1 H3 e3 hq1
    · walk_at "rd"
      refine Rd.xtup rfl fun q2 H2 n2 e2 hq2 => ?_
      walk_at "rd"
      refine Rd.xtup rfl fun q1 H3 n3 e3 hq1 => ?_
      walk_at "rd"
      exact fin _ _ (al_D _) (st_D _) q2 H2 e2 hq2 q1 H3 e3 hq1
def spClos (K : PySem.W.Frag) (f : Str → Bool → Str) : Sp := fun vs H Q _ => ∃ (nd : Addr) (m : Int) (a : Bool) (s : Str), vs = [.ref nd] ∧ SqT K H nd [.int m, .bl a, .str s] ∧ Q (.str (f s a)) H

/-! ### what the law itself reckons -/
def lawLG (sh s : Str) (first : Bool) : Str := if sh = "one" ∨ first = true then (if s = "open" then ("L" : Str) else "LG") else ""
def lawEv (mo sh le : Str) (a : Bool) (s : Str) (first : Bool) : Str :=
  if mo = "held" then
    (let f1 := lawLG sh s first
     let f2 := if usB le s a = true then f1 ++ "H" else f1
     let f3 := if s = "open" then f2 ++ "RF" else f2
     if a = true then f3 ++ "D" else f3)
  else ""
def okS (s : Str) : Prop := s = "shut" ∨ s = "open" ∨ s = "free"
theorem ev_eq {mo sh le gr : Str} {R : Rule} (h : RowOk mo sh le gr R) {s : Str} (hs : okS s) (a first : Bool) : lawEv mo sh le a s first = possS mo sh le a s first := by
  obtain ⟨_, ⟨rfl, h1, h2, _⟩ | ⟨h0, rfl, rfl, _, _⟩⟩ := h
  · rcases h1 with rfl | rfl <;> rcases h2 with rfl | rfl <;> rcases hs with rfl | rfl | rfl <;> cases a <;> cases first <;> decide +kernel
  · rcases h0 with rfl | rfl <;> rcases hs with rfl | rfl | rfl <;> cases a <;> cases first <;> decide +kernel
theorem len_app (a b : Str) : (a ++ b).length = a.length + b.length := by show (a.cps ++ b.cps).size = _; rw [Array.size_append]; rfl
def chk (z : Str) : Bool := z.cps.all fun c => evs.any fun e => decide (e = ⟨#[c]⟩)
theorem ev_chk {mo sh le gr : Str} {R : Rule} (h : RowOk mo sh le gr R) {s : Str} (hs : okS s) (a : Bool) : chk (lawEv mo sh le a s true) = true := by
  obtain ⟨_, ⟨rfl, h1, h2, _⟩ | ⟨h0, rfl, rfl, _, _⟩⟩ := h
  · rcases h1 with rfl | rfl <;> rcases h2 with rfl | rfl <;> rcases hs with rfl | rfl | rfl <;> cases a <;> decide +kernel
  · rcases h0 with rfl | rfl <;> rcases hs with rfl | rfl | rfl <;> cases a <;> decide +kernel
theorem chk_at {z : Str} (h : chk z = true) {i c : Nat} (hc : z.cps[i]? = some c) : ∃ j : Nat, evs[j]? = some (⟨#[c]⟩ : Str) := by
  unfold chk at h
  rw [Array.all_eq_true_iff_forall_mem] at h
  have h1 := h c (Array.mem_of_getElem? hc)
  rw [List.any_eq_true] at h1
  obtain ⟨e, he, h2⟩ := h1
  have h3 : e = ⟨#[c]⟩ := of_decide_eq_true h2
  subst h3
  exact List.getElem?_of_mem he
def spLUs (K : PySem.W.Frag) : Sp := fun vs H Q _ => ∃ (sp nd : Addr) (mo sh le gr : Str) (R : Rule) (m : Int) (a : Bool) (s : Str), vs = [.ref sp, .ref nd] ∧ SpecAt K H sp mo sh le gr R ∧ SqT K H nd [.int m, .bl a, .str s] ∧ Q (.bl (usB le s a)) H
theorem ok_law_usable {ad : Ad} (T : Txt K mg ad) : FnOk P w K mg base CX0 1 ad.a_law_usable ad.d_law_usable ["spec", "node"] (spLUs K) := by
  refine T.F_law_usable.ok sc_law_usable (fun vs H Q E h => ?_) (fun cdv A outer s H vs Q E hr h => ?_)
  · obtain ⟨sp, nd, mo, sh, le, gr, R, m, a, st, rfl, ⟨rl, h1, h2⟩, hn, k⟩ := h
    rfl
  · obtain ⟨sp, nd, mo, sh, le, gr, R, m, a, st, rfl, ⟨rl, h1, h2⟩, hn, k⟩ := h
    refine ⟨_, (pss_one (ps_ret (pe_and (pe_ix ix_tup (pv 1) pe_int (fun _ _ => rfl)) (pe_one (pe_or (pe_cmpR op_eq (pe_ix ix_list (pv 0) pe_int (fun _ _ => rfl)) pe_str (nomark _)) (pe_one (pe_cmpR op_ne (pe_ix ix_tup (pv 1) pe_int (fun _ _ => rfl)) pe_str (nomark _)))))))), ?_⟩
    try dsimp only [L2.cxOf, L2.Cx.nox, L2.Cx.wish]
    change (_ : TS) _ ([some (.ref sp), some (.ref nd)] : St) _
    walk_at "rd"
    cases a with
    | false =>
      walk_at "rd"
      exact k
    | true =>
      walk_at "rd"
      by_cases h : le = "always"
      · walk_at "rd"
        have e : usB le st true = true := by unfold usB; rw [decide_eq_true h]; rfl
        rw [e] at k
        exact k
      · walk_at "rd"
        have e : usB le st true = !decide (st = "shut") := by unfold usB; rw [decide_eq_false h]; rfl
        rw [e] at k
        exact k
def spLEv (K : PySem.W.Frag) : Sp := fun vs H Q _ => ∃ (sp nd : Addr) (mo sh le gr : Str) (R : Rule) (m : Int) (a : Bool) (s : Str) (first : Bool), vs = [.ref sp, .ref nd, .bl first] ∧ SpecAt K H sp mo sh le gr R ∧ SqT K H nd [.int m, .bl a, .str s] ∧ Q (.str (lawEv mo sh le a s first)) H
theorem ok_law_events {ad : Ad} (T : Txt K mg ad) : FnOk P w K mg base CX0 2 ad.a_law_events ad.d_law_events ["spec", "node", "first"] (spLEv K) := by
  refine T.F_law_events.ok sc_law_events (fun vs H Q E h => ?_) (fun cdv A outer s H vs Q E hr h => ?_)
  · obtain ⟨sp, nd, mo, sh, le, gr, R, m, a, st, first, rfl, hsp, hn, k⟩ := h
    rfl
  · obtain ⟨sp, nd, mo, sh, le, gr, R, m, a, st, first, rfl, hsp, hn, k⟩ := h
    refine ⟨_, (pss_cons (ps_set (i := 3) sc_law_events.nd rfl (Or.inl rfl) pe_str)
      (pss_cons (ps_if (pt_cmpR op_ne (pe_ix ix_list (pv 0) pe_int (fun _ _ => rfl)) pe_str (nomark _)) (pss_one (ps_ret (pv 3))) pss_nil)
      (Evl.pss_cut (ps_if (PW.pt (pw_or (pt_cmpR op_eq (pe_ix ix_list (pv 0) pe_int (fun _ _ => rfl)) pe_str (nomark _)) (pw_or1 (pt_val (pv 2))))) (pss_cons (ps_set (i := 3) sc_law_events.nd rfl (Or.inl rfl) pe_str)
      (pss_one (ps_if (pt_cmpR op_ne (pe_ix ix_tup (pv 1) pe_int (fun _ _ => rfl)) pe_str (nomark _)) (pss_one (ps_set (i := 3) sc_law_events.nd rfl (Or.inl rfl) pe_str)) pss_nil))) pss_nil)
      (Evl.pss_cut (ps_if (pt_val (pe_call (ok_law_usable T) (hr.mono (by decide)) rfl T.m_law_usable T.F_law_usable.kp T.b_law_usable .nil pass0 (pa_cons (pv 0) (pa_cons (pv 1) pa_nil)))) (pss_one (ps_set (i := 3) sc_law_events.nd rfl (Or.inl rfl) (pe_op Rd.op_addS (pv 3) pe_str))) pss_nil)
      (Evl.pss_cut (ps_if (pt_cmpR op_eq (pe_ix ix_tup (pv 1) pe_int (fun _ _ => rfl)) pe_str (nomark _)) (pss_one (ps_set (i := 3) sc_law_events.nd rfl (Or.inl rfl) (pe_op Rd.op_addS (pv 3) pe_str))) pss_nil)
      (Evl.pss_cut (ps_if (pt_val (pe_ix ix_tup (pv 1) pe_int (fun _ _ => rfl))) (pss_one (ps_set (i := 3) sc_law_events.nd rfl (Or.inl rfl) (pe_op Rd.op_addS (pv 3) pe_str))) pss_nil)
      (pss_one (ps_ret (pv 3))))))))), ?_⟩
    try dsimp only [L2.cxOf, L2.Cx.nox, L2.Cx.wish]
    change (_ : TS) _ ([some (.ref sp), some (.ref nd), some (.bl first), none] : St) _
    obtain ⟨rl, h1, h2⟩ := id hsp
    walk_at "rd"
    refine Rd.ifNd (fun c1 => ?_) (fun c1 => ?_)
    · walk_at "rd"
      unfold lawEv at k
      rw [if_neg c1] at k
      exact k
    · unfold lawEv at k
      rw [if_pos c1] at k
      dsimp only at k
      walk_at "rd"
      refine ⟨fun σ H' => σ = [some (.ref sp), some (.ref nd), some (.bl first), some (.str (lawLG sh st first))] ∧ H' = H, ?_, ?_⟩
      · have e1 : ∀ b : Str, sh = "one" ∨ first = true → (if st = "open" then ("L" : Str) else "LG") = b → lawLG sh st first = b := fun b h0 h1 => by unfold lawLG; rw [if_pos h0, h1]
        have e2 : ¬ (sh = "one" ∨ first = true) → lawLG sh st first = "" := fun h => by unfold lawLG; rw [if_neg h]
        walk_at "rd"
        by_cases hs : sh = "one"
        · walk_at "rd"
          refine Rd.ifNd (fun c2 => ?_) (fun c2 => ?_)
          · walk_at "rd"
            rw [e1 "LG" (.inl hs) (if_neg c2)]
            exact ⟨rfl, rfl⟩
          · walk_at "rd"
            rw [e1 "L" (.inl hs) (if_pos c2)]
            exact ⟨rfl, rfl⟩
        · walk_at "rd"
          cases first with
          | true =>
            walk_at "rd"
            refine Rd.ifNd (fun c2 => ?_) (fun c2 => ?_)
            · walk_at "rd"
              rw [e1 "LG" (.inr rfl) (if_neg c2)]
              exact ⟨rfl, rfl⟩
            · walk_at "rd"
              rw [e1 "L" (.inr rfl) (if_pos c2)]
              exact ⟨rfl, rfl⟩
          | false =>
            walk_at "rd"
            rw [e2 (fun z => z.elim hs (fun z => by cases z))]
            exact ⟨rfl, rfl⟩
      · rintro σ Hc ⟨rfl, rfl⟩
        have hl1 : (lawLG sh st first).length ≤ 2 := by
          unfold lawLG
          split
          · split <;> decide +kernel
          · decide +kernel
        generalize lawLG sh st first = f1 at k hl1 ⊢
        walk_at "rd"
        refine ⟨fun σ H' => ∃ f2, (if usB le st a = true then f1 ++ "H" else f1) = f2 ∧ f2.length ≤ 3 ∧ σ = [some (.ref sp), some (.ref nd), some (.bl first), some (.str f2)] ∧ H' = Hc, ?_, ?_⟩
        · walk_at "rd"
          refine ⟨sp, nd, mo, sh, le, gr, R, m, a, st, rfl, hsp, hn, ?_⟩
          walk_at "rd"
          refine Rd.ifb (fun hb => ?_) (fun hb => ?_)
          · walk_at "rd"
            refine Rd.catS (by rw [show ("H" : Str).length = 1 from rfl]; omega) ?_
            walk_at "rd"
            exact ⟨_, if_pos hb, by rw [len_app, show ("H" : Str).length = 1 from rfl]; omega, rfl, rfl⟩
          · walk_at "rd"
            exact ⟨_, if_neg (by rw [hb]; exact Bool.false_ne_true), by omega, rfl, rfl⟩
        · rintro σ Hd ⟨f2, ef2, hl2, rfl, rfl⟩
          rw [ef2] at k
          walk_at "rd"
          refine ⟨fun σ H' => ∃ f3, (if st = "open" then f2 ++ "RF" else f2) = f3 ∧ f3.length ≤ 5 ∧ σ = [some (.ref sp), some (.ref nd), some (.bl first), some (.str f3)] ∧ H' = Hd, ?_, ?_⟩
          · walk_at "rd"
            refine Rd.ifd (fun hb => ?_) (fun hb => ?_)
            · walk_at "rd"
              refine Rd.catS (by rw [show ("RF" : Str).length = 2 from rfl]; omega) ?_
              walk_at "rd"
              exact ⟨_, if_pos hb, by rw [len_app, show ("RF" : Str).length = 2 from rfl]; omega, rfl, rfl⟩
            · walk_at "rd"
              exact ⟨_, if_neg hb, by omega, rfl, rfl⟩
          · rintro σ He ⟨f3, ef3, hl3, rfl, rfl⟩
            rw [ef3] at k
            walk_at "rd"
            refine ⟨fun σ H' => σ = [some (.ref sp), some (.ref nd), some (.bl first), some (.str (if a = true then f3 ++ "D" else f3))] ∧ H' = He, ?_, ?_⟩
            · walk_at "rd"
              refine Rd.ifb (fun hb => ?_) (fun hb => ?_)
              · walk_at "rd"
                refine Rd.catS (by rw [show ("D" : Str).length = 1 from rfl]; omega) ?_
                walk_at "rd"
                rw [if_pos hb]
                exact ⟨rfl, rfl⟩
              · walk_at "rd"
                rw [if_neg (by rw [hb]; exact Bool.false_ne_true)]
                exact ⟨rfl, rfl⟩
            · rintro σ Hf ⟨rfl, rfl⟩
              walk_at "rd"
              exact k
def spLNx (K : PySem.W.Frag) : Sp := fun vs H Q _ => ∃ (sp nd : Addr) (mo sh le gr : Str) (R : Rule) (m i : Nat) (a : Bool) (s ev : Str) (mk : List (Int × Int)) (p : Int × Int), vs = [.ref sp, .ref nd, .str ev] ∧ SpecAt K H sp mo sh le gr R ∧ SqT K H nd [.int m, .bl a, .str s] ∧ evs[i]? = some ev ∧ R[m]? = some mk ∧ mk[i]? = some p ∧
  ∀ q1 H', Evl.Ex H H' → NextAt K H' q1 p a s ev → Q (.ref q1) H'
theorem ok_law_next {ad : Ad} (T : Txt K mg ad) : FnOk P w K mg base CX0 1 ad.a_law_next ad.d_law_next ["spec", "node", "event"] (spLNx K) := by
  refine T.F_law_next.ok sc_law_next (fun vs H Q E h => ?_) (fun cdv A outer s H vs Q E hr h => ?_)
  · obtain ⟨sp, nd, mo, sh, le, gr, R, m, i, a, st, ev, mk, p, rfl, ⟨rl, hsp, hrl⟩, hn, hi, hm, hp, k⟩ := h
    rfl
  · obtain ⟨sp, nd, mo, sh, le, gr, R, m, i, a, st, ev, mk, p, rfl, ⟨rl, hsp, hrl⟩, hn, hi, hm, hp, k⟩ := h
    refine ⟨_, (pss_cons (ps_set (i := 3) sc_law_next.nd rfl (Or.inl rfl) (pe_ix ix_list (pe_ix ix_list (pe_ix ix_list (pv 0) pe_int (fun _ _ => rfl)) (pe_ix ix_tup (pv 1) pe_int (fun _ _ => rfl)) (fun _ _ => rfl)) (pe_m1 PySem.F.slot_str_find PySem.F.type_str_find Rd.mt_fd pe_str (pv 2)) (fun _ _ => rfl)))
      (pss_cons (ps_set (i := 4) sc_law_next.nd rfl (Or.inl rfl) (pe_ix ix_tup (pv 1) pe_int (fun _ _ => rfl)))
      (pss_cons (ps_set (i := 5) sc_law_next.nd rfl (Or.inl rfl) (pe_ix ix_tup (pv 1) pe_int (fun _ _ => rfl)))
      (pss_cons (ps_if (PW.pt (pw_and (pt_cmpR op_eq (pv 2) pe_str (nomark _)) (pw_and1 (pt_cmpR op_eq (pv 5) pe_str (nomark _))))) (pss_one (ps_set (i := 5) sc_law_next.nd rfl (Or.inl rfl) pe_str)) pss_nil)
      (pss_cons (ps_if (pt_cmpR op_eq (pv 2) pe_str (nomark _)) (pss_one (ps_set (i := 5) sc_law_next.nd rfl (Or.inl rfl) pe_str)) pss_nil)
      (pss_cons (ps_if (PW.pt (pw_or (pt_cmpR op_eq (pv 2) pe_str (nomark _)) (pw_or1 (pt_cmpR op_eq (pv 2) pe_str (nomark _))))) (pss_one (ps_set (i := 5) sc_law_next.nd rfl (Or.inl rfl) pe_str)) pss_nil)
      (pss_cons (ps_if (PW.pt (pw_or (pt_cmpR op_eq (pv 2) pe_str (nomark _)) (pw_or1 (pt_cmpR op_eq (pv 2) pe_str (nomark _))))) (pss_one (ps_set (i := 4) sc_law_next.nd rfl (Or.inl rfl) pe_bl)) pss_nil)
      (pss_cons (ps_if (pt_cmpR op_eq (pv 2) pe_str (nomark _)) (pss_one (ps_set (i := 4) sc_law_next.nd rfl (Or.inl rfl) pe_bl)) pss_nil)
      (pss_one (ps_ret (pe_tup (pa_cons (pe_tup (pa_cons (pe_ix ix_tup (pv 3) pe_int (fun _ _ => rfl)) (pa_cons (pv 4) (pa_cons (pv 5) pa_nil)))) (pa_cons (pe_ix ix_tup (pv 3) pe_int (fun _ _ => rfl)) pa_nil))))))))))))), ?_⟩
    try dsimp only [L2.cxOf, L2.Cx.nox, L2.Cx.wish]
    change (_ : TS) _ ([some (.ref sp), some (.ref nd), some (.str ev), none, none, none] : St) _
    have cl_Row := T.cl_Row
    have n_Row_grip := T.n_Row_grip
    have n_Row_lease := T.n_Row_lease
    have n_Row_mode := T.n_Row_mode
    have n_Row_rule := T.n_Row_rule
    have n_Row_sharing := T.n_Row_sharing
    obtain ⟨rl', vr, e, hsr, hrA⟩ := Dt.inv_l hrl
    cases e
    obtain ⟨vm, hvm, hdm⟩ := mapA2 hrA hm
    obtain ⟨tm, wm, rfl, hsm, hmA⟩ := Dt.inv_l hdm
    obtain ⟨vp, hvp, hdp⟩ := mapA2 hmA hp
    obtain ⟨tp, rfl, hsp2⟩ := pair_inv hdp
    have h6 := find_ev hi
    walk_at "rd"
    refine Rd.ixL hsr (atI_nat hvm) ?_
    walk_at "rd"
    rw [h6]
    refine Rd.ixL hsm (atI_nat hvp) ?_
    walk_at "rd"
    have fin : ∀ (al : Bool) (s2 : Str), alN a ev = al → stN st ev = s2 → ∀ (q2 : Addr) (H2 : Hp), Evl.Ex H H2 → H2 q2 = some (.tup [.int p.1, .bl al, .str s2]) → ∀ (q1 : Addr) (H3 : Hp), Evl.Ex H2 H3 → H3 q1 = some (.tup [.ref q2, .int p.2]) → Q (.ref q1) H3 := fun al s2 e1 e2 q2 H2 x1 hq2 q1 H3 x2 hq1 =>
      k q1 H3 (x1.trans x2) ⟨q2, by rw [e1, e2]; exact x2 _ _ hq2, hq1⟩
    have hev := evs_cases hi
    clear h6 hi k
    rcases hev with ⟨rfl, rfl⟩ | ⟨rfl, rfl⟩ | ⟨rfl, rfl⟩ | ⟨rfl, rfl⟩ | ⟨rfl, rfl⟩ | ⟨rfl, rfl⟩
    · by_cases hs : st = "shut"
      · walk_at "rd"
        refine Rd.xtup rfl fun q2 H2 n2 e2 hq2 => ?_
        have hsp3 := Evl.ex_t e2 hsp2
        walk_at "rd"
        refine Rd.xtup rfl fun q1 H3 n3 e3 hq1 => ?_
        walk_at "rd"
        exact fin _ _ (al_L _) (by rw [st_L, if_pos hs]) q2 H2 e2 hq2 q1 H3 e3 hq1
      · walk_at "rd"
        refine Rd.xtup rfl fun q2 H2 n2 e2 hq2 => ?_
        have hsp3 := Evl.ex_t e2 hsp2
        walk_at "rd"
        refine Rd.xtup rfl fun q1 H3 n3 e3 hq1 => ?_
        walk_at "rd"
        exact fin _ _ (al_L _) (by rw [st_L, if_neg hs]) q2 H2 e2 hq2 q1 H3 e3 hq1
    · walk_at "rd"
      refine Rd.xtup rfl fun q2 H2 n2 e2 hq2 => ?_
      have hsp3 := Evl.ex_t e2 hsp2
      walk_at "rd"
      refine Rd.xtup rfl fun q1 H3 n3 e3 hq1 => ?_
      walk_at "rd"
      exact fin _ _ (al_G _) (st_G _) q2 H2 e2 hq2 q1 H3 e3 hq1
    · walk_at "rd"
      refine Rd.xtup rfl fun q2 H2 n2 e2 hq2 => ?_
      have hsp3 := Evl.ex_t e2 hsp2
      walk_at "rd"
      refine Rd.xtup rfl fun q1 H3 n3 e3 hq1 => ?_
      walk_at "rd"
      exact fin _ _ (al_H _) (st_H _) q2 H2 e2 hq2 q1 H3 e3 hq1
    · walk_at "rd"
      refine Rd.xtup rfl fun q2 H2 n2 e2 hq2 => ?_
      have hsp3 := Evl.ex_t e2 hsp2
      walk_at "rd"
      refine Rd.xtup rfl fun q1 H3 n3 e3 hq1 => ?_
      walk_at "rd"
      exact fin _ _ (al_R _) (st_R _) q2 H2 e2 hq2 q1 H3 e3 hq1
    · walk_at "rd"
      refine Rd.xtup rfl fun q2 H2 n2 e2 hq2 => ?_
      have hsp3 := Evl.ex_t e2 hsp2
      walk_at "rd"
      refine Rd.xtup rfl fun q1 H3 n3 e3 hq1 => ?_
      walk_at "rd"
      exact fin _ _ (al_F _) (st_F _) q2 H2 e2 hq2 q1 H3 e3 hq1
    · walk_at "rd"
      refine Rd.xtup rfl fun q2 H2 n2 e2 hq2 => ?_
      have hsp3 := Evl.ex_t e2 hsp2
      walk_at "rd"
      refine Rd.xtup rfl fun q1 H3 n3 e3 hq1 => ?_
      walk_at "rd"
      exact fin _ _ (al_D _) (st_D _) q2 H2 e2 hq2 q1 H3 e3 hq1
def spWhole : Sp := fun vs H Q _ => ∃ i : Int, vs = [.int i] ∧ Q (.bl true) H
theorem ok_law_whole {ad : Ad} (T : Txt K mg ad) : FnOk P w K mg base CX0 1 ad.a_law_whole ad.d_law_whole ["value"] (spWhole) := by
  refine T.F_law_whole.ok sc_law_whole (fun vs H Q E h => ?_) (fun cdv A outer s H vs Q E hr h => ?_)
  · obtain ⟨i, rfl, k⟩ := h
    rfl
  · obtain ⟨i, rfl, k⟩ := h
    refine ⟨_, (pss_one (ps_ret (pe_and (pe_callB (id := "isinstance") call_isi (by rfl) T.z_isinstance (by decide +kernel) (pa_cons (pv 0) (pa_cons (pe_bltn rfl T.z_int (by decide +kernel) (v := .ty "int") rfl) pa_nil))) (pe_one (pe_not (pe_callB (id := "isinstance") call_isi (by rfl) T.z_isinstance (by decide +kernel) (pa_cons (pv 0) (pa_cons (pe_bltn rfl T.z_bool (by decide +kernel) (v := .ty "bool") rfl) pa_nil)))))))), ?_⟩
    try dsimp only [L2.cxOf, L2.Cx.nox, L2.Cx.wish]
    change (_ : TS) _ ([some (.int i)] : St) _
    walk_at "rd"
    exact k

def spTruth : Sp := fun vs H Q _ => ∃ a : Bool, vs = [.bl a, .bl a] ∧ Q (.bl true) H
def spSame (K : PySem.W.Frag) : Sp := fun vs H Q _ => ∃ (x y : Addr) (m : Int) (a : Bool) (s : Str), vs = [.ref x, .ref y] ∧ PyData.strOk s = true ∧ SqT K H x [.int m, .bl a, .str s] ∧ SqT K H y [.int m, .bl a, .str s] ∧ Q (.bl true) H
theorem ok_law_same_node {ad : Ad} (T : Txt K mg ad) : FnOk P w K mg base CX0 2 ad.a_law_same_node ad.d_law_same_node ["actual", "node"] (spSame K) := by
  refine T.F_law_same_node.ok sc_law_same_node (fun vs H Q E h => ?_) (fun cdv A outer s H vs Q E hr h => ?_)
  · obtain ⟨x, y, m, a, st, rfl, hok, h1, h2, k⟩ := h
    rfl
  · obtain ⟨x, y, m, a, st, rfl, hok, h1, h2, k⟩ := h
    refine ⟨_, (pss_cons (ps_if (PW.pt (pw_or (pt_not (pt_val (pe_callB (id := "isinstance") call_isi (by rfl) T.z_isinstance (by decide +kernel) (pa_cons (pv 0) (pa_cons (pe_bltn rfl T.z_tuple (by decide +kernel) (v := .ty "tuple") rfl) pa_nil))))) (pw_or1 (pt_cmpR op_ne (pe_callB (id := "len") Rd.c_len (by rfl) T.z_len (by decide +kernel) (pa_cons (pv 0) pa_nil)) pe_int (nomark _))))) (pss_one (ps_ret pe_bl)) pss_nil)
      (pss_cons (ps_if (PW.pt (pw_or (pt_not (pt_val (pe_call (ok_law_whole T) (hr.mono (by decide)) rfl T.m_law_whole T.F_law_whole.kp T.b_law_whole .nil pass0 (pa_cons (pe_ix ix_tup (pv 0) pe_int (fun _ _ => rfl)) pa_nil)))) (pw_or (pt_not (pt_val (pe_callB (id := "isinstance") call_isi (by rfl) T.z_isinstance (by decide +kernel) (pa_cons (pe_ix ix_tup (pv 0) pe_int (fun _ _ => rfl)) (pa_cons (pe_bltn rfl T.z_bool (by decide +kernel) (v := .ty "bool") rfl) pa_nil))))) (pw_or1 (pt_not (pt_val (pe_callB (id := "isinstance") call_isi (by rfl) T.z_isinstance (by decide +kernel) (pa_cons (pe_ix ix_tup (pv 0) pe_int (fun _ _ => rfl)) (pa_cons (pe_bltn rfl T.z_str (by decide +kernel) (v := .ty "str") rfl) pa_nil))))))))) (pss_one (ps_ret pe_bl)) pss_nil)
      (pss_one (ps_ret (pe_cmpR (op_eqD hr.units) (pv 0) (pv 1) (nomark _)))))), ?_⟩
    try dsimp only [L2.cxOf, L2.Cx.nox, L2.Cx.wish]
    change (_ : TS) _ ([some (.ref x), some (.ref y)] : St) _
    walk_at "rd"
    refine ⟨m, rfl, ?_⟩
    walk_at "rd"
    refine Rd.eqDr (d := .tuple [.int m, .bool a, .str st]) (.tup h1 (.cons (.int _) (.cons (.bl _) (.cons (.str _) .nil)))) (.tup h2 (.cons (.int _) (.cons (.bl _) (.cons (.str _) .nil)))) (by simp [SeqAt.shaped, PyData.canLay0, PyData.canLayAll0, PyData.depth, PyData.depthAll, hok]) ?_
    exact k
def lawClos (s : Str) (a : Bool) : Str := let f := if a = true then ("D" : Str) else ""; if s = "open" then f ++ "R" else f
theorem clos_eq (s : Str) (a : Bool) : closS s a = lawClos s a := by
  unfold closS lawClos
  cases a
  · rfl
  · by_cases h : s = "open"
    · rw [if_pos h, if_pos h]; decide +kernel
    · rw [if_neg h, if_neg h]; decide +kernel
theorem ruleB_len {R : Rule} (h : ruleB R = true) {m : Nat} (hm : m < R.length) : ∃ mk, R[m]? = some mk ∧ mk.length = 6 := by
  refine ⟨R[m]'hm, List.getElem?_eq_getElem hm, ?_⟩
  unfold ruleB at h
  rw [Bool.and_eq_true, List.all_eq_true] at h
  have h2 := h.2 _ (List.getElem_mem hm)
  unfold markB at h2
  rw [Bool.and_eq_true, decide_eq_true_eq] at h2
  exact h2.1

/-! ### lives -/
abbrev Nd := Nat × Bool × Str × Int
def nd0 : Nd := (0, false, "shut", 0)
def ch (c : Nat) : Str := ⟨#[c]⟩
def evIx (c : Nat) : Nat := evs.idxOf (ch c)
def prOf (R : Rule) (m c : Nat) : Int × Int := ((R.getD m []).getD (evIx c) (0, 0))
def nxN (R : Rule) (n : Nd) (c : Nat) : Nd := ((prOf R n.1 c).1.toNat, alN n.2.1 (ch c), stN n.2.2.1 (ch c), n.2.2.2 + (prOf R n.1 c).2)
def stAt (R : Rule) (cs : List Nat) (i : Nat) : Nd := (cs.take i).foldl (nxN R) nd0
theorem stAt_succ {R : Rule} {cs : List Nat} {i c : Nat} (h : cs[i]? = some c) : stAt R cs (i + 1) = nxN R (stAt R cs i) c := by
  unfold stAt
  rw [List.take_add_one, h]
  simp [List.foldl_append]
def canAt (mo sh le : Str) (R : Rule) (cs : List Nat) (i c : Nat) : Bool := canB mo sh le (stAt R cs i).2.1 (stAt R cs i).2.2.1 (ch c) (decide (i = 0))
/-- the first i events can happen -/
def Good (mo sh le : Str) (R : Rule) (cs : List Nat) (i : Nat) : Prop := ∀ j c, j < i → cs[j]? = some c → canAt mo sh le R cs j c = true
theorem Good.zero {mo sh le : Str} {R : Rule} {cs : List Nat} : Good mo sh le R cs 0 := fun j c h => by omega
theorem Good.succ {mo sh le : Str} {R : Rule} {cs : List Nat} {i c : Nat} (h : Good mo sh le R cs i) (hc : cs[i]? = some c) (hk : canAt mo sh le R cs i c = true) : Good mo sh le R cs (i + 1) := fun j c' hj hc' => by
  by_cases e : j = i
  · subst e; rw [hc] at hc'; cases hc'; exact hk
  · exact h j c' (by omega) hc'
def ndD (n : Nd) : PyData := .tuple [.tuple [.int n.1, .bool n.2.1, .str n.2.2.1], .int n.2.2.2]
def pathD (R : Rule) (cs : List Nat) (i : Nat) : List PyData := (List.range (i + 1)).map fun j => ndD (stAt R cs j)
theorem pathD_succ (R : Rule) (cs : List Nat) (i : Nat) : pathD R cs (i + 1) = pathD R cs i ++ [ndD (stAt R cs (i + 1))] := by
  unfold pathD
  rw [List.range_succ, List.map_append]
  rfl
theorem noL_nd (n : Nd) : Dt.noL (ndD n) = true := by simp [ndD, Dt.noL]
theorem noL_path {R : Rule} {cs : List Nat} {i : Nat} : ∀ d ∈ pathD R cs i, Dt.noL d = true := fun d hd => by obtain ⟨j, _, rfl⟩ := List.mem_map.mp hd; exact noL_nd _
/-- every code is an event -/
def EvC (cs : List Nat) : Prop := ∀ c ∈ cs, ch c ∈ evs
theorem ev_ix {c : Nat} (h : ch c ∈ evs) : evs[evIx c]? = some (ch c) := by
  unfold evIx
  rw [List.getElem?_eq_getElem (List.idxOf_lt_length_of_mem h), List.getElem_idxOf]
theorem prOf_at {R : Rule} (h : ruleB R = true) {m c : Nat} (hm : m < R.length) (hc : ch c ∈ evs) : ∃ mk, R[m]? = some mk ∧ mk[evIx c]? = some (prOf R m c) ∧ 0 ≤ (prOf R m c).1 ∧ (prOf R m c).1.toNat < R.length ∧ (prOf R m c).2.natAbs ≤ 3 := by
  obtain ⟨mk, h1, h2⟩ := ruleB_len h hm
  have h3 : evIx c < mk.length := by rw [h2]; exact (List.getElem?_eq_some_iff.mp (ev_ix hc)).1
  have h4 : mk[evIx c]? = some (prOf R m c) := by
    unfold prOf
    have e1 : R.getD m [] = mk := by rw [List.getD_eq_getElem?_getD, h1]; rfl
    rw [e1, List.getD_eq_getElem?_getD, List.getElem?_eq_getElem h3]
    rfl
  refine ⟨mk, h1, h4, ?_⟩
  unfold ruleB at h
  rw [Bool.and_eq_true, List.all_eq_true] at h
  have h5 := h.2 mk (List.mem_of_getElem? h1)
  unfold markB at h5
  rw [Bool.and_eq_true, List.all_eq_true] at h5
  have h6 := h5.2 _ (List.mem_of_getElem? h4)
  rw [Bool.and_eq_true, Bool.and_eq_true, decide_eq_true_eq, decide_eq_true_eq, decide_eq_true_eq] at h6
  omega
/-- a node's state is in order -/
def OkN (R : Rule) (n : Nd) : Prop := n.1 < R.length ∧ okS n.2.2.1
theorem okS_st {s : Str} (h : okS s) (ev : Str) : okS (stN s ev) := by
  unfold stN
  split
  · split
    · exact .inr (.inl rfl)
    · exact h
  · split
    · exact .inr (.inr rfl)
    · split
      · exact .inl rfl
      · exact h
theorem OkN.next {R : Rule} (h : ruleB R = true) {n : Nd} {c : Nat} (hn : OkN R n) (hc : ch c ∈ evs) : OkN R (nxN R n c) := by
  obtain ⟨mk, _, _, _, h2, _⟩ := prOf_at h hn.1 hc
  exact ⟨h2, okS_st hn.2 _⟩
theorem ruleB_pos {R : Rule} (h : ruleB R = true) : 0 < R.length := by
  unfold ruleB at h
  rw [Bool.and_eq_true, Bool.and_eq_true, decide_eq_true_eq] at h
  omega
theorem stAt_ok {R : Rule} (h : ruleB R = true) {cs : List Nat} (hc : EvC cs) : ∀ i, OkN R (stAt R cs i)
  | 0 => ⟨ruleB_pos h, .inl rfl⟩
  | i + 1 => by
    cases e : cs[i]? with
    | none =>
      have e2 : stAt R cs (i + 1) = stAt R cs i := by
        unfold stAt
        rw [List.take_add_one, e]
        simp
      rw [e2]
      exact stAt_ok h hc i
    | some c =>
      rw [stAt_succ e]
      exact (stAt_ok h hc i).next h (hc c (List.mem_of_getElem? e))
theorem ch_at {cs : List Nat} (h : EvC cs) {i c : Nat} (hc : cs[i]? = some c) : ch c ∈ evs := h c (List.mem_of_getElem? hc)
/-- can it happen: the law's own word for it -/
theorem can_in {mo sh le gr : Str} {R : Rule} (h : RowOk mo sh le gr R) {s : Str} (hs : okS s) (a first : Bool) {c : Nat} (hc : ch c ∈ evs) : (!(Builtin.Str.occurrences (lawEv mo sh le a s first) (ch c) 0 (lawEv mo sh le a s first).length 1).isEmpty) = canB mo sh le a s (ch c) first := by
  have key : ∀ e ∈ evs, (!(Builtin.Str.occurrences (lawEv mo sh le a s first) e 0 (lawEv mo sh le a s first).length 1).isEmpty) = canB mo sh le a s e first := by
    obtain ⟨_, ⟨rfl, h1, h2, _⟩ | ⟨h0, rfl, rfl, _, _⟩⟩ := h
    · rcases h1 with rfl | rfl <;> rcases h2 with rfl | rfl <;> rcases hs with rfl | rfl | rfl <;> cases a <;> cases first <;> decide +kernel
    · rcases h0 with rfl | rfl <;> rcases hs with rfl | rfl | rfl <;> cases a <;> cases first <;> decide +kernel
  exact key _ hc
def ndV (n : Nd) : List V := [.int n.1, .bl n.2.1, .str n.2.2.1]
theorem dp_nd {K : PySem.W.Frag} {H : Hp} {n : Nd} {nd p : Addr} (h1 : SqT K H nd [.int n.1, .bl n.2.1, .str n.2.2.1]) (h2 : H p = some (.tup [.ref nd, .int n.2.2.2])) : Dp K H (.ref p) (ndD n) :=
  Dt.ofT h2 (.cons (.tup h1 (.cons (.int _) (.cons (.bl _) (.cons (.str _) .nil)))) (.cons (.int _) .nil))
def spWalk (C X : Addr) (K : PySem.W.Frag) : Sp := fun vs H Q E => ∃ (r : Addr) (mo sh le gr : Str) (R : Rule) (cs : List Nat), vs = [.ref r, .str (SX.S cs)] ∧ RowAt K C H r mo sh le gr R ∧ RowOk mo sh le gr R ∧ EvC cs ∧ cs.length < 64 ∧
  (Good mo sh le R cs cs.length → ∀ l ws H', Evl.Ex H H' → H l = none → H' l = some (.lst ws) → DpAll K H' ws (pathD R cs cs.length) → Q (.ref l) H') ∧
  (∀ i c d H', cs[i]? = some c → Good mo sh le R cs i → canAt mo sh le R cs i c = false → Evl.Ex H H' → H' d = some (.xd [("place", .int i)]) → E (.ref X) (some d) H')
def spLPath (K : PySem.W.Frag) : Sp := fun vs H Q _ => ∃ (sp : Addr) (mo sh le gr : Str) (R : Rule) (cs : List Nat), vs = [.ref sp, .str (SX.S cs)] ∧ SpecAt K H sp mo sh le gr R ∧ RowOk mo sh le gr R ∧ EvC cs ∧ cs.length < 64 ∧
  (Good mo sh le R cs cs.length → ∀ q l ws H', Evl.Ex H H' → H' q = some (.tup [.int (-1), .ref l]) → H' l = some (.lst ws) → DpAll K H' ws (pathD R cs cs.length) → Q (.ref q) H') ∧
  (∀ i c q l ws H', cs[i]? = some c → Good mo sh le R cs i → canAt mo sh le R cs i c = false → Evl.Ex H H' → H' q = some (.tup [.int i, .ref l]) → H' l = some (.lst ws) → DpAll K H' ws (pathD R cs i) → Q (.ref q) H')
theorem ok_law_path {ad : Ad} (T : Txt K mg ad) : FnOk P w K mg base CX0 3 ad.a_law_path ad.d_law_path ["spec", "life"] (spLPath K) := by
  refine T.F_law_path.ok sc_law_path (fun vs H Q E h => ?_) (fun cdv A outer s H vs Q E hr h => ?_)
  · obtain ⟨sp, mo, sh, le, gr, R, cs, rfl, hsp, hok, hev, hn, kq, ke⟩ := h
    rfl
  · obtain ⟨sp, mo, sh, le, gr, R, cs, rfl, hsp, hok, hev, hn, kq, ke⟩ := h
    refine ⟨_, (pss_cons (ps_set (i := 2) sc_law_path.nd rfl (Or.inl rfl) (pe_tup (pa_cons pe_int (pa_cons pe_bl (pa_cons pe_str pa_nil)))))
      (pss_cons (ps_set (i := 3) sc_law_path.nd rfl (Or.inl rfl) pe_int)
      (pss_cons (ps_set (i := 4) sc_law_path.nd rfl (Or.inl rfl) (pe_lst (pa_cons (pe_tup (pa_cons (pv 2) (pa_cons (pv 3) pa_nil))) pa_nil)))
      (pss_cons (ps_for PassesOwn.never rfl (pi_range1 rfl T.z_range (pa_cons (pe_callB (id := "len") Rd.c_lenS (by rfl) T.z_len (by decide +kernel) (pa_cons (pv 1) pa_nil)) pa_nil)) (pg_name (i := 5) sc_law_path.nd rfl (Or.inl rfl)) (pss_cons (ps_if (pt_cmpR Rd.op_notInS (pe_ix ix_str (pv 1) (pv 5) (fun _ _ => rfl)) (pe_call (ok_law_events T) (hr.mono (by decide)) rfl T.m_law_events T.F_law_events.kp T.b_law_events .nil pass0 (pa_cons (pv 0) (pa_cons (pv 2) (pa_cons (pe_cmpR op_eq (pv 5) pe_int (nomark _)) pa_nil)))) (by rfl)) (pss_one (ps_ret (pe_tup (pa_cons (pv 5) (pa_cons (pv 4) pa_nil))))) pss_nil)
      (pss_cons (ps_set (i := 6) sc_law_path.nd rfl (Or.inl rfl) (pe_call (ok_law_next T) (hr.mono (by decide)) rfl T.m_law_next T.F_law_next.kp T.b_law_next .nil pass0 (pa_cons (pv 0) (pa_cons (pv 2) (pa_cons (pe_ix ix_str (pv 1) (pv 5) (fun _ _ => rfl)) pa_nil)))))
      (pss_cons (ps_set (i := 2) sc_law_path.nd rfl (Or.inl rfl) (pe_ix ix_tup (pv 6) pe_int (fun _ _ => rfl)))
      (pss_cons (ps_set (i := 3) sc_law_path.nd rfl (Or.inl rfl) (pe_op op_add (pv 3) (pe_ix ix_tup (pv 6) pe_int (fun _ _ => rfl))))
      (pss_one (ps_expr (pe_bm PySem.F.plainAttrs_list PySem.F.slot_list_append PySem.F.type_list_append mt_append (pv 4) (pa_cons (pe_tup (pa_cons (pv 2) (pa_cons (pv 3) pa_nil))) pa_nil)))))))))
      (pss_one (ps_ret (pe_tup (pa_cons (pe_un un_neg pe_int) (pa_cons (pv 4) pa_nil))))))))), ?_⟩
    try dsimp only [L2.cxOf, L2.Cx.nox, L2.Cx.wish]
    change (_ : TS) _ ([some (.ref sp), some (.str (SX.S cs)), none, none, none, none, none] : St) _
    have cl_Row := T.cl_Row
    have n_Row_grip := T.n_Row_grip
    have n_Row_lease := T.n_Row_lease
    have n_Row_mode := T.n_Row_mode
    have n_Row_rule := T.n_Row_rule
    have n_Row_sharing := T.n_Row_sharing
    have hl : (SX.S cs).length = cs.length := SX.S_len cs
    have hok1 := hok.1
    walk_at "rd"
    refine Rd.xtup rfl fun qn H0 n0 e0 h0 => ?_
    walk_at "rd"
    refine Rd.xtup rfl fun q0 H1 n1 e1 h1 => ?_
    walk_at "rd"
    refine Rd.xlst rfl fun l H2 n2 e2 h2 => ?_
    have e02 := (e0.trans e1).trans e2
    have hn2 : SqT K H2 qn [.int nd0.1, .bl nd0.2.1, .str nd0.2.2.1] := SqT.of (e2 _ _ (e1 _ _ h0))
    have hd0 : DpAll K H2 [.ref q0] (pathD R cs 0) := .cons (dp_nd (n := nd0) hn2 (e2 _ _ h1)) .nil
    walk_at "rd"
    refine Rd.lenS (by omega) ?_
    walk_at "rd"
    rw [hl]
    refine Rd.xfr1 ⟨by omega, by omega⟩ (fun i σ H' => ∃ nd v5 v6, σ = [some (.ref sp), some (.str (SX.S cs)), some (.ref nd), some (.int (stAt R cs i).2.2.2), some (.ref l), v5, v6] ∧ Evl.Ex H H' ∧ SqT K H' nd [.int (stAt R cs i).1, .bl (stAt R cs i).2.1, .str (stAt R cs i).2.2.1] ∧ Good mo sh le R cs i ∧ ∃ ws, H' l = some (.lst ws) ∧ DpAll K H' ws (pathD R cs i))
      ⟨_, _, _, rfl, e02, hn2, Good.zero, _, h2, hd0⟩ ?_ ?_
    · rintro i σ H3 hi ⟨nd, v5, v6, rfl, e3, hnd, hg, ws, hw, hwA⟩
      have hi2 : i < cs.length := by omega
      have hc : cs[i]? = some (cs[i]'hi2) := List.getElem?_eq_getElem hi2
      generalize cs[i]'hi2 = c at hc
      have hcv := ch_at hev hc
      have hat : atI (SX.S cs).cps.toList (i : Int) = some c := atI_nat (by show (cs.toArray.toList)[i]? = some c; rw [List.toList_toArray]; exact hc)
      have hno := stAt_ok hok1 hev i
      obtain ⟨mk, hm1, hm2, hp0, hpl, hpn⟩ := prOf_at hok1 hno.1 hcv
      have hsu := stAt_succ (R := R) hc
      have hwl : ws.length = i + 1 := by rw [Dt.lenA hwA]; unfold pathD; rw [List.length_map, List.length_range]
      walk_at "rd"
      refine Rd.ixS (by omega) hat ?_
      walk_at "rd"
      refine ⟨sp, nd, mo, sh, le, gr, R, (stAt R cs i).1, (stAt R cs i).2.1, (stAt R cs i).2.2.1, decide ((i : Int) = 0), rfl, hsp.mono e3, hnd, ?_⟩
      refine Rd.ninS (can_in hok hno.2 _ _ hcv) ?_
      have hcan : canB mo sh le (stAt R cs i).2.1 (stAt R cs i).2.2.1 (ch c) (decide ((i : Int) = 0)) = canAt mo sh le R cs i c := by
        unfold canAt
        rw [show decide ((i : Int) = 0) = decide (i = 0) from decide_eq_decide.mpr (by omega)]
      rw [hcan]
      walk_at "rd"
      refine Rd.ifb (fun hb => ?_) (fun hb => ?_)
      · have hb2 : canAt mo sh le R cs i c = false := by
          cases h : canAt mo sh le R cs i c with
          | true => rw [h] at hb; cases hb
          | false => rfl
        walk_at "rd"
        refine Rd.xtup rfl fun q H4 n4 e4 hq => ?_
        exact ke i c q l ws H4 hc hg hb2 (e3.trans e4) hq (e4 _ _ hw) (Dt.mnA hwA e4)
      · have hb2 : canAt mo sh le R cs i c = true := by
          cases h : canAt mo sh le R cs i c with
          | true => rfl
          | false => rw [h] at hb; cases hb
        walk_at "rd"
        refine Rd.ixS (by omega) hat ?_
        walk_at "rd"
        refine ⟨sp, nd, mo, sh, le, gr, R, (stAt R cs i).1, evIx c, (stAt R cs i).2.1, (stAt R cs i).2.2.1, ch c, mk, prOf R (stAt R cs i).1 c, rfl, hsp.mono e3, hnd, ev_ix hcv, hm1, hm2, fun q1 H4 e4 ⟨q2, h4, h5⟩ => ?_⟩
        walk_at "rd"
        refine Rd.xtup rfl fun q3 H5 n5 e5 h6 => ?_
        walk_at "rd"
        have hw5 := e5 _ _ (e4 _ _ hw)
        refine Rd.append hw5 (by omega) ?_
        walk_at "rd"
        have hs1 : (((stAt R cs (i + 1)).1 : Nat) : Int) = (prOf R (stAt R cs i).1 c).1 := by rw [hsu]; exact Int.toNat_of_nonneg hp0
        have hs2 : (stAt R cs (i + 1)).2.1 = alN (stAt R cs i).2.1 (ch c) := by rw [hsu]; rfl
        have hs3 : (stAt R cs (i + 1)).2.2.1 = stN (stAt R cs i).2.2.1 (ch c) := by rw [hsu]; rfl
        have hs4 : (stAt R cs (i + 1)).2.2.2 = (stAt R cs i).2.2.2 + (prOf R (stAt R cs i).1 c).2 := by rw [hsu]; rfl
        have hn5 : SqT K H5 q2 [.int (stAt R cs (i + 1)).1, .bl (stAt R cs (i + 1)).2.1, .str (stAt R cs (i + 1)).2.2.1] := by
          rw [hs1, hs2, hs3]; exact SqT.of (e5 _ _ h4)
        rw [← hs4] at h6 ⊢
        have hdn : Dp K H5 (.ref q3) (ndD (stAt R cs (i + 1))) := dp_nd hn5 h6
        refine ⟨q2, _, _, rfl, Evl.Ex.mut ((e3.trans e4).trans e5) (Evl.fresh_back (e0.trans e1) n2), Dt.sqt_upd hw5 hn5, hg.succ hc hb2, _, upd_same, ?_⟩
        rw [pathD_succ]
        refine Dt.updLA hw5 _ _ ?_ (Dt.snocA (Dt.mnA (Dt.mnA hwA e4) e5) hdn)
        rw [← pathD_succ]
        exact noL_path
    · rintro σ H3 ⟨nd, v5, v6, rfl, e3, hnd, hg, ws, hw, hwA⟩
      walk_at "rd"
      refine Rd.xtup rfl fun q H4 n4 e4 hq => ?_
      exact kq hg q l ws H4 (e3.trans e4) hq (e4 _ _ hw) (Dt.mnA hwA e4)
theorem ndV_ok {n : Nd} (h : okS n.2.2.1) : PyData.strOk n.2.2.1 = true := by rcases h with h | h | h <;> rw [h] <;> decide +kernel
theorem nd_inv {K : PySem.W.Frag} {H : Hp} {v : V} {n : Nd} (h : Dp K H v (ndD n)) : ∃ p q, v = .ref p ∧ SqT K H p [.ref q, .int n.2.2.2] ∧ SqT K H q [.int n.1, .bl n.2.1, .str n.2.2.1] := by
  obtain ⟨p, xs, e, hs, hA⟩ := Dt.inv_t h
  cases hA with
  | cons h1 hA => cases hA with
    | cons h2 hA =>
      cases hA
      cases h2
      obtain ⟨q, ys, e2, hs2, hA2⟩ := Dt.inv_t h1
      subst e2
      cases hA2 with
      | cons h3 hA2 => cases hA2 with
        | cons h4 hA2 => cases hA2 with
          | cons h5 hA2 =>
            cases hA2
            cases h3
            cases h4
            cases h5
            exact ⟨p, q, e, hs, hs2⟩
def spSamePath (K : PySem.W.Frag) : Sp := fun vs H Q _ => ∃ (x y : Addr) (R : Rule) (cs : List Nat) (xs ys : List V), vs = [.ref x, .ref y] ∧ ruleB R = true ∧ EvC cs ∧ cs.length < 64 ∧ H x = some (.lst xs) ∧ H y = some (.lst ys) ∧ DpAll K H xs (pathD R cs cs.length) ∧ DpAll K H ys (pathD R cs cs.length) ∧ Q (.bl true) H
theorem path_at {K : PySem.W.Frag} {H : Hp} {R : Rule} {cs : List Nat} {xs : List V} {n i : Nat} (h : DpAll K H xs (pathD R cs n)) (hi : i < n + 1) : ∃ v, xs[i]? = some v ∧ Dp K H v (ndD (stAt R cs i)) :=
  Dt.getA2 h (by unfold pathD; rw [List.getElem?_map, List.getElem?_range hi]; rfl)
theorem path_len {K : PySem.W.Frag} {H : Hp} {R : Rule} {cs : List Nat} {xs : List V} {n : Nat} (h : DpAll K H xs (pathD R cs n)) : xs.length = n + 1 := by rw [Dt.lenA h]; unfold pathD; rw [List.length_map, List.length_range]
theorem ev_chk2 {mo sh le gr : Str} {R : Rule} (h : RowOk mo sh le gr R) {s : Str} (hs : okS s) (a first : Bool) : chk (lawEv mo sh le a s first) = true ∧ (lawEv mo sh le a s first).length ≤ 6 := by
  obtain ⟨_, ⟨rfl, h1, h2, _⟩ | ⟨h0, rfl, rfl, _, _⟩⟩ := h
  · rcases h1 with rfl | rfl <;> rcases h2 with rfl | rfl <;> rcases hs with rfl | rfl | rfl <;> cases a <;> cases first <;> decide +kernel
  · rcases h0 with rfl | rfl <;> rcases hs with rfl | rfl | rfl <;> cases a <;> cases first <;> decide +kernel
theorem chk_mem {z : Str} (h : chk z = true) {i c : Nat} (hc : z.cps.toList[i]? = some c) : ch c ∈ evs := by
  obtain ⟨j, hj⟩ := chk_at h (i := i) (c := c) (by rw [← Array.getElem?_toList]; exact hc)
  exact List.mem_of_getElem? hj
theorem S_app (a b : List Nat) : SX.S a ++ SX.S b = SX.S (a ++ b) := by
  show (⟨a.toArray ++ b.toArray⟩ : Str) = ⟨(a ++ b).toArray⟩
  simp
theorem S_one (c : Nat) : (⟨#[c]⟩ : Str) = SX.S [c] := rfl
theorem S_emp {z : Str} : z ≠ "" → 0 < z.length := fun h => by
  rcases Nat.eq_zero_or_pos z.length with e | e
  · exact absurd (show z = "" from by cases z with | mk a => have : a = #[] := Array.eq_empty_of_size_eq_zero e; subst this; rfl) h
  · exact e
theorem EvC.app {a b : List Nat} (h : EvC a) (g : EvC b) : EvC (a ++ b) := fun c hc => (List.mem_append.mp hc).elim (h c) (g c)
theorem EvC.take {a : List Nat} (h : EvC a) (n : Nat) : EvC (a.take n) := fun c hc => h c (List.mem_of_mem_take hc)
theorem EvC.drop {a : List Nat} (h : EvC a) (n : Nat) : EvC (a.drop n) := fun c hc => h c (List.mem_of_mem_drop hc)
def spLife (K : PySem.W.Frag) : Sp := fun vs H Q _ => ∃ (dk sp : Addr) (n : Int) (mo sh le gr : Str) (R : Rule), vs = [.ref dk, .ref sp, .int n] ∧ H dk = some (Dk.DkO dk) ∧ SpecAt K H sp mo sh le gr R ∧ RowOk mo sh le gr R ∧ 0 ≤ n ∧ n ≤ 40 ∧
  ∀ cs H', Evl.Ex H H' → EvC cs → (cs.length : Int) ≤ n → Q (.str (SX.S cs)) H'
theorem six_ev {k : Int} (h0 : 0 ≤ k) (h1 : k < 6) : ∃ c, atI ("LGHRFD" : Str).cps.toList k = some c ∧ ch c ∈ evs := by
  obtain rfl | rfl | rfl | rfl | rfl | rfl : k = 0 ∨ k = 1 ∨ k = 2 ∨ k = 3 ∨ k = 4 ∨ k = 5 := by omega
  · exact ⟨76, by decide +kernel, by decide +kernel⟩
  · exact ⟨71, by decide +kernel, by decide +kernel⟩
  · exact ⟨72, by decide +kernel, by decide +kernel⟩
  · exact ⟨82, by decide +kernel, by decide +kernel⟩
  · exact ⟨70, by decide +kernel, by decide +kernel⟩
  · exact ⟨68, by decide +kernel, by decide +kernel⟩
def spSpoilt : Sp := fun vs H Q _ => ∃ (dk : Addr) (cs : List Nat), vs = [.ref dk, .str (SX.S cs)] ∧ H dk = some (Dk.DkO dk) ∧ EvC cs ∧ cs.length ≤ 40 ∧ ∀ ds, EvC ds → ds.length < 64 → Q (.str (SX.S ds)) H
/-- what the law's own path says of the life -/
def DueAt (K : PySem.W.Frag) (H : Hp) (q : Addr) (mo sh le : Str) (R : Rule) (cs : List Nat) : Prop := ∃ l ws,
  (Good mo sh le R cs cs.length ∧ SqT K H q [.int (-1), .ref l] ∧ H l = some (.lst ws) ∧ DpAll K H ws (pathD R cs cs.length)) ∨
  (∃ i c, cs[i]? = some c ∧ Good mo sh le R cs i ∧ canAt mo sh le R cs i c = false ∧ SqT K H q [.int i, .ref l])
def spWalked (C : Addr) (K : PySem.W.Frag) : Sp := fun vs H Q _ => ∃ (r q : Addr) (mo sh le gr : Str) (R : Rule) (cs : List Nat), vs = [.ref r, .str (SX.S cs), .ref q] ∧ RowAt K C H r mo sh le gr R ∧ RowOk mo sh le gr R ∧ EvC cs ∧ cs.length < 64 ∧ DueAt K H q mo sh le R cs ∧ ∀ H', Evl.Ex H H' → Q (.bl true) H'
/-! split -/
theorem Good.uniq {mo sh le : Str} {R : Rule} {cs : List Nat} {i j c d : Nat} (hi : Good mo sh le R cs i) (hc : cs[i]? = some c) (hci : canAt mo sh le R cs i c = false) (hj : Good mo sh le R cs j) (hd : cs[j]? = some d) (hdj : canAt mo sh le R cs j d = false) : i = j := by
  rcases Nat.lt_trichotomy i j with h | h | h
  · have := hj i c h hc; rw [hci] at this; cases this
  · exact h
  · have := hi j d h hd; rw [hdj] at this; cases this
theorem Good.not {mo sh le : Str} {R : Rule} {cs : List Nat} {i c : Nat} (h : Good mo sh le R cs cs.length) (hc : cs[i]? = some c) (hci : canAt mo sh le R cs i c = false) : False := by
  have := h i c (List.getElem?_eq_some_iff.mp hc).1 hc
  rw [hci] at this; cases this
theorem x_path {K : PySem.W.Frag} {H : Hp} {Q : VK} {E : XK} {sp : Addr} {mo sh le gr : Str} {R : Rule} {cs : List Nat} (hsp : SpecAt K H sp mo sh le gr R) (hok : RowOk mo sh le gr R) (hev : EvC cs) (hn : cs.length < 64)
    (k : ∀ q H', Evl.Ex H H' → DueAt K H' q mo sh le R cs → Q (.ref q) H') : spLPath K ([.ref sp, .str (SX.S cs)] ++ []) H Q E :=
  ⟨sp, mo, sh, le, gr, R, cs, rfl, hsp, hok, hev, hn, fun hg q l ws H' e hq hl hA => k q H' e ⟨l, ws, .inl ⟨hg, SqT.of hq, hl, hA⟩⟩,
    fun i c q l ws H' hc hg hcan e hq hl hA => k q H' e ⟨l, ws, .inr ⟨i, c, hc, hg, hcan, SqT.of hq⟩⟩⟩

/-! split -/
/-! ### the chart as a plain function -/
abbrev N3 := Nat × Bool × Str
abbrev En := N3 × List Nat
def nx3 (R : Rule) (n : N3) (c : Nat) : N3 := ((prOf R n.1 c).1.toNat, alN n.2.1 (ch c), stN n.2.2 (ch c))
def n0 : N3 := (0, false, "shut")
def ndL (R : Rule) (cs : List Nat) : N3 := ((stAt R cs cs.length).1, (stAt R cs cs.length).2.1, (stAt R cs cs.length).2.2.1)
theorem stAt_app {R : Rule} {cs : List Nat} {c : Nat} {i : Nat} (h : i ≤ cs.length) : stAt R (cs ++ [c]) i = stAt R cs i := by
  unfold stAt
  rw [List.take_append_of_le_length h]
theorem ndL_snoc (R : Rule) (cs : List Nat) (c : Nat) : ndL R (cs ++ [c]) = nx3 R (ndL R cs) c := by
  have h : (cs ++ [c])[cs.length]? = some c := by simp
  have e := stAt_succ (R := R) h
  rw [stAt_app (Nat.le_refl _)] at e
  unfold ndL
  rw [List.length_append, List.length_singleton, e]
  rfl
def evC : List Nat := [76, 71, 72, 82, 70, 68]
theorem ev_mem {c : Nat} (h : c ∈ evC) : ch c ∈ evs := by
  simp only [evC, List.mem_cons, List.not_mem_nil, or_false] at h
  rcases h with rfl | rfl | rfl | rfl | rfl | rfl <;> decide +kernel
def posC (mo sh le : Str) (a : Bool) (s : Str) (first : Bool) : List Nat := evC.filter fun c => canB mo sh le a s (ch c) first
theorem pos_eq {mo sh le gr : Str} {R : Rule} (h : RowOk mo sh le gr R) {s : Str} (hs : okS s) (a first : Bool) : possS mo sh le a s first = SX.S (posC mo sh le a s first) := by
  obtain ⟨_, ⟨rfl, h1, h2, _⟩ | ⟨h0, rfl, rfl, _, _⟩⟩ := h
  · rcases h1 with rfl | rfl <;> rcases h2 with rfl | rfl <;> rcases hs with rfl | rfl | rfl <;> cases a <;> cases first <;> decide +kernel
  · rcases h0 with rfl | rfl <;> rcases hs with rfl | rfl | rfl <;> cases a <;> cases first <;> decide +kernel
theorem pos_asc (mo sh le : Str) (a : Bool) (s : Str) (first : Bool) : (posC mo sh le a s first).Pairwise (fun c d => evIx c < evIx d) :=
  List.Pairwise.filter _ (show evC.Pairwise (fun c d => evIx c < evIx d) by decide +kernel)
theorem pos_can {mo sh le : Str} {a : Bool} {s : Str} {first : Bool} {c : Nat} (h : c ∈ posC mo sh le a s first) : ch c ∈ evs ∧ canB mo sh le a s (ch c) first = true :=
  ⟨ev_mem (List.mem_filter.mp h).1, (List.mem_filter.mp h).2⟩
def posE (mo sh le : Str) (e : En) : List Nat := posC mo sh le e.1.2.1 e.1.2.2 (decide (SX.S e.2 = ""))
theorem S_nil (cs : List Nat) : decide (SX.S cs = "") = decide (cs.length = 0) := by
  refine decide_eq_decide.mpr ⟨fun h => ?_, fun h => ?_⟩
  · have : (SX.S cs).length = 0 := by rw [h]; rfl
    rw [SX.S_len] at this; exact this
  · rw [List.length_eq_zero_iff.mp h]; rfl
theorem Good.snoc {mo sh le : Str} {R : Rule} {cs : List Nat} {c : Nat} (h : Good mo sh le R cs cs.length) (hc : canB mo sh le (ndL R cs).2.1 (ndL R cs).2.2 (ch c) (decide (cs.length = 0)) = true) : Good mo sh le R (cs ++ [c]) (cs ++ [c]).length := fun j d hj hd => by
  rw [List.length_append, List.length_singleton] at hj
  by_cases e : j = cs.length
  · subst e
    have : d = c := by simpa using hd.symm
    subst this
    unfold canAt
    rw [stAt_app (Nat.le_refl _)]
    exact hc
  · have hj2 : j < cs.length := by omega
    rw [List.getElem?_append_left hj2] at hd
    have := h j d hj2 hd
    unfold canAt at this ⊢
    rw [stAt_app (by omega)]
    exact this
/-! the order of lives -/
def rkI (cs : List Nat) : List Int := (cs.length : Int) :: cs.map fun c => (evIx c : Int)
def Lt (a b : List Nat) : Prop := Nk.LtI (rkI a) (rkI b)
theorem Lt.trans {a b c : List Nat} (h : Lt a b) (g : Lt b c) : Lt a c := Nk.LtI.trans h g
theorem Lt.ext (a : List Nat) (c : Nat) : Lt a (a ++ [c]) := ⟨0, a.length, (a ++ [c]).length, rfl, rfl, by rw [List.length_append, List.length_singleton]; omega, fun i hi => by omega⟩
theorem rk_at {a : List Nat} {i : Nat} : (rkI a)[i + 1]? = (a[i]?).map fun c => (evIx c : Int) := by
  unfold rkI
  rw [List.getElem?_cons_succ, List.getElem?_map]
theorem Lt.both {a b : List Nat} (h : Lt a b) (c d : Nat) : Lt (a ++ [c]) (b ++ [d]) := by
  obtain ⟨j, x, y, h1, h2, h3, h4⟩ := h
  cases j with
  | zero =>
    have e1 : (a.length : Int) = x := by simpa [rkI] using h1
    have e2 : (b.length : Int) = y := by simpa [rkI] using h2
    exact ⟨0, (a ++ [c]).length, (b ++ [d]).length, rfl, rfl, by rw [List.length_append, List.length_append, List.length_singleton, List.length_singleton]; omega, fun i hi => by omega⟩
  | succ j =>
    have e0 : a.length = b.length := by
      have := h4 0 (by omega)
      simp [rkI] at this
      omega
    rw [rk_at] at h1 h2
    have ha : j < a.length := by
      cases q : a[j]? with
      | none => rw [q] at h1; cases h1
      | some z => exact (List.getElem?_eq_some_iff.mp q).1
    refine ⟨j + 1, x, y, ?_, ?_, h3, fun i hi => ?_⟩
    · rw [rk_at, List.getElem?_append_left ha]; exact h1
    · rw [rk_at, List.getElem?_append_left (by omega)]; exact h2
    · cases i with
      | zero => simp [rkI, e0]
      | succ i =>
        have := h4 (i + 1) hi
        rw [rk_at, rk_at] at this ⊢
        rw [List.getElem?_append_left (by omega), List.getElem?_append_left (by omega)]
        exact this
theorem Lt.last {a : List Nat} {c d : Nat} (h : evIx c < evIx d) : Lt (a ++ [c]) (a ++ [d]) := by
  refine ⟨a.length + 1, evIx c, evIx d, ?_, ?_, by omega, fun i hi => ?_⟩
  · rw [rk_at]; simp
  · rw [rk_at]; simp
  · cases i with
    | zero => simp [rkI]
    | succ i =>
      rw [rk_at, rk_at, List.getElem?_append_left (by omega), List.getElem?_append_left (by omega)]
def Le (a b : List Nat) : Prop := a = b ∨ Lt a b
theorem Le.leI {a b : List Nat} (h : Le a b) : Nk.leI (rkI a) (rkI b) = true := by
  rcases h with rfl | h
  · exact Nk.le_refl _
  · exact h.ord.2
/-! the breadth-first walk -/
def addE (R : Rule) (e : En) (F : List En) (c : Nat) : List En := if nx3 R e.1 c ∈ F.map (·.1) then F else F ++ [(nx3 R e.1 c, e.2 ++ [c])]
def bfs (mo sh le : Str) (R : Rule) : Nat → List En
  | 0 => [(n0, [])]
  | i + 1 => match (bfs mo sh le R i)[i]? with
    | some e => (posE mo sh le e).foldl (addE R e) (bfs mo sh le R i)
    | none => bfs mo sh le R i
/-- what holds of the list when the events dn of entry i have been done -/
structure BI (mo sh le : Str) (R : Rule) (F : List En) (i : Nat) (dn : List Nat) : Prop where
  pos : F[0]? = some (n0, [])
  ok : ∀ (j : Nat) e, F[j]? = some e → EvC e.2 ∧ Good mo sh le R e.2 e.2.length ∧ ndL R e.2 = e.1 ∧ e.2.length ≤ j
  nod : (F.map (·.1)).Nodup
  asc : ∀ (j k : Nat) a b, j < k → F[j]? = some a → F[k]? = some b → Lt a.2 b.2
  par : ∀ (k : Nat) e, 0 < k → F[k]? = some e → ∃ j a c, F[j]? = some a ∧ e.2 = a.2 ++ [c] ∧ (j < i ∨ (j = i ∧ c ∈ dn))
  cls : ∀ (j : Nat) a c, F[j]? = some a → c ∈ posE mo sh le a → (j < i ∨ (j = i ∧ c ∈ dn)) → ∃ (k : Nat) (b : En), F[k]? = some b ∧ b.1 = nx3 R a.1 c ∧ Le b.2 (a.2 ++ [c])
theorem BI.start (mo sh le : Str) (R : Rule) : BI mo sh le R [(n0, [])] 0 [] where
  pos := rfl
  ok := fun j e h => by
    cases j with
    | zero =>
      cases h
      exact ⟨fun c hc => (by cases hc), Good.zero, rfl, Nat.le_refl _⟩
    | succ j => simp at h
  nod := by simp
  asc := fun j k a b h h1 h2 => by
    have := (List.getElem?_eq_some_iff.mp h2).1
    simp at this
    omega
  par := fun k e h h1 => by
    have := (List.getElem?_eq_some_iff.mp h1).1
    simp at this
    omega
  cls := fun j a c h h1 h2 => by
    rcases h2 with h2 | h2
    · omega
    · cases h2.2
theorem BI.next {mo sh le : Str} {R : Rule} {F : List En} {i : Nat} {dn : List Nat} {e : En} (h : BI mo sh le R F i dn) (he : F[i]? = some e) (hd : ∀ c ∈ posE mo sh le e, c ∈ dn) : BI mo sh le R F (i + 1) [] where
  pos := h.pos
  ok := h.ok
  nod := h.nod
  asc := h.asc
  par := fun k x hk hx => by
    obtain ⟨j, a, c, h1, h2, h3⟩ := h.par k x hk hx
    exact ⟨j, a, c, h1, h2, .inl (by rcases h3 with h3 | h3 <;> omega)⟩
  cls := fun j a c h1 h2 h3 => by
    rcases h3 with h3 | h3
    · by_cases hj : j = i
      · subst hj
        rw [he] at h1
        cases h1
        exact h.cls j e c he h2 (.inr ⟨rfl, hd c h2⟩)
      · exact h.cls j a c h1 h2 (.inl (by omega))
    · cases h3.2
theorem mem_at {F : List En} {n : N3} (h : n ∈ F.map (·.1)) : ∃ (k : Nat) (b : En), F[k]? = some b ∧ b.1 = n := by
  obtain ⟨b, hb, e⟩ := List.mem_map.mp h
  obtain ⟨k, hk⟩ := List.getElem?_of_mem hb
  exact ⟨k, b, hk, e⟩
theorem BI.step {mo sh le gr : Str} {R : Rule} (hok : RowOk mo sh le gr R) {F : List En} {i : Nat} {dn : List Nat} {e : En} {c : Nat} (h : BI mo sh le R F i dn) (he : F[i]? = some e) (hc : c ∈ posE mo sh le e) (hdn : ∀ d ∈ dn, evIx d < evIx c) : BI mo sh le R (addE R e F c) i (dn ++ [c]) := by
  obtain ⟨hcv, hcan⟩ := pos_can hc
  obtain ⟨ev, gd, nd, ln⟩ := h.ok i e he
  have hi := (List.getElem?_eq_some_iff.mp he).1
  have low : ∀ (k : Nat) b, F[k]? = some b → Lt b.2 (e.2 ++ [c]) := fun k b hb => by
    by_cases hk : k = 0
    · subst hk
      rw [h.pos] at hb
      cases hb
      exact ⟨0, 0, (e.2 ++ [c]).length, rfl, rfl, by rw [List.length_append, List.length_singleton]; omega, fun i hi => by omega⟩
    · obtain ⟨j, a, d, h1, h2, h3⟩ := h.par k b (by omega) hb
      rw [h2]
      rcases h3 with h3 | ⟨h3, h4⟩
      · exact (h.asc j i a e h3 h1 he).both d c
      · subst h3
        rw [he] at h1
        cases h1
        exact Lt.last (hdn d h4)
  unfold addE
  by_cases hm : nx3 R e.1 c ∈ F.map (·.1)
  · rw [if_pos hm]
    refine ⟨h.pos, h.ok, h.nod, h.asc, fun k x hk hx => ?_, fun j a d h1 h2 h3 => ?_⟩
    · obtain ⟨j, a, d, h1, h2, h3⟩ := h.par k x hk hx
      exact ⟨j, a, d, h1, h2, h3.imp id fun z => ⟨z.1, List.mem_append_left _ z.2⟩⟩
    · by_cases q : j < i ∨ (j = i ∧ d ∈ dn)
      · exact h.cls j a d h1 h2 q
      · have hj : j = i ∧ d = c := by
          rcases h3 with h3 | ⟨h3, h4⟩
          · exact (q (.inl h3)).elim
          · rcases List.mem_append.mp h4 with h4 | h4
            · exact (q (.inr ⟨h3, h4⟩)).elim
            · exact ⟨h3, List.mem_singleton.mp h4⟩
        obtain ⟨rfl, rfl⟩ := hj
        rw [he] at h1
        cases h1
        obtain ⟨k, b, hb, eb⟩ := mem_at hm
        exact ⟨k, b, hb, eb, .inr (low k b hb)⟩
  · rw [if_neg hm]
    have old : ∀ {k : Nat} {x : En}, F[k]? = some x → (F ++ [(nx3 R e.1 c, e.2 ++ [c])])[k]? = some x := fun {k x} hx => by
      rw [List.getElem?_append_left (List.getElem?_eq_some_iff.mp hx).1]; exact hx
    have new : ∀ {k : Nat} {x : En}, (F ++ [(nx3 R e.1 c, e.2 ++ [c])])[k]? = some x → F[k]? = some x ∨ (k = F.length ∧ x = (nx3 R e.1 c, e.2 ++ [c])) := fun {k x} hx => by
      by_cases hk : k < F.length
      · rw [List.getElem?_append_left hk] at hx; exact .inl hx
      · have hk2 := (List.getElem?_eq_some_iff.mp hx).1
        rw [List.length_append, List.length_singleton] at hk2
        have hk3 : k = F.length := by omega
        subst hk3
        rw [List.getElem?_append_right (Nat.le_refl _), Nat.sub_self] at hx
        exact .inr ⟨rfl, (Option.some.inj hx).symm⟩
    refine ⟨old h.pos, fun j x hx => ?_, ?_, fun j k a b hjk h1 h2 => ?_, fun k x hk hx => ?_, fun j a d h1 h2 h3 => ?_⟩
    · rcases new hx with hx | ⟨rfl, rfl⟩
      · exact h.ok j x hx
      · refine ⟨ev.app (fun d hd => by cases List.mem_singleton.mp hd; exact hcv), gd.snoc ?_, by rw [ndL_snoc, nd], by rw [List.length_append, List.length_singleton]; omega⟩
        rw [nd, ← S_nil]
        exact hcan
    · rw [List.map_append, List.nodup_append]
      refine ⟨h.nod, by simp, fun x hx y hy => ?_⟩
      have : y = nx3 R e.1 c := by simpa using hy
      subst this
      exact fun z => hm (by rw [← z]; exact hx)
    · rcases new h2 with h2 | ⟨rfl, rfl⟩
      · rcases new h1 with h1 | ⟨h1, _⟩
        · exact h.asc j k a b hjk h1 h2
        · have := (List.getElem?_eq_some_iff.mp h2).1; omega
      · rcases new h1 with h1 | ⟨h1, _⟩
        · exact low j a h1
        · omega
    · rcases new hx with hx | ⟨rfl, rfl⟩
      · obtain ⟨j, a, d, h1, h2, h3⟩ := h.par k x hk hx
        exact ⟨j, a, d, old h1, h2, h3.imp id fun z => ⟨z.1, List.mem_append_left _ z.2⟩⟩
      · exact ⟨i, e, c, old he, rfl, .inr ⟨rfl, List.mem_append_right _ List.mem_cons_self⟩⟩
    · have hj : j < F.length := by rcases h3 with h3 | h3 <;> omega
      rw [List.getElem?_append_left hj] at h1
      by_cases q : j < i ∨ (j = i ∧ d ∈ dn)
      · obtain ⟨k, b, h4, h5, h6⟩ := h.cls j a d h1 h2 q
        exact ⟨k, b, old h4, h5, h6⟩
      · have hjc : j = i ∧ d = c := by
          rcases h3 with h3 | ⟨h3, h4⟩
          · exact (q (.inl h3)).elim
          · rcases List.mem_append.mp h4 with h4 | h4
            · exact (q (.inr ⟨h3, h4⟩)).elim
            · exact ⟨h3, List.mem_singleton.mp h4⟩
        obtain ⟨rfl, rfl⟩ := hjc
        rw [he] at h1
        cases h1
        exact ⟨F.length, _, by rw [List.getElem?_append_right (Nat.le_refl _), Nat.sub_self]; rfl, rfl, .inl rfl⟩
/-- the entries done so far at entry i -/
def bfsIn (mo sh le : Str) (R : Rule) (i t : Nat) (e : En) : List En := ((posE mo sh le e).take t).foldl (addE R e) (bfs mo sh le R i)
theorem addE_at {R : Rule} {e x : En} {F : List En} {c k : Nat} (h : F[k]? = some x) : (addE R e F c)[k]? = some x := by
  unfold addE
  split
  · exact h
  · rw [List.getElem?_append_left (List.getElem?_eq_some_iff.mp h).1]; exact h
theorem bfsIn_succ {mo sh le : Str} {R : Rule} {i t c : Nat} {e : En} (h : (posE mo sh le e)[t]? = some c) : bfsIn mo sh le R i (t + 1) e = addE R e (bfsIn mo sh le R i t e) c := by
  unfold bfsIn
  rw [List.take_add_one, h]
  simp [List.foldl_append]
theorem bfsIn_bi {mo sh le gr : Str} {R : Rule} (hok : RowOk mo sh le gr R) {i : Nat} {e : En} (h : BI mo sh le R (bfs mo sh le R i) i []) (he : (bfs mo sh le R i)[i]? = some e) : ∀ t, t ≤ (posE mo sh le e).length → BI mo sh le R (bfsIn mo sh le R i t e) i ((posE mo sh le e).take t) ∧ (bfsIn mo sh le R i t e)[i]? = some e
  | 0, _ => by rw [List.take_zero]; exact ⟨h, he⟩
  | t + 1, ht => by
    obtain ⟨b, hb⟩ := bfsIn_bi hok h he t (by omega)
    have hc : (posE mo sh le e)[t]? = some ((posE mo sh le e)[t]'(by omega)) := List.getElem?_eq_getElem (by omega)
    generalize (posE mo sh le e)[t]'(by omega) = c at hc
    rw [bfsIn_succ hc, List.take_add_one, hc]
    refine ⟨b.step hok hb (List.mem_of_getElem? hc) fun d hd => ?_, addE_at hb⟩
    obtain ⟨j, hj⟩ := List.getElem?_of_mem hd
    have hjt : j < t := by
      have := (List.getElem?_eq_some_iff.mp hj).1
      rw [List.length_take] at this
      omega
    rw [List.getElem?_take_of_lt hjt] at hj
    have pw := pos_asc mo sh le e.1.2.1 e.1.2.2 (decide (SX.S e.2 = ""))
    rw [List.pairwise_iff_getElem] at pw
    obtain ⟨l1, e1⟩ := List.getElem?_eq_some_iff.mp hj
    obtain ⟨l2, e2⟩ := List.getElem?_eq_some_iff.mp hc
    have := pw j t l1 l2 hjt
    unfold posE at e1 e2
    rw [e1, e2] at this
    exact this
theorem bfs_bi {mo sh le gr : Str} {R : Rule} (hok : RowOk mo sh le gr R) : ∀ i, (∀ j, j < i → j < (bfs mo sh le R j).length) → BI mo sh le R (bfs mo sh le R i) i []
  | 0, _ => BI.start mo sh le R
  | i + 1, h => by
    have b := bfs_bi hok i fun j hj => h j (by omega)
    have hi := h i (by omega)
    have he : (bfs mo sh le R i)[i]? = some ((bfs mo sh le R i)[i]'hi) := List.getElem?_eq_getElem hi
    generalize (bfs mo sh le R i)[i]'hi = e at he
    obtain ⟨b2, hb2⟩ := bfsIn_bi hok b he _ (Nat.le_refl _)
    have e3 : bfs mo sh le R (i + 1) = bfsIn mo sh le R i (posE mo sh le e).length e := by
      unfold bfsIn
      rw [List.take_length]
      show (match (bfs mo sh le R i)[i]? with | some e => (posE mo sh le e).foldl (addE R e) (bfs mo sh le R i) | none => bfs mo sh le R i) = _
      rw [he]
    rw [e3]
    exact b2.next hb2 fun c hc => by rw [List.take_length]; exact hc
/-! there are at most 24 nodes -/
def cdN (n : N3) : Nat := n.1 * 6 + (if n.2.1 then 3 else 0) + (if n.2.2 = "shut" then 0 else if n.2.2 = "open" then 1 else 2)
theorem cd_inj {a b : N3} (ha : okS a.2.2) (hb : okS b.2.2) (h : cdN a = cdN b) : a = b := by
  obtain ⟨m, x, s⟩ := a
  obtain ⟨n, y, t⟩ := b
  dsimp only at ha hb
  have h1 : ∀ s, okS s → (if s = "shut" then 0 else if s = "open" then 1 else 2 : Nat) < 3 := fun s _ => by
    split
    · omega
    · split <;> omega
  have i1 := h1 s ha
  have i2 := h1 t hb
  unfold cdN at h
  dsimp only at h
  have e1 : m = n := by
    cases x <;> cases y <;> simp only [if_true, if_false, Bool.false_eq_true] at h <;> omega
  subst e1
  have e2 : x = y := by
    cases x <;> cases y <;> simp only [if_true, if_false, Bool.false_eq_true] at h <;> first | rfl | omega
  subst e2
  have e3 : (if s = "shut" then 0 else if s = "open" then 1 else 2 : Nat) = (if t = "shut" then 0 else if t = "open" then 1 else 2) := by omega
  have e4 : s = t := by
    rcases ha with rfl | rfl | rfl <;> rcases hb with rfl | rfl | rfl <;> first | rfl | exact absurd e3 (by decide +kernel)
  rw [e4]
theorem few : ∀ (n : Nat) (l : List Nat), l.Nodup → (∀ x ∈ l, x < n) → l.length ≤ n
  | 0, l, _, h => by
    cases l with
    | nil => exact Nat.le_refl _
    | cons x l => exact absurd (h x List.mem_cons_self) (by omega)
  | n + 1, l, hd, h => by
    have h1 := few n (l.erase n) (hd.erase n) fun x hx => by
      have h2 := h x (List.mem_of_mem_erase hx)
      have h3 : x ≠ n := fun z => by subst z; exact (List.Nodup.not_mem_erase hd) hx
      omega
    by_cases hn : n ∈ l
    · rw [List.length_erase_of_mem hn] at h1; omega
    · rw [List.erase_of_not_mem hn] at h1; omega
theorem nodup_map {α β : Type} {f : α → β} : ∀ {l : List α}, l.Nodup → (∀ x ∈ l, ∀ y ∈ l, f x = f y → x = y) → (l.map f).Nodup
  | [], _, _ => List.nodup_nil
  | a :: l, h, g => by
    rw [List.nodup_cons] at h
    rw [List.map_cons, List.nodup_cons]
    refine ⟨fun hm => ?_, nodup_map h.2 fun x hx y hy => g x (List.mem_cons_of_mem _ hx) y (List.mem_cons_of_mem _ hy)⟩
    obtain ⟨b, hb, e⟩ := List.mem_map.mp hm
    have := g b (List.mem_cons_of_mem _ hb) a List.mem_cons_self e
    exact h.1 (by rw [← this]; exact hb)
theorem BI.node_ok {mo sh le gr : Str} {R : Rule} (hok : RowOk mo sh le gr R) {F : List En} {i : Nat} {dn : List Nat} (h : BI mo sh le R F i dn) {k : Nat} {e : En} (he : F[k]? = some e) : e.1.1 < R.length ∧ okS e.1.2.2 := by
  obtain ⟨ev, _, nd, _⟩ := h.ok k e he
  have := stAt_ok hok.1 ev e.2.length
  unfold OkN at this
  rw [← nd]
  exact this
theorem BI.len {mo sh le gr : Str} {R : Rule} (hok : RowOk mo sh le gr R) {F : List En} {i : Nat} {dn : List Nat} (h : BI mo sh le R F i dn) (h4 : R.length ≤ 4) : F.length ≤ 24 := by
  have ok : ∀ n ∈ F.map (·.1), n.1 < R.length ∧ okS n.2.2 := fun n hn => by
    obtain ⟨k, b, hb, rfl⟩ := mem_at hn
    exact h.node_ok hok hb
  have hl := few 24 ((F.map (·.1)).map cdN) (nodup_map h.nod fun x hx y hy e => cd_inj (ok x hx).2 (ok y hy).2 e) fun x hx => by
    obtain ⟨n, hn, rfl⟩ := List.mem_map.mp hx
    have := (ok n hn).1
    unfold cdN
    split <;> split <;> (try split) <;> omega
  rw [List.length_map, List.length_map] at hl
  exact hl

/-! split -/
/-! ### the chart -/
def keyN (n : N3) : List Key := [.inl n.1, .inl (PpSet.b2 n.2.1), .inr n.2.2]
def nodeV (n : N3) : List V := [.int n.1, .bl n.2.1, .str n.2.2]
theorem kOf_node (n : N3) : (nodeV n).map Nk.kOf = (keyN n).map some := rfl
theorem keyN_inj {a b : N3} (h : keyN a = keyN b) : a = b := by
  obtain ⟨m, x, s⟩ := a
  obtain ⟨n, y, t⟩ := b
  unfold keyN at h
  dsimp only at h
  injection h with h1 h2
  injection h2 with h2 h3
  injection h3 with h3 _
  have e1 : m = n := by have := Sum.inl.inj h1; omega
  have e2 : x = y := Nk.b2_inj (Sum.inl.inj h2)
  have e3 : s = t := Sum.inr.inj h3
  rw [e1, e2, e3]
def entD (e : En) : PyData := .tuple [.tuple [.int e.1.1, .bool e.1.2.1, .str e.1.2.2], .str (SX.S e.2)]
theorem noL_ent (e : En) : Dt.noL (entD e) = true := by simp [entD, Dt.noL]
theorem noL_ents (F : List En) : ∀ d ∈ F.map entD, Dt.noL d = true := fun d hd => by obtain ⟨e, _, rfl⟩ := List.mem_map.mp hd; exact noL_ent e
theorem ent_inv {K : PySem.W.Frag} {H : Hp} {v : V} {e : En} (h : Dp K H v (entD e)) : ∃ p q, v = .ref p ∧ SqT K H p [.ref q, .str (SX.S e.2)] ∧ SqT K H q (nodeV e.1) := by
  obtain ⟨p, xs, ev, hs, hA⟩ := Dt.inv_t h
  cases hA with
  | cons h1 hA => cases hA with
    | cons h2 hA =>
      cases hA
      cases h2
      obtain ⟨q, ys, e2, hs2, hA2⟩ := Dt.inv_t h1
      subst e2
      cases hA2 with
      | cons h3 hA2 => cases hA2 with
        | cons h4 hA2 => cases hA2 with
          | cons h5 hA2 =>
            cases hA2
            cases h3
            cases h4
            cases h5
            exact ⟨p, q, ev, hs, hs2⟩
theorem ent_dp {K : PySem.W.Frag} {H : Hp} {p q : Addr} {n : N3} {cs : List Nat} (h1 : H p = some (.tup [.ref q, .str (SX.S cs)])) (h2 : SqT K H q (nodeV n)) : Dp K H (.ref p) (entD (n, cs)) :=
  Dt.ofT h1 (.cons (.tup h2 (.cons (.int _) (.cons (.bl _) (.cons (.str _) .nil)))) (.cons (.str _) .nil))
/-- the table holds g of each entry -/
def KnG (g : En → V) (ps : List Nk.Row3) (F : List En) : Prop := ps.map (fun p => (p.1, p.2.2)) = F.map fun e => (keyN e.1, g e)
theorem KnG.len {g : En → V} {ps : List Nk.Row3} {F : List En} (h : KnG g ps F) : ps.length = F.length := by
  have := congrArg List.length h
  rw [List.length_map, List.length_map] at this
  exact this
theorem valN_map (ps : List Nk.Row3) (k : List Key) : Nk.valN ps k = ((ps.map (fun p => (p.1, p.2.2))).find? fun p => decide (p.1 = k)).map (·.2) := by
  unfold Nk.valN
  rw [List.find?_map, Option.map_map]
  rfl
theorem KnG.no {g : En → V} {ps : List Nk.Row3} {F : List En} (h : KnG g ps F) {n : N3} (hn : n ∉ F.map (·.1)) : Nk.valN ps (keyN n) = none := by
  rw [valN_map, h, Option.map_eq_none_iff, List.find?_eq_none]
  intro x hx
  obtain ⟨e, he, rfl⟩ := List.mem_map.mp hx
  intro z
  have z2 := keyN_inj (of_decide_eq_true z)
  exact hn (by rw [← z2]; exact List.mem_map_of_mem he)
theorem KnG.yes {g : En → V} {ps : List Nk.Row3} {F : List En} (h : KnG g ps F) (hd : (F.map (·.1)).Nodup) {b : En} (hb : b ∈ F) : Nk.valN ps (keyN b.1) = some (g b) := by
  rw [valN_map, h]
  clear h
  induction F with
  | nil => cases hb
  | cons e F ih =>
    rw [List.map_cons, List.nodup_cons] at hd
    rw [List.map_cons, List.find?_cons]
    rcases List.mem_cons.mp hb with rfl | hb
    · simp
    · have hne : ¬ keyN e.1 = keyN b.1 := fun z => hd.1 (by rw [keyN_inj z]; exact List.mem_map_of_mem hb)
      simp only [decide_eq_false hne]
      exact ih hd.2 hb
theorem KnG.snoc {g : En → V} {ps : List Nk.Row3} {F : List En} (h : KnG g ps F) (e : En) (b : Addr) : KnG g (ps ++ [(keyN e.1, b, g e)]) (F ++ [e]) := by
  unfold KnG at *
  rw [List.map_append, List.map_append, h]
  rfl
theorem bfs_succ {mo sh le : Str} {R : Rule} {i : Nat} {e : En} (he : (bfs mo sh le R i)[i]? = some e) : bfs mo sh le R (i + 1) = bfsIn mo sh le R i (posE mo sh le e).length e := by
  unfold bfsIn
  rw [List.take_length]
  show (match (bfs mo sh le R i)[i]? with | some e => (posE mo sh le e).foldl (addE R e) (bfs mo sh le R i) | none => bfs mo sh le R i) = _
  rw [he]
def spChart (C : Addr) (K : PySem.W.Frag) : Sp := fun vs H Q _ => ∃ (r : Addr) (mo sh le gr : Str) (R : Rule), vs = [.ref r] ∧ RowAt K C H r mo sh le gr R ∧ RowOk mo sh le gr R ∧ R.length ≤ 4 ∧
  ∀ l ws i0 H', Evl.Ex H H' → H l = none → H' l = some (.lst ws) → DpAll K H' ws ((bfs mo sh le R i0).map entD) → (∀ j, j < i0 → j < (bfs mo sh le R j).length) → (bfs mo sh le R i0).length ≤ i0 → Q (.ref l) H'
theorem ok_chart {ad : Ad} (T : Txt K mg ad) : FnOk P w K mg base CX0 4 ad.a_chart ad.d_chart ["row"] (spChart ad.c_Row K) := by
  refine T.F_chart.ok sc_chart (fun vs H Q E h => ?_) (fun cdv A outer s H vs Q E hr h => ?_)
  · obtain ⟨r, mo, sh, le, gr, R, rfl, hrow, hok, h4, k⟩ := h
    rfl
  · obtain ⟨r, mo, sh, le, gr, R, rfl, hrow, hok, h4, k⟩ := h
    refine ⟨_, (pss_cons (ps_set (i := 1) sc_chart.nd rfl (Or.inl rfl) (pe_lst (pa_cons (pe_tup (pa_cons (pe_glob (v := .ref ad.k_START) rfl T.mc_START rfl) (pa_cons pe_str pa_nil))) pa_nil)))
      (pss_cons (ps_set (i := 2) sc_chart.nd rfl (Or.inl rfl) (Nk.pe_ndisp (hu_of hr) (pe_glob (v := .ref ad.k_START) rfl T.mc_START rfl) pe_bl))
      (pss_cons (ps_set (i := 3) sc_chart.nd rfl (Or.inl rfl) pe_int)
      (pss_cons (ps_while PassesOwn.never (pt_cmpR op_lt (pv 3) (pe_callB (id := "len") Rd.c_len (by rfl) T.z_len (by decide +kernel) (pa_cons (pv 1) pa_nil)) (nomark _)) (pss_cons (ps_asg (pe_ix ix_list (pv 1) (pv 3) (fun _ _ => rfl)) (pg_tup rfl (pgs_cons (pg_name (i := 4) sc_chart.nd rfl (Or.inl rfl)) (pgs_cons (pg_name (i := 5) sc_chart.nd rfl (Or.inl rfl)) pgs_nil))))
      (pss_cons (ps_for PassesOwn.never rfl (pi_str (pe_call (ok_possible T) (hr.mono (by decide)) rfl T.m_possible T.F_possible.kp T.b_possible .nil pass0 (pa_cons (pv 0) (pa_cons (pv 4) (pa_cons (pe_cmpR op_eq (pv 5) pe_str (nomark _)) pa_nil))))) (pg_name (i := 6) sc_chart.nd rfl (Or.inl rfl)) (pss_cons (ps_set (i := 7) sc_chart.nd rfl (Or.inl rfl) (pe_ix ix_tup (pe_call (ok_step T) (hr.mono (by decide)) rfl T.m_step T.F_step.kp T.b_step .nil pass0 (pa_cons (pv 0) (pa_cons (pv 4) (pa_cons (pv 6) pa_nil)))) pe_int (fun _ _ => rfl)))
      (pss_one (ps_if (pt_cmp (Nk.pc_nnotin (hu_of hr) (pv 7) (pv 2))) (pss_cons (Nk.ps_nput (hu_of hr) (pv 2) (pv 7) pe_bl rfl)
      (pss_one (ps_expr (pe_bm PySem.F.plainAttrs_list PySem.F.slot_list_append PySem.F.type_list_append mt_append (pv 1) (pa_cons (pe_tup (pa_cons (pv 7) (pa_cons (pe_op Rd.op_addS (pv 5) (pv 6)) pa_nil))) pa_nil))))) pss_nil))))
      (pss_one (ps_aug (i := 3) sc_chart.nd rfl (Or.inl rfl) pe_int ip_add)))))
      (pss_one (ps_ret (pv 1))))))), ?_⟩
    try dsimp only [L2.cxOf, L2.Cx.nox, L2.Cx.wish]
    change (_ : TS) _ ([some (.ref r), none, none, none, none, none, none, none] : St) _
    have cl_Row := T.cl_Row
    have n_Row_grip := T.n_Row_grip
    have n_Row_lease := T.n_Row_lease
    have n_Row_mode := T.n_Row_mode
    have n_Row_rule := T.n_Row_rule
    have n_Row_sharing := T.n_Row_sharing
    walk_at "rd"
    refine Rd.xtup rfl fun q0 H1 n1 e1 h1 => ?_
    walk_at "rd"
    refine Rd.xlst rfl fun l H2 n2 e2 h2 => ?_
    walk_at "rd"
    refine Nk.ndisp fun kd hkd => ?_
    walk_at "rd"
    have e02 := e1.trans e2
    have nl : H l = none := Evl.fresh_back e1 n2
    have nkd : H kd = none := Evl.fresh_back e02 hkd
    have hlkd : l ≠ kd := fun z => by rw [z, hkd] at h2; cases h2
    refine ⟨upd_same, ad.k_START, nodeV n0, keyN n0, rfl, T.tv_START _, rfl, ?_⟩
    rw [upd_upd]
    have hd2 : Dp K H2 (.ref q0) (entD (n0, [])) := ent_dp (e2 _ _ h1) (T.tv_START H2)
    have e3 : Evl.Ex H2 (upd H2 kd (Nk.DN P w kd [(keyN n0, ad.k_START, .bl true)])) := Evl.Ex.new hkd
    have hl3 := e3 _ _ h2
    have hk3 : (upd H2 kd (Nk.DN P w kd [(keyN n0, ad.k_START, .bl true)])) kd = some (Nk.DN P w kd [(keyN n0, ad.k_START, .bl true)]) := upd_same
    generalize upd H2 kd (Nk.DN P w kd [(keyN n0, ad.k_START, .bl true)]) = H3 at e3 hl3 hk3 ⊢
    walk_at "rd"
    refine Rd.whl ⟨fun m σ H' => ∃ (i : Nat) (ws : List V) (ps : List Nk.Row3) (v4 v5 v6 v7 : Option V), σ = [some (.ref r), some (.ref l), some (.ref kd), some (.int i), v4, v5, v6, v7] ∧ Evl.Ex H H' ∧ (∀ j, j < i → j < (bfs mo sh le R j).length) ∧ H' l = some (.lst ws) ∧ DpAll K H' ws ((bfs mo sh le R i).map entD) ∧ H' kd = some (Nk.DN P w kd ps) ∧ Nk.KeysIn K H' ps ∧ KnG (fun _ => .bl true) ps (bfs mo sh le R i) ∧ m = 24 - i,
      ⟨24, 0, _, _, _, _, _, _, rfl, e02.trans e3, fun j hj => by omega, hl3, .cons (Dt.mn hd2 e3) .nil, hk3, (Nk.KeysIn.nil (K := K) (H := H3)).snoc (b := ad.k_START) (v := .bl true) (T.tv_START H3) rfl, rfl, rfl⟩, ?_⟩
    rintro m σ H4 ⟨i, ws, ps, v4, v5, v6, v7, rfl, e4, hbf, hl, hA, hkd4, hki, hkn, rfl⟩
    have hbi := bfs_bi hok i hbf
    have hlen : ws.length = (bfs mo sh le R i).length := by rw [Dt.lenA hA, List.length_map]
    have h24 := hbi.len hok h4
    walk_at "rd"
    refine Rd.ifd (fun c1 => ?_) (fun c1 => ?_)
    · refine ⟨fun σ' H' => ∃ m', m' < 24 - i ∧ ∃ (i : Nat) (ws : List V) (ps : List Nk.Row3) (v4 v5 v6 v7 : Option V), σ' = [some (.ref r), some (.ref l), some (.ref kd), some (.int i), v4, v5, v6, v7] ∧ Evl.Ex H H' ∧ (∀ j, j < i → j < (bfs mo sh le R j).length) ∧ H' l = some (.lst ws) ∧ DpAll K H' ws ((bfs mo sh le R i).map entD) ∧ H' kd = some (Nk.DN P w kd ps) ∧ Nk.KeysIn K H' ps ∧ KnG (fun _ => .bl true) ps (bfs mo sh le R i) ∧ m' = 24 - i, fun _ _ h => h, ?_⟩
      have hi : i < (bfs mo sh le R i).length := by omega
      have he : (bfs mo sh le R i)[i]? = some ((bfs mo sh le R i)[i]'hi) := List.getElem?_eq_getElem hi
      generalize (bfs mo sh le R i)[i]'hi = e at he
      obtain ⟨hev, hgd, hnd, hcl⟩ := hbi.ok i e he
      obtain ⟨hm0, hst⟩ := hbi.node_ok hok he
      obtain ⟨v, hv, hvd⟩ := mapA2 hA he
      obtain ⟨p, q, rfl, hp, hq⟩ := ent_inv hvd
      have hq' : SqT K H4 q [.int e.1.1, .bl e.1.2.1, .str e.1.2.2] := hq
      walk_at "rd"
      refine Rd.ixL (SqL.of hl) (atI_nat hv) ?_
      walk_at "rd"
      refine ⟨r, q, mo, sh, le, gr, R, e.1.1, e.1.2.1, e.1.2.2, decide (SX.S e.2 = ""), rfl, hrow.mono e4, hq', fun H5 e5 => ?_⟩
      rw [pos_eq hok hst]
      have hl5 := e5 _ _ hl
      walk_at "rd"
      refine Rd.xfs (fun t σ H' => ∃ (ws : List V) (ps : List Nk.Row3) (v6 v7 : Option V), σ = [some (.ref r), some (.ref l), some (.ref kd), some (.int i), some (.ref q), some (.str (SX.S e.2)), v6, v7] ∧ Evl.Ex H H' ∧ SqT K H' q [.int e.1.1, .bl e.1.2.1, .str e.1.2.2] ∧ H' l = some (.lst ws) ∧ DpAll K H' ws ((bfsIn mo sh le R i t e).map entD) ∧ H' kd = some (Nk.DN P w kd ps) ∧ Nk.KeysIn K H' ps ∧ KnG (fun _ => .bl true) ps (bfsIn mo sh le R i t e))
        ⟨ws, ps, _, _, rfl, e4.trans e5, Evl.ex_t e5 hq', hl5, Dt.mnA hA e5, e5 _ _ hkd4, hki.mono e5, hkn⟩ ?_ ?_
      · rintro t c σ H6 hc ⟨ws6, ps6, v6, v7, rfl, e6, hq6, hl6, hA6, hkd6, hki6, hkn6⟩
        have hct : (posE mo sh le e)[t]? = some c := by
          have : (posE mo sh le e).toArray[t]? = some c := hc
          simpa using this
        have htl := (List.getElem?_eq_some_iff.mp hct).1
        obtain ⟨hcv, hcan⟩ := pos_can (List.mem_of_getElem? hct)
        obtain ⟨hb6, _⟩ := bfsIn_bi hok hbi he t (by omega)
        have h24b := hb6.len hok h4
        obtain ⟨mk, hm1, hm2, hp0, hpl, hpn⟩ := prOf_at hok.1 hm0 hcv
        walk_at "rd"
        refine ⟨r, q, mo, sh, le, gr, R, e.1.1, evIx c, e.1.2.1, e.1.2.2, ch c, mk, prOf R e.1.1 c, rfl, hrow.mono e6, hq6, ev_ix hcv, hm1, hm2, fun q1 H7 e7 ⟨q2, g4, g5⟩ => ?_⟩
        have hqn : SqT K H7 q2 (nodeV (nx3 R e.1 c)) := by
          have e0 : (((prOf R e.1.1 c).1.toNat : Nat) : Int) = (prOf R e.1.1 c).1 := Int.toNat_of_nonneg hp0
          unfold nodeV nx3
          dsimp only
          rw [e0]
          exact SqT.of g4
        have hl7 := e7 _ _ hl6
        have hkd7 := e7 _ _ hkd6
        have hki7 := hki6.mono e7
        have hA7 := Dt.mnA hA6 e7
        have hwl : ws6.length = (bfsIn mo sh le R i t e).length := by rw [Dt.lenA hA6, List.length_map]
        walk_at "rd"
        by_cases hmem : nx3 R e.1 c ∈ (bfsIn mo sh le R i t e).map (·.1)
        · obtain ⟨k1, b1, hb1, eb1⟩ := mem_at hmem
          have hval := hkn6.yes hb6.nod (List.mem_of_getElem? hb1)
          rw [eb1] at hval
          refine Nk.xnnotin hkd7 hki7 hqn (kOf_node _) hval ?_
          walk_at "rd"
          refine ⟨ws6, ps6, _, _, rfl, e6.trans e7, Evl.ex_t e7 hq6, hl7, ?_, hkd7, hki7, ?_⟩
          · rw [bfsIn_succ hct]; unfold addE; rw [if_pos hmem]; exact hA7
          · rw [bfsIn_succ hct]; unfold addE; rw [if_pos hmem]; exact hkn6
        · have hval := hkn6.no hmem
          refine Nk.xnnotin hkd7 hki7 hqn (kOf_node _) hval ?_
          walk_at "rd"
          refine Rd.ifNbT rfl ?_
          walk_at "rd"
          refine Nk.xnput hkd7 hki7 hqn (kOf_node _) hval (by rw [hkn6.len]; omega) ?_
          have hl8 : (upd H7 kd (Nk.DN P w kd (ps6 ++ [(keyN (nx3 R e.1 c), q2, .bl true)]))) l = some (.lst ws6) := (upd_ne hlkd).trans hl7
          have hkd8 : (upd H7 kd (Nk.DN P w kd (ps6 ++ [(keyN (nx3 R e.1 c), q2, .bl true)]))) kd = _ := upd_same
          have hki8 := ((hki7.snoc (v := .bl true) hqn (kOf_node _)).dn (u := Nk.DN P w kd (ps6 ++ [(keyN (nx3 R e.1 c), q2, .bl true)])) hkd7)
          have hA8 := Nk.dpA_dn (u := Nk.DN P w kd (ps6 ++ [(keyN (nx3 R e.1 c), q2, .bl true)])) hkd7 _ _ hA7
          have hqn8 := Nk.sqt_dn (u := Nk.DN P w kd (ps6 ++ [(keyN (nx3 R e.1 c), q2, .bl true)])) hkd7 hqn
          have hq8 := Nk.sqt_dn (u := Nk.DN P w kd (ps6 ++ [(keyN (nx3 R e.1 c), q2, .bl true)])) hkd7 (Evl.ex_t e7 hq6)
          have e08 : Evl.Ex H (upd H7 kd (Nk.DN P w kd (ps6 ++ [(keyN (nx3 R e.1 c), q2, .bl true)]))) := Evl.Ex.mut (e6.trans e7) nkd
          generalize upd H7 kd (Nk.DN P w kd (ps6 ++ [(keyN (nx3 R e.1 c), q2, .bl true)])) = H8 at hl8 hkd8 hki8 hA8 hqn8 hq8 e08 ⊢
          walk_at "rd"
          refine Rd.catS (by rw [SX.S_len, S_one, SX.S_len]; simp; omega) ?_
          rw [S_one, S_app]
          walk_at "rd"
          refine Rd.xtup rfl fun t5 H9 n9 e9 ht5 => ?_
          walk_at "rd"
          have hl9 := e9 _ _ hl8
          refine Rd.append hl9 (by omega) ?_
          walk_at "rd"
          have hlk9 : kd ≠ l := Ne.symm hlkd
          refine ⟨_, ps6 ++ [(keyN (nx3 R e.1 c), q2, .bl true)], _, _, rfl, Evl.Ex.mut (e08.trans e9) nl, Dt.sqt_upd hl9 (Evl.ex_t e9 hq8), upd_same, ?_, (upd_ne hlk9).trans (e9 _ _ hkd8), (hki8.mono e9).lst hl9, ?_⟩
          · rw [bfsIn_succ hct]; unfold addE; rw [if_neg hmem, List.map_append]
            refine Dt.updLA hl9 _ _ ?_ (Dt.snocA (Dt.mnA hA8 e9) (ent_dp ht5 (Evl.ex_t e9 hqn8)))
            rw [← List.map_append (l₂ := [(nx3 R e.1 c, e.2 ++ [c])])]
            exact noL_ents _
          · rw [bfsIn_succ hct]; unfold addE; rw [if_neg hmem]
            exact hkn6.snoc (nx3 R e.1 c, e.2 ++ [c]) q2
      · rintro σ H6 ⟨ws6, ps6, v6, v7, rfl, e6, hq6, hl6, hA6, hkd6, hki6, hkn6⟩
        have hsz : (SX.S (posC mo sh le e.1.2.1 e.1.2.2 (decide (SX.S e.2 = "")))).cps.size = (posE mo sh le e).length := by
          show (posE mo sh le e).toArray.size = _
          simp
        rw [hsz, ← bfs_succ he] at hA6 hkn6
        walk_at "rd"
        refine ⟨24 - (i + 1), by omega, i + 1, ws6, ps6, _, _, _, _, rfl, e6, fun j hj => ?_, hl6, hA6, hkd6, hki6, hkn6, rfl⟩
        by_cases hji : j = i
        · rw [hji]; exact hi
        · exact hbf j (by omega)
    · walk_at "rd"
      exact k l ws i H4 e4 nl hl hA hbf (by omega)
/-! split -/
/-! ### the law's checks of a chart -/
def spRank (K : PySem.W.Frag) : Sp := fun vs H Q _ => ∃ cs : List Nat, vs = [.str (SX.S cs)] ∧ EvC cs ∧ cs.length < 64 ∧ ∀ l H', H l = none → Evl.Ex H H' → H' l = some (.lst ((rkI cs).map V.int)) → Q (.ref l) H'
theorem ok_law_rank {ad : Ad} (T : Txt K mg ad) : FnOk P w K mg base CX0 1 ad.a_law_rank ad.d_law_rank ["life"] (spRank K) := by
  refine T.F_law_rank.ok sc_law_rank (fun vs H Q E h => ?_) (fun cdv A outer s H vs Q E hr h => ?_)
  · obtain ⟨cs, rfl, hev, hn, k⟩ := h
    rfl
  · obtain ⟨cs, rfl, hev, hn, k⟩ := h
    refine ⟨_, (pss_one (ps_ret (pe_op op_cat (pe_lst (pa_cons (pe_callB (id := "len") Rd.c_lenS (by rfl) T.z_len (by decide +kernel) (pa_cons (pv 0) pa_nil)) pa_nil)) (pe_lc (own := [("event", 1)]) (g := gName 1) (tt := tYes) rfl sc_law_rank.nd (pi_str (pv 0)) (blkOk_by (N := ["life", "event"]) (sc := defScope s_law_rank) (by decide +kernel)) (fun _ _ _ _ _ => (pg_name (i := 1) sc_law_rank.nd rfl (Or.inl rfl))) (fun _ _ _ _ _ => pts_nil) (fun _ _ _ _ _ => (pe_m1 PySem.F.slot_str_find PySem.F.type_str_find Rd.mt_fd pe_str (pv 1))))))), ?_⟩
    try dsimp only [L2.cxOf, L2.Cx.nox, L2.Cx.wish]
    change (_ : TS) _ ([some (.str (SX.S cs)), none] : St) _
    have cl_Row := T.cl_Row
    have n_Row_grip := T.n_Row_grip
    have n_Row_lease := T.n_Row_lease
    have n_Row_mode := T.n_Row_mode
    have n_Row_rule := T.n_Row_rule
    have n_Row_sharing := T.n_Row_sharing
    have hl : (SX.S cs).length = cs.length := SX.S_len cs
    walk_at "rd"
    refine Rd.lenS (by omega) ?_
    walk_at "rd"
    refine Rd.xlst rfl fun la H1 n1 e1 h1 => ?_
    walk_at "rd"
    have hsz : (SX.S cs).cps.size = cs.length := by show cs.toArray.size = _; simp
    refine Rd.xlcS (fun _ => true) (fun i => .int (evIx (cs.getD i 0))) (by omega) (fun _ => rfl) (fun _ _ _ _ _ => Rd.evYes) (fun i c Hz ez hc _ H4 e4 Q4 q4 => ?_) fun lb H2 n2 e2 h2 => ?_
    · have hc2 : cs[i]? = some c := by
        have : cs.toArray[i]? = some c := hc
        simpa using this
      have hcv := hev c (List.mem_of_getElem? hc2)
      walk_at "rd"
      rw [show (⟨#[c]⟩ : Str) = ch c from rfl, find_ev (ev_ix hcv)]
      have e0 : cs.getD i 0 = c := by rw [List.getD_eq_getElem?_getD, hc2]; rfl
      rw [e0] at q4
      exact q4 _ (Evl.Ex.refl _)
    · rw [Rd.given_all, hsz] at h2
      have hm : (List.range cs.length).map (fun i => V.int (evIx (cs.getD i 0))) = (cs.map fun c => (evIx c : Int)).map V.int := by
        refine List.ext_getElem? fun i => ?_
        rw [List.map_map, List.getElem?_map, List.getElem?_map]
        by_cases hi : i < cs.length
        · rw [List.getElem?_range hi, List.getElem?_eq_getElem hi, Option.map_some, Option.map_some, List.getD_eq_getElem?_getD, List.getElem?_eq_getElem hi]; rfl
        · rw [List.getElem?_eq_none (by rw [List.length_range]; omega), List.getElem?_eq_none (by omega)]; rfl
      rw [hm] at h2
      refine Rd.cat (e2 _ _ h1) h2 (by rw [List.length_map, List.length_map]; simp; omega) fun p H3 n3 e3 h3 => ?_
      rw [hl] at h3
      exact k p H3 (Evl.fresh_back (e1.trans e2) n3) ((e1.trans e2).trans e3) h3
/-- what a chart is -/
structure Chd (mo sh le gr : Str) (R : Rule) (F : List En) : Prop where
  bi : ∃ i, BI mo sh le R F i [] ∧ F.length ≤ i
  len : F.length ≤ 24
theorem Chd.ok {mo sh le gr : Str} {R : Rule} {F : List En} (h : Chd mo sh le gr R F) {j : Nat} {e : En} (he : F[j]? = some e) : EvC e.2 ∧ Good mo sh le R e.2 e.2.length ∧ ndL R e.2 = e.1 ∧ e.2.length < 30 := by
  obtain ⟨i, b, hl⟩ := h.bi
  obtain ⟨h1, h2, h3, h4⟩ := b.ok j e he
  have := (List.getElem?_eq_some_iff.mp he).1
  have := h.len
  exact ⟨h1, h2, h3, by omega⟩
theorem Chd.asc {mo sh le gr : Str} {R : Rule} {F : List En} (h : Chd mo sh le gr R F) {j k : Nat} {a b : En} (hjk : j < k) (ha : F[j]? = some a) (hb : F[k]? = some b) : Lt a.2 b.2 := by
  obtain ⟨i, x, hl⟩ := h.bi
  exact x.asc j k a b hjk ha hb
theorem Chd.nod {mo sh le gr : Str} {R : Rule} {F : List En} (h : Chd mo sh le gr R F) : (F.map (·.1)).Nodup := by
  obtain ⟨i, x, hl⟩ := h.bi
  exact x.nod
theorem Chd.zero {mo sh le gr : Str} {R : Rule} {F : List En} (h : Chd mo sh le gr R F) : F[0]? = some (n0, []) := by
  obtain ⟨i, x, hl⟩ := h.bi
  exact x.pos
theorem Chd.cls {mo sh le gr : Str} {R : Rule} {F : List En} (h : Chd mo sh le gr R F) {j : Nat} {a : En} {c : Nat} (ha : F[j]? = some a) (hc : c ∈ posE mo sh le a) : ∃ (k : Nat) (b : En), F[k]? = some b ∧ b.1 = nx3 R a.1 c ∧ Le b.2 (a.2 ++ [c]) := by
  obtain ⟨i, x, hl⟩ := h.bi
  exact x.cls j a c ha hc (.inl (by have := (List.getElem?_eq_some_iff.mp ha).1; omega))
theorem Chd.node {mo sh le gr : Str} {R : Rule} {F : List En} (hok : RowOk mo sh le gr R) (h : Chd mo sh le gr R F) {j : Nat} {e : En} (he : F[j]? = some e) : e.1.1 < R.length ∧ okS e.1.2.2 := by
  obtain ⟨i, x, hl⟩ := h.bi
  exact x.node_ok hok he
theorem okS_strOk {s : Str} (h : okS s) : PyData.strOk s = true := by rcases h with h | h | h <;> rw [h] <;> decide +kernel
theorem shp_ent0 : SeqAt.shaped (entD (n0, [])) = true := by decide +kernel
def spPairs (K : PySem.W.Frag) : Sp := fun vs H Q _ => ∃ (sp l : Addr) (mo sh le gr : Str) (R : Rule) (F : List En) (ws : List V), vs = [.ref sp, .ref l] ∧ SpecAt K H sp mo sh le gr R ∧ RowOk mo sh le gr R ∧ Chd mo sh le gr R F ∧ H l = some (.lst ws) ∧ DpAll K H ws (F.map entD) ∧ ∀ H', Evl.Ex H H' → Q (.bl true) H'
theorem ok_law_pairs {ad : Ad} (T : Txt K mg ad) : FnOk P w K mg base CX0 4 ad.a_law_pairs ad.d_law_pairs ["spec", "answer"] (spPairs K) := by
  refine T.F_law_pairs.ok sc_law_pairs (fun vs H Q E h => ?_) (fun cdv A outer s H vs Q E hr h => ?_)
  · obtain ⟨sp, l, mo, sh, le, gr, R, F, ws, rfl, hsp, hok, hF, hl, hA, k⟩ := h
    rfl
  · obtain ⟨sp, l, mo, sh, le, gr, R, F, ws, rfl, hsp, hok, hF, hl, hA, k⟩ := h
    refine ⟨_, (pss_cons (ps_if (PW.pt (pw_or (pt_not (pt_val (pe_callB (id := "isinstance") call_isi (by rfl) T.z_isinstance (by decide +kernel) (pa_cons (pv 1) (pa_cons (pe_bltn rfl T.z_list (by decide +kernel) (v := .ty "list") rfl) pa_nil))))) (pw_or1 (pt_cmpR op_eq (pe_callB (id := "len") Rd.c_len (by rfl) T.z_len (by decide +kernel) (pa_cons (pv 1) pa_nil)) pe_int (nomark _))))) (pss_one (ps_ret pe_bl)) pss_nil)
      (pss_cons (ps_for PassesOwn.never rfl (pi_range1 rfl T.z_range (pa_cons (pe_callB (id := "len") Rd.c_len (by rfl) T.z_len (by decide +kernel) (pa_cons (pv 1) pa_nil)) pa_nil)) (pg_name (i := 2) sc_law_pairs.nd rfl (Or.inl rfl)) (pss_cons (ps_set (i := 3) sc_law_pairs.nd rfl (Or.inl rfl) (pe_ix ix_list (pv 1) (pv 2) (fun _ _ => rfl)))
      (pss_cons (ps_if (PW.pt (pw_or (pt_not (pt_val (pe_callB (id := "isinstance") call_isi (by rfl) T.z_isinstance (by decide +kernel) (pa_cons (pv 3) (pa_cons (pe_bltn rfl T.z_tuple (by decide +kernel) (v := .ty "tuple") rfl) pa_nil))))) (pw_or (pt_cmpR op_ne (pe_callB (id := "len") Rd.c_len (by rfl) T.z_len (by decide +kernel) (pa_cons (pv 3) pa_nil)) pe_int (nomark _)) (pw_or1 (pt_not (pt_val (pe_callB (id := "isinstance") call_isi (by rfl) T.z_isinstance (by decide +kernel) (pa_cons (pe_ix ix_tup (pv 3) pe_int (fun _ _ => rfl)) (pa_cons (pe_bltn rfl T.z_str (by decide +kernel) (v := .ty "str") rfl) pa_nil))))))))) (pss_one (ps_ret pe_bl)) pss_nil)
      (pss_cons (ps_set (i := 4) sc_law_pairs.nd rfl (Or.inl rfl) (pe_call (ok_law_path T) (hr.mono (by decide)) rfl T.m_law_path T.F_law_path.kp T.b_law_path .nil pass0 (pa_cons (pv 0) (pa_cons (pe_ix ix_tup (pv 3) pe_int (fun _ _ => rfl)) pa_nil))))
      (pss_cons (ps_if (PW.pt (pw_or (pt_cmpR op_ge (pe_ix ix_tup (pv 4) pe_int (fun _ _ => rfl)) pe_int (nomark _)) (pw_or1 (pt_not (pt_val (pe_call (ok_law_same_node T) (hr.mono (by decide)) rfl T.m_law_same_node T.F_law_same_node.kp T.b_law_same_node .nil pass0 (pa_cons (pe_ix ix_tup (pv 3) pe_int (fun _ _ => rfl)) (pa_cons (pe_ix ix_tup (pe_ix ix_list (pe_ix ix_tup (pv 4) pe_int (fun _ _ => rfl)) (pe_callB (id := "len") Rd.c_lenS (by rfl) T.z_len (by decide +kernel) (pa_cons (pe_ix ix_tup (pv 3) pe_int (fun _ _ => rfl)) pa_nil)) (fun _ _ => rfl)) pe_int (fun _ _ => rfl)) pa_nil)))))))) (pss_one (ps_ret pe_bl)) pss_nil)
      (pss_one (ps_if (PW.pt (pw_and (pt_cmpR op_gt (pv 2) pe_int (nomark _)) (pw_and1 (pt_not (pt_cmpR (Nk.op_ltL (Nat.lt_of_le_of_lt (Nat.le_succ _) (hu_of hr))) (pe_call (ok_law_rank T) (hr.mono (by decide)) rfl T.m_law_rank T.F_law_rank.kp T.b_law_rank .nil pass0 (pa_cons (pe_ix ix_tup (pe_ix ix_list (pv 1) (pe_op op_sub (pv 2) pe_int) (fun _ _ => rfl)) pe_int (fun _ _ => rfl)) pa_nil)) (pe_call (ok_law_rank T) (hr.mono (by decide)) rfl T.m_law_rank T.F_law_rank.kp T.b_law_rank .nil pass0 (pa_cons (pe_ix ix_tup (pv 3) pe_int (fun _ _ => rfl)) pa_nil)) (nomark _)))))) (pss_one (ps_ret pe_bl)) pss_nil)))))))
      (pss_one (ps_ret (pe_cmpR (op_eqD hr.units) (pe_ix ix_list (pv 1) pe_int (fun _ _ => rfl)) (pe_tup (pa_cons (pe_tup (pa_cons pe_int (pa_cons pe_bl (pa_cons pe_str pa_nil)))) (pa_cons pe_str pa_nil))) (nomark _)))))), ?_⟩
    try dsimp only [L2.cxOf, L2.Cx.nox, L2.Cx.wish]
    change (_ : TS) _ ([some (.ref sp), some (.ref l), none, none, none] : St) _
    have hlen : ws.length = F.length := by rw [Dt.lenA hA, List.length_map]
    have h24 := hF.len
    have hpos : 0 < F.length := (List.getElem?_eq_some_iff.mp hF.zero).1
    walk_at "rd"
    refine Rd.xfr1 ⟨by omega, by omega⟩ (fun i σ H' => ∃ v2 v3 v4, σ = [some (.ref sp), some (.ref l), v2, v3, v4] ∧ Evl.Ex H H') ⟨_, _, _, rfl, Evl.Ex.refl _⟩ ?_ ?_
    · rintro i σ H1 hi ⟨v2, v3, v4, rfl, e1⟩
      have hi2 : i < F.length := by omega
      have he : F[i]? = some (F[i]'hi2) := List.getElem?_eq_getElem hi2
      generalize F[i]'hi2 = e at he
      obtain ⟨hev, hgd, hnd, hcl⟩ := hF.ok he
      obtain ⟨hm0, hst⟩ := hF.node hok he
      have hA1 := Dt.mnA hA e1
      have hl1 := e1 _ _ hl
      obtain ⟨v, hv, hvd⟩ := mapA2 hA1 he
      obtain ⟨p, q, rfl, hp, hq⟩ := ent_inv hvd
      have hsl : (SX.S e.2).length = e.2.length := SX.S_len e.2
      walk_at "rd"
      refine Rd.ixL (SqL.of hl1) (atI_nat hv) ?_
      walk_at "rd"
      refine x_path (hsp.mono e1) hok hev (by omega) fun du H2 e2 hdue => ?_
      obtain ⟨l2, w2, hdue⟩ := hdue
      obtain ⟨_, hdu, hl2, hA2⟩ | ⟨i', c, hc, _, hcan, _⟩ := hdue
      · have hp2 := Evl.ex_t e2 hp
        have hq2 : SqT K H2 q [.int e.1.1, .bl e.1.2.1, .str e.1.2.2] := Evl.ex_t e2 hq
        obtain ⟨u, hu, hud⟩ := path_at hA2 (i := e.2.length) (by omega)
        obtain ⟨pu, qu, rfl, hpu, hqu⟩ := nd_inv hud
        have hqu' : SqT K H2 qu [.int e.1.1, .bl e.1.2.1, .str e.1.2.2] := by rw [← hnd]; exact hqu
        walk_at "rd"
        refine Rd.lenS (by omega) ?_
        rw [hsl]
        refine Rd.ixL (SqL.of hl2) (atI_nat hu) ?_
        walk_at "rd"
        refine ⟨q, qu, _, _, _, rfl, okS_strOk hst, hq2, hqu', ?_⟩
        walk_at "rd"
        by_cases hi0 : i = 0
        · subst hi0
          walk_at "rd"
          exact ⟨_, _, _, rfl, e1.trans e2⟩
        · have hj : F[i - 1]? = some (F[i - 1]'(by omega)) := List.getElem?_eq_getElem (by omega)
          generalize F[i - 1]'(by omega) = a at hj
          obtain ⟨hev', _, _, hcl'⟩ := hF.ok hj
          have hord := (hF.asc (by omega) hj he).ord
          obtain ⟨v', hv', hvd'⟩ := mapA2 hA1 hj
          obtain ⟨p', q', rfl, hp', hq'⟩ := ent_inv (Dt.mn hvd' e2)
          have hl12 := e2 _ _ hl1
          walk_at "rd"
          refine Rd.ixL (SqL.of hl12) (i := (i : Int) - 1) (by rw [show (i : Int) - 1 = ((i - 1 : Nat) : Int) by omega]; exact atI_nat hv') ?_
          walk_at "rd"
          refine ⟨a.2, rfl, hev', by omega, fun r1 H3 n3 e3 hr1 => ?_⟩
          have hp3 := Evl.ex_t e3 hp2
          walk_at "rd"
          refine ⟨e.2, rfl, hev, by omega, fun r2 H4 n4 e4 hr2 => ?_⟩
          refine ⟨r1, r2, _, _, rfl, rfl, SqL.of (e4 _ _ hr1), SqL.of hr2, ?_⟩
          rw [hord.1]
          walk_at "rd"
          exact ⟨_, _, _, rfl, ((e1.trans e2).trans e3).trans e4⟩
      · exact (hgd.not hc hcan).elim
    · rintro σ H1 ⟨v2, v3, v4, rfl, e1⟩
      have hA1 := Dt.mnA hA e1
      have hl1 := e1 _ _ hl
      obtain ⟨v, hv, hvd⟩ := mapA2 hA1 hF.zero
      walk_at "rd"
      refine Rd.ixL (SqL.of hl1) (atI_nat (j := 0) hv) ?_
      walk_at "rd"
      refine Rd.xtup rfl fun t1 H2 n2 e2 ht1 => ?_
      walk_at "rd"
      refine Rd.xtup rfl fun t2 H3 n3 e3 ht2 => ?_
      refine Rd.eqDr (Dt.mn hvd (e2.trans e3)) (ent_dp (n := n0) (cs := []) ht2 (SqT.of (e3 _ _ ht1))) shp_ent0 ?_
      exact k _ ((e1.trans e2).trans e3)
def spClosed (K : PySem.W.Frag) : Sp := fun vs H Q _ => ∃ (sp l : Addr) (mo sh le gr : Str) (R : Rule) (F : List En) (ws : List V), vs = [.ref sp, .ref l] ∧ SpecAt K H sp mo sh le gr R ∧ RowOk mo sh le gr R ∧ Chd mo sh le gr R F ∧ H l = some (.lst ws) ∧ DpAll K H ws (F.map entD) ∧ ∀ H', Evl.Ex H H' → Q (.bl true) H'
def gS (e : En) : V := .str (SX.S e.2)
theorem ok_law_closed {ad : Ad} (T : Txt K mg ad) : FnOk P w K mg base CX0 3 ad.a_law_closed ad.d_law_closed ["spec", "answer"] (spClosed K) := by
  refine T.F_law_closed.ok sc_law_closed (fun vs H Q E h => ?_) (fun cdv A outer s H vs Q E hr h => ?_)
  · obtain ⟨sp, l, mo, sh, le, gr, R, F, ws, rfl, hsp, hok, hF, hl, hA, k⟩ := h
    rfl
  · obtain ⟨sp, l, mo, sh, le, gr, R, F, ws, rfl, hsp, hok, hF, hl, hA, k⟩ := h
    refine ⟨_, (pss_cons (ps_set (i := 2) sc_law_closed.nd rfl (Or.inl rfl) Nk.pe_nnew)
      (pss_cons (ps_for PassesOwn.never rfl (pi_list (pv 1)) (pg_name (i := 3) sc_law_closed.nd rfl (Or.inl rfl)) (pss_cons (ps_if (pt_cmp (Nk.pc_nin (hu_of hr) (pe_ix ix_tup (pv 3) pe_int (fun _ _ => rfl)) (pv 2))) (pss_one (ps_ret pe_bl)) pss_nil)
      (pss_one (Nk.ps_nput (hu_of hr) (pv 2) (pe_ix ix_tup (pv 3) pe_int (fun _ _ => rfl)) (pe_ix ix_tup (pv 3) pe_int (fun _ _ => rfl)) rfl))))
      (pss_cons (ps_for PassesOwn.never rfl (pi_list (pv 1)) (pg_name (i := 3) sc_law_closed.nd rfl (Or.inl rfl)) (pss_one (ps_for PassesOwn.never rfl (pi_str (pe_call (ok_law_events T) (hr.mono (by decide)) rfl T.m_law_events T.F_law_events.kp T.b_law_events .nil pass0 (pa_cons (pv 0) (pa_cons (pe_ix ix_tup (pv 3) pe_int (fun _ _ => rfl)) (pa_cons (pe_cmpR op_eq (pe_ix ix_tup (pv 3) pe_int (fun _ _ => rfl)) pe_str (nomark _)) pa_nil))))) (pg_name (i := 4) sc_law_closed.nd rfl (Or.inl rfl)) (pss_cons (ps_set (i := 5) sc_law_closed.nd rfl (Or.inl rfl) (pe_ix ix_tup (pe_call (ok_law_next T) (hr.mono (by decide)) rfl T.m_law_next T.F_law_next.kp T.b_law_next .nil pass0 (pa_cons (pv 0) (pa_cons (pe_ix ix_tup (pv 3) pe_int (fun _ _ => rfl)) (pa_cons (pv 4) pa_nil)))) pe_int (fun _ _ => rfl)))
      (pss_one (ps_if (PW.pt (pw_or (pt_cmp (Nk.pc_nnotin (hu_of hr) (pv 5) (pv 2))) (pw_or1 (pt_not (pt_cmpR (Nk.op_leL (Nat.lt_of_le_of_lt (Nat.le_succ _) (hu_of hr))) (pe_call (ok_law_rank T) (hr.mono (by decide)) rfl T.m_law_rank T.F_law_rank.kp T.b_law_rank .nil pass0 (pa_cons (Nk.pe_nget (hu_of hr) (pv 2) (pv 5) (fun _ _ => rfl)) pa_nil)) (pe_call (ok_law_rank T) (hr.mono (by decide)) rfl T.m_law_rank T.F_law_rank.kp T.b_law_rank .nil pass0 (pa_cons (pe_op Rd.op_addS (pe_ix ix_tup (pv 3) pe_int (fun _ _ => rfl)) (pv 4)) pa_nil)) (nomark _)))))) (pss_one (ps_ret pe_bl)) pss_nil))))))
      (pss_one (ps_ret pe_bl))))), ?_⟩
    try dsimp only [L2.cxOf, L2.Cx.nox, L2.Cx.wish]
    change (_ : TS) _ ([some (.ref sp), some (.ref l), none, none, none, none] : St) _
    have hlen : ws.length = F.length := by rw [Dt.lenA hA, List.length_map]
    have h24 := hF.len
    walk_at "rd"
    refine Nk.nnew fun kd hkd => ?_
    have e1 : Evl.Ex H (upd H kd (Nk.DN P w kd [])) := Evl.Ex.new hkd
    have hk1 : (upd H kd (Nk.DN P w kd [])) kd = some (Nk.DN P w kd []) := upd_same
    generalize upd H kd (Nk.DN P w kd []) = H1 at e1 hk1 ⊢
    have hl1 := e1 _ _ hl
    walk_at "rd"
    refine Rd.xfl (K := K) (xs := ws) (SqL.of hl1) (fun i σ H' => ∃ v3 v4 v5 ps, σ = [some (.ref sp), some (.ref l), some (.ref kd), v3, v4, v5] ∧ Evl.Ex H H' ∧ H' kd = some (Nk.DN P w kd ps) ∧ Nk.KeysIn K H' ps ∧ KnG gS ps (F.take i)) ⟨_, _, _, [], rfl, e1, hk1, Nk.KeysIn.nil, rfl⟩ (fun i σ H' _ ⟨_, _, _, _, _, e, _⟩ => SqL.of (e _ _ hl)) ?_ ?_
    · rintro i y σ H2 hi ⟨v3, v4, v5, ps, rfl, e2, hk2, hki, hkn⟩
      obtain ⟨e, he, hvd⟩ := mapA (Dt.mnA hA e2) hi
      obtain ⟨p, q, rfl, hp, hq⟩ := ent_inv hvd
      have hnot : e.1 ∉ (F.take i).map (·.1) := fun hm => by
        obtain ⟨j, b, hb, eb⟩ := mem_at hm
        have hji : j < i := by
          have := (List.getElem?_eq_some_iff.mp hb).1
          rw [List.length_take] at this; omega
        rw [List.getElem?_take_of_lt hji] at hb
        have nd := hF.nod
        rw [List.nodup_iff_pairwise_ne] at nd
        rw [List.pairwise_iff_getElem] at nd
        obtain ⟨l1, x1⟩ := List.getElem?_eq_some_iff.mp hb
        obtain ⟨l2, x2⟩ := List.getElem?_eq_some_iff.mp he
        have := nd j i (by rw [List.length_map]; exact l1) (by rw [List.length_map]; exact l2) hji
        rw [List.getElem_map, List.getElem_map, x1, x2] at this
        exact this eb
      have hval := hkn.no hnot
      walk_at "rd"
      refine Nk.xnin hk2 hki hq (kOf_node _) hval ?_
      walk_at "rd"
      refine Rd.ifbF rfl ?_
      walk_at "rd"
      refine Nk.xnput hk2 hki hq (kOf_node _) hval (by rw [hkn.len, List.length_take]; omega) ?_
      refine ⟨_, _, _, ps ++ [(keyN e.1, q, .str (SX.S e.2))], rfl, Evl.Ex.mut e2 hkd, upd_same, (hki.snoc hq (kOf_node _)).dn hk2, ?_⟩
      rw [List.take_add_one, he]
      exact hkn.snoc (g := gS) e q
    · rintro σ H2 ⟨v3, v4, v5, ps, rfl, e2, hk2, hki, hkn⟩
      rw [hlen, List.take_length] at hkn
      have hl2 := e2 _ _ hl
      walk_at "rd"
      refine Rd.xfl (K := K) (xs := ws) (SqL.of hl2) (fun i σ H' => ∃ v3 v4 v5, σ = [some (.ref sp), some (.ref l), some (.ref kd), v3, v4, v5] ∧ Evl.Ex H2 H') ⟨_, _, _, rfl, Evl.Ex.refl _⟩ (fun i σ H' _ ⟨_, _, _, _, e⟩ => SqL.of (e _ _ hl2)) ?_ ?_
      · rintro i y σ H3 hi ⟨v3, v4, v5, rfl, e3⟩
        obtain ⟨e, he, hvd⟩ := mapA (Dt.mnA hA (e2.trans e3)) hi
        obtain ⟨hev, hgd, hnd, hcl⟩ := hF.ok he
        obtain ⟨hm0, hst⟩ := hF.node hok he
        obtain ⟨p, q, rfl, hp, hq⟩ := ent_inv hvd
        have hq3 : SqT K H3 q [.int e.1.1, .bl e.1.2.1, .str e.1.2.2] := hq
        have hsp3 := hsp.mono (e2.trans e3)
        walk_at "rd"
        refine ⟨sp, q, mo, sh, le, gr, R, e.1.1, e.1.2.1, e.1.2.2, decide (SX.S e.2 = ""), rfl, hsp3, hq3, ?_⟩
        rw [ev_eq hok hst, pos_eq hok hst]
        refine Rd.xfs (fun t σ H' => ∃ v4 v5, σ = [some (.ref sp), some (.ref l), some (.ref kd), some (.ref p), v4, v5] ∧ Evl.Ex H3 H') ⟨_, _, rfl, Evl.Ex.refl _⟩ ?_ ?_
        · rintro t c σ H4 hc ⟨v4, v5, rfl, e4⟩
          have hct : (posE mo sh le e)[t]? = some c := by
            have : (posE mo sh le e).toArray[t]? = some c := hc
            simpa using this
          obtain ⟨hcv, hcan⟩ := pos_can (List.mem_of_getElem? hct)
          obtain ⟨mk, hm1, hm2, hp0, hpl, hpn⟩ := prOf_at hok.1 hm0 hcv
          obtain ⟨k1, b1, hb1, eb1, hle⟩ := hF.cls he (List.mem_of_getElem? hct)
          obtain ⟨hev1, _, _, hcl1⟩ := hF.ok hb1
          have hp4 := Evl.ex_t e4 hp
          have hq4 := Evl.ex_t e4 hq3
          walk_at "rd"
          refine ⟨sp, q, mo, sh, le, gr, R, e.1.1, evIx c, e.1.2.1, e.1.2.2, ch c, mk, prOf R e.1.1 c, rfl, hsp3.mono e4, hq4, ev_ix hcv, hm1, hm2, fun q1 H5 e5 ⟨q2, g4, g5⟩ => ?_⟩
          have hqn : SqT K H5 q2 (nodeV (nx3 R e.1 c)) := by
            have e0 : (((prOf R e.1.1 c).1.toNat : Nat) : Int) = (prOf R e.1.1 c).1 := Int.toNat_of_nonneg hp0
            unfold nodeV nx3
            dsimp only
            rw [e0]
            exact SqT.of g4
          have e25 := (e3.trans e4).trans e5
          have hk5 := e25 _ _ hk2
          have hki5 := hki.mono e25
          have hp5 := Evl.ex_t e5 hp4
          have hval := hkn.yes hF.nod (List.mem_of_getElem? hb1)
          rw [eb1] at hval
          walk_at "rd"
          refine Nk.xnnotin hk5 hki5 hqn (kOf_node _) hval ?_
          walk_at "rd"
          refine Rd.ifNbF rfl ?_
          walk_at "rd"
          refine Nk.xnget hk5 hki5 hqn (kOf_node _) hval ?_
          refine ⟨b1.2, rfl, hev1, by omega, fun r1 H6 n6 e6 hr1 => ?_⟩
          have hp6 := Evl.ex_t e6 hp5
          walk_at "rd"
          refine Rd.catS (by rw [SX.S_len, S_one, SX.S_len]; simp; omega) ?_
          rw [S_one, S_app]
          refine ⟨e.2 ++ [c], rfl, hev.app (fun d hd => by cases List.mem_singleton.mp hd; exact hcv), by rw [List.length_append]; simp; omega, fun r2 H7 n7 e7 hr2 => ?_⟩
          refine ⟨r1, r2, _, _, rfl, rfl, SqL.of (e7 _ _ hr1), SqL.of hr2, ?_⟩
          rw [hle.leI]
          walk_at "rd"
          exact ⟨_, _, rfl, ((e4.trans e5).trans e6).trans e7⟩
        · rintro σ H4 ⟨v4, v5, rfl, e4⟩
          exact ⟨_, _, _, rfl, e3.trans e4⟩
      · rintro σ H3 ⟨v3, v4, v5, rfl, e3⟩
        walk_at "rd"
        exact k _ (e2.trans e3)
/-! split -/
theorem ok_S {cs : List Nat} (h : EvC cs) (hl : cs.length < 64) : PyData.strOk (SX.S cs) = true := by
  have hall : ∀ e ∈ evs, e.cps.all (· < 0x110000) = true := by decide +kernel
  have hc : ∀ c ∈ cs, c < 0x110000 := fun c hc => by
    have := hall _ (h c hc)
    simpa [ch] using this
  unfold PyData.strOk
  show (cs.toArray.all fun x => decide (x < 0x110000)) = true
  simp only [List.all_toArray, List.all_eq_true, decide_eq_true_eq]
  exact hc
theorem shp_ents {F : List En} (h : ∀ e ∈ F, EvC e.2 ∧ e.2.length < 64 ∧ okS e.1.2.2) : SeqAt.shaped (.list (F.map entD)) = true := by
  have lay : ∀ F : List En, (∀ e ∈ F, EvC e.2 ∧ e.2.length < 64 ∧ okS e.1.2.2) → PyData.canLayAll0 (F.map entD) = true ∧ PyData.depthAll (F.map entD) ≤ 3 := fun F => by
    induction F with
    | nil => intro _; exact ⟨by simp [PyData.canLayAll0], by simp [PyData.depthAll]⟩
    | cons e F ih =>
      intro h
      obtain ⟨h1, h2, h3⟩ := h e List.mem_cons_self
      obtain ⟨i1, i2⟩ := ih fun x hx => h x (List.mem_cons_of_mem _ hx)
      refine ⟨?_, ?_⟩
      · simp [PyData.canLayAll0, PyData.canLay0, entD, ok_S h1 h2, okS_strOk h3, i1]
      · simp [PyData.depthAll, PyData.depth, entD]
        omega
  obtain ⟨h1, h2⟩ := lay F h
  unfold SeqAt.shaped
  rw [Bool.and_eq_true]
  exact ⟨by simp [PyData.canLay0, h1], decide_eq_true (by simp only [PyData.depth]; omega)⟩
theorem bfs_end {mo sh le : Str} {R : Rule} {i j : Nat} (h1 : ∀ k, k < i → k < (bfs mo sh le R k).length) (h2 : (bfs mo sh le R i).length ≤ i) (g1 : ∀ k, k < j → k < (bfs mo sh le R k).length) (g2 : (bfs mo sh le R j).length ≤ j) : i = j := by
  rcases Nat.lt_trichotomy i j with h | h | h
  · have := g1 i h; omega
  · exact h
  · have := h1 j h; omega
theorem Chd.of {mo sh le gr : Str} {R : Rule} (hok : RowOk mo sh le gr R) (h4 : R.length ≤ 4) {i : Nat} (h1 : ∀ k, k < i → k < (bfs mo sh le R k).length) (h2 : (bfs mo sh le R i).length ≤ i) : Chd mo sh le gr R (bfs mo sh le R i) :=
  ⟨⟨i, bfs_bi hok i h1, h2⟩, (bfs_bi hok i h1).len hok h4⟩
theorem Chd.shp {mo sh le gr : Str} {R : Rule} {F : List En} (hok : RowOk mo sh le gr R) (h : Chd mo sh le gr R F) : SeqAt.shaped (.list (F.map entD)) = true := shp_ents fun e he => by
  obtain ⟨k, hk⟩ := List.getElem?_of_mem he
  obtain ⟨h1, _, _, h2⟩ := h.ok hk
  exact ⟨h1, by omega, (h.node hok hk).2⟩
def spCharted (C : Addr) (K : PySem.W.Frag) : Sp := fun vs H Q _ => ∃ (r sp : Addr) (mo sh le gr : Str) (R : Rule), vs = [.ref r, .ref sp] ∧ RowAt K C H r mo sh le gr R ∧ SpecAt K H sp mo sh le gr R ∧ RowOk mo sh le gr R ∧ R.length ≤ 4 ∧ ∀ H', Evl.Ex H H' → Q (.bl true) H'
theorem ok_law_charted {ad : Ad} (T : Txt K mg ad) : FnOk P w K mg base CX0 5 ad.a_law_charted ad.d_law_charted ["row", "spec"] (spCharted ad.c_Row K) := by
  refine T.F_law_charted.ok sc_law_charted (fun vs H Q E h => ?_) (fun cdv A outer s H vs Q E hr h => ?_)
  · obtain ⟨r, sp, mo, sh, le, gr, R, rfl, hrow, hsp, hok, h4, k⟩ := h
    rfl
  · obtain ⟨r, sp, mo, sh, le, gr, R, rfl, hrow, hsp, hok, h4, k⟩ := h
    refine ⟨_, (pss_cons (ps_set (i := 2) sc_law_charted.nd rfl (Or.inl rfl) (pe_call (ok_chart T) (hr.mono (by decide)) rfl T.m_chart T.F_chart.kp T.b_chart .nil pass0 (pa_cons (pv 0) pa_nil)))
      (pss_cons (ps_if (PW.pt (pw_or (pt_not (pt_val (pe_call (ok_law_pairs T) (hr.mono (by decide)) rfl T.m_law_pairs T.F_law_pairs.kp T.b_law_pairs .nil pass0 (pa_cons (pv 1) (pa_cons (pv 2) pa_nil))))) (pw_or1 (pt_not (pt_val (pe_call (ok_law_closed T) (hr.mono (by decide)) rfl T.m_law_closed T.F_law_closed.kp T.b_law_closed .nil pass0 (pa_cons (pv 1) (pa_cons (pv 2) pa_nil)))))))) (pss_one (ps_ret pe_bl)) pss_nil)
      (pss_cons (ps_setLc (i := 3) (own := [("pair", 4)]) (g := gName 4) (tt := tYes) rfl sc_law_charted.nd rfl rfl (sw_true rfl rfl rfl (by decide +kernel)) (pi_list (pv 2)) (blkOk_by (N := ["row", "spec", "answer", "first", "pair"]) (sc := defScope s_law_charted) (by decide +kernel)) (fun _ _ _ _ _ => (pg_name (i := 4) sc_law_charted.nd rfl (Or.inl rfl))) (fun _ _ _ _ _ => pts_nil) (fun _ _ _ _ _ => (pe_tup (pa_cons (pe_ix (ix_tup : IxR _ (rIxT K)) (pv 4) pe_int (fun _ _ => rfl)) (pa_cons (pe_ix (ix_tup : IxR _ (rIxT K)) (pv 4) pe_int (fun _ _ => rfl)) pa_nil)))))
      (pss_cons (ps_asg (pe_tup (pa_cons (pe_tup (pa_cons pe_int (pa_cons pe_bl (pa_cons pe_str pa_nil)))) (pa_cons pe_str pa_nil))) (pg_sub (pv 2) pe_int set_list))
      (pss_cons (ps_expr (pe_bm PySem.F.plainAttrs_list PySem.F.slot_list_append PySem.F.type_list_append mt_append (pv 2) (pa_cons (pe_tup (pa_cons (pe_tup (pa_cons pe_int (pa_cons pe_bl (pa_cons pe_str pa_nil)))) (pa_cons pe_str pa_nil))) pa_nil)))
      (pss_one (ps_ret (pe_cmpR (op_eqD hr.units) (pe_call (ok_chart T) (hr.mono (by decide)) rfl T.m_chart T.F_chart.kp T.b_chart .nil pass0 (pa_cons (pv 0) pa_nil)) (pv 3) (nomark _))))))))), ?_⟩
    try dsimp only [L2.cxOf, L2.Cx.nox, L2.Cx.wish]
    change (_ : TS) _ ([some (.ref r), some (.ref sp), none, none, none] : St) _
    have cl_Row := T.cl_Row
    have n_Row_grip := T.n_Row_grip
    have n_Row_lease := T.n_Row_lease
    have n_Row_mode := T.n_Row_mode
    have n_Row_rule := T.n_Row_rule
    have n_Row_sharing := T.n_Row_sharing
    walk_at "rd"
    refine ⟨r, mo, sh, le, gr, R, rfl, hrow, hok, h4, fun l ws i0 H1 e1 nl hl hA hb1 hb2 => ?_⟩
    have chd := Chd.of hok h4 hb1 hb2
    have hshp := chd.shp hok
    generalize hFe : bfs mo sh le R i0 = F at chd hA hshp
    walk_at "rd"
    refine ⟨sp, l, mo, sh, le, gr, R, F, ws, rfl, hsp.mono e1, hok, chd, hl, hA, fun H2 e2 => ?_⟩
    walk_at "rd"
    refine ⟨sp, l, mo, sh, le, gr, R, F, ws, rfl, hsp.mono (e1.trans e2), hok, chd, e2 _ _ hl, Dt.mnA hA e2, fun H3 e3 => ?_⟩
    have e13 := e2.trans e3
    have hl3 := e13 _ _ hl
    have hA3 := Dt.mnA hA e13
    have hlen : ws.length = F.length := by rw [Dt.lenA hA, List.length_map]
    have h24 := chd.len
    walk_at "rd"
    refine Rd.xlcG (K := K) (xs := ws) (fun i d => ∃ e, F[i]? = some e ∧ d = entD e) (SqL.of hl3) (by omega) (fun _ => rfl) ?_ ?_
    · intro i x D G H' acc hi hD eG eH gD hacc Q' q
      obtain ⟨e, he, hvd⟩ := mapA hA3 hi
      obtain ⟨p, qn, rfl, hp, hq⟩ := ent_inv hvd
      have hp' := Evl.ex_t (eG.trans eH) hp
      walk_at "rd"
      refine Rd.xtup rfl fun t H4 nt e4 ht => ?_
      refine q _ H4 (upd G t (.tup [.ref qn, .str (SX.S e.2)])) (entD e) (Rd.grow1 eH nt) (Rd.grow2 eH e4 ht) (Rd.grow3 gD nt hacc) e4 ?_ ⟨e, he, rfl⟩
      exact ent_dp upd_same (Evl.ex_t (eG.trans (Rd.grow1 eH nt)) hq)
    · intro fd G' H4 ys ds nfd eG eH gfd hfd hdA hdl hdR
      have hds : ds = F.map entD := by
        refine List.ext_getElem? fun i => ?_
        rw [List.getElem?_map]
        by_cases hi : i < ds.length
        · obtain ⟨e, he, hde⟩ := hdR i _ (List.getElem?_eq_getElem hi)
          rw [List.getElem?_eq_getElem hi, he, hde]; rfl
        · rw [List.getElem?_eq_none (by omega), List.getElem?_eq_none (by omega)]; rfl
      subst hds
      have e34 := eG.trans eH
      have hl4 := e34 _ _ hl3
      have hfdl : fd ≠ l := fun z => by rw [z, hl3] at nfd; cases nfd
      have hd4 := Dt.mnA hdA eH
      have e04 := (e1.trans e13).trans e34
      walk_at "rd"
      refine Rd.xtup rfl fun t1 H5 n5 e5 h5 => ?_
      walk_at "rd"
      refine Rd.xtup rfl fun t2 H6 n6 e6 h6 => ?_
      have hl6 := e6 _ _ (e5 _ _ hl4)
      have hw0 : 0 < ws.length := by rw [hlen]; exact (List.getElem?_eq_some_iff.mp chd.zero).1
      walk_at "rd"
      refine Rd.setL hl6 (n := 0) (Evl.ixN_nat (j := 0) (by omega)) ?_
      have hd7 := Dt.updLA (o := .lst (ws.set 0 (V.ref t2))) hl6 _ _ (noL_ents F) (Dt.mnA hd4 (e5.trans e6))
      have hfd7 : (upd H6 l (.lst (ws.set 0 (V.ref t2)))) fd = some (.lst ys) := (upd_ne hfdl).trans (e6 _ _ (e5 _ _ hfd))
      have e07 : Evl.Ex H (upd H6 l (.lst (ws.set 0 (V.ref t2)))) := Evl.Ex.mut ((e04.trans e5).trans e6) nl
      have hl7 : (upd H6 l (.lst (ws.set 0 (V.ref t2)))) l = some (.lst (ws.set 0 (V.ref t2))) := upd_same
      generalize upd H6 l (.lst (ws.set 0 (V.ref t2))) = H7 at hd7 hfd7 e07 hl7 ⊢
      walk_at "rd"
      refine Rd.xtup rfl fun t3 H8 n8 e8 h8 => ?_
      walk_at "rd"
      refine Rd.xtup rfl fun t4 H9 n9 e9 h9 => ?_
      have hl9 := e9 _ _ (e8 _ _ hl7)
      walk_at "rd"
      refine Rd.append hl9 (by rw [List.length_set]; omega) ?_
      have hd10 := Dt.updLA (o := .lst (ws.set 0 (V.ref t2) ++ [V.ref t4])) hl9 _ _ (noL_ents F) (Dt.mnA hd7 (e8.trans e9))
      have hfd10 : (upd H9 l (.lst (ws.set 0 (V.ref t2) ++ [V.ref t4]))) fd = some (.lst ys) := (upd_ne hfdl).trans (e9 _ _ (e8 _ _ hfd7))
      have e010 : Evl.Ex H (upd H9 l (.lst (ws.set 0 (V.ref t2) ++ [V.ref t4]))) := Evl.Ex.mut ((e07.trans e8).trans e9) nl
      generalize upd H9 l (.lst (ws.set 0 (V.ref t2) ++ [V.ref t4])) = H10 at hd10 hfd10 e010 ⊢
      walk_at "rd"
      refine ⟨r, mo, sh, le, gr, R, rfl, hrow.mono e010, hok, h4, fun l2 ws2 i1 H11 e11 nl2 hl2 hA2 hc1 hc2 => ?_⟩
      obtain rfl := bfs_end hb1 hb2 hc1 hc2
      rw [hFe] at hA2
      walk_at "rd"
      refine Rd.eqDr (Dt.ofL hl2 hA2) (Dt.ofL (e11 _ _ hfd10) (Dt.mnA hd10 e11)) hshp ?_
      exact k _ (e010.trans e11)
theorem bfs_plain {mo sh le : Str} {R : Rule} (h : ¬ mo = "held") : ∀ i, bfs mo sh le R i = [(n0, [])]
  | 0 => rfl
  | i + 1 => by
    have ih := bfs_plain (sh := sh) (le := le) (R := R) h i
    show (match (bfs mo sh le R i)[i]? with | some e => (posE mo sh le e).foldl (addE R e) (bfs mo sh le R i) | none => bfs mo sh le R i) = _
    have hp : ∀ e : En, posE mo sh le e = [] := fun e => by
      unfold posE posC
      rw [List.filter_eq_nil_iff]
      intro c _
      unfold canB
      rw [if_neg h]
      decide
    cases (bfs mo sh le R i)[i]? with
    | none => exact ih
    | some e =>
      show (posE mo sh le e).foldl (addE R e) (bfs mo sh le R i) = _
      rw [hp e]
      exact ih
def spLaw (K : PySem.W.Frag) : Sp := fun vs H Q _ => ∃ (a : Addr) (ns : List Int), vs = [.ref a] ∧ SqL K H a (ns.map V.int) ∧ ns.length ≤ 63 ∧ ∀ H', Q (.bl true) H'
theorem shp_one : SeqAt.shaped (.list [entD (n0, [])]) = true := by decide +kernel
theorem ok_law {ad : Ad} (T : Txt K mg ad) : FnOk P w K mg base CX0 6 ad.a_law ad.d_law ["script"] (spLaw K) := by
  refine T.F_law.ok sc_law (fun vs H Q E h => ?_) (fun cdv A outer s H vs Q E hr h => ?_)
  · obtain ⟨a, ns, rfl, hS, hn, k⟩ := h
    rfl
  · obtain ⟨a, ns, rfl, hS, hn, k⟩ := h
    refine ⟨_, (pss_cons (ps_set (i := 1) sc_law.nd rfl (Or.inl rfl) (pe_call (ok_law_deck T) (hr.mono (by decide)) rfl T.m_law_deck T.F_law_deck.kp T.b_law_deck .nil pass0 (pa_cons (pv 0) (pa_cons pe_int (pa_cons pe_int pa_nil)))))
      (pss_cons (ps_for PassesOwn.never rfl (pi_range1 rfl T.z_range (pa_cons pe_int pa_nil)) (pg_name (i := 2) sc_law.nd rfl (Or.inl rfl)) (pss_cons (ps_set (i := 3) sc_law.nd rfl (Or.inl rfl) (pe_call (ok_law_spec T) (hr.mono (by decide)) rfl T.m_law_spec T.F_law_spec.kp T.b_law_spec .nil pass0 (pa_cons (pv 1) pa_nil)))
      (pss_one (ps_if (pt_not (pt_val (pe_call (ok_law_charted T) (hr.mono (by decide)) rfl T.m_law_charted T.F_law_charted.kp T.b_law_charted .nil pass0 (pa_cons (pe_call (ok_law_row T) (hr.mono (by decide)) rfl T.m_law_row T.F_law_row.kp T.b_law_row .nil pass0 (pa_cons (pv 3) pa_nil)) (pa_cons (pv 3) pa_nil))))) (pss_one (ps_ret pe_bl)) pss_nil))))
      (pss_cons (ps_for PassesOwn.never rfl (pi_tup (pe_tup (pa_cons pe_str (pa_cons pe_str pa_nil)))) (pg_name (i := 4) sc_law.nd rfl (Or.inl rfl)) (pss_one (ps_if (pt_cmpR (op_neD hr.units) (pe_call (ok_chart T) (hr.mono (by decide)) rfl T.m_chart T.F_chart.kp T.b_chart .nil pass0 (pa_cons (pe_call (ok_plain_row T) (hr.mono (by decide)) rfl T.m_plain_row T.F_plain_row.kp T.b_plain_row .nil pass0 (pa_cons (pv 4) pa_nil)) pa_nil)) (pe_lst (pa_cons (pe_tup (pa_cons (pe_tup (pa_cons pe_int (pa_cons pe_bl (pa_cons pe_str pa_nil)))) (pa_cons pe_str pa_nil))) pa_nil)) (nomark _)) (pss_one (ps_ret pe_bl)) pss_nil)))
      (pss_one (ps_ret pe_bl))))), ?_⟩
    try dsimp only [L2.cxOf, L2.Cx.nox, L2.Cx.wish]
    change (_ : TS) _ ([some (.ref a), none, none, none, none] : St) _
    walk_at "rd"
    refine ⟨a, ns, 16, 12, rfl, hS, hn, by decide, by decide, by decide, by decide, fun l hl => ?_⟩
    have hD : (upd H l (Dk.DkO l)) l = some (Dk.DkO l) := upd_same
    generalize upd H l (Dk.DkO l) = H1 at *
    walk_at "rd"
    refine Rd.xfr1 ⟨by omega, by omega⟩ (fun i σ H' => ∃ v2 v3 v4, σ = [some (.ref a), some (.ref l), v2, v3, v4] ∧ Evl.Ex H1 H') ⟨_, _, _, rfl, Evl.Ex.refl _⟩ ?_ ?_
    · rintro i σ H2 hi ⟨v2, v3, v4, rfl, e2⟩
      have hD2 := e2 _ _ hD
      walk_at "rd"
      refine ⟨l, rfl, hD2, fun sp sh le gr R H3 e3 _ _ hsp hok h4 => ?_⟩
      walk_at "rd"
      refine ⟨sp, "held", sh, le, gr, R, rfl, hsp, hok, h4, fun x H4 e4 hx => ?_⟩
      walk_at "rd"
      refine ⟨x, sp, "held", sh, le, gr, R, rfl, hx, hsp.mono e4, hok, h4, fun H5 e5 => ?_⟩
      walk_at "rd"
      exact ⟨_, _, _, rfl, ((e2.trans e3).trans e4).trans e5⟩
    · rintro σ H2 ⟨v2, v3, v4, rfl, e2⟩
      walk_at "rd"
      refine Rd.xtup rfl fun qm H3 n3 e3 hqm => ?_
      walk_at "rd"
      refine Rd.xft (K := K) (SqT.of hqm) (fun j σ H' => ∃ v4, σ = [some (.ref a), some (.ref l), v2, v3, v4] ∧ Evl.Ex H3 H') ⟨_, rfl, Evl.Ex.refl _⟩ (fun j σ H' _ ⟨_, _, e⟩ => SqT.of (e _ _ hqm)) ?_ ?_
      · rintro j y σ H4 hj ⟨v4, rfl, e4⟩
        have hy : ∃ s : Str, y = .str s ∧ (s = "copied" ∨ s = "refused") := by
          match j, hj with
          | 0, hj => exact ⟨"copied", (Option.some.inj hj).symm, .inl rfl⟩
          | 1, hj => exact ⟨"refused", (Option.some.inj hj).symm, .inr rfl⟩
          | j + 2, hj => cases hj
        obtain ⟨mo, rfl, hmo⟩ := hy
        have hne : ¬ mo = "held" := by rcases hmo with rfl | rfl <;> decide +kernel
        have hok : RowOk mo "one" "always" "slot" [still6] := ⟨by decide +kernel, .inr ⟨hmo, rfl, rfl, rfl, rfl⟩⟩
        walk_at "rd"
        refine ⟨mo, rfl, hmo, fun x H5 e5 hx => ?_⟩
        walk_at "rd"
        refine ⟨x, mo, "one", "always", "slot", [still6], rfl, hx, hok, by decide, fun l2 ws2 i1 H6 e6 nl2 hl2 hA2 hc1 hc2 => ?_⟩
        rw [bfs_plain hne] at hA2
        walk_at "rd"
        refine Rd.xtup rfl fun t1 H7 n7 e7 h7 => ?_
        walk_at "rd"
        refine Rd.xtup rfl fun t2 H8 n8 e8 h8 => ?_
        walk_at "rd"
        refine Rd.xlst rfl fun t3 H9 n9 e9 h9 => ?_
        have e69 := (e7.trans e8).trans e9
        refine Rd.neDr (Dt.ofL (e69 _ _ hl2) (Dt.mnA hA2 e69)) (Dt.ofL h9 (.cons (ent_dp (n := n0) (cs := []) (e9 _ _ h8) (SqT.of (e9 _ _ (e8 _ _ h7)))) .nil)) shp_one ?_
        walk_at "rd"
        exact ⟨_, rfl, ((e4.trans e5).trans e6).trans e69⟩
      · rintro σ H4 ⟨v4, rfl, e4⟩
        walk_at "rd"
        exact k _

/-! split -/
end
theorem all_mk {K : PySem.W.Frag} {h : Heap} {mg : Str → Option Value} {fa : Addr} (X : K.In h) (G : h.Ns mainGlobals mg) (hfa : mg "law" = some (.ref fa))
    {c_Row : Addr}
    {t_EVENTS : Tok}
    {k_GRIPS : Addr} {dd_GRIPS : Option Addr} {its_GRIPS : Array Value} {nn_GRIPS : Nat} {sl_GRIPS : Array (Option Value)}
    {k_LEASES : Addr} {dd_LEASES : Option Addr} {its_LEASES : Array Value} {nn_LEASES : Nat} {sl_LEASES : Array (Option Value)}
    {k_MODES : Addr} {dd_MODES : Option Addr} {its_MODES : Array Value} {nn_MODES : Nat} {sl_MODES : Array (Option Value)}
    {t_MOST_CHANGE : Tok}
    {t_MOST_MARKS : Tok}
    {k_SHARINGS : Addr} {dd_SHARINGS : Option Addr} {its_SHARINGS : Array Value} {nn_SHARINGS : Nat} {sl_SHARINGS : Array (Option Value)}
    {k_START : Addr} {dd_START : Option Addr} {its_START : Array Value} {nn_START : Nat} {sl_START : Array (Option Value)}
    {k_STILL : Addr} {dd_STILL : Option Addr} {its_STILL : Array Value} {nn_STILL : Nat} {sl_STILL : Array (Option Value)}
    {k_STILL_0 : Addr} {dd_STILL_0 : Option Addr} {its_STILL_0 : Array Value} {nn_STILL_0 : Nat} {sl_STILL_0 : Array (Option Value)}
    {k_STILL_1 : Addr} {dd_STILL_1 : Option Addr} {its_STILL_1 : Array Value} {nn_STILL_1 : Nat} {sl_STILL_1 : Array (Option Value)}
    {k_STILL_2 : Addr} {dd_STILL_2 : Option Addr} {its_STILL_2 : Array Value} {nn_STILL_2 : Nat} {sl_STILL_2 : Array (Option Value)}
    {k_STILL_3 : Addr} {dd_STILL_3 : Option Addr} {its_STILL_3 : Array Value} {nn_STILL_3 : Nat} {sl_STILL_3 : Array (Option Value)}
    {k_STILL_4 : Addr} {dd_STILL_4 : Option Addr} {its_STILL_4 : Array Value} {nn_STILL_4 : Nat} {sl_STILL_4 : Array (Option Value)}
    {k_STILL_5 : Addr} {dd_STILL_5 : Option Addr} {its_STILL_5 : Array Value} {nn_STILL_5 : Nat} {sl_STILL_5 : Array (Option Value)}
    {f_law_take : Addr} {oc_law_take kV_law_take dc_law_take pm_law_take cd_law_take ct_law_take : Value} {od_law_take an_law_take : Option Addr} {sl_law_take : Array (Option Value)}
    {f_law_deck : Addr} {oc_law_deck kV_law_deck dc_law_deck pm_law_deck cd_law_deck ct_law_deck : Value} {od_law_deck an_law_deck : Option Addr} {sl_law_deck : Array (Option Value)}
    {f_is_mark : Addr} {oc_is_mark kV_is_mark dc_is_mark pm_is_mark cd_is_mark ct_is_mark : Value} {od_is_mark an_is_mark : Option Addr} {sl_is_mark : Array (Option Value)}
    {f_is_rule : Addr} {oc_is_rule kV_is_rule dc_is_rule pm_is_rule cd_is_rule ct_is_rule : Value} {od_is_rule an_is_rule : Option Addr} {sl_is_rule : Array (Option Value)}
    {f_Row_init_ : Addr} {oc_Row_init_ kV_Row_init_ dc_Row_init_ pm_Row_init_ cd_Row_init_ ct_Row_init_ : Value} {od_Row_init_ an_Row_init_ : Option Addr} {sl_Row_init_ : Array (Option Value)}
    {f_plain_row : Addr} {oc_plain_row kV_plain_row dc_plain_row pm_plain_row cd_plain_row ct_plain_row : Value} {od_plain_row an_plain_row : Option Addr} {sl_plain_row : Array (Option Value)}
    {f_law_wild_rule : Addr} {oc_law_wild_rule kV_law_wild_rule dc_law_wild_rule pm_law_wild_rule cd_law_wild_rule ct_law_wild_rule : Value} {od_law_wild_rule an_law_wild_rule : Option Addr} {sl_law_wild_rule : Array (Option Value)}
    {f_law_living_rule : Addr} {oc_law_living_rule kV_law_living_rule dc_law_living_rule pm_law_living_rule cd_law_living_rule ct_law_living_rule : Value} {od_law_living_rule an_law_living_rule : Option Addr} {sl_law_living_rule : Array (Option Value)}
    {f_law_call_rule : Addr} {oc_law_call_rule kV_law_call_rule dc_law_call_rule pm_law_call_rule cd_law_call_rule ct_law_call_rule : Value} {od_law_call_rule an_law_call_rule : Option Addr} {sl_law_call_rule : Array (Option Value)}
    {f_law_spoil : Addr} {oc_law_spoil kV_law_spoil dc_law_spoil pm_law_spoil cd_law_spoil ct_law_spoil : Value} {od_law_spoil an_law_spoil : Option Addr} {sl_law_spoil : Array (Option Value)}
    {f_law_spec : Addr} {oc_law_spec kV_law_spec dc_law_spec pm_law_spec cd_law_spec ct_law_spec : Value} {od_law_spec an_law_spec : Option Addr} {sl_law_spec : Array (Option Value)}
    {f_law_row : Addr} {oc_law_row kV_law_row dc_law_row pm_law_row cd_law_row ct_law_row : Value} {od_law_row an_law_row : Option Addr} {sl_law_row : Array (Option Value)}
    {f_is_usable : Addr} {oc_is_usable kV_is_usable dc_is_usable pm_is_usable cd_is_usable ct_is_usable : Value} {od_is_usable an_is_usable : Option Addr} {sl_is_usable : Array (Option Value)}
    {f_can_happen : Addr} {oc_can_happen kV_can_happen dc_can_happen pm_can_happen cd_can_happen ct_can_happen : Value} {od_can_happen an_can_happen : Option Addr} {sl_can_happen : Array (Option Value)}
    {f_possible : Addr} {oc_possible kV_possible dc_possible pm_possible cd_possible ct_possible : Value} {od_possible an_possible : Option Addr} {sl_possible : Array (Option Value)}
    {f_step : Addr} {oc_step kV_step dc_step pm_step cd_step ct_step : Value} {od_step an_step : Option Addr} {sl_step : Array (Option Value)}
    {f_law_usable : Addr} {oc_law_usable kV_law_usable dc_law_usable pm_law_usable cd_law_usable ct_law_usable : Value} {od_law_usable an_law_usable : Option Addr} {sl_law_usable : Array (Option Value)}
    {f_law_events : Addr} {oc_law_events kV_law_events dc_law_events pm_law_events cd_law_events ct_law_events : Value} {od_law_events an_law_events : Option Addr} {sl_law_events : Array (Option Value)}
    {f_law_next : Addr} {oc_law_next kV_law_next dc_law_next pm_law_next cd_law_next ct_law_next : Value} {od_law_next an_law_next : Option Addr} {sl_law_next : Array (Option Value)}
    {f_law_whole : Addr} {oc_law_whole kV_law_whole dc_law_whole pm_law_whole cd_law_whole ct_law_whole : Value} {od_law_whole an_law_whole : Option Addr} {sl_law_whole : Array (Option Value)}
    {f_law_same_node : Addr} {oc_law_same_node kV_law_same_node dc_law_same_node pm_law_same_node cd_law_same_node ct_law_same_node : Value} {od_law_same_node an_law_same_node : Option Addr} {sl_law_same_node : Array (Option Value)}
    {f_law_path : Addr} {oc_law_path kV_law_path dc_law_path pm_law_path cd_law_path ct_law_path : Value} {od_law_path an_law_path : Option Addr} {sl_law_path : Array (Option Value)}
    {f_chart : Addr} {oc_chart kV_chart dc_chart pm_chart cd_chart ct_chart : Value} {od_chart an_chart : Option Addr} {sl_chart : Array (Option Value)}
    {f_law_rank : Addr} {oc_law_rank kV_law_rank dc_law_rank pm_law_rank cd_law_rank ct_law_rank : Value} {od_law_rank an_law_rank : Option Addr} {sl_law_rank : Array (Option Value)}
    {f_law_pairs : Addr} {oc_law_pairs kV_law_pairs dc_law_pairs pm_law_pairs cd_law_pairs ct_law_pairs : Value} {od_law_pairs an_law_pairs : Option Addr} {sl_law_pairs : Array (Option Value)}
    {f_law_closed : Addr} {oc_law_closed kV_law_closed dc_law_closed pm_law_closed cd_law_closed ct_law_closed : Value} {od_law_closed an_law_closed : Option Addr} {sl_law_closed : Array (Option Value)}
    {f_law_charted : Addr} {oc_law_charted kV_law_charted dc_law_charted pm_law_charted cd_law_charted ct_law_charted : Value} {od_law_charted an_law_charted : Option Addr} {sl_law_charted : Array (Option Value)}
    {f_law : Addr} {oc_law kV_law dc_law pm_law cd_law ct_law : Value} {od_law an_law : Option Addr} {sl_law : Array (Option Value)}
    (A_Row : PySem.W.nsIn K mainGlobals "Row" = some (some (.ref c_Row)))
    (a_law_take : PySem.W.nsIn K mainGlobals "_law_take" = some (some (.ref f_law_take)))
    (l_law_take : K.lookup f_law_take = some ⟨oc_law_take, od_law_take, .func (PySem.W.fnOf "_law_take" "_law_take" (defArgs s_law_take) (defBody s_law_take) (defScope s_law_take) .none kV_law_take dc_law_take pm_law_take an_law_take cd_law_take ct_law_take), sl_law_take⟩)
    (c_law_take : PySem.W.codeIn K cd_law_take "_law_take" = true)
    (k_law_take : PySem.W.keepIn K (.ref f_law_take) = true)
    (a_law_deck : PySem.W.nsIn K mainGlobals "_law_deck" = some (some (.ref f_law_deck)))
    (l_law_deck : K.lookup f_law_deck = some ⟨oc_law_deck, od_law_deck, .func (PySem.W.fnOf "_law_deck" "_law_deck" (defArgs s_law_deck) (defBody s_law_deck) (defScope s_law_deck) .none kV_law_deck dc_law_deck pm_law_deck an_law_deck cd_law_deck ct_law_deck), sl_law_deck⟩)
    (c_law_deck : PySem.W.codeIn K cd_law_deck "_law_deck" = true)
    (k_law_deck : PySem.W.keepIn K (.ref f_law_deck) = true)
    (a_is_mark : PySem.W.nsIn K mainGlobals "is_mark" = some (some (.ref f_is_mark)))
    (l_is_mark : K.lookup f_is_mark = some ⟨oc_is_mark, od_is_mark, .func (PySem.W.fnOf "is_mark" "is_mark" (defArgs s_is_mark) (defBody s_is_mark) (defScope s_is_mark) .none kV_is_mark dc_is_mark pm_is_mark an_is_mark cd_is_mark ct_is_mark), sl_is_mark⟩)
    (c_is_mark : PySem.W.codeIn K cd_is_mark "is_mark" = true)
    (k_is_mark : PySem.W.keepIn K (.ref f_is_mark) = true)
    (a_is_rule : PySem.W.nsIn K mainGlobals "is_rule" = some (some (.ref f_is_rule)))
    (l_is_rule : K.lookup f_is_rule = some ⟨oc_is_rule, od_is_rule, .func (PySem.W.fnOf "is_rule" "is_rule" (defArgs s_is_rule) (defBody s_is_rule) (defScope s_is_rule) .none kV_is_rule dc_is_rule pm_is_rule an_is_rule cd_is_rule ct_is_rule), sl_is_rule⟩)
    (c_is_rule : PySem.W.codeIn K cd_is_rule "is_rule" = true)
    (k_is_rule : PySem.W.keepIn K (.ref f_is_rule) = true)
    (a_Row_init_ : PySem.W.findIn K (.ref c_Row) "__init__" = some (some (.ref f_Row_init_)))
    (i_Row_init_ : PySem.W.isFn K (.ref f_Row_init_) = true)
    (l_Row_init_ : K.lookup f_Row_init_ = some ⟨oc_Row_init_, od_Row_init_, .func (PySem.W.fnOf "__init__" "Row.__init__" (defArgs s_Row_init_) (defBody s_Row_init_) (defScope s_Row_init_) .none kV_Row_init_ dc_Row_init_ pm_Row_init_ an_Row_init_ cd_Row_init_ ct_Row_init_), sl_Row_init_⟩)
    (c_Row_init_ : PySem.W.codeIn K cd_Row_init_ "Row.__init__" = true)
    (k_Row_init_ : PySem.W.keepIn K (.ref f_Row_init_) = true)
    (a_plain_row : PySem.W.nsIn K mainGlobals "plain_row" = some (some (.ref f_plain_row)))
    (l_plain_row : K.lookup f_plain_row = some ⟨oc_plain_row, od_plain_row, .func (PySem.W.fnOf "plain_row" "plain_row" (defArgs s_plain_row) (defBody s_plain_row) (defScope s_plain_row) .none kV_plain_row dc_plain_row pm_plain_row an_plain_row cd_plain_row ct_plain_row), sl_plain_row⟩)
    (c_plain_row : PySem.W.codeIn K cd_plain_row "plain_row" = true)
    (k_plain_row : PySem.W.keepIn K (.ref f_plain_row) = true)
    (a_law_wild_rule : PySem.W.nsIn K mainGlobals "_law_wild_rule" = some (some (.ref f_law_wild_rule)))
    (l_law_wild_rule : K.lookup f_law_wild_rule = some ⟨oc_law_wild_rule, od_law_wild_rule, .func (PySem.W.fnOf "_law_wild_rule" "_law_wild_rule" (defArgs s_law_wild_rule) (defBody s_law_wild_rule) (defScope s_law_wild_rule) .none kV_law_wild_rule dc_law_wild_rule pm_law_wild_rule an_law_wild_rule cd_law_wild_rule ct_law_wild_rule), sl_law_wild_rule⟩)
    (c_law_wild_rule : PySem.W.codeIn K cd_law_wild_rule "_law_wild_rule" = true)
    (k_law_wild_rule : PySem.W.keepIn K (.ref f_law_wild_rule) = true)
    (a_law_living_rule : PySem.W.nsIn K mainGlobals "_law_living_rule" = some (some (.ref f_law_living_rule)))
    (l_law_living_rule : K.lookup f_law_living_rule = some ⟨oc_law_living_rule, od_law_living_rule, .func (PySem.W.fnOf "_law_living_rule" "_law_living_rule" (defArgs s_law_living_rule) (defBody s_law_living_rule) (defScope s_law_living_rule) .none kV_law_living_rule dc_law_living_rule pm_law_living_rule an_law_living_rule cd_law_living_rule ct_law_living_rule), sl_law_living_rule⟩)
    (c_law_living_rule : PySem.W.codeIn K cd_law_living_rule "_law_living_rule" = true)
    (k_law_living_rule : PySem.W.keepIn K (.ref f_law_living_rule) = true)
    (a_law_call_rule : PySem.W.nsIn K mainGlobals "_law_call_rule" = some (some (.ref f_law_call_rule)))
    (l_law_call_rule : K.lookup f_law_call_rule = some ⟨oc_law_call_rule, od_law_call_rule, .func (PySem.W.fnOf "_law_call_rule" "_law_call_rule" (defArgs s_law_call_rule) (defBody s_law_call_rule) (defScope s_law_call_rule) .none kV_law_call_rule dc_law_call_rule pm_law_call_rule an_law_call_rule cd_law_call_rule ct_law_call_rule), sl_law_call_rule⟩)
    (c_law_call_rule : PySem.W.codeIn K cd_law_call_rule "_law_call_rule" = true)
    (k_law_call_rule : PySem.W.keepIn K (.ref f_law_call_rule) = true)
    (a_law_spoil : PySem.W.nsIn K mainGlobals "_law_spoil" = some (some (.ref f_law_spoil)))
    (l_law_spoil : K.lookup f_law_spoil = some ⟨oc_law_spoil, od_law_spoil, .func (PySem.W.fnOf "_law_spoil" "_law_spoil" (defArgs s_law_spoil) (defBody s_law_spoil) (defScope s_law_spoil) .none kV_law_spoil dc_law_spoil pm_law_spoil an_law_spoil cd_law_spoil ct_law_spoil), sl_law_spoil⟩)
    (c_law_spoil : PySem.W.codeIn K cd_law_spoil "_law_spoil" = true)
    (k_law_spoil : PySem.W.keepIn K (.ref f_law_spoil) = true)
    (a_law_spec : PySem.W.nsIn K mainGlobals "_law_spec" = some (some (.ref f_law_spec)))
    (l_law_spec : K.lookup f_law_spec = some ⟨oc_law_spec, od_law_spec, .func (PySem.W.fnOf "_law_spec" "_law_spec" (defArgs s_law_spec) (defBody s_law_spec) (defScope s_law_spec) .none kV_law_spec dc_law_spec pm_law_spec an_law_spec cd_law_spec ct_law_spec), sl_law_spec⟩)
    (c_law_spec : PySem.W.codeIn K cd_law_spec "_law_spec" = true)
    (k_law_spec : PySem.W.keepIn K (.ref f_law_spec) = true)
    (a_law_row : PySem.W.nsIn K mainGlobals "_law_row" = some (some (.ref f_law_row)))
    (l_law_row : K.lookup f_law_row = some ⟨oc_law_row, od_law_row, .func (PySem.W.fnOf "_law_row" "_law_row" (defArgs s_law_row) (defBody s_law_row) (defScope s_law_row) .none kV_law_row dc_law_row pm_law_row an_law_row cd_law_row ct_law_row), sl_law_row⟩)
    (c_law_row : PySem.W.codeIn K cd_law_row "_law_row" = true)
    (k_law_row : PySem.W.keepIn K (.ref f_law_row) = true)
    (a_is_usable : PySem.W.nsIn K mainGlobals "is_usable" = some (some (.ref f_is_usable)))
    (l_is_usable : K.lookup f_is_usable = some ⟨oc_is_usable, od_is_usable, .func (PySem.W.fnOf "is_usable" "is_usable" (defArgs s_is_usable) (defBody s_is_usable) (defScope s_is_usable) .none kV_is_usable dc_is_usable pm_is_usable an_is_usable cd_is_usable ct_is_usable), sl_is_usable⟩)
    (c_is_usable : PySem.W.codeIn K cd_is_usable "is_usable" = true)
    (k_is_usable : PySem.W.keepIn K (.ref f_is_usable) = true)
    (a_can_happen : PySem.W.nsIn K mainGlobals "can_happen" = some (some (.ref f_can_happen)))
    (l_can_happen : K.lookup f_can_happen = some ⟨oc_can_happen, od_can_happen, .func (PySem.W.fnOf "can_happen" "can_happen" (defArgs s_can_happen) (defBody s_can_happen) (defScope s_can_happen) .none kV_can_happen dc_can_happen pm_can_happen an_can_happen cd_can_happen ct_can_happen), sl_can_happen⟩)
    (c_can_happen : PySem.W.codeIn K cd_can_happen "can_happen" = true)
    (k_can_happen : PySem.W.keepIn K (.ref f_can_happen) = true)
    (a_possible : PySem.W.nsIn K mainGlobals "possible" = some (some (.ref f_possible)))
    (l_possible : K.lookup f_possible = some ⟨oc_possible, od_possible, .func (PySem.W.fnOf "possible" "possible" (defArgs s_possible) (defBody s_possible) (defScope s_possible) .none kV_possible dc_possible pm_possible an_possible cd_possible ct_possible), sl_possible⟩)
    (c_possible : PySem.W.codeIn K cd_possible "possible" = true)
    (k_possible : PySem.W.keepIn K (.ref f_possible) = true)
    (a_step : PySem.W.nsIn K mainGlobals "step" = some (some (.ref f_step)))
    (l_step : K.lookup f_step = some ⟨oc_step, od_step, .func (PySem.W.fnOf "step" "step" (defArgs s_step) (defBody s_step) (defScope s_step) .none kV_step dc_step pm_step an_step cd_step ct_step), sl_step⟩)
    (c_step : PySem.W.codeIn K cd_step "step" = true)
    (k_step : PySem.W.keepIn K (.ref f_step) = true)
    (a_law_usable : PySem.W.nsIn K mainGlobals "_law_usable" = some (some (.ref f_law_usable)))
    (l_law_usable : K.lookup f_law_usable = some ⟨oc_law_usable, od_law_usable, .func (PySem.W.fnOf "_law_usable" "_law_usable" (defArgs s_law_usable) (defBody s_law_usable) (defScope s_law_usable) .none kV_law_usable dc_law_usable pm_law_usable an_law_usable cd_law_usable ct_law_usable), sl_law_usable⟩)
    (c_law_usable : PySem.W.codeIn K cd_law_usable "_law_usable" = true)
    (k_law_usable : PySem.W.keepIn K (.ref f_law_usable) = true)
    (a_law_events : PySem.W.nsIn K mainGlobals "_law_events" = some (some (.ref f_law_events)))
    (l_law_events : K.lookup f_law_events = some ⟨oc_law_events, od_law_events, .func (PySem.W.fnOf "_law_events" "_law_events" (defArgs s_law_events) (defBody s_law_events) (defScope s_law_events) .none kV_law_events dc_law_events pm_law_events an_law_events cd_law_events ct_law_events), sl_law_events⟩)
    (c_law_events : PySem.W.codeIn K cd_law_events "_law_events" = true)
    (k_law_events : PySem.W.keepIn K (.ref f_law_events) = true)
    (a_law_next : PySem.W.nsIn K mainGlobals "_law_next" = some (some (.ref f_law_next)))
    (l_law_next : K.lookup f_law_next = some ⟨oc_law_next, od_law_next, .func (PySem.W.fnOf "_law_next" "_law_next" (defArgs s_law_next) (defBody s_law_next) (defScope s_law_next) .none kV_law_next dc_law_next pm_law_next an_law_next cd_law_next ct_law_next), sl_law_next⟩)
    (c_law_next : PySem.W.codeIn K cd_law_next "_law_next" = true)
    (k_law_next : PySem.W.keepIn K (.ref f_law_next) = true)
    (a_law_whole : PySem.W.nsIn K mainGlobals "_law_whole" = some (some (.ref f_law_whole)))
    (l_law_whole : K.lookup f_law_whole = some ⟨oc_law_whole, od_law_whole, .func (PySem.W.fnOf "_law_whole" "_law_whole" (defArgs s_law_whole) (defBody s_law_whole) (defScope s_law_whole) .none kV_law_whole dc_law_whole pm_law_whole an_law_whole cd_law_whole ct_law_whole), sl_law_whole⟩)
    (c_law_whole : PySem.W.codeIn K cd_law_whole "_law_whole" = true)
    (k_law_whole : PySem.W.keepIn K (.ref f_law_whole) = true)
    (a_law_same_node : PySem.W.nsIn K mainGlobals "_law_same_node" = some (some (.ref f_law_same_node)))
    (l_law_same_node : K.lookup f_law_same_node = some ⟨oc_law_same_node, od_law_same_node, .func (PySem.W.fnOf "_law_same_node" "_law_same_node" (defArgs s_law_same_node) (defBody s_law_same_node) (defScope s_law_same_node) .none kV_law_same_node dc_law_same_node pm_law_same_node an_law_same_node cd_law_same_node ct_law_same_node), sl_law_same_node⟩)
    (c_law_same_node : PySem.W.codeIn K cd_law_same_node "_law_same_node" = true)
    (k_law_same_node : PySem.W.keepIn K (.ref f_law_same_node) = true)
    (a_law_path : PySem.W.nsIn K mainGlobals "_law_path" = some (some (.ref f_law_path)))
    (l_law_path : K.lookup f_law_path = some ⟨oc_law_path, od_law_path, .func (PySem.W.fnOf "_law_path" "_law_path" (defArgs s_law_path) (defBody s_law_path) (defScope s_law_path) .none kV_law_path dc_law_path pm_law_path an_law_path cd_law_path ct_law_path), sl_law_path⟩)
    (c_law_path : PySem.W.codeIn K cd_law_path "_law_path" = true)
    (k_law_path : PySem.W.keepIn K (.ref f_law_path) = true)
    (a_chart : PySem.W.nsIn K mainGlobals "chart" = some (some (.ref f_chart)))
    (l_chart : K.lookup f_chart = some ⟨oc_chart, od_chart, .func (PySem.W.fnOf "chart" "chart" (defArgs s_chart) (defBody s_chart) (defScope s_chart) .none kV_chart dc_chart pm_chart an_chart cd_chart ct_chart), sl_chart⟩)
    (c_chart : PySem.W.codeIn K cd_chart "chart" = true)
    (k_chart : PySem.W.keepIn K (.ref f_chart) = true)
    (a_law_rank : PySem.W.nsIn K mainGlobals "_law_rank" = some (some (.ref f_law_rank)))
    (l_law_rank : K.lookup f_law_rank = some ⟨oc_law_rank, od_law_rank, .func (PySem.W.fnOf "_law_rank" "_law_rank" (defArgs s_law_rank) (defBody s_law_rank) (defScope s_law_rank) .none kV_law_rank dc_law_rank pm_law_rank an_law_rank cd_law_rank ct_law_rank), sl_law_rank⟩)
    (c_law_rank : PySem.W.codeIn K cd_law_rank "_law_rank" = true)
    (k_law_rank : PySem.W.keepIn K (.ref f_law_rank) = true)
    (a_law_pairs : PySem.W.nsIn K mainGlobals "_law_pairs" = some (some (.ref f_law_pairs)))
    (l_law_pairs : K.lookup f_law_pairs = some ⟨oc_law_pairs, od_law_pairs, .func (PySem.W.fnOf "_law_pairs" "_law_pairs" (defArgs s_law_pairs) (defBody s_law_pairs) (defScope s_law_pairs) .none kV_law_pairs dc_law_pairs pm_law_pairs an_law_pairs cd_law_pairs ct_law_pairs), sl_law_pairs⟩)
    (c_law_pairs : PySem.W.codeIn K cd_law_pairs "_law_pairs" = true)
    (k_law_pairs : PySem.W.keepIn K (.ref f_law_pairs) = true)
    (a_law_closed : PySem.W.nsIn K mainGlobals "_law_closed" = some (some (.ref f_law_closed)))
    (l_law_closed : K.lookup f_law_closed = some ⟨oc_law_closed, od_law_closed, .func (PySem.W.fnOf "_law_closed" "_law_closed" (defArgs s_law_closed) (defBody s_law_closed) (defScope s_law_closed) .none kV_law_closed dc_law_closed pm_law_closed an_law_closed cd_law_closed ct_law_closed), sl_law_closed⟩)
    (c_law_closed : PySem.W.codeIn K cd_law_closed "_law_closed" = true)
    (k_law_closed : PySem.W.keepIn K (.ref f_law_closed) = true)
    (a_law_charted : PySem.W.nsIn K mainGlobals "_law_charted" = some (some (.ref f_law_charted)))
    (l_law_charted : K.lookup f_law_charted = some ⟨oc_law_charted, od_law_charted, .func (PySem.W.fnOf "_law_charted" "_law_charted" (defArgs s_law_charted) (defBody s_law_charted) (defScope s_law_charted) .none kV_law_charted dc_law_charted pm_law_charted an_law_charted cd_law_charted ct_law_charted), sl_law_charted⟩)
    (c_law_charted : PySem.W.codeIn K cd_law_charted "_law_charted" = true)
    (k_law_charted : PySem.W.keepIn K (.ref f_law_charted) = true)
    (a_law : PySem.W.nsIn K mainGlobals "law" = some (some (.ref f_law)))
    (l_law : K.lookup f_law = some ⟨oc_law, od_law, .func (PySem.W.fnOf "law" "law" (defArgs s_law) (defBody s_law) (defScope s_law) .none kV_law dc_law pm_law an_law cd_law ct_law), sl_law⟩)
    (c_law : PySem.W.codeIn K cd_law "law" = true)
    (k_law : PySem.W.keepIn K (.ref f_law) = true)
    (pg_Row : PySem.W.plainGet K c_Row Str.empty = true)
    (hd_Row : PySem.W.hasDictIn K c_Row = true)
    (po_Row : PySem.W.plainOver K c_Row = true)
    (sa_Row : PySem.W.findIn K (.ref c_Row) "__setattr__" = some (some (.builtin "object.__setattr__")))
    (mk_Row : PySem.W.makesIn K c_Row = true)
    (kc_Row : PySem.W.keepIn K (.ref c_Row) = true)
    (n_Row_grip : PySem.W.findIn K (.ref c_Row) "grip" = some none)
    (n_Row_lease : PySem.W.findIn K (.ref c_Row) "lease" = some none)
    (n_Row_mode : PySem.W.findIn K (.ref c_Row) "mode" = some none)
    (n_Row_rule : PySem.W.findIn K (.ref c_Row) "rule" = some none)
    (n_Row_sharing : PySem.W.findIn K (.ref c_Row) "sharing" = some none)
    (z_abs : PySem.W.nsIn K mainGlobals "abs" = some none)
    (z_bool : PySem.W.nsIn K mainGlobals "bool" = some none)
    (z_int : PySem.W.nsIn K mainGlobals "int" = some none)
    (z_isinstance : PySem.W.nsIn K mainGlobals "isinstance" = some none)
    (z_len : PySem.W.nsIn K mainGlobals "len" = some none)
    (z_list : PySem.W.nsIn K mainGlobals "list" = some none)
    (z_max : PySem.W.nsIn K mainGlobals "max" = some none)
    (z_min : PySem.W.nsIn K mainGlobals "min" = some none)
    (z_range : PySem.W.nsIn K mainGlobals "range" = some none)
    (z_str : PySem.W.nsIn K mainGlobals "str" = some none)
    (z_tuple : PySem.W.nsIn K mainGlobals "tuple" = some none)
    (g_EVENTS : PySem.W.nsIn K mainGlobals "EVENTS" = some (some (.str "LGHRFD" t_EVENTS)))
    (g_GRIPS : PySem.W.nsIn K mainGlobals "GRIPS" = some (some (.ref k_GRIPS)))
    (lk_GRIPS : K.lookup k_GRIPS = some ⟨.type "tuple", dd_GRIPS, .seq its_GRIPS nn_GRIPS, sl_GRIPS⟩)
    (vv_GRIPS : Vals [V.str "slot", V.str "place", V.str "pin"] its_GRIPS.toList)
    (g_LEASES : PySem.W.nsIn K mainGlobals "LEASES" = some (some (.ref k_LEASES)))
    (lk_LEASES : K.lookup k_LEASES = some ⟨.type "tuple", dd_LEASES, .seq its_LEASES nn_LEASES, sl_LEASES⟩)
    (vv_LEASES : Vals [V.str "always", V.str "call"] its_LEASES.toList)
    (g_MODES : PySem.W.nsIn K mainGlobals "MODES" = some (some (.ref k_MODES)))
    (lk_MODES : K.lookup k_MODES = some ⟨.type "tuple", dd_MODES, .seq its_MODES nn_MODES, sl_MODES⟩)
    (vv_MODES : Vals [V.str "held", V.str "copied", V.str "refused"] its_MODES.toList)
    (g_MOST_CHANGE : PySem.W.nsIn K mainGlobals "MOST_CHANGE" = some (some (.int (3) t_MOST_CHANGE)))
    (g_MOST_MARKS : PySem.W.nsIn K mainGlobals "MOST_MARKS" = some (some (.int (4) t_MOST_MARKS)))
    (g_SHARINGS : PySem.W.nsIn K mainGlobals "SHARINGS" = some (some (.ref k_SHARINGS)))
    (lk_SHARINGS : K.lookup k_SHARINGS = some ⟨.type "tuple", dd_SHARINGS, .seq its_SHARINGS nn_SHARINGS, sl_SHARINGS⟩)
    (vv_SHARINGS : Vals [V.str "one", V.str "each"] its_SHARINGS.toList)
    (g_START : PySem.W.nsIn K mainGlobals "START" = some (some (.ref k_START)))
    (lk_START : K.lookup k_START = some ⟨.type "tuple", dd_START, .seq its_START nn_START, sl_START⟩)
    (vv_START : Vals [V.int 0, V.bl false, V.str "shut"] its_START.toList)
    (g_STILL : PySem.W.nsIn K mainGlobals "STILL" = some (some (.ref k_STILL)))
    (lk_STILL : K.lookup k_STILL = some ⟨.type "tuple", dd_STILL, .seq its_STILL nn_STILL, sl_STILL⟩)
    (vv_STILL : Vals [V.ref k_STILL_0, V.ref k_STILL_1, V.ref k_STILL_2, V.ref k_STILL_3, V.ref k_STILL_4, V.ref k_STILL_5] its_STILL.toList)
    (lk_STILL_0 : K.lookup k_STILL_0 = some ⟨.type "tuple", dd_STILL_0, .seq its_STILL_0 nn_STILL_0, sl_STILL_0⟩)
    (vv_STILL_0 : Vals [V.int 0, V.int 0] its_STILL_0.toList)
    (lk_STILL_1 : K.lookup k_STILL_1 = some ⟨.type "tuple", dd_STILL_1, .seq its_STILL_1 nn_STILL_1, sl_STILL_1⟩)
    (vv_STILL_1 : Vals [V.int 0, V.int 0] its_STILL_1.toList)
    (lk_STILL_2 : K.lookup k_STILL_2 = some ⟨.type "tuple", dd_STILL_2, .seq its_STILL_2 nn_STILL_2, sl_STILL_2⟩)
    (vv_STILL_2 : Vals [V.int 0, V.int 0] its_STILL_2.toList)
    (lk_STILL_3 : K.lookup k_STILL_3 = some ⟨.type "tuple", dd_STILL_3, .seq its_STILL_3 nn_STILL_3, sl_STILL_3⟩)
    (vv_STILL_3 : Vals [V.int 0, V.int 0] its_STILL_3.toList)
    (lk_STILL_4 : K.lookup k_STILL_4 = some ⟨.type "tuple", dd_STILL_4, .seq its_STILL_4 nn_STILL_4, sl_STILL_4⟩)
    (vv_STILL_4 : Vals [V.int 0, V.int 0] its_STILL_4.toList)
    (lk_STILL_5 : K.lookup k_STILL_5 = some ⟨.type "tuple", dd_STILL_5, .seq its_STILL_5 nn_STILL_5, sl_STILL_5⟩)
    (vv_STILL_5 : Vals [V.int 0, V.int 0] its_STILL_5.toList)
    : ∃ ad : Ad, Txt K mg ad ∧ fa = ad.a_law ∧ ∀ (s : Shared) (v : Value), BindsTo s ad.d_law ⟨[v], []⟩ [("script", v)] := by
  have e := hfa.symm.trans (PySem.W.mg_of X G a_law)
  cases e
  have F_law_take := fun_mk (st := s_law_take) l_law_take c_law_take k_law_take
  have b_law_take := F_law_take.binds (ps := ["deck", "many"]) fun _ _ _ _ _ _ us hl => match us, hl with | [_, _], _ => rfl
  have F_law_deck := fun_mk (st := s_law_deck) l_law_deck c_law_deck k_law_deck
  have b_law_deck := F_law_deck.binds (ps := ["script", "cells", "each"]) fun _ _ _ _ _ _ us hl => match us, hl with | [_, _, _], _ => rfl
  have F_is_mark := fun_mk (st := s_is_mark) l_is_mark c_is_mark k_is_mark
  have b_is_mark := F_is_mark.binds (ps := ["mark", "marks"]) fun _ _ _ _ _ _ us hl => match us, hl with | [_, _], _ => rfl
  have F_is_rule := fun_mk (st := s_is_rule) l_is_rule c_is_rule k_is_rule
  have b_is_rule := F_is_rule.binds (ps := ["rule"]) fun _ _ _ _ _ _ us hl => match us, hl with | [_], _ => rfl
  have F_Row_init_ := fun_mk (st := s_Row_init_) l_Row_init_ c_Row_init_ k_Row_init_
  have b_Row_init_ := F_Row_init_.binds (ps := ["self", "mode", "sharing", "lease", "grip", "rule"]) fun _ _ _ _ _ _ us hl => match us, hl with | [_, _, _, _, _, _], _ => rfl
  have F_plain_row := fun_mk (st := s_plain_row) l_plain_row c_plain_row k_plain_row
  have b_plain_row := F_plain_row.binds (ps := ["mode"]) fun _ _ _ _ _ _ us hl => match us, hl with | [_], _ => rfl
  have F_law_wild_rule := fun_mk (st := s_law_wild_rule) l_law_wild_rule c_law_wild_rule k_law_wild_rule
  have b_law_wild_rule := F_law_wild_rule.binds (ps := ["deck"]) fun _ _ _ _ _ _ us hl => match us, hl with | [_], _ => rfl
  have F_law_living_rule := fun_mk (st := s_law_living_rule) l_law_living_rule c_law_living_rule k_law_living_rule
  have b_law_living_rule := F_law_living_rule.binds (ps := ["deck"]) fun _ _ _ _ _ _ us hl => match us, hl with | [_], _ => rfl
  have F_law_call_rule := fun_mk (st := s_law_call_rule) l_law_call_rule c_law_call_rule k_law_call_rule
  have b_law_call_rule := F_law_call_rule.binds (ps := ["deck"]) fun _ _ _ _ _ _ us hl => match us, hl with | [_], _ => rfl
  have F_law_spoil := fun_mk (st := s_law_spoil) l_law_spoil c_law_spoil k_law_spoil
  have b_law_spoil := F_law_spoil.binds (ps := ["deck", "rule"]) fun _ _ _ _ _ _ us hl => match us, hl with | [_, _], _ => rfl
  have F_law_spec := fun_mk (st := s_law_spec) l_law_spec c_law_spec k_law_spec
  have b_law_spec := F_law_spec.binds (ps := ["deck"]) fun _ _ _ _ _ _ us hl => match us, hl with | [_], _ => rfl
  have F_law_row := fun_mk (st := s_law_row) l_law_row c_law_row k_law_row
  have b_law_row := F_law_row.binds (ps := ["spec"]) fun _ _ _ _ _ _ us hl => match us, hl with | [_], _ => rfl
  have F_is_usable := fun_mk (st := s_is_usable) l_is_usable c_is_usable k_is_usable
  have b_is_usable := F_is_usable.binds (ps := ["row", "node"]) fun _ _ _ _ _ _ us hl => match us, hl with | [_, _], _ => rfl
  have F_can_happen := fun_mk (st := s_can_happen) l_can_happen c_can_happen k_can_happen
  have b_can_happen := F_can_happen.binds (ps := ["row", "node", "event", "first"]) fun _ _ _ _ _ _ us hl => match us, hl with | [_, _, _, _], _ => rfl
  have F_possible := fun_mk (st := s_possible) l_possible c_possible k_possible
  have b_possible := F_possible.binds (ps := ["row", "node", "first"]) fun _ _ _ _ _ _ us hl => match us, hl with | [_, _, _], _ => rfl
  have F_step := fun_mk (st := s_step) l_step c_step k_step
  have b_step := F_step.binds (ps := ["row", "node", "event"]) fun _ _ _ _ _ _ us hl => match us, hl with | [_, _, _], _ => rfl
  have F_law_usable := fun_mk (st := s_law_usable) l_law_usable c_law_usable k_law_usable
  have b_law_usable := F_law_usable.binds (ps := ["spec", "node"]) fun _ _ _ _ _ _ us hl => match us, hl with | [_, _], _ => rfl
  have F_law_events := fun_mk (st := s_law_events) l_law_events c_law_events k_law_events
  have b_law_events := F_law_events.binds (ps := ["spec", "node", "first"]) fun _ _ _ _ _ _ us hl => match us, hl with | [_, _, _], _ => rfl
  have F_law_next := fun_mk (st := s_law_next) l_law_next c_law_next k_law_next
  have b_law_next := F_law_next.binds (ps := ["spec", "node", "event"]) fun _ _ _ _ _ _ us hl => match us, hl with | [_, _, _], _ => rfl
  have F_law_whole := fun_mk (st := s_law_whole) l_law_whole c_law_whole k_law_whole
  have b_law_whole := F_law_whole.binds (ps := ["value"]) fun _ _ _ _ _ _ us hl => match us, hl with | [_], _ => rfl
  have F_law_same_node := fun_mk (st := s_law_same_node) l_law_same_node c_law_same_node k_law_same_node
  have b_law_same_node := F_law_same_node.binds (ps := ["actual", "node"]) fun _ _ _ _ _ _ us hl => match us, hl with | [_, _], _ => rfl
  have F_law_path := fun_mk (st := s_law_path) l_law_path c_law_path k_law_path
  have b_law_path := F_law_path.binds (ps := ["spec", "life"]) fun _ _ _ _ _ _ us hl => match us, hl with | [_, _], _ => rfl
  have F_chart := fun_mk (st := s_chart) l_chart c_chart k_chart
  have b_chart := F_chart.binds (ps := ["row"]) fun _ _ _ _ _ _ us hl => match us, hl with | [_], _ => rfl
  have F_law_rank := fun_mk (st := s_law_rank) l_law_rank c_law_rank k_law_rank
  have b_law_rank := F_law_rank.binds (ps := ["life"]) fun _ _ _ _ _ _ us hl => match us, hl with | [_], _ => rfl
  have F_law_pairs := fun_mk (st := s_law_pairs) l_law_pairs c_law_pairs k_law_pairs
  have b_law_pairs := F_law_pairs.binds (ps := ["spec", "answer"]) fun _ _ _ _ _ _ us hl => match us, hl with | [_, _], _ => rfl
  have F_law_closed := fun_mk (st := s_law_closed) l_law_closed c_law_closed k_law_closed
  have b_law_closed := F_law_closed.binds (ps := ["spec", "answer"]) fun _ _ _ _ _ _ us hl => match us, hl with | [_, _], _ => rfl
  have F_law_charted := fun_mk (st := s_law_charted) l_law_charted c_law_charted k_law_charted
  have b_law_charted := F_law_charted.binds (ps := ["row", "spec"]) fun _ _ _ _ _ _ us hl => match us, hl with | [_, _], _ => rfl
  have F_law := fun_mk (st := s_law) l_law c_law k_law
  have b_law := F_law.binds (ps := ["script"]) fun _ _ _ _ _ _ us hl => match us, hl with | [_], _ => rfl
  refine ⟨⟨f_law_take, (PySem.W.fnOf "_law_take" "_law_take" (defArgs s_law_take) (defBody s_law_take) (defScope s_law_take) .none kV_law_take dc_law_take pm_law_take an_law_take cd_law_take ct_law_take), f_law_deck, (PySem.W.fnOf "_law_deck" "_law_deck" (defArgs s_law_deck) (defBody s_law_deck) (defScope s_law_deck) .none kV_law_deck dc_law_deck pm_law_deck an_law_deck cd_law_deck ct_law_deck), f_is_mark, (PySem.W.fnOf "is_mark" "is_mark" (defArgs s_is_mark) (defBody s_is_mark) (defScope s_is_mark) .none kV_is_mark dc_is_mark pm_is_mark an_is_mark cd_is_mark ct_is_mark), f_is_rule, (PySem.W.fnOf "is_rule" "is_rule" (defArgs s_is_rule) (defBody s_is_rule) (defScope s_is_rule) .none kV_is_rule dc_is_rule pm_is_rule an_is_rule cd_is_rule ct_is_rule), f_Row_init_, (PySem.W.fnOf "__init__" "Row.__init__" (defArgs s_Row_init_) (defBody s_Row_init_) (defScope s_Row_init_) .none kV_Row_init_ dc_Row_init_ pm_Row_init_ an_Row_init_ cd_Row_init_ ct_Row_init_), f_plain_row, (PySem.W.fnOf "plain_row" "plain_row" (defArgs s_plain_row) (defBody s_plain_row) (defScope s_plain_row) .none kV_plain_row dc_plain_row pm_plain_row an_plain_row cd_plain_row ct_plain_row), f_law_wild_rule, (PySem.W.fnOf "_law_wild_rule" "_law_wild_rule" (defArgs s_law_wild_rule) (defBody s_law_wild_rule) (defScope s_law_wild_rule) .none kV_law_wild_rule dc_law_wild_rule pm_law_wild_rule an_law_wild_rule cd_law_wild_rule ct_law_wild_rule), f_law_living_rule, (PySem.W.fnOf "_law_living_rule" "_law_living_rule" (defArgs s_law_living_rule) (defBody s_law_living_rule) (defScope s_law_living_rule) .none kV_law_living_rule dc_law_living_rule pm_law_living_rule an_law_living_rule cd_law_living_rule ct_law_living_rule), f_law_call_rule, (PySem.W.fnOf "_law_call_rule" "_law_call_rule" (defArgs s_law_call_rule) (defBody s_law_call_rule) (defScope s_law_call_rule) .none kV_law_call_rule dc_law_call_rule pm_law_call_rule an_law_call_rule cd_law_call_rule ct_law_call_rule), f_law_spoil, (PySem.W.fnOf "_law_spoil" "_law_spoil" (defArgs s_law_spoil) (defBody s_law_spoil) (defScope s_law_spoil) .none kV_law_spoil dc_law_spoil pm_law_spoil an_law_spoil cd_law_spoil ct_law_spoil), f_law_spec, (PySem.W.fnOf "_law_spec" "_law_spec" (defArgs s_law_spec) (defBody s_law_spec) (defScope s_law_spec) .none kV_law_spec dc_law_spec pm_law_spec an_law_spec cd_law_spec ct_law_spec), f_law_row, (PySem.W.fnOf "_law_row" "_law_row" (defArgs s_law_row) (defBody s_law_row) (defScope s_law_row) .none kV_law_row dc_law_row pm_law_row an_law_row cd_law_row ct_law_row), f_is_usable, (PySem.W.fnOf "is_usable" "is_usable" (defArgs s_is_usable) (defBody s_is_usable) (defScope s_is_usable) .none kV_is_usable dc_is_usable pm_is_usable an_is_usable cd_is_usable ct_is_usable), f_can_happen, (PySem.W.fnOf "can_happen" "can_happen" (defArgs s_can_happen) (defBody s_can_happen) (defScope s_can_happen) .none kV_can_happen dc_can_happen pm_can_happen an_can_happen cd_can_happen ct_can_happen), f_possible, (PySem.W.fnOf "possible" "possible" (defArgs s_possible) (defBody s_possible) (defScope s_possible) .none kV_possible dc_possible pm_possible an_possible cd_possible ct_possible), f_step, (PySem.W.fnOf "step" "step" (defArgs s_step) (defBody s_step) (defScope s_step) .none kV_step dc_step pm_step an_step cd_step ct_step), f_law_usable, (PySem.W.fnOf "_law_usable" "_law_usable" (defArgs s_law_usable) (defBody s_law_usable) (defScope s_law_usable) .none kV_law_usable dc_law_usable pm_law_usable an_law_usable cd_law_usable ct_law_usable), f_law_events, (PySem.W.fnOf "_law_events" "_law_events" (defArgs s_law_events) (defBody s_law_events) (defScope s_law_events) .none kV_law_events dc_law_events pm_law_events an_law_events cd_law_events ct_law_events), f_law_next, (PySem.W.fnOf "_law_next" "_law_next" (defArgs s_law_next) (defBody s_law_next) (defScope s_law_next) .none kV_law_next dc_law_next pm_law_next an_law_next cd_law_next ct_law_next), f_law_whole, (PySem.W.fnOf "_law_whole" "_law_whole" (defArgs s_law_whole) (defBody s_law_whole) (defScope s_law_whole) .none kV_law_whole dc_law_whole pm_law_whole an_law_whole cd_law_whole ct_law_whole), f_law_same_node, (PySem.W.fnOf "_law_same_node" "_law_same_node" (defArgs s_law_same_node) (defBody s_law_same_node) (defScope s_law_same_node) .none kV_law_same_node dc_law_same_node pm_law_same_node an_law_same_node cd_law_same_node ct_law_same_node), f_law_path, (PySem.W.fnOf "_law_path" "_law_path" (defArgs s_law_path) (defBody s_law_path) (defScope s_law_path) .none kV_law_path dc_law_path pm_law_path an_law_path cd_law_path ct_law_path), f_chart, (PySem.W.fnOf "chart" "chart" (defArgs s_chart) (defBody s_chart) (defScope s_chart) .none kV_chart dc_chart pm_chart an_chart cd_chart ct_chart), f_law_rank, (PySem.W.fnOf "_law_rank" "_law_rank" (defArgs s_law_rank) (defBody s_law_rank) (defScope s_law_rank) .none kV_law_rank dc_law_rank pm_law_rank an_law_rank cd_law_rank ct_law_rank), f_law_pairs, (PySem.W.fnOf "_law_pairs" "_law_pairs" (defArgs s_law_pairs) (defBody s_law_pairs) (defScope s_law_pairs) .none kV_law_pairs dc_law_pairs pm_law_pairs an_law_pairs cd_law_pairs ct_law_pairs), f_law_closed, (PySem.W.fnOf "_law_closed" "_law_closed" (defArgs s_law_closed) (defBody s_law_closed) (defScope s_law_closed) .none kV_law_closed dc_law_closed pm_law_closed an_law_closed cd_law_closed ct_law_closed), f_law_charted, (PySem.W.fnOf "_law_charted" "_law_charted" (defArgs s_law_charted) (defBody s_law_charted) (defScope s_law_charted) .none kV_law_charted dc_law_charted pm_law_charted an_law_charted cd_law_charted ct_law_charted), fa, (PySem.W.fnOf "law" "law" (defArgs s_law) (defBody s_law) (defScope s_law) .none kV_law dc_law pm_law an_law cd_law ct_law), c_Row, k_GRIPS, k_LEASES, k_MODES, k_SHARINGS, k_START, k_STILL⟩, ?_, rfl, fun s v => .of_eq rfl⟩
  exact {
    F_law_take := F_law_take
    b_law_take := b_law_take
    m_law_take := PySem.W.mg_of X G a_law_take
    F_law_deck := F_law_deck
    b_law_deck := b_law_deck
    m_law_deck := PySem.W.mg_of X G a_law_deck
    F_is_mark := F_is_mark
    b_is_mark := b_is_mark
    m_is_mark := PySem.W.mg_of X G a_is_mark
    F_is_rule := F_is_rule
    b_is_rule := b_is_rule
    m_is_rule := PySem.W.mg_of X G a_is_rule
    F_Row_init_ := F_Row_init_
    b_Row_init_ := b_Row_init_
    F_plain_row := F_plain_row
    b_plain_row := b_plain_row
    m_plain_row := PySem.W.mg_of X G a_plain_row
    F_law_wild_rule := F_law_wild_rule
    b_law_wild_rule := b_law_wild_rule
    m_law_wild_rule := PySem.W.mg_of X G a_law_wild_rule
    F_law_living_rule := F_law_living_rule
    b_law_living_rule := b_law_living_rule
    m_law_living_rule := PySem.W.mg_of X G a_law_living_rule
    F_law_call_rule := F_law_call_rule
    b_law_call_rule := b_law_call_rule
    m_law_call_rule := PySem.W.mg_of X G a_law_call_rule
    F_law_spoil := F_law_spoil
    b_law_spoil := b_law_spoil
    m_law_spoil := PySem.W.mg_of X G a_law_spoil
    F_law_spec := F_law_spec
    b_law_spec := b_law_spec
    m_law_spec := PySem.W.mg_of X G a_law_spec
    F_law_row := F_law_row
    b_law_row := b_law_row
    m_law_row := PySem.W.mg_of X G a_law_row
    F_is_usable := F_is_usable
    b_is_usable := b_is_usable
    m_is_usable := PySem.W.mg_of X G a_is_usable
    F_can_happen := F_can_happen
    b_can_happen := b_can_happen
    m_can_happen := PySem.W.mg_of X G a_can_happen
    F_possible := F_possible
    b_possible := b_possible
    m_possible := PySem.W.mg_of X G a_possible
    F_step := F_step
    b_step := b_step
    m_step := PySem.W.mg_of X G a_step
    F_law_usable := F_law_usable
    b_law_usable := b_law_usable
    m_law_usable := PySem.W.mg_of X G a_law_usable
    F_law_events := F_law_events
    b_law_events := b_law_events
    m_law_events := PySem.W.mg_of X G a_law_events
    F_law_next := F_law_next
    b_law_next := b_law_next
    m_law_next := PySem.W.mg_of X G a_law_next
    F_law_whole := F_law_whole
    b_law_whole := b_law_whole
    m_law_whole := PySem.W.mg_of X G a_law_whole
    F_law_same_node := F_law_same_node
    b_law_same_node := b_law_same_node
    m_law_same_node := PySem.W.mg_of X G a_law_same_node
    F_law_path := F_law_path
    b_law_path := b_law_path
    m_law_path := PySem.W.mg_of X G a_law_path
    F_chart := F_chart
    b_chart := b_chart
    m_chart := PySem.W.mg_of X G a_chart
    F_law_rank := F_law_rank
    b_law_rank := b_law_rank
    m_law_rank := PySem.W.mg_of X G a_law_rank
    F_law_pairs := F_law_pairs
    b_law_pairs := b_law_pairs
    m_law_pairs := PySem.W.mg_of X G a_law_pairs
    F_law_closed := F_law_closed
    b_law_closed := b_law_closed
    m_law_closed := PySem.W.mg_of X G a_law_closed
    F_law_charted := F_law_charted
    b_law_charted := b_law_charted
    m_law_charted := PySem.W.mg_of X G a_law_charted
    F_law := F_law
    b_law := b_law
    m_law := PySem.W.mg_of X G a_law
    cl_Row := ⟨pg_Row, hd_Row, po_Row, sa_Row⟩
    mg_Row := PySem.W.mg_of X G A_Row
    mk_Row := ⟨mk_Row, a_Row_init_, i_Row_init_, kc_Row⟩
    n_Row_grip := n_Row_grip
    n_Row_lease := n_Row_lease
    n_Row_mode := n_Row_mode
    n_Row_rule := n_Row_rule
    n_Row_sharing := n_Row_sharing
    mc_EVENTS := ⟨_, PySem.W.mg_of X G g_EVENTS, ⟨_, rfl⟩⟩
    mc_GRIPS := PySem.W.mg_of X G g_GRIPS
    tv_GRIPS := fun H => Rd.sqtK lk_GRIPS vv_GRIPS (Nat.le_of_ble_eq_true rfl)
    mc_LEASES := PySem.W.mg_of X G g_LEASES
    tv_LEASES := fun H => Rd.sqtK lk_LEASES vv_LEASES (Nat.le_of_ble_eq_true rfl)
    mc_MODES := PySem.W.mg_of X G g_MODES
    tv_MODES := fun H => Rd.sqtK lk_MODES vv_MODES (Nat.le_of_ble_eq_true rfl)
    mc_MOST_CHANGE := ⟨_, PySem.W.mg_of X G g_MOST_CHANGE, ⟨_, rfl⟩⟩
    mc_MOST_MARKS := ⟨_, PySem.W.mg_of X G g_MOST_MARKS, ⟨_, rfl⟩⟩
    mc_SHARINGS := PySem.W.mg_of X G g_SHARINGS
    tv_SHARINGS := fun H => Rd.sqtK lk_SHARINGS vv_SHARINGS (Nat.le_of_ble_eq_true rfl)
    mc_START := PySem.W.mg_of X G g_START
    tv_START := fun H => Rd.sqtK lk_START vv_START (Nat.le_of_ble_eq_true rfl)
    mc_STILL := PySem.W.mg_of X G g_STILL
    tv_STILL := fun H => (.tup (Rd.sqtK lk_STILL vv_STILL (Nat.le_of_ble_eq_true rfl)) (.cons (.tup (Rd.sqtK lk_STILL_0 vv_STILL_0 (Nat.le_of_ble_eq_true rfl)) (.cons (.int _) (.cons (.int _) .nil))) (.cons (.tup (Rd.sqtK lk_STILL_1 vv_STILL_1 (Nat.le_of_ble_eq_true rfl)) (.cons (.int _) (.cons (.int _) .nil))) (.cons (.tup (Rd.sqtK lk_STILL_2 vv_STILL_2 (Nat.le_of_ble_eq_true rfl)) (.cons (.int _) (.cons (.int _) .nil))) (.cons (.tup (Rd.sqtK lk_STILL_3 vv_STILL_3 (Nat.le_of_ble_eq_true rfl)) (.cons (.int _) (.cons (.int _) .nil))) (.cons (.tup (Rd.sqtK lk_STILL_4 vv_STILL_4 (Nat.le_of_ble_eq_true rfl)) (.cons (.int _) (.cons (.int _) .nil))) (.cons (.tup (Rd.sqtK lk_STILL_5 vv_STILL_5 (Nat.le_of_ble_eq_true rfl)) (.cons (.int _) (.cons (.int _) .nil))) .nil)))))))
    z_abs := PySem.W.mg_none_of X G z_abs
    z_bool := PySem.W.mg_none_of X G z_bool
    z_int := PySem.W.mg_none_of X G z_int
    z_isinstance := PySem.W.mg_none_of X G z_isinstance
    z_len := PySem.W.mg_none_of X G z_len
    z_list := PySem.W.mg_none_of X G z_list
    z_max := PySem.W.mg_none_of X G z_max
    z_min := PySem.W.mg_none_of X G z_min
    z_range := PySem.W.mg_none_of X G z_range
    z_str := PySem.W.mg_none_of X G z_str
    z_tuple := PySem.W.mg_none_of X G z_tuple
  }
theorem walk {l : PySem.W.OpenLaw} {q : Program} {loose : List Str} {XP : (Str → Option Value) → Heap → Prop} {YP : World → Heap → Prop} {d : DefRec} {K : Params → PySem.W.Frag} (hn : l.most = some 63) (hdf : d.params.defaults = [])
    (hY : ∀ (w : World) (h : Heap), YP w h → (K w.params).In h)
    (F : ∀ (w : World) (mg : Str → Option Value) (fa : Addr) (h : Heap), (K w.params).In h → h.Ns mainGlobals mg → mg d.name = some (.ref fa) →
      ∃ ad : Ad, Txt (K w.params) mg ad ∧ fa = ad.a_law ∧ ∀ (s : Shared) (v : Value), BindsTo s ad.d_law ⟨[v], []⟩ [("script", v)]) :
    PySem.W.WalkO q loose XP YP l.row.toRowW d [] (fun f vs => PySem.call f vs) := by
  refine L2.walk_of (n := 63) (k := 6) (x := "script") (CX := fun _ => CX0) (sp := fun w => spLaw (K w.params)) hn (by decide) hdf ⟨rfl, by decide, by decide⟩ hY (fun w mg fa h KX G hmg => ?_) (fun _ _ a ns hl _ hS => ⟨a, ns, rfl, hS, hl, fun _ => rfl⟩) fun _ _ _ _ _ z => z
  obtain ⟨ad, T, rfl, hb⟩ := F w mg fa h KX G hmg
  exact ⟨ad.d_law, hb, fun base _ _ => ok_law T⟩
end Toy
open PySem PySem.W PyProof.Rows
set_option maxRecDepth 100000 in
set_option maxHeartbeats 0 in
theorem PySem.Challenge.cw_surebridge_k20_charts_holds : PySem.Challenge.rw_surebridge_k20_charts.Holds := by
  w_on; o_law; k_head; (case hw => w_witness2)
  k_fill
  refine Toy.walk (l := PySem.Challenge.rw_surebridge_k20_charts) rfl rfl (fun w h Y => PySem.W.kIn_of Y) ?F
  case F =>
    intro w mg fa h KX G hmg
    refine' Toy.all_mk KX G hmg ?A_Row ?a_law_take ?l_law_take ?c_law_take ?k_law_take ?a_law_deck ?l_law_deck ?c_law_deck ?k_law_deck ?a_is_mark ?l_is_mark ?c_is_mark ?k_is_mark ?a_is_rule ?l_is_rule ?c_is_rule ?k_is_rule ?a_Row_init_ ?i_Row_init_ ?l_Row_init_ ?c_Row_init_ ?k_Row_init_ ?a_plain_row ?l_plain_row ?c_plain_row ?k_plain_row ?a_law_wild_rule ?l_law_wild_rule ?c_law_wild_rule ?k_law_wild_rule ?a_law_living_rule ?l_law_living_rule ?c_law_living_rule ?k_law_living_rule ?a_law_call_rule ?l_law_call_rule ?c_law_call_rule ?k_law_call_rule ?a_law_spoil ?l_law_spoil ?c_law_spoil ?k_law_spoil ?a_law_spec ?l_law_spec ?c_law_spec ?k_law_spec ?a_law_row ?l_law_row ?c_law_row ?k_law_row ?a_is_usable ?l_is_usable ?c_is_usable ?k_is_usable ?a_can_happen ?l_can_happen ?c_can_happen ?k_can_happen ?a_possible ?l_possible ?c_possible ?k_possible ?a_step ?l_step ?c_step ?k_step ?a_law_usable ?l_law_usable ?c_law_usable ?k_law_usable ?a_law_events ?l_law_events ?c_law_events ?k_law_events ?a_law_next ?l_law_next ?c_law_next ?k_law_next ?a_law_whole ?l_law_whole ?c_law_whole ?k_law_whole ?a_law_same_node ?l_law_same_node ?c_law_same_node ?k_law_same_node ?a_law_path ?l_law_path ?c_law_path ?k_law_path ?a_chart ?l_chart ?c_chart ?k_chart ?a_law_rank ?l_law_rank ?c_law_rank ?k_law_rank ?a_law_pairs ?l_law_pairs ?c_law_pairs ?k_law_pairs ?a_law_closed ?l_law_closed ?c_law_closed ?k_law_closed ?a_law_charted ?l_law_charted ?c_law_charted ?k_law_charted ?a_law ?l_law ?c_law ?k_law ?pg_Row ?hd_Row ?po_Row ?sa_Row ?mk_Row ?kc_Row ?n_Row_grip ?n_Row_lease ?n_Row_mode ?n_Row_rule ?n_Row_sharing ?z_abs ?z_bool ?z_int ?z_isinstance ?z_len ?z_list ?z_max ?z_min ?z_range ?z_str ?z_tuple ?g_EVENTS ?g_GRIPS ?lk_GRIPS ?vv_GRIPS ?g_LEASES ?lk_LEASES ?vv_LEASES ?g_MODES ?lk_MODES ?vv_MODES ?g_MOST_CHANGE ?g_MOST_MARKS ?g_SHARINGS ?lk_SHARINGS ?vv_SHARINGS ?g_START ?lk_START ?vv_START ?g_STILL ?lk_STILL ?vv_STILL ?lk_STILL_0 ?vv_STILL_0 ?lk_STILL_1 ?vv_STILL_1 ?lk_STILL_2 ?vv_STILL_2 ?lk_STILL_3 ?vv_STILL_3 ?lk_STILL_4 ?vv_STILL_4 ?lk_STILL_5 ?vv_STILL_5
    (case A_Row => k_is)
    (case a_law_take => k_is)
    (case l_law_take => k_is)
    (case c_law_take => k_is)
    (case k_law_take => k_is)
    (case a_law_deck => k_is)
    (case l_law_deck => k_is)
    (case c_law_deck => k_is)
    (case k_law_deck => k_is)
    (case a_is_mark => k_is)
    (case l_is_mark => k_is)
    (case c_is_mark => k_is)
    (case k_is_mark => k_is)
    (case a_is_rule => k_is)
    (case l_is_rule => k_is)
    (case c_is_rule => k_is)
    (case k_is_rule => k_is)
    (case a_Row_init_ => k_is)
    (case i_Row_init_ => k_is)
    (case l_Row_init_ => k_is)
    (case c_Row_init_ => k_is)
    (case k_Row_init_ => k_is)
    (case a_plain_row => k_is)
    (case l_plain_row => k_is)
    (case c_plain_row => k_is)
    (case k_plain_row => k_is)
    (case a_law_wild_rule => k_is)
    (case l_law_wild_rule => k_is)
    (case c_law_wild_rule => k_is)
    (case k_law_wild_rule => k_is)
    (case a_law_living_rule => k_is)
    (case l_law_living_rule => k_is)
    (case c_law_living_rule => k_is)
    (case k_law_living_rule => k_is)
    (case a_law_call_rule => k_is)
    (case l_law_call_rule => k_is)
    (case c_law_call_rule => k_is)
    (case k_law_call_rule => k_is)
    (case a_law_spoil => k_is)
    (case l_law_spoil => k_is)
    (case c_law_spoil => k_is)
    (case k_law_spoil => k_is)
    (case a_law_spec => k_is)
    (case l_law_spec => k_is)
    (case c_law_spec => k_is)
    (case k_law_spec => k_is)
    (case a_law_row => k_is)
    (case l_law_row => k_is)
    (case c_law_row => k_is)
    (case k_law_row => k_is)
    (case a_is_usable => k_is)
    (case l_is_usable => k_is)
    (case c_is_usable => k_is)
    (case k_is_usable => k_is)
    (case a_can_happen => k_is)
    (case l_can_happen => k_is)
    (case c_can_happen => k_is)
    (case k_can_happen => k_is)
    (case a_possible => k_is)
    (case l_possible => k_is)
    (case c_possible => k_is)
    (case k_possible => k_is)
    (case a_step => k_is)
    (case l_step => k_is)
    (case c_step => k_is)
    (case k_step => k_is)
    (case a_law_usable => k_is)
    (case l_law_usable => k_is)
    (case c_law_usable => k_is)
    (case k_law_usable => k_is)
    (case a_law_events => k_is)
    (case l_law_events => k_is)
    (case c_law_events => k_is)
    (case k_law_events => k_is)
    (case a_law_next => k_is)
    (case l_law_next => k_is)
    (case c_law_next => k_is)
    (case k_law_next => k_is)
    (case a_law_whole => k_is)
    (case l_law_whole => k_is)
    (case c_law_whole => k_is)
    (case k_law_whole => k_is)
    (case a_law_same_node => k_is)
    (case l_law_same_node => k_is)
    (case c_law_same_node => k_is)
    (case k_law_same_node => k_is)
    (case a_law_path => k_is)
    (case l_law_path => k_is)
    (case c_law_path => k_is)
    (case k_law_path => k_is)
    (case a_chart => k_is)
    (case l_chart => k_is)
    (case c_chart => k_is)
    (case k_chart => k_is)
    (case a_law_rank => k_is)
    (case l_law_rank => k_is)
    (case c_law_rank => k_is)
    (case k_law_rank => k_is)
    (case a_law_pairs => k_is)
    (case l_law_pairs => k_is)
    (case c_law_pairs => k_is)
    (case k_law_pairs => k_is)
    (case a_law_closed => k_is)
    (case l_law_closed => k_is)
    (case c_law_closed => k_is)
    (case k_law_closed => k_is)
    (case a_law_charted => k_is)
    (case l_law_charted => k_is)
    (case c_law_charted => k_is)
    (case k_law_charted => k_is)
    (case a_law => k_is)
    (case l_law => k_is)
    (case c_law => k_is)
    (case k_law => k_is)
    (case pg_Row => k_is)
    (case hd_Row => k_is)
    (case po_Row => k_is)
    (case sa_Row => k_is)
    (case mk_Row => k_is)
    (case kc_Row => k_is)
    (case n_Row_grip => k_is)
    (case n_Row_lease => k_is)
    (case n_Row_mode => k_is)
    (case n_Row_rule => k_is)
    (case n_Row_sharing => k_is)
    (case z_abs => k_is)
    (case z_bool => k_is)
    (case z_int => k_is)
    (case z_isinstance => k_is)
    (case z_len => k_is)
    (case z_list => k_is)
    (case z_max => k_is)
    (case z_min => k_is)
    (case z_range => k_is)
    (case z_str => k_is)
    (case z_tuple => k_is)
    (case g_EVENTS => k_is)
    (case g_GRIPS => k_is)
    (case lk_GRIPS => k_is)
    (case vv_GRIPS => repeat (first | exact .nil | refine .cons ⟨_, rfl⟩ ?_ | refine .cons rfl ?_))
    (case g_LEASES => k_is)
    (case lk_LEASES => k_is)
    (case vv_LEASES => repeat (first | exact .nil | refine .cons ⟨_, rfl⟩ ?_ | refine .cons rfl ?_))
    (case g_MODES => k_is)
    (case lk_MODES => k_is)
    (case vv_MODES => repeat (first | exact .nil | refine .cons ⟨_, rfl⟩ ?_ | refine .cons rfl ?_))
    (case g_MOST_CHANGE => k_is)
    (case g_MOST_MARKS => k_is)
    (case g_SHARINGS => k_is)
    (case lk_SHARINGS => k_is)
    (case vv_SHARINGS => repeat (first | exact .nil | refine .cons ⟨_, rfl⟩ ?_ | refine .cons rfl ?_))
    (case g_START => k_is)
    (case lk_START => k_is)
    (case vv_START => repeat (first | exact .nil | refine .cons ⟨_, rfl⟩ ?_ | refine .cons rfl ?_))
    (case g_STILL => k_is)
    (case lk_STILL => k_is)
    (case vv_STILL => repeat (first | exact .nil | refine .cons ⟨_, rfl⟩ ?_ | refine .cons rfl ?_))
    (case lk_STILL_0 => k_is)
    (case vv_STILL_0 => repeat (first | exact .nil | refine .cons ⟨_, rfl⟩ ?_ | refine .cons rfl ?_))
    (case lk_STILL_1 => k_is)
    (case vv_STILL_1 => repeat (first | exact .nil | refine .cons ⟨_, rfl⟩ ?_ | refine .cons rfl ?_))
    (case lk_STILL_2 => k_is)
    (case vv_STILL_2 => repeat (first | exact .nil | refine .cons ⟨_, rfl⟩ ?_ | refine .cons rfl ?_))
    (case lk_STILL_3 => k_is)
    (case vv_STILL_3 => repeat (first | exact .nil | refine .cons ⟨_, rfl⟩ ?_ | refine .cons rfl ?_))
    (case lk_STILL_4 => k_is)
    (case vv_STILL_4 => repeat (first | exact .nil | refine .cons ⟨_, rfl⟩ ?_ | refine .cons rfl ?_))
    (case lk_STILL_5 => k_is)
    (case vv_STILL_5 => repeat (first | exact .nil | refine .cons ⟨_, rfl⟩ ?_ | refine .cons rfl ?_))
#print axioms PySem.Challenge.cw_surebridge_k20_charts_holds

